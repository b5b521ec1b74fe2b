/- Contracts: package names: what is deferred. -/
import Derived.Test.YtogfjinopifenaaDoorZNX
import Derived.Test.YtogfjinopifenaaDoorZDB
set_option linter.unusedSectionVars false
set_option linter.unusedSimpArgs false
set_option linter.unusedVariables false
namespace Go.Proofs.YtogfjinopifenaaDoor
open Go.Fw Go.Fw.Nam Go.Fw.Ref15
set_option maxRecDepth 10000
variable [af]
theorem ji (c0 c1 c2 c3 c4 c5 c6 c7 e0 : AV) (e : Int) : qY Tryd.prog 23 [.ptr 1000000 0, .ptr 1000001 0] (some (.iface 30 (.i e))) [(1000000, .cells [c0, c1, c2, c3, c4, c5, c6, c7]), (1000001, .cells [e0])]
  [(1000000, .cells [.data (.str []), .data (.i 0), .data (.i 0), .nilsl 3, .nilsl 3, .nilsl 4, .nilsl 2, .nilsl 8]), (1000001, .cells [.data (.i e)])] := by
 refine gJ tok hmix Tryd.func23 rfl (by kernel_rfl) (by kernel_rfl) (by kernel_rfl) ?_
 repeat' ((try (conv => whnf)) <;> first
  | with_reducible exact trivial
  | (refine ⟨([] : List (Nat × Nat)), ?_⟩)
  | (refine ⟨by kernel_rfl, ?_⟩)
  | (refine ⟨rfl, ?_⟩)
  | (refine ⟨?_, ?_⟩))
theorem sG (c0 c1 c2 c3 c4 c5 c6 c7 e0 : AV) (e : Int) (n : Nat) : qY Tryd.prog 23 [.ptr 1000000 0, .ptr 1000001 0] (some (.iface 30 (.i e))) [(1000000, .cells [c0, c1, c2, c3, c4, c5, c6, c7]), (1000001, .cells [e0]), (1000002, .tok 8 n)]
  [(1000000, .cells [.data (.str []), .data (.i 0), .data (.i 0), .nilsl 3, .nilsl 3, .nilsl 4, .nilsl 2, .nilsl 8]), (1000001, .cells [.data (.i e)]), (1000002, .tok 8 n)] := by
 refine gJ tok hmix Tryd.func23 rfl (by kernel_rfl) (by kernel_rfl) (by kernel_rfl) ?_
 repeat' ((try (conv => whnf)) <;> first
  | with_reducible exact trivial
  | (refine ⟨([] : List (Nat × Nat)), ?_⟩)
  | (refine ⟨by kernel_rfl, ?_⟩)
  | (refine ⟨rfl, ?_⟩)
  | (refine ⟨?_, ?_⟩))
theorem Iq (d0 d1 d2 d3 d4 d5 d6 d7 d8 : D) : qY Tryd.prog 23 [.ptr 1000000 0, .ptr 1000001 0] none [(1000000, .cells [.data d0, .data d1, .data d2, .data d3, .data d4, .data d5, .data d6, .data d7]), (1000001, .cells [.data d8])]
  [(1000000, .cells [.data d0, .data d1, .data d2, .data d3, .data d4, .data d5, .data d6, .data d7]), (1000001, .cells [.data d8])] := by
 refine gJ tok hmix Tryd.func23 rfl (by kernel_rfl) (by kernel_rfl) (by kernel_rfl) ?_
 repeat' ((try (conv => whnf)) <;> first
  | with_reducible exact trivial
  | (refine ⟨([] : List (Nat × Nat)), ?_⟩)
  | (refine ⟨by kernel_rfl, ?_⟩)
  | (refine ⟨rfl, ?_⟩)
  | (refine ⟨?_, ?_⟩))
end Go.Proofs.YtogfjinopifenaaDoor
