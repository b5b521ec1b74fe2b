/- Contracts: the laws of tails: TailsDeclared, TailsBound. -/
import Derived.Test.YtogfjinopifenaaDoorZYC
set_option linter.unusedSectionVars false
set_option linter.unusedSimpArgs false
set_option linter.unusedVariables false
set_option maxHeartbeats 4000000
namespace Go.Proofs.YtogfjinopifenaaDoor
open Go.Fw Go.Fw.Ref15 Go.Fw.Rg Go.Fw.Tl
set_option maxRecDepth 10000
variable [GlobInt]
theorem Fa {e : Int} (he : (e != 0) = true) (h : (bif e != 0 then true else e != 0) = false) : False := by
 rw [he] at h; exact Bool.noConfusion h
theorem Ed {p : Pr} {k m : Int} {Q : Prop} (hI : qB p = jC [] k ∧ Q) (hm : -1 ≤ m ∧ m ≤ qB p) : -1 ≤ m ∧ m ≤ k := by
 have : qB p = k := hI.1
 omega
theorem yK (p : Pr) (a b : Nat) (e : Int) (g : bz p) (he : (e != 0) = true) (h1 : PCall Tryd.prog 10 [p.d] (.ret (.tuple [.i 0, .i e]))) (h2 : PCall Tryd.prog 11 [p.d] (.ret (.tuple [.i 0, .i e]))) : PCall Tryd.prog 4 [p.d, .val (.int .u16 (a : Int)), .val (.int .u16 (b : Int))] (.ret (.b true)) := by
 refine pcall_of_wc tok hmix ⟨[], []⟩ Tryd.func4 rfl (by kernel_rfl) (by kernel_rfl) (by kernel_rfl) fun hf => ?_
 clear hf
 repeat' ((try (conv => whnf)) <;> first
  | (exact Bool.noConfusion (show false = true from h))
  | (exact (Fa he h).elim)
  | with_reducible refine BrI.intro (fun h => ?_) (fun h => ?_)
  | ((with_reducible refine ah ?_ ?_ ?_); rotate_left; (first | exact dA | exact dX _ (by assumption) | exact h1 | exact h2))
  | ((with_reducible refine ag ?_); refine ⟨[], rfl, ?_, trivial⟩; conv => whnf)
  | fail)
 all_goals first
  | ((exact congrArg D.b (G5 e)))
  | skip
theorem BH (p : Pr) (a b : Nat) (c n m : Int) (g : bz p) (hn : 0 ≤ n ∧ n ≤ 4096) (hm : -1 ≤ m ∧ m ≤ qB p) (hs : p.states.length ≤ 16) (hz : ∀ l ∈ p.lines, 1 ≤ l.size ∧ l.size ≤ 65536) (hl : p.lines.length ≤ 16) (h1 : PCall Tryd.prog 10 [p.d] (.ret (.tuple [.i n, .i 0]))) (h2 : PCall Tryd.prog 11 [p.d] (.ret (.tuple [.i m, .i 0]))) (h3 : PCall Tryd.prog 12 [p.d] (.ret (.i c))) (h4 : (c != 0) = false → decide (p.tail ≥ 0) = true → PCall Tryd.prog 12 [(tlM p (mm2 false 4096 (IntKind.i64.wrap (p.latency + IntKind.i64.wrap (a : Int)))) (mm2 false 1048576 (IntKind.i64.wrap (p.tail + IntKind.i64.wrap (b : Int))))).d] (.ret (.i 0))) (h5 : (c != 0) = false → decide (p.tail ≥ 0) = false → PCall Tryd.prog 12 [(tlM p (mm2 false 4096 (IntKind.i64.wrap (p.latency + IntKind.i64.wrap (a : Int)))) p.tail).d] (.ret (.i 0))) : PCall Tryd.prog 4 [p.d, .val (.int .u16 (a : Int)), .val (.int .u16 (b : Int))] (.ret (.b true)) := by
 refine pcall_of_wc tok hmix ⟨[], []⟩ Tryd.func4 rfl (by kernel_rfl) (by kernel_rfl) (by kernel_rfl) fun hf => ?_
 have hl_c : p.lines.length ≤ 9223372036854775807 := by omega
 clear hf
 repeat' ((try (conv => whnf)) <;> first
  | (exact Bool.noConfusion (show false = true from h))
  | (exact (Js hn (Ed hI0 hm) h).elim)
  | with_reducible exact trivial
  | with_reducible exact ak hd0 ‹_›
  | with_reducible refine aX hd0 ?_
  | with_reducible refine aP hd0 ?_
  | with_reducible refine BrI.intro (fun h => ?_) (fun h => ?_)
  | ((with_reducible refine LoopAt.mk 0 ?_); refine ⟨aF (p.lines) 12 (fun (k : (Int)) => [(11, .data (.val (.int .i64 k)))]) (fun (k : (Int)) => []) [1, 2, 3, 7, 9] (fun i0 r0 k => qB p = jC r0 k ∧ 0 ≤ k ∧ k ≤ 16 + 65536 * (i0 : Int) ∧ i0 ≤ p.lines.length), ?_⟩; with_reducible refine ae ?_ ?_ ?_ (fun i0 (k : (Int)) hd0 hI0 => ?_) (fun i0 x0 r0 (k : (Int)) hd0 hl0 hI0 => ?_))
  | (with_reducible refine af hd0 ?_ ?_ ?_)
  | ((with_reducible refine ah ?_ ?_ ?_); rotate_left; (first | exact dA | exact dX _ (by assumption) | exact h1 | exact h2 | exact h3 | exact h4 (by assumption) (by assumption) | exact h5 (by assumption) (by assumption)))
  | ((with_reducible refine aB ?_ ?_ ?_ ?_ ?_); exact rfl; exact rfl; rotate_left; (with_reducible exact az hd0))
  | ((with_reducible refine ag ?_); refine ⟨[], rfl, ?_, trivial⟩; conv => whnf)
  | (with_reducible refine And.intro ?_ ?_)
  | exact @rfl AV _
  | exact gB rfl
  | fail)
 all_goals first
  | (rfl)
  | (omega)
  | ((have hq := hz _ (aY hd0); rw [aS (by omega) (by omega)]; first | omega | (rw [hI0.1, jC])))
  | ((rw [qB, List.length_map]))
  | ((rw [List.length_map]; omega))
  | skip
end Go.Proofs.YtogfjinopifenaaDoor
namespace Go.Proofs.YtogfjinopifenaaDoor
open Go.Fw Go.Fw.Ref15 Go.Fw.Rg Go.Fw.Tl
set_option maxRecDepth 10000
variable [GlobInt]
end Go.Proofs.YtogfjinopifenaaDoor
