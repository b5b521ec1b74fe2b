/- Contracts: the laws of tails: TailsDeclared, TailsBound. -/
import Derived.Test.YtogfjinopifenaaDoorZYC
set_option linter.unusedSectionVars false
set_option linter.unusedSimpArgs false
set_option linter.unusedVariables false
set_option maxHeartbeats 2000000
namespace Go.Proofs.YtogfjinopifenaaDoor
open Go.Fw Go.Fw.Ref15 Go.Fw.Rg Go.Fw.Tl
set_option maxRecDepth 10000
variable [af]
theorem Rl (p : Pr) (e : Int) (g : dA p) (he : (e != 0) = true) (h1 : PCall Tryd.prog 10 [p.d] (.ret (.tuple [.i 0, .i e]))) (h2 : PCall Tryd.prog 11 [p.d] (.ret (.tuple [.i 0, .i e]))) (h3 : PCall Tryd.prog 12 [p.d] (.ret (.i e))) (h4 : PCall Tryd.prog 14 [p.d] (.ret (.i e))) : PCall Tryd.prog 3 [p.d] (.ret (.b true)) := by
 refine ae tok hmix ⟨[], []⟩ Tryd.func3 rfl (by kernel_rfl) (by kernel_rfl) (by kernel_rfl) fun hf => ?_
 clear hf
 repeat' ((try (conv => whnf)) <;> first
  | (exact Bool.noConfusion (show false = true from h))
  | (exact (XY he h).elim)
  | with_reducible refine BrI.intro (fun h => ?_) (fun h => ?_)
  | ((with_reducible refine aj ?_ ?_ ?_); rotate_left; (first | exact gu | exact ja _ (by assumption) | exact fG p g.sm g.hn | exact gY (Nam.resolveC p).1 p | exact h1 | exact h2 | exact h3 | exact h4))
  | ((with_reducible refine bF ?_ ?_ (fun hg => ?_) ?_); exact rfl)
  | ((with_reducible refine dE ?_ ?_); with_reducible exact rfl; with_reducible exact rfl)
  | ((with_reducible refine ai ?_); refine ⟨[], rfl, ?_, trivial⟩; conv => whnf)
  | fail)
 all_goals first
  | ((exact congrArg D.b (UE he)))
  | skip
theorem UV (p : Pr) (c n m : Int) (g : dA p) (hc : XZ c n m p.latency p.tail = true) (h0 : PCall Tryd.prog 9 [p.d] (.ret (.tuple [p.d, .i 0]))) (h1 : PCall Tryd.prog 10 [p.d] (.ret (.tuple [.i n, .i 0]))) (h2 : PCall Tryd.prog 11 [p.d] (.ret (.tuple [.i m, .i 0]))) (h3 : PCall Tryd.prog 12 [p.d] (.ret (.i c))) (h4 : PCall Tryd.prog 14 [p.d] (.ret (.i 0))) (h5 : PCall Tryd.prog 13 [p.d, p.d] (.ret (.b true))) : PCall Tryd.prog 3 [p.d] (.ret (.b true)) := by
 refine ae tok hmix ⟨[], []⟩ Tryd.func3 rfl (by kernel_rfl) (by kernel_rfl) (by kernel_rfl) fun hf => ?_
 clear hf
 repeat' ((try (conv => whnf)) <;> first
  | (exact Bool.noConfusion (show false = true from h))
  | with_reducible refine BrI.intro (fun h => ?_) (fun h => ?_)
  | ((with_reducible refine aj ?_ ?_ ?_); rotate_left; (first | exact gu | exact ja _ (by assumption) | exact h0 | exact h1 | exact h2 | exact h3 | exact h4 | exact h5))
  | ((with_reducible refine bF ?_ ?_ (fun hg => ?_) ?_); exact rfl)
  | ((with_reducible refine dE ?_ ?_); with_reducible exact rfl; with_reducible exact rfl)
  | ((with_reducible refine ai ?_); refine ⟨[], rfl, ?_, trivial⟩; conv => whnf)
  | fail)
 all_goals first
  | ((exact congrArg D.b hc))
  | skip
end Go.Proofs.YtogfjinopifenaaDoor
namespace Go.Proofs.YtogfjinopifenaaDoor
open Go.Fw Go.Fw.Ref15 Go.Fw.Rg Go.Fw.Tl
set_option maxRecDepth 10000
variable [af]
end Go.Proofs.YtogfjinopifenaaDoor
