/- The bridge of the seat of tails: package variables; the arguments; a world for the witness. -/
import Derived.Test.YtogfjinopifenaaDoorCards
import Derived.Test.YtogfjinopifenaaDoorTie
import Derived.Deep.DeepHandedRow
import Derived.Lib.LaidTab
import Derived.Test.YtogfjinopifenaaDoorZK7
import Derived.Test.YtogfjinopifenaaDoorZK6
import Derived.Test.YtogfjinopifenaaDoorZRB
set_option linter.unusedSectionVars false
set_option linter.unusedSimpArgs false
set_option linter.unusedVariables false
namespace Go.Proofs.YtogfjinopifenaaDoor
open Go.Fw Go.Fw.Ref15 Go.Fw.Rg Go.ChangeShapes Go.WideShapes Go.RowKit
set_option maxRecDepth 100000
theorem Ib {P : Program} {W : World} {n : String} {g : Nat} {cs : Array Value} (hg : P.globalNamed n = some g) (h : W.var? P n = some cs) : ∃ t fr, W.heap[g]? = some (.cells cs t fr) := by
 unfold World.var? at h
 simp only [hg, Option.bind_some] at h
 split at h
 ·rename_i c t fr hh
  simp only [Option.some.injEq] at h
  subst h
  exact ⟨t, fr, hh⟩
 ·cases h
theorem z2u : Tryd.prog.globalNamed "soundpost/ranges.samples" = some 0 := by kernel_rfl
theorem Cf {W : World} (h : W.ShapedOpen Tryd.prog) (hL : laidMetH Tryd.prog Rows.tailsDeclaredUptoRow.laid W) : ∃ I : af, @WP I W := by
 have hL0 : laidMet Tryd.prog Rows.tailsDeclaredUptoRow.laid W := hL
 have ht : Lib.TabIs Tryd.prog W "soundpost/ranges.samples" .i64 [-2147483648, 2147483647] := Lib.tabIs_of_head z2u (t := 82) (e := 3) (n := 2) (by kernel_rfl) (by kernel_rfl) (by kernel_rfl) (by kernel_rfl) (by kernel_rfl) hL0
 obtain ⟨cs, hh, hs, hr⟩ := h.1 1 #[.int .i64 0] 3 (of_decide_eq_true (by kernel_rfl)) (by kernel_rfl)
 have hs : cs.size = 1 := hs
 obtain ⟨ts, hts, _, hall⟩ := hr (by kernel_rfl)
 have hc : Tryd.prog.cellTypes Tryd.prog.depth 3 = some [3] := by kernel_rfl
 rw [hc] at hts
 cases hts
 have h1 : 0 < cs.size := by omega
 obtain ⟨u, hu', hok⟩ := hall 0 cs[0] (by simp [h1])
 have : u = 3 := by simpa using hu'.symm
 subst this
 have hu : Tryd.prog.underlying 3 = some (.int .i64) := by kernel_rfl
 unfold Cell.ok at hok
 rw [hu] at hok
 have hv : ∃ m, cs[0] = .int .i64 m := by
  cases hv : cs[0] <;> rw [hv] at hok <;> simp at hok
  case int k' n => exact ⟨n, by rw [hok.1]⟩
 obtain ⟨m, hm⟩ := hv
 have hcs : cs = #[.int .i64 m] := by
  rw [← hm]
  exact Array.ext (by simp [hs]) fun i h1 h2 => by
   have : i = 0 := by omega
   subst this; simp
 subst hcs
 refine ⟨⟨fun _ => m⟩, @WP.mk ⟨fun _ => m⟩ W ?_⟩
 intro g cs' hg
 simp only [oO] at hg
 split at hg
 ·rename_i hb
  have : g = 0 := Nat.eq_of_beq_eq_true hb
  subst this
  simp only [Option.some.injEq] at hg
  subst hg
  refine ⟨Ib z2u ht, fun j v hj => ?_⟩
  match j with
  | 0 => simp only [List.getElem?_cons_zero, Option.some.injEq] at hj; subst hj; rfl
  | 1 => simp only [List.getElem?_cons_succ, List.getElem?_cons_zero, Option.some.injEq] at hj; subst hj; rfl
  | j + 2 => simp at hj
 ·split at hg
  ·rename_i hb
   have : g = 1 := Nat.eq_of_beq_eq_true hb
   subst this
   simp only [Option.some.injEq] at hg
   subst hg
   refine ⟨⟨_, _, hh⟩, fun j v hj => ?_⟩
   cases j with
   | zero => simp only [List.getElem?_cons_zero, Option.some.injEq] at hj; subst hj; rfl
   | succ j => simp at hj
  ·cases hg
section
variable [af] {ds : List D} {n m : Nat}
theorem Qq {T : Tbl} {α : Type} {f : α → List D} {w : α → Nat} {Q : α → Prop} {n : Nat} {e : TypeId} (h : ∀ m x, typed T n e m x → ∃ y, x = f y ∧ w y ≤ m ∧ Q y) : ∀ (es : List (List D)) (m : Nat), BB (typed T n e) es m → ∃ ys : List α, es = ys.map f ∧ (ys.map w).sum ≤ m ∧ ys.length ≤ m ∧ ∀ y ∈ ys, Q y
 | [], _, _ => ⟨[], rfl, by simp, by simp, by simp⟩
 | x :: r, m, hm => by
  obtain ⟨m1, m2, h1, h2, h3⟩ := hm
  obtain ⟨y, rfl, hw, hq⟩ := h m1 x h2
  obtain ⟨ys, rfl, hs, hl, hqs⟩ := Qq h r m2 h3
  have := O4 h2
  refine ⟨y :: ys, rfl, by simp only [List.map_cons, List.sum_cons]; omega, by simp only [List.length_cons]; omega, fun z hz => ?_⟩
  rcases List.mem_cons.1 hz with rfl | hz
  ·exact hq
  ·exact hqs z hz
theorem EZ {T : Tbl} {α : Type} {f : α → List D} {w : α → Nat} {Q : α → Prop} {t e : TypeId} (ht : (T.at t).ty = .slice e) (hm : typed T n t m ds) (h : ∀ k, k < n → ∀ m x, typed T k e m x → ∃ y, x = f y ∧ w y ≤ m ∧ Q y) :
  ∃ ys : List α, ds = [.sl (T.at e).size (ys.map f)] ∧ (ys.map w).sum + 1 ≤ m ∧ ys.length + 1 ≤ m ∧ ∀ y ∈ ys, Q y := by
 cases n with
 | zero => exact hm.elim
 | succ n =>
  simp only [typed, ht] at hm
  obtain ⟨m', es, h1, rfl, h2⟩ := hm
  obtain ⟨ys, rfl, hs, hl, hq⟩ := Qq (h n (Nat.lt_succ_self n)) es m' h2
  exact ⟨ys, rfl, by omega, by omega, hq⟩
theorem jv {T : Tbl} {t : TypeId} {k : IntKind} (ht : (T.at t).ty = .int k) (hm : typed T n t m ds) : ∃ v : Int, ds = [.val (.int k v)] ∧ k.min ≤ v ∧ v ≤ k.max := by
 cases n with
 | zero => exact hm.elim
 | succ n =>
  simp only [typed, ht] at hm
  obtain ⟨_, v, rfl, h⟩ := hm
  exact ⟨v, rfl, h⟩
abbrev u8B (n : Nat) : List D := [.val (.int .u8 (n : Int))]
theorem ZB (h : typed Tryd.T n 41 m ds) : ∃ l : List Nat, ds = [.sl 1 (l.map u8B)] ∧ l.length + 1 ≤ m ∧ ∀ v ∈ l, v ≤ 255 := by
 obtain ⟨ys, h1, _, h3, h4⟩ := EZ (f := u8B) (w := fun _ => 0) (Q := fun v => v ≤ 255) (e := 5) rfl h (fun k _ m x hx => by
  obtain ⟨v, rfl, h0, h1⟩ := jv (k := .u8) rfl hx
  have h0 : 0 ≤ v := h0
  have h1 : v ≤ 255 := h1
  refine ⟨v.toNat, ?_, Nat.zero_le _, by omega⟩
  show _ = [D.val (.int .u8 _)]
  rw [show ((v.toNat : Nat) : Int) = v by omega])
 exact ⟨ys, h1, h3, h4⟩
end
variable {H : Type}
theorem Ug (l r : List (DataW H)) : Rows.uptoBulkAll (l ++ r) = Rows.uptoBulkAll l + Rows.uptoBulkAll r := by
 induction l with
 | nil => simp [Rows.uptoBulkAll]
 | cons x l ih => simp only [List.cons_append, Rows.uptoBulkAll, ih]; omega
theorem Ci {ds gs : List (DataW H)} (hk : Rows.uptoSmall H (ds ++ gs) = true) : Rows.uptoBulkAll ds ≤ 1048576 := by
 have h : Rows.uptoBulkAll (ds ++ gs) ≤ 1048576 := of_decide_eq_true hk
 rw [Ug] at h
 omega
theorem ZF {t : TypeId} {ds : List (DataW H)} {xs : List D} (h : jT Tryd.T [t] ds xs) : ∃ d, ds = [d] ∧ ∃ n l, typed Tryd.T n t (Rows.uptoBulk d) l ∧ xs = [asD Tryd.T t l] := by
 match ds, xs, h with
 | [d], [x], h =>
  obtain ⟨⟨n, l, h1, rfl⟩, _⟩ := h
  exact ⟨d, rfl, n, l, h1, rfl⟩
 | [], [], h => exact h.elim
 | [], _ :: _, h => exact h.elim
 | _ :: _, [], h => exact h.elim
 | [_], _ :: _ :: _, h => exact h.2.elim
 | _ :: _ :: _, [_], h => exact h.2.elim
 | _ :: _ :: _, _ :: _ :: _, h => exact h.2.elim
theorem own : ownKnob Tryd.prog.godebug = none := by kernel_rfl
theorem laid : laidOutB Tryd.prog = true := by kernel_rfl
def ZG : List Nat := [3, 5, 9, 22, 23, 24, 25, 26, 27, 37, 38, 39, 41, 45, 46, 48, 49, 50, 51, 52, 59, 60, 61]
theorem Cj : nR Tryd.T ZG ZG = true := by kernel_rfl
theorem tok' : iW Tryd.prog Tryd.T := @tok ⟨fun _ => 0⟩
noncomputable def laidWorld (os : Os) : World :=
 let w0 := World.holding Tryd.prog os ⟨#[], #[], []⟩
 { w0 with heap := w0.heap.modify 0 fun
   | .cells _ t frozen => .cells #[.int .i64 (-2147483648), .int .i64 2147483647] t frozen
   | o => o }
theorem laid_met (os : Os) (args : Array Value) : laidMet Tryd.prog Rows.tailsDeclaredUptoRow.laid ((laidWorld os).forCall (fun _ _ => 0) ⟨#[], args, []⟩).memory :=
 laidMet_of_run' 8 (by kernel_rfl) (by kernel_rfl)
end Go.Proofs.YtogfjinopifenaaDoor
