/- The bridge of the seat of package lex: package variables; the arguments; a world for the witness. -/
import Derived.Test.YtanmpkhhmjfbnaaDoorCards
import Derived.Test.YtanmpkhhmjfbnaaDoorTie
import Derived.Deep.DeepHandedRow
import Derived.Lib.LaidTab
import Derived.Stop.LaidErr
import Derived.Test.YtanmpkhhmjfbnaaDoorZK7
import Derived.Test.YtanmpkhhmjfbnaaDoorZK6
import Derived.Test.YtanmpkhhmjfbnaaDoorZLM
set_option linter.unusedSimpArgs false
set_option linter.unusedVariables false
namespace Go.Proofs.YtanmpkhhmjfbnaaDoor
open Go.Fw Go.Fw.Lx Go.ChangeShapes Go.WideShapes Go.RowKit
set_option linter.unusedSectionVars false
set_option maxRecDepth 100000

/-! Package variables. -/
theorem heap_of_var {P : Program} {W : World} {n : String} {g : Nat} {cs : Array Value} (hg : P.globalNamed n = some g) (h : W.var? P n = some cs) : ∃ t fr, W.heap[g]? = some (.cells cs t fr) := by
  unfold World.var? at h
  simp only [hg, Option.bind_some] at h
  split at h
  · rename_i c t fr hh
    simp only [Option.some.injEq] at h
    subst h
    exact ⟨t, fr, hh⟩
  · cases h
theorem row106 (u : TypeId) (h : Tryd.prog.typeName? 3 u = some "*errors.errorString") : u = 106 :=
  typeName_ptr_named (nm := "errors.errorString") (by rw [show "*" ++ "errors.errorString" = "*errors.errorString" by decide]; kernel_rfl) (by kernel_rfl) (by decide) u (by rw [show "*" ++ "errors.errorString" = "*errors.errorString" by decide]; exact h)
theorem gSyn : Tryd.prog.globalNamed "strconv.ErrSyntax" = some 0 := by kernel_rfl
theorem gRan : Tryd.prog.globalNamed "strconv.ErrRange" = some 1 := by kernel_rfl
theorem gPow : Tryd.prog.globalNamed "internal/strconv.uint64pow10" = some 3 := by kernel_rfl
theorem face61 : ∃ ms, Tryd.prog.underlying 61 = some (.interface ms) := by
  have h : (match Tryd.prog.underlying 61 with | some (.interface _) => true | _ => false) = true := by kernel_rfl
  split at h
  · rename_i ms hm; exact ⟨ms, hm⟩
  · cases h
theorem str108 : ∃ f : Field, Tryd.prog.underlying 108 = some (.struct #[f]) ∧ f.type = 9 ∧ f.offset = 0 := by
  have h : (match Tryd.prog.underlying 108 with | some (.struct ⟨[f]⟩) => Nat.beq f.type 9 && Nat.beq f.offset 0 | _ => false) = true := by kernel_rfl
  split at h
  · rename_i f hm
    simp only [Bool.and_eq_true] at h
    exact ⟨f, hm, Nat.eq_of_beq_eq_true h.1, Nat.eq_of_beq_eq_true h.2⟩
  · cases h
theorem glob_ok {W : World} (h : W.ShapedOpen Tryd.prog) (hL : laidMetH Tryd.prog Rows.lexSpecUptoRow.laid W) : ∃ I : GlobInt, @GlobW I W := by
  have hL0 : laidMet Tryd.prog Rows.lexSpecUptoRow.laid W := hL
  have l1 := hL0.tail.tail
  have l2 := l1.tail
  have l3 := l2.tail
  have ht : Lib.TabIs Tryd.prog W "internal/strconv.uint64pow10" .u64 Lib.pow10Tab := Lib.tabIs_of_head gPow (t := 100) (e := 83) (n := 20) (by kernel_rfl) (by kernel_rfl) (by kernel_rfl) (by kernel_rfl) (by kernel_rfl) l1
  obtain ⟨ms, hms⟩ := face61
  obtain ⟨fd, hfd, hft, hfo⟩ := str108
  obtain ⟨a1, s1, hv1, _, _, _⟩ := laid_sentinel (ti := 61) (tp := 106) (te := 108) (ts := 9) l2 gRan (by kernel_rfl) hms row106 (by kernel_rfl) hfd hft hfo (by kernel_rfl) (by kernel_rfl) (by kernel_rfl)
  obtain ⟨a0, s0, hv0, _, _, _⟩ := laid_sentinel (ti := 61) (tp := 106) (te := 108) (ts := 9) l3 gSyn (by kernel_rfl) hms row106 (by kernel_rfl) hfd hft hfo (by kernel_rfl) (by kernel_rfl) (by kernel_rfl)
  obtain ⟨cs, hh, hs, hr⟩ := h.1 2 #[.int .i64 0] 3 (of_decide_eq_true (by kernel_rfl)) (by kernel_rfl)
  have hs : cs.size = 1 := hs
  obtain ⟨ts, hts, _, hall⟩ := hr (by kernel_rfl)
  have hc : Tryd.prog.cellTypes Tryd.prog.depth 3 = some [3] := by kernel_rfl
  rw [hc] at hts
  cases hts
  have h1 : 0 < cs.size := by omega
  obtain ⟨u, hu', hok⟩ := hall 0 cs[0] (by simp [h1])
  have : u = 3 := by simpa using hu'.symm
  subst this
  have hu : Tryd.prog.underlying 3 = some (.int .i64) := by kernel_rfl
  unfold Cell.ok at hok
  rw [hu] at hok
  have hv : ∃ m, cs[0] = .int .i64 m := by
    cases hv : cs[0] <;> rw [hv] at hok <;> simp at hok
    case int k' n => exact ⟨n, by rw [hok.1]⟩
  obtain ⟨m, hm⟩ := hv
  have hcs : cs = #[.int .i64 m] := by
    rw [← hm]
    exact Array.ext (by simp [hs]) fun i h1 h2 => by
      have : i = 0 := by omega
      subst this; simp
  subst hcs
  refine ⟨⟨fun _ => m, fun i => (106, .pointer (some (if i = 0 then a0 else a1)))⟩, @GlobW.mk ⟨fun _ => m, fun i => (106, .pointer (some (if i = 0 then a0 else a1)))⟩ W ?_⟩
  intro g cs' hg
  simp only [gcells] at hg
  have one : ∀ {x : Value}, x.oneCell' = true → ∀ (j : Nat) v, ([x] : List Value)[j]? = some v → v.oneCell' = true := by
    intro x hx j v hj
    cases j with
    | zero => simp only [List.getElem?_cons_zero, Option.some.injEq] at hj; subst hj; exact hx
    | succ j => simp at hj
  split at hg
  · rename_i hb
    have : g = 0 := Nat.eq_of_beq_eq_true hb
    subst this
    simp only [Option.some.injEq] at hg
    subst hg
    exact ⟨heap_of_var gSyn hv0, one rfl⟩
  · split at hg
    · rename_i hb
      have : g = 1 := Nat.eq_of_beq_eq_true hb
      subst this
      simp only [Option.some.injEq] at hg
      subst hg
      exact ⟨heap_of_var gRan hv1, one rfl⟩
    · split at hg
      · rename_i hb
        have : g = 2 := Nat.eq_of_beq_eq_true hb
        subst this
        simp only [Option.some.injEq] at hg
        subst hg
        exact ⟨⟨_, _, hh⟩, one rfl⟩
      · split at hg
        · rename_i hb
          have : g = 3 := Nat.eq_of_beq_eq_true hb
          subst this
          simp only [Option.some.injEq] at hg
          subst hg
          refine ⟨heap_of_var gPow ht, fun j v hj => ?_⟩
          rw [List.getElem?_map] at hj
          cases hz : Lib.pow10Tab[j]? with
          | none => rw [hz] at hj; simp at hj
          | some z => rw [hz] at hj; simp only [Option.map_some, Option.some.injEq] at hj; subst hj; rfl
        · cases hg

/-! The arguments. -/
section
variable [GlobInt]
theorem list_of {T : Tbl} {α : Type} {f : α → List D} {w : α → Nat} {Q : α → Prop} {n : Nat} {e : TypeId} (h : ∀ m x, typed T n e m x → ∃ y, x = f y ∧ w y ≤ m ∧ Q y) : ∀ (es : List (List D)) (m : Nat), typedEs (typed T n e) es m → ∃ ys : List α, es = ys.map f ∧ (ys.map w).sum ≤ m ∧ ys.length ≤ m ∧ ∀ y ∈ ys, Q y
  | [], _, _ => ⟨[], rfl, by simp, by simp, by simp⟩
  | x :: r, m, hm => by
    obtain ⟨m1, m2, h1, h2, h3⟩ := hm
    obtain ⟨y, rfl, hw, hq⟩ := h m1 x h2
    obtain ⟨ys, rfl, hs, hl, hqs⟩ := list_of h r m2 h3
    have := typed_pos h2
    refine ⟨y :: ys, rfl, by simp only [List.map_cons, List.sum_cons]; omega, by simp only [List.length_cons]; omega, fun z hz => ?_⟩
    rcases List.mem_cons.1 hz with rfl | hz
    · exact hq
    · exact hqs z hz
theorem sl_of {T : Tbl} {α : Type} {f : α → List D} {w : α → Nat} {Q : α → Prop} {n m : Nat} {t e : TypeId} {ds : List D} (ht : (T.at t).ty = .slice e) (hm : typed T n t m ds) (h : ∀ k, k < n → ∀ m x, typed T k e m x → ∃ y, x = f y ∧ w y ≤ m ∧ Q y) :
    ∃ ys : List α, ds = [.sl (T.at e).size (ys.map f)] ∧ (ys.map w).sum + 1 ≤ m ∧ ys.length + 1 ≤ m ∧ ∀ y ∈ ys, Q y := by
  cases n with
  | zero => exact hm.elim
  | succ n =>
    simp only [typed, ht] at hm
    obtain ⟨m', es, h1, rfl, h2⟩ := hm
    obtain ⟨ys, rfl, hs, hl, hq⟩ := list_of (h n (Nat.lt_succ_self n)) es m' h2
    exact ⟨ys, rfl, by omega, by omega, hq⟩
theorem int_of {T : Tbl} {n m : Nat} {t : TypeId} {k : IntKind} {ds : List D} (ht : (T.at t).ty = .int k) (hm : typed T n t m ds) : ∃ v : Int, ds = [.val (.int k v)] ∧ k.min ≤ v ∧ v ≤ k.max := by
  cases n with
  | zero => exact hm.elim
  | succ n =>
    simp only [typed, ht] at hm
    obtain ⟨_, v, rfl, h⟩ := hm
    exact ⟨v, rfl, h⟩
theorem str_of {T : Tbl} {n m : Nat} {t : TypeId} {ds : List D} (ht : (T.at t).ty = .str) (hm : typed T n t m ds) : ∃ s : List UInt8, ds = [.str s] ∧ s.length + 1 ≤ m := by
  cases n with
  | zero => exact hm.elim
  | succ n =>
    simp only [typed, ht] at hm
    exact hm
theorem fields_of {T : Tbl} {n m : Nat} {t : TypeId} {fs : List (Nat × TypeId)} {ds : List D} (ht : (T.at t).ty = .struct fs) (hm : typed T n t m ds) : ∃ k m', n = k + 1 ∧ m' + 1 ≤ m ∧ typedFs (typed T k) fs m' ds := by
  cases n with
  | zero => exact hm.elim
  | succ n =>
    simp only [typed, ht] at hm
    obtain ⟨m', h1, h2⟩ := hm
    exact ⟨n, m', rfl, h1, h2⟩
theorem fs_cons {p : TypeId → Nat → List D → Prop} {o : Nat} {t : TypeId} {r : List (Nat × TypeId)} {m : Nat} {ds : List D} (h : typedFs p ((o, t) :: r) m ds) : ∃ m1 m2 d1 d2, m1 + m2 ≤ m ∧ ds = d1 ++ d2 ∧ p t m1 d1 ∧ typedFs p r m2 d2 := h
theorem tk_of {n m : Nat} {ds : List D} (h : typed Tryd.T n 35 m ds) : ∃ t : Tk, ds = t.cs ∧ t.text.length ≤ m ∧ InI t := by
  obtain ⟨k, m', _, _, g0⟩ := fields_of (fs := [(0, 3), (1, 9), (2, 3), (3, 3)]) rfl h
  obtain ⟨m1, m2, _, _, _, e1, h1, g1⟩ := fs_cons g0
  obtain ⟨m3, m4, _, _, _, e2, h2, g2⟩ := fs_cons g1
  obtain ⟨_, _, _, _, _, e3, h3, g3⟩ := fs_cons g2
  obtain ⟨_, _, _, _, _, e4, h4, g4⟩ := fs_cons g3
  obtain ⟨a, rfl, _⟩ := int_of (k := .i64) rfl h1
  obtain ⟨s, rfl, hs⟩ := str_of rfl h2
  obtain ⟨b, rfl, hb⟩ := int_of (k := .i64) rfl h3
  obtain ⟨c, rfl, _⟩ := int_of (k := .i64) rfl h4
  have g : _ = [] := g4
  subst g
  subst e4
  subst e3
  subst e2
  subst e1
  exact ⟨⟨a, s, b, c⟩, rfl, by simp only; omega, hb⟩
theorem toks_of {n m : Nat} {ds : List D} (h : typed Tryd.T n 23 m ds) (hm : m ≤ 1048576) : ∃ l : List Tk, ds = [toks l] ∧ Rd l := by
  obtain ⟨ys, h1, h2, h3, h4⟩ := sl_of (f := Tk.cs) (w := fun t => t.text.length) (Q := InI) (e := 35) rfl h (fun k _ m x hx => tk_of hx)
  exact ⟨ys, h1, by omega, by simp only [lens]; omega, h4⟩
theorem bytes_of {n m : Nat} {ds : List D} (h : typed Tryd.T n 39 m ds) : ∃ l : Str, ds = [.sl 1 (l.map fun c => [D.u8 c])] ∧ l.length + 1 ≤ m := by
  obtain ⟨ys, h1, _, h3, _⟩ := sl_of (f := fun c : UInt8 => [D.u8 c]) (w := fun _ => 0) (Q := fun _ => True) (e := 5) rfl h (fun k _ m x hx => by
    obtain ⟨v, rfl, h0, h1⟩ := int_of (k := .u8) rfl hx
    have h0 : 0 ≤ v := h0
    have h1 : v ≤ 255 := h1
    refine ⟨UInt8.ofNat v.toNat, ?_, Nat.zero_le _, trivial⟩
    have : ((UInt8.ofNat v.toNat).toNat : Int) = v := by
      rw [UInt8.toNat_ofNat']; omega
    show _ = [D.val (.int .u8 _)]
    rw [this])
  exact ⟨ys, h1, h3⟩
end
variable {H : Type}
theorem bulk_app (l r : List (DataW H)) : Rows.uptoBulkAll (l ++ r) = Rows.uptoBulkAll l + Rows.uptoBulkAll r := by
  induction l with
  | nil => simp [Rows.uptoBulkAll]
  | cons x l ih => simp only [List.cons_append, Rows.uptoBulkAll, ih]; omega
theorem bulk_le {ds gs : List (DataW H)} (hk : Rows.uptoSmall H (ds ++ gs) = true) : Rows.uptoBulkAll ds ≤ 1048576 := by
  have h : Rows.uptoBulkAll (ds ++ gs) ≤ 1048576 := of_decide_eq_true hk
  rw [bulk_app] at h
  omega
theorem arg1 {t : TypeId} {ds : List (DataW H)} {xs : List D} (h : typedArgs Tryd.T [t] ds xs) : ∃ d, ds = [d] ∧ ∃ n l, typed Tryd.T n t (Rows.uptoBulk d) l ∧ xs = [asD Tryd.T t l] := by
  match ds, xs, h with
  | [d], [x], h =>
    obtain ⟨⟨n, l, h1, rfl⟩, _⟩ := h
    exact ⟨d, rfl, n, l, h1, rfl⟩
  | [], [], h => exact h.elim
  | [], _ :: _, h => exact h.elim
  | _ :: _, [], h => exact h.elim
  | [_], _ :: _ :: _, h => exact h.2.elim
  | _ :: _ :: _, [_], h => exact h.2.elim
  | _ :: _ :: _, _ :: _ :: _, h => exact h.2.elim
theorem arg2 {t u : TypeId} {ds : List (DataW H)} {xs : List D} (h : typedArgs Tryd.T [t, u] ds xs) : ∃ d e, ds = [d, e] ∧ ∃ n l m k, typed Tryd.T n t (Rows.uptoBulk d) l ∧ typed Tryd.T m u (Rows.uptoBulk e) k ∧ xs = [asD Tryd.T t l, asD Tryd.T u k] := by
  match ds, xs, h with
  | [], [], h => exact h.elim
  | [], _ :: _, h => exact h.elim
  | _ :: _, [], h => exact h.elim
  | d :: ds, x :: xs, h =>
    obtain ⟨⟨n, l, h1, rfl⟩, h⟩ := h
    obtain ⟨e, rfl, m, k, h2, rfl⟩ := arg1 h
    exact ⟨d, e, rfl, n, l, m, k, h1, h2, rfl⟩
theorem arg3 {t u v : TypeId} {ds : List (DataW H)} {xs : List D} (h : typedArgs Tryd.T [t, u, v] ds xs) : ∃ d e f, ds = [d, e, f] ∧ ∃ n l m k i j, typed Tryd.T n t (Rows.uptoBulk d) l ∧ typed Tryd.T m u (Rows.uptoBulk e) k ∧ typed Tryd.T i v (Rows.uptoBulk f) j ∧ xs = [asD Tryd.T t l, asD Tryd.T u k, asD Tryd.T v j] := by
  match ds, xs, h with
  | [], [], h => exact h.elim
  | [], _ :: _, h => exact h.elim
  | _ :: _, [], h => exact h.elim
  | d :: ds, x :: xs, h =>
    obtain ⟨⟨n, l, h1, rfl⟩, h⟩ := h
    obtain ⟨e, f, rfl, m, k, i, j, h2, h3, rfl⟩ := arg2 h
    exact ⟨d, e, f, rfl, n, l, m, k, i, j, h1, h2, h3, rfl⟩
theorem own : ownKnob Tryd.prog.godebug = none := by kernel_rfl
theorem laid : laidOutB Tryd.prog = true := by kernel_rfl
def seatS : List Nat := [3, 5, 9, 23, 34, 35, 39]
theorem closedS : closedT Tryd.T seatS seatS = true := by kernel_rfl
theorem tok' : TblOk Tryd.prog Tryd.T := @tok ⟨fun _ => 0, fun _ => (0, undef)⟩

/-! A world for the witness. -/
noncomputable def low : Nat := (World.holding Tryd.prog default ⟨#[], #[], []⟩).heap.size
noncomputable def laidWorld (os : Os) : World :=
  let w0 := World.holding Tryd.prog os ⟨#[.cells #[.string { data := #[105, 110, 118, 97, 108, 105, 100, 32, 115, 121, 110, 116, 97, 120] }] 108, .cells #[.string { data := #[118, 97, 108, 117, 101, 32, 111, 117, 116, 32, 111, 102, 32, 114, 97, 110, 103, 101] }] 108], #[], []⟩
  { w0 with heap := ((((w0.heap.modify 0 fun
      | .cells _ t frozen => .cells #[.iface 106 (.pointer (some ⟨low, 0, none⟩))] t frozen
      | o => o).modify 1 fun
      | .cells _ t frozen => .cells #[.iface 106 (.pointer (some ⟨low + 1, 0, none⟩))] t frozen
      | o => o).modify 3 fun
      | .cells _ t frozen => .cells (Lib.pow10Tab.map fun z => Value.int .u64 z).toArray t frozen
      | o => o).modify 4 fun
      | .cells _ t frozen => .cells ([0, 1, 28, 2, 29, 14, 24, 3, 30, 22, 20, 15, 25, 17, 4, 8, 31, 27, 13, 23, 21, 19, 16, 7, 26, 12, 18, 6, 11, 5, 10, 9].map fun z => Value.int .u8 z).toArray t frozen
      | o => o).modify 5 fun
      | .cells _ t frozen => .cells ([0, 1, 56, 2, 57, 49, 28, 3, 61, 58, 42, 50, 38, 29, 17, 4, 62, 47, 59, 36, 45, 43, 51, 22, 53, 39, 33, 30, 24, 18, 12, 5, 63, 55, 48, 27, 60, 41, 37, 16, 46, 35, 44, 21, 52, 32, 23, 11, 54, 26, 40, 15, 34, 20, 31, 10, 25, 14, 19, 9, 13, 8, 7, 6].map fun z => Value.int .u8 z).toArray t frozen
      | o => o }
theorem laid_met (os : Os) (args : Array Value) : laidMet Tryd.prog Rows.lexSpecUptoRow.laid ((laidWorld os).forCall (fun _ _ => 0) ⟨#[], args, []⟩).memory :=
  laidMet_of_run' 8 (by kernel_rfl) (by kernel_rfl)
end Go.Proofs.YtanmpkhhmjfbnaaDoor
