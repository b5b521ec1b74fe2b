/- The typed data of processors, and how they lie in memory. -/
import Derived.Laws.Wrap64
import Derived.Test.YtcfpghieofhfkaaZKA
set_option linter.unusedSimpArgs false
set_option linter.unusedVariables false
namespace Go.Fw
set_option linter.unusedSectionVars false
variable [GlobInt]
theorem wrap_ok {n : Int} (h1 : -9223372036854775808 ≤ n) (h2 : n ≤ 9223372036854775807) : IntKind.i64.wrap n = n := by
  simp only [IntKind.wrap, IntKind.bits, IntKind.signed]
  first | (simp; omega) | skip
structure Bd where
  name : List UInt8
  lo : Int
  hi : Int
structure Ln where
  name : List UInt8
  size : Int
  lo : Int
  hi : Int
structure Tb where
  name : List UInt8
  values : List Int
inductive Ex where
  | mk (kind : Int) (name : List UInt8) (index n : Int) (l : List Ex)
namespace Ex
def kind : Ex → Int | .mk k _ _ _ _ => k
def name : Ex → List UInt8 | .mk _ n _ _ _ => n
def index : Ex → Int | .mk _ _ i _ _ => i
def n : Ex → Int | .mk _ _ _ n _ => n
def l : Ex → List Ex | .mk _ _ _ _ l => l
end Ex
structure Sm where
  kind : Int
  name : List UInt8
  index : Int
  x : Ex
structure Pr where
  name : List UInt8
  latency : Int
  tail : Int
  params : List Bd
  states : List Bd
  lines : List Ln
  tables : List Tb
  stmts : List Sm
abbrev Bd.cs (b : Bd) : List D := [.str b.name, .i b.lo, .i b.hi]
abbrev Ln.cs (b : Ln) : List D := [.str b.name, .i b.size, .i b.lo, .i b.hi]
abbrev intC (v : Int) : List D := [.i v]
abbrev ints (l : List Int) : D := .sl 1 (l.map intC)
abbrev Tb.cs (b : Tb) : List D := [.str b.name, ints b.values]
mutual
def Ex.cs1 : Ex → List D
  | .mk k n i m l => [.i k, .str n, .i i, .i m, .sl 5 (Ex.css l)]
def Ex.css : List Ex → List (List D)
  | [] => []
  | x :: r => Ex.cs1 x :: Ex.css r
end
abbrev Ex.cs (x : Ex) : List D := [.i x.kind, .str x.name, .i x.index, .i x.n, .sl 5 (Ex.css x.l)]
theorem Ex.css_cons (x : Ex) (r : List Ex) : Ex.css (x :: r) = x.cs :: Ex.css r := by
  cases x; rfl
theorem Ex.css_eq : ∀ l, Ex.css l = l.map Ex.cs := by
  intro l
  induction l with
  | nil => rfl
  | cons x r ih => rw [Ex.css_cons, ih]; rfl
abbrev Sm.cs (s : Sm) : List D := [.i s.kind, .str s.name, .i s.index, .i s.x.kind, .str s.x.name, .i s.x.index, .i s.x.n, .sl 5 (Ex.css s.x.l)]
abbrev Pr.cs (p : Pr) : List D := [.str p.name, .i p.latency, .i p.tail, .sl 3 (p.params.map Bd.cs), .sl 3 (p.states.map Bd.cs), .sl 4 (p.lines.map Ln.cs), .sl 2 (p.tables.map Tb.cs), .sl 8 (p.stmts.map Sm.cs)]
abbrev Ex.d (x : Ex) : D := .agg x.cs
abbrev Sm.d (x : Sm) : D := .agg x.cs
abbrev Pr.d (x : Pr) : D := .agg x.cs
end Go.Fw
namespace Go.Fw
set_option linter.unusedSectionVars false
variable [GlobInt]
theorem BrI.tt {p q : Prop} (h : p) : BrI true p q := BrI.intro (fun _ => h) (fun e => by simp at e)
theorem BrI.ff {p q : Prop} (h : q) : BrI false p q := BrI.intro (fun e => by simp at e) (fun _ => h)
theorem drop_lt {α : Type} {l : List α} {i : Nat} {x : α} {r : List α} (h : l.drop i = x :: r) : i < l.length := by
  rcases Nat.lt_or_ge i l.length with h1 | h1
  · exact h1
  · rw [List.drop_eq_nil_of_le h1] at h; simp at h
abbrev rangeL {α β : Type} (l : List α) (slot : Nat) (ev : β → Env) (hv : β → Heap) (keep : List Nat) (I : Nat → List α → β → Prop) : Loop where
  S := Nat × List α × β
  ev s := match s with | (i, _, b) => (slot, .data (.val (.int .i64 (i : Int)))) :: ev b
  hv s := match s with | (_, _, b) => hv b
  keep := keep
  I s := match s with | (i, r, b) => l.drop i = r ∧ I i r b
  μ s := match s with | (_, r, _) => r.length
theorem rangeL_rule {α β : Type} {l : List α} {slot : Nat} {ev : β → Env} {hv : β → Heap} {keep : List Nat} {I : Nat → List α → β → Prop} {E F : Nat × List α × β → Prop} (b : β)
    (hW : E (0, l, b)) (hI : I 0 l b) (h0 : ∀ i b, l.drop i = [] → I i [] b → F (i, [], b)) (h1 : ∀ i x r b, l.drop i = x :: r → i < l.length → I i (x :: r) b → F (i, x :: r, b)) :
    (∃ s, (rangeL l slot ev hv keep I).I s ∧ E s) ∧ ∀ s, (rangeL l slot ev hv keep I).I s → F s := by
  refine ⟨⟨(0, l, b), ⟨rfl, hI⟩, hW⟩, ?_⟩
  rintro ⟨i, r, b⟩ ⟨hd, h⟩
  cases r with
  | nil => exact h0 i b hd h
  | cons x r => exact h1 i x r b hd (drop_lt hd) h
theorem drop_next {α : Type} {l : List α} {i : Nat} {x : α} {r : List α} (h : l.drop i = x :: r) : l.drop (i + 1) = r := by
  have h1 := drop_lt h
  rw [List.drop_eq_getElem_cons h1] at h
  exact (List.cons.inj h).2
theorem drop_get {α : Type} {l : List α} {i : Nat} {x : α} {r : List α} (h : l.drop i = x :: r) : l[i]? = some x := by
  have h1 := drop_lt h
  rw [List.drop_eq_getElem_cons h1] at h
  rw [List.getElem?_eq_getElem h1, (List.cons.inj h).1]
theorem drop_mem {α : Type} {l : List α} {i : Nat} {x : α} {r : List α} (h : l.drop i = x :: r) : x ∈ l := List.mem_of_getElem? (drop_get h)
theorem drop_ge {α : Type} {l : List α} {i : Nat} (h : l.drop i = []) : l.length ≤ i := by simpa using h
theorem range_nil {α β : Type} {l : List α} {f : α → β} {i : Nat} (h : l.drop i = []) : decide ((i : Int) < ((l.map f).length : Int)) = false := by
  have := drop_ge h
  simp; omega
theorem range_cons {α β : Type} {l : List α} {f : α → β} {i : Nat} {x : α} {r : List α} (h : l.drop i = x :: r) : decide ((i : Int) < ((l.map f).length : Int)) = true := by
  have := drop_lt h
  simp; omega
theorem br_nil {α β : Type} {l : List α} {f : α → β} {i : Nat} {p q : Prop} (h : l.drop i = []) (hq : q) : BrI (decide ((i : Int) < ((l.map f).length : Int))) p q := by
  rw [range_nil h]; exact BrI.ff hq
theorem br_cons {α β : Type} {l : List α} {f : α → β} {i : Nat} {x : α} {r : List α} {p q : Prop} (h : l.drop i = x :: r) (hp : p) : BrI (decide ((i : Int) < ((l.map f).length : Int))) p q := by
  rw [range_cons h]; exact BrI.tt hp
theorem idx_drop {α β : Type} {l : List α} {f : α → β} {i : Nat} {x : α} {r : List α} (h : l.drop i = x :: r) : 0 ≤ (i : Int) ∧ (l.map f)[(i : Int).toNat]? = some (f x) :=
  ⟨by omega, by simp [drop_get h]⟩
theorem idx_next {α : Type} {l : List α} {i : Nat} {x : α} {r : List α} (h : l.drop i = x :: r) (hl : l.length ≤ 9223372036854775807) : AV.data (.val (.int .i64 (IntKind.i64.wrap ((i : Int) + 1)))) = AV.data (.val (.int .i64 ((i + 1 : Nat) : Int))) := by
  have := drop_lt h
  rw [wrap_ok (by omega) (by omega)]; rfl
theorem rangeL_next {α β : Type} {l : List α} {slot : Nat} {ev : β → Env} {hv : β → Heap} {keep : List Nat} {I : Nat → List α → β → Prop} {E : Nat × List α × β → Prop} {i : Nat} {x : α} {r : List α} {b0 : β} (hd : l.drop i = x :: r) (b : β)
    (hW : E (i + 1, r, b)) (hI : I (i + 1) r b) :
    ∃ s, (rangeL l slot ev hv keep I).I s ∧ (rangeL l slot ev hv keep I).μ s < (rangeL l slot ev hv keep I).μ (i, x :: r, b0) ∧ E s :=
  ⟨(i + 1, r, b), ⟨drop_next hd, hI⟩, Nat.lt_succ_self _, hW⟩
theorem chk_stepP {T : Tbl} {ops : Array Oper} {env : Env} {K : Heap} {tr : List Rec} {q : Prop} (h : chk T ops env K tr = true) (hq : q) : chkP T ops env K tr ∧ q := ⟨⟨[], by rw [markS_nil]; exact h, trivial⟩, hq⟩
theorem chk_soft {T : Tbl} {ops : Array Oper} {env : Env} {K : Heap} {tr : List Rec} {q : Prop} (l : List (Nat × Nat)) (h : chk T ops env K (markS l 0 tr) = true) (h2 : softL T K tr l) (hq : q) : chkP T ops env K tr ∧ q := ⟨⟨l, h, h2⟩, hq⟩
theorem softL_nil {T : Tbl} {K : Heap} {tr : List Rec} : softL T K tr [] := trivial
theorem cellW_nil {T : Tbl} {env : Env} {o : Oper} {id : Nat} {c : AV} : cellW T env o id c [] := trivial
theorem softL_cons {T : Tbl} {K : Heap} {tr : List Rec} {q : Nat × Nat} {l : List (Nat × Nat)} (h : softAt T K tr q) (h2 : softL T K tr l) : softL T K tr (q :: l) := ⟨h, h2⟩
theorem soft_one {T : Tbl} {K : Heap} {tr : List Rec} {q id : Nat} {y : Rec} {t : TypeId} {a : Operand} {off : Nat} {cs : List AV} {c : AV} (h : tr[q]? = some y) (hop : y.o.op = .load t a) (h1 : T.sh t = some false) (h2 : ev T y.env 0 a = .ptr id off) (h3 : K.get id = some (.cells cs)) (h3' : cs[off]? = some c) (h4 : cellW T y.env y.o id c tr) : softAt T K tr (q, id) := by
  unfold softAt
  simp only [h]
  intro _
  refine ⟨c, ?_, h4⟩
  rw [h3]
  simp only [cellP, readA, hop, vLoad, h2, one_get, if_true, h1, h3']
theorem soft_own {T : Tbl} {K : Heap} {tr : List Rec} {q id vr s s' i off : Nat} {y : Rec} {t : TypeId} {a : Operand} {es : List (List D)} {e : List D} {d : D} (h : tr[q]? = some y) (hop : y.o.op = .load t a) (h1 : T.sh t = some false) (h2 : ev T y.env 0 a = .eptr id vr s' i off) (h3 : K.get id = some (.arr vr s es)) (h5 : s' = s) (h6 : es[i]? = some e) (h7 : e[off]? = some d) (h4 : cellW T y.env y.o id (.data d) tr) : softAt T K tr (q, id) := by
  unfold softAt
  simp only [h]
  intro _
  refine ⟨.data d, ?_, h4⟩
  rw [h3]
  simp only [cellP, readA, hop, vLoad, h2, one_get, if_true, h1]
  exact ⟨⟨trivial, h5⟩, e, h6, d, h7, rfl⟩
theorem soft_idx {T : Tbl} {K : Heap} {tr : List Rec} {q id vr s s' off len : Nat} {y : Rec} {t et : TypeId} {x i : Operand} {k : IntKind} {n : Int} {es : List (List D)} (h : tr[q]? = some y) (hop : y.o.op = .indexAddr t x i) (h1 : (T.at t).ty = .slice et) (h2 : ev T y.env t x = .own id vr s off len) (h3 : ev T y.env 0 i = .data (.val (.int k n))) (h5 : K.get id = some (.arr vr s' es)) (h6 : T.known et = true ∧ s = (T.at et).size) (h7 : 0 ≤ n ∧ n < len) (h4 : cellW T y.env y.o id (.eptr id vr s (off + n.toNat) 0) tr) : softAt T K tr (q, id) := by
  unfold softAt
  simp only [h]
  intro _
  refine ⟨.eptr id vr s (off + n.toNat) 0, ?_, h4⟩
  rw [h5]
  simp only [cellP, readA, hop, vIndexAddr, h1, h2, h3, one_get, if_true]
  exact ⟨⟨h6.1, h6.2, trivial⟩, h7, trivial⟩
theorem cellW_cons {T : Tbl} {env : Env} {o : Oper} {id : Nat} {c : AV} {x : Rec} {r : List Rec} (h1 : match hasN (x.ws T) id with | true => cellP T env o id c (x.K.get id) | false => True) (h2 : cellW T env o id c r) : cellW T env o id c (x :: r) := ⟨h1, h2⟩
theorem cell_own {T : Tbl} {y : Rec} {id vr s s' i off : Nat} {t : TypeId} {a : Operand} {es : List (List D)} {e : List D} {d : D} (hop : y.o.op = .load t a) (h1 : T.sh t = some false) (h2 : ev T y.env 0 a = .eptr id vr s' i off) (h5 : s' = s) (h6 : es[i]? = some e) (h7 : e[off]? = some d) : cellP T y.env y.o id (.data d) (some (.arr vr s es)) := by
  simp only [cellP, readA, hop, vLoad, h2, one_get, if_true, h1]
  exact ⟨⟨trivial, h5⟩, e, h6, d, h7, rfl⟩
theorem cell_idx {T : Tbl} {y : Rec} {id vr s s' off len : Nat} {t et : TypeId} {x i : Operand} {k : IntKind} {n : Int} {es : List (List D)} (hop : y.o.op = .indexAddr t x i) (h1 : (T.at t).ty = .slice et) (h2 : ev T y.env t x = .own id vr s off len) (h3 : ev T y.env 0 i = .data (.val (.int k n))) (h6 : T.known et = true ∧ s = (T.at et).size) (h7 : 0 ≤ n ∧ n < len) : cellP T y.env y.o id (.eptr id vr s (off + n.toNat) 0) (some (.arr vr s' es)) := by
  simp only [cellP, readA, hop, vIndexAddr, h1, h2, h3, one_get, if_true]
  exact ⟨⟨h6.1, h6.2, trivial⟩, h7, trivial⟩
theorem Ex.css_len (l : List Ex) : (Ex.css l).length = l.length := by rw [Ex.css_eq]; simp
theorem wrap_nat {a b : Nat} (h : a + b ≤ 9223372036854775807) : IntKind.i64.wrap ((a : Int) + (b : Int)) = ((a + b : Nat) : Int) := by
  rw [wrap_ok (by omega) (by omega)]; omega
theorem idx_step {k : Bool} {a b : Nat} {n : Int} {es : List (List D)} {q : List D → Prop} (h1 : k = true) (h2 : a = b) (c : List D) (h3 : 0 ≤ n ∧ es[n.toNat]? = some c) (h4 : q c) : (k = true ∧ a = b) ∧ ∃ c, (0 ≤ n ∧ es[n.toNat]? = some c) ∧ q c := ⟨⟨h1, h2⟩, c, h3, h4⟩
theorem len_step {cs : List D} {t : TI} {q : Prop} (h1 : cs.length = t.size) (h : q) : cs.length = t.size ∧ q := ⟨h1, h⟩
theorem guard_step {p g : Bool} {A B : AV → Prop} (h1 : p = true) (v : AV) (h2 : g = true → A v) (h3 : B v) : p = true ∧ ∃ v, (g = true → A v) ∧ B v := ⟨h1, v, h2, h3⟩
theorem val_step {a v : AV} {b c : Heap} (h : a = v) (h2 : b = c) : a = v ∧ b = c := ⟨h, h2⟩
theorem call_step {A M : DOut → Prop} {V : Prop} (out : DOut) (h : A out) (h2 : M out) : (∃ out, A out ∧ M out) ∨ V := .inl ⟨out, h, h2⟩
theorem ret_step {T : Tbl} {rs : List ResultVar} {K0 K K1 : Heap} {out : AOut} {env : Env} {q : Prop} (h : finR T rs K0 out K1 env K) : finR T rs K0 out K1 env K ∨ q := .inl h
theorem gs_eq {id id' sz sz' : Nat} {es es' : List (List D)} (h0 : id = id') (h : sz = sz') (h2 : es = es') : AV.gs id sz es = AV.gs id' sz' es' := by rw [h0, h, h2]
theorem tok_eq {sz sz' : Nat} {es es' : List (List D)} (h : sz = sz') (h2 : es = es') : Block.tok sz es.length = Block.tok sz' es'.length := by rw [h, h2]
theorem map_snoc {α : Type} {l : List α} {f : α → List D} {x : α} : l.map f ++ [f x] = (l ++ [x]).map f := by simp
theorem map_app {α : Type} {l m : List α} {f : α → List D} : l.map f ++ m.map f = (l ++ m).map f := by simp
theorem app_le {a y b : Nat} (h1 : a ≤ 1073741824) (h2 : y ≤ 1073741824) (h3 : Nat.ble b 65536 = true) : (a + y) * b ≤ 140737488355328 :=
  Nat.le_trans (Nat.mul_le_mul (show a + y ≤ 2147483648 by omega) (Nat.le_of_ble_eq_true h3)) (by decide)
theorem ble_le {a b : Nat} (h : Nat.ble a b = true) : a ≤ b := Nat.le_of_ble_eq_true h
theorem app_step' {a b c n m x y w : Nat} {q : Prop} (h1 : a = b) (h2 : b = c) (h3 : n = m) (hb : Nat.ble w 65536 = true) (hx : x ≤ 1073741824) (hy : y ≤ 1073741824) (h : q) : (a = b ∧ b = c ∧ n = m) ∧ (x + y) * w ≤ 140737488355328 ∧ q := ⟨⟨h1, h2, h3⟩, app_le hx hy hb, h⟩
theorem lent_step {B : FuncId → List AV → Heap → AOut → Heap → Prop} {L : List Nat} {f : FuncId} {as as0 : List AV} {env : Env} {K K0 K1 : Heap} {out : AOut} {next pan : Next} {Z : Prop} (ρ : List (Nat × Nat)) (h : B f as0 K0 out K1) (h1 : AV.ren.go ρ as0 = as) (h2 : Heap.sub ρ K K0) (h3 : lentOk ρ K0 K1 out.av env K L = true)
    (h4 : outGo ρ K1 K next pan out) : Z ∨ vLent B L f as env K next pan := .inr ⟨as0, K0, out, K1, ρ, h, h1, h2, h3, h4⟩
theorem lent_step' {B : FuncId → List AV → Heap → AOut → Heap → Prop} {L : List Nat} {f : FuncId} {as as0 : List AV} {env : Env} {K K0 K1 : Heap} {out : AOut} {next pan : Next} (ρ : List (Nat × Nat)) (h : B f as0 K0 out K1) (h1 : AV.ren.go ρ as0 = as) (h2 : Heap.sub ρ K K0) (h3 : lentOk ρ K0 K1 out.av env K L = true)
    (h4 : outGo ρ K1 K next pan out) :
    ∃ (as0 : List AV) (K0 : Heap) (out : AOut) (K1 : Heap) (ρ : List (Nat × Nat)), B f as0 K0 out K1 ∧ AV.ren.go ρ as0 = as ∧ Heap.sub ρ K K0 ∧ lentOk ρ K0 K1 out.av env K L = true ∧
    outGo ρ K1 K next pan out := ⟨as0, K0, out, K1, ρ, h, h1, h2, h3, h4⟩
theorem fin_step' {K0 K K1 : Heap} {x y : AV} (τ : List (Nat × Nat)) (h1 : finOk τ K0 K1 y = true) (h2 : covA K (mapRn τ (keys K1)) τ 100 x y) (h3 : covH K (mapRn τ (keys K1)) τ K1) : ∃ τ, finOk τ K0 K1 y = true ∧ covA K (mapRn τ (keys K1)) τ 100 x y ∧ covH K (mapRn τ (keys K1)) τ K1 := ⟨τ, h1, h2, h3⟩
theorem gs_ren {τ : List (Nat × Nat)} {id id' sz sz' : Nat} {es es' : List (List D)} (h : id = rn τ id') (h0 : sz = sz') (h1 : es = es') : AV.gs id sz es = AV.ren τ (AV.gs id' sz' es') := by
  subst h h0 h1; simp only [AV.ren]
theorem ren_guard {τ : List (Nat × Nat)} {x y : AV} (h : x = AV.ren τ y) : x = AV.ren τ y := h
theorem br_nil_k {α : Type} {l : List α} {i k : Nat} {p q : Prop} (h : l.drop i = []) (hk : l.length = k) (hq : q) : BrI (decide ((i : Int) < (k : Int))) p q := by
  have := drop_ge h
  rw [show decide ((i : Int) < (k : Int)) = false by simp; omega]; exact BrI.ff hq
theorem br_cons_k {α : Type} {l : List α} {i k : Nat} {x : α} {r : List α} {p q : Prop} (h : l.drop i = x :: r) (hk : l.length = k) (hp : p) : BrI (decide ((i : Int) < (k : Int))) p q := by
  have := drop_lt h
  rw [show decide ((i : Int) < (k : Int)) = true by simp; omega]; exact BrI.tt hp
theorem br_nil_and {α β : Type} {l : List α} {f : α → β} {i : Nat} {c : Bool} {p q : Prop} (h : l.drop i = []) (hq : q) : BrI (bif decide ((i : Int) < ((l.map f).length : Int)) then c else false) p q := by
  rw [range_nil h]; exact BrI.ff hq
theorem br_cons_and {α β : Type} {l : List α} {f : α → β} {i : Nat} {x : α} {r : List α} {c : Bool} {p q : Prop} (h : l.drop i = x :: r) (hp : BrI c p q) : BrI (bif decide ((i : Int) < ((l.map f).length : Int)) then c else false) p q := by
  rw [range_cons h]; exact hp
theorem idx_get {α β : Type} {l : List α} {f : α → β} {i : Nat} {x : α} (h : l[i]? = some x) : 0 ≤ (i : Int) ∧ (l.map f)[(i : Int).toNat]? = some (f x) := ⟨by omega, by simp [h]⟩
theorem zip_get {α β : Type} {l : List α} {m : List β} {i : Nat} {x : α × β} {r : List (α × β)} (h : (l.zip m).drop i = x :: r) : l[i]? = some x.1 ∧ m[i]? = some x.2 := by
  have := drop_get h
  rw [List.getElem?_zip_eq_some] at this
  exact this
theorem idx_zip1 {α β γ : Type} {l : List α} {m : List β} {f : α → γ} {i : Nat} {x : α × β} {r : List (α × β)} (h : (l.zip m).drop i = x :: r) : 0 ≤ (i : Int) ∧ (l.map f)[(i : Int).toNat]? = some (f x.1) := idx_get (zip_get h).1
theorem idx_zip2 {α β γ : Type} {l : List α} {m : List β} {f : β → γ} {i : Nat} {x : α × β} {r : List (α × β)} (h : (l.zip m).drop i = x :: r) : 0 ≤ (i : Int) ∧ (m.map f)[(i : Int).toNat]? = some (f x.2) := idx_get (zip_get h).2
theorem zip_len {α β : Type} {l : List α} {m : List β} (h : l.length = m.length) : (l.zip m).length = l.length := by simp [h]
theorem nilgs_step {s s' id : Nat} {es : List (List D)} {e : Env} {K : Heap} (h1 : s = s') (h2 : es = []) (h3 : K.get id = none) (h4 : isLent id = false) (h5 : menE id e = false) (h6 : menH id K = false) : s = s' ∧ es = [] ∧ K.get id = none ∧ isLent id = false ∧ menE id e = false ∧ menH id K = false := ⟨h1, h2, h3, h4, h5, h6⟩
theorem tok0_step {b : Block} {id : Nat} {e : Env} {K : Heap} (h3 : b.isTok0 = true) (h4 : isLent id = false) (h5 : menE id e = false) (h6 : menH id K = false) : b.isTok0 = true ∧ isLent id = false ∧ menE id e = false ∧ menH id K = false := ⟨h3, h4, h5, h6⟩
end Go.Fw
namespace Go.Fw
set_option linter.unusedSectionVars false
variable [GlobInt]
theorem own_idx_step {a b v v' len : Nat} {k : Bool} {n : Int} {q : Prop} (h1 : k = true) (h2 : a = b) (h3 : v = v') (h4 : 0 ≤ n ∧ n < len) (h : q) : (k = true ∧ a = b ∧ v = v') ∧ (0 ≤ n ∧ n < len) ∧ q := ⟨⟨h1, h2, h3⟩, h4, h⟩
theorem own_load_step {v v' s s' off i : Nat} {es : List (List D)} {q : D → Prop} (h1 : v = v') (h2 : s = s') (e : List D) (c : D) (h3 : es[i]? = some e) (h4 : e[off]? = some c) (h : q c) : (v = v' ∧ s = s') ∧ ∃ e, es[i]? = some e ∧ ∃ c, e[off]? = some c ∧ q c := ⟨⟨h1, h2⟩, e, h3, c, h4, h⟩
theorem own_store_step {k sc : Bool} {v v' s s' l m off i : Nat} {es : List (List D)} {q : List D → Prop} (h1 : k = true) (h2 : v = v') (h3 : s = s') (h4 : l = m) (h5 : off + l ≤ s') (h6 : sc = true) (e : List D) (h7 : es[i]? = some e) (h : q e) :
    k = true ∧ (v = v' ∧ s = s') ∧ l = m ∧ off + l ≤ s' ∧ sc = true ∧ ∃ e, es[i]? = some e ∧ q e := ⟨h1, ⟨h2, h3⟩, h4, h5, h6, e, h7, h⟩
end Go.Fw
namespace Go.Fw
set_option linter.unusedSectionVars false
variable [GlobInt]
theorem own_app_step {v v' s s' t n m x w : Nat} {q : Prop} (h1 : v = v') (h2 : s = s') (h3 : s = t) (h4 : n ≤ m) (hb : Nat.ble w 65536 = true) (hx : n ≤ 1073741824) (hy : x ≤ 1073741824) (h : q) : ((v = v' ∧ s' = s) ∧ s = t ∧ n ≤ m) ∧ (n + x) * w ≤ 140737488355328 ∧ q :=
  ⟨⟨⟨h1, h2.symm⟩, h3, h4⟩, app_le hx hy hb, h⟩
theorem mk_step {n m : Int} {c : Nat} {q : Prop} (h1 : 0 ≤ n) (h2 : n ≤ m) (hb : Nat.ble c 65536 = true) (h3 : m ≤ 1073741824) (h : q) : (0 ≤ n ∧ n ≤ m ∧ m * (c : Int) ≤ 140737488355328) ∧ q := by
  refine ⟨⟨h1, h2, ?_⟩, h⟩
  have hb := Nat.le_of_ble_eq_true hb
  have : m * (c : Int) ≤ 1073741824 * 65536 := Int.mul_le_mul h3 (by omega) (by omega) (by omega)
  omega
end Go.Fw
namespace Go.Fw
set_option linter.unusedSectionVars false
variable [GlobInt]
end Go.Fw
