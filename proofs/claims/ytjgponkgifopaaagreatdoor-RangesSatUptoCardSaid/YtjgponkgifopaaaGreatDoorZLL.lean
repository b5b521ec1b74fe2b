/- Loops over lists: the annotations and the lemmas of their walks. -/
import Derived.Test.YtjgponkgifopaaaGreatDoorZK5
import Derived.Test.YtjgponkgifopaaaGreatDoorZDA
set_option linter.unusedSimpArgs false
set_option linter.unusedVariables false
namespace Go.Fw
set_option linter.unusedSectionVars false
variable [GlobInt]
theorem BrI.tt {p q : Prop} (h : p) : BrI true p q := BrI.intro (fun _ => h) (fun e => by simp at e)
theorem BrI.ff {p q : Prop} (h : q) : BrI false p q := BrI.intro (fun e => by simp at e) (fun _ => h)
theorem drop_lt {α : Type} {l : List α} {i : Nat} {x : α} {r : List α} (h : l.drop i = x :: r) : i < l.length := by
  rcases Nat.lt_or_ge i l.length with h1 | h1
  · exact h1
  · rw [List.drop_eq_nil_of_le h1] at h; simp at h
abbrev rangeL {α β : Type} (l : List α) (slot : Nat) (ev : β → Env) (hv : β → Heap) (keep : List Nat) (I : Nat → List α → β → Prop) : Loop where
  S := Nat × List α × β
  ev s := match s with | (i, _, b) => (slot, .data (.val (.int .i64 (i : Int)))) :: ev b
  hv s := match s with | (_, _, b) => hv b
  keep := keep
  I s := match s with | (i, r, b) => l.drop i = r ∧ I i r b
  μ s := match s with | (_, r, _) => r.length
theorem rangeL_rule {α β : Type} {l : List α} {slot : Nat} {ev : β → Env} {hv : β → Heap} {keep : List Nat} {I : Nat → List α → β → Prop} {E F : Nat × List α × β → Prop} (b : β)
    (hW : E (0, l, b)) (hI : I 0 l b) (h0 : ∀ i b, l.drop i = [] → I i [] b → F (i, [], b)) (h1 : ∀ i x r b, l.drop i = x :: r → i < l.length → I i (x :: r) b → F (i, x :: r, b)) :
    (∃ s, (rangeL l slot ev hv keep I).I s ∧ E s) ∧ ∀ s, (rangeL l slot ev hv keep I).I s → F s := by
  refine ⟨⟨(0, l, b), ⟨rfl, hI⟩, hW⟩, ?_⟩
  rintro ⟨i, r, b⟩ ⟨hd, h⟩
  cases r with
  | nil => exact h0 i b hd h
  | cons x r => exact h1 i x r b hd (drop_lt hd) h
theorem drop_next {α : Type} {l : List α} {i : Nat} {x : α} {r : List α} (h : l.drop i = x :: r) : l.drop (i + 1) = r := by
  have h1 := drop_lt h
  rw [List.drop_eq_getElem_cons h1] at h
  exact (List.cons.inj h).2
theorem drop_get {α : Type} {l : List α} {i : Nat} {x : α} {r : List α} (h : l.drop i = x :: r) : l[i]? = some x := by
  have h1 := drop_lt h
  rw [List.drop_eq_getElem_cons h1] at h
  rw [List.getElem?_eq_getElem h1, (List.cons.inj h).1]
theorem drop_mem {α : Type} {l : List α} {i : Nat} {x : α} {r : List α} (h : l.drop i = x :: r) : x ∈ l := List.mem_of_getElem? (drop_get h)
theorem drop_ge {α : Type} {l : List α} {i : Nat} (h : l.drop i = []) : l.length ≤ i := by simpa using h
theorem range_nil {α β : Type} {l : List α} {f : α → β} {i : Nat} (h : l.drop i = []) : decide ((i : Int) < ((l.map f).length : Int)) = false := by
  have := drop_ge h
  simp; omega
theorem range_cons {α β : Type} {l : List α} {f : α → β} {i : Nat} {x : α} {r : List α} (h : l.drop i = x :: r) : decide ((i : Int) < ((l.map f).length : Int)) = true := by
  have := drop_lt h
  simp; omega
theorem br_nil {α β : Type} {l : List α} {f : α → β} {i : Nat} {p q : Prop} (h : l.drop i = []) (hq : q) : BrI (decide ((i : Int) < ((l.map f).length : Int))) p q := by
  rw [range_nil h]; exact BrI.ff hq
theorem br_cons {α β : Type} {l : List α} {f : α → β} {i : Nat} {x : α} {r : List α} {p q : Prop} (h : l.drop i = x :: r) (hp : p) : BrI (decide ((i : Int) < ((l.map f).length : Int))) p q := by
  rw [range_cons h]; exact BrI.tt hp
theorem idx_drop {α β : Type} {l : List α} {f : α → β} {i : Nat} {x : α} {r : List α} (h : l.drop i = x :: r) : 0 ≤ (i : Int) ∧ (l.map f)[(i : Int).toNat]? = some (f x) :=
  ⟨by omega, by simp [drop_get h]⟩
theorem idx_next {α : Type} {l : List α} {i : Nat} {x : α} {r : List α} (h : l.drop i = x :: r) (hl : l.length ≤ 9223372036854775807) : AV.data (.val (.int .i64 (IntKind.i64.wrap ((i : Int) + 1)))) = AV.data (.val (.int .i64 ((i + 1 : Nat) : Int))) := by
  have := drop_lt h
  rw [wrap_ok (by omega) (by omega)]; rfl
theorem rangeL_next {α β : Type} {l : List α} {slot : Nat} {ev : β → Env} {hv : β → Heap} {keep : List Nat} {I : Nat → List α → β → Prop} {E : Nat × List α × β → Prop} {i : Nat} {x : α} {r : List α} {b0 : β} (hd : l.drop i = x :: r) (b : β)
    (hW : E (i + 1, r, b)) (hI : I (i + 1) r b) :
    ∃ s, (rangeL l slot ev hv keep I).I s ∧ (rangeL l slot ev hv keep I).μ s < (rangeL l slot ev hv keep I).μ (i, x :: r, b0) ∧ E s :=
  ⟨(i + 1, r, b), ⟨drop_next hd, hI⟩, Nat.lt_succ_self _, hW⟩
theorem chk_step {T : Tbl} {ops : Array Oper} {env : Env} {K : Heap} {tr : List Rec} {q : Prop} (h : chk T ops env K tr = true) (hq : q) : chk T ops env K tr = true ∧ q := ⟨h, hq⟩
theorem br_nil_e {l : List Ex} {i : Nat} {p q : Prop} (h : l.drop i = []) (hq : q) : BrI (decide ((i : Int) < ((Ex.css l).length : Int))) p q := by
  rw [Ex.css_eq]; exact br_nil h hq
theorem br_cons_e {l : List Ex} {i : Nat} {x : Ex} {r : List Ex} {p q : Prop} (h : l.drop i = x :: r) (hp : p) : BrI (decide ((i : Int) < ((Ex.css l).length : Int))) p q := by
  rw [Ex.css_eq]; exact br_cons h hp
theorem idx_drop_e {l : List Ex} {i : Nat} {x : Ex} {r : List Ex} (h : l.drop i = x :: r) : 0 ≤ (i : Int) ∧ (Ex.css l)[(i : Int).toNat]? = some (Ex.cs x) := by
  rw [Ex.css_eq]; exact idx_drop h
theorem Ex.css_len (l : List Ex) : (Ex.css l).length = l.length := by rw [Ex.css_eq]; simp
theorem wrap_nat {a b : Nat} (h : a + b ≤ 9223372036854775807) : IntKind.i64.wrap ((a : Int) + (b : Int)) = ((a + b : Nat) : Int) := by
  rw [wrap_ok (by omega) (by omega)]; omega
theorem idx_step {k : Bool} {a b : Nat} {n : Int} {es : List (List D)} {q : List D → Prop} (h1 : k = true) (h2 : a = b) (c : List D) (h3 : 0 ≤ n ∧ es[n.toNat]? = some c) (h4 : q c) : (k = true ∧ a = b) ∧ ∃ c, (0 ≤ n ∧ es[n.toNat]? = some c) ∧ q c := ⟨⟨h1, h2⟩, c, h3, h4⟩
theorem len_step {cs : List D} {t : TI} {q : Prop} (h1 : cs.length = t.size) (h : q) : cs.length = t.size ∧ q := ⟨h1, h⟩
theorem guard_step {p g : Bool} {A B : AV → Prop} (h1 : p = true) (v : AV) (h2 : g = true → A v) (h3 : B v) : p = true ∧ ∃ v, (g = true → A v) ∧ B v := ⟨h1, v, h2, h3⟩
theorem val_step {a v : AV} {b c : Heap} (h : a = v) (h2 : b = c) : a = v ∧ b = c := ⟨h, h2⟩
theorem same_step {b c : Heap} {q : Prop} (h : b = c) (h2 : q) : b = c ∧ q := ⟨h, h2⟩
theorem call_step {A M : DOut → Prop} {V : Prop} (out : DOut) (h : A out) (h2 : M out) : (∃ out, A out ∧ M out) ∨ V := .inl ⟨out, h, h2⟩
theorem ret_step {T : Tbl} {rs : List ResultVar} {K0 K K1 : Heap} {out : AOut} {env : Env} {q : Prop} (h : finR T rs K0 out K1 env K) : finR T rs K0 out K1 env K ∨ q := .inl h
theorem gs_eq {id id' sz sz' : Nat} {es es' : List (List D)} (h0 : id = id') (h : sz = sz') (h2 : es = es') : AV.gs id sz es = AV.gs id' sz' es' := by rw [h0, h, h2]
theorem tok_eq {sz sz' : Nat} {es es' : List (List D)} (h : sz = sz') (h2 : es = es') : Block.tok sz es.length = Block.tok sz' es'.length := by rw [h, h2]
theorem map_snoc {α : Type} {l : List α} {f : α → List D} {x : α} : l.map f ++ [f x] = (l ++ [x]).map f := by simp
theorem map_app {α : Type} {l m : List α} {f : α → List D} : l.map f ++ m.map f = (l ++ m).map f := by simp
theorem map_app3 {α : Type} {l m k : List α} {f : α → List D} : l.map f ++ m.map f ++ k.map f = (l ++ m ++ k).map f := by simp
theorem map_app4 {α : Type} {l m k o : List α} {f : α → List D} : l.map f ++ m.map f ++ k.map f ++ o.map f = (l ++ m ++ k ++ o).map f := by simp
theorem app_le {a y b : Nat} (h1 : a ≤ 1073741824) (h2 : y ≤ 1073741824) (h3 : Nat.ble b 65536 = true) : (a + y) * b ≤ 140737488355328 :=
  Nat.le_trans (Nat.mul_le_mul (show a + y ≤ 2147483648 by omega) (Nat.le_of_ble_eq_true h3)) (by decide)
theorem app_le0 {y b : Nat} (h2 : y ≤ 1073741824) (h3 : Nat.ble b 65536 = true) : y * b ≤ 140737488355328 :=
  Nat.le_trans (Nat.mul_le_mul (show y ≤ 2147483648 by omega) (Nat.le_of_ble_eq_true h3)) (by decide)
theorem ble_le {a b : Nat} (h : Nat.ble a b = true) : a ≤ b := Nat.le_of_ble_eq_true h
theorem app_step' {a b c n m x y w : Nat} {q : Prop} (h1 : a = b) (h2 : b = c) (h3 : n = m) (hb : Nat.ble w 65536 = true) (hx : x ≤ 1073741824) (hy : y ≤ 1073741824) (h : q) : (a = b ∧ b = c ∧ n = m) ∧ (x + y) * w ≤ 140737488355328 ∧ q := ⟨⟨h1, h2, h3⟩, app_le hx hy hb, h⟩
theorem nil_step' {a b x y : Nat} {q : Prop} (h1 : a = b) (hb : Nat.ble y 65536 = true) (hx : x ≤ 1073741824) (h : q) : a = b ∧ x * y ≤ 140737488355328 ∧ q := ⟨h1, app_le0 hx hb, h⟩
theorem lent_step {B : FuncId → List AV → Heap → AOut → Heap → Prop} {L : List Nat} {f : FuncId} {as as0 : List AV} {env : Env} {K K0 K1 : Heap} {out : AOut} {next pan : Next} {Z : Prop} (ρ : List (Nat × Nat)) (h : B f as0 K0 out K1) (h1 : AV.ren.go ρ as0 = as) (h2 : Heap.sub ρ K K0) (h3 : lentOk ρ K0 K1 out.av env K L = true)
    (h4 : outGo ρ K1 K next pan out) : Z ∨ vLent B L f as env K next pan := .inr ⟨as0, K0, out, K1, ρ, h, h1, h2, h3, h4⟩
theorem lent_step' {B : FuncId → List AV → Heap → AOut → Heap → Prop} {L : List Nat} {f : FuncId} {as as0 : List AV} {env : Env} {K K0 K1 : Heap} {out : AOut} {next pan : Next} (ρ : List (Nat × Nat)) (h : B f as0 K0 out K1) (h1 : AV.ren.go ρ as0 = as) (h2 : Heap.sub ρ K K0) (h3 : lentOk ρ K0 K1 out.av env K L = true)
    (h4 : outGo ρ K1 K next pan out) :
    ∃ (as0 : List AV) (K0 : Heap) (out : AOut) (K1 : Heap) (ρ : List (Nat × Nat)), B f as0 K0 out K1 ∧ AV.ren.go ρ as0 = as ∧ Heap.sub ρ K K0 ∧ lentOk ρ K0 K1 out.av env K L = true ∧
    outGo ρ K1 K next pan out := ⟨as0, K0, out, K1, ρ, h, h1, h2, h3, h4⟩
theorem fin_step' {K0 K K1 : Heap} {x y : AV} (τ : List (Nat × Nat)) (h1 : finOk τ K0 K1 y = true) (h2 : covA K (mapRn τ (keys K1)) τ 100 x y) (h3 : covH K (mapRn τ (keys K1)) τ K1) : ∃ τ, finOk τ K0 K1 y = true ∧ covA K (mapRn τ (keys K1)) τ 100 x y ∧ covH K (mapRn τ (keys K1)) τ K1 := ⟨τ, h1, h2, h3⟩
theorem gs_ren {τ : List (Nat × Nat)} {id id' sz sz' : Nat} {es es' : List (List D)} (h : id = rn τ id') (h0 : sz = sz') (h1 : es = es') : AV.gs id sz es = AV.ren τ (AV.gs id' sz' es') := by
  subst h h0 h1; simp only [AV.ren]
theorem ren_guard {τ : List (Nat × Nat)} {x y : AV} (h : x = AV.ren τ y) : x = AV.ren τ y := h
theorem br_nil_k {α : Type} {l : List α} {i k : Nat} {p q : Prop} (h : l.drop i = []) (hk : l.length = k) (hq : q) : BrI (decide ((i : Int) < (k : Int))) p q := by
  have := drop_ge h
  rw [show decide ((i : Int) < (k : Int)) = false by simp; omega]; exact BrI.ff hq
theorem br_cons_k {α : Type} {l : List α} {i k : Nat} {x : α} {r : List α} {p q : Prop} (h : l.drop i = x :: r) (hk : l.length = k) (hp : p) : BrI (decide ((i : Int) < (k : Int))) p q := by
  have := drop_lt h
  rw [show decide ((i : Int) < (k : Int)) = true by simp; omega]; exact BrI.tt hp
theorem br_nil_and {α β : Type} {l : List α} {f : α → β} {i : Nat} {c : Bool} {p q : Prop} (h : l.drop i = []) (hq : q) : BrI (bif decide ((i : Int) < ((l.map f).length : Int)) then c else false) p q := by
  rw [range_nil h]; exact BrI.ff hq
theorem br_cons_and {α β : Type} {l : List α} {f : α → β} {i : Nat} {x : α} {r : List α} {c : Bool} {p q : Prop} (h : l.drop i = x :: r) (hp : BrI c p q) : BrI (bif decide ((i : Int) < ((l.map f).length : Int)) then c else false) p q := by
  rw [range_cons h]; exact hp
theorem idx_take {α β : Type} {l : List α} {f : α → β} {i k : Nat} {x : α} {r : List α} (h : (l.take k).drop i = x :: r) : 0 ≤ (i : Int) ∧ (l.map f)[(i : Int).toNat]? = some (f x) := by
  have h1 := drop_get h
  have h2 := drop_lt h
  rw [List.length_take] at h2
  rw [List.getElem?_take] at h1
  refine ⟨by omega, ?_⟩
  split at h1
  · simp [h1]
  · simp at h1
theorem idx_get {α β : Type} {l : List α} {f : α → β} {i : Nat} {x : α} (h : l[i]? = some x) : 0 ≤ (i : Int) ∧ (l.map f)[(i : Int).toNat]? = some (f x) := ⟨by omega, by simp [h]⟩
theorem idx_str {l : List UInt8} {i : Nat} {x : UInt8} {r : List UInt8} (h : l.drop i = x :: r) : 0 ≤ (i : Int) ∧ l[(i : Int).toNat]? = some x := ⟨by omega, by simp [drop_get h]⟩
theorem idx_getD {l : List UInt8} {n : Int} (h0 : 0 ≤ n) (h : n < l.length) : 0 ≤ n ∧ l[n.toNat]? = some (l.getD n.toNat 0) := by
  refine ⟨h0, ?_⟩
  have : n.toNat < l.length := by omega
  rw [List.getD_eq_getElem?_getD, List.getElem?_eq_getElem this]; rfl
theorem Ex.css_map (l : List Ex) : l.map Ex.cs = Ex.css l := (Ex.css_eq l).symm
theorem zip_get {α β : Type} {l : List α} {m : List β} {i : Nat} {x : α × β} {r : List (α × β)} (h : (l.zip m).drop i = x :: r) : l[i]? = some x.1 ∧ m[i]? = some x.2 := by
  have := drop_get h
  rw [List.getElem?_zip_eq_some] at this
  exact this
theorem idx_zip1 {α β γ : Type} {l : List α} {m : List β} {f : α → γ} {i : Nat} {x : α × β} {r : List (α × β)} (h : (l.zip m).drop i = x :: r) : 0 ≤ (i : Int) ∧ (l.map f)[(i : Int).toNat]? = some (f x.1) := idx_get (zip_get h).1
theorem idx_zip2 {α β γ : Type} {l : List α} {m : List β} {f : β → γ} {i : Nat} {x : α × β} {r : List (α × β)} (h : (l.zip m).drop i = x :: r) : 0 ≤ (i : Int) ∧ (m.map f)[(i : Int).toNat]? = some (f x.2) := idx_get (zip_get h).2
theorem idx_zip1e {l : List Ex} {m : List Ex} {i : Nat} {x : Ex × Ex} {r : List (Ex × Ex)} (h : (l.zip m).drop i = x :: r) : 0 ≤ (i : Int) ∧ (Ex.css l)[(i : Int).toNat]? = some (Ex.cs x.1) := by rw [Ex.css_eq]; exact idx_zip1 h
theorem idx_zip2e {l : List Ex} {m : List Ex} {i : Nat} {x : Ex × Ex} {r : List (Ex × Ex)} (h : (l.zip m).drop i = x :: r) : 0 ≤ (i : Int) ∧ (Ex.css m)[(i : Int).toNat]? = some (Ex.cs x.2) := by rw [Ex.css_eq]; exact idx_zip2 h
theorem zip_len {α β : Type} {l : List α} {m : List β} (h : l.length = m.length) : (l.zip m).length = l.length := by simp [h]
theorem str_idx {l : List UInt8} {i : Nat} {x : UInt8} {r : List UInt8} {q : UInt8 → Prop} (h : l.drop i = x :: r) (h4 : q x) : ∃ c, (0 ≤ (i : Int) ∧ l[(i : Int).toNat]? = some c) ∧ q c := ⟨x, idx_str h, h4⟩
theorem str_getD {l : List UInt8} {n : Int} {q : UInt8 → Prop} (h0 : 0 ≤ n) (h : n < l.length) (h4 : q (l.getD n.toNat 0)) : ∃ c, (0 ≤ n ∧ l[n.toNat]? = some c) ∧ q c := ⟨_, idx_getD h0 h, h4⟩
theorem nilgs_step {s s' id : Nat} {es : List (List D)} {e : Env} {K : Heap} (h1 : s = s') (h2 : es = []) (h3 : K.get id = none) (h4 : isLent id = false) (h5 : menE id e = false) (h6 : menH id K = false) : s = s' ∧ es = [] ∧ K.get id = none ∧ isLent id = false ∧ menE id e = false ∧ menH id K = false := ⟨h1, h2, h3, h4, h5, h6⟩
theorem tok0_step {b : Block} {id : Nat} {e : Env} {K : Heap} (h3 : b.isTok0 = true) (h4 : isLent id = false) (h5 : menE id e = false) (h6 : menH id K = false) : b.isTok0 = true ∧ isLent id = false ∧ menE id e = false ∧ menH id K = false := ⟨h3, h4, h5, h6⟩
theorem kok_step {a b : Bool} {q : Prop} (h1 : a = true) (h2 : b = true) (h : q) : (a = true ∧ b = true) ∧ q := ⟨⟨h1, h2⟩, h⟩
def needOut (t : TypeId) (b : Bool) (e : Int) : DOut := match b with | true => .ret (.tuple []) | false => .pan (.iface t (.i e))
theorem need_step {A M : DOut → Prop} {V : Prop} {b : Bool} {e : Int} {t : TypeId} (hA : A (needOut t b e)) (h1 : b = true → M (.ret (.tuple []))) (h2 : b = false → M (.pan (.iface t (.i e)))) : (∃ out, A out ∧ M out) ∨ V := by
  refine .inl ⟨_, hA, ?_⟩
  cases b
  · exact h2 rfl
  · exact h1 rfl
theorem ret_need {T : Tbl} {rs : List ResultVar} {K0 K K1 : Heap} {env : Env} {q : Prop} {b : Bool} {e : Int} {t : TypeId} (hb : b = true) (h : finR T rs K0 (.ret (.data (.tuple []))) K1 env K) : finR T rs K0 (needOut t b e).toA K1 env K ∨ q := by
  subst hb; exact .inl h
theorem pan_need {K0 K K1 : Heap} {x : AV} {b : Bool} {e : Int} {t : TypeId} (hb : b = false) (h : fin K0 K x (.data (.iface t (.i e))) K1) : panR K0 K x K1 (needOut t b e).toA := by
  subst hb; unfold panR; exact h
theorem pan_step {K0 K K1 : Heap} {x : AV} {d : D} (h : fin K0 K x (.data d) K1) : panR K0 K x K1 (DOut.pan d).toA := by
  unfold panR; exact h
theorem pan_stepA {K0 K K1 : Heap} {x y : AV} (h : fin K0 K x y K1) : panR K0 K x K1 (.pan y) := by
  unfold panR; exact h
end Go.Fw
namespace Go.Fw
set_option linter.unusedSectionVars false
variable [GlobInt]
theorem own_idx_step {a b v v' len : Nat} {k : Bool} {n : Int} {q : Prop} (h1 : k = true) (h2 : a = b) (h3 : v = v') (h4 : 0 ≤ n ∧ n < len) (h : q) : (k = true ∧ a = b ∧ v = v') ∧ (0 ≤ n ∧ n < len) ∧ q := ⟨⟨h1, h2, h3⟩, h4, h⟩
theorem own_load_step {v v' s s' off i : Nat} {es : List (List D)} {q : D → Prop} (h1 : v = v') (h2 : s = s') (e : List D) (c : D) (h3 : es[i]? = some e) (h4 : e[off]? = some c) (h : q c) : (v = v' ∧ s = s') ∧ ∃ e, es[i]? = some e ∧ ∃ c, e[off]? = some c ∧ q c := ⟨⟨h1, h2⟩, e, h3, c, h4, h⟩
theorem own_store_step {k sc : Bool} {v v' s s' l m off i : Nat} {es : List (List D)} {q : List D → Prop} (h1 : k = true) (h2 : v = v') (h3 : s = s') (h4 : l = m) (h5 : off + l ≤ s') (h6 : sc = true) (e : List D) (h7 : es[i]? = some e) (h : q e) :
    k = true ∧ (v = v' ∧ s = s') ∧ l = m ∧ off + l ≤ s' ∧ sc = true ∧ ∃ e, es[i]? = some e ∧ q e := ⟨h1, ⟨h2, h3⟩, h4, h5, h6, e, h7, h⟩
end Go.Fw
namespace Go.Fw
set_option linter.unusedSectionVars false
variable [GlobInt]
theorem own_app_step {v v' s s' t n m x w : Nat} {q : Prop} (h1 : v = v') (h2 : s = s') (h3 : s = t) (h4 : n ≤ m) (hb : Nat.ble w 65536 = true) (hx : n ≤ 1073741824) (hy : x ≤ 1073741824) (h : q) : ((v = v' ∧ s' = s) ∧ s = t ∧ n ≤ m) ∧ (n + x) * w ≤ 140737488355328 ∧ q :=
  ⟨⟨⟨h1, h2.symm⟩, h3, h4⟩, app_le hx hy hb, h⟩
end Go.Fw
namespace Go.Fw
set_option linter.unusedSectionVars false
variable [GlobInt]
abbrev whileL {β : Type} (ev : β → Env) (hv : β → Heap) (keep : List Nat) (I : β → Prop) (μ : β → Nat) : Loop where
  S := β
  ev := ev
  hv := hv
  keep := keep
  I := I
  μ := μ
theorem whileL_rule {β : Type} {ev : β → Env} {hv : β → Heap} {keep : List Nat} {I : β → Prop} {μ : β → Nat} {E F : β → Prop} (b : β) (hW : E b) (hI : I b) (h : ∀ b, I b → F b) :
    (∃ s, (whileL ev hv keep I μ).I s ∧ E s) ∧ ∀ s, (whileL ev hv keep I μ).I s → F s := ⟨⟨b, hI, hW⟩, h⟩
theorem whileL_next {β : Type} {ev : β → Env} {hv : β → Heap} {keep : List Nat} {I : β → Prop} {μ : β → Nat} {E : β → Prop} {b0 : β} (b : β) (hW : E b) (hI : I b) (hm : μ b < μ b0) :
    ∃ s, (whileL ev hv keep I μ).I s ∧ (whileL ev hv keep I μ).μ s < (whileL ev hv keep I μ).μ b0 ∧ E s := ⟨b, hI, hm, hW⟩
theorem flat_step {d : D} {q : Prop} (h1 : D.flat d = true) (h2 : q) : D.flat d = true ∧ q := ⟨h1, h2⟩
end Go.Fw
