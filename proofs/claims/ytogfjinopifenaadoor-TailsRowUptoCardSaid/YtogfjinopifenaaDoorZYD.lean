/- Contracts: the laws of tails: TailsDeclared, TailsBound. -/
import Derived.Test.YtogfjinopifenaaDoorZYC
set_option linter.unusedSectionVars false
set_option linter.unusedSimpArgs false
set_option linter.unusedVariables false
set_option maxHeartbeats 8000000
namespace Go.Proofs.YtogfjinopifenaaDoor
open Go.Fw Go.Fw.Ref15 Go.Fw.Rg Go.Fw.Tl
set_option maxRecDepth 10000
variable [GlobInt]
end Go.Proofs.YtogfjinopifenaaDoor
namespace Go.Proofs.YtogfjinopifenaaDoor
open Go.Fw Go.Fw.Ref15 Go.Fw.Rg Go.Fw.Tl
set_option maxRecDepth 10000
variable [GlobInt] {i : Nat} {s r : List Nat} {b : Bool} {q : List UInt8 → Prop}
abbrev u8D (n : Nat) : List D := [.val (.int .u8 (n : Int))]
theorem z1q : ∀ i : Nat, i ≤ 9 → IntKind.u8.wrap (48 + (i : Int)) = ((UInt8.ofNat (48 + i)).toNat : Int) := by
 intro i h
 have : ∀ k : Fin 10, IntKind.u8.wrap (48 + ((k : Nat) : Int)) = ((UInt8.ofNat (48 + (k : Nat))).toNat : Int) := by decide
 exact this ⟨i, by omega⟩
theorem z1r (h : i ≤ 9) : [[D.val (.int .u8 (IntKind.u8.wrap (IntKind.i64.wrap (48 + (i : Int)))))]] = [UInt8.ofNat (48 + i)].map fun b => [D.val (.int .u8 (b.toNat : Int))] := by
 rw [bu (by omega) (by omega), z1q i h]; rfl
theorem z2a (h : i ≤ 9) (h0 : i ≠ 0) : [[D.val (.int .u8 (IntKind.u8.wrap (IntKind.i64.wrap (IntKind.i64.wrap (48 + (i : Int)) - 1))))]] = [UInt8.ofNat (48 + (i - 1))].map fun b => [D.val (.int .u8 (b.toNat : Int))] := by
 rw [bu (n := 48 + (i : Int)) (by omega) (by omega), bu (by omega) (by omega), show (48 + (i : Int) - 1) = 48 + ((i - 1 : Nat) : Int) by omega, z1q (i - 1) (by omega)]; rfl
theorem z2c (h : i ≤ 9) (h0 : i ≠ 0) : [[D.val (.int .u8 (IntKind.u8.wrap (IntKind.i64.wrap (48 + IntKind.i64.wrap ((i : Int) - 1)))))]] = [UInt8.ofNat (48 + (i - 1))].map fun b => [D.val (.int .u8 (b.toNat : Int))] := by
 rw [bu (n := (i : Int) - 1) (by omega) (by omega), show ((i : Int) - 1) = ((i - 1 : Nat) : Int) by omega]
 exact z1r (by omega)
theorem byA {sz i : Nat} (hs : sz = 1) (h : i ≤ 9) (hq : q [UInt8.ofNat (48 + i)]) : ∃ bs : List UInt8, chunks sz 1 [D.val (.int .u8 (IntKind.u8.wrap (IntKind.i64.wrap (48 + (i : Int)))))] = bs.map (fun b => [D.val (.int .u8 (b.toNat : Int))]) ∧ q bs := by
 subst hs; exact ⟨_, z1r h, hq⟩
theorem byB {sz i n : Nat} (e : i = n) (hs : sz = 1) (h : n ≤ 9) (h0 : n ≠ 0) (hq : q [UInt8.ofNat (48 + (n - 1))]) : ∃ bs : List UInt8, chunks sz 1 [D.val (.int .u8 (IntKind.u8.wrap (IntKind.i64.wrap (IntKind.i64.wrap (48 + (i : Int)) - 1))))] = bs.map (fun b => [D.val (.int .u8 (b.toNat : Int))]) ∧ q bs := by
 subst hs; subst e; exact ⟨_, z2a h h0, hq⟩
theorem byC {sz i n : Nat} (e : i = n) (hs : sz = 1) (h : n ≤ 9) (h0 : n ≠ 0) (hq : q [UInt8.ofNat (48 + (n - 1))]) : ∃ bs : List UInt8, chunks sz 1 [D.val (.int .u8 (IntKind.u8.wrap (IntKind.i64.wrap (48 + IntKind.i64.wrap ((i : Int) - 1)))))] = bs.map (fun b => [D.val (.int .u8 (b.toNat : Int))]) ∧ q bs := by
 subst hs; subst e; exact ⟨_, z2c h h0, hq⟩
theorem QE {s : List Nat} (h : decide (((s.map u8D).length : Int) > 0) = true) : s.length ≠ 0 := by
 have := of_decide_eq_true h
 rw [List.length_map] at this; omega
theorem QF (h : decide ((i : Int) > 0) = true) : i ≠ 0 := by
 have := of_decide_eq_true h; omega
theorem ZC {i n : Nat} (h : s.drop i = n :: r) : 0 ≤ ((i : Nat) : Int) ∧ (s.map u8D)[((i : Nat) : Int).toNat]? = some (u8D n) := by
 refine ⟨Int.natCast_nonneg _, ?_⟩
 have h2 := congrArg (fun l => l[0]?) h
 simp at h2
 rw [Int.toNat_natCast, List.getElem?_map, h2]; rfl
theorem z08 {i n : Nat} (h : s.drop i = n :: r) : s.getD i 0 = n := by
 have h2 := congrArg (fun l => l[0]?) h
 simp at h2
 rw [List.getD_eq_getElem?_getD, h2]; rfl
theorem z1s {i x : Nat} (h : s.drop i = x :: r) (h8 : ∀ n ∈ s, n ≤ 255) : IntKind.i64.wrap (1 + (IntKind.i64.wrap (x : Int)).tmod 50) = szA s i := by
 have hx := h8 x (List.mem_of_mem_drop (i := i) (by rw [h]; simp))
 have hm := Nat.mod_lt x (show 50 > 0 by decide)
 have e : (x : Int).tmod 50 = ((x % 50 : Nat) : Int) := by rw [Int.tmod_eq_emod_of_nonneg (by omega)]; omega
 rw [bu (n := (x : Int)) (by omega) (by omega), e, bu (by omega) (by omega), szA, z08 h]
theorem XQ {i x : Nat} {all : Int} (h : s.drop i = x :: r) (h8 : ∀ n ∈ s, n ≤ 255) (hi : i < 9) (ha : all = di s i) : IntKind.i64.wrap (all + IntKind.i64.wrap (1 + (IntKind.i64.wrap (x : Int)).tmod 50)) = di s (i + 1) := by
 have h1 := jv s i
 have h2 := BU s i
 rw [z1s h h8, ha, bu (by omega) (by omega)]; rfl
theorem ZE {i x : Nat} {ls : List Ln} (h : s.drop i = x :: r) (h8 : ∀ n ∈ s, n ≤ 255) : ls.map Ln.cs ++ [[.str (dS i), .i (IntKind.i64.wrap (1 + (IntKind.i64.wrap (x : Int)).tmod 50)), .i (-2147483648), .i 2147483647]] = (ls ++ [yf s i]).map Ln.cs := by
 rw [z1s h h8, List.map_append]; rfl
theorem QG {st : List Sm} {n : Nat} {x : Ex} (e : Fp n b i = x) : st.map Sm.cs ++ [[.i 3, .str (dS i), .i (i : Nat), .i x.kind, .str x.name, .i x.index, .i x.n, .sl 5 (Ex.css x.l)]] = (st ++ [EZ n b i]).map Sm.cs := by
 subst e; rw [List.map_append]; rfl
theorem z09 (h : i ≠ 0) (h2 : i ≤ 9) : IntKind.i64.wrap ((i : Int) - 1) = ((i - 1 : Nat) : Int) := by rw [bu (by omega) (by omega)]; omega
theorem ZF {n i : Nat} (h : decide ((i : Int) > 0) = true) (hi : i ≤ 9) : Fp n b i = Yb ([100] ++ [UInt8.ofNat (48 + (i - 1))]) (IntKind.i64.wrap ((i : Int) - 1)) 0 := by
 have h0 := QF h
 rw [Fp, if_neg h0, z09 h0 hi]; rfl
theorem XR {s : List Nat} (h : (bif ((i : Nat) : Int) == 0 then b else false) = true) (hi : i < s.length) (hs : s.length ≤ 9) : Fp s.length b i = ⟨10, [], 0, 0, [⟨15, [], 0, 0, [inX 0, Yb ([100] ++ [UInt8.ofNat (48 + (s.length - 1))]) (IntKind.i64.wrap (((s.map u8D).length : Int) - 1)) 0]⟩]⟩ := by
 have h0 : i = 0 := by
  by_cases e : i = 0
  ·exact e
  ·rw [show (((i : Nat) : Int) == 0) = false by rw [beq_eq_false_iff_ne]; omega] at h
   exact Bool.noConfusion h
 have hb : b = true := by subst h0; exact h
 rw [List.length_map, Fp, if_pos h0, if_pos hb, z09 (by omega) hs]; rfl
theorem z1a {n i : Nat} (h0 : decide ((i : Int) > 0) = false) (h : (bif ((i : Nat) : Int) == 0 then b else false) = false) : Fp n b i = inX 0 := by
 have h0 : i = 0 := by have := of_decide_eq_false h0; omega
 have hb : b = false := by subst h0; exact h
 rw [Fp, if_pos h0, if_neg (by rw [hb]; decide)]
theorem XT {s : List Nat} (h : decide (((s.map u8D).length : Int) > 0) = true) (hs : s.length ≤ 9) : Fp s.length false s.length = Yb ([100] ++ [UInt8.ofNat (48 + (s.length - 1))]) (IntKind.i64.wrap (((s.map u8D).length : Int) - 1)) 0 := by
 have h0 := QE h
 rw [List.length_map, Fp, if_neg h0, z09 h0 hs]; rfl
theorem XU {s : List Nat} (h : decide (((s.map u8D).length : Int) > 0) = false) : Fp s.length false s.length = inX 0 := by
 have h0 : s.length = 0 := by have := of_decide_eq_false h; rw [List.length_map] at this; omega
 rw [Fp, if_pos h0, if_neg (by decide)]
theorem QH {s : List Nat} {all : Int} {ls : List Ln} {st : List Sm} {x : Ex} (hI : i + ([] : List Nat).length = s.length ∧ all = di s i ∧ ls = (List.range i).map (yf s) ∧ st = (List.range i).map (EZ s.length b)) (e : Fp s.length false s.length = x) :
  D.tuple [.agg [.str [114, 111, 119], .i 0, .i (-1), .sl 3 [], .sl 3 [], .sl 4 (ls.map Ln.cs), .sl 2 [], .sl 8 (st.map Sm.cs ++ [[.i 4, .str [], .i 0, .i x.kind, .str x.name, .i x.index, .i x.n, .sl 5 (Ex.css x.l)]])], .i all] = .tuple [(rowP s b).d, .i (di s s.length)] := by
 obtain ⟨h1, rfl, rfl, rfl⟩ := hI
 have h1 : i = s.length := h1
 subst h1
 subst e
 show _ = D.tuple [.agg [.str [114, 111, 119], .i 0, .i (-1), .sl 3 [], .sl 3 [], .sl 4 (((List.range s.length).map (yf s)).map Ln.cs), .sl 2 [], .sl 8 (((List.range s.length).map (EZ s.length b) ++ [Zo s.length]).map Sm.cs)], .i (di s s.length)]
 rw [List.map_append (l₂ := [Zo s.length])]; rfl
theorem XV (h : decide ((i : Int) > 0) = true) (h2 : (bif ((i : Nat) : Int) == 0 then b else false) = true) : False := by
 have := of_decide_eq_true h
 rw [show (((i : Nat) : Int) == 0) = false by rw [beq_eq_false_iff_ne]; omega] at h2
 exact Bool.noConfusion h2
theorem JR (s : List Nat) (b : Bool) (hs : s.length ≤ 9) (h8 : ∀ n ∈ s, n ≤ 255) : PCall Tryd.prog 15 [.sl 1 (s.map u8D), .b b] (.ret (.tuple [(rowP s b).d, .i (di s s.length)])) := by
 refine ae tok hmix ⟨[], []⟩ Tryd.func15 rfl (by kernel_rfl) (by kernel_rfl) (by kernel_rfl) fun hf => ?_
 have hl_s : s.length ≤ 9223372036854775807 := by omega
 clear hf
 repeat' ((try (conv => whnf)) <;> first
  | ((with_reducible refine aH ?_ ?_ ?_ ?_ ?_); exact rfl; exact rfl; rotate_left; exact ZC hd0)
  | (exact (XV ‹_› h).elim)
  | ((with_reducible refine byA ?_ ?_ ?_); exact rfl; omega)
  | ((with_reducible refine byB (n := s.length) (List.length_map _) ?_ ?_ ?_ ?_); exact rfl; omega; exact QE ‹_›)
  | ((with_reducible refine byB (n := i0) rfl ?_ ?_ ?_ ?_); exact rfl; omega; exact QF ‹_›)
  | ((with_reducible refine byC (n := s.length) (List.length_map _) ?_ ?_ ?_ ?_); exact rfl; omega; omega)
  | with_reducible exact trivial
  | with_reducible exact au hd0 ‹_›
  | with_reducible refine bK hd0 ?_
  | with_reducible refine aY hd0 ?_
  | with_reducible refine BrI.intro (fun h => ?_) (fun h => ?_)
  | ((with_reducible refine aG.mk 0 ?_); refine ⟨aN (s) 8 (fun (q : (Int) × (List Ln) × (List Sm)) => match q with | (all, ls, st) => [(7, .data (.val (.int .i64 all)))]) (fun (q : (Int) × (List Ln) × (List Sm)) => match q with | (all, ls, st) => [(6, .cells [.data (.str [114, 111, 119]), .data (.i 0), .data (.i (-1)), .nilsl 3, .nilsl 3, .gs 900006 4 (ls.map Ln.cs), .nilsl 2, .gs 900007 8 (st.map Sm.cs)]), (900006, .tok 4 (ls.map Ln.cs).length), (900007, .tok 8 (st.map Sm.cs).length)]) [0, 1, 4, 6] (fun i0 r0 q => match q with | (all, ls, st) => i0 + r0.length = s.length ∧ all = di s i0 ∧ ls = (List.range i0).map (yf s) ∧ st = (List.range i0).map (EZ s.length b)), ?_⟩; with_reducible refine af (?_, ([]), ([])) ?_ ?_ (fun i0 ⟨all, ls, st⟩ hd0 hI0 => ?_) (fun i0 x0 r0 ⟨all, ls, st⟩ hd0 hl0 hI0 => ?_))
  | (with_reducible refine ag hd0 (?_, (ls ++ [yf s i0]), (st ++ [EZ s.length b i0])) ?_ ?_)
  | ((with_reducible refine ai ?_ ?_ ?_); rotate_left; (first | exact Ht _ | exact JQ _ _ _))
  | (with_reducible refine bF.l _ ?_)
  | ((with_reducible refine dV ?_ ?_ ?_ ?_ ?_ ?_) <;> exact rfl)
  | ((with_reducible refine fO ?_ ?_ ?_ ?_) <;> exact rfl)
  | ((with_reducible refine app_step' ?_ ?_ ?_ ?_ ?_ ?_ ?_); exact rfl; exact rfl; exact rfl; exact rfl)
  | ((with_reducible refine ay ?_ ?_); kernel_rfl)
  | ((with_reducible refine ah ?_); refine ⟨[], rfl, ?_, trivial⟩; conv => whnf)
  | (with_reducible refine And.intro ?_ ?_)
  | ((with_reducible refine uF ?_ ?_ ?_); exact rfl; exact rfl; (first | skip))
  | ((with_reducible refine oJ ?_ ?_); exact rfl; (first | skip))
  | exact @rfl AV _
  | exact kz rfl)
 all_goals first
  | (rfl)
  | (omega)
  | ((have := hI0.1; simp only [List.length_cons] at this; omega))
  | ((exact XQ hd0 h8 (by omega) hI0.2.1))
  | ((rw [hI0.2.2.1, List.range_succ, List.map_append]; rfl))
  | ((rw [hI0.2.2.2, List.range_succ, List.map_append]; rfl))
  | ((show ((1 + 1 : Nat) : Int) ≤ IntKind.i64.max; decide))
  | ((rw [List.length_map, hI0.2.2.1, List.length_map, List.length_range]; have := hI0.1; omega))
  | ((rw [List.length_map, hI0.2.2.2, List.length_map, List.length_range]; have := hI0.1; omega))
  | ((exact ZE hd0 h8))
  | ((exact QG (ZF ‹decide ((i0 : Int) > 0) = true› (by omega))))
  | ((exact QG (XR h (by omega) hs)))
  | ((exact QG (z1a ‹decide ((i0 : Int) > 0) = false› h)))
  | ((exact QH hI0 (XT h hs)))
  | ((exact QH hI0 (XU h)))
  | skip
end Go.Proofs.YtogfjinopifenaaDoor
