/- Contracts: the laws of tails: TailsDeclared, TailsBound. -/
import Derived.Test.YtogfjinopifenaaDoorZYC
set_option linter.unusedSectionVars false
set_option linter.unusedSimpArgs false
set_option linter.unusedVariables false
set_option maxHeartbeats 8000000
namespace Go.Proofs.YtogfjinopifenaaDoor
open Go.Fw Go.Fw.Ref15 Go.Fw.Rg Go.Fw.Tl
set_option maxRecDepth 10000
variable [af]
end Go.Proofs.YtogfjinopifenaaDoor
namespace Go.Proofs.YtogfjinopifenaaDoor
open Go.Fw Go.Fw.Ref15 Go.Fw.Rg Go.Fw.Tl
set_option maxRecDepth 10000
variable [af] {i : Nat} {s r : List Nat} {b : Bool} {q : List UInt8 → Prop}
abbrev u8D (n : Nat) : List D := [.val (.int .u8 (n : Int))]
theorem z2y : ∀ i : Nat, i ≤ 9 → IntKind.u8.wrap (48 + (i : Int)) = ((UInt8.ofNat (48 + i)).toNat : Int) := by
 intro i h
 have : ∀ k : Fin 10, IntKind.u8.wrap (48 + ((k : Nat) : Int)) = ((UInt8.ofNat (48 + (k : Nat))).toNat : Int) := by decide
 exact this ⟨i, by omega⟩
theorem z2z (h : i ≤ 9) : [[D.val (.int .u8 (IntKind.u8.wrap (IntKind.i64.wrap (48 + (i : Int)))))]] = [UInt8.ofNat (48 + i)].map fun b => [D.val (.int .u8 (b.toNat : Int))] := by
 rw [bC (by omega) (by omega), z2y i h]; rfl
theorem z3o (h : i ≤ 9) (h0 : i ≠ 0) : [[D.val (.int .u8 (IntKind.u8.wrap (IntKind.i64.wrap (IntKind.i64.wrap (48 + (i : Int)) - 1))))]] = [UInt8.ofNat (48 + (i - 1))].map fun b => [D.val (.int .u8 (b.toNat : Int))] := by
 rw [bC (n := 48 + (i : Int)) (by omega) (by omega), bC (by omega) (by omega), show (48 + (i : Int) - 1) = 48 + ((i - 1 : Nat) : Int) by omega, z2y (i - 1) (by omega)]; rfl
theorem z3p (h : i ≤ 9) (h0 : i ≠ 0) : [[D.val (.int .u8 (IntKind.u8.wrap (IntKind.i64.wrap (48 + IntKind.i64.wrap ((i : Int) - 1)))))]] = [UInt8.ofNat (48 + (i - 1))].map fun b => [D.val (.int .u8 (b.toNat : Int))] := by
 rw [bC (n := (i : Int) - 1) (by omega) (by omega), show ((i : Int) - 1) = ((i - 1 : Nat) : Int) by omega]
 exact z2z (by omega)
theorem byA {sz i : Nat} (hs : sz = 1) (h : i ≤ 9) (hq : q [UInt8.ofNat (48 + i)]) : ∃ bs : List UInt8, chunks sz 1 [D.val (.int .u8 (IntKind.u8.wrap (IntKind.i64.wrap (48 + (i : Int)))))] = bs.map (fun b => [D.val (.int .u8 (b.toNat : Int))]) ∧ q bs := by
 subst hs; exact ⟨_, z2z h, hq⟩
theorem byB {sz i n : Nat} (e : i = n) (hs : sz = 1) (h : n ≤ 9) (h0 : n ≠ 0) (hq : q [UInt8.ofNat (48 + (n - 1))]) : ∃ bs : List UInt8, chunks sz 1 [D.val (.int .u8 (IntKind.u8.wrap (IntKind.i64.wrap (IntKind.i64.wrap (48 + (i : Int)) - 1))))] = bs.map (fun b => [D.val (.int .u8 (b.toNat : Int))]) ∧ q bs := by
 subst hs; subst e; exact ⟨_, z3o h h0, hq⟩
theorem byC {sz i n : Nat} (e : i = n) (hs : sz = 1) (h : n ≤ 9) (h0 : n ≠ 0) (hq : q [UInt8.ofNat (48 + (n - 1))]) : ∃ bs : List UInt8, chunks sz 1 [D.val (.int .u8 (IntKind.u8.wrap (IntKind.i64.wrap (48 + IntKind.i64.wrap ((i : Int) - 1)))))] = bs.map (fun b => [D.val (.int .u8 (b.toNat : Int))]) ∧ q bs := by
 subst hs; subst e; exact ⟨_, z3p h h0, hq⟩
theorem Ro {s : List Nat} (h : decide (((s.map u8D).length : Int) > 0) = true) : s.length ≠ 0 := by
 have := of_decide_eq_true h
 rw [List.length_map] at this; omega
theorem Rq (h : decide ((i : Int) > 0) = true) : i ≠ 0 := by
 have := of_decide_eq_true h; omega
theorem z0j {i n : Nat} (h : s.drop i = n :: r) : 0 ≤ ((i : Nat) : Int) ∧ (s.map u8D)[((i : Nat) : Int).toNat]? = some (u8D n) := by
 refine ⟨Int.natCast_nonneg _, ?_⟩
 have h2 := congrArg (fun l => l[0]?) h
 simp at h2
 rw [Int.toNat_natCast, List.getElem?_map, h2]; rfl
theorem z2g {i n : Nat} (h : s.drop i = n :: r) : s.getD i 0 = n := by
 have h2 := congrArg (fun l => l[0]?) h
 simp at h2
 rw [List.getD_eq_getElem?_getD, h2]; rfl
theorem z3a {i x : Nat} (h : s.drop i = x :: r) (h8 : ∀ n ∈ s, n ≤ 255) : IntKind.i64.wrap (1 + (IntKind.i64.wrap (x : Int)).tmod 50) = szA s i := by
 have hx := h8 x (List.mem_of_mem_drop (i := i) (by rw [h]; simp))
 have hm := Nat.mod_lt x (show 50 > 0 by decide)
 have e : (x : Int).tmod 50 = ((x % 50 : Nat) : Int) := by rw [Int.tmod_eq_emod_of_nonneg (by omega)]; omega
 rw [bC (n := (x : Int)) (by omega) (by omega), e, bC (by omega) (by omega), szA, z2g h]
theorem Yq {i x : Nat} {all : Int} (h : s.drop i = x :: r) (h8 : ∀ n ∈ s, n ≤ 255) (hi : i < 9) (ha : all = dC s i) : IntKind.i64.wrap (all + IntKind.i64.wrap (1 + (IntKind.i64.wrap (x : Int)).tmod 50)) = dC s (i + 1) := by
 have h1 := jJ s i
 have h2 := CU s i
 rw [z3a h h8, ha, bC (by omega) (by omega)]; rfl
theorem z0k {i x : Nat} {ls : List Ln} (h : s.drop i = x :: r) (h8 : ∀ n ∈ s, n ≤ 255) : ls.map Ln.cs ++ [[.str (dS i), .i (IntKind.i64.wrap (1 + (IntKind.i64.wrap (x : Int)).tmod 50)), .i (-2147483648), .i 2147483647]] = (ls ++ [yF s i]).map Ln.cs := by
 rw [z3a h h8, List.map_append]; rfl
theorem Rt {st : List Sm} {n : Nat} {x : Ex} (e : F9 n b i = x) : st.map Sm.cs ++ [[.i 3, .str (dS i), .i (i : Nat), .i x.kind, .str x.name, .i x.index, .i x.n, .sl 5 (Ex.css x.l)]] = (st ++ [Fv n b i]).map Sm.cs := by
 subst e; rw [List.map_append]; rfl
theorem z2h (h : i ≠ 0) (h2 : i ≤ 9) : IntKind.i64.wrap ((i : Int) - 1) = ((i - 1 : Nat) : Int) := by rw [bC (by omega) (by omega)]; omega
theorem z0l {n i : Nat} (h : decide ((i : Int) > 0) = true) (hi : i ≤ 9) : F9 n b i = YJ ([100] ++ [UInt8.ofNat (48 + (i - 1))]) (IntKind.i64.wrap ((i : Int) - 1)) 0 := by
 have h0 := Rq h
 rw [F9, if_neg h0, z2h h0 hi]; rfl
theorem Yr {s : List Nat} (h : (bif ((i : Nat) : Int) == 0 then b else false) = true) (hi : i < s.length) (hs : s.length ≤ 9) : F9 s.length b i = ⟨10, [], 0, 0, [⟨15, [], 0, 0, [inX 0, YJ ([100] ++ [UInt8.ofNat (48 + (s.length - 1))]) (IntKind.i64.wrap (((s.map u8D).length : Int) - 1)) 0]⟩]⟩ := by
 have h0 : i = 0 := by
  by_cases e : i = 0
  ·exact e
  ·rw [show (((i : Nat) : Int) == 0) = false by rw [beq_eq_false_iff_ne]; omega] at h
   exact Bool.noConfusion h
 have hb : b = true := by subst h0; exact h
 rw [List.length_map, F9, if_pos h0, if_pos hb, z2h (by omega) hs]; rfl
theorem z2i {n i : Nat} (h0 : decide ((i : Int) > 0) = false) (h : (bif ((i : Nat) : Int) == 0 then b else false) = false) : F9 n b i = inX 0 := by
 have h0 : i = 0 := by have := of_decide_eq_false h0; omega
 have hb : b = false := by subst h0; exact h
 rw [F9, if_pos h0, if_neg (by rw [hb]; decide)]
theorem Yt {s : List Nat} (h : decide (((s.map u8D).length : Int) > 0) = true) (hs : s.length ≤ 9) : F9 s.length false s.length = YJ ([100] ++ [UInt8.ofNat (48 + (s.length - 1))]) (IntKind.i64.wrap (((s.map u8D).length : Int) - 1)) 0 := by
 have h0 := Ro h
 rw [List.length_map, F9, if_neg h0, z2h h0 hs]; rfl
theorem Yu {s : List Nat} (h : decide (((s.map u8D).length : Int) > 0) = false) : F9 s.length false s.length = inX 0 := by
 have h0 : s.length = 0 := by have := of_decide_eq_false h; rw [List.length_map] at this; omega
 rw [F9, if_pos h0, if_neg (by decide)]
theorem Ru {s : List Nat} {all : Int} {ls : List Ln} {st : List Sm} {x : Ex} (hI : i + ([] : List Nat).length = s.length ∧ all = dC s i ∧ ls = (List.range i).map (yF s) ∧ st = (List.range i).map (Fv s.length b)) (e : F9 s.length false s.length = x) :
  D.tuple [.agg [.str [114, 111, 119], .i 0, .i (-1), .sl 3 [], .sl 3 [], .sl 4 (ls.map Ln.cs), .sl 2 [], .sl 8 (st.map Sm.cs ++ [[.i 4, .str [], .i 0, .i x.kind, .str x.name, .i x.index, .i x.n, .sl 5 (Ex.css x.l)]])], .i all] = .tuple [(rowP s b).d, .i (dC s s.length)] := by
 obtain ⟨h1, rfl, rfl, rfl⟩ := hI
 have h1 : i = s.length := h1
 subst h1
 subst e
 show _ = D.tuple [.agg [.str [114, 111, 119], .i 0, .i (-1), .sl 3 [], .sl 3 [], .sl 4 (((List.range s.length).map (yF s)).map Ln.cs), .sl 2 [], .sl 8 (((List.range s.length).map (Fv s.length b) ++ [ZY s.length]).map Sm.cs)], .i (dC s s.length)]
 rw [List.map_append (l₂ := [ZY s.length])]; rfl
theorem Yv (h : decide ((i : Int) > 0) = true) (h2 : (bif ((i : Nat) : Int) == 0 then b else false) = true) : False := by
 have := of_decide_eq_true h
 rw [show (((i : Nat) : Int) == 0) = false by rw [beq_eq_false_iff_ne]; omega] at h2
 exact Bool.noConfusion h2
theorem KD (s : List Nat) (b : Bool) (hs : s.length ≤ 9) (h8 : ∀ n ∈ s, n ≤ 255) : PCall Tryd.prog 15 [.sl 1 (s.map u8D), .b b] (.ret (.tuple [(rowP s b).d, .i (dC s s.length)])) := by
 refine ae tok hmix ⟨[], []⟩ Tryd.func15 rfl (by kernel_rfl) (by kernel_rfl) (by kernel_rfl) fun hf => ?_
 have hl_s : s.length ≤ 9223372036854775807 := by omega
 clear hf
 repeat' ((try (conv => whnf)) <;> first
  | ((with_reducible refine aJ ?_ ?_ ?_ ?_ ?_); exact rfl; exact rfl; rotate_left; exact z0j hd0)
  | (exact (Yv ‹_› h).elim)
  | ((with_reducible refine byA ?_ ?_ ?_); exact rfl; omega)
  | ((with_reducible refine byB (n := s.length) (List.length_map _) ?_ ?_ ?_ ?_); exact rfl; omega; exact Ro ‹_›)
  | ((with_reducible refine byB (n := i0) rfl ?_ ?_ ?_ ?_); exact rfl; omega; exact Rq ‹_›)
  | ((with_reducible refine byC (n := s.length) (List.length_map _) ?_ ?_ ?_ ?_); exact rfl; omega; omega)
  | with_reducible exact trivial
  | with_reducible exact ax hd0 ‹_›
  | with_reducible refine bQ hd0 ?_
  | with_reducible refine bi hd0 ?_
  | with_reducible refine BrI.intro (fun h => ?_) (fun h => ?_)
  | ((with_reducible refine aI.mk 0 ?_); refine ⟨aP (s) 8 (fun (q : (Int) × (List Ln) × (List Sm)) => match q with | (all, ls, st) => [(7, .data (.val (.int .i64 all)))]) (fun (q : (Int) × (List Ln) × (List Sm)) => match q with | (all, ls, st) => [(6, .cells [.data (.str [114, 111, 119]), .data (.i 0), .data (.i (-1)), .nilsl 3, .nilsl 3, .gs 900006 4 (ls.map Ln.cs), .nilsl 2, .gs 900007 8 (st.map Sm.cs)]), (900006, .tok 4 (ls.map Ln.cs).length), (900007, .tok 8 (st.map Sm.cs).length)]) [0, 1, 4, 6] (fun i0 r0 q => match q with | (all, ls, st) => i0 + r0.length = s.length ∧ all = dC s i0 ∧ ls = (List.range i0).map (yF s) ∧ st = (List.range i0).map (Fv s.length b)), ?_⟩; with_reducible refine ag (?_, ([]), ([])) ?_ ?_ (fun i0 ⟨all, ls, st⟩ hd0 hI0 => ?_) (fun i0 x0 r0 ⟨all, ls, st⟩ hd0 hl0 hI0 => ?_))
  | (with_reducible refine ah hd0 (?_, (ls ++ [yF s i0]), (st ++ [Fv s.length b i0])) ?_ ?_)
  | ((with_reducible refine aj ?_ ?_ ?_); rotate_left; (first | exact Iw _ | exact KC _ _ _))
  | (with_reducible refine bH.l _ ?_)
  | ((with_reducible refine eF ?_ ?_ ?_ ?_ ?_ ?_) <;> exact rfl)
  | ((with_reducible refine gp ?_ ?_ ?_ ?_) <;> exact rfl)
  | ((with_reducible refine app_step' ?_ ?_ ?_ ?_ ?_ ?_ ?_); exact rfl; exact rfl; exact rfl; exact rfl)
  | ((with_reducible refine aA ?_ ?_); kernel_rfl)
  | ((with_reducible refine ai ?_); refine ⟨[], rfl, ?_, trivial⟩; conv => whnf)
  | (with_reducible refine And.intro ?_ ?_)
  | ((with_reducible refine uX ?_ ?_ ?_); exact rfl; exact rfl; (first | skip))
  | ((with_reducible refine pg ?_ ?_); exact rfl; (first | skip))
  | exact @rfl AV _
  | exact kN rfl
  | fail)
 all_goals first
  | (rfl)
  | (omega)
  | ((have := hI0.1; simp only [List.length_cons] at this; omega))
  | ((exact Yq hd0 h8 (by omega) hI0.2.1))
  | ((rw [hI0.2.2.1, List.range_succ, List.map_append]; rfl))
  | ((rw [hI0.2.2.2, List.range_succ, List.map_append]; rfl))
  | ((show ((1 + 1 : Nat) : Int) ≤ IntKind.i64.max; decide))
  | ((rw [List.length_map, hI0.2.2.1, List.length_map, List.length_range]; have := hI0.1; omega))
  | ((rw [List.length_map, hI0.2.2.2, List.length_map, List.length_range]; have := hI0.1; omega))
  | ((exact z0k hd0 h8))
  | ((exact Rt (z0l ‹decide ((i0 : Int) > 0) = true› (by omega))))
  | ((exact Rt (Yr h (by omega) hs)))
  | ((exact Rt (z2i ‹decide ((i0 : Int) > 0) = false› h)))
  | ((exact Ru hI0 (Yt h hs)))
  | ((exact Ru hI0 (Yu h)))
  | skip
end Go.Proofs.YtogfjinopifenaaDoor
