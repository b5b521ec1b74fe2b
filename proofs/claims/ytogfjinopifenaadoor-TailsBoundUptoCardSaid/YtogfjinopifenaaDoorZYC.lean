/- Contracts: the laws of tails: small processors; the laws' little functions. -/
import Derived.Test.YtogfjinopifenaaDoorZYB
set_option linter.unusedSectionVars false
set_option linter.unusedSimpArgs false
set_option linter.unusedVariables false
set_option maxHeartbeats 8000000
namespace Go.Proofs.YtogfjinopifenaaDoor
open Go.Fw Go.Fw.Ref15 Go.Fw.Rg Go.Fw.Tl
set_option maxRecDepth 10000
variable [GlobInt] {p : Pr}
theorem H8 {l : List Ex} {c : Bool} {k : Nat} (h : (bif decide ((k : Int) < ((Ex.css l).length : Int)) then c else false) = false) (hk : k < l.length) : c = false := by
 rw [Ex.css_len, decide_eq_true (show (k : Int) < (l.length : Int) by omega)] at h; exact h
theorem H9 {x y : Ex} {d : Int} (hd : 0 ≤ d) (hy : y ∈ x.l) (hc : (bif d == 0 then decide (((Ex.css x.l).length : Int) > 0) else false) = false) : 0 ≤ d - 1 := by
 have : 0 < x.l.length := List.length_pos_of_mem hy
 by_cases h : d = 0
 ·subst h; rw [Ex.css_len, decide_eq_true (show (x.l.length : Int) > 0 by omega)] at hc; exact Bool.noConfusion (show true = false from hc)
 ·omega
theorem KG {c d : Bool} (h : (bif c then d else false) = true) : d = true := by cases c <;> first | exact h | exact Bool.noConfusion h
theorem JD {b : Bool} (h : (bif (bif (bif (bif decide (((p.stmts.map Sm.cs).length : Int) > 14) then true else decide (((p.params.map Bd.cs).length : Int) > 18)) then true else decide (((p.states.map Bd.cs).length : Int) > 18)) then true else decide (((p.lines.map Ln.cs).length : Int) > 18)) then true else decide (((p.tables.map Tb.cs).length : Int) > 18)) = b) : JM p = b := by
 simp only [List.length_map] at h; exact h
theorem KH (h : JM p = true) : tC p = false := by rw [tC, if_pos h]
theorem KI (h : JM p = false) : tC p = if p.stmts.all nK then p.tables.all mZ else false := by rw [tC, if_neg (by rw [h]; decide)]
theorem KJ {s : Sm} {r : List Sm} {c : Bool} (h : tC p = if (s :: r).all nK then c else false) (h2 : decide (ndM s.x 12 40 > 40) = true) : tC p = false := by
 have : nK s = false := by rw [nK, h2]; rfl
 rw [h, List.all_cons, this]; rfl
theorem KL {s : Sm} {r : List Sm} {c : Bool} (h : tC p = if (s :: r).all nK then c else false) (h2 : decide (ndM s.x 12 40 > 40) = false) : tC p = if r.all nK then c else false := by
 have : nK s = true := by rw [nK, h2]; rfl
 rw [h, List.all_cons, this, Bool.true_and]
theorem KN {s : Tb} {r : List Tb} (h : tC p = (s :: r).all mZ) (h2 : decide (((s.values.map Ik).length : Int) > 40) = true) : tC p = false := by
 rw [List.length_map] at h2
 have : mZ s = false := by rw [mZ, h2]; rfl
 rw [h, List.all_cons, this]; rfl
theorem KO {s : Tb} {r : List Tb} (h : tC p = (s :: r).all mZ) (h2 : decide (((s.values.map Ik).length : Int) > 40) = false) : tC p = r.all mZ := by
 rw [List.length_map] at h2
 have : mZ s = true := by rw [mZ, h2]; rfl
 rw [h, List.all_cons, this, Bool.true_and]
theorem yH (x : Ex) (d most : Int) (hx : Ref15.nodes x ≤ 1073741824) (hd : 0 ≤ d) (hd2 : d ≤ 1099511627776) (hm0 : 0 ≤ most) (hm : most ≤ 1099511627776) : PCall Tryd.prog 22 [x.d, .i d, .i most] (.ret (.i (ndM x d most))) := by
 revert hd hd2; revert d; revert hx; revert x; refine Ex.ind fun x ih hx d hd hd2 => ?_
 refine pcall_of_wc tok hmix ⟨[], []⟩ Tryd.func22 rfl (by kernel_rfl) (by kernel_rfl) (by kernel_rfl) fun hf => ?_
 have hlen := Ex.fits (hf x.d (by simp))
 have hE := Ref15.nodes_eq x
 have hw1 : IntKind.i64.wrap (most + 1) = most + 1 := aS (by omega) (by omega)
 have ih2 : ∀ y ∈ x.l, ∀ c e, c = e → 0 ≤ e → e ≤ 1099511627776 → PCall Tryd.prog 22 [y.d, .i c, .i most] (.ret (.i (ndM y e most))) := fun y hy c e hc h0 h1 => by subst hc; exact ih y hy (by have := iY hy; omega) c h0 h1
 clear hf
 repeat' ((try (conv => whnf)) <;> first
  | with_reducible exact trivial
  | with_reducible exact ak hd0 ‹_›
  | with_reducible refine BrI.intro (fun h => ?_) (fun h => ?_)
  | (exact (Gg (IV hd0) h).elim)
  | ((with_reducible refine LoopAt.mk 0 ?_); refine ⟨aF (x.l) 8 (fun (n : (Int)) => [(7, .data (.val (.int .i64 n)))]) (fun (n : (Int)) => []) [1, 2, 3] (fun i0 r0 n => ndM x d most = mm2 false (ndL r0 d most n) (most + 1) ∧ 1 ≤ n ∧ n ≤ 2 * most + 2), ?_⟩; with_reducible refine ae ?_ ?_ ?_ (fun i0 (n : (Int)) hd0 hI0 => ?_) (fun i0 x0 r0 (n : (Int)) hd0 hl0 hI0 => ?_))
  | (with_reducible refine af hd0 ?_ ?_ ?_)
  | ((with_reducible refine ah ?_ ?_ ?_); rotate_left; (exact ih2 _ (aY hd0) _ (d - 1) (aS (by omega) (by omega)) (H9 hd (aY hd0) ‹_›) (by omega)))
  | ((with_reducible refine aB ?_ ?_ ?_ ?_ ?_); exact rfl; exact rfl; rotate_left; (with_reducible exact bP hd0))
  | ((with_reducible refine aK ?_ ?_); exact rfl)
  | ((with_reducible refine ag ?_); refine ⟨[], rfl, ?_, trivial⟩; conv => whnf)
  | (with_reducible refine And.intro ?_ ?_)
  | exact @rfl AV _
  | fail)
 all_goals first
  | ((refine congrArg D.i ?_; rw [Bg, if_pos (by rw [← Ex.css_len]; exact h), hw1]))
  | ((rw [Bg, if_neg (by rw [← Ex.css_len, h]; decide)]))
  | (omega)
  | ((have hr := Jo hm0 x0 (d - 1); have hq := of_decide_eq_true (KG h); rw [aS (by omega) (by omega)]; first | omega | (rw [hI0.1, ndL, if_pos hq])))
  | ((refine congrArg D.i ?_; rw [hI0.1, ndL, if_neg (of_decide_eq_false (H8 h hl0)), hw1]))
  | ((refine congrArg D.i ?_; rw [hI0.1, ndL, hw1]))
  | skip
theorem dX (p : Pr) (g : bz p) : PCall Tryd.prog 8 [p.d] (.ret (.b (tC p))) := by
 refine pcall_of_wc tok hmix ⟨[], []⟩ Tryd.func8 rfl (by kernel_rfl) (by kernel_rfl) (by kernel_rfl) fun hf => ?_
 have hs4 := g.sm.tables; have hs5 := g.sm.stmts
 have hl_a : p.tables.length ≤ 9223372036854775807 := by omega
 have hl_b : p.stmts.length ≤ 9223372036854775807 := by omega
 clear hf
 repeat' ((try (conv => whnf)) <;> first
  | with_reducible exact trivial
  | with_reducible exact ak hd2 ‹_›
  | with_reducible exact ak hd0 ‹_›
  | with_reducible refine aX hd2 ?_
  | with_reducible refine aX hd0 ?_
  | with_reducible refine aP hd2 ?_
  | with_reducible refine aP hd0 ?_
  | with_reducible refine BrI.intro (fun h => ?_) (fun h => ?_)
  | ((with_reducible refine LoopAt.mk 0 ?_); refine ⟨aF (p.stmts) 3 (fun (_ : Unit) => []) (fun (_ : Unit) => []) [1] (fun i0 r0 _ => tC p = if r0.all nK then p.tables.all mZ else false), ?_⟩; with_reducible refine ae () ?_ ?_ (fun i0 (_ : Unit) hd0 hI0 => ?_) (fun i0 x0 r0 (_ : Unit) hd0 hl0 hI0 => ?_))
  | (with_reducible refine af hd0 () ?_ ?_)
  | ((with_reducible refine LoopAt.mk 2 ?_); refine ⟨aF (p.tables) 4 (fun (_ : Unit) => []) (fun (_ : Unit) => []) [1] (fun i2 r2 _ => tC p = r2.all mZ), ?_⟩; with_reducible refine ae () ?_ ?_ (fun i2 (_ : Unit) hd2 hI2 => ?_) (fun i2 x2 r2 (_ : Unit) hd2 hl2 hI2 => ?_))
  | (with_reducible refine af hd2 () ?_ ?_)
  | ((with_reducible refine ah ?_ ?_ ?_); rotate_left; (exact yH _ 12 40 (g.hn _ (aY hd0)) (by decide) (by decide) (by decide) (by decide)))
  | ((with_reducible refine aB ?_ ?_ ?_ ?_ ?_); exact rfl; exact rfl; rotate_left; (first | with_reducible exact az hd2 | with_reducible exact az hd0))
  | ((with_reducible refine aK ?_ ?_); exact rfl)
  | ((with_reducible refine ag ?_); refine ⟨[], rfl, ?_, trivial⟩; conv => whnf)
  | (with_reducible refine And.intro ?_ ?_)
  | exact @rfl AV _
  | fail)
 all_goals first
  | ((exact congrArg D.b (KH (JD h)).symm))
  | ((exact KI (JD h)))
  | ((rw [hI0]; rfl))
  | ((exact congrArg D.b (KJ hI0 h).symm))
  | ((exact KL hI0 h))
  | ((exact congrArg D.b (KN hI2 h).symm))
  | ((exact KO hI2 h))
  | ((rw [hI2]; rfl))
  | skip
theorem jE (n : Int)  : PCall Tryd.prog 20 [.i n] (.ret (Jm n).d) := by
 refine pcall_of_wc tok hmix ⟨[], []⟩ Tryd.func20 rfl (by kernel_rfl) (by kernel_rfl) (by kernel_rfl) fun hf => ?_
 clear hf
 repeat' ((try (conv => whnf)) <;> first
  | ((with_reducible refine ag ?_); refine ⟨[], rfl, ?_, trivial⟩; conv => whnf)
  | fail)
 all_goals first
  | (rfl)
  | skip
theorem vF (n : Int)  : PCall Tryd.prog 17 [.i n] (.ret (inX n).d) := by
 refine pcall_of_wc tok hmix ⟨[], []⟩ Tryd.func17 rfl (by kernel_rfl) (by kernel_rfl) (by kernel_rfl) fun hf => ?_
 clear hf
 repeat' ((try (conv => whnf)) <;> first
  | ((with_reducible refine ah ?_ ?_ ?_); rotate_left; (exact jE _))
  | (with_reducible refine ChooseI.l _ ?_)
  | ((with_reducible refine ag ?_); refine ⟨[], rfl, ?_, trivial⟩; conv => whnf)
  | fail)
 all_goals first
  | (rfl)
  | skip
theorem xH (nm : List UInt8) (i n : Int)  : PCall Tryd.prog 21 [.str nm, .i i, .i n] (.ret (Io nm i n).d) := by
 refine pcall_of_wc tok hmix ⟨[], []⟩ Tryd.func21 rfl (by kernel_rfl) (by kernel_rfl) (by kernel_rfl) fun hf => ?_
 clear hf
 repeat' ((try (conv => whnf)) <;> first
  | ((with_reducible refine ah ?_ ?_ ?_); rotate_left; (exact jE _))
  | (with_reducible refine ChooseI.l _ ?_)
  | ((with_reducible refine ag ?_); refine ⟨[], rfl, ?_, trivial⟩; conv => whnf)
  | fail)
 all_goals first
  | (rfl)
  | skip
theorem yI   : PCall Tryd.prog 18 [] (.ret sX.d) := by
 refine pcall_of_wc tok hmix ⟨[], []⟩ Tryd.func18 rfl (by kernel_rfl) (by kernel_rfl) (by kernel_rfl) fun hf => ?_
 clear hf
 repeat' ((try (conv => whnf)) <;> first
  | ((with_reducible refine ag ?_); refine ⟨[], rfl, ?_, trivial⟩; conv => whnf)
  | fail)
 all_goals first
  | (rfl)
  | skip
theorem nD (nm : List UInt8)  : PCall Tryd.prog 16 [.str nm] (.ret (.agg (Bd.cs ⟨nm, -2147483648, 2147483647⟩))) := by
 refine pcall_of_wc tok hmix ⟨[], []⟩ Tryd.func16 rfl (by kernel_rfl) (by kernel_rfl) (by kernel_rfl) fun hf => ?_
 clear hf
 repeat' ((try (conv => whnf)) <;> first
  | ((with_reducible refine ag ?_); refine ⟨[], rfl, ?_, trivial⟩; conv => whnf)
  | fail)
 all_goals first
  | skip
theorem fZ (l : List Sm)  : PCall Tryd.prog 19 [.sl 8 (l.map Sm.cs)] (.ret (EY l).d) := by
 refine pcall_of_wc tok hmix ⟨[], []⟩ Tryd.func19 rfl (by kernel_rfl) (by kernel_rfl) (by kernel_rfl) fun hf => ?_
 clear hf
 repeat' ((try (conv => whnf)) <;> first
  | ((with_reducible refine ah ?_ ?_ ?_); rotate_left; (exact nD _))
  | (with_reducible refine ChooseI.l _ ?_)
  | ((with_reducible refine ag ?_); refine ⟨[], rfl, ?_, trivial⟩; conv => whnf)
  | fail)
 all_goals first
  | (rfl)
  | skip
end Go.Proofs.YtogfjinopifenaaDoor
namespace Go.Proofs.YtogfjinopifenaaDoor
open Go.Fw Go.Fw.Ref15 Go.Fw.Rg Go.Fw.Tl
set_option maxRecDepth 10000
variable [GlobInt]
abbrev E8 (x : Ex) : Sm := ⟨2, [115], 0, x⟩
abbrev pA : Pr := EY [outS (inX 0)]
abbrev pB : Pr := EY [E8 (inX 0), outS sX]
abbrev pC : Pr := EY [⟨1, [97], 0, sX⟩, E8 (inX 0), outS ⟨5, [97], 0, 0, []⟩]
abbrev pD : Pr := EY [E8 (Lj [sX, inX 0]), outS sX]
abbrev pM : Pr := EY [E8 (inX 0), outS (Jm 0)]
abbrev pN : Pr := EY [⟨3, [100], 0, inX 0⟩, outS (Io [100] 0 0)]
abbrev pO : Pr := EY [outS (inX 5)]
theorem yJ (p : Pr) (a b : Int) (h : iq p = (a, b)) (g : bz p) : PCall Tryd.prog 11 [p.d] (.ret (.tuple [.i a, .i b])) := by
 have := fV p g; rw [h] at this; exact this
theorem KP (p : Pr) (a b : Int) (h : dQ p = (a, b)) (g : bz p) : PCall Tryd.prog 10 [p.d] (.ret (.tuple [.i a, .i b])) := by
 have := dI p g; rw [h] at this; exact this
theorem BF (p : Pr) (a : Int) (h : dF p = a) (g : bz p) : PCall Tryd.prog 12 [p.d] (.ret (.i a)) := by
 rw [← h]; exact di p g
theorem sm0 : PCall Tryd.prog 11 [(pA).d] (.ret (.tuple [.i 0, .i 0])) := yJ pA 0 0 (by kernel_rfl) (eQ ⟨by decide, by decide, by decide, by decide, by decide, by kernel_rfl, by kernel_rfl⟩)
theorem sm1 : PCall Tryd.prog 11 [(pB).d] (.ret (.tuple [.i 0, .i 0])) := yJ pB 0 0 (by kernel_rfl) (eQ ⟨by decide, by decide, by decide, by decide, by decide, by kernel_rfl, by kernel_rfl⟩)
theorem sm2 : PCall Tryd.prog 11 [(pC).d] (.ret (.tuple [.i 1, .i 0])) := yJ pC 1 0 (by kernel_rfl) (eQ ⟨by decide, by decide, by decide, by decide, by decide, by kernel_rfl, by kernel_rfl⟩)
theorem sm3 : PCall Tryd.prog 11 [(pD).d] (.ret (.tuple [.i (-1), .i 0])) := yJ pD (-1) 0 (by kernel_rfl) (eQ ⟨by decide, by decide, by decide, by decide, by decide, by kernel_rfl, by kernel_rfl⟩)
theorem sm4 : PCall Tryd.prog 11 [(pM).d] (.ret (.tuple [.i 0, .i 0])) := yJ pM 0 0 (by kernel_rfl) (eQ ⟨by decide, by decide, by decide, by decide, by decide, by kernel_rfl, by kernel_rfl⟩)
theorem sm5 : PCall Tryd.prog 11 [(pN).d] (.ret (.tuple [.i 3, .i 0])) := yJ pN 3 0 (by kernel_rfl) (eQ ⟨by decide, by decide, by decide, by decide, by decide, by kernel_rfl, by kernel_rfl⟩)
theorem sl0 : PCall Tryd.prog 10 [(pO).d] (.ret (.tuple [.i 5, .i 0])) := KP pO 5 0 (by kernel_rfl) (eQ ⟨by decide, by decide, by decide, by decide, by decide, by kernel_rfl, by kernel_rfl⟩)
theorem sc0 : PCall Tryd.prog 12 [(pD : Pr).d] (.ret (.i 0)) := BF pD 0 (by kernel_rfl) (eQ ⟨by decide, by decide, by decide, by decide, by decide, by kernel_rfl, by kernel_rfl⟩)
theorem sc1 : PCall Tryd.prog 12 [({ pD with tail := 100 } : Pr).d] (.ret (.i 171)) := BF { pD with tail := 100 } 171 (by kernel_rfl) (eQ ⟨by decide, by decide, by decide, by decide, by decide, by kernel_rfl, by kernel_rfl⟩)
theorem sc2 : PCall Tryd.prog 12 [(pO : Pr).d] (.ret (.i 170)) := BF pO 170 (by kernel_rfl) (eQ ⟨by decide, by decide, by decide, by decide, by decide, by kernel_rfl, by kernel_rfl⟩)
theorem sc3 : PCall Tryd.prog 12 [({ pO with latency := 5 } : Pr).d] (.ret (.i 0)) := BF { pO with latency := 5 } 0 (by kernel_rfl) (eQ ⟨by decide, by decide, by decide, by decide, by decide, by kernel_rfl, by kernel_rfl⟩)
theorem sc4 : PCall Tryd.prog 12 [(Pr.none : Pr).d] (.ret (.i 150)) := BF Pr.none 150 (by kernel_rfl) (eQ ⟨by decide, by decide, by decide, by decide, by decide, by kernel_rfl, by kernel_rfl⟩)
theorem dA   : PCall Tryd.prog 7 [] (.ret (.b true)) := by
 refine pcall_of_wc tok hmix ⟨[], []⟩ Tryd.func7 rfl (by kernel_rfl) (by kernel_rfl) (by kernel_rfl) fun hf => ?_
 clear hf
 repeat' ((try (conv => whnf)) <;> first
  | ((with_reducible refine BrI.ff_of ?_ ?_); kernel_rfl)
  | ((with_reducible refine ah ?_ ?_ ?_); rotate_left; (first | exact vF _ | exact yI | exact jE _ | exact xH _ _ _ | exact fZ [outS (inX 0)] | exact fZ [E8 (inX 0), outS sX] | exact fZ [⟨1, [97], 0, sX⟩, E8 (inX 0), outS ⟨5, [97], 0, 0, []⟩] | exact fZ [E8 (Lj [sX, inX 0]), outS sX] | exact fZ [E8 (inX 0), outS (Jm 0)] | exact fZ [⟨3, [100], 0, inX 0⟩, outS (Io [100] 0 0)] | exact fZ [outS (inX 5)] | exact sm0 | exact sm1 | exact sm2 | exact sm3 | exact sm4 | exact sm5 | exact sl0 | exact sc0 | exact sc1 | exact sc2 | exact sc3 | exact sc4))
  | (with_reducible refine ChooseI.l _ ?_)
  | ((with_reducible refine aU ?_ ?_ (fun hg => ?_) ?_); exact rfl)
  | ((with_reducible refine bD ?_ ?_); with_reducible exact rfl; with_reducible exact rfl)
  | ((with_reducible refine au ?_ ?_); kernel_rfl)
  | ((with_reducible refine ag ?_); refine ⟨[], rfl, ?_, trivial⟩; conv => whnf)
  | fail)
 all_goals first
  | (rfl)
  | skip
end Go.Proofs.YtogfjinopifenaaDoor
