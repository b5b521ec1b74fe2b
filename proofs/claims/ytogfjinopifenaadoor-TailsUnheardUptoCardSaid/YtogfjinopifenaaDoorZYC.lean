/- Contracts: the laws of tails: small processors; the laws' little functions. -/
import Derived.Test.YtogfjinopifenaaDoorZYB
set_option linter.unusedSectionVars false
set_option linter.unusedSimpArgs false
set_option linter.unusedVariables false
set_option maxHeartbeats 8000000
namespace Go.Proofs.YtogfjinopifenaaDoor
open Go.Fw Go.Fw.Ref15 Go.Fw.Rg Go.Fw.Tl
set_option maxRecDepth 10000
variable [af] {p : Pr}
theorem Yo {l : List Ex} {c : Bool} {k : Nat} (h : (bif decide ((k : Int) < ((Ex.css l).length : Int)) then c else false) = false) (hk : k < l.length) : c = false := by
 rw [Ex.css_len, decide_eq_true (show (k : Int) < (l.length : Int) by omega)] at h; exact h
theorem Yp {x y : Ex} {d : Int} (hd : 0 ≤ d) (hy : y ∈ x.l) (hc : (bif d == 0 then decide (((Ex.css x.l).length : Int) > 0) else false) = false) : 0 ≤ d - 1 := by
 have : 0 < x.l.length := List.length_pos_of_mem hy
 by_cases h : d = 0
 ·subst h; rw [Ex.css_len, decide_eq_true (show (x.l.length : Int) > 0 by omega)] at hc; exact Bool.noConfusion (show true = false from hc)
 ·omega
theorem z16 {c d : Bool} (h : (bif c then d else false) = true) : d = true := by cases c <;> first | exact h | exact Bool.noConfusion h
theorem z0i {b : Bool} (h : (bif (bif (bif (bif decide (((p.stmts.map Sm.cs).length : Int) > 14) then true else decide (((p.params.map Bd.cs).length : Int) > 18)) then true else decide (((p.states.map Bd.cs).length : Int) > 18)) then true else decide (((p.lines.map Ln.cs).length : Int) > 18)) then true else decide (((p.tables.map Tb.cs).length : Int) > 18)) = b) : z0u p = b := by
 simp only [List.length_map] at h; exact h
theorem z18 (h : z0u p = true) : FB p = false := by rw [FB, if_pos h]
theorem z19 (h : z0u p = false) : FB p = if p.stmts.all y8 then p.tables.all yG else false := by rw [FB, if_neg (by rw [h]; decide)]
theorem z2a {s : Sm} {r : List Sm} {c : Bool} (h : FB p = if (s :: r).all y8 then c else false) (h2 : decide (ndM s.x 12 40 > 40) = true) : FB p = false := by
 have : y8 s = false := by rw [y8, h2]; rfl
 rw [h, List.all_cons, this]; rfl
theorem z2c {s : Sm} {r : List Sm} {c : Bool} (h : FB p = if (s :: r).all y8 then c else false) (h2 : decide (ndM s.x 12 40 > 40) = false) : FB p = if r.all y8 then c else false := by
 have : y8 s = true := by rw [y8, h2]; rfl
 rw [h, List.all_cons, this, Bool.true_and]
theorem z2d {s : Tb} {r : List Tb} (h : FB p = (s :: r).all yG) (h2 : decide (((s.values.map YH).length : Int) > 40) = true) : FB p = false := by
 rw [List.length_map] at h2
 have : yG s = false := by rw [yG, h2]; rfl
 rw [h, List.all_cons, this]; rfl
theorem z2e {s : Tb} {r : List Tb} (h : FB p = (s :: r).all yG) (h2 : decide (((s.values.map YH).length : Int) > 40) = false) : FB p = r.all yG := by
 rw [List.length_map] at h2
 have : yG s = true := by rw [yG, h2]; rfl
 rw [h, List.all_cons, this, Bool.true_and]
theorem Nk (x : Ex) (d most : Int) (hx : Ref15.nodes x ≤ 1073741824) (hd : 0 ≤ d) (hd2 : d ≤ 1099511627776) (hm0 : 0 ≤ most) (hm : most ≤ 1099511627776) : PCall Tryd.prog 22 [x.d, .i d, .i most] (.ret (.i (ndM x d most))) := by
 revert hd hd2; revert d; revert hx; revert x; refine Ex.ind fun x ih hx d hd hd2 => ?_
 refine ae tok hmix ⟨[], []⟩ Tryd.func22 rfl (by kernel_rfl) (by kernel_rfl) (by kernel_rfl) fun hf => ?_
 have hlen := Ex.fits (hf x.d (by simp))
 have hE := Ref15.nodes_eq x
 have hw1 : IntKind.i64.wrap (most + 1) = most + 1 := bC (by omega) (by omega)
 have ih2 : ∀ y ∈ x.l, ∀ c e, c = e → 0 ≤ e → e ≤ 1099511627776 → PCall Tryd.prog 22 [y.d, .i c, .i most] (.ret (.i (ndM y e most))) := fun y hy c e hc h0 h1 => by subst hc; exact ih y hy (by have := nU hy; omega) c h0 h1
 clear hf
 repeat' ((try (conv => whnf)) <;> first
  | with_reducible exact trivial
  | with_reducible exact ax hd0 ‹_›
  | with_reducible refine BrI.intro (fun h => ?_) (fun h => ?_)
  | (exact (Xw (Zz hd0) h).elim)
  | ((with_reducible refine aI.mk 0 ?_); refine ⟨aP (x.l) 8 (fun (n : (Int)) => [(7, .data (.val (.int .i64 n)))]) (fun (n : (Int)) => []) [1, 2, 3] (fun i0 r0 n => ndM x d most = mm2 false (ndL r0 d most n) (most + 1) ∧ 1 ≤ n ∧ n ≤ 2 * most + 2), ?_⟩; with_reducible refine ag ?_ ?_ ?_ (fun i0 (n : (Int)) hd0 hI0 => ?_) (fun i0 x0 r0 (n : (Int)) hd0 hl0 hI0 => ?_))
  | (with_reducible refine ah hd0 ?_ ?_ ?_)
  | ((with_reducible refine aj ?_ ?_ ?_); rotate_left; (exact ih2 _ (bV hd0) _ (d - 1) (bC (by omega) (by omega)) (Yp hd (bV hd0) ‹_›) (by omega)))
  | ((with_reducible refine aJ ?_ ?_ ?_ ?_ ?_); exact rfl; exact rfl; rotate_left; (with_reducible exact eu hd0))
  | ((with_reducible refine aW ?_ ?_); exact rfl)
  | ((with_reducible refine ai ?_); refine ⟨[], rfl, ?_, trivial⟩; conv => whnf)
  | (with_reducible refine And.intro ?_ ?_)
  | exact @rfl AV _
  | fail)
 all_goals first
  | ((refine congrArg D.i ?_; rw [QW, if_pos (by rw [← Ex.css_len]; exact h), hw1]))
  | ((rw [QW, if_neg (by rw [← Ex.css_len, h]; decide)]))
  | (omega)
  | ((have hr := ZZ hm0 x0 (d - 1); have hq := of_decide_eq_true (z16 h); rw [bC (by omega) (by omega)]; first | omega | (rw [hI0.1, ndL, if_pos hq])))
  | ((refine congrArg D.i ?_; rw [hI0.1, ndL, if_neg (of_decide_eq_false (Yo h hl0)), hw1]))
  | ((refine congrArg D.i ?_; rw [hI0.1, ndL, hw1]))
  | skip
theorem ja (p : Pr) (g : dA p) : PCall Tryd.prog 8 [p.d] (.ret (.b (FB p))) := by
 refine ae tok hmix ⟨[], []⟩ Tryd.func8 rfl (by kernel_rfl) (by kernel_rfl) (by kernel_rfl) fun hf => ?_
 have hs4 := g.sm.tables; have hs5 := g.sm.stmts
 have hl_a : p.tables.length ≤ 9223372036854775807 := by omega
 have hl_b : p.stmts.length ≤ 9223372036854775807 := by omega
 clear hf
 repeat' ((try (conv => whnf)) <;> first
  | with_reducible exact trivial
  | with_reducible exact ax hd2 ‹_›
  | with_reducible exact ax hd0 ‹_›
  | with_reducible refine bQ hd2 ?_
  | with_reducible refine bQ hd0 ?_
  | with_reducible refine bi hd2 ?_
  | with_reducible refine bi hd0 ?_
  | with_reducible refine BrI.intro (fun h => ?_) (fun h => ?_)
  | ((with_reducible refine aI.mk 0 ?_); refine ⟨aP (p.stmts) 3 (fun (_ : Unit) => []) (fun (_ : Unit) => []) [1] (fun i0 r0 _ => FB p = if r0.all y8 then p.tables.all yG else false), ?_⟩; with_reducible refine ag () ?_ ?_ (fun i0 (_ : Unit) hd0 hI0 => ?_) (fun i0 x0 r0 (_ : Unit) hd0 hl0 hI0 => ?_))
  | (with_reducible refine ah hd0 () ?_ ?_)
  | ((with_reducible refine aI.mk 2 ?_); refine ⟨aP (p.tables) 4 (fun (_ : Unit) => []) (fun (_ : Unit) => []) [1] (fun i2 r2 _ => FB p = r2.all yG), ?_⟩; with_reducible refine ag () ?_ ?_ (fun i2 (_ : Unit) hd2 hI2 => ?_) (fun i2 x2 r2 (_ : Unit) hd2 hl2 hI2 => ?_))
  | (with_reducible refine ah hd2 () ?_ ?_)
  | ((with_reducible refine aj ?_ ?_ ?_); rotate_left; (exact Nk _ 12 40 (g.hn _ (bV hd0)) (by decide) (by decide) (by decide) (by decide)))
  | ((with_reducible refine aJ ?_ ?_ ?_ ?_ ?_); exact rfl; exact rfl; rotate_left; (first | with_reducible exact aG hd2 | with_reducible exact aG hd0))
  | ((with_reducible refine aW ?_ ?_); exact rfl)
  | ((with_reducible refine ai ?_); refine ⟨[], rfl, ?_, trivial⟩; conv => whnf)
  | (with_reducible refine And.intro ?_ ?_)
  | exact @rfl AV _
  | fail)
 all_goals first
  | ((exact congrArg D.b (z18 (z0i h)).symm))
  | ((exact z19 (z0i h)))
  | ((rw [hI0]; rfl))
  | ((exact congrArg D.b (z2a hI0 h).symm))
  | ((exact z2c hI0 h))
  | ((exact congrArg D.b (z2d hI2 h).symm))
  | ((exact z2e hI2 h))
  | ((rw [hI2]; rfl))
  | skip
theorem qA (n : Int)  : PCall Tryd.prog 20 [.i n] (.ret (ZX n).d) := by
 refine ae tok hmix ⟨[], []⟩ Tryd.func20 rfl (by kernel_rfl) (by kernel_rfl) (by kernel_rfl) fun hf => ?_
 clear hf
 repeat' ((try (conv => whnf)) <;> first
  | ((with_reducible refine ai ?_); refine ⟨[], rfl, ?_, trivial⟩; conv => whnf)
  | fail)
 all_goals first
  | (rfl)
  | skip
theorem Iw (n : Int)  : PCall Tryd.prog 17 [.i n] (.ret (inX n).d) := by
 refine ae tok hmix ⟨[], []⟩ Tryd.func17 rfl (by kernel_rfl) (by kernel_rfl) (by kernel_rfl) fun hf => ?_
 clear hf
 repeat' ((try (conv => whnf)) <;> first
  | ((with_reducible refine aj ?_ ?_ ?_); rotate_left; (exact qA _))
  | (with_reducible refine bH.l _ ?_)
  | ((with_reducible refine ai ?_); refine ⟨[], rfl, ?_, trivial⟩; conv => whnf)
  | fail)
 all_goals first
  | (rfl)
  | skip
theorem KC (nm : List UInt8) (i n : Int)  : PCall Tryd.prog 21 [.str nm, .i i, .i n] (.ret (YJ nm i n).d) := by
 refine ae tok hmix ⟨[], []⟩ Tryd.func21 rfl (by kernel_rfl) (by kernel_rfl) (by kernel_rfl) fun hf => ?_
 clear hf
 repeat' ((try (conv => whnf)) <;> first
  | ((with_reducible refine aj ?_ ?_ ?_); rotate_left; (exact qA _))
  | (with_reducible refine bH.l _ ?_)
  | ((with_reducible refine ai ?_); refine ⟨[], rfl, ?_, trivial⟩; conv => whnf)
  | fail)
 all_goals first
  | (rfl)
  | skip
theorem Nl   : PCall Tryd.prog 18 [] (.ret sX.d) := by
 refine ae tok hmix ⟨[], []⟩ Tryd.func18 rfl (by kernel_rfl) (by kernel_rfl) (by kernel_rfl) fun hf => ?_
 clear hf
 repeat' ((try (conv => whnf)) <;> first
  | ((with_reducible refine ai ?_); refine ⟨[], rfl, ?_, trivial⟩; conv => whnf)
  | fail)
 all_goals first
  | (rfl)
  | skip
theorem yM (nm : List UInt8)  : PCall Tryd.prog 16 [.str nm] (.ret (.agg (Bd.cs ⟨nm, -2147483648, 2147483647⟩))) := by
 refine ae tok hmix ⟨[], []⟩ Tryd.func16 rfl (by kernel_rfl) (by kernel_rfl) (by kernel_rfl) fun hf => ?_
 clear hf
 repeat' ((try (conv => whnf)) <;> first
  | ((with_reducible refine ai ?_); refine ⟨[], rfl, ?_, trivial⟩; conv => whnf)
  | fail)
 all_goals first
  | skip
theorem kD (l : List Sm)  : PCall Tryd.prog 19 [.sl 8 (l.map Sm.cs)] (.ret (VO l).d) := by
 refine ae tok hmix ⟨[], []⟩ Tryd.func19 rfl (by kernel_rfl) (by kernel_rfl) (by kernel_rfl) fun hf => ?_
 clear hf
 repeat' ((try (conv => whnf)) <;> first
  | ((with_reducible refine aj ?_ ?_ ?_); rotate_left; (exact yM _))
  | (with_reducible refine bH.l _ ?_)
  | ((with_reducible refine ai ?_); refine ⟨[], rfl, ?_, trivial⟩; conv => whnf)
  | fail)
 all_goals first
  | (rfl)
  | skip
end Go.Proofs.YtogfjinopifenaaDoor
namespace Go.Proofs.YtogfjinopifenaaDoor
open Go.Fw Go.Fw.Ref15 Go.Fw.Rg Go.Fw.Tl
set_option maxRecDepth 10000
variable [af]
abbrev VR (x : Ex) : Sm := ⟨2, [115], 0, x⟩
abbrev pA : Pr := VO [outS (inX 0)]
abbrev pB : Pr := VO [VR (inX 0), outS sX]
abbrev pC : Pr := VO [⟨1, [97], 0, sX⟩, VR (inX 0), outS ⟨5, [97], 0, 0, []⟩]
abbrev pD : Pr := VO [VR (z2x [sX, inX 0]), outS sX]
abbrev pM : Pr := VO [VR (inX 0), outS (ZX 0)]
abbrev pN : Pr := VO [⟨3, [100], 0, inX 0⟩, outS (YJ [100] 0 0)]
abbrev pO : Pr := VO [outS (inX 5)]
theorem Np (p : Pr) (a b : Int) (h : lD p = (a, b)) (g : dA p) : PCall Tryd.prog 11 [p.d] (.ret (.tuple [.i a, .i b])) := by
 have := kC p g; rw [h] at this; exact this
theorem z2f (p : Pr) (a b : Int) (h : iO p = (a, b)) (g : dA p) : PCall Tryd.prog 10 [p.d] (.ret (.tuple [.i a, .i b])) := by
 have := ig p g; rw [h] at this; exact this
theorem Rk (p : Pr) (a : Int) (h : gX p = a) (g : dA p) : PCall Tryd.prog 12 [p.d] (.ret (.i a)) := by
 rw [← h]; exact fZ p g
theorem sm0 : PCall Tryd.prog 11 [(pA).d] (.ret (.tuple [.i 0, .i 0])) := Np pA 0 0 (by kernel_rfl) (jq ⟨by decide, by decide, by decide, by decide, by decide, by kernel_rfl, by kernel_rfl⟩)
theorem sm1 : PCall Tryd.prog 11 [(pB).d] (.ret (.tuple [.i 0, .i 0])) := Np pB 0 0 (by kernel_rfl) (jq ⟨by decide, by decide, by decide, by decide, by decide, by kernel_rfl, by kernel_rfl⟩)
theorem sm2 : PCall Tryd.prog 11 [(pC).d] (.ret (.tuple [.i 1, .i 0])) := Np pC 1 0 (by kernel_rfl) (jq ⟨by decide, by decide, by decide, by decide, by decide, by kernel_rfl, by kernel_rfl⟩)
theorem sm3 : PCall Tryd.prog 11 [(pD).d] (.ret (.tuple [.i (-1), .i 0])) := Np pD (-1) 0 (by kernel_rfl) (jq ⟨by decide, by decide, by decide, by decide, by decide, by kernel_rfl, by kernel_rfl⟩)
theorem sm4 : PCall Tryd.prog 11 [(pM).d] (.ret (.tuple [.i 0, .i 0])) := Np pM 0 0 (by kernel_rfl) (jq ⟨by decide, by decide, by decide, by decide, by decide, by kernel_rfl, by kernel_rfl⟩)
theorem sm5 : PCall Tryd.prog 11 [(pN).d] (.ret (.tuple [.i 3, .i 0])) := Np pN 3 0 (by kernel_rfl) (jq ⟨by decide, by decide, by decide, by decide, by decide, by kernel_rfl, by kernel_rfl⟩)
theorem sl0 : PCall Tryd.prog 10 [(pO).d] (.ret (.tuple [.i 5, .i 0])) := z2f pO 5 0 (by kernel_rfl) (jq ⟨by decide, by decide, by decide, by decide, by decide, by kernel_rfl, by kernel_rfl⟩)
theorem sc0 : PCall Tryd.prog 12 [(pD : Pr).d] (.ret (.i 0)) := Rk pD 0 (by kernel_rfl) (jq ⟨by decide, by decide, by decide, by decide, by decide, by kernel_rfl, by kernel_rfl⟩)
theorem sc1 : PCall Tryd.prog 12 [({ pD with tail := 100 } : Pr).d] (.ret (.i 171)) := Rk { pD with tail := 100 } 171 (by kernel_rfl) (jq ⟨by decide, by decide, by decide, by decide, by decide, by kernel_rfl, by kernel_rfl⟩)
theorem sc2 : PCall Tryd.prog 12 [(pO : Pr).d] (.ret (.i 170)) := Rk pO 170 (by kernel_rfl) (jq ⟨by decide, by decide, by decide, by decide, by decide, by kernel_rfl, by kernel_rfl⟩)
theorem sc3 : PCall Tryd.prog 12 [({ pO with latency := 5 } : Pr).d] (.ret (.i 0)) := Rk { pO with latency := 5 } 0 (by kernel_rfl) (jq ⟨by decide, by decide, by decide, by decide, by decide, by kernel_rfl, by kernel_rfl⟩)
theorem sc4 : PCall Tryd.prog 12 [(Pr.none : Pr).d] (.ret (.i 150)) := Rk Pr.none 150 (by kernel_rfl) (jq ⟨by decide, by decide, by decide, by decide, by decide, by kernel_rfl, by kernel_rfl⟩)
theorem gu   : PCall Tryd.prog 7 [] (.ret (.b true)) := by
 refine ae tok hmix ⟨[], []⟩ Tryd.func7 rfl (by kernel_rfl) (by kernel_rfl) (by kernel_rfl) fun hf => ?_
 clear hf
 repeat' ((try (conv => whnf)) <;> first
  | ((with_reducible refine BrI.ff_of ?_ ?_); kernel_rfl)
  | ((with_reducible refine aj ?_ ?_ ?_); rotate_left; (first | exact Iw _ | exact Nl | exact qA _ | exact KC _ _ _ | exact kD [outS (inX 0)] | exact kD [VR (inX 0), outS sX] | exact kD [⟨1, [97], 0, sX⟩, VR (inX 0), outS ⟨5, [97], 0, 0, []⟩] | exact kD [VR (z2x [sX, inX 0]), outS sX] | exact kD [VR (inX 0), outS (ZX 0)] | exact kD [⟨3, [100], 0, inX 0⟩, outS (YJ [100] 0 0)] | exact kD [outS (inX 5)] | exact sm0 | exact sm1 | exact sm2 | exact sm3 | exact sm4 | exact sm5 | exact sl0 | exact sc0 | exact sc1 | exact sc2 | exact sc3 | exact sc4))
  | (with_reducible refine bH.l _ ?_)
  | ((with_reducible refine bF ?_ ?_ (fun hg => ?_) ?_); exact rfl)
  | ((with_reducible refine dE ?_ ?_); with_reducible exact rfl; with_reducible exact rfl)
  | ((with_reducible refine aA ?_ ?_); kernel_rfl)
  | ((with_reducible refine ai ?_); refine ⟨[], rfl, ?_, trivial⟩; conv => whnf)
  | fail)
 all_goals first
  | (rfl)
  | skip
end Go.Proofs.YtogfjinopifenaaDoor
