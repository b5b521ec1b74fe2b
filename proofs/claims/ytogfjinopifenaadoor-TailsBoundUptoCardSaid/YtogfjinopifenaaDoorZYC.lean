/- Contracts: the laws of tails: small processors; the laws' little functions. -/
import Derived.Test.YtogfjinopifenaaDoorZYB
set_option linter.unusedSectionVars false
set_option linter.unusedSimpArgs false
set_option linter.unusedVariables false
set_option maxHeartbeats 8000000
namespace Go.Proofs.YtogfjinopifenaaDoor
open Go.Fw Go.Fw.Ref15 Go.Fw.Rg Go.Fw.Tl
set_option maxRecDepth 10000
variable [GlobInt] {p : Pr} {c : Bool}
theorem XO {l : List Ex} {k : Nat} (h : (bif decide ((k : Int) < ((Ex.css l).length : Int)) then c else false) = false) (hk : k < l.length) : c = false := by
 rw [Ex.css_len, decide_eq_true (show (k : Int) < (l.length : Int) by omega)] at h; exact h
theorem XP {x y : Ex} {d : Int} (hd : 0 ≤ d) (hy : y ∈ x.l) (hc : (bif d == 0 then decide (((Ex.css x.l).length : Int) > 0) else false) = false) : 0 ≤ d - 1 := by
 have : 0 < x.l.length := List.length_pos_of_mem hy
 by_cases h : d = 0
 ·subst h; rw [Ex.css_len, decide_eq_true (show (x.l.length : Int) > 0 by omega)] at hc; exact Bool.noConfusion (show true = false from hc)
 ·omega
theorem z00 {c d : Bool} (h : (bif c then d else false) = true) : d = true := by cases c <;> first | exact h | exact Bool.noConfusion h
theorem ZB {b : Bool} (h : (bif (bif (bif (bif decide (((p.stmts.map Sm.cs).length : Int) > 14) then true else decide (((p.params.map Bd.cs).length : Int) > 18)) then true else decide (((p.states.map Bd.cs).length : Int) > 18)) then true else decide (((p.lines.map Ln.cs).length : Int) > 18)) then true else decide (((p.tables.map Tb.cs).length : Int) > 18)) = b) : ZP p = b := by
 simp only [List.length_map] at h; exact h
theorem z01 (h : ZP p = true) : E8 p = false := by rw [E8, if_pos h]
theorem z02 (h : ZP p = false) : E8 p = if p.stmts.all yP then p.tables.all yg else false := by rw [E8, if_neg (by rw [h]; decide)]
theorem z03 {s : Sm} {r : List Sm} (h : E8 p = if (s :: r).all yP then c else false) (h2 : decide (ndM s.x 12 40 > 40) = true) : E8 p = false := by
 have : yP s = false := by rw [yP, h2]; rfl
 rw [h, List.all_cons, this]; rfl
theorem z04 {s : Sm} {r : List Sm} (h : E8 p = if (s :: r).all yP then c else false) (h2 : decide (ndM s.x 12 40 > 40) = false) : E8 p = if r.all yP then c else false := by
 have : yP s = true := by rw [yP, h2]; rfl
 rw [h, List.all_cons, this, Bool.true_and]
theorem z05 {s : Tb} {r : List Tb} (h : E8 p = (s :: r).all yg) (h2 : decide (((s.values.map X9).length : Int) > 40) = true) : E8 p = false := by
 rw [List.length_map] at h2
 have : yg s = false := by rw [yg, h2]; rfl
 rw [h, List.all_cons, this]; rfl
theorem z06 {s : Tb} {r : List Tb} (h : E8 p = (s :: r).all yg) (h2 : decide (((s.values.map X9).length : Int) > 40) = false) : E8 p = r.all yg := by
 rw [List.length_map] at h2
 have : yg s = true := by rw [yg, h2]; rfl
 rw [h, List.all_cons, this, Bool.true_and]
theorem L9 (x : Ex) (d most : Int) (hx : Ref15.nodes x ≤ 1073741824) (hd : 0 ≤ d) (hd2 : d ≤ 1099511627776) (hm0 : 0 ≤ most) (hm : most ≤ 1099511627776) : PCall Tryd.prog 22 [x.d, .i d, .i most] (.ret (.i (ndM x d most))) := by
 revert hd hd2; revert d; revert hx; revert x; refine Ex.ind fun x ih hx d hd hd2 => ?_
 refine ae tok hmix ⟨[], []⟩ Tryd.func22 rfl (by kernel_rfl) (by kernel_rfl) (by kernel_rfl) fun hf => ?_
 have hlen := Ex.fits (hf x.d (by simp))
 have hE := Ref15.nodes_eq x
 have hw1 : IntKind.i64.wrap (most + 1) = most + 1 := bu (by omega) (by omega)
 have ih2 : ∀ y ∈ x.l, ∀ c e, c = e → 0 ≤ e → e ≤ 1099511627776 → PCall Tryd.prog 22 [y.d, .i c, .i most] (.ret (.i (ndM y e most))) := fun y hy c e hc h0 h1 => by subst hc; exact ih y hy (by have := nz hy; omega) c h0 h1
 clear hf
 repeat' ((try (conv => whnf)) <;> first
  | with_reducible exact trivial
  | with_reducible exact au hd0 ‹_›
  | with_reducible refine BrI.intro (fun h => ?_) (fun h => ?_)
  | (exact (WO (YZ hd0) h).elim)
  | ((with_reducible refine aG.mk 0 ?_); refine ⟨aN (x.l) 8 (fun (n : (Int)) => [(7, .data (.val (.int .i64 n)))]) (fun (n : (Int)) => []) [1, 2, 3] (fun i0 r0 n => ndM x d most = mm2 false (ndL r0 d most n) (most + 1) ∧ 1 ≤ n ∧ n ≤ 2 * most + 2), ?_⟩; with_reducible refine af ?_ ?_ ?_ (fun i0 (n : (Int)) hd0 hI0 => ?_) (fun i0 x0 r0 (n : (Int)) hd0 hl0 hI0 => ?_))
  | (with_reducible refine ag hd0 ?_ ?_ ?_)
  | ((with_reducible refine ai ?_ ?_ ?_); rotate_left; (exact ih2 _ (bQ hd0) _ (d - 1) (bu (by omega) (by omega)) (XP hd (bQ hd0) ‹_›) (by omega)))
  | ((with_reducible refine aH ?_ ?_ ?_ ?_ ?_); exact rfl; exact rfl; rotate_left; (with_reducible exact dU hd0))
  | ((with_reducible refine aT ?_ ?_); exact rfl)
  | ((with_reducible refine ah ?_); refine ⟨[], rfl, ?_, trivial⟩; conv => whnf)
  | (with_reducible refine And.intro ?_ ?_)
  | exact @rfl AV _)
 all_goals first
  | ((refine congrArg D.i ?_; rw [Qu, if_pos (by rw [← Ex.css_len]; exact h), hw1]))
  | ((rw [Qu, if_neg (by rw [← Ex.css_len, h]; decide)]))
  | (omega)
  | ((have hr := Zp hm0 x0 (d - 1); have hq := of_decide_eq_true (z00 h); rw [bu (by omega) (by omega)]; first | omega | (rw [hI0.1, ndL, if_pos hq])))
  | ((refine congrArg D.i ?_; rw [hI0.1, ndL, if_neg (of_decide_eq_false (XO h hl0)), hw1]))
  | ((refine congrArg D.i ?_; rw [hI0.1, ndL, hw1]))
  | skip
theorem iQ (p : Pr) (g : cZ p) : PCall Tryd.prog 8 [p.d] (.ret (.b (E8 p))) := by
 refine ae tok hmix ⟨[], []⟩ Tryd.func8 rfl (by kernel_rfl) (by kernel_rfl) (by kernel_rfl) fun hf => ?_
 have hs4 := g.sm.tables; have hs5 := g.sm.stmts
 have hl_a : p.tables.length ≤ 9223372036854775807 := by omega
 have hl_b : p.stmts.length ≤ 9223372036854775807 := by omega
 clear hf
 repeat' ((try (conv => whnf)) <;> first
  | with_reducible exact trivial
  | with_reducible exact au hd2 ‹_›
  | with_reducible exact au hd0 ‹_›
  | with_reducible refine bK hd2 ?_
  | with_reducible refine bK hd0 ?_
  | with_reducible refine aY hd2 ?_
  | with_reducible refine aY hd0 ?_
  | with_reducible refine BrI.intro (fun h => ?_) (fun h => ?_)
  | ((with_reducible refine aG.mk 0 ?_); refine ⟨aN (p.stmts) 3 (fun (_ : Unit) => []) (fun (_ : Unit) => []) [1] (fun i0 r0 _ => E8 p = if r0.all yP then p.tables.all yg else false), ?_⟩; with_reducible refine af () ?_ ?_ (fun i0 (_ : Unit) hd0 hI0 => ?_) (fun i0 x0 r0 (_ : Unit) hd0 hl0 hI0 => ?_))
  | (with_reducible refine ag hd0 () ?_ ?_)
  | ((with_reducible refine aG.mk 2 ?_); refine ⟨aN (p.tables) 4 (fun (_ : Unit) => []) (fun (_ : Unit) => []) [1] (fun i2 r2 _ => E8 p = r2.all yg), ?_⟩; with_reducible refine af () ?_ ?_ (fun i2 (_ : Unit) hd2 hI2 => ?_) (fun i2 x2 r2 (_ : Unit) hd2 hl2 hI2 => ?_))
  | (with_reducible refine ag hd2 () ?_ ?_)
  | ((with_reducible refine ai ?_ ?_ ?_); rotate_left; (exact L9 _ 12 40 (g.hn _ (bQ hd0)) (by decide) (by decide) (by decide) (by decide)))
  | ((with_reducible refine aH ?_ ?_ ?_ ?_ ?_); exact rfl; exact rfl; rotate_left; (first | with_reducible exact aC hd2 | with_reducible exact aC hd0))
  | ((with_reducible refine aT ?_ ?_); exact rfl)
  | ((with_reducible refine ah ?_); refine ⟨[], rfl, ?_, trivial⟩; conv => whnf)
  | (with_reducible refine And.intro ?_ ?_)
  | exact @rfl AV _)
 all_goals first
  | ((exact congrArg D.b (z01 (ZB h)).symm))
  | ((exact z02 (ZB h)))
  | ((rw [hI0]; rfl))
  | ((exact congrArg D.b (z03 hI0 h).symm))
  | ((exact z04 hI0 h))
  | ((exact congrArg D.b (z05 hI2 h).symm))
  | ((exact z06 hI2 h))
  | ((rw [hI2]; rfl))
  | skip
theorem pV (n : Int)  : PCall Tryd.prog 20 [.i n] (.ret (Zn n).d) := by
 refine ae tok hmix ⟨[], []⟩ Tryd.func20 rfl (by kernel_rfl) (by kernel_rfl) (by kernel_rfl) fun hf => ?_
 clear hf
 repeat' ((try (conv => whnf)) <;> first
  | ((with_reducible refine ah ?_); refine ⟨[], rfl, ?_, trivial⟩; conv => whnf))
 all_goals first
  | (rfl)
  | skip
theorem Ht (n : Int)  : PCall Tryd.prog 17 [.i n] (.ret (inX n).d) := by
 refine ae tok hmix ⟨[], []⟩ Tryd.func17 rfl (by kernel_rfl) (by kernel_rfl) (by kernel_rfl) fun hf => ?_
 clear hf
 repeat' ((try (conv => whnf)) <;> first
  | ((with_reducible refine ai ?_ ?_ ?_); rotate_left; (exact pV _))
  | (with_reducible refine bF.l _ ?_)
  | ((with_reducible refine ah ?_); refine ⟨[], rfl, ?_, trivial⟩; conv => whnf))
 all_goals first
  | (rfl)
  | skip
theorem JQ (nm : List UInt8) (i n : Int)  : PCall Tryd.prog 21 [.str nm, .i i, .i n] (.ret (Yb nm i n).d) := by
 refine ae tok hmix ⟨[], []⟩ Tryd.func21 rfl (by kernel_rfl) (by kernel_rfl) (by kernel_rfl) fun hf => ?_
 clear hf
 repeat' ((try (conv => whnf)) <;> first
  | ((with_reducible refine ai ?_ ?_ ?_); rotate_left; (exact pV _))
  | (with_reducible refine bF.l _ ?_)
  | ((with_reducible refine ah ?_); refine ⟨[], rfl, ?_, trivial⟩; conv => whnf))
 all_goals first
  | (rfl)
  | skip
theorem Md   : PCall Tryd.prog 18 [] (.ret sX.d) := by
 refine ae tok hmix ⟨[], []⟩ Tryd.func18 rfl (by kernel_rfl) (by kernel_rfl) (by kernel_rfl) fun hf => ?_
 clear hf
 repeat' ((try (conv => whnf)) <;> first
  | ((with_reducible refine ah ?_); refine ⟨[], rfl, ?_, trivial⟩; conv => whnf))
 all_goals first
  | (rfl)
  | skip
theorem yt (nm : List UInt8)  : PCall Tryd.prog 16 [.str nm] (.ret (.agg (Bd.cs ⟨nm, -2147483648, 2147483647⟩))) := by
 refine ae tok hmix ⟨[], []⟩ Tryd.func16 rfl (by kernel_rfl) (by kernel_rfl) (by kernel_rfl) fun hf => ?_
 clear hf
 repeat' ((try (conv => whnf)) <;> first
  | ((with_reducible refine ah ?_); refine ⟨[], rfl, ?_, trivial⟩; conv => whnf))
 all_goals first
  | skip
theorem jT (l : List Sm)  : PCall Tryd.prog 19 [.sl 8 (l.map Sm.cs)] (.ret (Ve l).d) := by
 refine ae tok hmix ⟨[], []⟩ Tryd.func19 rfl (by kernel_rfl) (by kernel_rfl) (by kernel_rfl) fun hf => ?_
 clear hf
 repeat' ((try (conv => whnf)) <;> first
  | ((with_reducible refine ai ?_ ?_ ?_); rotate_left; (exact yt _))
  | (with_reducible refine bF.l _ ?_)
  | ((with_reducible refine ah ?_); refine ⟨[], rfl, ?_, trivial⟩; conv => whnf))
 all_goals first
  | (rfl)
  | skip
end Go.Proofs.YtogfjinopifenaaDoor
namespace Go.Proofs.YtogfjinopifenaaDoor
open Go.Fw Go.Fw.Ref15 Go.Fw.Rg Go.Fw.Tl
set_option maxRecDepth 10000
variable [GlobInt]
abbrev Vg (x : Ex) : Sm := ⟨2, [115], 0, x⟩
abbrev pA : Pr := Ve [outS (inX 0)]
abbrev pB : Pr := Ve [Vg (inX 0), outS sX]
abbrev pC : Pr := Ve [⟨1, [97], 0, sX⟩, Vg (inX 0), outS ⟨5, [97], 0, 0, []⟩]
abbrev pD : Pr := Ve [Vg (z1p [sX, inX 0]), outS sX]
abbrev pM : Pr := Ve [Vg (inX 0), outS (Zn 0)]
abbrev pN : Pr := Ve [⟨3, [100], 0, inX 0⟩, outS (Yb [100] 0 0)]
abbrev pO : Pr := Ve [outS (inX 5)]
theorem Me (p : Pr) (a b : Int) (h : kW p = (a, b)) (g : cZ p) : PCall Tryd.prog 11 [p.d] (.ret (.tuple [.i a, .i b])) := by
 have := jS p g; rw [h] at this; exact this
theorem z07 (p : Pr) (a b : Int) (h : iG p = (a, b)) (g : cZ p) : PCall Tryd.prog 10 [p.d] (.ret (.tuple [.i a, .i b])) := by
 have := gK p g; rw [h] at this; exact this
theorem QB (p : Pr) (a : Int) (h : gJ p = a) (g : cZ p) : PCall Tryd.prog 12 [p.d] (.ret (.i a)) := by
 rw [← h]; exact fK p g
theorem sm0 : PCall Tryd.prog 11 [(pA).d] (.ret (.tuple [.i 0, .i 0])) := Me pA 0 0 (by kernel_rfl) (je ⟨by decide, by decide, by decide, by decide, by decide, by kernel_rfl, by kernel_rfl⟩)
theorem sm1 : PCall Tryd.prog 11 [(pB).d] (.ret (.tuple [.i 0, .i 0])) := Me pB 0 0 (by kernel_rfl) (je ⟨by decide, by decide, by decide, by decide, by decide, by kernel_rfl, by kernel_rfl⟩)
theorem sm2 : PCall Tryd.prog 11 [(pC).d] (.ret (.tuple [.i 1, .i 0])) := Me pC 1 0 (by kernel_rfl) (je ⟨by decide, by decide, by decide, by decide, by decide, by kernel_rfl, by kernel_rfl⟩)
theorem sm3 : PCall Tryd.prog 11 [(pD).d] (.ret (.tuple [.i (-1), .i 0])) := Me pD (-1) 0 (by kernel_rfl) (je ⟨by decide, by decide, by decide, by decide, by decide, by kernel_rfl, by kernel_rfl⟩)
theorem sm4 : PCall Tryd.prog 11 [(pM).d] (.ret (.tuple [.i 0, .i 0])) := Me pM 0 0 (by kernel_rfl) (je ⟨by decide, by decide, by decide, by decide, by decide, by kernel_rfl, by kernel_rfl⟩)
theorem sm5 : PCall Tryd.prog 11 [(pN).d] (.ret (.tuple [.i 3, .i 0])) := Me pN 3 0 (by kernel_rfl) (je ⟨by decide, by decide, by decide, by decide, by decide, by kernel_rfl, by kernel_rfl⟩)
theorem sl0 : PCall Tryd.prog 10 [(pO).d] (.ret (.tuple [.i 5, .i 0])) := z07 pO 5 0 (by kernel_rfl) (je ⟨by decide, by decide, by decide, by decide, by decide, by kernel_rfl, by kernel_rfl⟩)
theorem sc0 : PCall Tryd.prog 12 [(pD : Pr).d] (.ret (.i 0)) := QB pD 0 (by kernel_rfl) (je ⟨by decide, by decide, by decide, by decide, by decide, by kernel_rfl, by kernel_rfl⟩)
theorem sc1 : PCall Tryd.prog 12 [({ pD with tail := 100 } : Pr).d] (.ret (.i 171)) := QB { pD with tail := 100 } 171 (by kernel_rfl) (je ⟨by decide, by decide, by decide, by decide, by decide, by kernel_rfl, by kernel_rfl⟩)
theorem sc2 : PCall Tryd.prog 12 [(pO : Pr).d] (.ret (.i 170)) := QB pO 170 (by kernel_rfl) (je ⟨by decide, by decide, by decide, by decide, by decide, by kernel_rfl, by kernel_rfl⟩)
theorem sc3 : PCall Tryd.prog 12 [({ pO with latency := 5 } : Pr).d] (.ret (.i 0)) := QB { pO with latency := 5 } 0 (by kernel_rfl) (je ⟨by decide, by decide, by decide, by decide, by decide, by kernel_rfl, by kernel_rfl⟩)
theorem sc4 : PCall Tryd.prog 12 [(Pr.none : Pr).d] (.ret (.i 150)) := QB Pr.none 150 (by kernel_rfl) (je ⟨by decide, by decide, by decide, by decide, by decide, by kernel_rfl, by kernel_rfl⟩)
theorem fP   : PCall Tryd.prog 7 [] (.ret (.b true)) := by
 refine ae tok hmix ⟨[], []⟩ Tryd.func7 rfl (by kernel_rfl) (by kernel_rfl) (by kernel_rfl) fun hf => ?_
 clear hf
 repeat' ((try (conv => whnf)) <;> first
  | ((with_reducible refine BrI.ff_of ?_ ?_); kernel_rfl)
  | ((with_reducible refine ai ?_ ?_ ?_); rotate_left; (first | exact Ht _ | exact Md | exact pV _ | exact JQ _ _ _ | exact jT [outS (inX 0)] | exact jT [Vg (inX 0), outS sX] | exact jT [⟨1, [97], 0, sX⟩, Vg (inX 0), outS ⟨5, [97], 0, 0, []⟩] | exact jT [Vg (z1p [sX, inX 0]), outS sX] | exact jT [Vg (inX 0), outS (Zn 0)] | exact jT [⟨3, [100], 0, inX 0⟩, outS (Yb [100] 0 0)] | exact jT [outS (inX 5)] | exact sm0 | exact sm1 | exact sm2 | exact sm3 | exact sm4 | exact sm5 | exact sl0 | exact sc0 | exact sc1 | exact sc2 | exact sc3 | exact sc4))
  | (with_reducible refine bF.l _ ?_)
  | ((with_reducible refine bz ?_ ?_ (fun hg => ?_) ?_); exact rfl)
  | ((with_reducible refine dA ?_ ?_); with_reducible exact rfl; with_reducible exact rfl)
  | ((with_reducible refine ay ?_ ?_); kernel_rfl)
  | ((with_reducible refine ah ?_); refine ⟨[], rfl, ?_, trivial⟩; conv => whnf))
 all_goals first
  | (rfl)
  | skip
end Go.Proofs.YtogfjinopifenaaDoor
