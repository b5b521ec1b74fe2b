/- Contracts: package tails: valid, Latency. -/
import Derived.Test.YtogfjinopifenaaDoorZTS0
import Derived.Test.YtogfjinopifenaaDoorZTB
import Derived.Test.YtogfjinopifenaaDoorZTS4
set_option linter.unusedSectionVars false
set_option linter.unusedSimpArgs false
set_option linter.unusedVariables false
set_option maxHeartbeats 8000000
namespace Go.Proofs.YtogfjinopifenaaDoor
open Go.Fw Go.Fw.Rg Go.Fw.Nam Go.Fw.Tl
set_option maxRecDepth 10000
variable [af]
theorem z1z {p : Pr} (h : ((resolveC p).2 != 0) = true) : (resolveC p).2 = (ak p).2 := by
 have e : resE p = (resolveC p).2 := by rw [resE, if_pos h]
 rw [lQ (by rw [e]; exact h), e]
theorem z14 {p : Pr} (h : ((resolveC p).2 != 0) = false) (h2 : (!pq (resolveC p).1 p) = true) : (150 : Int) = (ak p).2 := by
 have h3 : pq p (resolveC p).1 = false := by
  cases q : pq p (resolveC p).1 with
  | false => rfl
  | true =>
   have e := (fV _ _).1 q
   rw [(fV _ _).2 e.symm] at h2
   exact Bool.noConfusion h2
 have e : resE p = 150 := by rw [resE, h, if_neg (by decide), if_neg (by rw [h3]; decide)]
 rw [lQ (by rw [e]; decide), e]
theorem uB (p : Pr) (g : dA p) : PCall Tryd.prog 31 [p.d] (.ret (.i (ak p).2)) := by
 refine ae tok hmix ⟨[], []⟩ Tryd.func31 rfl (by kernel_rfl) (by kernel_rfl) (by kernel_rfl) fun hf => ?_
 clear hf
 repeat' ((try (conv => whnf)) <;> first
  | with_reducible refine BrI.intro (fun h => ?_) (fun h => ?_)
  | ((with_reducible refine aj ?_ ?_ ?_); rotate_left; (first | exact fG p g.sm g.hn | exact gY (resolveC p).1 p | exact qy p g))
  | ((with_reducible refine ai ?_); refine ⟨[], rfl, ?_, trivial⟩; conv => whnf)
  | fail)
 all_goals first
  | ((exact congrArg D.i (z1z h)))
  | ((exact congrArg D.i (z14 ‹_› h)))
  | skip
theorem Dh (p : Pr) (g : dA p) (h : (ak p).2 = 0) : PCall Tryd.prog 31 [p.d] (.ret (.i 0)) := by
 have := uB p g; rwa [h] at this
theorem Yj (p : Pr) (z : Ex) (s : Sp) (g : dA p) (h : dm p z = .ok s) (hz : Ref15.nodes z ≤ 1073741824) : PCall Tryd.prog 33 [p.d, z.d] (.ret (.tuple [.i s.1, .i s.2, .i 0])) := by
 have := zk p z g hz; rw [h] at this; exact this
theorem Yk (p : Pr) (g : dA p) (hb : ((ak p).2 != 0) = true) : PCall Tryd.prog 10 [p.d] (.ret (.tuple [.i 0, .i (ak p).2])) := by
 refine ae tok hmix ⟨[], []⟩ Tryd.func10 rfl (by kernel_rfl) (by kernel_rfl) (by kernel_rfl) fun hf => ?_
 clear hf
 repeat' ((try (conv => whnf)) <;> first
  | (exact Bool.noConfusion (hb.symm.trans h))
  | with_reducible refine BrI.intro (fun h => ?_) (fun h => ?_)
  | ((with_reducible refine aj ?_ ?_ ?_); rotate_left; (exact uB p g))
  | ((with_reducible refine aA ?_ ?_); kernel_rfl)
  | ((with_reducible refine ai ?_); refine ⟨[], rfl, ?_, trivial⟩; conv => whnf)
  | fail)
 all_goals first
  | skip
theorem z0g (p : Pr) (F : List Sp) (g : dA p) (hb : BOk p F) : PCall Tryd.prog 10 [p.d] (.ret (.tuple [.i (latM p), .i 0])) := by
 refine ae tok hmix ⟨[], []⟩ Tryd.func10 rfl (by kernel_rfl) (by kernel_rfl) (by kernel_rfl) fun hf => ?_
 have hs5 := g.sm.stmts
 have hl_b : p.stmts.length ≤ 9223372036854775807 := by omega
 clear hf
 repeat' ((try (conv => whnf)) <;> first
  | ((with_reducible refine BrI.ff_of ?_ ?_); exact rfl)
  | ((with_reducible refine jR.mk 25 ?_); refine ⟨rfl, ⟨[(1, .ptr 1 0), (2, .ptr 2 0), (3, .ptr 3 0), (16, .data (.sl 8 (p.stmts.map Sm.cs))), (17, .data (.i ((p.stmts.map Sm.cs).length : Nat))), (18, .data (.i (i0 : Nat))), (24, .fn 57 [.ptr 800001 0])], [(1, .cells [.data (.str p.name), .data (.i p.latency), .data (.i p.tail), .data (.sl 3 (p.params.map Bd.cs)), .data (.sl 3 (p.states.map Bd.cs)), .data (.sl 4 (p.lines.map Ln.cs)), .data (.sl 2 (p.tables.map Tb.cs)), .data (.sl 8 (p.stmts.map Sm.cs))]), (2, .cells [.data (.i n)]), (3, .cells [.data (.i 0)]), (800001, .cells [.data (.i x0.x.kind), .data (.str x0.x.name), .data (.i x0.x.index), .data (.i x0.x.n), .data (.sl 5 (Ex.css x0.x.l))])], [(1000000, 2), (1000001, 1), (1000002, 3)], [(1, .ptr 1000001 0), (2, .ptr 1000000 0), (3, .ptr 1000002 0)], fun j => [(1000000, .cells [.data (.i (QX p n x0.x j))]), (1000001, .cells [.data (.str p.name), .data (.i p.latency), .data (.i p.tail), .data (.sl 3 (p.params.map Bd.cs)), .data (.sl 3 (p.states.map Bd.cs)), .data (.sl 4 (p.lines.map Ln.cs)), .data (.sl 2 (p.tables.map Tb.cs)), .data (.sl 8 (p.stmts.map Sm.cs))]), (1000002, .cells [.data (.i 0)])], (au x0.x).length, fun j => [((au x0.x).getD j Ex.none).d], 900002, none⟩, ⟨?_, rfl, rfl, ?_, ?_, fun j hj => ⟨rfl, rfl, ?_⟩, fun _ _ e => F5 e, ⟨_, _, rfl, rfl, fun Rf Re hy hy2 => ⟨1000000, [.ptr 1000001 0], [(1000001, .cells [.data (.i x0.x.kind), .data (.str x0.x.name), .data (.i x0.x.index), .data (.i x0.x.n), .data (.sl 5 (Ex.css x0.x.l))])], .data (.tuple []), [(1000001, .cells [.data (.i x0.x.kind), .data (.str x0.x.name), .data (.i x0.x.index), .data (.i x0.x.n), .data (.sl 5 (Ex.css x0.x.l))])], [(1000000, 900002), (1000001, 800001)], AA x0.x Rf (fun j y hj => Il (P := fun n d => aZ Tryd.prog yQ [.yld 1000000, .data d] [(1000000, .rnd (Rf n))] (.ret (.b true)) [(1000000, .rnd (Rf (n + 1)))]) hy j y (List.getElem?_eq_some_iff.1 hj).1 hj), rfl, ?_, rfl, rfl, ?_⟩⟩⟩⟩)
  | (have hq := XV (n := n) hb g hd0 hj (by assumption); clear hj; obtain ⟨z, s, hz1, hz2, hz3, hz4⟩ := hq)
  | (have hz4 := Z7 (p := p) (n := n) hj (by assumption); clear hj)
  | ((with_reducible refine aJ ?_ ?_ ?_ ?_ ?_); exact rfl; exact rfl; rotate_left; exact UD hz1)
  | with_reducible exact trivial
  | with_reducible exact ax hd0 ‹_›
  | with_reducible refine bQ hd0 ?_
  | with_reducible refine bi hd0 ?_
  | with_reducible refine BrI.intro (fun h => ?_) (fun h => ?_)
  | ((with_reducible refine aI.mk 0 ?_); refine ⟨aP (p.stmts) 18 (fun (n : (Int)) => []) (fun (n : (Int)) => [(1, .cells [.data (.str p.name), .data (.i p.latency), .data (.i p.tail), .data (.sl 3 (p.params.map Bd.cs)), .data (.sl 3 (p.states.map Bd.cs)), .data (.sl 4 (p.lines.map Ln.cs)), .data (.sl 2 (p.tables.map Tb.cs)), .data (.sl 8 (p.stmts.map Sm.cs))]), (2, .cells [.data (.i n)]), (3, .cells [.data (.i 0)])]) [2, 3, 16, 17, 1] (fun i0 r0 n => latM p = r0.foldl (Dq p) n), ?_⟩; with_reducible refine ag (0) ?_ ?_ (fun i0 (n : (Int)) hd0 hI0 => ?_) (fun i0 x0 r0 (n : (Int)) hd0 hl0 hI0 => ?_))
  | (with_reducible refine ah hd0 (QX p n x0.x (au x0.x).length) ?_ ?_)
  | ((with_reducible refine aj ?_ ?_ ?_); rotate_left; (first | exact Dh p g (Kr hb) | exact Yj p z s g hz2 hz3))
  | ((with_reducible refine iI [(1000000, 800001)] (uu x0.x) ?_ ?_ ?_ ?_); rotate_left 0; exact rfl; (exact trivial); exact rfl)
  | ((with_reducible refine aJ ?_ ?_ ?_ ?_ ?_); exact rfl; exact rfl; rotate_left; (with_reducible exact aG hd0))
  | ((with_reducible refine aW ?_ ?_); exact rfl)
  | ((with_reducible refine aA ?_ ?_); kernel_rfl)
  | ((with_reducible refine ai ?_); refine ⟨[], rfl, ?_, trivial⟩; conv => whnf)
  | (with_reducible refine And.intro ?_ ?_)
  | exact @rfl AV _
  | exact @rfl (List AV) _
  | fail)
 all_goals first
  | (rfl)
  | ((rw [UC]; exact hI0))
  | ((exact congrArg (fun z => D.tuple [.i z, .i 0]) hI0.symm))
  | ((exact congrArg (fun z => AV.data (D.i z)) hz4.symm))
  | skip
theorem ig (p : Pr) (g : dA p) : PCall Tryd.prog 10 [p.d] (.ret (.tuple [.i (iO p).1, .i (iO p).2])) := by
 cases h : ((ak p).2 != 0) with
 | true => rw [iO, if_pos h]; exact Yk p g h
 | false => rw [iO, if_neg (by rw [h]; decide)]; exact z0g p _ g (aY (by simpa using h)).1
end Go.Proofs.YtogfjinopifenaaDoor
namespace Go.Proofs.YtogfjinopifenaaDoor
open Go.Fw Go.Fw.Ref15 Go.Fw.Rg Go.Fw.Tl
set_option maxRecDepth 10000
variable [af] {p : Pr}
theorem UT (a b : D) : qY Tryd.prog 36 [.ptr 1000000 0, .ptr 1000001 0] (some z0e) [(1000000, .cells [.data a]), (1000001, .cells [.data b])] [(1000000, .cells [.data (.i (-1))]), (1000001, .cells [.data (.i 0)])] := by
 refine gJ tok hmix Tryd.func36 rfl (by kernel_rfl) (by kernel_rfl) (by kernel_rfl) ?_
 repeat' ((try (conv => whnf)) <;> first
  | with_reducible exact trivial
  | (refine ⟨([] : List (Nat × Nat)), ?_⟩)
  | (refine ⟨by kernel_rfl, ?_⟩)
  | (refine ⟨rfl, ?_⟩)
  | (refine ⟨?_, ?_⟩)
  | fail)
theorem Yl (a b : D) : qY Tryd.prog 36 [.ptr 1000000 0, .ptr 1000001 0] none [(1000000, .cells [.data a]), (1000001, .cells [.data b])] [(1000000, .cells [.data a]), (1000001, .cells [.data b])] := by
 refine gJ tok hmix Tryd.func36 rfl (by kernel_rfl) (by kernel_rfl) (by kernel_rfl) ?_
 repeat' ((try (conv => whnf)) <;> first
  | with_reducible exact trivial
  | (refine ⟨([] : List (Nat × Nat)), ?_⟩)
  | (refine ⟨by kernel_rfl, ?_⟩)
  | (refine ⟨rfl, ?_⟩)
  | (refine ⟨?_, ?_⟩)
  | fail)
theorem Kz {g : Bool} {ks : List KS} {l : List (Key × Int)} {k : Key} {v : Int} {c : Bool} (h : c = true) : Block.map g ks (mput (.agg [.i k.1, .i k.2]) (.i v) (l.map kkD)) = Block.map g ks ((if c then Qu k v l else l).map kkD) := by rw [Qw, if_pos h]
theorem KA {g : Bool} {ks : List KS} {l : List (Key × Int)} {k : Key} {v : Int} {c : Bool} (h : c = false) : Block.map g ks (l.map kkD) = Block.map g ks ((if c then Qu k v l else l).map kkD) := by rw [if_neg (by rw [h]; decide)]
theorem Rh {i : Nat} {S : List (Key × Int)} (h : aH p = E5 [] i S) : aH p = S := h
theorem xZ (h : p.stmts.length ≤ 1073741824) : IntKind.i64.wrap (((p.stmts.map Sm.cs).length : Int) - 1) = (p.stmts.length : Int) - 1 := by rw [List.length_map]; exact bC (by omega) (by omega)
theorem Nj {i : Nat} {S : List (Key × Int)} {s' : AS} {v : Int} (hl : p.stmts.length ≤ 67108864) (hS : aH p = E5 [] i S) (hA : FZ p (aH p) ⟨[], []⟩ ((p.stmts.length : Int) - 1) v s') : aZ Tryd.prog 35 [.data (.i (IntKind.i64.wrap (((p.stmts.map Sm.cs).length : Int) - 1))), .ptr 1000001 0, .ptr 1000002 0, .ptr 1000003 0, .ptr 1000004 0] [(1000001, .cells [.map 1000005]), (1000002, .cells [.map 1000006]), (1000003, .cells [.data (.str p.name), .data (.i p.latency), .data (.i p.tail), .data (.sl 3 (p.params.map Bd.cs)), .data (.sl 3 (p.states.map Bd.cs)), .data (.sl 4 (p.lines.map Ln.cs)), .data (.sl 2 (p.tables.map Tb.cs)), .data (.sl 8 (p.stmts.map Sm.cs))]), (1000004, .cells [.fn 34 [.ptr 1000007 0, .ptr 1000008 0, .ptr 1000003 0]]), (1000005, .map false [.int .i64] []), (1000006, .map false [.int .i64] []), (1000007, .cells [.fn 35 [.ptr 1000001 0, .ptr 1000002 0, .ptr 1000003 0, .ptr 1000004 0]]), (1000008, .cells [.map 1000009]), (1000009, .map true [.int .i64, .int .i64] (S.map kkD))] (.ret (.data (.i v))) [(1000001, .cells [.map 1000005]), (1000002, .cells [.map 1000006]), (1000003, .cells [.data (.str p.name), .data (.i p.latency), .data (.i p.tail), .data (.sl 3 (p.params.map Bd.cs)), .data (.sl 3 (p.states.map Bd.cs)), .data (.sl 4 (p.lines.map Ln.cs)), .data (.sl 2 (p.tables.map Tb.cs)), .data (.sl 8 (p.stmts.map Sm.cs))]), (1000004, .cells [.fn 34 [.ptr 1000007 0, .ptr 1000008 0, .ptr 1000003 0]]), (1000005, .map false [.int .i64] (s'.opn.map ibD)), (1000006, .map false [.int .i64] (s'.ages.map iiD)), (1000007, .cells [.fn 35 [.ptr 1000001 0, .ptr 1000002 0, .ptr 1000003 0, .ptr 1000004 0]]), (1000008, .cells [.map 1000009]), (1000009, .map true [.int .i64, .int .i64] (S.map kkD))] := by
 rw [Rh hS] at hA; rw [xZ (by omega)]; exact hA
theorem Iu {i : Nat} {S : List (Key × Int)} {s' : AS} (hl : p.stmts.length ≤ 67108864) (hS : aH p = E5 [] i S) (hA : yL p (aH p) ⟨[], []⟩ ((p.stmts.length : Int) - 1) s') : aZ Tryd.prog 35 [.data (.i (IntKind.i64.wrap (((p.stmts.map Sm.cs).length : Int) - 1))), .ptr 1000001 0, .ptr 1000002 0, .ptr 1000003 0, .ptr 1000004 0] [(1000001, .cells [.map 1000005]), (1000002, .cells [.map 1000006]), (1000003, .cells [.data (.str p.name), .data (.i p.latency), .data (.i p.tail), .data (.sl 3 (p.params.map Bd.cs)), .data (.sl 3 (p.states.map Bd.cs)), .data (.sl 4 (p.lines.map Ln.cs)), .data (.sl 2 (p.tables.map Tb.cs)), .data (.sl 8 (p.stmts.map Sm.cs))]), (1000004, .cells [.fn 34 [.ptr 1000007 0, .ptr 1000008 0, .ptr 1000003 0]]), (1000005, .map false [.int .i64] []), (1000006, .map false [.int .i64] []), (1000007, .cells [.fn 35 [.ptr 1000001 0, .ptr 1000002 0, .ptr 1000003 0, .ptr 1000004 0]]), (1000008, .cells [.map 1000009]), (1000009, .map true [.int .i64, .int .i64] (S.map kkD))] (.pan (.data z0e)) [(1000001, .cells [.map 1000005]), (1000002, .cells [.map 1000006]), (1000003, .cells [.data (.str p.name), .data (.i p.latency), .data (.i p.tail), .data (.sl 3 (p.params.map Bd.cs)), .data (.sl 3 (p.states.map Bd.cs)), .data (.sl 4 (p.lines.map Ln.cs)), .data (.sl 2 (p.tables.map Tb.cs)), .data (.sl 8 (p.stmts.map Sm.cs))]), (1000004, .cells [.fn 34 [.ptr 1000007 0, .ptr 1000008 0, .ptr 1000003 0]]), (1000005, .map false [.int .i64] (s'.opn.map ibD)), (1000006, .map false [.int .i64] (s'.ages.map iiD)), (1000007, .cells [.fn 35 [.ptr 1000001 0, .ptr 1000002 0, .ptr 1000003 0, .ptr 1000004 0]]), (1000008, .cells [.map 1000009]), (1000009, .map true [.int .i64, .int .i64] (S.map kkD))] := by
 rw [Rh hS] at hA; rw [xZ (by omega)]; exact hA
theorem Ym (p : Pr) (g : dA p) (hb : ((ak p).2 != 0) = true) : PCall Tryd.prog 11 [p.d] (.ret (.tuple [.i 0, .i (ak p).2])) := by
 refine ae tok hmix ⟨[], []⟩ Tryd.func11 rfl (by kernel_rfl) (by kernel_rfl) (by kernel_rfl) fun hf => ?_
 clear hf
 repeat' ((try (conv => whnf)) <;> first
  | (exact Bool.noConfusion (hb.symm.trans h))
  | with_reducible refine BrI.intro (fun h => ?_) (fun h => ?_)
  | ((with_reducible refine aj ?_ ?_ ?_); rotate_left; (exact uB p g))
  | ((with_reducible refine aA ?_ ?_); kernel_rfl)
  | ((with_reducible refine ai ?_); refine ⟨[], rfl, ?_, trivial⟩; conv => whnf)
  | fail)
 all_goals first
  | skip
theorem z0h (p : Pr) (v : Int) (s' : AS) (g : dA p) (hb : (ak p).2 = 0) (hA : FZ p (aH p) ⟨[], []⟩ ((p.stmts.length : Int) - 1) v s') : PCall Tryd.prog 11 [p.d] (.ret (.tuple [.i v, .i 0])) := by
 refine ae tok hmix ⟨[], []⟩ Tryd.func11 rfl (by kernel_rfl) (by kernel_rfl) (by kernel_rfl) fun hf => ?_
 have hs5 := g.sm.stmts
 have hl_b : p.stmts.length ≤ 9223372036854775807 := by omega
 clear hf
 repeat' ((try (conv => whnf)) <;> first
  | ((with_reducible refine BrI.ff_of ?_ ?_); exact rfl)
  | with_reducible exact trivial
  | with_reducible exact ax hd0 ‹_›
  | with_reducible refine bQ hd0 ?_
  | with_reducible refine bi hd0 ?_
  | with_reducible refine BrI.intro (fun h => ?_) (fun h => ?_)
  | ((refine ⟨_, _, _, [(1000000, 2), (1000001, 3)], Yl (.i v) (.i 0), rfl, ⟨rfl, rfl, trivial⟩, ?_, ?_⟩); kernel_rfl)
  | (refine ⟨([] : List (Nat × Nat)), rfl, ?_, trivial⟩)
  | ((with_reducible refine aI.mk 0 ?_); refine ⟨aP (p.stmts) 20 (fun (S : (List (Key × Int))) => []) (fun (S : (List (Key × Int))) => [(1, .cells [.data (.str p.name), .data (.i p.latency), .data (.i p.tail), .data (.sl 3 (p.params.map Bd.cs)), .data (.sl 3 (p.states.map Bd.cs)), .data (.sl 4 (p.lines.map Ln.cs)), .data (.sl 2 (p.tables.map Tb.cs)), .data (.sl 8 (p.stmts.map Sm.cs))]), (2, .cells [.data (.i 0)]), (3, .cells [.data (.i 0)]), (4, .cells [.map 16]), (16, .map true [.int .i64, .int .i64] (S.map kkD))]) [1, 2, 3, 4, 18, 19] (fun i0 r0 S => aH p = E5 r0 i0 S), ?_⟩; with_reducible refine ag ([]) ?_ ?_ (fun i0 (S : (List (Key × Int))) hd0 hI0 => ?_) (fun i0 x0 r0 (S : (List (Key × Int))) hd0 hl0 hI0 => ?_))
  | (with_reducible refine ah hd0 ((if sets x0.kind then Qu (x0.kind, x0.index) (i0 : Int) S else S)) ?_ ?_)
  | ((with_reducible refine aj ?_ ?_ ?_); rotate_left; (exact Dh p g hb))
  | ((with_reducible refine lent_step' [(1000001, 8), (1000002, 7), (1000003, 1), (1000004, 10), (1000005, 42), (1000006, 41), (1000007, 9), (1000008, 4), (1000009, 16)] (Nj g.sm.stmts hI0 hA) ?_ ?_ ?_ ?_); rotate_left 0; exact rfl; (exact ⟨rfl, rfl, rfl, rfl, rfl, rfl, rfl, rfl, rfl, trivial⟩); exact rfl)
  | ((with_reducible refine aJ ?_ ?_ ?_ ?_ ?_); exact rfl; exact rfl; rotate_left; (with_reducible exact aG hd0))
  | ((with_reducible refine aW ?_ ?_); exact rfl)
  | (with_reducible refine And.intro ?_ ?_)
  | exact @rfl AV _
  | exact @rfl Block _
  | fail)
 all_goals first
  | (rfl)
  | ((exact hI0))
  | ((exact Kz (k := (x0.kind, x0.index)) (v := (i0 : Int)) (l := S) (c := sets x0.kind) h))
  | ((exact KA (k := (x0.kind, x0.index)) (v := (i0 : Int)) (l := S) (c := sets x0.kind) h))
  | skip
theorem Yn (p : Pr) (s' : AS) (g : dA p) (hb : (ak p).2 = 0) (hA : yL p (aH p) ⟨[], []⟩ ((p.stmts.length : Int) - 1) s') : PCall Tryd.prog 11 [p.d] (.ret (.tuple [.i (-1), .i 0])) := by
 refine ae tok hmix ⟨[], []⟩ Tryd.func11 rfl (by kernel_rfl) (by kernel_rfl) (by kernel_rfl) fun hf => ?_
 have hs5 := g.sm.stmts
 have hl_b : p.stmts.length ≤ 9223372036854775807 := by omega
 clear hf
 repeat' ((try (conv => whnf)) <;> first
  | ((with_reducible refine BrI.ff_of ?_ ?_); exact rfl)
  | with_reducible exact trivial
  | with_reducible exact ax hd0 ‹_›
  | with_reducible refine bQ hd0 ?_
  | with_reducible refine bi hd0 ?_
  | with_reducible refine BrI.intro (fun h => ?_) (fun h => ?_)
  | ((refine ⟨_, _, _, [(1000000, 2), (1000001, 3)], UT (.i 0) (.i 0), rfl, ⟨rfl, rfl, trivial⟩, ?_, ?_⟩); kernel_rfl)
  | (refine ⟨([] : List (Nat × Nat)), rfl, ?_, trivial⟩)
  | ((with_reducible refine aI.mk 0 ?_); refine ⟨aP (p.stmts) 20 (fun (S : (List (Key × Int))) => []) (fun (S : (List (Key × Int))) => [(1, .cells [.data (.str p.name), .data (.i p.latency), .data (.i p.tail), .data (.sl 3 (p.params.map Bd.cs)), .data (.sl 3 (p.states.map Bd.cs)), .data (.sl 4 (p.lines.map Ln.cs)), .data (.sl 2 (p.tables.map Tb.cs)), .data (.sl 8 (p.stmts.map Sm.cs))]), (2, .cells [.data (.i 0)]), (3, .cells [.data (.i 0)]), (4, .cells [.map 16]), (16, .map true [.int .i64, .int .i64] (S.map kkD))]) [1, 2, 3, 4, 18, 19] (fun i0 r0 S => aH p = E5 r0 i0 S), ?_⟩; with_reducible refine ag ([]) ?_ ?_ (fun i0 (S : (List (Key × Int))) hd0 hI0 => ?_) (fun i0 x0 r0 (S : (List (Key × Int))) hd0 hl0 hI0 => ?_))
  | (with_reducible refine ah hd0 ((if sets x0.kind then Qu (x0.kind, x0.index) (i0 : Int) S else S)) ?_ ?_)
  | ((with_reducible refine aj ?_ ?_ ?_); rotate_left; (exact Dh p g hb))
  | ((with_reducible refine lent_step' [(1000001, 8), (1000002, 7), (1000003, 1), (1000004, 10), (1000005, 42), (1000006, 41), (1000007, 9), (1000008, 4), (1000009, 16)] (Iu g.sm.stmts hI0 hA) ?_ ?_ ?_ ?_); rotate_left 0; exact rfl; (exact ⟨rfl, rfl, rfl, rfl, rfl, rfl, rfl, rfl, rfl, trivial⟩); exact rfl)
  | ((with_reducible refine aJ ?_ ?_ ?_ ?_ ?_); exact rfl; exact rfl; rotate_left; (with_reducible exact aG hd0))
  | ((with_reducible refine aW ?_ ?_); exact rfl)
  | (with_reducible refine And.intro ?_ ?_)
  | exact @rfl AV _
  | exact @rfl Block _
  | fail)
 all_goals first
  | (rfl)
  | ((exact hI0))
  | ((exact Kz (k := (x0.kind, x0.index)) (v := (i0 : Int)) (l := S) (c := sets x0.kind) h))
  | ((exact KA (k := (x0.kind, x0.index)) (v := (i0 : Int)) (l := S) (c := sets x0.kind) h))
  | skip
theorem kC (p : Pr) (g : dA p) : PCall Tryd.prog 11 [p.d] (.ret (.tuple [.i (lD p).1, .i (lD p).2])) := by
 cases h : ((ak p).2 != 0) with
 | true => rw [lD, if_pos h]; exact Ym p g h
 | false =>
  rw [lD, if_neg (by rw [h]; decide)]
  have hb : (ak p).2 = 0 := by simpa using h
  have hr := iL (aY hb).2
  have hall := Dc p (aH p) (p.stmts.length + 1) ⟨[], []⟩ ((p.stmts.length : Int) - 1)
  rcases QY (mJ hr) (Ij hr) with ⟨v, s', e⟩ | ⟨t, e⟩
  ·have := z0h p v s' g hb (hall.1 v s' e)
   rw [oJ, e]; exact this
  ·have := Yn p t g hb (hall.2 t e)
   rw [oJ, e]; exact this
theorem z15 {n m lat tail : Int} {b : Bool} (h1 : decide (n > lat) = false) (h : (bif (0 : Int) != 0 then true else bif tail != -1 then bif m == -1 then true else decide (m > tail) else false) = b) : (if n > lat then (170 : Int) else if (tail != -1 && (m == -1 || decide (m > tail))) = true then 171 else 0) = if b then 171 else 0 := by
 rw [if_neg (of_decide_eq_false h1)]
 have : (tail != -1 && (m == -1 || decide (m > tail))) = b := by rw [← h]; cases tail != -1 <;> cases m == -1 <;> rfl
 rw [this]
theorem Ri (p : Pr) (g : dA p) (hb : ((ak p).2 != 0) = true) (h1 : PCall Tryd.prog 10 [p.d] (.ret (.tuple [.i 0, .i (ak p).2]))) : PCall Tryd.prog 12 [p.d] (.ret (.i (ak p).2)) := by
 refine ae tok hmix ⟨[], []⟩ Tryd.func12 rfl (by kernel_rfl) (by kernel_rfl) (by kernel_rfl) fun hf => ?_
 clear hf
 repeat' ((try (conv => whnf)) <;> first
  | (exact Bool.noConfusion (hb.symm.trans h))
  | with_reducible refine BrI.intro (fun h => ?_) (fun h => ?_)
  | ((with_reducible refine aj ?_ ?_ ?_); rotate_left; (exact h1))
  | ((with_reducible refine ai ?_); refine ⟨[], rfl, ?_, trivial⟩; conv => whnf)
  | fail)
 all_goals first
  | skip
theorem Rj (p : Pr) (n m : Int) (g : dA p) (h1 : PCall Tryd.prog 10 [p.d] (.ret (.tuple [.i n, .i 0]))) (h2 : PCall Tryd.prog 11 [p.d] (.ret (.tuple [.i m, .i 0]))) : PCall Tryd.prog 12 [p.d] (.ret (.i (if n > p.latency then 170 else if (p.tail != -1 && (m == -1 || decide (m > p.tail))) = true then 171 else 0))) := by
 refine ae tok hmix ⟨[], []⟩ Tryd.func12 rfl (by kernel_rfl) (by kernel_rfl) (by kernel_rfl) fun hf => ?_
 clear hf
 repeat' ((try (conv => whnf)) <;> first
  | ((with_reducible refine BrI.ff_of ?_ ?_); exact rfl)
  | with_reducible refine BrI.intro (fun h => ?_) (fun h => ?_)
  | ((with_reducible refine aj ?_ ?_ ?_); rotate_left; (first | exact h1 | exact h2))
  | ((with_reducible refine ai ?_); refine ⟨[], rfl, ?_, trivial⟩; conv => whnf)
  | fail)
 all_goals first
  | ((exact congrArg D.i (by rw [if_pos (of_decide_eq_true ‹_›)])))
  | ((exact congrArg D.i (z15 ‹_› h).symm))
  | skip
theorem fZ (p : Pr) (g : dA p) : PCall Tryd.prog 12 [p.d] (.ret (.i (gX p))) := by
 cases h : ((ak p).2 != 0) with
 | true =>
  rw [gX, if_pos h]
  have h1 := ig p g
  rw [iO, if_pos h] at h1
  exact Ri p g h h1
 | false =>
  have hb : (ak p).2 = 0 := by simpa using h
  rw [gX, if_neg (by rw [h]; decide)]
  have h1 := ig p g
  have h2 := kC p g
  rw [XW hb] at h1
  rw [XX hb] at h2
  exact Rj p (latM p) (oJ p) g h1 h2
end Go.Proofs.YtogfjinopifenaaDoor
