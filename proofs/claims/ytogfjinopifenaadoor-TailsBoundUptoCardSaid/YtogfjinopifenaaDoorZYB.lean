/- Contracts: package tails: valid, Latency. -/
import Derived.Test.YtogfjinopifenaaDoorZTS0
import Derived.Test.YtogfjinopifenaaDoorZTB
import Derived.Test.YtogfjinopifenaaDoorZTS4
set_option linter.unusedSectionVars false
set_option linter.unusedSimpArgs false
set_option linter.unusedVariables false
set_option maxHeartbeats 8000000
namespace Go.Proofs.YtogfjinopifenaaDoor
open Go.Fw Go.Fw.Rg Go.Fw.Nam Go.Fw.Tl
set_option maxRecDepth 10000
variable [GlobInt]
theorem KD {p : Pr} (h : ((resolveC p).2 != 0) = true) : (resolveC p).2 = (ai p).2 := by
 have e : resE p = (resolveC p).2 := by rw [resE, if_pos h]
 rw [iF (by rw [e]; exact h), e]
theorem KE {p : Pr} (h : ((resolveC p).2 != 0) = false) (h2 : (!jo (resolveC p).1 p) = true) : (150 : Int) = (ai p).2 := by
 have h3 : jo p (resolveC p).1 = false := by
  cases q : jo p (resolveC p).1 with
  | false => rfl
  | true =>
   have e := (dh _ _).1 q
   rw [(dh _ _).2 e.symm] at h2
   exact Bool.noConfusion h2
 have e : resE p = 150 := by rw [resE, h, if_neg (by decide), if_neg (by rw [h3]; decide)]
 rw [iF (by rw [e]; decide), e]
theorem kS (p : Pr) (g : bz p) : PCall Tryd.prog 31 [p.d] (.ret (.i (ai p).2)) := by
 refine pcall_of_wc tok hmix ⟨[], []⟩ Tryd.func31 rfl (by kernel_rfl) (by kernel_rfl) (by kernel_rfl) fun hf => ?_
 clear hf
 repeat' ((try (conv => whnf)) <;> first
  | with_reducible refine BrI.intro (fun h => ?_) (fun h => ?_)
  | ((with_reducible refine ah ?_ ?_ ?_); rotate_left; (first | exact cu p g.sm g.hn | exact dG (resolveC p).1 p | exact jD p g))
  | ((with_reducible refine ag ?_); refine ⟨[], rfl, ?_, trivial⟩; conv => whnf)
  | fail)
 all_goals first
  | ((exact congrArg D.i (KD h)))
  | ((exact congrArg D.i (KE ‹_› h)))
  | skip
theorem qN (p : Pr) (g : bz p) (h : (ai p).2 = 0) : PCall Tryd.prog 31 [p.d] (.ret (.i 0)) := by
 have := kS p g; rwa [h] at this
theorem Hz (p : Pr) (z : Ex) (s : Sp) (g : bz p) (h : bn p z = .ok s) (hz : Ref15.nodes z ≤ 1073741824) : PCall Tryd.prog 33 [p.d, z.d] (.ret (.tuple [.i s.1, .i s.2, .i 0])) := by
 have := nS p z g hz; rw [h] at this; exact this
theorem HY (p : Pr) (g : bz p) (hb : ((ai p).2 != 0) = true) : PCall Tryd.prog 10 [p.d] (.ret (.tuple [.i 0, .i (ai p).2])) := by
 refine pcall_of_wc tok hmix ⟨[], []⟩ Tryd.func10 rfl (by kernel_rfl) (by kernel_rfl) (by kernel_rfl) fun hf => ?_
 clear hf
 repeat' ((try (conv => whnf)) <;> first
  | (exact Bool.noConfusion (hb.symm.trans h))
  | with_reducible refine BrI.intro (fun h => ?_) (fun h => ?_)
  | ((with_reducible refine ah ?_ ?_ ?_); rotate_left; (exact kS p g))
  | ((with_reducible refine au ?_ ?_); kernel_rfl)
  | ((with_reducible refine ag ?_); refine ⟨[], rfl, ?_, trivial⟩; conv => whnf)
  | fail)
 all_goals first
  | skip
theorem JB (p : Pr) (F : List Sp) (g : bz p) (hb : BOk p F) : PCall Tryd.prog 10 [p.d] (.ret (.tuple [.i (latM p), .i 0])) := by
 refine pcall_of_wc tok hmix ⟨[], []⟩ Tryd.func10 rfl (by kernel_rfl) (by kernel_rfl) (by kernel_rfl) fun hf => ?_
 have hs5 := g.sm.stmts
 have hl_b : p.stmts.length ≤ 9223372036854775807 := by omega
 clear hf
 repeat' ((try (conv => whnf)) <;> first
  | ((with_reducible refine BrI.ff_of ?_ ?_); exact rfl)
  | ((with_reducible refine RangeAt.mk 25 ?_); refine ⟨rfl, ⟨[(1, .ptr 1 0), (2, .ptr 2 0), (3, .ptr 3 0), (16, .data (.sl 8 (p.stmts.map Sm.cs))), (17, .data (.i ((p.stmts.map Sm.cs).length : Nat))), (18, .data (.i (i0 : Nat))), (24, .fn 57 [.ptr 800001 0])], [(1, .cells [.data (.str p.name), .data (.i p.latency), .data (.i p.tail), .data (.sl 3 (p.params.map Bd.cs)), .data (.sl 3 (p.states.map Bd.cs)), .data (.sl 4 (p.lines.map Ln.cs)), .data (.sl 2 (p.tables.map Tb.cs)), .data (.sl 8 (p.stmts.map Sm.cs))]), (2, .cells [.data (.i n)]), (3, .cells [.data (.i 0)]), (800001, .cells [.data (.i x0.x.kind), .data (.str x0.x.name), .data (.i x0.x.index), .data (.i x0.x.n), .data (.sl 5 (Ex.css x0.x.l))])], [(1000000, 2), (1000001, 1), (1000002, 3)], [(1, .ptr 1000001 0), (2, .ptr 1000000 0), (3, .ptr 1000002 0)], fun j => [(1000000, .cells [.data (.i (Bh p n x0.x j))]), (1000001, .cells [.data (.str p.name), .data (.i p.latency), .data (.i p.tail), .data (.sl 3 (p.params.map Bd.cs)), .data (.sl 3 (p.states.map Bd.cs)), .data (.sl 4 (p.lines.map Ln.cs)), .data (.sl 2 (p.tables.map Tb.cs)), .data (.sl 8 (p.stmts.map Sm.cs))]), (1000002, .cells [.data (.i 0)])], (aj x0.x).length, fun j => [((aj x0.x).getD j Ex.none).d], 900002, none⟩, ⟨?_, rfl, rfl, ?_, ?_, fun j hj => ⟨rfl, rfl, ?_⟩, fun _ _ e => uq e, ⟨_, _, rfl, rfl, fun Rf Re hy hy2 => ⟨1000000, [.ptr 1000001 0], [(1000001, .cells [.data (.i x0.x.kind), .data (.str x0.x.name), .data (.i x0.x.index), .data (.i x0.x.n), .data (.sl 5 (Ex.css x0.x.l))])], .data (.tuple []), [(1000001, .cells [.data (.i x0.x.kind), .data (.str x0.x.name), .data (.i x0.x.index), .data (.i x0.x.n), .data (.sl 5 (Ex.css x0.x.l))])], [(1000000, 900002), (1000001, 800001)], oP x0.x Rf (fun j y hj => ve (P := fun n d => LCall Tryd.prog yldF [.yld 1000000, .data d] [(1000000, .rnd (Rf n))] (.ret (.b true)) [(1000000, .rnd (Rf (n + 1)))]) hy j y (List.getElem?_eq_some_iff.1 hj).1 hj), rfl, ?_, rfl, rfl, ?_⟩⟩⟩⟩)
  | (have hq := GR (n := n) hb g hd0 hj (by assumption); clear hj; obtain ⟨z, s, hz1, hz2, hz3, hz4⟩ := hq)
  | (have hz4 := Jr (p := p) (n := n) hj (by assumption); clear hj)
  | ((with_reducible refine aB ?_ ?_ ?_ ?_ ?_); exact rfl; exact rfl; rotate_left; exact DT hz1)
  | with_reducible exact trivial
  | with_reducible exact ak hd0 ‹_›
  | with_reducible refine aX hd0 ?_
  | with_reducible refine aP hd0 ?_
  | with_reducible refine BrI.intro (fun h => ?_) (fun h => ?_)
  | ((with_reducible refine LoopAt.mk 0 ?_); refine ⟨aF (p.stmts) 18 (fun (n : (Int)) => []) (fun (n : (Int)) => [(1, .cells [.data (.str p.name), .data (.i p.latency), .data (.i p.tail), .data (.sl 3 (p.params.map Bd.cs)), .data (.sl 3 (p.states.map Bd.cs)), .data (.sl 4 (p.lines.map Ln.cs)), .data (.sl 2 (p.tables.map Tb.cs)), .data (.sl 8 (p.stmts.map Sm.cs))]), (2, .cells [.data (.i n)]), (3, .cells [.data (.i 0)])]) [2, 3, 16, 17, 1] (fun i0 r0 n => latM p = r0.foldl (qU p) n), ?_⟩; with_reducible refine ae (0) ?_ ?_ (fun i0 (n : (Int)) hd0 hI0 => ?_) (fun i0 x0 r0 (n : (Int)) hd0 hl0 hI0 => ?_))
  | (with_reducible refine af hd0 (Bh p n x0.x (aj x0.x).length) ?_ ?_)
  | ((with_reducible refine ah ?_ ?_ ?_); rotate_left; (first | exact qN p g (xw hb) | exact Hz p z s g hz2 hz3))
  | ((with_reducible refine dL [(1000000, 800001)] (kM x0.x) ?_ ?_ ?_ ?_); rotate_left 0; exact rfl; (exact trivial); exact rfl)
  | ((with_reducible refine aB ?_ ?_ ?_ ?_ ?_); exact rfl; exact rfl; rotate_left; (with_reducible exact az hd0))
  | ((with_reducible refine aK ?_ ?_); exact rfl)
  | ((with_reducible refine au ?_ ?_); kernel_rfl)
  | ((with_reducible refine ag ?_); refine ⟨[], rfl, ?_, trivial⟩; conv => whnf)
  | (with_reducible refine And.intro ?_ ?_)
  | exact @rfl AV _
  | exact @rfl (List AV) _
  | fail)
 all_goals first
  | (rfl)
  | ((rw [DR]; exact hI0))
  | ((exact congrArg (fun z => D.tuple [.i z, .i 0]) hI0.symm))
  | ((exact congrArg (fun z => AV.data (D.i z)) hz4.symm))
  | skip
theorem dI (p : Pr) (g : bz p) : PCall Tryd.prog 10 [p.d] (.ret (.tuple [.i (dQ p).1, .i (dQ p).2])) := by
 cases h : ((ai p).2 != 0) with
 | true => rw [dQ, if_pos h]; exact HY p g h
 | false => rw [dQ, if_neg (by rw [h]; decide)]; exact JB p _ g (aO (by simpa using h)).1
end Go.Proofs.YtogfjinopifenaaDoor
namespace Go.Proofs.YtogfjinopifenaaDoor
open Go.Fw Go.Fw.Ref15 Go.Fw.Rg Go.Fw.Tl
set_option maxRecDepth 10000
variable [GlobInt] {p : Pr}
theorem Ec (a b : D) : DCall Tryd.prog 36 [.ptr 1000000 0, .ptr 1000001 0] (some Jz) [(1000000, .cells [.data a]), (1000001, .cells [.data b])] [(1000000, .cells [.data (.i (-1))]), (1000001, .cells [.data (.i 0)])] := by
 refine dcall_of_vc tok hmix Tryd.func36 rfl (by kernel_rfl) (by kernel_rfl) (by kernel_rfl) ?_
 repeat' ((try (conv => whnf)) <;> first
  | with_reducible exact trivial
  | (refine ⟨([] : List (Nat × Nat)), ?_⟩)
  | (refine ⟨by kernel_rfl, ?_⟩)
  | (refine ⟨rfl, ?_⟩)
  | (refine ⟨?_, ?_⟩)
  | fail)
theorem H5 (a b : D) : DCall Tryd.prog 36 [.ptr 1000000 0, .ptr 1000001 0] none [(1000000, .cells [.data a]), (1000001, .cells [.data b])] [(1000000, .cells [.data a]), (1000001, .cells [.data b])] := by
 refine dcall_of_vc tok hmix Tryd.func36 rfl (by kernel_rfl) (by kernel_rfl) (by kernel_rfl) ?_
 repeat' ((try (conv => whnf)) <;> first
  | with_reducible exact trivial
  | (refine ⟨([] : List (Nat × Nat)), ?_⟩)
  | (refine ⟨by kernel_rfl, ?_⟩)
  | (refine ⟨rfl, ?_⟩)
  | (refine ⟨?_, ?_⟩)
  | fail)
theorem xE {g : Bool} {ks : List KS} {l : List (Key × Int)} {k : Key} {v : Int} {c : Bool} (h : c = true) : Block.map g ks (mput (.agg [.i k.1, .i k.2]) (.i v) (l.map kkD)) = Block.map g ks ((if c then Aj k v l else l).map kkD) := by rw [Am, if_pos h]
theorem xG {g : Bool} {ks : List KS} {l : List (Key × Int)} {k : Key} {v : Int} {c : Bool} (h : c = false) : Block.map g ks (l.map kkD) = Block.map g ks ((if c then Aj k v l else l).map kkD) := by rw [if_neg (by rw [h]; decide)]
theorem BB {i : Nat} {S : List (Key × Int)} (h : aA p = sH [] i S) : aA p = S := h
theorem lZ (h : p.stmts.length ≤ 1073741824) : IntKind.i64.wrap (((p.stmts.map Sm.cs).length : Int) - 1) = (p.stmts.length : Int) - 1 := by rw [List.length_map]; exact aS (by omega) (by omega)
theorem yG {i : Nat} {S : List (Key × Int)} {s' : AS} {v : Int} (hl : p.stmts.length ≤ 67108864) (hS : aA p = sH [] i S) (hA : uo p (aA p) ⟨[], []⟩ ((p.stmts.length : Int) - 1) v s') : LCall Tryd.prog 35 [.data (.i (IntKind.i64.wrap (((p.stmts.map Sm.cs).length : Int) - 1))), .ptr 1000001 0, .ptr 1000002 0, .ptr 1000003 0, .ptr 1000004 0] [(1000001, .cells [.map 1000005]), (1000002, .cells [.map 1000006]), (1000003, .cells [.data (.str p.name), .data (.i p.latency), .data (.i p.tail), .data (.sl 3 (p.params.map Bd.cs)), .data (.sl 3 (p.states.map Bd.cs)), .data (.sl 4 (p.lines.map Ln.cs)), .data (.sl 2 (p.tables.map Tb.cs)), .data (.sl 8 (p.stmts.map Sm.cs))]), (1000004, .cells [.fn 34 [.ptr 1000007 0, .ptr 1000008 0, .ptr 1000003 0]]), (1000005, .map false [.int .i64] []), (1000006, .map false [.int .i64] []), (1000007, .cells [.fn 35 [.ptr 1000001 0, .ptr 1000002 0, .ptr 1000003 0, .ptr 1000004 0]]), (1000008, .cells [.map 1000009]), (1000009, .map true [.int .i64, .int .i64] (S.map kkD))] (.ret (.data (.i v))) [(1000001, .cells [.map 1000005]), (1000002, .cells [.map 1000006]), (1000003, .cells [.data (.str p.name), .data (.i p.latency), .data (.i p.tail), .data (.sl 3 (p.params.map Bd.cs)), .data (.sl 3 (p.states.map Bd.cs)), .data (.sl 4 (p.lines.map Ln.cs)), .data (.sl 2 (p.tables.map Tb.cs)), .data (.sl 8 (p.stmts.map Sm.cs))]), (1000004, .cells [.fn 34 [.ptr 1000007 0, .ptr 1000008 0, .ptr 1000003 0]]), (1000005, .map false [.int .i64] (s'.opn.map ibD)), (1000006, .map false [.int .i64] (s'.ages.map iiD)), (1000007, .cells [.fn 35 [.ptr 1000001 0, .ptr 1000002 0, .ptr 1000003 0, .ptr 1000004 0]]), (1000008, .cells [.map 1000009]), (1000009, .map true [.int .i64, .int .i64] (S.map kkD))] := by
 rw [BB hS] at hA; rw [lZ (by omega)]; exact hA
theorem vC {i : Nat} {S : List (Key × Int)} {s' : AS} (hl : p.stmts.length ≤ 67108864) (hS : aA p = sH [] i S) (hA : nC p (aA p) ⟨[], []⟩ ((p.stmts.length : Int) - 1) s') : LCall Tryd.prog 35 [.data (.i (IntKind.i64.wrap (((p.stmts.map Sm.cs).length : Int) - 1))), .ptr 1000001 0, .ptr 1000002 0, .ptr 1000003 0, .ptr 1000004 0] [(1000001, .cells [.map 1000005]), (1000002, .cells [.map 1000006]), (1000003, .cells [.data (.str p.name), .data (.i p.latency), .data (.i p.tail), .data (.sl 3 (p.params.map Bd.cs)), .data (.sl 3 (p.states.map Bd.cs)), .data (.sl 4 (p.lines.map Ln.cs)), .data (.sl 2 (p.tables.map Tb.cs)), .data (.sl 8 (p.stmts.map Sm.cs))]), (1000004, .cells [.fn 34 [.ptr 1000007 0, .ptr 1000008 0, .ptr 1000003 0]]), (1000005, .map false [.int .i64] []), (1000006, .map false [.int .i64] []), (1000007, .cells [.fn 35 [.ptr 1000001 0, .ptr 1000002 0, .ptr 1000003 0, .ptr 1000004 0]]), (1000008, .cells [.map 1000009]), (1000009, .map true [.int .i64, .int .i64] (S.map kkD))] (.pan (.data Jz)) [(1000001, .cells [.map 1000005]), (1000002, .cells [.map 1000006]), (1000003, .cells [.data (.str p.name), .data (.i p.latency), .data (.i p.tail), .data (.sl 3 (p.params.map Bd.cs)), .data (.sl 3 (p.states.map Bd.cs)), .data (.sl 4 (p.lines.map Ln.cs)), .data (.sl 2 (p.tables.map Tb.cs)), .data (.sl 8 (p.stmts.map Sm.cs))]), (1000004, .cells [.fn 34 [.ptr 1000007 0, .ptr 1000008 0, .ptr 1000003 0]]), (1000005, .map false [.int .i64] (s'.opn.map ibD)), (1000006, .map false [.int .i64] (s'.ages.map iiD)), (1000007, .cells [.fn 35 [.ptr 1000001 0, .ptr 1000002 0, .ptr 1000003 0, .ptr 1000004 0]]), (1000008, .cells [.map 1000009]), (1000009, .map true [.int .i64, .int .i64] (S.map kkD))] := by
 rw [BB hS] at hA; rw [lZ (by omega)]; exact hA
theorem H6 (p : Pr) (g : bz p) (hb : ((ai p).2 != 0) = true) : PCall Tryd.prog 11 [p.d] (.ret (.tuple [.i 0, .i (ai p).2])) := by
 refine pcall_of_wc tok hmix ⟨[], []⟩ Tryd.func11 rfl (by kernel_rfl) (by kernel_rfl) (by kernel_rfl) fun hf => ?_
 clear hf
 repeat' ((try (conv => whnf)) <;> first
  | (exact Bool.noConfusion (hb.symm.trans h))
  | with_reducible refine BrI.intro (fun h => ?_) (fun h => ?_)
  | ((with_reducible refine ah ?_ ?_ ?_); rotate_left; (exact kS p g))
  | ((with_reducible refine au ?_ ?_); kernel_rfl)
  | ((with_reducible refine ag ?_); refine ⟨[], rfl, ?_, trivial⟩; conv => whnf)
  | fail)
 all_goals first
  | skip
theorem JC (p : Pr) (v : Int) (s' : AS) (g : bz p) (hb : (ai p).2 = 0) (hA : uo p (aA p) ⟨[], []⟩ ((p.stmts.length : Int) - 1) v s') : PCall Tryd.prog 11 [p.d] (.ret (.tuple [.i v, .i 0])) := by
 refine pcall_of_wc tok hmix ⟨[], []⟩ Tryd.func11 rfl (by kernel_rfl) (by kernel_rfl) (by kernel_rfl) fun hf => ?_
 have hs5 := g.sm.stmts
 have hl_b : p.stmts.length ≤ 9223372036854775807 := by omega
 clear hf
 repeat' ((try (conv => whnf)) <;> first
  | ((with_reducible refine BrI.ff_of ?_ ?_); exact rfl)
  | with_reducible exact trivial
  | with_reducible exact ak hd0 ‹_›
  | with_reducible refine aX hd0 ?_
  | with_reducible refine aP hd0 ?_
  | with_reducible refine BrI.intro (fun h => ?_) (fun h => ?_)
  | ((refine ⟨_, _, _, [(1000000, 2), (1000001, 3)], H5 (.i v) (.i 0), rfl, ⟨rfl, rfl, trivial⟩, ?_, ?_⟩); kernel_rfl)
  | (refine ⟨([] : List (Nat × Nat)), rfl, ?_, trivial⟩)
  | ((with_reducible refine LoopAt.mk 0 ?_); refine ⟨aF (p.stmts) 20 (fun (S : (List (Key × Int))) => []) (fun (S : (List (Key × Int))) => [(1, .cells [.data (.str p.name), .data (.i p.latency), .data (.i p.tail), .data (.sl 3 (p.params.map Bd.cs)), .data (.sl 3 (p.states.map Bd.cs)), .data (.sl 4 (p.lines.map Ln.cs)), .data (.sl 2 (p.tables.map Tb.cs)), .data (.sl 8 (p.stmts.map Sm.cs))]), (2, .cells [.data (.i 0)]), (3, .cells [.data (.i 0)]), (4, .cells [.map 16]), (16, .map true [.int .i64, .int .i64] (S.map kkD))]) [1, 2, 3, 4, 18, 19] (fun i0 r0 S => aA p = sH r0 i0 S), ?_⟩; with_reducible refine ae ([]) ?_ ?_ (fun i0 (S : (List (Key × Int))) hd0 hI0 => ?_) (fun i0 x0 r0 (S : (List (Key × Int))) hd0 hl0 hI0 => ?_))
  | (with_reducible refine af hd0 ((if sets x0.kind then Aj (x0.kind, x0.index) (i0 : Int) S else S)) ?_ ?_)
  | ((with_reducible refine ah ?_ ?_ ?_); rotate_left; (exact qN p g hb))
  | ((with_reducible refine lent_step' [(1000001, 8), (1000002, 7), (1000003, 1), (1000004, 10), (1000005, 42), (1000006, 41), (1000007, 9), (1000008, 4), (1000009, 16)] (yG g.sm.stmts hI0 hA) ?_ ?_ ?_ ?_); rotate_left 0; exact rfl; (exact ⟨rfl, rfl, rfl, rfl, rfl, rfl, rfl, rfl, rfl, trivial⟩); exact rfl)
  | ((with_reducible refine aB ?_ ?_ ?_ ?_ ?_); exact rfl; exact rfl; rotate_left; (with_reducible exact az hd0))
  | ((with_reducible refine aK ?_ ?_); exact rfl)
  | (with_reducible refine And.intro ?_ ?_)
  | exact @rfl AV _
  | exact @rfl Block _
  | fail)
 all_goals first
  | (rfl)
  | ((exact hI0))
  | ((exact xE (k := (x0.kind, x0.index)) (v := (i0 : Int)) (l := S) (c := sets x0.kind) h))
  | ((exact xG (k := (x0.kind, x0.index)) (v := (i0 : Int)) (l := S) (c := sets x0.kind) h))
  | skip
theorem H7 (p : Pr) (s' : AS) (g : bz p) (hb : (ai p).2 = 0) (hA : nC p (aA p) ⟨[], []⟩ ((p.stmts.length : Int) - 1) s') : PCall Tryd.prog 11 [p.d] (.ret (.tuple [.i (-1), .i 0])) := by
 refine pcall_of_wc tok hmix ⟨[], []⟩ Tryd.func11 rfl (by kernel_rfl) (by kernel_rfl) (by kernel_rfl) fun hf => ?_
 have hs5 := g.sm.stmts
 have hl_b : p.stmts.length ≤ 9223372036854775807 := by omega
 clear hf
 repeat' ((try (conv => whnf)) <;> first
  | ((with_reducible refine BrI.ff_of ?_ ?_); exact rfl)
  | with_reducible exact trivial
  | with_reducible exact ak hd0 ‹_›
  | with_reducible refine aX hd0 ?_
  | with_reducible refine aP hd0 ?_
  | with_reducible refine BrI.intro (fun h => ?_) (fun h => ?_)
  | ((refine ⟨_, _, _, [(1000000, 2), (1000001, 3)], Ec (.i 0) (.i 0), rfl, ⟨rfl, rfl, trivial⟩, ?_, ?_⟩); kernel_rfl)
  | (refine ⟨([] : List (Nat × Nat)), rfl, ?_, trivial⟩)
  | ((with_reducible refine LoopAt.mk 0 ?_); refine ⟨aF (p.stmts) 20 (fun (S : (List (Key × Int))) => []) (fun (S : (List (Key × Int))) => [(1, .cells [.data (.str p.name), .data (.i p.latency), .data (.i p.tail), .data (.sl 3 (p.params.map Bd.cs)), .data (.sl 3 (p.states.map Bd.cs)), .data (.sl 4 (p.lines.map Ln.cs)), .data (.sl 2 (p.tables.map Tb.cs)), .data (.sl 8 (p.stmts.map Sm.cs))]), (2, .cells [.data (.i 0)]), (3, .cells [.data (.i 0)]), (4, .cells [.map 16]), (16, .map true [.int .i64, .int .i64] (S.map kkD))]) [1, 2, 3, 4, 18, 19] (fun i0 r0 S => aA p = sH r0 i0 S), ?_⟩; with_reducible refine ae ([]) ?_ ?_ (fun i0 (S : (List (Key × Int))) hd0 hI0 => ?_) (fun i0 x0 r0 (S : (List (Key × Int))) hd0 hl0 hI0 => ?_))
  | (with_reducible refine af hd0 ((if sets x0.kind then Aj (x0.kind, x0.index) (i0 : Int) S else S)) ?_ ?_)
  | ((with_reducible refine ah ?_ ?_ ?_); rotate_left; (exact qN p g hb))
  | ((with_reducible refine lent_step' [(1000001, 8), (1000002, 7), (1000003, 1), (1000004, 10), (1000005, 42), (1000006, 41), (1000007, 9), (1000008, 4), (1000009, 16)] (vC g.sm.stmts hI0 hA) ?_ ?_ ?_ ?_); rotate_left 0; exact rfl; (exact ⟨rfl, rfl, rfl, rfl, rfl, rfl, rfl, rfl, rfl, trivial⟩); exact rfl)
  | ((with_reducible refine aB ?_ ?_ ?_ ?_ ?_); exact rfl; exact rfl; rotate_left; (with_reducible exact az hd0))
  | ((with_reducible refine aK ?_ ?_); exact rfl)
  | (with_reducible refine And.intro ?_ ?_)
  | exact @rfl AV _
  | exact @rfl Block _
  | fail)
 all_goals first
  | (rfl)
  | ((exact hI0))
  | ((exact xE (k := (x0.kind, x0.index)) (v := (i0 : Int)) (l := S) (c := sets x0.kind) h))
  | ((exact xG (k := (x0.kind, x0.index)) (v := (i0 : Int)) (l := S) (c := sets x0.kind) h))
  | skip
theorem fV (p : Pr) (g : bz p) : PCall Tryd.prog 11 [p.d] (.ret (.tuple [.i (iq p).1, .i (iq p).2])) := by
 cases h : ((ai p).2 != 0) with
 | true => rw [iq, if_pos h]; exact H6 p g h
 | false =>
  rw [iq, if_neg (by rw [h]; decide)]
  have hb : (ai p).2 = 0 := by simpa using h
  have hr := dO (aO hb).2
  have hall := qM p (aA p) (p.stmts.length + 1) ⟨[], []⟩ ((p.stmts.length : Int) - 1)
  rcases Bi (iO hr) (uY hr) with ⟨v, s', e⟩ | ⟨t, e⟩
  ·have := JC p v s' g hb (hall.1 v s' e)
   rw [ji, e]; exact this
  ·have := H7 p t g hb (hall.2 t e)
   rw [ji, e]; exact this
theorem KF {n m lat tail : Int} {b : Bool} (h1 : decide (n > lat) = false) (h : (bif (0 : Int) != 0 then true else bif tail != -1 then bif m == -1 then true else decide (m > tail) else false) = b) : (if n > lat then (170 : Int) else if (tail != -1 && (m == -1 || decide (m > tail))) = true then 171 else 0) = if b then 171 else 0 := by
 rw [if_neg (of_decide_eq_false h1)]
 have : (tail != -1 && (m == -1 || decide (m > tail))) = b := by rw [← h]; cases tail != -1 <;> cases m == -1 <;> rfl
 rw [this]
theorem BC (p : Pr) (g : bz p) (hb : ((ai p).2 != 0) = true) (h1 : PCall Tryd.prog 10 [p.d] (.ret (.tuple [.i 0, .i (ai p).2]))) : PCall Tryd.prog 12 [p.d] (.ret (.i (ai p).2)) := by
 refine pcall_of_wc tok hmix ⟨[], []⟩ Tryd.func12 rfl (by kernel_rfl) (by kernel_rfl) (by kernel_rfl) fun hf => ?_
 clear hf
 repeat' ((try (conv => whnf)) <;> first
  | (exact Bool.noConfusion (hb.symm.trans h))
  | with_reducible refine BrI.intro (fun h => ?_) (fun h => ?_)
  | ((with_reducible refine ah ?_ ?_ ?_); rotate_left; (exact h1))
  | ((with_reducible refine ag ?_); refine ⟨[], rfl, ?_, trivial⟩; conv => whnf)
  | fail)
 all_goals first
  | skip
theorem BD (p : Pr) (n m : Int) (g : bz p) (h1 : PCall Tryd.prog 10 [p.d] (.ret (.tuple [.i n, .i 0]))) (h2 : PCall Tryd.prog 11 [p.d] (.ret (.tuple [.i m, .i 0]))) : PCall Tryd.prog 12 [p.d] (.ret (.i (if n > p.latency then 170 else if (p.tail != -1 && (m == -1 || decide (m > p.tail))) = true then 171 else 0))) := by
 refine pcall_of_wc tok hmix ⟨[], []⟩ Tryd.func12 rfl (by kernel_rfl) (by kernel_rfl) (by kernel_rfl) fun hf => ?_
 clear hf
 repeat' ((try (conv => whnf)) <;> first
  | ((with_reducible refine BrI.ff_of ?_ ?_); exact rfl)
  | with_reducible refine BrI.intro (fun h => ?_) (fun h => ?_)
  | ((with_reducible refine ah ?_ ?_ ?_); rotate_left; (first | exact h1 | exact h2))
  | ((with_reducible refine ag ?_); refine ⟨[], rfl, ?_, trivial⟩; conv => whnf)
  | fail)
 all_goals first
  | ((exact congrArg D.i (by rw [if_pos (of_decide_eq_true ‹_›)])))
  | ((exact congrArg D.i (KF ‹_› h).symm))
  | skip
theorem di (p : Pr) (g : bz p) : PCall Tryd.prog 12 [p.d] (.ret (.i (dF p))) := by
 cases h : ((ai p).2 != 0) with
 | true =>
  rw [dF, if_pos h]
  have h1 := dI p g
  rw [dQ, if_pos h] at h1
  exact BC p g h h1
 | false =>
  have hb : (ai p).2 = 0 := by simpa using h
  rw [dF, if_neg (by rw [h]; decide)]
  have h1 := dI p g
  have h2 := fV p g
  rw [GU hb] at h1
  rw [GV hb] at h2
  exact BD p (latM p) (ji p) g h1 h2
end Go.Proofs.YtogfjinopifenaaDoor
