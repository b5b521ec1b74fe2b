/- Contracts: package tails: the age of a statement. -/
import Derived.Test.YtogfjinopifenaaDoorZTS2
set_option linter.unusedSectionVars false
set_option linter.unusedSimpArgs false
set_option linter.unusedVariables false
set_option maxHeartbeats 8000000
namespace Go.Proofs.YtogfjinopifenaaDoor
open Go.Fw Go.Fw.Ref15 Go.Fw.Rg Go.Fw.Tl
set_option maxRecDepth 10000
variable [af]
theorem z0f {g : Bool} {ks : List KS} {l : List (Int × Int)} {k v : Int} : Block.map g ks (mput (.i k) (.i v) (l.map iiD)) = Block.map g ks ((qj k v l).map iiD) := by rw [Qy]
theorem VQ {g : Bool} {ks : List KS} {l : List (Int × Bool)} {k : Int} {v : Bool} : Block.map g ks (mput (.i k) (.b v) (l.map ibD)) = Block.map g ks ((qj k v l).map ibD) := by rw [QA]
theorem F5 {α : Type} {x : α} {P : Prop} (h : none = some x) : P := by cases h
theorem AA (x : Ex) (Rf : Nat → RP) (hy : ∀ j y, (au x)[j]? = some y → YOk Rf (0 + j) y) : aZ Tryd.prog 57 [.yld 1000000, .ptr 1000001 0] [(1000000, .rnd (Rf 0)), (1000001, .cells [.data (.i x.kind), .data (.str x.name), .data (.i x.index), .data (.i x.n), .data (.sl 5 (Ex.css x.l))])] (.ret (.data (.tuple []))) [(1000000, .rnd (Rf (au x).length)), (1000001, .cells [.data (.i x.kind), .data (.str x.name), .data (.i x.index), .data (.i x.n), .data (.sl 5 (Ex.css x.l))])] := by
 have := QN x Rf hy
 rwa [Nat.zero_add] at this
theorem Yg (p : Pr) (S : List (Key × Int)) (f : Nat) (i : Int) (s s' : AS) (v : Int) (hA : ∀ s k v t, oI p S f s k = .ok v t → FZ p S s k v t) (hh : oI p S (f + 1) s i = .ok v s') : aZ Tryd.prog 35 [.data (.i i), .ptr 1000001 0, .ptr 1000002 0, .ptr 1000003 0, .ptr 1000004 0] [(1000001, .cells [.map 1000005]), (1000002, .cells [.map 1000006]), (1000003, .cells [.data (.str p.name), .data (.i p.latency), .data (.i p.tail), .data (.sl 3 (p.params.map Bd.cs)), .data (.sl 3 (p.states.map Bd.cs)), .data (.sl 4 (p.lines.map Ln.cs)), .data (.sl 2 (p.tables.map Tb.cs)), .data (.sl 8 (p.stmts.map Sm.cs))]), (1000004, .cells [.fn 34 [.ptr 1000007 0, .ptr 1000008 0, .ptr 1000003 0]]), (1000005, .map false [.int .i64] (s.opn.map ibD)), (1000006, .map false [.int .i64] (s.ages.map iiD)), (1000007, .cells [.fn 35 [.ptr 1000001 0, .ptr 1000002 0, .ptr 1000003 0, .ptr 1000004 0]]), (1000008, .cells [.map 1000009]), (1000009, .map true [.int .i64, .int .i64] (S.map kkD))] (.ret (.data (.i v))) [(1000001, .cells [.map 1000005]), (1000002, .cells [.map 1000006]), (1000003, .cells [.data (.str p.name), .data (.i p.latency), .data (.i p.tail), .data (.sl 3 (p.params.map Bd.cs)), .data (.sl 3 (p.states.map Bd.cs)), .data (.sl 4 (p.lines.map Ln.cs)), .data (.sl 2 (p.tables.map Tb.cs)), .data (.sl 8 (p.stmts.map Sm.cs))]), (1000004, .cells [.fn 34 [.ptr 1000007 0, .ptr 1000008 0, .ptr 1000003 0]]), (1000005, .map false [.int .i64] (s'.opn.map ibD)), (1000006, .map false [.int .i64] (s'.ages.map iiD)), (1000007, .cells [.fn 35 [.ptr 1000001 0, .ptr 1000002 0, .ptr 1000003 0, .ptr 1000004 0]]), (1000008, .cells [.map 1000009]), (1000009, .map true [.int .i64, .int .i64] (S.map kkD))] := by
 refine aB tok hmix ⟨[], []⟩ Tryd.func35 rfl (by kernel_rfl) (by kernel_rfl) (by kernel_rfl) fun hf => ?_
 clear hf
 repeat' ((try (conv => whnf)) <;> first
  | (refine Vx rfl (fun b hb => ?_) (fun hb => ?_))
  | (refine Vw rfl (fun n ha => ?_) (fun ha => ?_))
  | ((with_reducible refine BrI.ff_of ?_ ?_); exact rfl)
  | ((with_reducible refine BrI.tt_of ?_ ?_); exact rfl)
  | (exact (Fa (VF hb (by assumption) hh).symm).elim)
  | (have ho := VG hb (by assumption); clear hb)
  | (have ho := VH hb; clear hb)
  | (have hq := J6 ho ha hh; clear hh; obtain ⟨rfl, rfl⟩ := XN hq)
  | (have hq := ZR ho ha hh; clear hh; obtain ⟨hir, hR, rfl, rfl⟩ := hq)
  | ((with_reducible refine aJ ?_ ?_ ?_ ?_ ?_); exact rfl; exact rfl; rotate_left; exact VI hir)
  | ((with_reducible refine jR.mk 33 ?_); refine ⟨rfl, ⟨[(1, .ptr 1000001 0), (2, .ptr 1000002 0), (3, .ptr 1000003 0), (4, .ptr 1000004 0), (5, .ptr 5 0), (9, .ptr 9 0), (32, .fn 57 [.ptr 800001 0])], [(1000001, .cells [.map 1000005]), (1000002, .cells [.map 1000006]), (1000003, .cells [.data (.str p.name), .data (.i p.latency), .data (.i p.tail), .data (.sl 3 (p.params.map Bd.cs)), .data (.sl 3 (p.states.map Bd.cs)), .data (.sl 4 (p.lines.map Ln.cs)), .data (.sl 2 (p.tables.map Tb.cs)), .data (.sl 8 (p.stmts.map Sm.cs))]), (1000004, .cells [.fn 34 [.ptr 1000007 0, .ptr 1000008 0, .ptr 1000003 0]]), (1000005, .map false [.int .i64] ((⟨s.ages, qj i true s.opn⟩ : AS).opn.map ibD)), (1000006, .map false [.int .i64] ((⟨s.ages, qj i true s.opn⟩ : AS).ages.map iiD)), (1000007, .cells [.fn 35 [.ptr 1000001 0, .ptr 1000002 0, .ptr 1000003 0, .ptr 1000004 0]]), (1000008, .cells [.map 1000009]), (1000009, .map true [.int .i64, .int .i64] (S.map kkD)), (5, .cells [.data (.i i)]), (9, .cells [.data (.i 0)]), (800001, .cells [.data (.i (aV p i).kind), .data (.str (aV p i).name), .data (.i (aV p i).index), .data (.i (aV p i).n), .data (.sl 5 (Ex.css (aV p i).l))])], [(1000000, 9), (1000010, 5), (1000001, 1000001), (1000002, 1000002), (1000003, 1000003), (1000004, 1000004), (1000005, 1000005), (1000006, 1000006), (1000007, 1000007), (1000008, 1000008), (1000009, 1000009)], [(9, .ptr 1000000 0), (4, .ptr 1000004 0), (5, .ptr 1000010 0)], fun j => [(1000000, .cells [.data (.i (kH p S f s i j).1)]), (1000010, .cells [.data (.i i)]), (1000001, .cells [.map 1000005]), (1000002, .cells [.map 1000006]), (1000003, .cells [.data (.str p.name), .data (.i p.latency), .data (.i p.tail), .data (.sl 3 (p.params.map Bd.cs)), .data (.sl 3 (p.states.map Bd.cs)), .data (.sl 4 (p.lines.map Ln.cs)), .data (.sl 2 (p.tables.map Tb.cs)), .data (.sl 8 (p.stmts.map Sm.cs))]), (1000004, .cells [.fn 34 [.ptr 1000007 0, .ptr 1000008 0, .ptr 1000003 0]]), (1000005, .map false [.int .i64] ((kH p S f s i j).2.opn.map ibD)), (1000006, .map false [.int .i64] ((kH p S f s i j).2.ages.map iiD)), (1000007, .cells [.fn 35 [.ptr 1000001 0, .ptr 1000002 0, .ptr 1000003 0, .ptr 1000004 0]]), (1000008, .cells [.map 1000009]), (1000009, .map true [.int .i64, .int .i64] (S.map kkD))], (au (aV p i)).length, fun j => [((au (aV p i)).getD j Ex.none).d], 900002, none⟩, ⟨?_, rfl, rfl, ?_, ?_, fun j hj => ⟨rfl, rfl, ?_⟩, fun _ _ e => F5 e, ⟨_, _, rfl, rfl, fun Rf Re hy hy2 => ⟨1000000, [.ptr 1000001 0], [(1000001, .cells [.data (.i (aV p i).kind), .data (.str (aV p i).name), .data (.i (aV p i).index), .data (.i (aV p i).n), .data (.sl 5 (Ex.css (aV p i).l))])], .data (.tuple []), [(1000001, .cells [.data (.i (aV p i).kind), .data (.str (aV p i).name), .data (.i (aV p i).index), .data (.i (aV p i).n), .data (.sl 5 (Ex.css (aV p i).l))])], [(1000000, 900002), (1000001, 800001)], AA (aV p i) Rf (fun j y hj => Il (P := fun n d => aZ Tryd.prog yQ [.yld 1000000, .data d] [(1000000, .rnd (Rf n))] (.ret (.b true)) [(1000000, .rnd (Rf (n + 1)))]) hy j y (List.getElem?_eq_some_iff.1 hj).1 hj), rfl, ?_, rfl, rfl, ?_⟩⟩⟩⟩)
  | (have hq := (hR j hj).ok; clear hj; obtain ⟨w, hw1, hw2⟩ := hq)
  | with_reducible exact trivial
  | with_reducible refine BrI.intro (fun h => ?_) (fun h => ?_)
  | ((with_reducible refine iI [(1000000, 800001)] (uu (aV p i)) ?_ ?_ ?_ ?_); rotate_left 0; exact rfl; (exact trivial); exact rfl)
  | ((with_reducible refine lent_step' [(1000001, 1000001), (1000002, 1000002), (1000003, 1000003), (1000004, 1000004), (1000005, 1000005), (1000006, 1000006), (1000007, 1000007), (1000008, 1000008), (1000009, 1000009)] (JQ p S f i ((au (aV p i)).getD j Ex.none) (kH p S f s i j).2 (kH p S f s i (j + 1)).2 w (fun k v t h => hA _ k v t h) hw1) ?_ ?_ ?_ ?_); rotate_left 0; exact rfl; (exact ⟨rfl, rfl, rfl, rfl, rfl, rfl, rfl, rfl, rfl, trivial⟩); exact rfl)
  | ((with_reducible refine ai ?_); refine fin_step' [(1000001, 1000001), (1000002, 1000002), (1000003, 1000003), (1000004, 1000004), (1000005, 1000005), (1000006, 1000006), (1000007, 1000007), (1000008, 1000008), (1000009, 1000009)] rfl ?_ ?_)
  | ((with_reducible refine aW ?_ ?_); exact rfl)
  | ((with_reducible refine aA ?_ ?_); kernel_rfl)
  | (with_reducible refine And.intro ?_ ?_)
  | exact @rfl AV _)
 all_goals first
  | (rfl)
  | ((exact VQ))
  | ((exact z0f))
  | (((try (conv => whnf)); (exact congrArg (fun z => AV.data (D.i z)) hw2.symm)))
  | skip
end Go.Proofs.YtogfjinopifenaaDoor
