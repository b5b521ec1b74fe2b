/- Contracts: package tails: the age of a statement that depends on itself. -/
import Derived.Test.YtogfjinopifenaaDoorZTS3
set_option linter.unusedSectionVars false
set_option linter.unusedSimpArgs false
set_option linter.unusedVariables false
set_option maxHeartbeats 8000000
namespace Go.Proofs.YtogfjinopifenaaDoor
open Go.Fw Go.Fw.Ref15 Go.Fw.Rg Go.Fw.Tl
set_option maxRecDepth 10000
variable [af]
theorem Yh {s t : AS} (h : AR.pan s = .pan t) : t = s := by cases h; rfl
theorem Yi {x : Ex} {Rf : Nat → RP} {Re : RP} {d : D} {k : Nat} (h : aZ Tryd.prog yQ [.yld 1000000, .data ((au x).getD k Ex.none).d] [(1000000, .rnd (Rf k))] (.pan (.data d)) [(1000000, .rnd Re)]) : ∀ y, (au x)[k]? = some y → z1s Rf Re d (0 + k) y := by
 intro y hy
 rw [List.getD_eq_getElem?_getD, hy] at h
 rw [Nat.zero_add]; exact h
theorem UR (p : Pr) (S : List (Key × Int)) (f : Nat) (i : Int) (s s' : AS) (hA : ∀ s k v t, oI p S f s k = .ok v t → FZ p S s k v t) (hP : ∀ s k t, oI p S f s k = .pan t → yL p S s k t) (hh : oI p S (f + 1) s i = .pan s') : aZ Tryd.prog 35 [.data (.i i), .ptr 1000001 0, .ptr 1000002 0, .ptr 1000003 0, .ptr 1000004 0] [(1000001, .cells [.map 1000005]), (1000002, .cells [.map 1000006]), (1000003, .cells [.data (.str p.name), .data (.i p.latency), .data (.i p.tail), .data (.sl 3 (p.params.map Bd.cs)), .data (.sl 3 (p.states.map Bd.cs)), .data (.sl 4 (p.lines.map Ln.cs)), .data (.sl 2 (p.tables.map Tb.cs)), .data (.sl 8 (p.stmts.map Sm.cs))]), (1000004, .cells [.fn 34 [.ptr 1000007 0, .ptr 1000008 0, .ptr 1000003 0]]), (1000005, .map false [.int .i64] (s.opn.map ibD)), (1000006, .map false [.int .i64] (s.ages.map iiD)), (1000007, .cells [.fn 35 [.ptr 1000001 0, .ptr 1000002 0, .ptr 1000003 0, .ptr 1000004 0]]), (1000008, .cells [.map 1000009]), (1000009, .map true [.int .i64, .int .i64] (S.map kkD))] (.pan (.data (.iface 87 (.agg [])))) [(1000001, .cells [.map 1000005]), (1000002, .cells [.map 1000006]), (1000003, .cells [.data (.str p.name), .data (.i p.latency), .data (.i p.tail), .data (.sl 3 (p.params.map Bd.cs)), .data (.sl 3 (p.states.map Bd.cs)), .data (.sl 4 (p.lines.map Ln.cs)), .data (.sl 2 (p.tables.map Tb.cs)), .data (.sl 8 (p.stmts.map Sm.cs))]), (1000004, .cells [.fn 34 [.ptr 1000007 0, .ptr 1000008 0, .ptr 1000003 0]]), (1000005, .map false [.int .i64] (s'.opn.map ibD)), (1000006, .map false [.int .i64] (s'.ages.map iiD)), (1000007, .cells [.fn 35 [.ptr 1000001 0, .ptr 1000002 0, .ptr 1000003 0, .ptr 1000004 0]]), (1000008, .cells [.map 1000009]), (1000009, .map true [.int .i64, .int .i64] (S.map kkD))] := by
 refine aB tok hmix ⟨[], []⟩ Tryd.func35 rfl (by kernel_rfl) (by kernel_rfl) (by kernel_rfl) fun hf => ?_
 clear hf
 repeat' ((try (conv => whnf)) <;> first
  | (refine Vx rfl (fun b hb => ?_) (fun hb => ?_))
  | (refine Vw rfl (fun n ha => ?_) (fun ha => ?_))
  | ((with_reducible refine BrI.ff_of ?_ ?_); exact rfl)
  | ((with_reducible refine BrI.tt_of ?_ ?_); exact rfl)
  | (have hq := VF hb (by assumption) hh; clear hh; obtain rfl := Yh hq; clear hq)
  | (have ho := VG hb (by assumption); clear hb)
  | (have ho := VH hb; clear hb)
  | (have hq := J6 ho ha hh; exact (Fa hq).elim)
  | (have hq := XO ho ha hh; clear hh; obtain ⟨hir, k, hk, hR, hW⟩ := hq)
  | ((with_reducible refine aJ ?_ ?_ ?_ ?_ ?_); exact rfl; exact rfl; rotate_left; exact VI hir)
  | ((with_reducible refine jR.mk 33 ?_); refine ⟨rfl, ⟨[(1, .ptr 1000001 0), (2, .ptr 1000002 0), (3, .ptr 1000003 0), (4, .ptr 1000004 0), (5, .ptr 5 0), (9, .ptr 9 0), (32, .fn 57 [.ptr 800001 0])], [(1000001, .cells [.map 1000005]), (1000002, .cells [.map 1000006]), (1000003, .cells [.data (.str p.name), .data (.i p.latency), .data (.i p.tail), .data (.sl 3 (p.params.map Bd.cs)), .data (.sl 3 (p.states.map Bd.cs)), .data (.sl 4 (p.lines.map Ln.cs)), .data (.sl 2 (p.tables.map Tb.cs)), .data (.sl 8 (p.stmts.map Sm.cs))]), (1000004, .cells [.fn 34 [.ptr 1000007 0, .ptr 1000008 0, .ptr 1000003 0]]), (1000005, .map false [.int .i64] ((⟨s.ages, qj i true s.opn⟩ : AS).opn.map ibD)), (1000006, .map false [.int .i64] ((⟨s.ages, qj i true s.opn⟩ : AS).ages.map iiD)), (1000007, .cells [.fn 35 [.ptr 1000001 0, .ptr 1000002 0, .ptr 1000003 0, .ptr 1000004 0]]), (1000008, .cells [.map 1000009]), (1000009, .map true [.int .i64, .int .i64] (S.map kkD)), (5, .cells [.data (.i i)]), (9, .cells [.data (.i 0)]), (800001, .cells [.data (.i (aV p i).kind), .data (.str (aV p i).name), .data (.i (aV p i).index), .data (.i (aV p i).n), .data (.sl 5 (Ex.css (aV p i).l))])], [(1000000, 9), (1000010, 5), (1000001, 1000001), (1000002, 1000002), (1000003, 1000003), (1000004, 1000004), (1000005, 1000005), (1000006, 1000006), (1000007, 1000007), (1000008, 1000008), (1000009, 1000009)], [(9, .ptr 1000000 0), (4, .ptr 1000004 0), (5, .ptr 1000010 0)], fun j => [(1000000, .cells [.data (.i (kH p S f s i j).1)]), (1000010, .cells [.data (.i i)]), (1000001, .cells [.map 1000005]), (1000002, .cells [.map 1000006]), (1000003, .cells [.data (.str p.name), .data (.i p.latency), .data (.i p.tail), .data (.sl 3 (p.params.map Bd.cs)), .data (.sl 3 (p.states.map Bd.cs)), .data (.sl 4 (p.lines.map Ln.cs)), .data (.sl 2 (p.tables.map Tb.cs)), .data (.sl 8 (p.stmts.map Sm.cs))]), (1000004, .cells [.fn 34 [.ptr 1000007 0, .ptr 1000008 0, .ptr 1000003 0]]), (1000005, .map false [.int .i64] ((kH p S f s i j).2.opn.map ibD)), (1000006, .map false [.int .i64] ((kH p S f s i j).2.ages.map iiD)), (1000007, .cells [.fn 35 [.ptr 1000001 0, .ptr 1000002 0, .ptr 1000003 0, .ptr 1000004 0]]), (1000008, .cells [.map 1000009]), (1000009, .map true [.int .i64, .int .i64] (S.map kkD))], k, fun j => [((au (aV p i)).getD j Ex.none).d], 900002, some (.pan z0e, [(1000000, .cells [.data (.i (kH p S f s i k).1)]), (1000010, .cells [.data (.i i)]), (1000001, .cells [.map 1000005]), (1000002, .cells [.map 1000006]), (1000003, .cells [.data (.str p.name), .data (.i p.latency), .data (.i p.tail), .data (.sl 3 (p.params.map Bd.cs)), .data (.sl 3 (p.states.map Bd.cs)), .data (.sl 4 (p.lines.map Ln.cs)), .data (.sl 2 (p.tables.map Tb.cs)), .data (.sl 8 (p.stmts.map Sm.cs))]), (1000004, .cells [.fn 34 [.ptr 1000007 0, .ptr 1000008 0, .ptr 1000003 0]]), (1000005, .map false [.int .i64] (s'.opn.map ibD)), (1000006, .map false [.int .i64] (s'.ages.map iiD)), (1000007, .cells [.fn 35 [.ptr 1000001 0, .ptr 1000002 0, .ptr 1000003 0, .ptr 1000004 0]]), (1000008, .cells [.map 1000009]), (1000009, .map true [.int .i64, .int .i64] (S.map kkD))])⟩, ⟨?_, rfl, rfl, ?_, ?_, fun j hj => ⟨rfl, rfl, ?_⟩, fun kk hh ee => ?_, ⟨_, _, rfl, rfl, fun Rf Re hy hy2 => ⟨1000000, [.ptr 1000001 0], [(1000001, .cells [.data (.i (aV p i).kind), .data (.str (aV p i).name), .data (.i (aV p i).index), .data (.i (aV p i).n), .data (.sl 5 (Ex.css (aV p i).l))])], .data (.tuple []), [(1000001, .cells [.data (.i (aV p i).kind), .data (.str (aV p i).name), .data (.i (aV p i).index), .data (.i (aV p i).n), .data (.sl 5 (Ex.css (aV p i).l))])], [(1000000, 900002), (1000001, 800001)], MP (aV p i) Rf Re z0e k hk (fun j y hj h => Il (P := fun n d => aZ Tryd.prog yQ [.yld 1000000, .data d] [(1000000, .rnd (Rf n))] (.ret (.b true)) [(1000000, .rnd (Rf (n + 1)))]) hy j y hj h) (Yi (hy2 (Option.some_ne_none _))), rfl, ?_, rfl, rfl, ?_⟩⟩⟩⟩)
  | (cases ee; refine ⟨rfl, ?_⟩)
  | (have hq := (hR j hj).ok; clear hj; obtain ⟨w, hw1, hw2⟩ := hq)
  | with_reducible exact trivial
  | with_reducible refine BrI.intro (fun h => ?_) (fun h => ?_)
  | ((refine rest_step _ _ _ [true, true] ?_ ?_); kernel_rfl)
  | ((with_reducible refine quiet_step ?_ ?_); kernel_rfl)
  | ((with_reducible refine iI [(1000000, 800001)] (uu (aV p i)) ?_ ?_ ?_ ?_); rotate_left 0; exact rfl; (exact trivial); exact rfl)
  | ((with_reducible refine lent_step' [(1000001, 1000001), (1000002, 1000002), (1000003, 1000003), (1000004, 1000004), (1000005, 1000005), (1000006, 1000006), (1000007, 1000007), (1000008, 1000008), (1000009, 1000009)] (JQ p S f i ((au (aV p i)).getD j Ex.none) (kH p S f s i j).2 (kH p S f s i (j + 1)).2 w (fun k v t h => hA _ k v t h) hw1) ?_ ?_ ?_ ?_); rotate_left 0; exact rfl; (exact ⟨rfl, rfl, rfl, rfl, rfl, rfl, rfl, rfl, rfl, trivial⟩); exact rfl)
  | ((with_reducible refine lent_step' [(1000001, 1000001), (1000002, 1000002), (1000003, 1000003), (1000004, 1000004), (1000005, 1000005), (1000006, 1000006), (1000007, 1000007), (1000008, 1000008), (1000009, 1000009)] (Ig p S f i ((au (aV p i)).getD k Ex.none) (kH p S f s i k).2 s' (fun k t h => hP _ k t h) hW) ?_ ?_ ?_ ?_); rotate_left 0; exact rfl; (exact ⟨rfl, rfl, rfl, rfl, rfl, rfl, rfl, rfl, rfl, trivial⟩); exact rfl)
  | ((with_reducible refine iK ?_); refine fin_step' [(1000001, 1000001), (1000002, 1000002), (1000003, 1000003), (1000004, 1000004), (1000005, 1000005), (1000006, 1000006), (1000007, 1000007), (1000008, 1000008), (1000009, 1000009)] rfl ?_ ?_)
  | ((with_reducible refine aW ?_ ?_); exact rfl)
  | ((with_reducible refine aA ?_ ?_); kernel_rfl)
  | ((with_reducible refine jW ?_ ?_); kernel_rfl)
  | (with_reducible refine And.intro ?_ ?_)
  | exact @rfl AV _
  | exact @rfl Block _
  | fail)
 all_goals first
  | (rfl)
  | ((exact VQ))
  | (((try (conv => whnf)); (exact congrArg (fun z => AV.data (D.i z)) hw2.symm)))
  | skip
theorem Dc (p : Pr) (S : List (Key × Int)) : ∀ (f : Nat) (s : AS) (i : Int), (∀ v s', oI p S f s i = .ok v s' → FZ p S s i v s') ∧ (∀ t, oI p S f s i = .pan t → yL p S s i t)
 | 0, _, _ => ⟨fun _ _ h => (by cases h), fun _ h => (by cases h)⟩
 | f + 1, s, i => ⟨fun v s' h => Yg p S f i s s' v (fun s k v t h => (Dc p S f s k).1 v t h) h, fun t h => UR p S f i s t (fun s k v t h => (Dc p S f s k).1 v t h) (fun s k t h => (Dc p S f s k).2 t h) h⟩
end Go.Proofs.YtogfjinopifenaaDoor
