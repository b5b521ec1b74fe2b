/- Contracts: package tails: the ages of statements. -/
import Derived.Test.YtogfjinopifenaaDoorZYA
set_option linter.unusedSectionVars false
set_option linter.unusedSimpArgs false
set_option linter.unusedVariables false
set_option maxHeartbeats 4000000
namespace Go.Proofs.YtogfjinopifenaaDoor
open Go.Fw Go.Fw.Ref15 Go.Fw.Rg Go.Fw.Tl
set_option maxRecDepth 10000
variable [GlobInt]
abbrev ZR (p : Pr) (S : List (Key × Int)) (s : AS) : Heap := [(1000001, .cells [.map 1000005]), (1000002, .cells [.map 1000006]), (1000003, .cells [.data (.str p.name), .data (.i p.latency), .data (.i p.tail), .data (.sl 3 (p.params.map Bd.cs)), .data (.sl 3 (p.states.map Bd.cs)), .data (.sl 4 (p.lines.map Ln.cs)), .data (.sl 2 (p.tables.map Tb.cs)), .data (.sl 8 (p.stmts.map Sm.cs))]), (1000004, .cells [.fn 34 [.ptr 1000007 0, .ptr 1000008 0, .ptr 1000003 0]]), (1000005, .map false [.int .i64] (s.opn.map ibD)), (1000006, .map false [.int .i64] (s.ages.map iiD)), (1000007, .cells [.fn 35 [.ptr 1000001 0, .ptr 1000002 0, .ptr 1000003 0, .ptr 1000004 0]]), (1000008, .cells [.map 1000009]), (1000009, .map true [.int .i64, .int .i64] (S.map kkD))]
abbrev Zx : D := .iface 87 (.agg [])
def Fe (p : Pr) (S : List (Key × Int)) (s : AS) (i v : Int) (s' : AS) : Prop := LCall Tryd.prog 35 [.data (.i i), .ptr 1000001 0, .ptr 1000002 0, .ptr 1000003 0, .ptr 1000004 0] (ZR p S s) (.ret (.data (.i v))) (ZR p S s')
def yj (p : Pr) (S : List (Key × Int)) (s : AS) (i : Int) (s' : AS) : Prop := LCall Tryd.prog 35 [.data (.i i), .ptr 1000001 0, .ptr 1000002 0, .ptr 1000003 0, .ptr 1000004 0] (ZR p S s) (.pan (.data Zx)) (ZR p S s')
theorem Fe.call {p : Pr} {S : List (Key × Int)} {s s' : AS} {i v : Int} (h : Fe p S s i v s') : LCall Tryd.prog 35 [.data (.i i), .ptr 1000001 0, .ptr 1000002 0, .ptr 1000003 0, .ptr 1000004 0] [(1000001, .cells [.map 1000005]), (1000002, .cells [.map 1000006]), (1000003, .cells [.data (.str p.name), .data (.i p.latency), .data (.i p.tail), .data (.sl 3 (p.params.map Bd.cs)), .data (.sl 3 (p.states.map Bd.cs)), .data (.sl 4 (p.lines.map Ln.cs)), .data (.sl 2 (p.tables.map Tb.cs)), .data (.sl 8 (p.stmts.map Sm.cs))]), (1000004, .cells [.fn 34 [.ptr 1000007 0, .ptr 1000008 0, .ptr 1000003 0]]), (1000005, .map false [.int .i64] (s.opn.map ibD)), (1000006, .map false [.int .i64] (s.ages.map iiD)), (1000007, .cells [.fn 35 [.ptr 1000001 0, .ptr 1000002 0, .ptr 1000003 0, .ptr 1000004 0]]), (1000008, .cells [.map 1000009]), (1000009, .map true [.int .i64, .int .i64] (S.map kkD))] (.ret (.data (.i v))) [(1000001, .cells [.map 1000005]), (1000002, .cells [.map 1000006]), (1000003, .cells [.data (.str p.name), .data (.i p.latency), .data (.i p.tail), .data (.sl 3 (p.params.map Bd.cs)), .data (.sl 3 (p.states.map Bd.cs)), .data (.sl 4 (p.lines.map Ln.cs)), .data (.sl 2 (p.tables.map Tb.cs)), .data (.sl 8 (p.stmts.map Sm.cs))]), (1000004, .cells [.fn 34 [.ptr 1000007 0, .ptr 1000008 0, .ptr 1000003 0]]), (1000005, .map false [.int .i64] (s'.opn.map ibD)), (1000006, .map false [.int .i64] (s'.ages.map iiD)), (1000007, .cells [.fn 35 [.ptr 1000001 0, .ptr 1000002 0, .ptr 1000003 0, .ptr 1000004 0]]), (1000008, .cells [.map 1000009]), (1000009, .map true [.int .i64, .int .i64] (S.map kkD))] := h
theorem yj.call {p : Pr} {S : List (Key × Int)} {s s' : AS} {i : Int} (h : yj p S s i s') : LCall Tryd.prog 35 [.data (.i i), .ptr 1000001 0, .ptr 1000002 0, .ptr 1000003 0, .ptr 1000004 0] [(1000001, .cells [.map 1000005]), (1000002, .cells [.map 1000006]), (1000003, .cells [.data (.str p.name), .data (.i p.latency), .data (.i p.tail), .data (.sl 3 (p.params.map Bd.cs)), .data (.sl 3 (p.states.map Bd.cs)), .data (.sl 4 (p.lines.map Ln.cs)), .data (.sl 2 (p.tables.map Tb.cs)), .data (.sl 8 (p.stmts.map Sm.cs))]), (1000004, .cells [.fn 34 [.ptr 1000007 0, .ptr 1000008 0, .ptr 1000003 0]]), (1000005, .map false [.int .i64] (s.opn.map ibD)), (1000006, .map false [.int .i64] (s.ages.map iiD)), (1000007, .cells [.fn 35 [.ptr 1000001 0, .ptr 1000002 0, .ptr 1000003 0, .ptr 1000004 0]]), (1000008, .cells [.map 1000009]), (1000009, .map true [.int .i64, .int .i64] (S.map kkD))] (.pan (.data (.iface 87 (.agg [])))) [(1000001, .cells [.map 1000005]), (1000002, .cells [.map 1000006]), (1000003, .cells [.data (.str p.name), .data (.i p.latency), .data (.i p.tail), .data (.sl 3 (p.params.map Bd.cs)), .data (.sl 3 (p.states.map Bd.cs)), .data (.sl 4 (p.lines.map Ln.cs)), .data (.sl 2 (p.tables.map Tb.cs)), .data (.sl 8 (p.stmts.map Sm.cs))]), (1000004, .cells [.fn 34 [.ptr 1000007 0, .ptr 1000008 0, .ptr 1000003 0]]), (1000005, .map false [.int .i64] (s'.opn.map ibD)), (1000006, .map false [.int .i64] (s'.ages.map iiD)), (1000007, .cells [.fn 35 [.ptr 1000001 0, .ptr 1000002 0, .ptr 1000003 0, .ptr 1000004 0]]), (1000008, .cells [.map 1000009]), (1000009, .map true [.int .i64, .int .i64] (S.map kkD))] := h
theorem Jr (p : Pr) (S : List (Key × Int)) (f : Nat) (at_ : Int) (x : Ex) (s s' : AS) (v : Int) (hA : ∀ k v t, nS p S f s k = .ok v t → Fe p S s k v t) (hh : pG p S (nS p S f) at_ x s = .ok v s') : LCall Tryd.prog 34 [.data (.i at_), .data x.d, .ptr 1000007 0, .ptr 1000008 0, .ptr 1000003 0] [(1000001, .cells [.map 1000005]), (1000002, .cells [.map 1000006]), (1000003, .cells [.data (.str p.name), .data (.i p.latency), .data (.i p.tail), .data (.sl 3 (p.params.map Bd.cs)), .data (.sl 3 (p.states.map Bd.cs)), .data (.sl 4 (p.lines.map Ln.cs)), .data (.sl 2 (p.tables.map Tb.cs)), .data (.sl 8 (p.stmts.map Sm.cs))]), (1000004, .cells [.fn 34 [.ptr 1000007 0, .ptr 1000008 0, .ptr 1000003 0]]), (1000005, .map false [.int .i64] (s.opn.map ibD)), (1000006, .map false [.int .i64] (s.ages.map iiD)), (1000007, .cells [.fn 35 [.ptr 1000001 0, .ptr 1000002 0, .ptr 1000003 0, .ptr 1000004 0]]), (1000008, .cells [.map 1000009]), (1000009, .map true [.int .i64, .int .i64] (S.map kkD))] (.ret (.data (.i v))) [(1000001, .cells [.map 1000005]), (1000002, .cells [.map 1000006]), (1000003, .cells [.data (.str p.name), .data (.i p.latency), .data (.i p.tail), .data (.sl 3 (p.params.map Bd.cs)), .data (.sl 3 (p.states.map Bd.cs)), .data (.sl 4 (p.lines.map Ln.cs)), .data (.sl 2 (p.tables.map Tb.cs)), .data (.sl 8 (p.stmts.map Sm.cs))]), (1000004, .cells [.fn 34 [.ptr 1000007 0, .ptr 1000008 0, .ptr 1000003 0]]), (1000005, .map false [.int .i64] (s'.opn.map ibD)), (1000006, .map false [.int .i64] (s'.ages.map iiD)), (1000007, .cells [.fn 35 [.ptr 1000001 0, .ptr 1000002 0, .ptr 1000003 0, .ptr 1000004 0]]), (1000008, .cells [.map 1000009]), (1000009, .map true [.int .i64, .int .i64] (S.map kkD))] := by
 refine az tok hmix ⟨[], []⟩ Tryd.func34 rfl (by kernel_rfl) (by kernel_rfl) (by kernel_rfl) fun hf => ?_
 clear hf
 repeat' ((try (conv => whnf)) <;> first
  | ((with_reducible refine RX [(4, 1000003)] ?_ ?_ ?_); kernel_rfl; (with_reducible refine zA ?_ ?_); (refine IP rfl rfl rfl rfl rfl rfl ?_); (repeat ((refine zB ?_ ?_); (first | exact trivial | exact rfl))); (exact DU); (with_reducible exact DT))
  | (refine UU rfl (fun b hb => ?_) (fun hb => ?_))
  | ((with_reducible refine BrI.ff_of ?_ ?_); exact rfl)
  | ((with_reducible refine BrI.tt_of ?_ ?_); exact rfl)
  | (have hq := UX (by assumption) hh; clear hh; have hc := (hA _ _ _ hq).call)
  | (have hq := UY (by assumption) (by assumption) hb (by assumption) hh; clear hh; have hc := (hA _ _ _ hq).call)
  | (have hq0 := UZ (by assumption) (by assumption) hb (by assumption) hh; clear hh; obtain ⟨u, hq, rfl⟩ := Jn hq0; have hc := (hA _ _ _ hq).call)
  | (have hq0 := U1 (by assumption) (by assumption) (by assumption) hb Eb hh; clear hh; have hi8 := hq0.2; obtain ⟨u, hq, rfl⟩ := Jn hq0.1; have hc := (hA _ _ _ hq).call)
  | (have hq0 := U0 (by assumption) (by assumption) hb hh; clear hh; obtain ⟨rfl, rfl⟩ := Qk hq0)
  | (have hq0 := U2 (by assumption) (by assumption) (by assumption) hb hh; clear hh; obtain ⟨rfl, rfl⟩ := Qk hq0)
  | (have hq0 := U3 (by assumption) (by assumption) (by assumption) hh; clear hh; obtain ⟨rfl, rfl⟩ := Qk hq0)
  | with_reducible exact trivial
  | with_reducible refine BrI.intro (fun h => ?_) (fun h => ?_)
  | ((with_reducible refine aH ?_ ?_ ?_ ?_ ?_); exact rfl; exact rfl; rotate_left; exact Ql hi8)
  | ((with_reducible refine lent_step' [(1000001, 1000001), (1000002, 1000002), (1000003, 1000003), (1000004, 1000004), (1000005, 1000005), (1000006, 1000006), (1000007, 1000007), (1000008, 1000008), (1000009, 1000009)] (hc) ?_ ?_ ?_ ?_); rotate_left 0; exact rfl; (exact ⟨rfl, rfl, rfl, rfl, rfl, rfl, rfl, rfl, rfl, trivial⟩); exact rfl)
  | ((with_reducible refine ah ?_); refine fin_step' [(1000001, 1000001), (1000002, 1000002), (1000003, 1000003), (1000004, 1000004), (1000005, 1000005), (1000006, 1000006), (1000007, 1000007), (1000008, 1000008), (1000009, 1000009)] rfl ?_ ?_)
  | (with_reducible refine And.intro ?_ ?_)
  | exact @rfl AV _)
 all_goals first
  | (rfl)
  | skip
theorem Ha (p : Pr) (S : List (Key × Int)) (f : Nat) (at_ : Int) (x : Ex) (s s' : AS) (hA : ∀ k t, nS p S f s k = .pan t → yj p S s k t) (hh : pG p S (nS p S f) at_ x s = .pan s') : LCall Tryd.prog 34 [.data (.i at_), .data x.d, .ptr 1000007 0, .ptr 1000008 0, .ptr 1000003 0] [(1000001, .cells [.map 1000005]), (1000002, .cells [.map 1000006]), (1000003, .cells [.data (.str p.name), .data (.i p.latency), .data (.i p.tail), .data (.sl 3 (p.params.map Bd.cs)), .data (.sl 3 (p.states.map Bd.cs)), .data (.sl 4 (p.lines.map Ln.cs)), .data (.sl 2 (p.tables.map Tb.cs)), .data (.sl 8 (p.stmts.map Sm.cs))]), (1000004, .cells [.fn 34 [.ptr 1000007 0, .ptr 1000008 0, .ptr 1000003 0]]), (1000005, .map false [.int .i64] (s.opn.map ibD)), (1000006, .map false [.int .i64] (s.ages.map iiD)), (1000007, .cells [.fn 35 [.ptr 1000001 0, .ptr 1000002 0, .ptr 1000003 0, .ptr 1000004 0]]), (1000008, .cells [.map 1000009]), (1000009, .map true [.int .i64, .int .i64] (S.map kkD))] (.pan (.data (.iface 87 (.agg [])))) [(1000001, .cells [.map 1000005]), (1000002, .cells [.map 1000006]), (1000003, .cells [.data (.str p.name), .data (.i p.latency), .data (.i p.tail), .data (.sl 3 (p.params.map Bd.cs)), .data (.sl 3 (p.states.map Bd.cs)), .data (.sl 4 (p.lines.map Ln.cs)), .data (.sl 2 (p.tables.map Tb.cs)), .data (.sl 8 (p.stmts.map Sm.cs))]), (1000004, .cells [.fn 34 [.ptr 1000007 0, .ptr 1000008 0, .ptr 1000003 0]]), (1000005, .map false [.int .i64] (s'.opn.map ibD)), (1000006, .map false [.int .i64] (s'.ages.map iiD)), (1000007, .cells [.fn 35 [.ptr 1000001 0, .ptr 1000002 0, .ptr 1000003 0, .ptr 1000004 0]]), (1000008, .cells [.map 1000009]), (1000009, .map true [.int .i64, .int .i64] (S.map kkD))] := by
 refine az tok hmix ⟨[], []⟩ Tryd.func34 rfl (by kernel_rfl) (by kernel_rfl) (by kernel_rfl) fun hf => ?_
 clear hf
 repeat' ((try (conv => whnf)) <;> first
  | ((with_reducible refine Qi [(4, 1000003)] rfl ?_ ?_ ?_); kernel_rfl; (with_reducible refine zA ?_ ?_); (refine IP rfl rfl rfl rfl rfl rfl ?_); (repeat ((refine zB ?_ ?_); (first | exact trivial | exact rfl))); (exact DU); (with_reducible exact DT))
  | (refine UU rfl (fun b hb => ?_) (fun hb => ?_))
  | ((with_reducible refine BrI.ff_of ?_ ?_); exact rfl)
  | ((with_reducible refine BrI.tt_of ?_ ?_); exact rfl)
  | (have hq := UX (by assumption) hh; clear hh; have hc := (hA _ _ hq).call)
  | (have hq := UY (by assumption) (by assumption) hb (by assumption) hh; clear hh; have hc := (hA _ _ hq).call)
  | (have hq := Qj (UZ (by assumption) (by assumption) hb (by assumption) hh); clear hh; have hc := (hA _ _ hq).call)
  | (have hq0 := U1 (by assumption) (by assumption) (by assumption) hb Zh hh; clear hh; have hi8 := hq0.2; have hq := Qj hq0.1; have hc := (hA _ _ hq).call)
  | (exact (EP (U0 (by assumption) (by assumption) hb hh)).elim)
  | (exact (EP (U2 (by assumption) (by assumption) (by assumption) hb hh)).elim)
  | (exact (EP (U3 (by assumption) (by assumption) (by assumption) hh)).elim)
  | with_reducible exact trivial
  | with_reducible refine BrI.intro (fun h => ?_) (fun h => ?_)
  | ((refine rest_step _ _ _ [false, false, false, false, false, false, false, true, true] ?_ ?_); kernel_rfl)
  | ((with_reducible refine quiet_step ?_ ?_); kernel_rfl)
  | ((with_reducible refine aH ?_ ?_ ?_ ?_ ?_); exact rfl; exact rfl; rotate_left; exact Ql hi8)
  | ((with_reducible refine lent_step' [(1000001, 1000001), (1000002, 1000002), (1000003, 1000003), (1000004, 1000004), (1000005, 1000005), (1000006, 1000006), (1000007, 1000007), (1000008, 1000008), (1000009, 1000009)] (hc) ?_ ?_ ?_ ?_); rotate_left 0; exact rfl; (exact ⟨rfl, rfl, rfl, rfl, rfl, rfl, rfl, rfl, rfl, trivial⟩); exact rfl)
  | ((with_reducible refine iC ?_); refine fin_step' [(1000001, 1000001), (1000002, 1000002), (1000003, 1000003), (1000004, 1000004), (1000005, 1000005), (1000006, 1000006), (1000007, 1000007), (1000008, 1000008), (1000009, 1000009)] rfl ?_ ?_)
  | (with_reducible refine And.intro ?_ ?_)
  | exact @rfl Block _)
 all_goals first
  | (rfl)
  | skip
end Go.Proofs.YtogfjinopifenaaDoor
