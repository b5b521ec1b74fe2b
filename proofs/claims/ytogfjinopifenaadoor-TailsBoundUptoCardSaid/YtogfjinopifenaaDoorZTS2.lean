/- Contracts: package tails: the ages of statements. -/
import Derived.Test.YtogfjinopifenaaDoorZTS1
set_option linter.unusedSectionVars false
set_option linter.unusedSimpArgs false
set_option linter.unusedVariables false
set_option maxHeartbeats 4000000
namespace Go.Proofs.YtogfjinopifenaaDoor
open Go.Fw Go.Fw.Ref15 Go.Fw.Rg Go.Fw.Tl
set_option maxRecDepth 10000
variable [GlobInt]
abbrev JP (p : Pr) (S : List (Key × Int)) (s : AS) : Heap := [(1000001, .cells [.map 1000005]), (1000002, .cells [.map 1000006]), (1000003, .cells [.data (.str p.name), .data (.i p.latency), .data (.i p.tail), .data (.sl 3 (p.params.map Bd.cs)), .data (.sl 3 (p.states.map Bd.cs)), .data (.sl 4 (p.lines.map Ln.cs)), .data (.sl 2 (p.tables.map Tb.cs)), .data (.sl 8 (p.stmts.map Sm.cs))]), (1000004, .cells [.fn 34 [.ptr 1000007 0, .ptr 1000008 0, .ptr 1000003 0]]), (1000005, .map false [.int .i64] (s.opn.map ibD)), (1000006, .map false [.int .i64] (s.ages.map iiD)), (1000007, .cells [.fn 35 [.ptr 1000001 0, .ptr 1000002 0, .ptr 1000003 0, .ptr 1000004 0]]), (1000008, .cells [.map 1000009]), (1000009, .map true [.int .i64, .int .i64] (S.map kkD))]
abbrev Jz : D := .iface 87 (.agg [])
def uo (p : Pr) (S : List (Key × Int)) (s : AS) (i v : Int) (s' : AS) : Prop := LCall Tryd.prog 35 [.data (.i i), .ptr 1000001 0, .ptr 1000002 0, .ptr 1000003 0, .ptr 1000004 0] (JP p S s) (.ret (.data (.i v))) (JP p S s')
def nC (p : Pr) (S : List (Key × Int)) (s : AS) (i : Int) (s' : AS) : Prop := LCall Tryd.prog 35 [.data (.i i), .ptr 1000001 0, .ptr 1000002 0, .ptr 1000003 0, .ptr 1000004 0] (JP p S s) (.pan (.data Jz)) (JP p S s')
theorem uo.call {p : Pr} {S : List (Key × Int)} {s s' : AS} {i v : Int} (h : uo p S s i v s') : LCall Tryd.prog 35 [.data (.i i), .ptr 1000001 0, .ptr 1000002 0, .ptr 1000003 0, .ptr 1000004 0] [(1000001, .cells [.map 1000005]), (1000002, .cells [.map 1000006]), (1000003, .cells [.data (.str p.name), .data (.i p.latency), .data (.i p.tail), .data (.sl 3 (p.params.map Bd.cs)), .data (.sl 3 (p.states.map Bd.cs)), .data (.sl 4 (p.lines.map Ln.cs)), .data (.sl 2 (p.tables.map Tb.cs)), .data (.sl 8 (p.stmts.map Sm.cs))]), (1000004, .cells [.fn 34 [.ptr 1000007 0, .ptr 1000008 0, .ptr 1000003 0]]), (1000005, .map false [.int .i64] (s.opn.map ibD)), (1000006, .map false [.int .i64] (s.ages.map iiD)), (1000007, .cells [.fn 35 [.ptr 1000001 0, .ptr 1000002 0, .ptr 1000003 0, .ptr 1000004 0]]), (1000008, .cells [.map 1000009]), (1000009, .map true [.int .i64, .int .i64] (S.map kkD))] (.ret (.data (.i v))) [(1000001, .cells [.map 1000005]), (1000002, .cells [.map 1000006]), (1000003, .cells [.data (.str p.name), .data (.i p.latency), .data (.i p.tail), .data (.sl 3 (p.params.map Bd.cs)), .data (.sl 3 (p.states.map Bd.cs)), .data (.sl 4 (p.lines.map Ln.cs)), .data (.sl 2 (p.tables.map Tb.cs)), .data (.sl 8 (p.stmts.map Sm.cs))]), (1000004, .cells [.fn 34 [.ptr 1000007 0, .ptr 1000008 0, .ptr 1000003 0]]), (1000005, .map false [.int .i64] (s'.opn.map ibD)), (1000006, .map false [.int .i64] (s'.ages.map iiD)), (1000007, .cells [.fn 35 [.ptr 1000001 0, .ptr 1000002 0, .ptr 1000003 0, .ptr 1000004 0]]), (1000008, .cells [.map 1000009]), (1000009, .map true [.int .i64, .int .i64] (S.map kkD))] := h
theorem nC.call {p : Pr} {S : List (Key × Int)} {s s' : AS} {i : Int} (h : nC p S s i s') : LCall Tryd.prog 35 [.data (.i i), .ptr 1000001 0, .ptr 1000002 0, .ptr 1000003 0, .ptr 1000004 0] [(1000001, .cells [.map 1000005]), (1000002, .cells [.map 1000006]), (1000003, .cells [.data (.str p.name), .data (.i p.latency), .data (.i p.tail), .data (.sl 3 (p.params.map Bd.cs)), .data (.sl 3 (p.states.map Bd.cs)), .data (.sl 4 (p.lines.map Ln.cs)), .data (.sl 2 (p.tables.map Tb.cs)), .data (.sl 8 (p.stmts.map Sm.cs))]), (1000004, .cells [.fn 34 [.ptr 1000007 0, .ptr 1000008 0, .ptr 1000003 0]]), (1000005, .map false [.int .i64] (s.opn.map ibD)), (1000006, .map false [.int .i64] (s.ages.map iiD)), (1000007, .cells [.fn 35 [.ptr 1000001 0, .ptr 1000002 0, .ptr 1000003 0, .ptr 1000004 0]]), (1000008, .cells [.map 1000009]), (1000009, .map true [.int .i64, .int .i64] (S.map kkD))] (.pan (.data (.iface 87 (.agg [])))) [(1000001, .cells [.map 1000005]), (1000002, .cells [.map 1000006]), (1000003, .cells [.data (.str p.name), .data (.i p.latency), .data (.i p.tail), .data (.sl 3 (p.params.map Bd.cs)), .data (.sl 3 (p.states.map Bd.cs)), .data (.sl 4 (p.lines.map Ln.cs)), .data (.sl 2 (p.tables.map Tb.cs)), .data (.sl 8 (p.stmts.map Sm.cs))]), (1000004, .cells [.fn 34 [.ptr 1000007 0, .ptr 1000008 0, .ptr 1000003 0]]), (1000005, .map false [.int .i64] (s'.opn.map ibD)), (1000006, .map false [.int .i64] (s'.ages.map iiD)), (1000007, .cells [.fn 35 [.ptr 1000001 0, .ptr 1000002 0, .ptr 1000003 0, .ptr 1000004 0]]), (1000008, .cells [.map 1000009]), (1000009, .map true [.int .i64, .int .i64] (S.map kkD))] := h
theorem wP (p : Pr) (S : List (Key × Int)) (f : Nat) (at_ : Int) (x : Ex) (s s' : AS) (v : Int) (hA : ∀ k v t, jh p S f s k = .ok v t → uo p S s k v t) (hh : jw p S (jh p S f) at_ x s = .ok v s') : LCall Tryd.prog 34 [.data (.i at_), .data x.d, .ptr 1000007 0, .ptr 1000008 0, .ptr 1000003 0] [(1000001, .cells [.map 1000005]), (1000002, .cells [.map 1000006]), (1000003, .cells [.data (.str p.name), .data (.i p.latency), .data (.i p.tail), .data (.sl 3 (p.params.map Bd.cs)), .data (.sl 3 (p.states.map Bd.cs)), .data (.sl 4 (p.lines.map Ln.cs)), .data (.sl 2 (p.tables.map Tb.cs)), .data (.sl 8 (p.stmts.map Sm.cs))]), (1000004, .cells [.fn 34 [.ptr 1000007 0, .ptr 1000008 0, .ptr 1000003 0]]), (1000005, .map false [.int .i64] (s.opn.map ibD)), (1000006, .map false [.int .i64] (s.ages.map iiD)), (1000007, .cells [.fn 35 [.ptr 1000001 0, .ptr 1000002 0, .ptr 1000003 0, .ptr 1000004 0]]), (1000008, .cells [.map 1000009]), (1000009, .map true [.int .i64, .int .i64] (S.map kkD))] (.ret (.data (.i v))) [(1000001, .cells [.map 1000005]), (1000002, .cells [.map 1000006]), (1000003, .cells [.data (.str p.name), .data (.i p.latency), .data (.i p.tail), .data (.sl 3 (p.params.map Bd.cs)), .data (.sl 3 (p.states.map Bd.cs)), .data (.sl 4 (p.lines.map Ln.cs)), .data (.sl 2 (p.tables.map Tb.cs)), .data (.sl 8 (p.stmts.map Sm.cs))]), (1000004, .cells [.fn 34 [.ptr 1000007 0, .ptr 1000008 0, .ptr 1000003 0]]), (1000005, .map false [.int .i64] (s'.opn.map ibD)), (1000006, .map false [.int .i64] (s'.ages.map iiD)), (1000007, .cells [.fn 35 [.ptr 1000001 0, .ptr 1000002 0, .ptr 1000003 0, .ptr 1000004 0]]), (1000008, .cells [.map 1000009]), (1000009, .map true [.int .i64, .int .i64] (S.map kkD))] := by
 refine lcall_of_wc tok hmix ⟨[], []⟩ Tryd.func34 rfl (by kernel_rfl) (by kernel_rfl) (by kernel_rfl) fun hf => ?_
 clear hf
 repeat' ((try (conv => whnf)) <;> first
  | ((with_reducible refine BU [(4, 1000003)] ?_ ?_ ?_); kernel_rfl; (with_reducible refine nV ?_ ?_); (refine vJ rfl rfl rfl rfl rfl rfl ?_); (repeat ((refine nX ?_ ?_); (first | exact trivial | exact rfl))); (exact qX); (with_reducible exact qW))
  | (refine EE rfl (fun b hb => ?_) (fun hb => ?_))
  | ((with_reducible refine BrI.ff_of ?_ ?_); exact rfl)
  | ((with_reducible refine BrI.tt_of ?_ ?_); exact rfl)
  | (have hq := EH (by assumption) hh; clear hh; have hc := (hA _ _ _ hq).call)
  | (have hq := EI (by assumption) (by assumption) hb (by assumption) hh; clear hh; have hc := (hA _ _ _ hq).call)
  | (have hq0 := EJ (by assumption) (by assumption) hb (by assumption) hh; clear hh; obtain ⟨u, hq, rfl⟩ := wZ hq0; have hc := (hA _ _ _ hq).call)
  | (have hq0 := EL (by assumption) (by assumption) (by assumption) hb rJ hh; clear hh; have hi8 := hq0.2; obtain ⟨u, hq, rfl⟩ := wZ hq0.1; have hc := (hA _ _ _ hq).call)
  | (have hq0 := EK (by assumption) (by assumption) hb hh; clear hh; obtain ⟨rfl, rfl⟩ := AX hq0)
  | (have hq0 := EM (by assumption) (by assumption) (by assumption) hb hh; clear hh; obtain ⟨rfl, rfl⟩ := AX hq0)
  | (have hq0 := EN (by assumption) (by assumption) (by assumption) hh; clear hh; obtain ⟨rfl, rfl⟩ := AX hq0)
  | with_reducible exact trivial
  | with_reducible refine BrI.intro (fun h => ?_) (fun h => ?_)
  | ((with_reducible refine aB ?_ ?_ ?_ ?_ ?_); exact rfl; exact rfl; rotate_left; exact AY hi8)
  | ((with_reducible refine lent_step' [(1000001, 1000001), (1000002, 1000002), (1000003, 1000003), (1000004, 1000004), (1000005, 1000005), (1000006, 1000006), (1000007, 1000007), (1000008, 1000008), (1000009, 1000009)] (hc) ?_ ?_ ?_ ?_); rotate_left 0; exact rfl; (exact ⟨rfl, rfl, rfl, rfl, rfl, rfl, rfl, rfl, rfl, trivial⟩); exact rfl)
  | ((with_reducible refine ag ?_); refine fin_step' [(1000001, 1000001), (1000002, 1000002), (1000003, 1000003), (1000004, 1000004), (1000005, 1000005), (1000006, 1000006), (1000007, 1000007), (1000008, 1000008), (1000009, 1000009)] rfl ?_ ?_)
  | (with_reducible refine And.intro ?_ ?_)
  | exact @rfl AV _
  | fail)
 all_goals first
  | (rfl)
  | skip
theorem uU (p : Pr) (S : List (Key × Int)) (f : Nat) (at_ : Int) (x : Ex) (s s' : AS) (hA : ∀ k t, jh p S f s k = .pan t → nC p S s k t) (hh : jw p S (jh p S f) at_ x s = .pan s') : LCall Tryd.prog 34 [.data (.i at_), .data x.d, .ptr 1000007 0, .ptr 1000008 0, .ptr 1000003 0] [(1000001, .cells [.map 1000005]), (1000002, .cells [.map 1000006]), (1000003, .cells [.data (.str p.name), .data (.i p.latency), .data (.i p.tail), .data (.sl 3 (p.params.map Bd.cs)), .data (.sl 3 (p.states.map Bd.cs)), .data (.sl 4 (p.lines.map Ln.cs)), .data (.sl 2 (p.tables.map Tb.cs)), .data (.sl 8 (p.stmts.map Sm.cs))]), (1000004, .cells [.fn 34 [.ptr 1000007 0, .ptr 1000008 0, .ptr 1000003 0]]), (1000005, .map false [.int .i64] (s.opn.map ibD)), (1000006, .map false [.int .i64] (s.ages.map iiD)), (1000007, .cells [.fn 35 [.ptr 1000001 0, .ptr 1000002 0, .ptr 1000003 0, .ptr 1000004 0]]), (1000008, .cells [.map 1000009]), (1000009, .map true [.int .i64, .int .i64] (S.map kkD))] (.pan (.data (.iface 87 (.agg [])))) [(1000001, .cells [.map 1000005]), (1000002, .cells [.map 1000006]), (1000003, .cells [.data (.str p.name), .data (.i p.latency), .data (.i p.tail), .data (.sl 3 (p.params.map Bd.cs)), .data (.sl 3 (p.states.map Bd.cs)), .data (.sl 4 (p.lines.map Ln.cs)), .data (.sl 2 (p.tables.map Tb.cs)), .data (.sl 8 (p.stmts.map Sm.cs))]), (1000004, .cells [.fn 34 [.ptr 1000007 0, .ptr 1000008 0, .ptr 1000003 0]]), (1000005, .map false [.int .i64] (s'.opn.map ibD)), (1000006, .map false [.int .i64] (s'.ages.map iiD)), (1000007, .cells [.fn 35 [.ptr 1000001 0, .ptr 1000002 0, .ptr 1000003 0, .ptr 1000004 0]]), (1000008, .cells [.map 1000009]), (1000009, .map true [.int .i64, .int .i64] (S.map kkD))] := by
 refine lcall_of_wc tok hmix ⟨[], []⟩ Tryd.func34 rfl (by kernel_rfl) (by kernel_rfl) (by kernel_rfl) fun hf => ?_
 clear hf
 repeat' ((try (conv => whnf)) <;> first
  | ((with_reducible refine AQ [(4, 1000003)] rfl ?_ ?_ ?_); kernel_rfl; (with_reducible refine nV ?_ ?_); (refine vJ rfl rfl rfl rfl rfl rfl ?_); (repeat ((refine nX ?_ ?_); (first | exact trivial | exact rfl))); (exact qX); (with_reducible exact qW))
  | (refine EE rfl (fun b hb => ?_) (fun hb => ?_))
  | ((with_reducible refine BrI.ff_of ?_ ?_); exact rfl)
  | ((with_reducible refine BrI.tt_of ?_ ?_); exact rfl)
  | (have hq := EH (by assumption) hh; clear hh; have hc := (hA _ _ hq).call)
  | (have hq := EI (by assumption) (by assumption) hb (by assumption) hh; clear hh; have hc := (hA _ _ hq).call)
  | (have hq := AU (EJ (by assumption) (by assumption) hb (by assumption) hh); clear hh; have hc := (hA _ _ hq).call)
  | (have hq0 := EL (by assumption) (by assumption) (by assumption) hb Jg hh; clear hh; have hi8 := hq0.2; have hq := AU hq0.1; have hc := (hA _ _ hq).call)
  | (exact (sK (EK (by assumption) (by assumption) hb hh)).elim)
  | (exact (sK (EM (by assumption) (by assumption) (by assumption) hb hh)).elim)
  | (exact (sK (EN (by assumption) (by assumption) (by assumption) hh)).elim)
  | with_reducible exact trivial
  | with_reducible refine BrI.intro (fun h => ?_) (fun h => ?_)
  | ((refine rest_step _ _ _ [false, false, false, false, false, false, false, true, true] ?_ ?_); kernel_rfl)
  | ((with_reducible refine quiet_step ?_ ?_); kernel_rfl)
  | ((with_reducible refine aB ?_ ?_ ?_ ?_ ?_); exact rfl; exact rfl; rotate_left; exact AY hi8)
  | ((with_reducible refine lent_step' [(1000001, 1000001), (1000002, 1000002), (1000003, 1000003), (1000004, 1000004), (1000005, 1000005), (1000006, 1000006), (1000007, 1000007), (1000008, 1000008), (1000009, 1000009)] (hc) ?_ ?_ ?_ ?_); rotate_left 0; exact rfl; (exact ⟨rfl, rfl, rfl, rfl, rfl, rfl, rfl, rfl, rfl, trivial⟩); exact rfl)
  | ((with_reducible refine dN ?_); refine fin_step' [(1000001, 1000001), (1000002, 1000002), (1000003, 1000003), (1000004, 1000004), (1000005, 1000005), (1000006, 1000006), (1000007, 1000007), (1000008, 1000008), (1000009, 1000009)] rfl ?_ ?_)
  | (with_reducible refine And.intro ?_ ?_)
  | exact @rfl Block _
  | fail)
 all_goals first
  | (rfl)
  | skip
end Go.Proofs.YtogfjinopifenaaDoor
