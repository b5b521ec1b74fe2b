/- Contracts: package tails: the ages of statements. -/
import Derived.Test.YtogfjinopifenaaDoorZTS1
set_option linter.unusedSectionVars false
set_option linter.unusedSimpArgs false
set_option linter.unusedVariables false
set_option maxHeartbeats 4000000
namespace Go.Proofs.YtogfjinopifenaaDoor
open Go.Fw Go.Fw.Ref15 Go.Fw.Rg Go.Fw.Tl
set_option maxRecDepth 10000
variable [af]
abbrev z0w (p : Pr) (S : List (Key × Int)) (s : AS) : Heap := [(1000001, .cells [.map 1000005]), (1000002, .cells [.map 1000006]), (1000003, .cells [.data (.str p.name), .data (.i p.latency), .data (.i p.tail), .data (.sl 3 (p.params.map Bd.cs)), .data (.sl 3 (p.states.map Bd.cs)), .data (.sl 4 (p.lines.map Ln.cs)), .data (.sl 2 (p.tables.map Tb.cs)), .data (.sl 8 (p.stmts.map Sm.cs))]), (1000004, .cells [.fn 34 [.ptr 1000007 0, .ptr 1000008 0, .ptr 1000003 0]]), (1000005, .map false [.int .i64] (s.opn.map ibD)), (1000006, .map false [.int .i64] (s.ages.map iiD)), (1000007, .cells [.fn 35 [.ptr 1000001 0, .ptr 1000002 0, .ptr 1000003 0, .ptr 1000004 0]]), (1000008, .cells [.map 1000009]), (1000009, .map true [.int .i64, .int .i64] (S.map kkD))]
abbrev z0e : D := .iface 87 (.agg [])
def FZ (p : Pr) (S : List (Key × Int)) (s : AS) (i v : Int) (s' : AS) : Prop := aZ Tryd.prog 35 [.data (.i i), .ptr 1000001 0, .ptr 1000002 0, .ptr 1000003 0, .ptr 1000004 0] (z0w p S s) (.ret (.data (.i v))) (z0w p S s')
def yL (p : Pr) (S : List (Key × Int)) (s : AS) (i : Int) (s' : AS) : Prop := aZ Tryd.prog 35 [.data (.i i), .ptr 1000001 0, .ptr 1000002 0, .ptr 1000003 0, .ptr 1000004 0] (z0w p S s) (.pan (.data z0e)) (z0w p S s')
theorem FZ.call {p : Pr} {S : List (Key × Int)} {s s' : AS} {i v : Int} (h : FZ p S s i v s') : aZ Tryd.prog 35 [.data (.i i), .ptr 1000001 0, .ptr 1000002 0, .ptr 1000003 0, .ptr 1000004 0] [(1000001, .cells [.map 1000005]), (1000002, .cells [.map 1000006]), (1000003, .cells [.data (.str p.name), .data (.i p.latency), .data (.i p.tail), .data (.sl 3 (p.params.map Bd.cs)), .data (.sl 3 (p.states.map Bd.cs)), .data (.sl 4 (p.lines.map Ln.cs)), .data (.sl 2 (p.tables.map Tb.cs)), .data (.sl 8 (p.stmts.map Sm.cs))]), (1000004, .cells [.fn 34 [.ptr 1000007 0, .ptr 1000008 0, .ptr 1000003 0]]), (1000005, .map false [.int .i64] (s.opn.map ibD)), (1000006, .map false [.int .i64] (s.ages.map iiD)), (1000007, .cells [.fn 35 [.ptr 1000001 0, .ptr 1000002 0, .ptr 1000003 0, .ptr 1000004 0]]), (1000008, .cells [.map 1000009]), (1000009, .map true [.int .i64, .int .i64] (S.map kkD))] (.ret (.data (.i v))) [(1000001, .cells [.map 1000005]), (1000002, .cells [.map 1000006]), (1000003, .cells [.data (.str p.name), .data (.i p.latency), .data (.i p.tail), .data (.sl 3 (p.params.map Bd.cs)), .data (.sl 3 (p.states.map Bd.cs)), .data (.sl 4 (p.lines.map Ln.cs)), .data (.sl 2 (p.tables.map Tb.cs)), .data (.sl 8 (p.stmts.map Sm.cs))]), (1000004, .cells [.fn 34 [.ptr 1000007 0, .ptr 1000008 0, .ptr 1000003 0]]), (1000005, .map false [.int .i64] (s'.opn.map ibD)), (1000006, .map false [.int .i64] (s'.ages.map iiD)), (1000007, .cells [.fn 35 [.ptr 1000001 0, .ptr 1000002 0, .ptr 1000003 0, .ptr 1000004 0]]), (1000008, .cells [.map 1000009]), (1000009, .map true [.int .i64, .int .i64] (S.map kkD))] := h
theorem yL.call {p : Pr} {S : List (Key × Int)} {s s' : AS} {i : Int} (h : yL p S s i s') : aZ Tryd.prog 35 [.data (.i i), .ptr 1000001 0, .ptr 1000002 0, .ptr 1000003 0, .ptr 1000004 0] [(1000001, .cells [.map 1000005]), (1000002, .cells [.map 1000006]), (1000003, .cells [.data (.str p.name), .data (.i p.latency), .data (.i p.tail), .data (.sl 3 (p.params.map Bd.cs)), .data (.sl 3 (p.states.map Bd.cs)), .data (.sl 4 (p.lines.map Ln.cs)), .data (.sl 2 (p.tables.map Tb.cs)), .data (.sl 8 (p.stmts.map Sm.cs))]), (1000004, .cells [.fn 34 [.ptr 1000007 0, .ptr 1000008 0, .ptr 1000003 0]]), (1000005, .map false [.int .i64] (s.opn.map ibD)), (1000006, .map false [.int .i64] (s.ages.map iiD)), (1000007, .cells [.fn 35 [.ptr 1000001 0, .ptr 1000002 0, .ptr 1000003 0, .ptr 1000004 0]]), (1000008, .cells [.map 1000009]), (1000009, .map true [.int .i64, .int .i64] (S.map kkD))] (.pan (.data (.iface 87 (.agg [])))) [(1000001, .cells [.map 1000005]), (1000002, .cells [.map 1000006]), (1000003, .cells [.data (.str p.name), .data (.i p.latency), .data (.i p.tail), .data (.sl 3 (p.params.map Bd.cs)), .data (.sl 3 (p.states.map Bd.cs)), .data (.sl 4 (p.lines.map Ln.cs)), .data (.sl 2 (p.tables.map Tb.cs)), .data (.sl 8 (p.stmts.map Sm.cs))]), (1000004, .cells [.fn 34 [.ptr 1000007 0, .ptr 1000008 0, .ptr 1000003 0]]), (1000005, .map false [.int .i64] (s'.opn.map ibD)), (1000006, .map false [.int .i64] (s'.ages.map iiD)), (1000007, .cells [.fn 35 [.ptr 1000001 0, .ptr 1000002 0, .ptr 1000003 0, .ptr 1000004 0]]), (1000008, .cells [.map 1000009]), (1000009, .map true [.int .i64, .int .i64] (S.map kkD))] := h
theorem JQ (p : Pr) (S : List (Key × Int)) (f : Nat) (at_ : Int) (x : Ex) (s s' : AS) (v : Int) (hA : ∀ k v t, oI p S f s k = .ok v t → FZ p S s k v t) (hh : qm p S (oI p S f) at_ x s = .ok v s') : aZ Tryd.prog 34 [.data (.i at_), .data x.d, .ptr 1000007 0, .ptr 1000008 0, .ptr 1000003 0] [(1000001, .cells [.map 1000005]), (1000002, .cells [.map 1000006]), (1000003, .cells [.data (.str p.name), .data (.i p.latency), .data (.i p.tail), .data (.sl 3 (p.params.map Bd.cs)), .data (.sl 3 (p.states.map Bd.cs)), .data (.sl 4 (p.lines.map Ln.cs)), .data (.sl 2 (p.tables.map Tb.cs)), .data (.sl 8 (p.stmts.map Sm.cs))]), (1000004, .cells [.fn 34 [.ptr 1000007 0, .ptr 1000008 0, .ptr 1000003 0]]), (1000005, .map false [.int .i64] (s.opn.map ibD)), (1000006, .map false [.int .i64] (s.ages.map iiD)), (1000007, .cells [.fn 35 [.ptr 1000001 0, .ptr 1000002 0, .ptr 1000003 0, .ptr 1000004 0]]), (1000008, .cells [.map 1000009]), (1000009, .map true [.int .i64, .int .i64] (S.map kkD))] (.ret (.data (.i v))) [(1000001, .cells [.map 1000005]), (1000002, .cells [.map 1000006]), (1000003, .cells [.data (.str p.name), .data (.i p.latency), .data (.i p.tail), .data (.sl 3 (p.params.map Bd.cs)), .data (.sl 3 (p.states.map Bd.cs)), .data (.sl 4 (p.lines.map Ln.cs)), .data (.sl 2 (p.tables.map Tb.cs)), .data (.sl 8 (p.stmts.map Sm.cs))]), (1000004, .cells [.fn 34 [.ptr 1000007 0, .ptr 1000008 0, .ptr 1000003 0]]), (1000005, .map false [.int .i64] (s'.opn.map ibD)), (1000006, .map false [.int .i64] (s'.ages.map iiD)), (1000007, .cells [.fn 35 [.ptr 1000001 0, .ptr 1000002 0, .ptr 1000003 0, .ptr 1000004 0]]), (1000008, .cells [.map 1000009]), (1000009, .map true [.int .i64, .int .i64] (S.map kkD))] := by
 refine aB tok hmix ⟨[], []⟩ Tryd.func34 rfl (by kernel_rfl) (by kernel_rfl) (by kernel_rfl) fun hf => ?_
 clear hf
 repeat' ((try (conv => whnf)) <;> first
  | ((with_reducible refine Tu [(4, 1000003)] ?_ ?_ ?_); kernel_rfl; (with_reducible refine zX ?_ ?_); (refine Jn rfl rfl rfl rfl rfl rfl ?_); (repeat ((refine zY ?_ ?_); (first | exact trivial | exact rfl))); (exact Eu); (with_reducible exact Et))
  | (refine Vu rfl (fun b hb => ?_) (fun hb => ?_))
  | ((with_reducible refine BrI.ff_of ?_ ?_); exact rfl)
  | ((with_reducible refine BrI.tt_of ?_ ?_); exact rfl)
  | (have hq := Vy (by assumption) hh; clear hh; have hc := (hA _ _ _ hq).call)
  | (have hq := Vz (by assumption) (by assumption) hb (by assumption) hh; clear hh; have hc := (hA _ _ _ hq).call)
  | (have hq0 := VA (by assumption) (by assumption) hb (by assumption) hh; clear hh; obtain ⟨u, hq, rfl⟩ := J3 hq0; have hc := (hA _ _ _ hq).call)
  | (have hq0 := VC (by assumption) (by assumption) (by assumption) hb EK hh; clear hh; have hi8 := hq0.2; obtain ⟨u, hq, rfl⟩ := J3 hq0.1; have hc := (hA _ _ _ hq).call)
  | (have hq0 := VB (by assumption) (by assumption) hb hh; clear hh; obtain ⟨rfl, rfl⟩ := QL hq0)
  | (have hq0 := VD (by assumption) (by assumption) (by assumption) hb hh; clear hh; obtain ⟨rfl, rfl⟩ := QL hq0)
  | (have hq0 := VE (by assumption) (by assumption) (by assumption) hh; clear hh; obtain ⟨rfl, rfl⟩ := QL hq0)
  | with_reducible exact trivial
  | with_reducible refine BrI.intro (fun h => ?_) (fun h => ?_)
  | ((with_reducible refine aJ ?_ ?_ ?_ ?_ ?_); exact rfl; exact rfl; rotate_left; exact QM hi8)
  | ((with_reducible refine lent_step' [(1000001, 1000001), (1000002, 1000002), (1000003, 1000003), (1000004, 1000004), (1000005, 1000005), (1000006, 1000006), (1000007, 1000007), (1000008, 1000008), (1000009, 1000009)] (hc) ?_ ?_ ?_ ?_); rotate_left 0; exact rfl; (exact ⟨rfl, rfl, rfl, rfl, rfl, rfl, rfl, rfl, rfl, trivial⟩); exact rfl)
  | ((with_reducible refine ai ?_); refine fin_step' [(1000001, 1000001), (1000002, 1000002), (1000003, 1000003), (1000004, 1000004), (1000005, 1000005), (1000006, 1000006), (1000007, 1000007), (1000008, 1000008), (1000009, 1000009)] rfl ?_ ?_)
  | (with_reducible refine And.intro ?_ ?_)
  | exact @rfl AV _
  | fail)
 all_goals first
  | (rfl)
  | skip
theorem Ig (p : Pr) (S : List (Key × Int)) (f : Nat) (at_ : Int) (x : Ex) (s s' : AS) (hA : ∀ k t, oI p S f s k = .pan t → yL p S s k t) (hh : qm p S (oI p S f) at_ x s = .pan s') : aZ Tryd.prog 34 [.data (.i at_), .data x.d, .ptr 1000007 0, .ptr 1000008 0, .ptr 1000003 0] [(1000001, .cells [.map 1000005]), (1000002, .cells [.map 1000006]), (1000003, .cells [.data (.str p.name), .data (.i p.latency), .data (.i p.tail), .data (.sl 3 (p.params.map Bd.cs)), .data (.sl 3 (p.states.map Bd.cs)), .data (.sl 4 (p.lines.map Ln.cs)), .data (.sl 2 (p.tables.map Tb.cs)), .data (.sl 8 (p.stmts.map Sm.cs))]), (1000004, .cells [.fn 34 [.ptr 1000007 0, .ptr 1000008 0, .ptr 1000003 0]]), (1000005, .map false [.int .i64] (s.opn.map ibD)), (1000006, .map false [.int .i64] (s.ages.map iiD)), (1000007, .cells [.fn 35 [.ptr 1000001 0, .ptr 1000002 0, .ptr 1000003 0, .ptr 1000004 0]]), (1000008, .cells [.map 1000009]), (1000009, .map true [.int .i64, .int .i64] (S.map kkD))] (.pan (.data (.iface 87 (.agg [])))) [(1000001, .cells [.map 1000005]), (1000002, .cells [.map 1000006]), (1000003, .cells [.data (.str p.name), .data (.i p.latency), .data (.i p.tail), .data (.sl 3 (p.params.map Bd.cs)), .data (.sl 3 (p.states.map Bd.cs)), .data (.sl 4 (p.lines.map Ln.cs)), .data (.sl 2 (p.tables.map Tb.cs)), .data (.sl 8 (p.stmts.map Sm.cs))]), (1000004, .cells [.fn 34 [.ptr 1000007 0, .ptr 1000008 0, .ptr 1000003 0]]), (1000005, .map false [.int .i64] (s'.opn.map ibD)), (1000006, .map false [.int .i64] (s'.ages.map iiD)), (1000007, .cells [.fn 35 [.ptr 1000001 0, .ptr 1000002 0, .ptr 1000003 0, .ptr 1000004 0]]), (1000008, .cells [.map 1000009]), (1000009, .map true [.int .i64, .int .i64] (S.map kkD))] := by
 refine aB tok hmix ⟨[], []⟩ Tryd.func34 rfl (by kernel_rfl) (by kernel_rfl) (by kernel_rfl) fun hf => ?_
 clear hf
 repeat' ((try (conv => whnf)) <;> first
  | ((with_reducible refine QJ [(4, 1000003)] rfl ?_ ?_ ?_); kernel_rfl; (with_reducible refine zX ?_ ?_); (refine Jn rfl rfl rfl rfl rfl rfl ?_); (repeat ((refine zY ?_ ?_); (first | exact trivial | exact rfl))); (exact Eu); (with_reducible exact Et))
  | (refine Vu rfl (fun b hb => ?_) (fun hb => ?_))
  | ((with_reducible refine BrI.ff_of ?_ ?_); exact rfl)
  | ((with_reducible refine BrI.tt_of ?_ ?_); exact rfl)
  | (have hq := Vy (by assumption) hh; clear hh; have hc := (hA _ _ hq).call)
  | (have hq := Vz (by assumption) (by assumption) hb (by assumption) hh; clear hh; have hc := (hA _ _ hq).call)
  | (have hq := QK (VA (by assumption) (by assumption) hb (by assumption) hh); clear hh; have hc := (hA _ _ hq).call)
  | (have hq0 := VC (by assumption) (by assumption) (by assumption) hb ZQ hh; clear hh; have hi8 := hq0.2; have hq := QK hq0.1; have hc := (hA _ _ hq).call)
  | (exact (Fa (VB (by assumption) (by assumption) hb hh)).elim)
  | (exact (Fa (VD (by assumption) (by assumption) (by assumption) hb hh)).elim)
  | (exact (Fa (VE (by assumption) (by assumption) (by assumption) hh)).elim)
  | with_reducible exact trivial
  | with_reducible refine BrI.intro (fun h => ?_) (fun h => ?_)
  | ((refine rest_step _ _ _ [false, false, false, false, false, false, false, true, true] ?_ ?_); kernel_rfl)
  | ((with_reducible refine quiet_step ?_ ?_); kernel_rfl)
  | ((with_reducible refine aJ ?_ ?_ ?_ ?_ ?_); exact rfl; exact rfl; rotate_left; exact QM hi8)
  | ((with_reducible refine lent_step' [(1000001, 1000001), (1000002, 1000002), (1000003, 1000003), (1000004, 1000004), (1000005, 1000005), (1000006, 1000006), (1000007, 1000007), (1000008, 1000008), (1000009, 1000009)] (hc) ?_ ?_ ?_ ?_); rotate_left 0; exact rfl; (exact ⟨rfl, rfl, rfl, rfl, rfl, rfl, rfl, rfl, rfl, trivial⟩); exact rfl)
  | ((with_reducible refine iK ?_); refine fin_step' [(1000001, 1000001), (1000002, 1000002), (1000003, 1000003), (1000004, 1000004), (1000005, 1000005), (1000006, 1000006), (1000007, 1000007), (1000008, 1000008), (1000009, 1000009)] rfl ?_ ?_)
  | (with_reducible refine And.intro ?_ ?_)
  | exact @rfl Block _
  | fail)
 all_goals first
  | (rfl)
  | skip
end Go.Proofs.YtogfjinopifenaaDoor
