/- Contracts: package tails: the parts of an expression are yielded. -/
import Derived.Test.YtogfjinopifenaaGreatDoorZTA
import Derived.Test.YtogfjinopifenaaGreatDoorZK6
set_option linter.unusedSectionVars false
set_option linter.unusedSimpArgs false
set_option linter.unusedVariables false
set_option maxHeartbeats 8000000
namespace Go.Proofs.YtogfjinopifenaaGreatDoor
open Go.Fw Go.Fw.Ref15 Go.Fw.Rg Go.Fw.Tl
set_option maxRecDepth 10000
variable [GlobInt]
abbrev YOk(Rf:Nat->RP)(n:Nat)(y:Ex):Prop:=LCall Tryz.prog yldF [.yld 1000000,.data y.d] [(1000000,.rnd (Rf n))] (.ret (.b true)) [(1000000,.rnd (Rf (n+1)))]
abbrev oZ(Rf:Nat->RP)(Re:RP)(d:D)(n:Nat)(y:Ex):Prop:=LCall Tryz.prog yldF [.yld 1000000,.data y.d] [(1000000,.rnd (Rf n))] (.pan (.data d)) [(1000000,.rnd Re)]
theorem gz(x:Ex)(Rf:Nat->RP)(i:Nat)(hy:∀j y,(partsX x)[j]? = some y->YOk Rf (i+j) y):LCall Tryz.prog 34 [.data x.d,.ptr 1000001 0,.ptr 1000002 0] [(1000000,.rnd (Rf i)),(1000001,.cells [.yld 1000000]),(1000002,.cells [.fn 34 [.ptr 1000001 0,.ptr 1000002 0]])] (.ret (.b true)) [(1000000,.rnd (Rf (i+(partsX x).length))),(1000001,.cells [.yld 1000000]),(1000002,.cells [.fn 34 [.ptr 1000001 0,.ptr 1000002 0]])]:=by
 revert i;revert x;refine Ex.ind λx ih i hy=>?_
 refine aP Tryz.func34 λhf=>?_
 have hlen:=Ex.fits (AFits.data (hf (.data x.d) (by simp)))
 clear hf
 repeat' ((try(conv=>whnf))<;>first
  |(have hq:m=i+(partsX x).length:=sub_end hd0 hI0;clear hI0;subst hq)
  |exact trivial
  |exact idx_next hd0 ‹_›
  |refine br_nil_e hd0 ?_
  |refine br_cons_e hd0 ?_
  |refine BrI.intro (λh=>?_) (λh=>?_)
  |(exact Bool.noConfusion (h:false=true))
  |((refine LoopAt.mk 0 ?_);refine⟨rangeL (x.l) 14 (λ(m:(Nat))=>[]) (λ(m:(Nat))=>[(1000000,.rnd (Rf m)),(1000001,.cells [.yld 1000000]),(1000002,.cells [.fn 34 [.ptr 1000001 0,.ptr 1000002 0]]),(3,.cells [.data (.i x.kind),.data (.str x.name),.data (.i x.index),.data (.i x.n),.data (.sl 5 (Ex.css x.l))])]) [2,12,13] (λi0 r0 m=>m=i+(1+(partsL (x.l.take i0)).length)),?_⟩;refine rangeL_rule (i+1) ?_ ?_ (λi0 (m:(Nat)) hd0 hI0=>?_) (λi0 x0 r0 (m:(Nat)) hd0 hl0 hI0=>?_))
  |(refine rangeL_next hd0 (m+(partsX x0).length) ?_ ?_)
  |((refine lent_step' [] (hy 0 x (parts_0 x)) ?_ ?_ ?_ ?_);rotate_left 0;exact rfl;(exact⟨rfl,trivial⟩);exact rfl)
  |((refine lent_step' [(1000000,1000000),(1000001,1000001),(1000002,1000002)] (ih x0 (drop_mem hd0) m (sub_ok hd0 hI0 hy)) ?_ ?_ ?_ ?_);rotate_left 0;exact rfl;(exact⟨rfl,rfl,rfl,trivial⟩);exact rfl)
  |((refine ret_step ?_);refine fin_step' [(1000000,1000000),(1000001,1000001),(1000002,1000002)] rfl ?_ ?_)
  |((refine idx_step ?_ ?_ ?_ ?_ ?_);exact rfl;exact rfl;rotate_left;(exact idx_drop_e hd0))
  |((refine len_step ?_ ?_);exact rfl)
  |(refine And.intro ?_ ?_)
  |exact @rfl AV _
  |fail)
 all_goals first
  |(rfl)
  |((exact sub_next hd0 hI0))
  |skip
theorem jT(x:Ex)(Rf:Nat->RP)(hy:∀j y,(partsX x)[j]? = some y->YOk Rf (0+j) y):LCall Tryz.prog 33 [.yld 1000000,.ptr 1000001 0] [(1000000,.rnd (Rf 0)),(1000001,.cells [.data (.i x.kind),.data (.str x.name),.data (.i x.index),.data (.i x.n),.data (.sl 5 (Ex.css x.l))])] (.ret (.data (.tuple []))) [(1000000,.rnd (Rf (0+(partsX x).length))),(1000001,.cells [.data (.i x.kind),.data (.str x.name),.data (.i x.index),.data (.i x.n),.data (.sl 5 (Ex.css x.l))])]:=by
 refine aF Tryz.func33 ?_
 repeat' ((try(conv=>whnf))<;>first
  |exact trivial
  |((refine lent_step' [(1000000,1000000),(1000001,2),(1000002,3)] (gz x Rf 0 hy) ?_ ?_ ?_ ?_);rotate_left 0;exact rfl;(exact⟨rfl,rfl,rfl,trivial⟩);exact rfl)
  |((refine ret_step ?_);refine fin_step' [(1000000,1000000),(1000001,1000001)] rfl ?_ ?_)
  |(refine And.intro ?_ ?_)
  |fail)
 all_goals first
  |skip
theorem jo(x:Ex)(Rf:Nat->RP)(Re:RP)(d:D)(i q:Nat)(hq:q<(partsX x).length)(hy:∀j y,j<q->(partsX x)[j]? = some y->YOk Rf (i+j) y)(hp:∀y,(partsX x)[q]? = some y->oZ Rf Re d (i+q) y):LCall Tryz.prog 34 [.data x.d,.ptr 1000001 0,.ptr 1000002 0] [(1000000,.rnd (Rf i)),(1000001,.cells [.yld 1000000]),(1000002,.cells [.fn 34 [.ptr 1000001 0,.ptr 1000002 0]])] (.pan (.data d)) [(1000000,.rnd Re),(1000001,.cells [.yld 1000000]),(1000002,.cells [.fn 34 [.ptr 1000001 0,.ptr 1000002 0]])]:=by
 revert q i;revert x;refine Ex.ind λx ih i q hq hy hp=>?_
 refine aP Tryz.func34 λhf=>?_
 have hlen:=Ex.fits (AFits.data (hf (.data x.d) (by simp)))
 have hsp:q=0\/0<q:=by omega
 clear hf
 repeat' ((try(conv=>whnf))<;>first
  |(rcases hsp with rfl |hq0)
  |(exact absurd hq (by have:=sub_end hd0 hI0.1;have:=hI0.2;omega))
  |(obtain⟨hI1,hI2⟩:=hI0;rcases sub_or hd0 hI1 hI2 with hc |⟨t,hqt,ht⟩)
  |exact trivial
  |exact idx_next hd0 ‹_›
  |refine br_cons_e hd0 ?_
  |refine BrI.intro (λh=>?_) (λh=>?_)
  |(exact Bool.noConfusion (h:false=true))
  |((refine LoopAt.mk 0 ?_);refine⟨rangeL (x.l) 14 (λ(m:(Nat))=>[]) (λ(m:(Nat))=>[(1000000,.rnd (Rf m)),(1000001,.cells [.yld 1000000]),(1000002,.cells [.fn 34 [.ptr 1000001 0,.ptr 1000002 0]]),(3,.cells [.data (.i x.kind),.data (.str x.name),.data (.i x.index),.data (.i x.n),.data (.sl 5 (Ex.css x.l))])]) [2,12,13] (λi0 r0 m=>m=i+(1+(partsL (x.l.take i0)).length)/\m<=i+q),?_⟩;refine rangeL_rule (i+1) ?_ ?_ (λi0 (m:(Nat)) hd0 hI0=>?_) (λi0 x0 r0 (m:(Nat)) hd0 hl0 hI0=>?_))
  |(refine rangeL_next hd0 (m+(partsX x0).length) ?_ ?_)
  |((refine lent_step' [] (hp x (parts_0 x)) ?_ ?_ ?_ ?_);rotate_left 0;exact rfl;(exact⟨rfl,trivial⟩);exact rfl)
  |((refine lent_step' [] (hy 0 x hq0 (parts_0 x)) ?_ ?_ ?_ ?_);rotate_left 0;exact rfl;(exact⟨rfl,trivial⟩);exact rfl)
  |((refine lent_step' [(1000000,1000000),(1000001,1000001),(1000002,1000002)] (gz x0 Rf m (sub_okq hd0 hI1 hy hc)) ?_ ?_ ?_ ?_);rotate_left 0;exact rfl;(exact⟨rfl,rfl,rfl,trivial⟩);exact rfl)
  |((refine lent_step' [(1000000,1000000),(1000001,1000001),(1000002,1000002)] (ih x0 (drop_mem hd0) m t ht (sub_pan hd0 hI1 hy hqt) (sub_at hd0 hI1 hp hqt)) ?_ ?_ ?_ ?_);rotate_left 0;exact rfl;(exact⟨rfl,rfl,rfl,trivial⟩);exact rfl)
  |((refine pan_stepA ?_);refine fin_step' [(1000000,1000000),(1000001,1000001),(1000002,1000002)] rfl ?_ ?_)
  |((refine idx_step ?_ ?_ ?_ ?_ ?_);exact rfl;exact rfl;rotate_left;(exact idx_drop_e hd0))
  |((refine len_step ?_ ?_);exact rfl)
  |(refine And.intro ?_ ?_)
  |exact @rfl AV _
  |exact @rfl Block _
  |fail)
 all_goals first
  |(rfl)
  |((exact sub_next hd0 hI1))
  |((exact hc))
  |(omega)
  |skip
theorem jq(x:Ex)(Rf:Nat->RP)(Re:RP)(d:D)(q:Nat)(hq:q<(partsX x).length)(hy:∀j y,j<q->(partsX x)[j]? = some y->YOk Rf (0+j) y)(hp:∀y,(partsX x)[q]? = some y->oZ Rf Re d (0+q) y):LCall Tryz.prog 33 [.yld 1000000,.ptr 1000001 0] [(1000000,.rnd (Rf 0)),(1000001,.cells [.data (.i x.kind),.data (.str x.name),.data (.i x.index),.data (.i x.n),.data (.sl 5 (Ex.css x.l))])] (.pan (.data d)) [(1000000,.rnd Re),(1000001,.cells [.data (.i x.kind),.data (.str x.name),.data (.i x.index),.data (.i x.n),.data (.sl 5 (Ex.css x.l))])]:=by
 refine aF Tryz.func33 ?_
 repeat' ((try(conv=>whnf))<;>first
  |exact trivial
  |((refine lent_step' [(1000000,1000000),(1000001,2),(1000002,3)] (jo x Rf Re d 0 q hq hy hp) ?_ ?_ ?_ ?_);rotate_left 0;exact rfl;(exact⟨rfl,rfl,rfl,trivial⟩);exact rfl)
  |((refine pan_stepA ?_);refine fin_step' [(1000000,1000000),(1000001,1000001)] rfl ?_ ?_)
  |(refine And.intro ?_ ?_)
  |exact @rfl Block _
  |fail)
 all_goals first
  |skip
theorem aW(x:Ex)  : LCall Tryz.prog 20 [.data x.d] [] (.ret (.fn 33 [.ptr 1000000 0])) [(1000000,.cells [.data (.i x.kind),.data (.str x.name),.data (.i x.index),.data (.i x.n),.data (.sl 5 (Ex.css x.l))])]:=by
 refine aF Tryz.func20 ?_
 repeat' ((try(conv=>whnf))<;>first
  |exact trivial
  |((refine ret_step ?_);refine fin_step' [(1000000,1)] rfl ?_ ?_)
  |(refine And.intro ?_ ?_)
  |exact @rfl AV _
  |fail)
 all_goals first
  |skip
abbrev oN(p:Pr)(S:List (Key×Int))(s:AS):Heap:=[(1000001,.cells [.map 1000005]),(1000002,.cells [.map 1000006]),(1000003,.cells [.data (.str p.name),.data (.i p.latency),.data (.i p.tail),.data (.sl 3 (p.params.map Bd.cs)),.data (.sl 3 (p.states.map Bd.cs)),.data (.sl 4 (p.lines.map Ln.cs)),.data (.sl 2 (p.tables.map Tb.cs)),.data (.sl 8 (p.stmts.map Sm.cs))]),(1000004,.cells [.fn 24 [.ptr 1000007 0,.ptr 1000008 0,.ptr 1000003 0]]),(1000005,.map false [.int .i64] (s.opn.map ibD)),(1000006,.map false [.int .i64] (s.ages.map iiD)),(1000007,.cells [.fn 25 [.ptr 1000001 0,.ptr 1000002 0,.ptr 1000003 0,.ptr 1000004 0]]),(1000008,.cells [.map 1000009]),(1000009,.map true [.int .i64,.int .i64] (S.map kkD))]
abbrev nM:D:=.iface 63 (.agg [])
def gB(p:Pr)(S:List (Key×Int))(s:AS)(i v:Int)(s':AS):Prop:=LCall Tryz.prog 25 [.data (.i i),.ptr 1000001 0,.ptr 1000002 0,.ptr 1000003 0,.ptr 1000004 0] (oN p S s) (.ret (.data (.i v))) (oN p S s')
def dA(p:Pr)(S:List (Key×Int))(s:AS)(i:Int)(s':AS):Prop:=LCall Tryz.prog 25 [.data (.i i),.ptr 1000001 0,.ptr 1000002 0,.ptr 1000003 0,.ptr 1000004 0] (oN p S s) (.pan (.data nM)) (oN p S s')
theorem gB.call{p:Pr}{S:List (Key×Int)}{s s':AS}{i v:Int}(h:gB p S s i v s'):LCall Tryz.prog 25 [.data (.i i),.ptr 1000001 0,.ptr 1000002 0,.ptr 1000003 0,.ptr 1000004 0] [(1000001,.cells [.map 1000005]),(1000002,.cells [.map 1000006]),(1000003,.cells [.data (.str p.name),.data (.i p.latency),.data (.i p.tail),.data (.sl 3 (p.params.map Bd.cs)),.data (.sl 3 (p.states.map Bd.cs)),.data (.sl 4 (p.lines.map Ln.cs)),.data (.sl 2 (p.tables.map Tb.cs)),.data (.sl 8 (p.stmts.map Sm.cs))]),(1000004,.cells [.fn 24 [.ptr 1000007 0,.ptr 1000008 0,.ptr 1000003 0]]),(1000005,.map false [.int .i64] (s.opn.map ibD)),(1000006,.map false [.int .i64] (s.ages.map iiD)),(1000007,.cells [.fn 25 [.ptr 1000001 0,.ptr 1000002 0,.ptr 1000003 0,.ptr 1000004 0]]),(1000008,.cells [.map 1000009]),(1000009,.map true [.int .i64,.int .i64] (S.map kkD))] (.ret (.data (.i v))) [(1000001,.cells [.map 1000005]),(1000002,.cells [.map 1000006]),(1000003,.cells [.data (.str p.name),.data (.i p.latency),.data (.i p.tail),.data (.sl 3 (p.params.map Bd.cs)),.data (.sl 3 (p.states.map Bd.cs)),.data (.sl 4 (p.lines.map Ln.cs)),.data (.sl 2 (p.tables.map Tb.cs)),.data (.sl 8 (p.stmts.map Sm.cs))]),(1000004,.cells [.fn 24 [.ptr 1000007 0,.ptr 1000008 0,.ptr 1000003 0]]),(1000005,.map false [.int .i64] (s'.opn.map ibD)),(1000006,.map false [.int .i64] (s'.ages.map iiD)),(1000007,.cells [.fn 25 [.ptr 1000001 0,.ptr 1000002 0,.ptr 1000003 0,.ptr 1000004 0]]),(1000008,.cells [.map 1000009]),(1000009,.map true [.int .i64,.int .i64] (S.map kkD))]:=h
theorem dA.call{p:Pr}{S:List (Key×Int)}{s s':AS}{i:Int}(h:dA p S s i s'):LCall Tryz.prog 25 [.data (.i i),.ptr 1000001 0,.ptr 1000002 0,.ptr 1000003 0,.ptr 1000004 0] [(1000001,.cells [.map 1000005]),(1000002,.cells [.map 1000006]),(1000003,.cells [.data (.str p.name),.data (.i p.latency),.data (.i p.tail),.data (.sl 3 (p.params.map Bd.cs)),.data (.sl 3 (p.states.map Bd.cs)),.data (.sl 4 (p.lines.map Ln.cs)),.data (.sl 2 (p.tables.map Tb.cs)),.data (.sl 8 (p.stmts.map Sm.cs))]),(1000004,.cells [.fn 24 [.ptr 1000007 0,.ptr 1000008 0,.ptr 1000003 0]]),(1000005,.map false [.int .i64] (s.opn.map ibD)),(1000006,.map false [.int .i64] (s.ages.map iiD)),(1000007,.cells [.fn 25 [.ptr 1000001 0,.ptr 1000002 0,.ptr 1000003 0,.ptr 1000004 0]]),(1000008,.cells [.map 1000009]),(1000009,.map true [.int .i64,.int .i64] (S.map kkD))] (.pan (.data (.iface 63 (.agg [])))) [(1000001,.cells [.map 1000005]),(1000002,.cells [.map 1000006]),(1000003,.cells [.data (.str p.name),.data (.i p.latency),.data (.i p.tail),.data (.sl 3 (p.params.map Bd.cs)),.data (.sl 3 (p.states.map Bd.cs)),.data (.sl 4 (p.lines.map Ln.cs)),.data (.sl 2 (p.tables.map Tb.cs)),.data (.sl 8 (p.stmts.map Sm.cs))]),(1000004,.cells [.fn 24 [.ptr 1000007 0,.ptr 1000008 0,.ptr 1000003 0]]),(1000005,.map false [.int .i64] (s'.opn.map ibD)),(1000006,.map false [.int .i64] (s'.ages.map iiD)),(1000007,.cells [.fn 25 [.ptr 1000001 0,.ptr 1000002 0,.ptr 1000003 0,.ptr 1000004 0]]),(1000008,.cells [.map 1000009]),(1000009,.map true [.int .i64,.int .i64] (S.map kkD))]:=h
theorem own_ok(p:Pr)(S:List (Key×Int))(f:Nat)(at_:Int)(x:Ex)(s s':AS)(v:Int)(hA:∀k v t,ageM p S f s k = .ok v t->gB p S s k v t)(hh:ownM p S (ageM p S f) at_ x s = .ok v s'):LCall Tryz.prog 24 [.data (.i at_),.data x.d,.ptr 1000007 0,.ptr 1000008 0,.ptr 1000003 0] [(1000001,.cells [.map 1000005]),(1000002,.cells [.map 1000006]),(1000003,.cells [.data (.str p.name),.data (.i p.latency),.data (.i p.tail),.data (.sl 3 (p.params.map Bd.cs)),.data (.sl 3 (p.states.map Bd.cs)),.data (.sl 4 (p.lines.map Ln.cs)),.data (.sl 2 (p.tables.map Tb.cs)),.data (.sl 8 (p.stmts.map Sm.cs))]),(1000004,.cells [.fn 24 [.ptr 1000007 0,.ptr 1000008 0,.ptr 1000003 0]]),(1000005,.map false [.int .i64] (s.opn.map ibD)),(1000006,.map false [.int .i64] (s.ages.map iiD)),(1000007,.cells [.fn 25 [.ptr 1000001 0,.ptr 1000002 0,.ptr 1000003 0,.ptr 1000004 0]]),(1000008,.cells [.map 1000009]),(1000009,.map true [.int .i64,.int .i64] (S.map kkD))] (.ret (.data (.i v))) [(1000001,.cells [.map 1000005]),(1000002,.cells [.map 1000006]),(1000003,.cells [.data (.str p.name),.data (.i p.latency),.data (.i p.tail),.data (.sl 3 (p.params.map Bd.cs)),.data (.sl 3 (p.states.map Bd.cs)),.data (.sl 4 (p.lines.map Ln.cs)),.data (.sl 2 (p.tables.map Tb.cs)),.data (.sl 8 (p.stmts.map Sm.cs))]),(1000004,.cells [.fn 24 [.ptr 1000007 0,.ptr 1000008 0,.ptr 1000003 0]]),(1000005,.map false [.int .i64] (s'.opn.map ibD)),(1000006,.map false [.int .i64] (s'.ages.map iiD)),(1000007,.cells [.fn 25 [.ptr 1000001 0,.ptr 1000002 0,.ptr 1000003 0,.ptr 1000004 0]]),(1000008,.cells [.map 1000009]),(1000009,.map true [.int .i64,.int .i64] (S.map kkD))]:=by
 refine aF Tryz.func24 ?_
 repeat' ((try(conv=>whnf))<;>first
  |((refine chk_soft [(4,1000003)] ?_ ?_ ?_);kernel_rfl;(refine softL_cons ?_ ?_);(refine soft_one rfl rfl rfl rfl rfl rfl ?_);(repeat((refine cellW_cons ?_ ?_);(first |exact trivial |exact rfl)));(exact cellW_nil);(exact softL_nil))
  |(refine opt_kk rfl (λb hb=>?_) (λhb=>?_))
  |((refine BrI.ff_of ?_ ?_);exact rfl)
  |((refine BrI.tt_of ?_ ?_);exact rfl)
  |(have hq:=own_a5 (by assumption) hh;clear hh;have hc:=(hA _ _ _ hq).call)
  |(have hq:=own_a4 (by assumption) (by assumption) hb (by assumption) hh;clear hh;have hc:=(hA _ _ _ hq).call)
  |(have hq0:=own_b4 (by assumption) (by assumption) hb (by assumption) hh;clear hh;obtain⟨u,hq,rfl⟩:=add_ok hq0;have hc:=(hA _ _ _ hq).call)
  |(have hq0:=own_a8 (by assumption) (by assumption) (by assumption) hb ok_ne hh;clear hh;have hi8:=hq0.2;obtain⟨u,hq,rfl⟩:=add_ok hq0.1;have hc:=(hA _ _ _ hq).call)
  |(have hq0:=own_n4 (by assumption) (by assumption) hb hh;clear hh;obtain⟨rfl,rfl⟩:=ok_inj hq0)
  |(have hq0:=own_n8 (by assumption) (by assumption) (by assumption) hb hh;clear hh;obtain⟨rfl,rfl⟩:=ok_inj hq0)
  |(have hq0:=own_n0 (by assumption) (by assumption) (by assumption) hh;clear hh;obtain⟨rfl,rfl⟩:=ok_inj hq0)
  |exact trivial
  |refine BrI.intro (λh=>?_) (λh=>?_)
  |((refine idx_step ?_ ?_ ?_ ?_ ?_);exact rfl;exact rfl;rotate_left;exact line_at hi8)
  |((refine lent_step' [(1000001,1000001),(1000002,1000002),(1000003,1000003),(1000004,1000004),(1000005,1000005),(1000006,1000006),(1000007,1000007),(1000008,1000008),(1000009,1000009)] (hc) ?_ ?_ ?_ ?_);rotate_left 0;exact rfl;(exact⟨rfl,rfl,rfl,rfl,rfl,rfl,rfl,rfl,rfl,trivial⟩);exact rfl)
  |((refine ret_step ?_);refine fin_step' [(1000001,1000001),(1000002,1000002),(1000003,1000003),(1000004,1000004),(1000005,1000005),(1000006,1000006),(1000007,1000007),(1000008,1000008),(1000009,1000009)] rfl ?_ ?_)
  |(refine And.intro ?_ ?_)
  |exact @rfl AV _
  |fail)
 all_goals first
  |(rfl)
  |skip
theorem own_pan(p:Pr)(S:List (Key×Int))(f:Nat)(at_:Int)(x:Ex)(s s':AS)(hA:∀k t,ageM p S f s k = .pan t->dA p S s k t)(hh:ownM p S (ageM p S f) at_ x s = .pan s'):LCall Tryz.prog 24 [.data (.i at_),.data x.d,.ptr 1000007 0,.ptr 1000008 0,.ptr 1000003 0] [(1000001,.cells [.map 1000005]),(1000002,.cells [.map 1000006]),(1000003,.cells [.data (.str p.name),.data (.i p.latency),.data (.i p.tail),.data (.sl 3 (p.params.map Bd.cs)),.data (.sl 3 (p.states.map Bd.cs)),.data (.sl 4 (p.lines.map Ln.cs)),.data (.sl 2 (p.tables.map Tb.cs)),.data (.sl 8 (p.stmts.map Sm.cs))]),(1000004,.cells [.fn 24 [.ptr 1000007 0,.ptr 1000008 0,.ptr 1000003 0]]),(1000005,.map false [.int .i64] (s.opn.map ibD)),(1000006,.map false [.int .i64] (s.ages.map iiD)),(1000007,.cells [.fn 25 [.ptr 1000001 0,.ptr 1000002 0,.ptr 1000003 0,.ptr 1000004 0]]),(1000008,.cells [.map 1000009]),(1000009,.map true [.int .i64,.int .i64] (S.map kkD))] (.pan (.data (.iface 63 (.agg [])))) [(1000001,.cells [.map 1000005]),(1000002,.cells [.map 1000006]),(1000003,.cells [.data (.str p.name),.data (.i p.latency),.data (.i p.tail),.data (.sl 3 (p.params.map Bd.cs)),.data (.sl 3 (p.states.map Bd.cs)),.data (.sl 4 (p.lines.map Ln.cs)),.data (.sl 2 (p.tables.map Tb.cs)),.data (.sl 8 (p.stmts.map Sm.cs))]),(1000004,.cells [.fn 24 [.ptr 1000007 0,.ptr 1000008 0,.ptr 1000003 0]]),(1000005,.map false [.int .i64] (s'.opn.map ibD)),(1000006,.map false [.int .i64] (s'.ages.map iiD)),(1000007,.cells [.fn 25 [.ptr 1000001 0,.ptr 1000002 0,.ptr 1000003 0,.ptr 1000004 0]]),(1000008,.cells [.map 1000009]),(1000009,.map true [.int .i64,.int .i64] (S.map kkD))]:=by
 refine aF Tryz.func24 ?_
 repeat' ((try(conv=>whnf))<;>first
  |((refine chk_softQ [(4,1000003)] rfl ?_ ?_ ?_);kernel_rfl;(refine softL_cons ?_ ?_);(refine soft_one rfl rfl rfl rfl rfl rfl ?_);(repeat((refine cellW_cons ?_ ?_);(first |exact trivial |exact rfl)));(exact cellW_nil);(exact softL_nil))
  |(refine opt_kk rfl (λb hb=>?_) (λhb=>?_))
  |((refine BrI.ff_of ?_ ?_);exact rfl)
  |((refine BrI.tt_of ?_ ?_);exact rfl)
  |(have hq:=own_a5 (by assumption) hh;clear hh;have hc:=(hA _ _ hq).call)
  |(have hq:=own_a4 (by assumption) (by assumption) hb (by assumption) hh;clear hh;have hc:=(hA _ _ hq).call)
  |(have hq:=add_pan (own_b4 (by assumption) (by assumption) hb (by assumption) hh);clear hh;have hc:=(hA _ _ hq).call)
  |(have hq0:=own_a8 (by assumption) (by assumption) (by assumption) hb pan_ne hh;clear hh;have hi8:=hq0.2;have hq:=add_pan hq0.1;have hc:=(hA _ _ hq).call)
  |(exact(ok_pan (own_n4 (by assumption) (by assumption) hb hh)).elim)
  |(exact(ok_pan (own_n8 (by assumption) (by assumption) (by assumption) hb hh)).elim)
  |(exact(ok_pan (own_n0 (by assumption) (by assumption) (by assumption) hh)).elim)
  |exact trivial
  |refine BrI.intro (λh=>?_) (λh=>?_)
  |((refine rest_step _ _ _ [false,false,false,false,false,false,false,true,true] ?_ ?_);kernel_rfl)
  |((refine quiet_step ?_ ?_);kernel_rfl)
  |((refine idx_step ?_ ?_ ?_ ?_ ?_);exact rfl;exact rfl;rotate_left;exact line_at hi8)
  |((refine lent_step' [(1000001,1000001),(1000002,1000002),(1000003,1000003),(1000004,1000004),(1000005,1000005),(1000006,1000006),(1000007,1000007),(1000008,1000008),(1000009,1000009)] (hc) ?_ ?_ ?_ ?_);rotate_left 0;exact rfl;(exact⟨rfl,rfl,rfl,rfl,rfl,rfl,rfl,rfl,rfl,trivial⟩);exact rfl)
  |((refine pan_stepA ?_);refine fin_step' [(1000001,1000001),(1000002,1000002),(1000003,1000003),(1000004,1000004),(1000005,1000005),(1000006,1000006),(1000007,1000007),(1000008,1000008),(1000009,1000009)] rfl ?_ ?_)
  |(refine And.intro ?_ ?_)
  |exact @rfl Block _
  |fail)
 all_goals first
  |(rfl)
  |skip
theorem nN{g:Bool}{ks:List KS}{l:List (Int×Int)}{k v:Int}:Block.map g ks (mput (.i k) (.i v) (l.map iiD))=Block.map g ks ((putA k v l).map iiD):=by rw[mput_ii]
theorem lF{g:Bool}{ks:List KS}{l:List (Int×Bool)}{k:Int}{v:Bool}:Block.map g ks (mput (.i k) (.b v) (l.map ibD))=Block.map g ks ((putA k v l).map ibD):=by rw[mput_ib]
theorem none_some{α:Type}{x:α}{P:Prop}(h:none=some x):P:=by cases h
theorem dN(x:Ex)(Rf:Nat->RP)(hy:∀j y,(partsX x)[j]? = some y->YOk Rf (0+j) y):LCall Tryz.prog 33 [.yld 1000000,.ptr 1000001 0] [(1000000,.rnd (Rf 0)),(1000001,.cells [.data (.i x.kind),.data (.str x.name),.data (.i x.index),.data (.i x.n),.data (.sl 5 (Ex.css x.l))])] (.ret (.data (.tuple []))) [(1000000,.rnd (Rf (partsX x).length)),(1000001,.cells [.data (.i x.kind),.data (.str x.name),.data (.i x.index),.data (.i x.n),.data (.sl 5 (Ex.css x.l))])]:=by
 have:=jT x Rf hy
 rwa[Nat.zero_add]at this
theorem l9(p:Pr)(S:List (Key×Int))(f:Nat)(i:Int)(s s':AS)(v:Int)(hA:∀s k v t,ageM p S f s k = .ok v t->gB p S s k v t)(hh:ageM p S (f+1) s i = .ok v s'):LCall Tryz.prog 25 [.data (.i i),.ptr 1000001 0,.ptr 1000002 0,.ptr 1000003 0,.ptr 1000004 0] [(1000001,.cells [.map 1000005]),(1000002,.cells [.map 1000006]),(1000003,.cells [.data (.str p.name),.data (.i p.latency),.data (.i p.tail),.data (.sl 3 (p.params.map Bd.cs)),.data (.sl 3 (p.states.map Bd.cs)),.data (.sl 4 (p.lines.map Ln.cs)),.data (.sl 2 (p.tables.map Tb.cs)),.data (.sl 8 (p.stmts.map Sm.cs))]),(1000004,.cells [.fn 24 [.ptr 1000007 0,.ptr 1000008 0,.ptr 1000003 0]]),(1000005,.map false [.int .i64] (s.opn.map ibD)),(1000006,.map false [.int .i64] (s.ages.map iiD)),(1000007,.cells [.fn 25 [.ptr 1000001 0,.ptr 1000002 0,.ptr 1000003 0,.ptr 1000004 0]]),(1000008,.cells [.map 1000009]),(1000009,.map true [.int .i64,.int .i64] (S.map kkD))] (.ret (.data (.i v))) [(1000001,.cells [.map 1000005]),(1000002,.cells [.map 1000006]),(1000003,.cells [.data (.str p.name),.data (.i p.latency),.data (.i p.tail),.data (.sl 3 (p.params.map Bd.cs)),.data (.sl 3 (p.states.map Bd.cs)),.data (.sl 4 (p.lines.map Ln.cs)),.data (.sl 2 (p.tables.map Tb.cs)),.data (.sl 8 (p.stmts.map Sm.cs))]),(1000004,.cells [.fn 24 [.ptr 1000007 0,.ptr 1000008 0,.ptr 1000003 0]]),(1000005,.map false [.int .i64] (s'.opn.map ibD)),(1000006,.map false [.int .i64] (s'.ages.map iiD)),(1000007,.cells [.fn 25 [.ptr 1000001 0,.ptr 1000002 0,.ptr 1000003 0,.ptr 1000004 0]]),(1000008,.cells [.map 1000009]),(1000009,.map true [.int .i64,.int .i64] (S.map kkD))]:=by
 refine aF Tryz.func25 ?_
 repeat' ((try(conv=>whnf))<;>first
  |(refine opt_ib rfl (λb hb=>?_) (λhb=>?_))
  |(refine opt_ii rfl (λn ha=>?_) (λha=>?_))
  |((refine BrI.ff_of ?_ ?_);exact rfl)
  |((refine BrI.tt_of ?_ ?_);exact rfl)
  |(exact(ok_pan (age_no hb (by assumption) hh).symm).elim)
  |(have ho:=age_o1 hb (by assumption);clear hb)
  |(have ho:=age_o2 hb;clear hb)
  |(have hq:=age_memo ho ha hh;clear hh;obtain⟨rfl,rfl⟩:=ok_inj2 hq)
  |(have hq:=age_go ho ha hh;clear hh;obtain⟨hir,hR,rfl,rfl⟩:=hq)
  |((refine idx_step ?_ ?_ ?_ ?_ ?_);exact rfl;exact rfl;rotate_left;exact stm_at hir)
  |((refine RangeAt.mk 33 ?_);refine⟨rfl,⟨[(1,.ptr 1000001 0),(2,.ptr 1000002 0),(3,.ptr 1000003 0),(4,.ptr 1000004 0),(5,.ptr 5 0),(9,.ptr 9 0),(32,.fn 33 [.ptr 800001 0])],[(1000001,.cells [.map 1000005]),(1000002,.cells [.map 1000006]),(1000003,.cells [.data (.str p.name),.data (.i p.latency),.data (.i p.tail),.data (.sl 3 (p.params.map Bd.cs)),.data (.sl 3 (p.states.map Bd.cs)),.data (.sl 4 (p.lines.map Ln.cs)),.data (.sl 2 (p.tables.map Tb.cs)),.data (.sl 8 (p.stmts.map Sm.cs))]),(1000004,.cells [.fn 24 [.ptr 1000007 0,.ptr 1000008 0,.ptr 1000003 0]]),(1000005,.map false [.int .i64] ((⟨s.ages,putA i true s.opn⟩:AS).opn.map ibD)),(1000006,.map false [.int .i64] ((⟨s.ages,putA i true s.opn⟩:AS).ages.map iiD)),(1000007,.cells [.fn 25 [.ptr 1000001 0,.ptr 1000002 0,.ptr 1000003 0,.ptr 1000004 0]]),(1000008,.cells [.map 1000009]),(1000009,.map true [.int .i64,.int .i64] (S.map kkD)),(5,.cells [.data (.i i)]),(9,.cells [.data (.i 0)]),(800001,.cells [.data (.i (stmtX p i).kind),.data (.str (stmtX p i).name),.data (.i (stmtX p i).index),.data (.i (stmtX p i).n),.data (.sl 5 (Ex.css (stmtX p i).l))])],[(1000000,9),(1000010,5),(1000001,1000001),(1000002,1000002),(1000003,1000003),(1000004,1000004),(1000005,1000005),(1000006,1000006),(1000007,1000007),(1000008,1000008),(1000009,1000009)],[(9,.ptr 1000000 0),(4,.ptr 1000004 0),(5,.ptr 1000010 0)],λj=>[(1000000,.cells [.data (.i (ageAt p S f s i j).1)]),(1000010,.cells [.data (.i i)]),(1000001,.cells [.map 1000005]),(1000002,.cells [.map 1000006]),(1000003,.cells [.data (.str p.name),.data (.i p.latency),.data (.i p.tail),.data (.sl 3 (p.params.map Bd.cs)),.data (.sl 3 (p.states.map Bd.cs)),.data (.sl 4 (p.lines.map Ln.cs)),.data (.sl 2 (p.tables.map Tb.cs)),.data (.sl 8 (p.stmts.map Sm.cs))]),(1000004,.cells [.fn 24 [.ptr 1000007 0,.ptr 1000008 0,.ptr 1000003 0]]),(1000005,.map false [.int .i64] ((ageAt p S f s i j).2.opn.map ibD)),(1000006,.map false [.int .i64] ((ageAt p S f s i j).2.ages.map iiD)),(1000007,.cells [.fn 25 [.ptr 1000001 0,.ptr 1000002 0,.ptr 1000003 0,.ptr 1000004 0]]),(1000008,.cells [.map 1000009]),(1000009,.map true [.int .i64,.int .i64] (S.map kkD))],(partsX (stmtX p i)).length,λj=>[((partsX (stmtX p i)).getD j Ex.none).d],900002,none⟩,⟨?_,rfl,rfl,?_,?_,λj hj=>⟨rfl,rfl,?_⟩,λ_ _ e=>none_some e,⟨_,_,rfl,rfl,λRf Re hy hy2=>⟨1000000,[.ptr 1000001 0],[(1000001,.cells [.data (.i (stmtX p i).kind),.data (.str (stmtX p i).name),.data (.i (stmtX p i).index),.data (.i (stmtX p i).n),.data (.sl 5 (Ex.css (stmtX p i).l))])],.data (.tuple []),[(1000001,.cells [.data (.i (stmtX p i).kind),.data (.str (stmtX p i).name),.data (.i (stmtX p i).index),.data (.i (stmtX p i).n),.data (.sl 5 (Ex.css (stmtX p i).l))])],[(1000000,900002),(1000001,800001)],dN (stmtX p i) Rf (λj y hj=>part_yl (P:=λn d=>LCall Tryz.prog yldF [.yld 1000000,.data d] [(1000000,.rnd (Rf n))] (.ret (.b true)) [(1000000,.rnd (Rf (n+1)))]) hy j y (List.getElem?_eq_some_iff.1 hj).1 hj),rfl,?_,rfl,rfl,?_⟩⟩⟩⟩)
  |(have hq:=(hR j hj).ok;clear hj;obtain⟨w,hw1,hw2⟩:=hq)
  |exact trivial
  |refine BrI.intro (λh=>?_) (λh=>?_)
  |((refine lent_step [(1000000,800001)] (aW (stmtX p i)) ?_ ?_ ?_ ?_);rotate_left 0;exact rfl;(exact trivial);exact rfl)
  |((refine lent_step' [(1000001,1000001),(1000002,1000002),(1000003,1000003),(1000004,1000004),(1000005,1000005),(1000006,1000006),(1000007,1000007),(1000008,1000008),(1000009,1000009)] (own_ok p S f i ((partsX (stmtX p i)).getD j Ex.none) (ageAt p S f s i j).2 (ageAt p S f s i (j+1)).2 w (λk v t h=>hA _ k v t h) hw1) ?_ ?_ ?_ ?_);rotate_left 0;exact rfl;(exact⟨rfl,rfl,rfl,rfl,rfl,rfl,rfl,rfl,rfl,trivial⟩);exact rfl)
  |((refine ret_step ?_);refine fin_step' [(1000001,1000001),(1000002,1000002),(1000003,1000003),(1000004,1000004),(1000005,1000005),(1000006,1000006),(1000007,1000007),(1000008,1000008),(1000009,1000009)] rfl ?_ ?_)
  |((refine len_step ?_ ?_);exact rfl)
  |((refine chk_stepP ?_ ?_);kernel_rfl)
  |(refine And.intro ?_ ?_)
  |exact @rfl AV _
  |fail)
 all_goals first
  |(rfl)
  |((exact lF))
  |((exact nN))
  |(((try(conv=>whnf));(exact congrArg (λz=>AV.data (D.i z)) hw2.symm)))
  |skip
theorem mf{s t:AS}(h:AR.pan s = .pan t):t=s:=by cases h;rfl
theorem mg{x:Ex}{Rf:Nat->RP}{Re:RP}{d:D}{k:Nat}(h:LCall Tryz.prog yldF [.yld 1000000,.data ((partsX x).getD k Ex.none).d] [(1000000,.rnd (Rf k))] (.pan (.data d)) [(1000000,.rnd Re)]):∀y,(partsX x)[k]? = some y->oZ Rf Re d (0+k) y:=by
 intro y hy
 rw[List.getD_eq_getElem?_getD,hy]at h
 rw[Nat.zero_add];exact h
theorem kW(p:Pr)(S:List (Key×Int))(f:Nat)(i:Int)(s s':AS)(hA:∀s k v t,ageM p S f s k = .ok v t->gB p S s k v t)(hP:∀s k t,ageM p S f s k = .pan t->dA p S s k t)(hh:ageM p S (f+1) s i = .pan s'):LCall Tryz.prog 25 [.data (.i i),.ptr 1000001 0,.ptr 1000002 0,.ptr 1000003 0,.ptr 1000004 0] [(1000001,.cells [.map 1000005]),(1000002,.cells [.map 1000006]),(1000003,.cells [.data (.str p.name),.data (.i p.latency),.data (.i p.tail),.data (.sl 3 (p.params.map Bd.cs)),.data (.sl 3 (p.states.map Bd.cs)),.data (.sl 4 (p.lines.map Ln.cs)),.data (.sl 2 (p.tables.map Tb.cs)),.data (.sl 8 (p.stmts.map Sm.cs))]),(1000004,.cells [.fn 24 [.ptr 1000007 0,.ptr 1000008 0,.ptr 1000003 0]]),(1000005,.map false [.int .i64] (s.opn.map ibD)),(1000006,.map false [.int .i64] (s.ages.map iiD)),(1000007,.cells [.fn 25 [.ptr 1000001 0,.ptr 1000002 0,.ptr 1000003 0,.ptr 1000004 0]]),(1000008,.cells [.map 1000009]),(1000009,.map true [.int .i64,.int .i64] (S.map kkD))] (.pan (.data (.iface 63 (.agg [])))) [(1000001,.cells [.map 1000005]),(1000002,.cells [.map 1000006]),(1000003,.cells [.data (.str p.name),.data (.i p.latency),.data (.i p.tail),.data (.sl 3 (p.params.map Bd.cs)),.data (.sl 3 (p.states.map Bd.cs)),.data (.sl 4 (p.lines.map Ln.cs)),.data (.sl 2 (p.tables.map Tb.cs)),.data (.sl 8 (p.stmts.map Sm.cs))]),(1000004,.cells [.fn 24 [.ptr 1000007 0,.ptr 1000008 0,.ptr 1000003 0]]),(1000005,.map false [.int .i64] (s'.opn.map ibD)),(1000006,.map false [.int .i64] (s'.ages.map iiD)),(1000007,.cells [.fn 25 [.ptr 1000001 0,.ptr 1000002 0,.ptr 1000003 0,.ptr 1000004 0]]),(1000008,.cells [.map 1000009]),(1000009,.map true [.int .i64,.int .i64] (S.map kkD))]:=by
 refine aF Tryz.func25 ?_
 repeat' ((try(conv=>whnf))<;>first
  |(refine opt_ib rfl (λb hb=>?_) (λhb=>?_))
  |(refine opt_ii rfl (λn ha=>?_) (λha=>?_))
  |((refine BrI.ff_of ?_ ?_);exact rfl)
  |((refine BrI.tt_of ?_ ?_);exact rfl)
  |(have hq:=age_no hb (by assumption) hh;clear hh;obtain rfl:=mf hq;clear hq)
  |(have ho:=age_o1 hb (by assumption);clear hb)
  |(have ho:=age_o2 hb;clear hb)
  |(have hq:=age_memo ho ha hh;exact(ok_pan hq).elim)
  |(have hq:=age_gop ho ha hh;clear hh;obtain⟨hir,k,hk,hR,hW⟩:=hq)
  |((refine idx_step ?_ ?_ ?_ ?_ ?_);exact rfl;exact rfl;rotate_left;exact stm_at hir)
  |((refine RangeAt.mk 33 ?_);refine⟨rfl,⟨[(1,.ptr 1000001 0),(2,.ptr 1000002 0),(3,.ptr 1000003 0),(4,.ptr 1000004 0),(5,.ptr 5 0),(9,.ptr 9 0),(32,.fn 33 [.ptr 800001 0])],[(1000001,.cells [.map 1000005]),(1000002,.cells [.map 1000006]),(1000003,.cells [.data (.str p.name),.data (.i p.latency),.data (.i p.tail),.data (.sl 3 (p.params.map Bd.cs)),.data (.sl 3 (p.states.map Bd.cs)),.data (.sl 4 (p.lines.map Ln.cs)),.data (.sl 2 (p.tables.map Tb.cs)),.data (.sl 8 (p.stmts.map Sm.cs))]),(1000004,.cells [.fn 24 [.ptr 1000007 0,.ptr 1000008 0,.ptr 1000003 0]]),(1000005,.map false [.int .i64] ((⟨s.ages,putA i true s.opn⟩:AS).opn.map ibD)),(1000006,.map false [.int .i64] ((⟨s.ages,putA i true s.opn⟩:AS).ages.map iiD)),(1000007,.cells [.fn 25 [.ptr 1000001 0,.ptr 1000002 0,.ptr 1000003 0,.ptr 1000004 0]]),(1000008,.cells [.map 1000009]),(1000009,.map true [.int .i64,.int .i64] (S.map kkD)),(5,.cells [.data (.i i)]),(9,.cells [.data (.i 0)]),(800001,.cells [.data (.i (stmtX p i).kind),.data (.str (stmtX p i).name),.data (.i (stmtX p i).index),.data (.i (stmtX p i).n),.data (.sl 5 (Ex.css (stmtX p i).l))])],[(1000000,9),(1000010,5),(1000001,1000001),(1000002,1000002),(1000003,1000003),(1000004,1000004),(1000005,1000005),(1000006,1000006),(1000007,1000007),(1000008,1000008),(1000009,1000009)],[(9,.ptr 1000000 0),(4,.ptr 1000004 0),(5,.ptr 1000010 0)],λj=>[(1000000,.cells [.data (.i (ageAt p S f s i j).1)]),(1000010,.cells [.data (.i i)]),(1000001,.cells [.map 1000005]),(1000002,.cells [.map 1000006]),(1000003,.cells [.data (.str p.name),.data (.i p.latency),.data (.i p.tail),.data (.sl 3 (p.params.map Bd.cs)),.data (.sl 3 (p.states.map Bd.cs)),.data (.sl 4 (p.lines.map Ln.cs)),.data (.sl 2 (p.tables.map Tb.cs)),.data (.sl 8 (p.stmts.map Sm.cs))]),(1000004,.cells [.fn 24 [.ptr 1000007 0,.ptr 1000008 0,.ptr 1000003 0]]),(1000005,.map false [.int .i64] ((ageAt p S f s i j).2.opn.map ibD)),(1000006,.map false [.int .i64] ((ageAt p S f s i j).2.ages.map iiD)),(1000007,.cells [.fn 25 [.ptr 1000001 0,.ptr 1000002 0,.ptr 1000003 0,.ptr 1000004 0]]),(1000008,.cells [.map 1000009]),(1000009,.map true [.int .i64,.int .i64] (S.map kkD))],k,λj=>[((partsX (stmtX p i)).getD j Ex.none).d],900002,some (.pan nM,[(1000000,.cells [.data (.i (ageAt p S f s i k).1)]),(1000010,.cells [.data (.i i)]),(1000001,.cells [.map 1000005]),(1000002,.cells [.map 1000006]),(1000003,.cells [.data (.str p.name),.data (.i p.latency),.data (.i p.tail),.data (.sl 3 (p.params.map Bd.cs)),.data (.sl 3 (p.states.map Bd.cs)),.data (.sl 4 (p.lines.map Ln.cs)),.data (.sl 2 (p.tables.map Tb.cs)),.data (.sl 8 (p.stmts.map Sm.cs))]),(1000004,.cells [.fn 24 [.ptr 1000007 0,.ptr 1000008 0,.ptr 1000003 0]]),(1000005,.map false [.int .i64] (s'.opn.map ibD)),(1000006,.map false [.int .i64] (s'.ages.map iiD)),(1000007,.cells [.fn 25 [.ptr 1000001 0,.ptr 1000002 0,.ptr 1000003 0,.ptr 1000004 0]]),(1000008,.cells [.map 1000009]),(1000009,.map true [.int .i64,.int .i64] (S.map kkD))])⟩,⟨?_,rfl,rfl,?_,?_,λj hj=>⟨rfl,rfl,?_⟩,λkk hh ee=>?_,⟨_,_,rfl,rfl,λRf Re hy hy2=>⟨1000000,[.ptr 1000001 0],[(1000001,.cells [.data (.i (stmtX p i).kind),.data (.str (stmtX p i).name),.data (.i (stmtX p i).index),.data (.i (stmtX p i).n),.data (.sl 5 (Ex.css (stmtX p i).l))])],.data (.tuple []),[(1000001,.cells [.data (.i (stmtX p i).kind),.data (.str (stmtX p i).name),.data (.i (stmtX p i).index),.data (.i (stmtX p i).n),.data (.sl 5 (Ex.css (stmtX p i).l))])],[(1000000,900002),(1000001,800001)],jq (stmtX p i) Rf Re nM k hk (λj y hj h=>part_yl (P:=λn d=>LCall Tryz.prog yldF [.yld 1000000,.data d] [(1000000,.rnd (Rf n))] (.ret (.b true)) [(1000000,.rnd (Rf (n+1)))]) hy j y hj h) (mg (hy2 (Option.some_ne_none _))),rfl,?_,rfl,rfl,?_⟩⟩⟩⟩)
  |(cases ee;refine⟨rfl,?_⟩)
  |(have hq:=(hR j hj).ok;clear hj;obtain⟨w,hw1,hw2⟩:=hq)
  |exact trivial
  |refine BrI.intro (λh=>?_) (λh=>?_)
  |((refine rest_step _ _ _ [true,true] ?_ ?_);kernel_rfl)
  |((refine quiet_step ?_ ?_);kernel_rfl)
  |((refine lent_step [(1000000,800001)] (aW (stmtX p i)) ?_ ?_ ?_ ?_);rotate_left 0;exact rfl;(exact trivial);exact rfl)
  |((refine lent_step' [(1000001,1000001),(1000002,1000002),(1000003,1000003),(1000004,1000004),(1000005,1000005),(1000006,1000006),(1000007,1000007),(1000008,1000008),(1000009,1000009)] (own_ok p S f i ((partsX (stmtX p i)).getD j Ex.none) (ageAt p S f s i j).2 (ageAt p S f s i (j+1)).2 w (λk v t h=>hA _ k v t h) hw1) ?_ ?_ ?_ ?_);rotate_left 0;exact rfl;(exact⟨rfl,rfl,rfl,rfl,rfl,rfl,rfl,rfl,rfl,trivial⟩);exact rfl)
  |((refine lent_step' [(1000001,1000001),(1000002,1000002),(1000003,1000003),(1000004,1000004),(1000005,1000005),(1000006,1000006),(1000007,1000007),(1000008,1000008),(1000009,1000009)] (own_pan p S f i ((partsX (stmtX p i)).getD k Ex.none) (ageAt p S f s i k).2 s' (λk t h=>hP _ k t h) hW) ?_ ?_ ?_ ?_);rotate_left 0;exact rfl;(exact⟨rfl,rfl,rfl,rfl,rfl,rfl,rfl,rfl,rfl,trivial⟩);exact rfl)
  |((refine pan_stepA ?_);refine fin_step' [(1000001,1000001),(1000002,1000002),(1000003,1000003),(1000004,1000004),(1000005,1000005),(1000006,1000006),(1000007,1000007),(1000008,1000008),(1000009,1000009)] rfl ?_ ?_)
  |((refine len_step ?_ ?_);exact rfl)
  |((refine chk_stepP ?_ ?_);kernel_rfl)
  |((refine chk_stepQ ?_ ?_);kernel_rfl)
  |(refine And.intro ?_ ?_)
  |exact @rfl AV _
  |exact @rfl Block _
  |fail)
 all_goals first
  |(rfl)
  |((exact lF))
  |(((try(conv=>whnf));(exact congrArg (λz=>AV.data (D.i z)) hw2.symm)))
  |skip
theorem eH(p:Pr)(S:List (Key×Int)):∀(f:Nat) (s:AS) (i:Int),(∀v s',ageM p S f s i = .ok v s'->gB p S s i v s')/\(∀t,ageM p S f s i = .pan t->dA p S s i t)
 | 0,_,_=>⟨λ_ _ h=>(by cases h),λ_ h=>(by cases h)⟩
 |f+1,s,i=>⟨λv s' h=>l9 p S f i s s' v (λs k v t h=>(eH p S f s k).1 v t h) h,λt h=>kW p S f i s t (λs k v t h=>(eH p S f s k).1 v t h) (λs k t h=>(eH p S f s k).2 t h) h⟩
end Go.Proofs.YtogfjinopifenaaGreatDoor
