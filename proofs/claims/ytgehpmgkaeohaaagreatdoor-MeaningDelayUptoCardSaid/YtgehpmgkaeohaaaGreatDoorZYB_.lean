/- A part of the proof. -/
import Derived.Test.YtgehpmgkaeohaaaGreatDoorZTA
import Derived.Test.YtgehpmgkaeohaaaGreatDoorZK6
set_option linter.all false
set_option maxHeartbeats 8000000
namespace Go.Proofs.YtgehpmgkaeohaaaGreatDoor
open Go.Fw Go.Fw.Ref15 Go.Fw.Rg Go.Fw.Tl
set_option maxRecDepth 10000
variable [ae]
abbrev YOk(Rf:Nat->RP)(n:Nat)(y:Ex):Prop:=aj Tryz.prog xR [.yld 1000000,.data y.d] [(1000000,.rnd (Rf n))] (.ret (.b true)) [(1000000,.rnd (Rf (n+1)))]
abbrev zgq(Rf:Nat->RP)(Re:RP)(d:D)(n:Nat)(y:Ex):Prop:=aj Tryz.prog xR [.yld 1000000,.data y.d] [(1000000,.rnd (Rf n))] (.pan (.data d)) [(1000000,.rnd Re)]
theorem J4(x:Ex)(Rf:Nat->RP)(i:Nat)(hy:∀j y,(au x)[j]? = some y->YOk Rf (i+j) y):aj Tryz.prog 93 [.data x.d,.ptr 1000001 0,.ptr 1000002 0] [(1000000,.rnd (Rf i)),(1000001,.cells [.yld 1000000]),(1000002,.cells [.fn 93 [.ptr 1000001 0,.ptr 1000002 0]])] (.ret (.b true)) [(1000000,.rnd (Rf (i+(au x).length))),(1000001,.cells [.yld 1000000]),(1000002,.cells [.fn 93 [.ptr 1000001 0,.ptr 1000002 0]])]:=by
 revert i;revert x;refine Ex.ind λx ih i hy=>?_
 refine o7 Tryz.func93 λhf=>?_
 have hlen:=Ex.fits (wZ.data (hf (.data x.d) (by simp)))
 clear hf
 repeat' ((try conv=>whnf)<;>first
  |(have hq:m=i+(au x).length:=WA hd0 hI0;clear hI0;subst hq)
  |exact trivial
  |exact ai hd0 ‹_›
  |refine kF hd0 ?_
  |refine iD hd0 ?_
  |refine BrI.intro (λh=>?_) (λh=>?_)
  |exact Bool.noConfusion (h:false=true)
  |((refine ax.mk 0 ?_);refine⟨aJ (x.l) 14 (λ(m:(Nat))=>[]) (λ(m:(Nat))=>[(1000000,.rnd (Rf m)),(1000001,.cells [.yld 1000000]),(1000002,.cells [.fn 93 [.ptr 1000001 0,.ptr 1000002 0]]),(3,.cells [.data (.i x.kind),.data (.str x.name),.data (.i x.index),.data (.i x.n),.data (.sl 5 (Ex.css x.l))])]) [2,12,13] (λi0 r0 m=>m=i+(1+(dQ (x.l.take i0)).length)),?_⟩;refine af (i+1) ?_ ?_ (λi0 (m:(Nat)) hd0 hI0=>?_) (λi0 x0 r0 (m:(Nat)) hd0 hl0 hI0=>?_))
  |refine ag hd0 (m+(au x0).length) ?_ ?_
  |((refine lent_step' [] (hy 0 x (MP x)) ?_ ?_ ?_ ?_);rotate_left 0;exact rfl;(exact⟨rfl,trivial⟩);exact rfl)
  |((refine lent_step' [(1000000,1000000),(1000001,1000001),(1000002,1000002)] (ih x0 (bK hd0) m (zcv hd0 hI0 hy)) ?_ ?_ ?_ ?_);rotate_left 0;exact rfl;(exact⟨rfl,rfl,rfl,trivial⟩);exact rfl)
  |((refine bg ?_);refine fin_step' [(1000000,1000000),(1000001,1000001),(1000002,1000002)] rfl ?_ ?_)
  |((refine aH ?_ ?_ ?_ ?_ ?_);exact rfl;exact rfl;rotate_left;exact fO hd0)
  |refine pF ?_
  |refine And.intro ?_ ?_
  |exact @rfl AV _
  |fail)
 all_goals first
  |rfl
  |exact Pz hd0 hI0
theorem XI(x:Ex)(Rf:Nat->RP)(hy:∀j y,(au x)[j]? = some y->YOk Rf (0+j) y):aj Tryz.prog 92 [.yld 1000000,.ptr 1000001 0] [(1000000,.rnd (Rf 0)),(1000001,.cells [.data (.i x.kind),.data (.str x.name),.data (.i x.index),.data (.i x.n),.data (.sl 5 (Ex.css x.l))])] (.ret (.data (.tuple []))) [(1000000,.rnd (Rf (0+(au x).length))),(1000001,.cells [.data (.i x.kind),.data (.str x.name),.data (.i x.index),.data (.i x.n),.data (.sl 5 (Ex.css x.l))])]:=by
 refine aS Tryz.func92 ?_
 repeat' ((try conv=>whnf)<;>first
  |exact trivial
  |((refine lent_step' [(1000000,1000000),(1000001,2),(1000002,3)] (J4 x Rf 0 hy) ?_ ?_ ?_ ?_);rotate_left 0;exact rfl;(exact⟨rfl,rfl,rfl,trivial⟩);exact rfl)
  |((refine bg ?_);refine fin_step' [(1000000,1000000),(1000001,1000001)] rfl ?_ ?_)
  |refine And.intro ?_ ?_
  |fail)
theorem S9(x:Ex)(Rf:Nat->RP)(Re:RP)(d:D)(i q:Nat)(hq:q<(au x).length)(hy:∀j y,j<q->(au x)[j]? = some y->YOk Rf (i+j) y)(hp:∀y,(au x)[q]? = some y->zgq Rf Re d (i+q) y):aj Tryz.prog 93 [.data x.d,.ptr 1000001 0,.ptr 1000002 0] [(1000000,.rnd (Rf i)),(1000001,.cells [.yld 1000000]),(1000002,.cells [.fn 93 [.ptr 1000001 0,.ptr 1000002 0]])] (.pan (.data d)) [(1000000,.rnd Re),(1000001,.cells [.yld 1000000]),(1000002,.cells [.fn 93 [.ptr 1000001 0,.ptr 1000002 0]])]:=by
 revert q i;revert x;refine Ex.ind λx ih i q hq hy hp=>?_
 refine o7 Tryz.func93 λhf=>?_
 have hlen:=Ex.fits (wZ.data (hf (.data x.d) (by simp)))
 have hsp:q=0\/0<q:=by omega
 clear hf
 repeat' ((try conv=>whnf)<;>first
  |(rcases hsp with rfl |hq0)
  |exact absurd hq (by have:=WA hd0 hI0.1;have:=hI0.2;omega)
  |(obtain⟨hI1,hI2⟩:=hI0;rcases zcw hd0 hI1 hI2 with hc |⟨t,hqt,ht⟩)
  |exact trivial
  |exact ai hd0 ‹_›
  |refine iD hd0 ?_
  |refine BrI.intro (λh=>?_) (λh=>?_)
  |exact Bool.noConfusion (h:false=true)
  |((refine ax.mk 0 ?_);refine⟨aJ (x.l) 14 (λ(m:(Nat))=>[]) (λ(m:(Nat))=>[(1000000,.rnd (Rf m)),(1000001,.cells [.yld 1000000]),(1000002,.cells [.fn 93 [.ptr 1000001 0,.ptr 1000002 0]]),(3,.cells [.data (.i x.kind),.data (.str x.name),.data (.i x.index),.data (.i x.n),.data (.sl 5 (Ex.css x.l))])]) [2,12,13] (λi0 r0 m=>m=i+(1+(dQ (x.l.take i0)).length)/\m<=i+q),?_⟩;refine af (i+1) ?_ ?_ (λi0 (m:(Nat)) hd0 hI0=>?_) (λi0 x0 r0 (m:(Nat)) hd0 hl0 hI0=>?_))
  |refine ag hd0 (m+(au x0).length) ?_ ?_
  |((refine lent_step' [] (hp x (MP x)) ?_ ?_ ?_ ?_);rotate_left 0;exact rfl;(exact⟨rfl,trivial⟩);exact rfl)
  |((refine lent_step' [] (hy 0 x hq0 (MP x)) ?_ ?_ ?_ ?_);rotate_left 0;exact rfl;(exact⟨rfl,trivial⟩);exact rfl)
  |((refine lent_step' [(1000000,1000000),(1000001,1000001),(1000002,1000002)] (J4 x0 Rf m (z7g hd0 hI1 hy hc)) ?_ ?_ ?_ ?_);rotate_left 0;exact rfl;(exact⟨rfl,rfl,rfl,trivial⟩);exact rfl)
  |((refine lent_step' [(1000000,1000000),(1000001,1000001),(1000002,1000002)] (ih x0 (bK hd0) m t ht (z7h hd0 hI1 hy hqt) (zcx hd0 hI1 hp hqt)) ?_ ?_ ?_ ?_);rotate_left 0;exact rfl;(exact⟨rfl,rfl,rfl,trivial⟩);exact rfl)
  |((refine dw ?_);refine fin_step' [(1000000,1000000),(1000001,1000001),(1000002,1000002)] rfl ?_ ?_)
  |((refine aH ?_ ?_ ?_ ?_ ?_);exact rfl;exact rfl;rotate_left;exact fO hd0)
  |refine pF ?_
  |refine And.intro ?_ ?_
  |exact @rfl AV _
  |exact @rfl Block _
  |fail)
 all_goals first
  |rfl
  |exact Pz hd0 hI1
  |exact hc
  |omega
theorem Tc(x:Ex)(Rf:Nat->RP)(Re:RP)(d:D)(q:Nat)(hq:q<(au x).length)(hy:∀j y,j<q->(au x)[j]? = some y->YOk Rf (0+j) y)(hp:∀y,(au x)[q]? = some y->zgq Rf Re d (0+q) y):aj Tryz.prog 92 [.yld 1000000,.ptr 1000001 0] [(1000000,.rnd (Rf 0)),(1000001,.cells [.data (.i x.kind),.data (.str x.name),.data (.i x.index),.data (.i x.n),.data (.sl 5 (Ex.css x.l))])] (.pan (.data d)) [(1000000,.rnd Re),(1000001,.cells [.data (.i x.kind),.data (.str x.name),.data (.i x.index),.data (.i x.n),.data (.sl 5 (Ex.css x.l))])]:=by
 refine aS Tryz.func92 ?_
 repeat' ((try conv=>whnf)<;>first
  |exact trivial
  |((refine lent_step' [(1000000,1000000),(1000001,2),(1000002,3)] (S9 x Rf Re d 0 q hq hy hp) ?_ ?_ ?_ ?_);rotate_left 0;exact rfl;(exact⟨rfl,rfl,rfl,trivial⟩);exact rfl)
  |((refine dw ?_);refine fin_step' [(1000000,1000000),(1000001,1000001)] rfl ?_ ?_)
  |refine And.intro ?_ ?_
  |exact @rfl Block _
  |fail)
theorem um(x:Ex)  : aj Tryz.prog 48 [.data x.d] [] (.ret (.fn 92 [.ptr 1000000 0])) [(1000000,.cells [.data (.i x.kind),.data (.str x.name),.data (.i x.index),.data (.i x.n),.data (.sl 5 (Ex.css x.l))])]:=by
 refine aS Tryz.func48 ?_
 repeat' ((try conv=>whnf)<;>first
  |exact trivial
  |((refine bg ?_);refine fin_step' [(1000000,1)] rfl ?_ ?_)
  |refine And.intro ?_ ?_
  |exact @rfl AV _
  |fail)
abbrev zfo(p:Pr)(S:List (Key×Int))(s:AS):Heap:=[(1000001,.cells [.map 1000005]),(1000002,.cells [.map 1000006]),(1000003,.cells [.data (.str p.name),.data (.i p.latency),.data (.i p.tail),.data (.sl 3 (p.params.map Bd.cs)),.data (.sl 3 (p.states.map Bd.cs)),.data (.sl 4 (p.lines.map Ln.cs)),.data (.sl 2 (p.tables.map Tb.cs)),.data (.sl 8 (p.stmts.map Sm.cs))]),(1000004,.cells [.fn 83 [.ptr 1000007 0,.ptr 1000008 0,.ptr 1000003 0]]),(1000005,.map false [.int .i64] (s.opn.map ibD)),(1000006,.map false [.int .i64] (s.ages.map iiD)),(1000007,.cells [.fn 84 [.ptr 1000001 0,.ptr 1000002 0,.ptr 1000003 0,.ptr 1000004 0]]),(1000008,.cells [.map 1000009]),(1000009,.map true [.int .i64,.int .i64] (S.map kkD))]
abbrev ze8:D:=.iface 126 (.agg [])
def J5(p:Pr)(S:List (Key×Int))(s:AS)(i v:Int)(s':AS):Prop:=aj Tryz.prog 84 [.data (.i i),.ptr 1000001 0,.ptr 1000002 0,.ptr 1000003 0,.ptr 1000004 0] (zfo p S s) (.ret (.data (.i v))) (zfo p S s')
def Ci(p:Pr)(S:List (Key×Int))(s:AS)(i:Int)(s':AS):Prop:=aj Tryz.prog 84 [.data (.i i),.ptr 1000001 0,.ptr 1000002 0,.ptr 1000003 0,.ptr 1000004 0] (zfo p S s) (.pan (.data ze8)) (zfo p S s')
theorem J5.call{p:Pr}{S:List (Key×Int)}{s s':AS}{i v:Int}(h:J5 p S s i v s'):aj Tryz.prog 84 [.data (.i i),.ptr 1000001 0,.ptr 1000002 0,.ptr 1000003 0,.ptr 1000004 0] [(1000001,.cells [.map 1000005]),(1000002,.cells [.map 1000006]),(1000003,.cells [.data (.str p.name),.data (.i p.latency),.data (.i p.tail),.data (.sl 3 (p.params.map Bd.cs)),.data (.sl 3 (p.states.map Bd.cs)),.data (.sl 4 (p.lines.map Ln.cs)),.data (.sl 2 (p.tables.map Tb.cs)),.data (.sl 8 (p.stmts.map Sm.cs))]),(1000004,.cells [.fn 83 [.ptr 1000007 0,.ptr 1000008 0,.ptr 1000003 0]]),(1000005,.map false [.int .i64] (s.opn.map ibD)),(1000006,.map false [.int .i64] (s.ages.map iiD)),(1000007,.cells [.fn 84 [.ptr 1000001 0,.ptr 1000002 0,.ptr 1000003 0,.ptr 1000004 0]]),(1000008,.cells [.map 1000009]),(1000009,.map true [.int .i64,.int .i64] (S.map kkD))] (.ret (.data (.i v))) [(1000001,.cells [.map 1000005]),(1000002,.cells [.map 1000006]),(1000003,.cells [.data (.str p.name),.data (.i p.latency),.data (.i p.tail),.data (.sl 3 (p.params.map Bd.cs)),.data (.sl 3 (p.states.map Bd.cs)),.data (.sl 4 (p.lines.map Ln.cs)),.data (.sl 2 (p.tables.map Tb.cs)),.data (.sl 8 (p.stmts.map Sm.cs))]),(1000004,.cells [.fn 83 [.ptr 1000007 0,.ptr 1000008 0,.ptr 1000003 0]]),(1000005,.map false [.int .i64] (s'.opn.map ibD)),(1000006,.map false [.int .i64] (s'.ages.map iiD)),(1000007,.cells [.fn 84 [.ptr 1000001 0,.ptr 1000002 0,.ptr 1000003 0,.ptr 1000004 0]]),(1000008,.cells [.map 1000009]),(1000009,.map true [.int .i64,.int .i64] (S.map kkD))]:=h
theorem Ci.call{p:Pr}{S:List (Key×Int)}{s s':AS}{i:Int}(h:Ci p S s i s'):aj Tryz.prog 84 [.data (.i i),.ptr 1000001 0,.ptr 1000002 0,.ptr 1000003 0,.ptr 1000004 0] [(1000001,.cells [.map 1000005]),(1000002,.cells [.map 1000006]),(1000003,.cells [.data (.str p.name),.data (.i p.latency),.data (.i p.tail),.data (.sl 3 (p.params.map Bd.cs)),.data (.sl 3 (p.states.map Bd.cs)),.data (.sl 4 (p.lines.map Ln.cs)),.data (.sl 2 (p.tables.map Tb.cs)),.data (.sl 8 (p.stmts.map Sm.cs))]),(1000004,.cells [.fn 83 [.ptr 1000007 0,.ptr 1000008 0,.ptr 1000003 0]]),(1000005,.map false [.int .i64] (s.opn.map ibD)),(1000006,.map false [.int .i64] (s.ages.map iiD)),(1000007,.cells [.fn 84 [.ptr 1000001 0,.ptr 1000002 0,.ptr 1000003 0,.ptr 1000004 0]]),(1000008,.cells [.map 1000009]),(1000009,.map true [.int .i64,.int .i64] (S.map kkD))] (.pan (.data (.iface 126 (.agg [])))) [(1000001,.cells [.map 1000005]),(1000002,.cells [.map 1000006]),(1000003,.cells [.data (.str p.name),.data (.i p.latency),.data (.i p.tail),.data (.sl 3 (p.params.map Bd.cs)),.data (.sl 3 (p.states.map Bd.cs)),.data (.sl 4 (p.lines.map Ln.cs)),.data (.sl 2 (p.tables.map Tb.cs)),.data (.sl 8 (p.stmts.map Sm.cs))]),(1000004,.cells [.fn 83 [.ptr 1000007 0,.ptr 1000008 0,.ptr 1000003 0]]),(1000005,.map false [.int .i64] (s'.opn.map ibD)),(1000006,.map false [.int .i64] (s'.ages.map iiD)),(1000007,.cells [.fn 84 [.ptr 1000001 0,.ptr 1000002 0,.ptr 1000003 0,.ptr 1000004 0]]),(1000008,.cells [.map 1000009]),(1000009,.map true [.int .i64,.int .i64] (S.map kkD))]:=h
theorem Pj(p:Pr)(S:List (Key×Int))(f:Nat)(at_:Int)(x:Ex)(s s':AS)(v:Int)(hA:∀k v t,qY p S f s k = .ok v t->J5 p S s k v t)(hh:tZ p S (qY p S f) at_ x s = .ok v s'):aj Tryz.prog 83 [.data (.i at_),.data x.d,.ptr 1000007 0,.ptr 1000008 0,.ptr 1000003 0] [(1000001,.cells [.map 1000005]),(1000002,.cells [.map 1000006]),(1000003,.cells [.data (.str p.name),.data (.i p.latency),.data (.i p.tail),.data (.sl 3 (p.params.map Bd.cs)),.data (.sl 3 (p.states.map Bd.cs)),.data (.sl 4 (p.lines.map Ln.cs)),.data (.sl 2 (p.tables.map Tb.cs)),.data (.sl 8 (p.stmts.map Sm.cs))]),(1000004,.cells [.fn 83 [.ptr 1000007 0,.ptr 1000008 0,.ptr 1000003 0]]),(1000005,.map false [.int .i64] (s.opn.map ibD)),(1000006,.map false [.int .i64] (s.ages.map iiD)),(1000007,.cells [.fn 84 [.ptr 1000001 0,.ptr 1000002 0,.ptr 1000003 0,.ptr 1000004 0]]),(1000008,.cells [.map 1000009]),(1000009,.map true [.int .i64,.int .i64] (S.map kkD))] (.ret (.data (.i v))) [(1000001,.cells [.map 1000005]),(1000002,.cells [.map 1000006]),(1000003,.cells [.data (.str p.name),.data (.i p.latency),.data (.i p.tail),.data (.sl 3 (p.params.map Bd.cs)),.data (.sl 3 (p.states.map Bd.cs)),.data (.sl 4 (p.lines.map Ln.cs)),.data (.sl 2 (p.tables.map Tb.cs)),.data (.sl 8 (p.stmts.map Sm.cs))]),(1000004,.cells [.fn 83 [.ptr 1000007 0,.ptr 1000008 0,.ptr 1000003 0]]),(1000005,.map false [.int .i64] (s'.opn.map ibD)),(1000006,.map false [.int .i64] (s'.ages.map iiD)),(1000007,.cells [.fn 84 [.ptr 1000001 0,.ptr 1000002 0,.ptr 1000003 0,.ptr 1000004 0]]),(1000008,.cells [.map 1000009]),(1000009,.map true [.int .i64,.int .i64] (S.map kkD))]:=by
 refine aS Tryz.func83 ?_
 repeat' ((try conv=>whnf)<;>first
  |((refine YL [(4,1000003)] ?_ ?_ ?_);kernel_rfl;(refine Eh ?_ ?_);(refine OE rfl rfl rfl rfl rfl rfl ?_);(repeat((refine Ei ?_ ?_);(first |exact trivial |exact rfl)));exact IR;exact IQ)
  |refine z2f rfl (λb hb=>?_) (λhb=>?_)
  |((refine BrI.ff_of ?_ ?_);exact rfl)
  |((refine BrI.tt_of ?_ ?_);exact rfl)
  |(have hq:=z2i (by assumption) hh;clear hh;have hc:=(hA _ _ _ hq).call)
  |(have hq:=z2j (by assumption) (by assumption) hb (by assumption) hh;clear hh;have hc:=(hA _ _ _ hq).call)
  |(have hq0:=z2k (by assumption) (by assumption) hb (by assumption) hh;clear hh;obtain⟨u,hq,rfl⟩:=PD hq0;have hc:=(hA _ _ _ hq).call)
  |(have hq0:=z2m (by assumption) (by assumption) (by assumption) hb I9 hh;clear hh;have hi8:=hq0.2;obtain⟨u,hq,rfl⟩:=PD hq0.1;have hc:=(hA _ _ _ hq).call)
  |(have hq0:=z2l (by assumption) (by assumption) hb hh;clear hh;obtain⟨rfl,rfl⟩:=WE hq0)
  |(have hq0:=z2o (by assumption) (by assumption) (by assumption) hb hh;clear hh;obtain⟨rfl,rfl⟩:=WE hq0)
  |(have hq0:=z2p (by assumption) (by assumption) (by assumption) hh;clear hh;obtain⟨rfl,rfl⟩:=WE hq0)
  |exact trivial
  |refine BrI.intro (λh=>?_) (λh=>?_)
  |((refine aH ?_ ?_ ?_ ?_ ?_);exact rfl;exact rfl;rotate_left;exact WF hi8)
  |((refine lent_step' [(1000001,1000001),(1000002,1000002),(1000003,1000003),(1000004,1000004),(1000005,1000005),(1000006,1000006),(1000007,1000007),(1000008,1000008),(1000009,1000009)] (hc) ?_ ?_ ?_ ?_);rotate_left 0;exact rfl;(exact⟨rfl,rfl,rfl,rfl,rfl,rfl,rfl,rfl,rfl,trivial⟩);exact rfl)
  |((refine bg ?_);refine fin_step' [(1000001,1000001),(1000002,1000002),(1000003,1000003),(1000004,1000004),(1000005,1000005),(1000006,1000006),(1000007,1000007),(1000008,1000008),(1000009,1000009)] rfl ?_ ?_)
  |refine And.intro ?_ ?_
  |exact @rfl AV _
  |fail)
 all_goals rfl
theorem MK(p:Pr)(S:List (Key×Int))(f:Nat)(at_:Int)(x:Ex)(s s':AS)(hA:∀k t,qY p S f s k = .pan t->Ci p S s k t)(hh:tZ p S (qY p S f) at_ x s = .pan s'):aj Tryz.prog 83 [.data (.i at_),.data x.d,.ptr 1000007 0,.ptr 1000008 0,.ptr 1000003 0] [(1000001,.cells [.map 1000005]),(1000002,.cells [.map 1000006]),(1000003,.cells [.data (.str p.name),.data (.i p.latency),.data (.i p.tail),.data (.sl 3 (p.params.map Bd.cs)),.data (.sl 3 (p.states.map Bd.cs)),.data (.sl 4 (p.lines.map Ln.cs)),.data (.sl 2 (p.tables.map Tb.cs)),.data (.sl 8 (p.stmts.map Sm.cs))]),(1000004,.cells [.fn 83 [.ptr 1000007 0,.ptr 1000008 0,.ptr 1000003 0]]),(1000005,.map false [.int .i64] (s.opn.map ibD)),(1000006,.map false [.int .i64] (s.ages.map iiD)),(1000007,.cells [.fn 84 [.ptr 1000001 0,.ptr 1000002 0,.ptr 1000003 0,.ptr 1000004 0]]),(1000008,.cells [.map 1000009]),(1000009,.map true [.int .i64,.int .i64] (S.map kkD))] (.pan (.data (.iface 126 (.agg [])))) [(1000001,.cells [.map 1000005]),(1000002,.cells [.map 1000006]),(1000003,.cells [.data (.str p.name),.data (.i p.latency),.data (.i p.tail),.data (.sl 3 (p.params.map Bd.cs)),.data (.sl 3 (p.states.map Bd.cs)),.data (.sl 4 (p.lines.map Ln.cs)),.data (.sl 2 (p.tables.map Tb.cs)),.data (.sl 8 (p.stmts.map Sm.cs))]),(1000004,.cells [.fn 83 [.ptr 1000007 0,.ptr 1000008 0,.ptr 1000003 0]]),(1000005,.map false [.int .i64] (s'.opn.map ibD)),(1000006,.map false [.int .i64] (s'.ages.map iiD)),(1000007,.cells [.fn 84 [.ptr 1000001 0,.ptr 1000002 0,.ptr 1000003 0,.ptr 1000004 0]]),(1000008,.cells [.map 1000009]),(1000009,.map true [.int .i64,.int .i64] (S.map kkD))]:=by
 refine aS Tryz.func83 ?_
 repeat' ((try conv=>whnf)<;>first
  |((refine WB [(4,1000003)] rfl ?_ ?_ ?_);kernel_rfl;(refine Eh ?_ ?_);(refine OE rfl rfl rfl rfl rfl rfl ?_);(repeat((refine Ei ?_ ?_);(first |exact trivial |exact rfl)));exact IR;exact IQ)
  |refine z2f rfl (λb hb=>?_) (λhb=>?_)
  |((refine BrI.ff_of ?_ ?_);exact rfl)
  |((refine BrI.tt_of ?_ ?_);exact rfl)
  |(have hq:=z2i (by assumption) hh;clear hh;have hc:=(hA _ _ hq).call)
  |(have hq:=z2j (by assumption) (by assumption) hb (by assumption) hh;clear hh;have hc:=(hA _ _ hq).call)
  |(have hq:=WC (z2k (by assumption) (by assumption) hb (by assumption) hh);clear hh;have hc:=(hA _ _ hq).call)
  |(have hq0:=z2m (by assumption) (by assumption) (by assumption) hb zcy hh;clear hh;have hi8:=hq0.2;have hq:=WC hq0.1;have hc:=(hA _ _ hq).call)
  |exact(Jp (z2l (by assumption) (by assumption) hb hh)).elim
  |exact(Jp (z2o (by assumption) (by assumption) (by assumption) hb hh)).elim
  |exact(Jp (z2p (by assumption) (by assumption) (by assumption) hh)).elim
  |exact trivial
  |refine BrI.intro (λh=>?_) (λh=>?_)
  |((refine rest_step _ _ _ [false,false,false,false,false,false,false,true,true] ?_ ?_);kernel_rfl)
  |((refine quiet_step ?_ ?_);kernel_rfl)
  |((refine aH ?_ ?_ ?_ ?_ ?_);exact rfl;exact rfl;rotate_left;exact WF hi8)
  |((refine lent_step' [(1000001,1000001),(1000002,1000002),(1000003,1000003),(1000004,1000004),(1000005,1000005),(1000006,1000006),(1000007,1000007),(1000008,1000008),(1000009,1000009)] (hc) ?_ ?_ ?_ ?_);rotate_left 0;exact rfl;(exact⟨rfl,rfl,rfl,rfl,rfl,rfl,rfl,rfl,rfl,trivial⟩);exact rfl)
  |((refine dw ?_);refine fin_step' [(1000001,1000001),(1000002,1000002),(1000003,1000003),(1000004,1000004),(1000005,1000005),(1000006,1000006),(1000007,1000007),(1000008,1000008),(1000009,1000009)] rfl ?_ ?_)
  |refine And.intro ?_ ?_
  |exact @rfl Block _
  |fail)
 all_goals rfl
theorem ze9{g:Bool}{ks:List KS}{l:List (Int×Int)}{k v:Int}:Block.map g ks (mput (.i k) (.i v) (l.map iiD))=Block.map g ks ((ut k v l).map iiD):=by rw[Wj]
theorem z3q{g:Bool}{ks:List KS}{l:List (Int×Bool)}{k:Int}{v:Bool}:Block.map g ks (mput (.i k) (.b v) (l.map ibD))=Block.map g ks ((ut k v l).map ibD):=by rw[Wn]
theorem J6{α:Type}{x:α}{P:Prop}(h:none=some x):P:=by cases h
theorem ET(x:Ex)(Rf:Nat->RP)(hy:∀j y,(au x)[j]? = some y->YOk Rf (0+j) y):aj Tryz.prog 92 [.yld 1000000,.ptr 1000001 0] [(1000000,.rnd (Rf 0)),(1000001,.cells [.data (.i x.kind),.data (.str x.name),.data (.i x.index),.data (.i x.n),.data (.sl 5 (Ex.css x.l))])] (.ret (.data (.tuple []))) [(1000000,.rnd (Rf (au x).length)),(1000001,.cells [.data (.i x.kind),.data (.str x.name),.data (.i x.index),.data (.i x.n),.data (.sl 5 (Ex.css x.l))])]:=by
 have:=XI x Rf hy
 rwa[Nat.zero_add]at this
theorem z96(p:Pr)(S:List (Key×Int))(f:Nat)(i:Int)(s s':AS)(v:Int)(hA:∀s k v t,qY p S f s k = .ok v t->J5 p S s k v t)(hh:qY p S (f+1) s i = .ok v s'):aj Tryz.prog 84 [.data (.i i),.ptr 1000001 0,.ptr 1000002 0,.ptr 1000003 0,.ptr 1000004 0] [(1000001,.cells [.map 1000005]),(1000002,.cells [.map 1000006]),(1000003,.cells [.data (.str p.name),.data (.i p.latency),.data (.i p.tail),.data (.sl 3 (p.params.map Bd.cs)),.data (.sl 3 (p.states.map Bd.cs)),.data (.sl 4 (p.lines.map Ln.cs)),.data (.sl 2 (p.tables.map Tb.cs)),.data (.sl 8 (p.stmts.map Sm.cs))]),(1000004,.cells [.fn 83 [.ptr 1000007 0,.ptr 1000008 0,.ptr 1000003 0]]),(1000005,.map false [.int .i64] (s.opn.map ibD)),(1000006,.map false [.int .i64] (s.ages.map iiD)),(1000007,.cells [.fn 84 [.ptr 1000001 0,.ptr 1000002 0,.ptr 1000003 0,.ptr 1000004 0]]),(1000008,.cells [.map 1000009]),(1000009,.map true [.int .i64,.int .i64] (S.map kkD))] (.ret (.data (.i v))) [(1000001,.cells [.map 1000005]),(1000002,.cells [.map 1000006]),(1000003,.cells [.data (.str p.name),.data (.i p.latency),.data (.i p.tail),.data (.sl 3 (p.params.map Bd.cs)),.data (.sl 3 (p.states.map Bd.cs)),.data (.sl 4 (p.lines.map Ln.cs)),.data (.sl 2 (p.tables.map Tb.cs)),.data (.sl 8 (p.stmts.map Sm.cs))]),(1000004,.cells [.fn 83 [.ptr 1000007 0,.ptr 1000008 0,.ptr 1000003 0]]),(1000005,.map false [.int .i64] (s'.opn.map ibD)),(1000006,.map false [.int .i64] (s'.ages.map iiD)),(1000007,.cells [.fn 84 [.ptr 1000001 0,.ptr 1000002 0,.ptr 1000003 0,.ptr 1000004 0]]),(1000008,.cells [.map 1000009]),(1000009,.map true [.int .i64,.int .i64] (S.map kkD))]:=by
 refine aS Tryz.func84 ?_
 repeat' ((try conv=>whnf)<;>first
  |refine z2h rfl (λb hb=>?_) (λhb=>?_)
  |refine z2g rfl (λn ha=>?_) (λha=>?_)
  |((refine BrI.ff_of ?_ ?_);exact rfl)
  |((refine BrI.tt_of ?_ ?_);exact rfl)
  |exact(Jp (z2q hb (by assumption) hh).symm).elim
  |(have ho:=z2r hb (by assumption);clear hb)
  |(have ho:=z2s hb;clear hb)
  |(have hq:=PH ho ha hh;clear hh;obtain⟨rfl,rfl⟩:=z7j hq)
  |(have hq:=zcz ho ha hh;clear hh;obtain⟨hir,hR,rfl,rfl⟩:=hq)
  |((refine aH ?_ ?_ ?_ ?_ ?_);exact rfl;exact rfl;rotate_left;exact z2t hir)
  |((refine kZ.mk 33 ?_);refine⟨rfl,⟨[(1,.ptr 1000001 0),(2,.ptr 1000002 0),(3,.ptr 1000003 0),(4,.ptr 1000004 0),(5,.ptr 5 0),(9,.ptr 9 0),(32,.fn 92 [.ptr 800001 0])],[(1000001,.cells [.map 1000005]),(1000002,.cells [.map 1000006]),(1000003,.cells [.data (.str p.name),.data (.i p.latency),.data (.i p.tail),.data (.sl 3 (p.params.map Bd.cs)),.data (.sl 3 (p.states.map Bd.cs)),.data (.sl 4 (p.lines.map Ln.cs)),.data (.sl 2 (p.tables.map Tb.cs)),.data (.sl 8 (p.stmts.map Sm.cs))]),(1000004,.cells [.fn 83 [.ptr 1000007 0,.ptr 1000008 0,.ptr 1000003 0]]),(1000005,.map false [.int .i64] ((⟨s.ages,ut i true s.opn⟩:AS).opn.map ibD)),(1000006,.map false [.int .i64] ((⟨s.ages,ut i true s.opn⟩:AS).ages.map iiD)),(1000007,.cells [.fn 84 [.ptr 1000001 0,.ptr 1000002 0,.ptr 1000003 0,.ptr 1000004 0]]),(1000008,.cells [.map 1000009]),(1000009,.map true [.int .i64,.int .i64] (S.map kkD)),(5,.cells [.data (.i i)]),(9,.cells [.data (.i 0)]),(800001,.cells [.data (.i (bF p i).kind),.data (.str (bF p i).name),.data (.i (bF p i).index),.data (.i (bF p i).n),.data (.sl 5 (Ex.css (bF p i).l))])],[(1000000,9),(1000010,5),(1000001,1000001),(1000002,1000002),(1000003,1000003),(1000004,1000004),(1000005,1000005),(1000006,1000006),(1000007,1000007),(1000008,1000008),(1000009,1000009)],[(9,.ptr 1000000 0),(4,.ptr 1000004 0),(5,.ptr 1000010 0)],λj=>[(1000000,.cells [.data (.i (lW p S f s i j).1)]),(1000010,.cells [.data (.i i)]),(1000001,.cells [.map 1000005]),(1000002,.cells [.map 1000006]),(1000003,.cells [.data (.str p.name),.data (.i p.latency),.data (.i p.tail),.data (.sl 3 (p.params.map Bd.cs)),.data (.sl 3 (p.states.map Bd.cs)),.data (.sl 4 (p.lines.map Ln.cs)),.data (.sl 2 (p.tables.map Tb.cs)),.data (.sl 8 (p.stmts.map Sm.cs))]),(1000004,.cells [.fn 83 [.ptr 1000007 0,.ptr 1000008 0,.ptr 1000003 0]]),(1000005,.map false [.int .i64] ((lW p S f s i j).2.opn.map ibD)),(1000006,.map false [.int .i64] ((lW p S f s i j).2.ages.map iiD)),(1000007,.cells [.fn 84 [.ptr 1000001 0,.ptr 1000002 0,.ptr 1000003 0,.ptr 1000004 0]]),(1000008,.cells [.map 1000009]),(1000009,.map true [.int .i64,.int .i64] (S.map kkD))],(au (bF p i)).length,λj=>[((au (bF p i)).getD j Ex.none).d],900002,none⟩,⟨?_,rfl,rfl,?_,?_,λj hj=>⟨rfl,rfl,?_⟩,λ_ _ e=>J6 e,⟨_,_,rfl,rfl,λRf Re hy hy2=>⟨1000000,[.ptr 1000001 0],[(1000001,.cells [.data (.i (bF p i).kind),.data (.str (bF p i).name),.data (.i (bF p i).index),.data (.i (bF p i).n),.data (.sl 5 (Ex.css (bF p i).l))])],.data (.tuple []),[(1000001,.cells [.data (.i (bF p i).kind),.data (.str (bF p i).name),.data (.i (bF p i).index),.data (.i (bF p i).n),.data (.sl 5 (Ex.css (bF p i).l))])],[(1000000,900002),(1000001,800001)],ET (bF p i) Rf (λj y hj=>MQ (P:=λn d=>aj Tryz.prog xR [.yld 1000000,.data d] [(1000000,.rnd (Rf n))] (.ret (.b true)) [(1000000,.rnd (Rf (n+1)))]) hy j y (List.getElem?_eq_some_iff.1 hj).1 hj),rfl,?_,rfl,rfl,?_⟩⟩⟩⟩)
  |(have hq:=(hR j hj).ok;clear hj;obtain⟨w,hw1,hw2⟩:=hq)
  |exact trivial
  |refine BrI.intro (λh=>?_) (λh=>?_)
  |((refine fH [(1000000,800001)] (um (bF p i)) ?_ ?_ ?_ ?_);rotate_left 0;exact rfl;exact trivial;exact rfl)
  |((refine lent_step' [(1000001,1000001),(1000002,1000002),(1000003,1000003),(1000004,1000004),(1000005,1000005),(1000006,1000006),(1000007,1000007),(1000008,1000008),(1000009,1000009)] (Pj p S f i ((au (bF p i)).getD j Ex.none) (lW p S f s i j).2 (lW p S f s i (j+1)).2 w (λk v t h=>hA _ k v t h) hw1) ?_ ?_ ?_ ?_);rotate_left 0;exact rfl;(exact⟨rfl,rfl,rfl,rfl,rfl,rfl,rfl,rfl,rfl,trivial⟩);exact rfl)
  |((refine bg ?_);refine fin_step' [(1000001,1000001),(1000002,1000002),(1000003,1000003),(1000004,1000004),(1000005,1000005),(1000006,1000006),(1000007,1000007),(1000008,1000008),(1000009,1000009)] rfl ?_ ?_)
  |refine pF ?_
  |refine eU ?_
  |refine And.intro ?_ ?_
  |exact @rfl AV _
  |fail)
 all_goals first
  |rfl
  |exact z3q
  |exact ze9
  |((try(conv=>whnf));(exact congrArg (λz=>AV.data (D.i z)) hw2.symm))
theorem z97{s t:AS}(h:AR.pan s = .pan t):t=s:=by cases h;rfl
theorem z98{x:Ex}{Rf:Nat->RP}{Re:RP}{d:D}{k:Nat}(h:aj Tryz.prog xR [.yld 1000000,.data ((au x).getD k Ex.none).d] [(1000000,.rnd (Rf k))] (.pan (.data d)) [(1000000,.rnd Re)]):∀y,(au x)[k]? = some y->zgq Rf Re d (0+k) y:=by
 intro y hy
 rw[List.getD_eq_getElem?_getD,hy]at h
 rw[Nat.zero_add];exact h
theorem z0x(p:Pr)(S:List (Key×Int))(f:Nat)(i:Int)(s s':AS)(hA:∀s k v t,qY p S f s k = .ok v t->J5 p S s k v t)(hP:∀s k t,qY p S f s k = .pan t->Ci p S s k t)(hh:qY p S (f+1) s i = .pan s'):aj Tryz.prog 84 [.data (.i i),.ptr 1000001 0,.ptr 1000002 0,.ptr 1000003 0,.ptr 1000004 0] [(1000001,.cells [.map 1000005]),(1000002,.cells [.map 1000006]),(1000003,.cells [.data (.str p.name),.data (.i p.latency),.data (.i p.tail),.data (.sl 3 (p.params.map Bd.cs)),.data (.sl 3 (p.states.map Bd.cs)),.data (.sl 4 (p.lines.map Ln.cs)),.data (.sl 2 (p.tables.map Tb.cs)),.data (.sl 8 (p.stmts.map Sm.cs))]),(1000004,.cells [.fn 83 [.ptr 1000007 0,.ptr 1000008 0,.ptr 1000003 0]]),(1000005,.map false [.int .i64] (s.opn.map ibD)),(1000006,.map false [.int .i64] (s.ages.map iiD)),(1000007,.cells [.fn 84 [.ptr 1000001 0,.ptr 1000002 0,.ptr 1000003 0,.ptr 1000004 0]]),(1000008,.cells [.map 1000009]),(1000009,.map true [.int .i64,.int .i64] (S.map kkD))] (.pan (.data (.iface 126 (.agg [])))) [(1000001,.cells [.map 1000005]),(1000002,.cells [.map 1000006]),(1000003,.cells [.data (.str p.name),.data (.i p.latency),.data (.i p.tail),.data (.sl 3 (p.params.map Bd.cs)),.data (.sl 3 (p.states.map Bd.cs)),.data (.sl 4 (p.lines.map Ln.cs)),.data (.sl 2 (p.tables.map Tb.cs)),.data (.sl 8 (p.stmts.map Sm.cs))]),(1000004,.cells [.fn 83 [.ptr 1000007 0,.ptr 1000008 0,.ptr 1000003 0]]),(1000005,.map false [.int .i64] (s'.opn.map ibD)),(1000006,.map false [.int .i64] (s'.ages.map iiD)),(1000007,.cells [.fn 84 [.ptr 1000001 0,.ptr 1000002 0,.ptr 1000003 0,.ptr 1000004 0]]),(1000008,.cells [.map 1000009]),(1000009,.map true [.int .i64,.int .i64] (S.map kkD))]:=by
 refine aS Tryz.func84 ?_
 repeat' ((try conv=>whnf)<;>first
  |refine z2h rfl (λb hb=>?_) (λhb=>?_)
  |refine z2g rfl (λn ha=>?_) (λha=>?_)
  |((refine BrI.ff_of ?_ ?_);exact rfl)
  |((refine BrI.tt_of ?_ ?_);exact rfl)
  |(have hq:=z2q hb (by assumption) hh;clear hh;obtain rfl:=z97 hq;clear hq)
  |(have ho:=z2r hb (by assumption);clear hb)
  |(have ho:=z2s hb;clear hb)
  |(have hq:=PH ho ha hh;exact(Jp hq).elim)
  |(have hq:=z7k ho ha hh;clear hh;obtain⟨hir,k,hk,hR,hW⟩:=hq)
  |((refine aH ?_ ?_ ?_ ?_ ?_);exact rfl;exact rfl;rotate_left;exact z2t hir)
  |((refine kZ.mk 33 ?_);refine⟨rfl,⟨[(1,.ptr 1000001 0),(2,.ptr 1000002 0),(3,.ptr 1000003 0),(4,.ptr 1000004 0),(5,.ptr 5 0),(9,.ptr 9 0),(32,.fn 92 [.ptr 800001 0])],[(1000001,.cells [.map 1000005]),(1000002,.cells [.map 1000006]),(1000003,.cells [.data (.str p.name),.data (.i p.latency),.data (.i p.tail),.data (.sl 3 (p.params.map Bd.cs)),.data (.sl 3 (p.states.map Bd.cs)),.data (.sl 4 (p.lines.map Ln.cs)),.data (.sl 2 (p.tables.map Tb.cs)),.data (.sl 8 (p.stmts.map Sm.cs))]),(1000004,.cells [.fn 83 [.ptr 1000007 0,.ptr 1000008 0,.ptr 1000003 0]]),(1000005,.map false [.int .i64] ((⟨s.ages,ut i true s.opn⟩:AS).opn.map ibD)),(1000006,.map false [.int .i64] ((⟨s.ages,ut i true s.opn⟩:AS).ages.map iiD)),(1000007,.cells [.fn 84 [.ptr 1000001 0,.ptr 1000002 0,.ptr 1000003 0,.ptr 1000004 0]]),(1000008,.cells [.map 1000009]),(1000009,.map true [.int .i64,.int .i64] (S.map kkD)),(5,.cells [.data (.i i)]),(9,.cells [.data (.i 0)]),(800001,.cells [.data (.i (bF p i).kind),.data (.str (bF p i).name),.data (.i (bF p i).index),.data (.i (bF p i).n),.data (.sl 5 (Ex.css (bF p i).l))])],[(1000000,9),(1000010,5),(1000001,1000001),(1000002,1000002),(1000003,1000003),(1000004,1000004),(1000005,1000005),(1000006,1000006),(1000007,1000007),(1000008,1000008),(1000009,1000009)],[(9,.ptr 1000000 0),(4,.ptr 1000004 0),(5,.ptr 1000010 0)],λj=>[(1000000,.cells [.data (.i (lW p S f s i j).1)]),(1000010,.cells [.data (.i i)]),(1000001,.cells [.map 1000005]),(1000002,.cells [.map 1000006]),(1000003,.cells [.data (.str p.name),.data (.i p.latency),.data (.i p.tail),.data (.sl 3 (p.params.map Bd.cs)),.data (.sl 3 (p.states.map Bd.cs)),.data (.sl 4 (p.lines.map Ln.cs)),.data (.sl 2 (p.tables.map Tb.cs)),.data (.sl 8 (p.stmts.map Sm.cs))]),(1000004,.cells [.fn 83 [.ptr 1000007 0,.ptr 1000008 0,.ptr 1000003 0]]),(1000005,.map false [.int .i64] ((lW p S f s i j).2.opn.map ibD)),(1000006,.map false [.int .i64] ((lW p S f s i j).2.ages.map iiD)),(1000007,.cells [.fn 84 [.ptr 1000001 0,.ptr 1000002 0,.ptr 1000003 0,.ptr 1000004 0]]),(1000008,.cells [.map 1000009]),(1000009,.map true [.int .i64,.int .i64] (S.map kkD))],k,λj=>[((au (bF p i)).getD j Ex.none).d],900002,some (.pan ze8,[(1000000,.cells [.data (.i (lW p S f s i k).1)]),(1000010,.cells [.data (.i i)]),(1000001,.cells [.map 1000005]),(1000002,.cells [.map 1000006]),(1000003,.cells [.data (.str p.name),.data (.i p.latency),.data (.i p.tail),.data (.sl 3 (p.params.map Bd.cs)),.data (.sl 3 (p.states.map Bd.cs)),.data (.sl 4 (p.lines.map Ln.cs)),.data (.sl 2 (p.tables.map Tb.cs)),.data (.sl 8 (p.stmts.map Sm.cs))]),(1000004,.cells [.fn 83 [.ptr 1000007 0,.ptr 1000008 0,.ptr 1000003 0]]),(1000005,.map false [.int .i64] (s'.opn.map ibD)),(1000006,.map false [.int .i64] (s'.ages.map iiD)),(1000007,.cells [.fn 84 [.ptr 1000001 0,.ptr 1000002 0,.ptr 1000003 0,.ptr 1000004 0]]),(1000008,.cells [.map 1000009]),(1000009,.map true [.int .i64,.int .i64] (S.map kkD))])⟩,⟨?_,rfl,rfl,?_,?_,λj hj=>⟨rfl,rfl,?_⟩,λkk hh ee=>?_,⟨_,_,rfl,rfl,λRf Re hy hy2=>⟨1000000,[.ptr 1000001 0],[(1000001,.cells [.data (.i (bF p i).kind),.data (.str (bF p i).name),.data (.i (bF p i).index),.data (.i (bF p i).n),.data (.sl 5 (Ex.css (bF p i).l))])],.data (.tuple []),[(1000001,.cells [.data (.i (bF p i).kind),.data (.str (bF p i).name),.data (.i (bF p i).index),.data (.i (bF p i).n),.data (.sl 5 (Ex.css (bF p i).l))])],[(1000000,900002),(1000001,800001)],Tc (bF p i) Rf Re ze8 k hk (λj y hj h=>MQ (P:=λn d=>aj Tryz.prog xR [.yld 1000000,.data d] [(1000000,.rnd (Rf n))] (.ret (.b true)) [(1000000,.rnd (Rf (n+1)))]) hy j y hj h) (z98 (hy2 (Option.some_ne_none _))),rfl,?_,rfl,rfl,?_⟩⟩⟩⟩)
  |(cases ee;refine⟨rfl,?_⟩)
  |(have hq:=(hR j hj).ok;clear hj;obtain⟨w,hw1,hw2⟩:=hq)
  |exact trivial
  |refine BrI.intro (λh=>?_) (λh=>?_)
  |((refine rest_step _ _ _ [true,true] ?_ ?_);kernel_rfl)
  |((refine quiet_step ?_ ?_);kernel_rfl)
  |((refine fH [(1000000,800001)] (um (bF p i)) ?_ ?_ ?_ ?_);rotate_left 0;exact rfl;exact trivial;exact rfl)
  |((refine lent_step' [(1000001,1000001),(1000002,1000002),(1000003,1000003),(1000004,1000004),(1000005,1000005),(1000006,1000006),(1000007,1000007),(1000008,1000008),(1000009,1000009)] (Pj p S f i ((au (bF p i)).getD j Ex.none) (lW p S f s i j).2 (lW p S f s i (j+1)).2 w (λk v t h=>hA _ k v t h) hw1) ?_ ?_ ?_ ?_);rotate_left 0;exact rfl;(exact⟨rfl,rfl,rfl,rfl,rfl,rfl,rfl,rfl,rfl,trivial⟩);exact rfl)
  |((refine lent_step' [(1000001,1000001),(1000002,1000002),(1000003,1000003),(1000004,1000004),(1000005,1000005),(1000006,1000006),(1000007,1000007),(1000008,1000008),(1000009,1000009)] (MK p S f i ((au (bF p i)).getD k Ex.none) (lW p S f s i k).2 s' (λk t h=>hP _ k t h) hW) ?_ ?_ ?_ ?_);rotate_left 0;exact rfl;(exact⟨rfl,rfl,rfl,rfl,rfl,rfl,rfl,rfl,rfl,trivial⟩);exact rfl)
  |((refine dw ?_);refine fin_step' [(1000001,1000001),(1000002,1000002),(1000003,1000003),(1000004,1000004),(1000005,1000005),(1000006,1000006),(1000007,1000007),(1000008,1000008),(1000009,1000009)] rfl ?_ ?_)
  |refine pF ?_
  |refine eU ?_
  |((refine eu ?_ ?_);kernel_rfl)
  |refine And.intro ?_ ?_
  |exact @rfl AV _
  |exact @rfl Block _
  |fail)
 all_goals first
  |rfl
  |exact z3q
  |((try(conv=>whnf));(exact congrArg (λz=>AV.data (D.i z)) hw2.symm))
theorem G9(p:Pr)(S:List (Key×Int)):∀(f:Nat) (s:AS) (i:Int),(∀v s',qY p S f s i = .ok v s'->J5 p S s i v s')/\(∀t,qY p S f s i = .pan t->Ci p S s i t)
 | 0,_,_=>⟨λ_ _ h=>(by cases h),λ_ h=>(by cases h)⟩
 |f+1,s,i=>⟨λv s' h=>z96 p S f i s s' v (λs k v t h=>(G9 p S f s k).1 v t h) h,λt h=>z0x p S f i s t (λs k v t h=>(G9 p S f s k).1 v t h) (λs k t h=>(G9 p S f s k).2 t h) h⟩
end Go.Proofs.YtgehpmgkaeohaaaGreatDoor
