/- A part of the proof. -/
import Derived.Test.YtaipffoajgkljaaGreatDoorZTA
import Derived.Test.YtaipffoajgkljaaGreatDoorZK6
set_option linter.all false
set_option maxHeartbeats 8000000
namespace Go.Proofs.YtaipffoajgkljaaGreatDoor
open Go.Fw Go.Fw.Ref15 Go.Fw.Rg Go.Fw.Tl
set_option maxRecDepth 10000
variable [af]
abbrev YOk(Rf:Nat->RP)(n:Nat)(y:Ex):Prop:=LCall Tryz.prog xK [.yld 1000000,.data y.d] [(1000000,.rnd (Rf n))] (.ret (.b true)) [(1000000,.rnd (Rf (n+1)))]
abbrev zf4(Rf:Nat->RP)(Re:RP)(d:D)(n:Nat)(y:Ex):Prop:=LCall Tryz.prog xK [.yld 1000000,.data y.d] [(1000000,.rnd (Rf n))] (.pan (.data d)) [(1000000,.rnd Re)]
theorem J3(x:Ex)(Rf:Nat->RP)(i:Nat)(hy:∀j y,(aA x)[j]? = some y->YOk Rf (i+j) y):LCall Tryz.prog 100 [.data x.d,.ptr 1000001 0,.ptr 1000002 0] [(1000000,.rnd (Rf i)),(1000001,.cells [.yld 1000000]),(1000002,.cells [.fn 100 [.ptr 1000001 0,.ptr 1000002 0]])] (.ret (.b true)) [(1000000,.rnd (Rf (i+(aA x).length))),(1000001,.cells [.yld 1000000]),(1000002,.cells [.fn 100 [.ptr 1000001 0,.ptr 1000002 0]])]:=by
 revert i;revert x;refine Ex.ind λx ih i hy=>?_
 refine jK Tryz.func100 λhf=>?_
 have hlen:=Ex.fits (wR.data (hf (.data x.d) (by simp)))
 clear hf
 repeat' ((try conv=>whnf)<;>first
  |(have hq:m=i+(aA x).length:=V5 hd0 hI0;clear hI0;subst hq)
  |exact trivial
  |exact aj hd0 ‹_›
  |refine jA hd0 ?_
  |refine fK hd0 ?_
  |refine BrI.intro (λh=>?_) (λh=>?_)
  |exact Bool.noConfusion (h:false=true)
  |((refine ak.mk 0 ?_);refine⟨aB (x.l) 14 (λ(m:(Nat))=>[]) (λ(m:(Nat))=>[(1000000,.rnd (Rf m)),(1000001,.cells [.yld 1000000]),(1000002,.cells [.fn 100 [.ptr 1000001 0,.ptr 1000002 0]]),(3,.cells [.data (.i x.kind),.data (.str x.name),.data (.i x.index),.data (.i x.n),.data (.sl 5 (Ex.css x.l))])]) [2,12,13] (λi0 r0 m=>m=i+(1+(dP (x.l.take i0)).length)),?_⟩;refine ag (i+1) ?_ ?_ (λi0 (m:(Nat)) hd0 hI0=>?_) (λi0 x0 r0 (m:(Nat)) hd0 hl0 hI0=>?_))
  |refine ah hd0 (m+(aA x0).length) ?_ ?_
  |((refine lent_step' [] (hy 0 x (MM x)) ?_ ?_ ?_ ?_);rotate_left 0;exact rfl;(exact⟨rfl,trivial⟩);exact rfl)
  |((refine lent_step' [(1000000,1000000),(1000001,1000001),(1000002,1000002)] (ih x0 (aX hd0) m (zce hd0 hI0 hy)) ?_ ?_ ?_ ?_);rotate_left 0;exact rfl;(exact⟨rfl,rfl,rfl,trivial⟩);exact rfl)
  |((refine aP ?_);refine fin_step' [(1000000,1000000),(1000001,1000001),(1000002,1000002)] rfl ?_ ?_)
  |((refine au ?_ ?_ ?_ ?_ ?_);exact rfl;exact rfl;rotate_left;exact dR hd0)
  |refine lY ?_
  |refine And.intro ?_ ?_
  |exact @rfl AV _
  |fail)
 all_goals first
  |rfl
  |exact Pz hd0 hI0
theorem XC(x:Ex)(Rf:Nat->RP)(hy:∀j y,(aA x)[j]? = some y->YOk Rf (0+j) y):LCall Tryz.prog 99 [.yld 1000000,.ptr 1000001 0] [(1000000,.rnd (Rf 0)),(1000001,.cells [.data (.i x.kind),.data (.str x.name),.data (.i x.index),.data (.i x.n),.data (.sl 5 (Ex.css x.l))])] (.ret (.data (.tuple []))) [(1000000,.rnd (Rf (0+(aA x).length))),(1000001,.cells [.data (.i x.kind),.data (.str x.name),.data (.i x.index),.data (.i x.n),.data (.sl 5 (Ex.css x.l))])]:=by
 refine dC Tryz.func99 ?_
 repeat' ((try conv=>whnf)<;>first
  |exact trivial
  |((refine lent_step' [(1000000,1000000),(1000001,2),(1000002,3)] (J3 x Rf 0 hy) ?_ ?_ ?_ ?_);rotate_left 0;exact rfl;(exact⟨rfl,rfl,rfl,trivial⟩);exact rfl)
  |((refine aP ?_);refine fin_step' [(1000000,1000000),(1000001,1000001)] rfl ?_ ?_)
  |refine And.intro ?_ ?_
  |fail)
theorem Su(x:Ex)(Rf:Nat->RP)(Re:RP)(d:D)(i q:Nat)(hq:q<(aA x).length)(hy:∀j y,j<q->(aA x)[j]? = some y->YOk Rf (i+j) y)(hp:∀y,(aA x)[q]? = some y->zf4 Rf Re d (i+q) y):LCall Tryz.prog 100 [.data x.d,.ptr 1000001 0,.ptr 1000002 0] [(1000000,.rnd (Rf i)),(1000001,.cells [.yld 1000000]),(1000002,.cells [.fn 100 [.ptr 1000001 0,.ptr 1000002 0]])] (.pan (.data d)) [(1000000,.rnd Re),(1000001,.cells [.yld 1000000]),(1000002,.cells [.fn 100 [.ptr 1000001 0,.ptr 1000002 0]])]:=by
 revert q i;revert x;refine Ex.ind λx ih i q hq hy hp=>?_
 refine jK Tryz.func100 λhf=>?_
 have hlen:=Ex.fits (wR.data (hf (.data x.d) (by simp)))
 have hsp:q=0\/0<q:=by omega
 clear hf
 repeat' ((try conv=>whnf)<;>first
  |(rcases hsp with rfl |hq0)
  |exact absurd hq (by have:=V5 hd0 hI0.1;have:=hI0.2;omega)
  |(obtain⟨hI1,hI2⟩:=hI0;rcases zcf hd0 hI1 hI2 with hc |⟨t,hqt,ht⟩)
  |exact trivial
  |exact aj hd0 ‹_›
  |refine fK hd0 ?_
  |refine BrI.intro (λh=>?_) (λh=>?_)
  |exact Bool.noConfusion (h:false=true)
  |((refine ak.mk 0 ?_);refine⟨aB (x.l) 14 (λ(m:(Nat))=>[]) (λ(m:(Nat))=>[(1000000,.rnd (Rf m)),(1000001,.cells [.yld 1000000]),(1000002,.cells [.fn 100 [.ptr 1000001 0,.ptr 1000002 0]]),(3,.cells [.data (.i x.kind),.data (.str x.name),.data (.i x.index),.data (.i x.n),.data (.sl 5 (Ex.css x.l))])]) [2,12,13] (λi0 r0 m=>m=i+(1+(dP (x.l.take i0)).length)/\m<=i+q),?_⟩;refine ag (i+1) ?_ ?_ (λi0 (m:(Nat)) hd0 hI0=>?_) (λi0 x0 r0 (m:(Nat)) hd0 hl0 hI0=>?_))
  |refine ah hd0 (m+(aA x0).length) ?_ ?_
  |((refine lent_step' [] (hp x (MM x)) ?_ ?_ ?_ ?_);rotate_left 0;exact rfl;(exact⟨rfl,trivial⟩);exact rfl)
  |((refine lent_step' [] (hy 0 x hq0 (MM x)) ?_ ?_ ?_ ?_);rotate_left 0;exact rfl;(exact⟨rfl,trivial⟩);exact rfl)
  |((refine lent_step' [(1000000,1000000),(1000001,1000001),(1000002,1000002)] (J3 x0 Rf m (z6y hd0 hI1 hy hc)) ?_ ?_ ?_ ?_);rotate_left 0;exact rfl;(exact⟨rfl,rfl,rfl,trivial⟩);exact rfl)
  |((refine lent_step' [(1000000,1000000),(1000001,1000001),(1000002,1000002)] (ih x0 (aX hd0) m t ht (z6z hd0 hI1 hy hqt) (zcg hd0 hI1 hp hqt)) ?_ ?_ ?_ ?_);rotate_left 0;exact rfl;(exact⟨rfl,rfl,rfl,trivial⟩);exact rfl)
  |((refine jB ?_);refine fin_step' [(1000000,1000000),(1000001,1000001),(1000002,1000002)] rfl ?_ ?_)
  |((refine au ?_ ?_ ?_ ?_ ?_);exact rfl;exact rfl;rotate_left;exact dR hd0)
  |refine lY ?_
  |refine And.intro ?_ ?_
  |exact @rfl AV _
  |exact @rfl Block _
  |fail)
 all_goals first
  |rfl
  |exact Pz hd0 hI1
  |exact hc
  |omega
theorem SA(x:Ex)(Rf:Nat->RP)(Re:RP)(d:D)(q:Nat)(hq:q<(aA x).length)(hy:∀j y,j<q->(aA x)[j]? = some y->YOk Rf (0+j) y)(hp:∀y,(aA x)[q]? = some y->zf4 Rf Re d (0+q) y):LCall Tryz.prog 99 [.yld 1000000,.ptr 1000001 0] [(1000000,.rnd (Rf 0)),(1000001,.cells [.data (.i x.kind),.data (.str x.name),.data (.i x.index),.data (.i x.n),.data (.sl 5 (Ex.css x.l))])] (.pan (.data d)) [(1000000,.rnd Re),(1000001,.cells [.data (.i x.kind),.data (.str x.name),.data (.i x.index),.data (.i x.n),.data (.sl 5 (Ex.css x.l))])]:=by
 refine dC Tryz.func99 ?_
 repeat' ((try conv=>whnf)<;>first
  |exact trivial
  |((refine lent_step' [(1000000,1000000),(1000001,2),(1000002,3)] (Su x Rf Re d 0 q hq hy hp) ?_ ?_ ?_ ?_);rotate_left 0;exact rfl;(exact⟨rfl,rfl,rfl,trivial⟩);exact rfl)
  |((refine jB ?_);refine fin_step' [(1000000,1000000),(1000001,1000001)] rfl ?_ ?_)
  |refine And.intro ?_ ?_
  |exact @rfl Block _
  |fail)
theorem uh(x:Ex)  : LCall Tryz.prog 89 [.data x.d] [] (.ret (.fn 99 [.ptr 1000000 0])) [(1000000,.cells [.data (.i x.kind),.data (.str x.name),.data (.i x.index),.data (.i x.n),.data (.sl 5 (Ex.css x.l))])]:=by
 refine dC Tryz.func89 ?_
 repeat' ((try conv=>whnf)<;>first
  |exact trivial
  |((refine aP ?_);refine fin_step' [(1000000,1)] rfl ?_ ?_)
  |refine And.intro ?_ ?_
  |exact @rfl AV _
  |fail)
abbrev zel(p:Pr)(S:List (Key×Int))(s:AS):Heap:=[(1000001,.cells [.map 1000005]),(1000002,.cells [.map 1000006]),(1000003,.cells [.data (.str p.name),.data (.i p.latency),.data (.i p.tail),.data (.sl 3 (p.params.map Bd.cs)),.data (.sl 3 (p.states.map Bd.cs)),.data (.sl 4 (p.lines.map Ln.cs)),.data (.sl 2 (p.tables.map Tb.cs)),.data (.sl 8 (p.stmts.map Sm.cs))]),(1000004,.cells [.fn 91 [.ptr 1000007 0,.ptr 1000008 0,.ptr 1000003 0]]),(1000005,.map false [.int .i64] (s.opn.map ibD)),(1000006,.map false [.int .i64] (s.ages.map iiD)),(1000007,.cells [.fn 92 [.ptr 1000001 0,.ptr 1000002 0,.ptr 1000003 0,.ptr 1000004 0]]),(1000008,.cells [.map 1000009]),(1000009,.map true [.int .i64,.int .i64] (S.map kkD))]
abbrev zd7:D:=.iface 128 (.agg [])
def J4(p:Pr)(S:List (Key×Int))(s:AS)(i v:Int)(s':AS):Prop:=LCall Tryz.prog 92 [.data (.i i),.ptr 1000001 0,.ptr 1000002 0,.ptr 1000003 0,.ptr 1000004 0] (zel p S s) (.ret (.data (.i v))) (zel p S s')
def BJ(p:Pr)(S:List (Key×Int))(s:AS)(i:Int)(s':AS):Prop:=LCall Tryz.prog 92 [.data (.i i),.ptr 1000001 0,.ptr 1000002 0,.ptr 1000003 0,.ptr 1000004 0] (zel p S s) (.pan (.data zd7)) (zel p S s')
theorem J4.call{p:Pr}{S:List (Key×Int)}{s s':AS}{i v:Int}(h:J4 p S s i v s'):LCall Tryz.prog 92 [.data (.i i),.ptr 1000001 0,.ptr 1000002 0,.ptr 1000003 0,.ptr 1000004 0] [(1000001,.cells [.map 1000005]),(1000002,.cells [.map 1000006]),(1000003,.cells [.data (.str p.name),.data (.i p.latency),.data (.i p.tail),.data (.sl 3 (p.params.map Bd.cs)),.data (.sl 3 (p.states.map Bd.cs)),.data (.sl 4 (p.lines.map Ln.cs)),.data (.sl 2 (p.tables.map Tb.cs)),.data (.sl 8 (p.stmts.map Sm.cs))]),(1000004,.cells [.fn 91 [.ptr 1000007 0,.ptr 1000008 0,.ptr 1000003 0]]),(1000005,.map false [.int .i64] (s.opn.map ibD)),(1000006,.map false [.int .i64] (s.ages.map iiD)),(1000007,.cells [.fn 92 [.ptr 1000001 0,.ptr 1000002 0,.ptr 1000003 0,.ptr 1000004 0]]),(1000008,.cells [.map 1000009]),(1000009,.map true [.int .i64,.int .i64] (S.map kkD))] (.ret (.data (.i v))) [(1000001,.cells [.map 1000005]),(1000002,.cells [.map 1000006]),(1000003,.cells [.data (.str p.name),.data (.i p.latency),.data (.i p.tail),.data (.sl 3 (p.params.map Bd.cs)),.data (.sl 3 (p.states.map Bd.cs)),.data (.sl 4 (p.lines.map Ln.cs)),.data (.sl 2 (p.tables.map Tb.cs)),.data (.sl 8 (p.stmts.map Sm.cs))]),(1000004,.cells [.fn 91 [.ptr 1000007 0,.ptr 1000008 0,.ptr 1000003 0]]),(1000005,.map false [.int .i64] (s'.opn.map ibD)),(1000006,.map false [.int .i64] (s'.ages.map iiD)),(1000007,.cells [.fn 92 [.ptr 1000001 0,.ptr 1000002 0,.ptr 1000003 0,.ptr 1000004 0]]),(1000008,.cells [.map 1000009]),(1000009,.map true [.int .i64,.int .i64] (S.map kkD))]:=h
theorem BJ.call{p:Pr}{S:List (Key×Int)}{s s':AS}{i:Int}(h:BJ p S s i s'):LCall Tryz.prog 92 [.data (.i i),.ptr 1000001 0,.ptr 1000002 0,.ptr 1000003 0,.ptr 1000004 0] [(1000001,.cells [.map 1000005]),(1000002,.cells [.map 1000006]),(1000003,.cells [.data (.str p.name),.data (.i p.latency),.data (.i p.tail),.data (.sl 3 (p.params.map Bd.cs)),.data (.sl 3 (p.states.map Bd.cs)),.data (.sl 4 (p.lines.map Ln.cs)),.data (.sl 2 (p.tables.map Tb.cs)),.data (.sl 8 (p.stmts.map Sm.cs))]),(1000004,.cells [.fn 91 [.ptr 1000007 0,.ptr 1000008 0,.ptr 1000003 0]]),(1000005,.map false [.int .i64] (s.opn.map ibD)),(1000006,.map false [.int .i64] (s.ages.map iiD)),(1000007,.cells [.fn 92 [.ptr 1000001 0,.ptr 1000002 0,.ptr 1000003 0,.ptr 1000004 0]]),(1000008,.cells [.map 1000009]),(1000009,.map true [.int .i64,.int .i64] (S.map kkD))] (.pan (.data (.iface 128 (.agg [])))) [(1000001,.cells [.map 1000005]),(1000002,.cells [.map 1000006]),(1000003,.cells [.data (.str p.name),.data (.i p.latency),.data (.i p.tail),.data (.sl 3 (p.params.map Bd.cs)),.data (.sl 3 (p.states.map Bd.cs)),.data (.sl 4 (p.lines.map Ln.cs)),.data (.sl 2 (p.tables.map Tb.cs)),.data (.sl 8 (p.stmts.map Sm.cs))]),(1000004,.cells [.fn 91 [.ptr 1000007 0,.ptr 1000008 0,.ptr 1000003 0]]),(1000005,.map false [.int .i64] (s'.opn.map ibD)),(1000006,.map false [.int .i64] (s'.ages.map iiD)),(1000007,.cells [.fn 92 [.ptr 1000001 0,.ptr 1000002 0,.ptr 1000003 0,.ptr 1000004 0]]),(1000008,.cells [.map 1000009]),(1000009,.map true [.int .i64,.int .i64] (S.map kkD))]:=h
theorem Pn(p:Pr)(S:List (Key×Int))(f:Nat)(at_:Int)(x:Ex)(s s':AS)(v:Int)(hA:∀k v t,qW p S f s k = .ok v t->J4 p S s k v t)(hh:tX p S (qW p S f) at_ x s = .ok v s'):LCall Tryz.prog 91 [.data (.i at_),.data x.d,.ptr 1000007 0,.ptr 1000008 0,.ptr 1000003 0] [(1000001,.cells [.map 1000005]),(1000002,.cells [.map 1000006]),(1000003,.cells [.data (.str p.name),.data (.i p.latency),.data (.i p.tail),.data (.sl 3 (p.params.map Bd.cs)),.data (.sl 3 (p.states.map Bd.cs)),.data (.sl 4 (p.lines.map Ln.cs)),.data (.sl 2 (p.tables.map Tb.cs)),.data (.sl 8 (p.stmts.map Sm.cs))]),(1000004,.cells [.fn 91 [.ptr 1000007 0,.ptr 1000008 0,.ptr 1000003 0]]),(1000005,.map false [.int .i64] (s.opn.map ibD)),(1000006,.map false [.int .i64] (s.ages.map iiD)),(1000007,.cells [.fn 92 [.ptr 1000001 0,.ptr 1000002 0,.ptr 1000003 0,.ptr 1000004 0]]),(1000008,.cells [.map 1000009]),(1000009,.map true [.int .i64,.int .i64] (S.map kkD))] (.ret (.data (.i v))) [(1000001,.cells [.map 1000005]),(1000002,.cells [.map 1000006]),(1000003,.cells [.data (.str p.name),.data (.i p.latency),.data (.i p.tail),.data (.sl 3 (p.params.map Bd.cs)),.data (.sl 3 (p.states.map Bd.cs)),.data (.sl 4 (p.lines.map Ln.cs)),.data (.sl 2 (p.tables.map Tb.cs)),.data (.sl 8 (p.stmts.map Sm.cs))]),(1000004,.cells [.fn 91 [.ptr 1000007 0,.ptr 1000008 0,.ptr 1000003 0]]),(1000005,.map false [.int .i64] (s'.opn.map ibD)),(1000006,.map false [.int .i64] (s'.ages.map iiD)),(1000007,.cells [.fn 92 [.ptr 1000001 0,.ptr 1000002 0,.ptr 1000003 0,.ptr 1000004 0]]),(1000008,.cells [.map 1000009]),(1000009,.map true [.int .i64,.int .i64] (S.map kkD))]:=by
 refine dC Tryz.func91 ?_
 repeat' ((try conv=>whnf)<;>first
  |((refine OH [(4,1000003)] ?_ ?_ ?_);kernel_rfl;(refine wY ?_ ?_);(refine Fq rfl rfl rfl rfl rfl rfl ?_);(repeat((refine wZ ?_ ?_);(first |exact trivial |exact rfl)));exact AC;exact AB)
  |refine z2f rfl (λb hb=>?_) (λhb=>?_)
  |((refine BrI.ff_of ?_ ?_);exact rfl)
  |((refine BrI.tt_of ?_ ?_);exact rfl)
  |(have hq:=z2h (by assumption) hh;clear hh;have hc:=(hA _ _ _ hq).call)
  |(have hq:=z2i (by assumption) (by assumption) hb (by assumption) hh;clear hh;have hc:=(hA _ _ _ hq).call)
  |(have hq0:=z2j (by assumption) (by assumption) hb (by assumption) hh;clear hh;obtain⟨u,hq,rfl⟩:=PE hq0;have hc:=(hA _ _ _ hq).call)
  |(have hq0:=z2l (by assumption) (by assumption) (by assumption) hb IX hh;clear hh;have hi8:=hq0.2;obtain⟨u,hq,rfl⟩:=PE hq0.1;have hc:=(hA _ _ _ hq).call)
  |(have hq0:=z2k (by assumption) (by assumption) hb hh;clear hh;obtain⟨rfl,rfl⟩:=V8 hq0)
  |(have hq0:=z2m (by assumption) (by assumption) (by assumption) hb hh;clear hh;obtain⟨rfl,rfl⟩:=V8 hq0)
  |(have hq0:=z2o (by assumption) (by assumption) (by assumption) hh;clear hh;obtain⟨rfl,rfl⟩:=V8 hq0)
  |exact trivial
  |refine BrI.intro (λh=>?_) (λh=>?_)
  |((refine au ?_ ?_ ?_ ?_ ?_);exact rfl;exact rfl;rotate_left;exact V9 hi8)
  |((refine lent_step' [(1000001,1000001),(1000002,1000002),(1000003,1000003),(1000004,1000004),(1000005,1000005),(1000006,1000006),(1000007,1000007),(1000008,1000008),(1000009,1000009)] (hc) ?_ ?_ ?_ ?_);rotate_left 0;exact rfl;(exact⟨rfl,rfl,rfl,rfl,rfl,rfl,rfl,rfl,rfl,trivial⟩);exact rfl)
  |((refine aP ?_);refine fin_step' [(1000001,1000001),(1000002,1000002),(1000003,1000003),(1000004,1000004),(1000005,1000005),(1000006,1000006),(1000007,1000007),(1000008,1000008),(1000009,1000009)] rfl ?_ ?_)
  |refine And.intro ?_ ?_
  |exact @rfl AV _
  |fail)
 all_goals rfl
theorem MI(p:Pr)(S:List (Key×Int))(f:Nat)(at_:Int)(x:Ex)(s s':AS)(hA:∀k t,qW p S f s k = .pan t->BJ p S s k t)(hh:tX p S (qW p S f) at_ x s = .pan s'):LCall Tryz.prog 91 [.data (.i at_),.data x.d,.ptr 1000007 0,.ptr 1000008 0,.ptr 1000003 0] [(1000001,.cells [.map 1000005]),(1000002,.cells [.map 1000006]),(1000003,.cells [.data (.str p.name),.data (.i p.latency),.data (.i p.tail),.data (.sl 3 (p.params.map Bd.cs)),.data (.sl 3 (p.states.map Bd.cs)),.data (.sl 4 (p.lines.map Ln.cs)),.data (.sl 2 (p.tables.map Tb.cs)),.data (.sl 8 (p.stmts.map Sm.cs))]),(1000004,.cells [.fn 91 [.ptr 1000007 0,.ptr 1000008 0,.ptr 1000003 0]]),(1000005,.map false [.int .i64] (s.opn.map ibD)),(1000006,.map false [.int .i64] (s.ages.map iiD)),(1000007,.cells [.fn 92 [.ptr 1000001 0,.ptr 1000002 0,.ptr 1000003 0,.ptr 1000004 0]]),(1000008,.cells [.map 1000009]),(1000009,.map true [.int .i64,.int .i64] (S.map kkD))] (.pan (.data (.iface 128 (.agg [])))) [(1000001,.cells [.map 1000005]),(1000002,.cells [.map 1000006]),(1000003,.cells [.data (.str p.name),.data (.i p.latency),.data (.i p.tail),.data (.sl 3 (p.params.map Bd.cs)),.data (.sl 3 (p.states.map Bd.cs)),.data (.sl 4 (p.lines.map Ln.cs)),.data (.sl 2 (p.tables.map Tb.cs)),.data (.sl 8 (p.stmts.map Sm.cs))]),(1000004,.cells [.fn 91 [.ptr 1000007 0,.ptr 1000008 0,.ptr 1000003 0]]),(1000005,.map false [.int .i64] (s'.opn.map ibD)),(1000006,.map false [.int .i64] (s'.ages.map iiD)),(1000007,.cells [.fn 92 [.ptr 1000001 0,.ptr 1000002 0,.ptr 1000003 0,.ptr 1000004 0]]),(1000008,.cells [.map 1000009]),(1000009,.map true [.int .i64,.int .i64] (S.map kkD))]:=by
 refine dC Tryz.func91 ?_
 repeat' ((try conv=>whnf)<;>first
  |((refine V6 [(4,1000003)] rfl ?_ ?_ ?_);kernel_rfl;(refine wY ?_ ?_);(refine Fq rfl rfl rfl rfl rfl rfl ?_);(repeat((refine wZ ?_ ?_);(first |exact trivial |exact rfl)));exact AC;exact AB)
  |refine z2f rfl (λb hb=>?_) (λhb=>?_)
  |((refine BrI.ff_of ?_ ?_);exact rfl)
  |((refine BrI.tt_of ?_ ?_);exact rfl)
  |(have hq:=z2h (by assumption) hh;clear hh;have hc:=(hA _ _ hq).call)
  |(have hq:=z2i (by assumption) (by assumption) hb (by assumption) hh;clear hh;have hc:=(hA _ _ hq).call)
  |(have hq:=V7 (z2j (by assumption) (by assumption) hb (by assumption) hh);clear hh;have hc:=(hA _ _ hq).call)
  |(have hq0:=z2l (by assumption) (by assumption) (by assumption) hb zch hh;clear hh;have hi8:=hq0.2;have hq:=V7 hq0.1;have hc:=(hA _ _ hq).call)
  |exact(Jk (z2k (by assumption) (by assumption) hb hh)).elim
  |exact(Jk (z2m (by assumption) (by assumption) (by assumption) hb hh)).elim
  |exact(Jk (z2o (by assumption) (by assumption) (by assumption) hh)).elim
  |exact trivial
  |refine BrI.intro (λh=>?_) (λh=>?_)
  |((refine rest_step _ _ _ [false,false,false,false,false,false,false,true,true] ?_ ?_);kernel_rfl)
  |((refine quiet_step ?_ ?_);kernel_rfl)
  |((refine au ?_ ?_ ?_ ?_ ?_);exact rfl;exact rfl;rotate_left;exact V9 hi8)
  |((refine lent_step' [(1000001,1000001),(1000002,1000002),(1000003,1000003),(1000004,1000004),(1000005,1000005),(1000006,1000006),(1000007,1000007),(1000008,1000008),(1000009,1000009)] (hc) ?_ ?_ ?_ ?_);rotate_left 0;exact rfl;(exact⟨rfl,rfl,rfl,rfl,rfl,rfl,rfl,rfl,rfl,trivial⟩);exact rfl)
  |((refine jB ?_);refine fin_step' [(1000001,1000001),(1000002,1000002),(1000003,1000003),(1000004,1000004),(1000005,1000005),(1000006,1000006),(1000007,1000007),(1000008,1000008),(1000009,1000009)] rfl ?_ ?_)
  |refine And.intro ?_ ?_
  |exact @rfl Block _
  |fail)
 all_goals rfl
theorem zd8{g:Bool}{ks:List KS}{l:List (Int×Int)}{k v:Int}:Block.map g ks (mput (.i k) (.i v) (l.map iiD))=Block.map g ks ((lW k v l).map iiD):=by rw[MF]
theorem z3h{g:Bool}{ks:List KS}{l:List (Int×Bool)}{k:Int}{v:Bool}:Block.map g ks (mput (.i k) (.b v) (l.map ibD))=Block.map g ks ((lW k v l).map ibD):=by rw[VT]
theorem J5{α:Type}{x:α}{P:Prop}(h:none=some x):P:=by cases h
theorem EE(x:Ex)(Rf:Nat->RP)(hy:∀j y,(aA x)[j]? = some y->YOk Rf (0+j) y):LCall Tryz.prog 99 [.yld 1000000,.ptr 1000001 0] [(1000000,.rnd (Rf 0)),(1000001,.cells [.data (.i x.kind),.data (.str x.name),.data (.i x.index),.data (.i x.n),.data (.sl 5 (Ex.css x.l))])] (.ret (.data (.tuple []))) [(1000000,.rnd (Rf (aA x).length)),(1000001,.cells [.data (.i x.kind),.data (.str x.name),.data (.i x.index),.data (.i x.n),.data (.sl 5 (Ex.css x.l))])]:=by
 have:=XC x Rf hy
 rwa[Nat.zero_add]at this
theorem z9l(p:Pr)(S:List (Key×Int))(f:Nat)(i:Int)(s s':AS)(v:Int)(hA:∀s k v t,qW p S f s k = .ok v t->J4 p S s k v t)(hh:qW p S (f+1) s i = .ok v s'):LCall Tryz.prog 92 [.data (.i i),.ptr 1000001 0,.ptr 1000002 0,.ptr 1000003 0,.ptr 1000004 0] [(1000001,.cells [.map 1000005]),(1000002,.cells [.map 1000006]),(1000003,.cells [.data (.str p.name),.data (.i p.latency),.data (.i p.tail),.data (.sl 3 (p.params.map Bd.cs)),.data (.sl 3 (p.states.map Bd.cs)),.data (.sl 4 (p.lines.map Ln.cs)),.data (.sl 2 (p.tables.map Tb.cs)),.data (.sl 8 (p.stmts.map Sm.cs))]),(1000004,.cells [.fn 91 [.ptr 1000007 0,.ptr 1000008 0,.ptr 1000003 0]]),(1000005,.map false [.int .i64] (s.opn.map ibD)),(1000006,.map false [.int .i64] (s.ages.map iiD)),(1000007,.cells [.fn 92 [.ptr 1000001 0,.ptr 1000002 0,.ptr 1000003 0,.ptr 1000004 0]]),(1000008,.cells [.map 1000009]),(1000009,.map true [.int .i64,.int .i64] (S.map kkD))] (.ret (.data (.i v))) [(1000001,.cells [.map 1000005]),(1000002,.cells [.map 1000006]),(1000003,.cells [.data (.str p.name),.data (.i p.latency),.data (.i p.tail),.data (.sl 3 (p.params.map Bd.cs)),.data (.sl 3 (p.states.map Bd.cs)),.data (.sl 4 (p.lines.map Ln.cs)),.data (.sl 2 (p.tables.map Tb.cs)),.data (.sl 8 (p.stmts.map Sm.cs))]),(1000004,.cells [.fn 91 [.ptr 1000007 0,.ptr 1000008 0,.ptr 1000003 0]]),(1000005,.map false [.int .i64] (s'.opn.map ibD)),(1000006,.map false [.int .i64] (s'.ages.map iiD)),(1000007,.cells [.fn 92 [.ptr 1000001 0,.ptr 1000002 0,.ptr 1000003 0,.ptr 1000004 0]]),(1000008,.cells [.map 1000009]),(1000009,.map true [.int .i64,.int .i64] (S.map kkD))]:=by
 refine dC Tryz.func92 ?_
 repeat' ((try conv=>whnf)<;>first
  |refine z2g rfl (λb hb=>?_) (λhb=>?_)
  |refine PD rfl (λn ha=>?_) (λha=>?_)
  |((refine BrI.ff_of ?_ ?_);exact rfl)
  |((refine BrI.tt_of ?_ ?_);exact rfl)
  |exact(Jk (z2p hb (by assumption) hh).symm).elim
  |(have ho:=z2q hb (by assumption);clear hb)
  |(have ho:=z2r hb;clear hb)
  |(have hq:=PK ho ha hh;clear hh;obtain⟨rfl,rfl⟩:=z7b hq)
  |(have hq:=zci ho ha hh;clear hh;obtain⟨hir,hR,rfl,rfl⟩:=hq)
  |((refine au ?_ ?_ ?_ ?_ ?_);exact rfl;exact rfl;rotate_left;exact z2s hir)
  |((refine lF.mk 33 ?_);refine⟨rfl,⟨[(1,.ptr 1000001 0),(2,.ptr 1000002 0),(3,.ptr 1000003 0),(4,.ptr 1000004 0),(5,.ptr 5 0),(9,.ptr 9 0),(32,.fn 99 [.ptr 800001 0])],[(1000001,.cells [.map 1000005]),(1000002,.cells [.map 1000006]),(1000003,.cells [.data (.str p.name),.data (.i p.latency),.data (.i p.tail),.data (.sl 3 (p.params.map Bd.cs)),.data (.sl 3 (p.states.map Bd.cs)),.data (.sl 4 (p.lines.map Ln.cs)),.data (.sl 2 (p.tables.map Tb.cs)),.data (.sl 8 (p.stmts.map Sm.cs))]),(1000004,.cells [.fn 91 [.ptr 1000007 0,.ptr 1000008 0,.ptr 1000003 0]]),(1000005,.map false [.int .i64] ((⟨s.ages,lW i true s.opn⟩:AS).opn.map ibD)),(1000006,.map false [.int .i64] ((⟨s.ages,lW i true s.opn⟩:AS).ages.map iiD)),(1000007,.cells [.fn 92 [.ptr 1000001 0,.ptr 1000002 0,.ptr 1000003 0,.ptr 1000004 0]]),(1000008,.cells [.map 1000009]),(1000009,.map true [.int .i64,.int .i64] (S.map kkD)),(5,.cells [.data (.i i)]),(9,.cells [.data (.i 0)]),(800001,.cells [.data (.i (bH p i).kind),.data (.str (bH p i).name),.data (.i (bH p i).index),.data (.i (bH p i).n),.data (.sl 5 (Ex.css (bH p i).l))])],[(1000000,9),(1000010,5),(1000001,1000001),(1000002,1000002),(1000003,1000003),(1000004,1000004),(1000005,1000005),(1000006,1000006),(1000007,1000007),(1000008,1000008),(1000009,1000009)],[(9,.ptr 1000000 0),(4,.ptr 1000004 0),(5,.ptr 1000010 0)],λj=>[(1000000,.cells [.data (.i (l9 p S f s i j).1)]),(1000010,.cells [.data (.i i)]),(1000001,.cells [.map 1000005]),(1000002,.cells [.map 1000006]),(1000003,.cells [.data (.str p.name),.data (.i p.latency),.data (.i p.tail),.data (.sl 3 (p.params.map Bd.cs)),.data (.sl 3 (p.states.map Bd.cs)),.data (.sl 4 (p.lines.map Ln.cs)),.data (.sl 2 (p.tables.map Tb.cs)),.data (.sl 8 (p.stmts.map Sm.cs))]),(1000004,.cells [.fn 91 [.ptr 1000007 0,.ptr 1000008 0,.ptr 1000003 0]]),(1000005,.map false [.int .i64] ((l9 p S f s i j).2.opn.map ibD)),(1000006,.map false [.int .i64] ((l9 p S f s i j).2.ages.map iiD)),(1000007,.cells [.fn 92 [.ptr 1000001 0,.ptr 1000002 0,.ptr 1000003 0,.ptr 1000004 0]]),(1000008,.cells [.map 1000009]),(1000009,.map true [.int .i64,.int .i64] (S.map kkD))],(aA (bH p i)).length,λj=>[((aA (bH p i)).getD j Ex.none).d],900002,none⟩,⟨?_,rfl,rfl,?_,?_,λj hj=>⟨rfl,rfl,?_⟩,λ_ _ e=>J5 e,⟨_,_,rfl,rfl,λRf Re hy hy2=>⟨1000000,[.ptr 1000001 0],[(1000001,.cells [.data (.i (bH p i).kind),.data (.str (bH p i).name),.data (.i (bH p i).index),.data (.i (bH p i).n),.data (.sl 5 (Ex.css (bH p i).l))])],.data (.tuple []),[(1000001,.cells [.data (.i (bH p i).kind),.data (.str (bH p i).name),.data (.i (bH p i).index),.data (.i (bH p i).n),.data (.sl 5 (Ex.css (bH p i).l))])],[(1000000,900002),(1000001,800001)],EE (bH p i) Rf (λj y hj=>MN (P:=λn d=>LCall Tryz.prog xK [.yld 1000000,.data d] [(1000000,.rnd (Rf n))] (.ret (.b true)) [(1000000,.rnd (Rf (n+1)))]) hy j y (List.getElem?_eq_some_iff.1 hj).1 hj),rfl,?_,rfl,rfl,?_⟩⟩⟩⟩)
  |(have hq:=(hR j hj).ok;clear hj;obtain⟨w,hw1,hw2⟩:=hq)
  |exact trivial
  |refine BrI.intro (λh=>?_) (λh=>?_)
  |((refine eP [(1000000,800001)] (uh (bH p i)) ?_ ?_ ?_ ?_);rotate_left 0;exact rfl;exact trivial;exact rfl)
  |((refine lent_step' [(1000001,1000001),(1000002,1000002),(1000003,1000003),(1000004,1000004),(1000005,1000005),(1000006,1000006),(1000007,1000007),(1000008,1000008),(1000009,1000009)] (Pn p S f i ((aA (bH p i)).getD j Ex.none) (l9 p S f s i j).2 (l9 p S f s i (j+1)).2 w (λk v t h=>hA _ k v t h) hw1) ?_ ?_ ?_ ?_);rotate_left 0;exact rfl;(exact⟨rfl,rfl,rfl,rfl,rfl,rfl,rfl,rfl,rfl,trivial⟩);exact rfl)
  |((refine aP ?_);refine fin_step' [(1000001,1000001),(1000002,1000002),(1000003,1000003),(1000004,1000004),(1000005,1000005),(1000006,1000006),(1000007,1000007),(1000008,1000008),(1000009,1000009)] rfl ?_ ?_)
  |refine lY ?_
  |refine fD ?_
  |refine And.intro ?_ ?_
  |exact @rfl AV _
  |fail)
 all_goals first
  |rfl
  |exact z3h
  |exact zd8
  |((try(conv=>whnf));(exact congrArg (λz=>AV.data (D.i z)) hw2.symm))
theorem z9m{s t:AS}(h:AR.pan s = .pan t):t=s:=by cases h;rfl
theorem z9n{x:Ex}{Rf:Nat->RP}{Re:RP}{d:D}{k:Nat}(h:LCall Tryz.prog xK [.yld 1000000,.data ((aA x).getD k Ex.none).d] [(1000000,.rnd (Rf k))] (.pan (.data d)) [(1000000,.rnd Re)]):∀y,(aA x)[k]? = some y->zf4 Rf Re d (0+k) y:=by
 intro y hy
 rw[List.getD_eq_getElem?_getD,hy]at h
 rw[Nat.zero_add];exact h
theorem z0n(p:Pr)(S:List (Key×Int))(f:Nat)(i:Int)(s s':AS)(hA:∀s k v t,qW p S f s k = .ok v t->J4 p S s k v t)(hP:∀s k t,qW p S f s k = .pan t->BJ p S s k t)(hh:qW p S (f+1) s i = .pan s'):LCall Tryz.prog 92 [.data (.i i),.ptr 1000001 0,.ptr 1000002 0,.ptr 1000003 0,.ptr 1000004 0] [(1000001,.cells [.map 1000005]),(1000002,.cells [.map 1000006]),(1000003,.cells [.data (.str p.name),.data (.i p.latency),.data (.i p.tail),.data (.sl 3 (p.params.map Bd.cs)),.data (.sl 3 (p.states.map Bd.cs)),.data (.sl 4 (p.lines.map Ln.cs)),.data (.sl 2 (p.tables.map Tb.cs)),.data (.sl 8 (p.stmts.map Sm.cs))]),(1000004,.cells [.fn 91 [.ptr 1000007 0,.ptr 1000008 0,.ptr 1000003 0]]),(1000005,.map false [.int .i64] (s.opn.map ibD)),(1000006,.map false [.int .i64] (s.ages.map iiD)),(1000007,.cells [.fn 92 [.ptr 1000001 0,.ptr 1000002 0,.ptr 1000003 0,.ptr 1000004 0]]),(1000008,.cells [.map 1000009]),(1000009,.map true [.int .i64,.int .i64] (S.map kkD))] (.pan (.data (.iface 128 (.agg [])))) [(1000001,.cells [.map 1000005]),(1000002,.cells [.map 1000006]),(1000003,.cells [.data (.str p.name),.data (.i p.latency),.data (.i p.tail),.data (.sl 3 (p.params.map Bd.cs)),.data (.sl 3 (p.states.map Bd.cs)),.data (.sl 4 (p.lines.map Ln.cs)),.data (.sl 2 (p.tables.map Tb.cs)),.data (.sl 8 (p.stmts.map Sm.cs))]),(1000004,.cells [.fn 91 [.ptr 1000007 0,.ptr 1000008 0,.ptr 1000003 0]]),(1000005,.map false [.int .i64] (s'.opn.map ibD)),(1000006,.map false [.int .i64] (s'.ages.map iiD)),(1000007,.cells [.fn 92 [.ptr 1000001 0,.ptr 1000002 0,.ptr 1000003 0,.ptr 1000004 0]]),(1000008,.cells [.map 1000009]),(1000009,.map true [.int .i64,.int .i64] (S.map kkD))]:=by
 refine dC Tryz.func92 ?_
 repeat' ((try conv=>whnf)<;>first
  |refine z2g rfl (λb hb=>?_) (λhb=>?_)
  |refine PD rfl (λn ha=>?_) (λha=>?_)
  |((refine BrI.ff_of ?_ ?_);exact rfl)
  |((refine BrI.tt_of ?_ ?_);exact rfl)
  |(have hq:=z2p hb (by assumption) hh;clear hh;obtain rfl:=z9m hq;clear hq)
  |(have ho:=z2q hb (by assumption);clear hb)
  |(have ho:=z2r hb;clear hb)
  |(have hq:=PK ho ha hh;exact(Jk hq).elim)
  |(have hq:=z7c ho ha hh;clear hh;obtain⟨hir,k,hk,hR,hW⟩:=hq)
  |((refine au ?_ ?_ ?_ ?_ ?_);exact rfl;exact rfl;rotate_left;exact z2s hir)
  |((refine lF.mk 33 ?_);refine⟨rfl,⟨[(1,.ptr 1000001 0),(2,.ptr 1000002 0),(3,.ptr 1000003 0),(4,.ptr 1000004 0),(5,.ptr 5 0),(9,.ptr 9 0),(32,.fn 99 [.ptr 800001 0])],[(1000001,.cells [.map 1000005]),(1000002,.cells [.map 1000006]),(1000003,.cells [.data (.str p.name),.data (.i p.latency),.data (.i p.tail),.data (.sl 3 (p.params.map Bd.cs)),.data (.sl 3 (p.states.map Bd.cs)),.data (.sl 4 (p.lines.map Ln.cs)),.data (.sl 2 (p.tables.map Tb.cs)),.data (.sl 8 (p.stmts.map Sm.cs))]),(1000004,.cells [.fn 91 [.ptr 1000007 0,.ptr 1000008 0,.ptr 1000003 0]]),(1000005,.map false [.int .i64] ((⟨s.ages,lW i true s.opn⟩:AS).opn.map ibD)),(1000006,.map false [.int .i64] ((⟨s.ages,lW i true s.opn⟩:AS).ages.map iiD)),(1000007,.cells [.fn 92 [.ptr 1000001 0,.ptr 1000002 0,.ptr 1000003 0,.ptr 1000004 0]]),(1000008,.cells [.map 1000009]),(1000009,.map true [.int .i64,.int .i64] (S.map kkD)),(5,.cells [.data (.i i)]),(9,.cells [.data (.i 0)]),(800001,.cells [.data (.i (bH p i).kind),.data (.str (bH p i).name),.data (.i (bH p i).index),.data (.i (bH p i).n),.data (.sl 5 (Ex.css (bH p i).l))])],[(1000000,9),(1000010,5),(1000001,1000001),(1000002,1000002),(1000003,1000003),(1000004,1000004),(1000005,1000005),(1000006,1000006),(1000007,1000007),(1000008,1000008),(1000009,1000009)],[(9,.ptr 1000000 0),(4,.ptr 1000004 0),(5,.ptr 1000010 0)],λj=>[(1000000,.cells [.data (.i (l9 p S f s i j).1)]),(1000010,.cells [.data (.i i)]),(1000001,.cells [.map 1000005]),(1000002,.cells [.map 1000006]),(1000003,.cells [.data (.str p.name),.data (.i p.latency),.data (.i p.tail),.data (.sl 3 (p.params.map Bd.cs)),.data (.sl 3 (p.states.map Bd.cs)),.data (.sl 4 (p.lines.map Ln.cs)),.data (.sl 2 (p.tables.map Tb.cs)),.data (.sl 8 (p.stmts.map Sm.cs))]),(1000004,.cells [.fn 91 [.ptr 1000007 0,.ptr 1000008 0,.ptr 1000003 0]]),(1000005,.map false [.int .i64] ((l9 p S f s i j).2.opn.map ibD)),(1000006,.map false [.int .i64] ((l9 p S f s i j).2.ages.map iiD)),(1000007,.cells [.fn 92 [.ptr 1000001 0,.ptr 1000002 0,.ptr 1000003 0,.ptr 1000004 0]]),(1000008,.cells [.map 1000009]),(1000009,.map true [.int .i64,.int .i64] (S.map kkD))],k,λj=>[((aA (bH p i)).getD j Ex.none).d],900002,some (.pan zd7,[(1000000,.cells [.data (.i (l9 p S f s i k).1)]),(1000010,.cells [.data (.i i)]),(1000001,.cells [.map 1000005]),(1000002,.cells [.map 1000006]),(1000003,.cells [.data (.str p.name),.data (.i p.latency),.data (.i p.tail),.data (.sl 3 (p.params.map Bd.cs)),.data (.sl 3 (p.states.map Bd.cs)),.data (.sl 4 (p.lines.map Ln.cs)),.data (.sl 2 (p.tables.map Tb.cs)),.data (.sl 8 (p.stmts.map Sm.cs))]),(1000004,.cells [.fn 91 [.ptr 1000007 0,.ptr 1000008 0,.ptr 1000003 0]]),(1000005,.map false [.int .i64] (s'.opn.map ibD)),(1000006,.map false [.int .i64] (s'.ages.map iiD)),(1000007,.cells [.fn 92 [.ptr 1000001 0,.ptr 1000002 0,.ptr 1000003 0,.ptr 1000004 0]]),(1000008,.cells [.map 1000009]),(1000009,.map true [.int .i64,.int .i64] (S.map kkD))])⟩,⟨?_,rfl,rfl,?_,?_,λj hj=>⟨rfl,rfl,?_⟩,λkk hh ee=>?_,⟨_,_,rfl,rfl,λRf Re hy hy2=>⟨1000000,[.ptr 1000001 0],[(1000001,.cells [.data (.i (bH p i).kind),.data (.str (bH p i).name),.data (.i (bH p i).index),.data (.i (bH p i).n),.data (.sl 5 (Ex.css (bH p i).l))])],.data (.tuple []),[(1000001,.cells [.data (.i (bH p i).kind),.data (.str (bH p i).name),.data (.i (bH p i).index),.data (.i (bH p i).n),.data (.sl 5 (Ex.css (bH p i).l))])],[(1000000,900002),(1000001,800001)],SA (bH p i) Rf Re zd7 k hk (λj y hj h=>MN (P:=λn d=>LCall Tryz.prog xK [.yld 1000000,.data d] [(1000000,.rnd (Rf n))] (.ret (.b true)) [(1000000,.rnd (Rf (n+1)))]) hy j y hj h) (z9n (hy2 (Option.some_ne_none _))),rfl,?_,rfl,rfl,?_⟩⟩⟩⟩)
  |(cases ee;refine⟨rfl,?_⟩)
  |(have hq:=(hR j hj).ok;clear hj;obtain⟨w,hw1,hw2⟩:=hq)
  |exact trivial
  |refine BrI.intro (λh=>?_) (λh=>?_)
  |((refine rest_step _ _ _ [true,true] ?_ ?_);kernel_rfl)
  |((refine quiet_step ?_ ?_);kernel_rfl)
  |((refine eP [(1000000,800001)] (uh (bH p i)) ?_ ?_ ?_ ?_);rotate_left 0;exact rfl;exact trivial;exact rfl)
  |((refine lent_step' [(1000001,1000001),(1000002,1000002),(1000003,1000003),(1000004,1000004),(1000005,1000005),(1000006,1000006),(1000007,1000007),(1000008,1000008),(1000009,1000009)] (Pn p S f i ((aA (bH p i)).getD j Ex.none) (l9 p S f s i j).2 (l9 p S f s i (j+1)).2 w (λk v t h=>hA _ k v t h) hw1) ?_ ?_ ?_ ?_);rotate_left 0;exact rfl;(exact⟨rfl,rfl,rfl,rfl,rfl,rfl,rfl,rfl,rfl,trivial⟩);exact rfl)
  |((refine lent_step' [(1000001,1000001),(1000002,1000002),(1000003,1000003),(1000004,1000004),(1000005,1000005),(1000006,1000006),(1000007,1000007),(1000008,1000008),(1000009,1000009)] (MI p S f i ((aA (bH p i)).getD k Ex.none) (l9 p S f s i k).2 s' (λk t h=>hP _ k t h) hW) ?_ ?_ ?_ ?_);rotate_left 0;exact rfl;(exact⟨rfl,rfl,rfl,rfl,rfl,rfl,rfl,rfl,rfl,trivial⟩);exact rfl)
  |((refine jB ?_);refine fin_step' [(1000001,1000001),(1000002,1000002),(1000003,1000003),(1000004,1000004),(1000005,1000005),(1000006,1000006),(1000007,1000007),(1000008,1000008),(1000009,1000009)] rfl ?_ ?_)
  |refine lY ?_
  |refine fD ?_
  |((refine lL ?_ ?_);kernel_rfl)
  |refine And.intro ?_ ?_
  |exact @rfl AV _
  |exact @rfl Block _
  |fail)
 all_goals first
  |rfl
  |exact z3h
  |((try(conv=>whnf));(exact congrArg (λz=>AV.data (D.i z)) hw2.symm))
theorem GM(p:Pr)(S:List (Key×Int)):∀(f:Nat) (s:AS) (i:Int),(∀v s',qW p S f s i = .ok v s'->J4 p S s i v s')/\(∀t,qW p S f s i = .pan t->BJ p S s i t)
 | 0,_,_=>⟨λ_ _ h=>(by cases h),λ_ h=>(by cases h)⟩
 |f+1,s,i=>⟨λv s' h=>z9l p S f i s s' v (λs k v t h=>(GM p S f s k).1 v t h) h,λt h=>z0n p S f i s t (λs k v t h=>(GM p S f s k).1 v t h) (λs k t h=>(GM p S f s k).2 t h) h⟩
end Go.Proofs.YtaipffoajgkljaaGreatDoor
