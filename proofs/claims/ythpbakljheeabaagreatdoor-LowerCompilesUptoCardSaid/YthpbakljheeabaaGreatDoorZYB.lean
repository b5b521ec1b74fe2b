/- Contracts: package tails: the parts of an expression are yielded. -/
import Derived.Test.YthpbakljheeabaaGreatDoorZTA
import Derived.Test.YthpbakljheeabaaGreatDoorZK6
set_option linter.unusedSectionVars false
set_option linter.unusedSimpArgs false
set_option linter.unusedVariables false
set_option maxHeartbeats 8000000
namespace Go.Proofs.YthpbakljheeabaaGreatDoor
open Go.Fw Go.Fw.Ref15 Go.Fw.Rg Go.Fw.Tl
set_option maxRecDepth 10000
variable [ah]
abbrev YOk(Rf:Nat->RP)(n:Nat)(y:Ex):Prop:=LCall Tryz.prog xn [.yld 1000000,.data y.d] [(1000000,.rnd (Rf n))] (.ret (.b true)) [(1000000,.rnd (Rf (n+1)))]
abbrev z9o(Rf:Nat->RP)(Re:RP)(d:D)(n:Nat)(y:Ex):Prop:=LCall Tryz.prog xn [.yld 1000000,.data y.d] [(1000000,.rnd (Rf n))] (.pan (.data d)) [(1000000,.rnd Re)]
theorem Ip(x:Ex)(Rf:Nat->RP)(i:Nat)(hy:∀j y,(aC x)[j]? = some y->YOk Rf (i+j) y):LCall Tryz.prog 71 [.data x.d,.ptr 1000001 0,.ptr 1000002 0] [(1000000,.rnd (Rf i)),(1000001,.cells [.yld 1000000]),(1000002,.cells [.fn 71 [.ptr 1000001 0,.ptr 1000002 0]])] (.ret (.b true)) [(1000000,.rnd (Rf (i+(aC x).length))),(1000001,.cells [.yld 1000000]),(1000002,.cells [.fn 71 [.ptr 1000001 0,.ptr 1000002 0]])]:=by
 revert i;revert x;refine Ex.ind λx ih i hy=>?_
 refine jJ Tryz.func71 λhf=>?_
 have hlen:=Ex.fits (vJ.data (hf (.data x.d) (by simp)))
 clear hf
 repeat' ((try(conv=>whnf))<;>first
  |(have hq:m=i+(aC x).length:=Uw hd0 hI0;clear hI0;subst hq)
  |exact trivial
  |exact aj hd0 ‹_›
  |refine jB hd0 ?_
  |refine fV hd0 ?_
  |refine BrI.intro (λh=>?_) (λh=>?_)
  |(exact Bool.noConfusion (h:false=true))
  |((refine au.mk 0 ?_);refine⟨aF (x.l) 14 (λ(m:(Nat))=>[]) (λ(m:(Nat))=>[(1000000,.rnd (Rf m)),(1000001,.cells [.yld 1000000]),(1000002,.cells [.fn 71 [.ptr 1000001 0,.ptr 1000002 0]]),(3,.cells [.data (.i x.kind),.data (.str x.name),.data (.i x.index),.data (.i x.n),.data (.sl 5 (Ex.css x.l))])]) [2,12,13] (λi0 r0 m=>m=i+(1+(dC (x.l.take i0)).length)),?_⟩;refine af (i+1) ?_ ?_ (λi0 (m:(Nat)) hd0 hI0=>?_) (λi0 x0 r0 (m:(Nat)) hd0 hl0 hI0=>?_))
  |(refine ag hd0 (m+(aC x0).length) ?_ ?_)
  |((refine lent_step' [] (hy 0 x (J4 x)) ?_ ?_ ?_ ?_);rotate_left 0;exact rfl;(exact⟨rfl,trivial⟩);exact rfl)
  |((refine lent_step' [(1000000,1000000),(1000001,1000001),(1000002,1000002)] (ih x0 (bn hd0) m (z6c hd0 hI0 hy)) ?_ ?_ ?_ ?_);rotate_left 0;exact rfl;(exact⟨rfl,rfl,rfl,trivial⟩);exact rfl)
  |((refine aI ?_);refine fin_step' [(1000000,1000000),(1000001,1000001),(1000002,1000002)] rfl ?_ ?_)
  |((refine ay ?_ ?_ ?_ ?_ ?_);exact rfl;exact rfl;rotate_left;(exact dS hd0))
  |((refine aK ?_ ?_);exact rfl)
  |(refine And.intro ?_ ?_)
  |exact @rfl AV _
  |fail)
 all_goals first
  |(rfl)
  |((exact Nr hd0 hI0))
  |skip
theorem U5(x:Ex)(Rf:Nat->RP)(hy:∀j y,(aC x)[j]? = some y->YOk Rf (0+j) y):LCall Tryz.prog 70 [.yld 1000000,.ptr 1000001 0] [(1000000,.rnd (Rf 0)),(1000001,.cells [.data (.i x.kind),.data (.str x.name),.data (.i x.index),.data (.i x.n),.data (.sl 5 (Ex.css x.l))])] (.ret (.data (.tuple []))) [(1000000,.rnd (Rf (0+(aC x).length))),(1000001,.cells [.data (.i x.kind),.data (.str x.name),.data (.i x.index),.data (.i x.n),.data (.sl 5 (Ex.css x.l))])]:=by
 refine dX Tryz.func70 ?_
 repeat' ((try(conv=>whnf))<;>first
  |exact trivial
  |((refine lent_step' [(1000000,1000000),(1000001,2),(1000002,3)] (Ip x Rf 0 hy) ?_ ?_ ?_ ?_);rotate_left 0;exact rfl;(exact⟨rfl,rfl,rfl,trivial⟩);exact rfl)
  |((refine aI ?_);refine fin_step' [(1000000,1000000),(1000001,1000001)] rfl ?_ ?_)
  |(refine And.intro ?_ ?_)
  |fail)
 all_goals first
  |skip
theorem PE(x:Ex)(Rf:Nat->RP)(Re:RP)(d:D)(i q:Nat)(hq:q<(aC x).length)(hy:∀j y,j<q->(aC x)[j]? = some y->YOk Rf (i+j) y)(hp:∀y,(aC x)[q]? = some y->z9o Rf Re d (i+q) y):LCall Tryz.prog 71 [.data x.d,.ptr 1000001 0,.ptr 1000002 0] [(1000000,.rnd (Rf i)),(1000001,.cells [.yld 1000000]),(1000002,.cells [.fn 71 [.ptr 1000001 0,.ptr 1000002 0]])] (.pan (.data d)) [(1000000,.rnd Re),(1000001,.cells [.yld 1000000]),(1000002,.cells [.fn 71 [.ptr 1000001 0,.ptr 1000002 0]])]:=by
 revert q i;revert x;refine Ex.ind λx ih i q hq hy hp=>?_
 refine jJ Tryz.func71 λhf=>?_
 have hlen:=Ex.fits (vJ.data (hf (.data x.d) (by simp)))
 have hsp:q=0\/0<q:=by omega
 clear hf
 repeat' ((try(conv=>whnf))<;>first
  |(rcases hsp with rfl |hq0)
  |(exact absurd hq (by have:=Uw hd0 hI0.1;have:=hI0.2;omega))
  |(obtain⟨hI1,hI2⟩:=hI0;rcases z6d hd0 hI1 hI2 with hc |⟨t,hqt,ht⟩)
  |exact trivial
  |exact aj hd0 ‹_›
  |refine fV hd0 ?_
  |refine BrI.intro (λh=>?_) (λh=>?_)
  |(exact Bool.noConfusion (h:false=true))
  |((refine au.mk 0 ?_);refine⟨aF (x.l) 14 (λ(m:(Nat))=>[]) (λ(m:(Nat))=>[(1000000,.rnd (Rf m)),(1000001,.cells [.yld 1000000]),(1000002,.cells [.fn 71 [.ptr 1000001 0,.ptr 1000002 0]]),(3,.cells [.data (.i x.kind),.data (.str x.name),.data (.i x.index),.data (.i x.n),.data (.sl 5 (Ex.css x.l))])]) [2,12,13] (λi0 r0 m=>m=i+(1+(dC (x.l.take i0)).length)/\m<=i+q),?_⟩;refine af (i+1) ?_ ?_ (λi0 (m:(Nat)) hd0 hI0=>?_) (λi0 x0 r0 (m:(Nat)) hd0 hl0 hI0=>?_))
  |(refine ag hd0 (m+(aC x0).length) ?_ ?_)
  |((refine lent_step' [] (hp x (J4 x)) ?_ ?_ ?_ ?_);rotate_left 0;exact rfl;(exact⟨rfl,trivial⟩);exact rfl)
  |((refine lent_step' [] (hy 0 x hq0 (J4 x)) ?_ ?_ ?_ ?_);rotate_left 0;exact rfl;(exact⟨rfl,trivial⟩);exact rfl)
  |((refine lent_step' [(1000000,1000000),(1000001,1000001),(1000002,1000002)] (Ip x0 Rf m (z1e hd0 hI1 hy hc)) ?_ ?_ ?_ ?_);rotate_left 0;exact rfl;(exact⟨rfl,rfl,rfl,trivial⟩);exact rfl)
  |((refine lent_step' [(1000000,1000000),(1000001,1000001),(1000002,1000002)] (ih x0 (bn hd0) m t ht (z1f hd0 hI1 hy hqt) (z6e hd0 hI1 hp hqt)) ?_ ?_ ?_ ?_);rotate_left 0;exact rfl;(exact⟨rfl,rfl,rfl,trivial⟩);exact rfl)
  |((refine jc ?_);refine fin_step' [(1000000,1000000),(1000001,1000001),(1000002,1000002)] rfl ?_ ?_)
  |((refine ay ?_ ?_ ?_ ?_ ?_);exact rfl;exact rfl;rotate_left;(exact dS hd0))
  |((refine aK ?_ ?_);exact rfl)
  |(refine And.intro ?_ ?_)
  |exact @rfl AV _
  |exact @rfl Block _
  |fail)
 all_goals first
  |(rfl)
  |((exact Nr hd0 hI1))
  |((exact hc))
  |(omega)
  |skip
theorem PG(x:Ex)(Rf:Nat->RP)(Re:RP)(d:D)(q:Nat)(hq:q<(aC x).length)(hy:∀j y,j<q->(aC x)[j]? = some y->YOk Rf (0+j) y)(hp:∀y,(aC x)[q]? = some y->z9o Rf Re d (0+q) y):LCall Tryz.prog 70 [.yld 1000000,.ptr 1000001 0] [(1000000,.rnd (Rf 0)),(1000001,.cells [.data (.i x.kind),.data (.str x.name),.data (.i x.index),.data (.i x.n),.data (.sl 5 (Ex.css x.l))])] (.pan (.data d)) [(1000000,.rnd Re),(1000001,.cells [.data (.i x.kind),.data (.str x.name),.data (.i x.index),.data (.i x.n),.data (.sl 5 (Ex.css x.l))])]:=by
 refine dX Tryz.func70 ?_
 repeat' ((try(conv=>whnf))<;>first
  |exact trivial
  |((refine lent_step' [(1000000,1000000),(1000001,2),(1000002,3)] (PE x Rf Re d 0 q hq hy hp) ?_ ?_ ?_ ?_);rotate_left 0;exact rfl;(exact⟨rfl,rfl,rfl,trivial⟩);exact rfl)
  |((refine jc ?_);refine fin_step' [(1000000,1000000),(1000001,1000001)] rfl ?_ ?_)
  |(refine And.intro ?_ ?_)
  |exact @rfl Block _
  |fail)
 all_goals first
  |skip
theorem wM(x:Ex)  : LCall Tryz.prog 54 [.data x.d] [] (.ret (.fn 70 [.ptr 1000000 0])) [(1000000,.cells [.data (.i x.kind),.data (.str x.name),.data (.i x.index),.data (.i x.n),.data (.sl 5 (Ex.css x.l))])]:=by
 refine dX Tryz.func54 ?_
 repeat' ((try(conv=>whnf))<;>first
  |exact trivial
  |((refine aI ?_);refine fin_step' [(1000000,1)] rfl ?_ ?_)
  |(refine And.intro ?_ ?_)
  |exact @rfl AV _
  |fail)
 all_goals first
  |skip
abbrev z7o(p:Pr)(S:List (Key×Int))(s:AS):Heap:=[(1000001,.cells [.map 1000005]),(1000002,.cells [.map 1000006]),(1000003,.cells [.data (.str p.name),.data (.i p.latency),.data (.i p.tail),.data (.sl 3 (p.params.map Bd.cs)),.data (.sl 3 (p.states.map Bd.cs)),.data (.sl 4 (p.lines.map Ln.cs)),.data (.sl 2 (p.tables.map Tb.cs)),.data (.sl 8 (p.stmts.map Sm.cs))]),(1000004,.cells [.fn 56 [.ptr 1000007 0,.ptr 1000008 0,.ptr 1000003 0]]),(1000005,.map false [.int .i64] (s.opn.map ibD)),(1000006,.map false [.int .i64] (s.ages.map iiD)),(1000007,.cells [.fn 57 [.ptr 1000001 0,.ptr 1000002 0,.ptr 1000003 0,.ptr 1000004 0]]),(1000008,.cells [.map 1000009]),(1000009,.map true [.int .i64,.int .i64] (S.map kkD))]
abbrev z7e:D:=.iface 107 (.agg [])
def Iq(p:Pr)(S:List (Key×Int))(s:AS)(i v:Int)(s':AS):Prop:=LCall Tryz.prog 57 [.data (.i i),.ptr 1000001 0,.ptr 1000002 0,.ptr 1000003 0,.ptr 1000004 0] (z7o p S s) (.ret (.data (.i v))) (z7o p S s')
def Ah(p:Pr)(S:List (Key×Int))(s:AS)(i:Int)(s':AS):Prop:=LCall Tryz.prog 57 [.data (.i i),.ptr 1000001 0,.ptr 1000002 0,.ptr 1000003 0,.ptr 1000004 0] (z7o p S s) (.pan (.data z7e)) (z7o p S s')
theorem Iq.call{p:Pr}{S:List (Key×Int)}{s s':AS}{i v:Int}(h:Iq p S s i v s'):LCall Tryz.prog 57 [.data (.i i),.ptr 1000001 0,.ptr 1000002 0,.ptr 1000003 0,.ptr 1000004 0] [(1000001,.cells [.map 1000005]),(1000002,.cells [.map 1000006]),(1000003,.cells [.data (.str p.name),.data (.i p.latency),.data (.i p.tail),.data (.sl 3 (p.params.map Bd.cs)),.data (.sl 3 (p.states.map Bd.cs)),.data (.sl 4 (p.lines.map Ln.cs)),.data (.sl 2 (p.tables.map Tb.cs)),.data (.sl 8 (p.stmts.map Sm.cs))]),(1000004,.cells [.fn 56 [.ptr 1000007 0,.ptr 1000008 0,.ptr 1000003 0]]),(1000005,.map false [.int .i64] (s.opn.map ibD)),(1000006,.map false [.int .i64] (s.ages.map iiD)),(1000007,.cells [.fn 57 [.ptr 1000001 0,.ptr 1000002 0,.ptr 1000003 0,.ptr 1000004 0]]),(1000008,.cells [.map 1000009]),(1000009,.map true [.int .i64,.int .i64] (S.map kkD))] (.ret (.data (.i v))) [(1000001,.cells [.map 1000005]),(1000002,.cells [.map 1000006]),(1000003,.cells [.data (.str p.name),.data (.i p.latency),.data (.i p.tail),.data (.sl 3 (p.params.map Bd.cs)),.data (.sl 3 (p.states.map Bd.cs)),.data (.sl 4 (p.lines.map Ln.cs)),.data (.sl 2 (p.tables.map Tb.cs)),.data (.sl 8 (p.stmts.map Sm.cs))]),(1000004,.cells [.fn 56 [.ptr 1000007 0,.ptr 1000008 0,.ptr 1000003 0]]),(1000005,.map false [.int .i64] (s'.opn.map ibD)),(1000006,.map false [.int .i64] (s'.ages.map iiD)),(1000007,.cells [.fn 57 [.ptr 1000001 0,.ptr 1000002 0,.ptr 1000003 0,.ptr 1000004 0]]),(1000008,.cells [.map 1000009]),(1000009,.map true [.int .i64,.int .i64] (S.map kkD))]:=h
theorem Ah.call{p:Pr}{S:List (Key×Int)}{s s':AS}{i:Int}(h:Ah p S s i s'):LCall Tryz.prog 57 [.data (.i i),.ptr 1000001 0,.ptr 1000002 0,.ptr 1000003 0,.ptr 1000004 0] [(1000001,.cells [.map 1000005]),(1000002,.cells [.map 1000006]),(1000003,.cells [.data (.str p.name),.data (.i p.latency),.data (.i p.tail),.data (.sl 3 (p.params.map Bd.cs)),.data (.sl 3 (p.states.map Bd.cs)),.data (.sl 4 (p.lines.map Ln.cs)),.data (.sl 2 (p.tables.map Tb.cs)),.data (.sl 8 (p.stmts.map Sm.cs))]),(1000004,.cells [.fn 56 [.ptr 1000007 0,.ptr 1000008 0,.ptr 1000003 0]]),(1000005,.map false [.int .i64] (s.opn.map ibD)),(1000006,.map false [.int .i64] (s.ages.map iiD)),(1000007,.cells [.fn 57 [.ptr 1000001 0,.ptr 1000002 0,.ptr 1000003 0,.ptr 1000004 0]]),(1000008,.cells [.map 1000009]),(1000009,.map true [.int .i64,.int .i64] (S.map kkD))] (.pan (.data (.iface 107 (.agg [])))) [(1000001,.cells [.map 1000005]),(1000002,.cells [.map 1000006]),(1000003,.cells [.data (.str p.name),.data (.i p.latency),.data (.i p.tail),.data (.sl 3 (p.params.map Bd.cs)),.data (.sl 3 (p.states.map Bd.cs)),.data (.sl 4 (p.lines.map Ln.cs)),.data (.sl 2 (p.tables.map Tb.cs)),.data (.sl 8 (p.stmts.map Sm.cs))]),(1000004,.cells [.fn 56 [.ptr 1000007 0,.ptr 1000008 0,.ptr 1000003 0]]),(1000005,.map false [.int .i64] (s'.opn.map ibD)),(1000006,.map false [.int .i64] (s'.ages.map iiD)),(1000007,.cells [.fn 57 [.ptr 1000001 0,.ptr 1000002 0,.ptr 1000003 0,.ptr 1000004 0]]),(1000008,.cells [.map 1000009]),(1000009,.map true [.int .i64,.int .i64] (S.map kkD))]:=h
theorem Nh(p:Pr)(S:List (Key×Int))(f:Nat)(at_:Int)(x:Ex)(s s':AS)(v:Int)(hA:∀k v t,qf p S f s k = .ok v t->Iq p S s k v t)(hh:rW p S (qf p S f) at_ x s = .ok v s'):LCall Tryz.prog 56 [.data (.i at_),.data x.d,.ptr 1000007 0,.ptr 1000008 0,.ptr 1000003 0] [(1000001,.cells [.map 1000005]),(1000002,.cells [.map 1000006]),(1000003,.cells [.data (.str p.name),.data (.i p.latency),.data (.i p.tail),.data (.sl 3 (p.params.map Bd.cs)),.data (.sl 3 (p.states.map Bd.cs)),.data (.sl 4 (p.lines.map Ln.cs)),.data (.sl 2 (p.tables.map Tb.cs)),.data (.sl 8 (p.stmts.map Sm.cs))]),(1000004,.cells [.fn 56 [.ptr 1000007 0,.ptr 1000008 0,.ptr 1000003 0]]),(1000005,.map false [.int .i64] (s.opn.map ibD)),(1000006,.map false [.int .i64] (s.ages.map iiD)),(1000007,.cells [.fn 57 [.ptr 1000001 0,.ptr 1000002 0,.ptr 1000003 0,.ptr 1000004 0]]),(1000008,.cells [.map 1000009]),(1000009,.map true [.int .i64,.int .i64] (S.map kkD))] (.ret (.data (.i v))) [(1000001,.cells [.map 1000005]),(1000002,.cells [.map 1000006]),(1000003,.cells [.data (.str p.name),.data (.i p.latency),.data (.i p.tail),.data (.sl 3 (p.params.map Bd.cs)),.data (.sl 3 (p.states.map Bd.cs)),.data (.sl 4 (p.lines.map Ln.cs)),.data (.sl 2 (p.tables.map Tb.cs)),.data (.sl 8 (p.stmts.map Sm.cs))]),(1000004,.cells [.fn 56 [.ptr 1000007 0,.ptr 1000008 0,.ptr 1000003 0]]),(1000005,.map false [.int .i64] (s'.opn.map ibD)),(1000006,.map false [.int .i64] (s'.ages.map iiD)),(1000007,.cells [.fn 57 [.ptr 1000001 0,.ptr 1000002 0,.ptr 1000003 0,.ptr 1000004 0]]),(1000008,.cells [.map 1000009]),(1000009,.map true [.int .i64,.int .i64] (S.map kkD))]:=by
 refine dX Tryz.func56 ?_
 repeat' ((try(conv=>whnf))<;>first
  |((refine LX [(4,1000003)] ?_ ?_ ?_);kernel_rfl;(refine vU ?_ ?_);(refine DV rfl rfl rfl rfl rfl rfl ?_);(repeat((refine vV ?_ ?_);(first |exact trivial |exact rfl)));(exact zD);(exact zC))
  |(refine YG rfl (λb hb=>?_) (λhb=>?_))
  |((refine BrI.ff_of ?_ ?_);exact rfl)
  |((refine BrI.tt_of ?_ ?_);exact rfl)
  |(have hq:=YI (by assumption) hh;clear hh;have hc:=(hA _ _ _ hq).call)
  |(have hq:=YJ (by assumption) (by assumption) hb (by assumption) hh;clear hh;have hc:=(hA _ _ _ hq).call)
  |(have hq0:=YK (by assumption) (by assumption) hb (by assumption) hh;clear hh;obtain⟨u,hq,rfl⟩:=Nu hq0;have hc:=(hA _ _ _ hq).call)
  |(have hq0:=YM (by assumption) (by assumption) (by assumption) hb Gx hh;clear hh;have hi8:=hq0.2;obtain⟨u,hq,rfl⟩:=Nu hq0.1;have hc:=(hA _ _ _ hq).call)
  |(have hq0:=YL (by assumption) (by assumption) hb hh;clear hh;obtain⟨rfl,rfl⟩:=Uz hq0)
  |(have hq0:=YN (by assumption) (by assumption) (by assumption) hb hh;clear hh;obtain⟨rfl,rfl⟩:=Uz hq0)
  |(have hq0:=YO (by assumption) (by assumption) (by assumption) hh;clear hh;obtain⟨rfl,rfl⟩:=Uz hq0)
  |exact trivial
  |refine BrI.intro (λh=>?_) (λh=>?_)
  |((refine ay ?_ ?_ ?_ ?_ ?_);exact rfl;exact rfl;rotate_left;exact UA hi8)
  |((refine lent_step' [(1000001,1000001),(1000002,1000002),(1000003,1000003),(1000004,1000004),(1000005,1000005),(1000006,1000006),(1000007,1000007),(1000008,1000008),(1000009,1000009)] (hc) ?_ ?_ ?_ ?_);rotate_left 0;exact rfl;(exact⟨rfl,rfl,rfl,rfl,rfl,rfl,rfl,rfl,rfl,trivial⟩);exact rfl)
  |((refine aI ?_);refine fin_step' [(1000001,1000001),(1000002,1000002),(1000003,1000003),(1000004,1000004),(1000005,1000005),(1000006,1000006),(1000007,1000007),(1000008,1000008),(1000009,1000009)] rfl ?_ ?_)
  |(refine And.intro ?_ ?_)
  |exact @rfl AV _
  |fail)
 all_goals first
  |(rfl)
  |skip
theorem JZ(p:Pr)(S:List (Key×Int))(f:Nat)(at_:Int)(x:Ex)(s s':AS)(hA:∀k t,qf p S f s k = .pan t->Ah p S s k t)(hh:rW p S (qf p S f) at_ x s = .pan s'):LCall Tryz.prog 56 [.data (.i at_),.data x.d,.ptr 1000007 0,.ptr 1000008 0,.ptr 1000003 0] [(1000001,.cells [.map 1000005]),(1000002,.cells [.map 1000006]),(1000003,.cells [.data (.str p.name),.data (.i p.latency),.data (.i p.tail),.data (.sl 3 (p.params.map Bd.cs)),.data (.sl 3 (p.states.map Bd.cs)),.data (.sl 4 (p.lines.map Ln.cs)),.data (.sl 2 (p.tables.map Tb.cs)),.data (.sl 8 (p.stmts.map Sm.cs))]),(1000004,.cells [.fn 56 [.ptr 1000007 0,.ptr 1000008 0,.ptr 1000003 0]]),(1000005,.map false [.int .i64] (s.opn.map ibD)),(1000006,.map false [.int .i64] (s.ages.map iiD)),(1000007,.cells [.fn 57 [.ptr 1000001 0,.ptr 1000002 0,.ptr 1000003 0,.ptr 1000004 0]]),(1000008,.cells [.map 1000009]),(1000009,.map true [.int .i64,.int .i64] (S.map kkD))] (.pan (.data (.iface 107 (.agg [])))) [(1000001,.cells [.map 1000005]),(1000002,.cells [.map 1000006]),(1000003,.cells [.data (.str p.name),.data (.i p.latency),.data (.i p.tail),.data (.sl 3 (p.params.map Bd.cs)),.data (.sl 3 (p.states.map Bd.cs)),.data (.sl 4 (p.lines.map Ln.cs)),.data (.sl 2 (p.tables.map Tb.cs)),.data (.sl 8 (p.stmts.map Sm.cs))]),(1000004,.cells [.fn 56 [.ptr 1000007 0,.ptr 1000008 0,.ptr 1000003 0]]),(1000005,.map false [.int .i64] (s'.opn.map ibD)),(1000006,.map false [.int .i64] (s'.ages.map iiD)),(1000007,.cells [.fn 57 [.ptr 1000001 0,.ptr 1000002 0,.ptr 1000003 0,.ptr 1000004 0]]),(1000008,.cells [.map 1000009]),(1000009,.map true [.int .i64,.int .i64] (S.map kkD))]:=by
 refine dX Tryz.func56 ?_
 repeat' ((try(conv=>whnf))<;>first
  |((refine Ux [(4,1000003)] rfl ?_ ?_ ?_);kernel_rfl;(refine vU ?_ ?_);(refine DV rfl rfl rfl rfl rfl rfl ?_);(repeat((refine vV ?_ ?_);(first |exact trivial |exact rfl)));(exact zD);(exact zC))
  |(refine YG rfl (λb hb=>?_) (λhb=>?_))
  |((refine BrI.ff_of ?_ ?_);exact rfl)
  |((refine BrI.tt_of ?_ ?_);exact rfl)
  |(have hq:=YI (by assumption) hh;clear hh;have hc:=(hA _ _ hq).call)
  |(have hq:=YJ (by assumption) (by assumption) hb (by assumption) hh;clear hh;have hc:=(hA _ _ hq).call)
  |(have hq:=Uy (YK (by assumption) (by assumption) hb (by assumption) hh);clear hh;have hc:=(hA _ _ hq).call)
  |(have hq0:=YM (by assumption) (by assumption) (by assumption) hb z6f hh;clear hh;have hi8:=hq0.2;have hq:=Uy hq0.1;have hc:=(hA _ _ hq).call)
  |(exact(Hm (YL (by assumption) (by assumption) hb hh)).elim)
  |(exact(Hm (YN (by assumption) (by assumption) (by assumption) hb hh)).elim)
  |(exact(Hm (YO (by assumption) (by assumption) (by assumption) hh)).elim)
  |exact trivial
  |refine BrI.intro (λh=>?_) (λh=>?_)
  |((refine rest_step _ _ _ [false,false,false,false,false,false,false,true,true] ?_ ?_);kernel_rfl)
  |((refine quiet_step ?_ ?_);kernel_rfl)
  |((refine ay ?_ ?_ ?_ ?_ ?_);exact rfl;exact rfl;rotate_left;exact UA hi8)
  |((refine lent_step' [(1000001,1000001),(1000002,1000002),(1000003,1000003),(1000004,1000004),(1000005,1000005),(1000006,1000006),(1000007,1000007),(1000008,1000008),(1000009,1000009)] (hc) ?_ ?_ ?_ ?_);rotate_left 0;exact rfl;(exact⟨rfl,rfl,rfl,rfl,rfl,rfl,rfl,rfl,rfl,trivial⟩);exact rfl)
  |((refine jc ?_);refine fin_step' [(1000001,1000001),(1000002,1000002),(1000003,1000003),(1000004,1000004),(1000005,1000005),(1000006,1000006),(1000007,1000007),(1000008,1000008),(1000009,1000009)] rfl ?_ ?_)
  |(refine And.intro ?_ ?_)
  |exact @rfl Block _
  |fail)
 all_goals first
  |(rfl)
  |skip
theorem z7f{g:Bool}{ks:List KS}{l:List (Int×Int)}{k v:Int}:Block.map g ks (mput (.i k) (.i v) (l.map iiD))=Block.map g ks ((lL k v l).map iiD):=by rw[JW]
theorem YZ{g:Bool}{ks:List KS}{l:List (Int×Bool)}{k:Int}{v:Bool}:Block.map g ks (mput (.i k) (.b v) (l.map ibD))=Block.map g ks ((lL k v l).map ibD):=by rw[Uh]
theorem Ir{α:Type}{x:α}{P:Prop}(h:none=some x):P:=by cases h
theorem CZ(x:Ex)(Rf:Nat->RP)(hy:∀j y,(aC x)[j]? = some y->YOk Rf (0+j) y):LCall Tryz.prog 70 [.yld 1000000,.ptr 1000001 0] [(1000000,.rnd (Rf 0)),(1000001,.cells [.data (.i x.kind),.data (.str x.name),.data (.i x.index),.data (.i x.n),.data (.sl 5 (Ex.css x.l))])] (.ret (.data (.tuple []))) [(1000000,.rnd (Rf (aC x).length)),(1000001,.cells [.data (.i x.kind),.data (.str x.name),.data (.i x.index),.data (.i x.n),.data (.sl 5 (Ex.css x.l))])]:=by
 have:=U5 x Rf hy
 rwa[Nat.zero_add]at this
theorem z2h(p:Pr)(S:List (Key×Int))(f:Nat)(i:Int)(s s':AS)(v:Int)(hA:∀s k v t,qf p S f s k = .ok v t->Iq p S s k v t)(hh:qf p S (f+1) s i = .ok v s'):LCall Tryz.prog 57 [.data (.i i),.ptr 1000001 0,.ptr 1000002 0,.ptr 1000003 0,.ptr 1000004 0] [(1000001,.cells [.map 1000005]),(1000002,.cells [.map 1000006]),(1000003,.cells [.data (.str p.name),.data (.i p.latency),.data (.i p.tail),.data (.sl 3 (p.params.map Bd.cs)),.data (.sl 3 (p.states.map Bd.cs)),.data (.sl 4 (p.lines.map Ln.cs)),.data (.sl 2 (p.tables.map Tb.cs)),.data (.sl 8 (p.stmts.map Sm.cs))]),(1000004,.cells [.fn 56 [.ptr 1000007 0,.ptr 1000008 0,.ptr 1000003 0]]),(1000005,.map false [.int .i64] (s.opn.map ibD)),(1000006,.map false [.int .i64] (s.ages.map iiD)),(1000007,.cells [.fn 57 [.ptr 1000001 0,.ptr 1000002 0,.ptr 1000003 0,.ptr 1000004 0]]),(1000008,.cells [.map 1000009]),(1000009,.map true [.int .i64,.int .i64] (S.map kkD))] (.ret (.data (.i v))) [(1000001,.cells [.map 1000005]),(1000002,.cells [.map 1000006]),(1000003,.cells [.data (.str p.name),.data (.i p.latency),.data (.i p.tail),.data (.sl 3 (p.params.map Bd.cs)),.data (.sl 3 (p.states.map Bd.cs)),.data (.sl 4 (p.lines.map Ln.cs)),.data (.sl 2 (p.tables.map Tb.cs)),.data (.sl 8 (p.stmts.map Sm.cs))]),(1000004,.cells [.fn 56 [.ptr 1000007 0,.ptr 1000008 0,.ptr 1000003 0]]),(1000005,.map false [.int .i64] (s'.opn.map ibD)),(1000006,.map false [.int .i64] (s'.ages.map iiD)),(1000007,.cells [.fn 57 [.ptr 1000001 0,.ptr 1000002 0,.ptr 1000003 0,.ptr 1000004 0]]),(1000008,.cells [.map 1000009]),(1000009,.map true [.int .i64,.int .i64] (S.map kkD))]:=by
 refine dX Tryz.func57 ?_
 repeat' ((try(conv=>whnf))<;>first
  |(refine YH rfl (λb hb=>?_) (λhb=>?_))
  |(refine Ns rfl (λn ha=>?_) (λha=>?_))
  |((refine BrI.ff_of ?_ ?_);exact rfl)
  |((refine BrI.tt_of ?_ ?_);exact rfl)
  |(exact(Hm (YP hb (by assumption) hh).symm).elim)
  |(have ho:=YQ hb (by assumption);clear hb)
  |(have ho:=YR hb;clear hb)
  |(have hq:=Nz ho ha hh;clear hh;obtain⟨rfl,rfl⟩:=z1h hq)
  |(have hq:=z6g ho ha hh;clear hh;obtain⟨hir,hR,rfl,rfl⟩:=hq)
  |((refine ay ?_ ?_ ?_ ?_ ?_);exact rfl;exact rfl;rotate_left;exact YS hir)
  |((refine kL.mk 33 ?_);refine⟨rfl,⟨[(1,.ptr 1000001 0),(2,.ptr 1000002 0),(3,.ptr 1000003 0),(4,.ptr 1000004 0),(5,.ptr 5 0),(9,.ptr 9 0),(32,.fn 70 [.ptr 800001 0])],[(1000001,.cells [.map 1000005]),(1000002,.cells [.map 1000006]),(1000003,.cells [.data (.str p.name),.data (.i p.latency),.data (.i p.tail),.data (.sl 3 (p.params.map Bd.cs)),.data (.sl 3 (p.states.map Bd.cs)),.data (.sl 4 (p.lines.map Ln.cs)),.data (.sl 2 (p.tables.map Tb.cs)),.data (.sl 8 (p.stmts.map Sm.cs))]),(1000004,.cells [.fn 56 [.ptr 1000007 0,.ptr 1000008 0,.ptr 1000003 0]]),(1000005,.map false [.int .i64] ((⟨s.ages,lL i true s.opn⟩:AS).opn.map ibD)),(1000006,.map false [.int .i64] ((⟨s.ages,lL i true s.opn⟩:AS).ages.map iiD)),(1000007,.cells [.fn 57 [.ptr 1000001 0,.ptr 1000002 0,.ptr 1000003 0,.ptr 1000004 0]]),(1000008,.cells [.map 1000009]),(1000009,.map true [.int .i64,.int .i64] (S.map kkD)),(5,.cells [.data (.i i)]),(9,.cells [.data (.i 0)]),(800001,.cells [.data (.i (bH p i).kind),.data (.str (bH p i).name),.data (.i (bH p i).index),.data (.i (bH p i).n),.data (.sl 5 (Ex.css (bH p i).l))])],[(1000000,9),(1000010,5),(1000001,1000001),(1000002,1000002),(1000003,1000003),(1000004,1000004),(1000005,1000005),(1000006,1000006),(1000007,1000007),(1000008,1000008),(1000009,1000009)],[(9,.ptr 1000000 0),(4,.ptr 1000004 0),(5,.ptr 1000010 0)],λj=>[(1000000,.cells [.data (.i (lq p S f s i j).1)]),(1000010,.cells [.data (.i i)]),(1000001,.cells [.map 1000005]),(1000002,.cells [.map 1000006]),(1000003,.cells [.data (.str p.name),.data (.i p.latency),.data (.i p.tail),.data (.sl 3 (p.params.map Bd.cs)),.data (.sl 3 (p.states.map Bd.cs)),.data (.sl 4 (p.lines.map Ln.cs)),.data (.sl 2 (p.tables.map Tb.cs)),.data (.sl 8 (p.stmts.map Sm.cs))]),(1000004,.cells [.fn 56 [.ptr 1000007 0,.ptr 1000008 0,.ptr 1000003 0]]),(1000005,.map false [.int .i64] ((lq p S f s i j).2.opn.map ibD)),(1000006,.map false [.int .i64] ((lq p S f s i j).2.ages.map iiD)),(1000007,.cells [.fn 57 [.ptr 1000001 0,.ptr 1000002 0,.ptr 1000003 0,.ptr 1000004 0]]),(1000008,.cells [.map 1000009]),(1000009,.map true [.int .i64,.int .i64] (S.map kkD))],(aC (bH p i)).length,λj=>[((aC (bH p i)).getD j Ex.none).d],900002,none⟩,⟨?_,rfl,rfl,?_,?_,λj hj=>⟨rfl,rfl,?_⟩,λ_ _ e=>Ir e,⟨_,_,rfl,rfl,λRf Re hy hy2=>⟨1000000,[.ptr 1000001 0],[(1000001,.cells [.data (.i (bH p i).kind),.data (.str (bH p i).name),.data (.i (bH p i).index),.data (.i (bH p i).n),.data (.sl 5 (Ex.css (bH p i).l))])],.data (.tuple []),[(1000001,.cells [.data (.i (bH p i).kind),.data (.str (bH p i).name),.data (.i (bH p i).index),.data (.i (bH p i).n),.data (.sl 5 (Ex.css (bH p i).l))])],[(1000000,900002),(1000001,800001)],CZ (bH p i) Rf (λj y hj=>J5 (P:=λn d=>LCall Tryz.prog xn [.yld 1000000,.data d] [(1000000,.rnd (Rf n))] (.ret (.b true)) [(1000000,.rnd (Rf (n+1)))]) hy j y (List.getElem?_eq_some_iff.1 hj).1 hj),rfl,?_,rfl,rfl,?_⟩⟩⟩⟩)
  |(have hq:=(hR j hj).ok;clear hj;obtain⟨w,hw1,hw2⟩:=hq)
  |exact trivial
  |refine BrI.intro (λh=>?_) (λh=>?_)
  |((refine gm [(1000000,800001)] (wM (bH p i)) ?_ ?_ ?_ ?_);rotate_left 0;exact rfl;(exact trivial);exact rfl)
  |((refine lent_step' [(1000001,1000001),(1000002,1000002),(1000003,1000003),(1000004,1000004),(1000005,1000005),(1000006,1000006),(1000007,1000007),(1000008,1000008),(1000009,1000009)] (Nh p S f i ((aC (bH p i)).getD j Ex.none) (lq p S f s i j).2 (lq p S f s i (j+1)).2 w (λk v t h=>hA _ k v t h) hw1) ?_ ?_ ?_ ?_);rotate_left 0;exact rfl;(exact⟨rfl,rfl,rfl,rfl,rfl,rfl,rfl,rfl,rfl,trivial⟩);exact rfl)
  |((refine aI ?_);refine fin_step' [(1000001,1000001),(1000002,1000002),(1000003,1000003),(1000004,1000004),(1000005,1000005),(1000006,1000006),(1000007,1000007),(1000008,1000008),(1000009,1000009)] rfl ?_ ?_)
  |((refine aK ?_ ?_);exact rfl)
  |((refine ak ?_ ?_);kernel_rfl)
  |(refine And.intro ?_ ?_)
  |exact @rfl AV _
  |fail)
 all_goals first
  |(rfl)
  |((exact YZ))
  |((exact z7f))
  |(((try(conv=>whnf));(exact congrArg (λz=>AV.data (D.i z)) hw2.symm)))
  |skip
theorem z2i{s t:AS}(h:AR.pan s = .pan t):t=s:=by cases h;rfl
theorem z2j{x:Ex}{Rf:Nat->RP}{Re:RP}{d:D}{k:Nat}(h:LCall Tryz.prog xn [.yld 1000000,.data ((aC x).getD k Ex.none).d] [(1000000,.rnd (Rf k))] (.pan (.data d)) [(1000000,.rnd Re)]):∀y,(aC x)[k]? = some y->z9o Rf Re d (0+k) y:=by
 intro y hy
 rw[List.getD_eq_getElem?_getD,hy]at h
 rw[Nat.zero_add];exact h
theorem XV(p:Pr)(S:List (Key×Int))(f:Nat)(i:Int)(s s':AS)(hA:∀s k v t,qf p S f s k = .ok v t->Iq p S s k v t)(hP:∀s k t,qf p S f s k = .pan t->Ah p S s k t)(hh:qf p S (f+1) s i = .pan s'):LCall Tryz.prog 57 [.data (.i i),.ptr 1000001 0,.ptr 1000002 0,.ptr 1000003 0,.ptr 1000004 0] [(1000001,.cells [.map 1000005]),(1000002,.cells [.map 1000006]),(1000003,.cells [.data (.str p.name),.data (.i p.latency),.data (.i p.tail),.data (.sl 3 (p.params.map Bd.cs)),.data (.sl 3 (p.states.map Bd.cs)),.data (.sl 4 (p.lines.map Ln.cs)),.data (.sl 2 (p.tables.map Tb.cs)),.data (.sl 8 (p.stmts.map Sm.cs))]),(1000004,.cells [.fn 56 [.ptr 1000007 0,.ptr 1000008 0,.ptr 1000003 0]]),(1000005,.map false [.int .i64] (s.opn.map ibD)),(1000006,.map false [.int .i64] (s.ages.map iiD)),(1000007,.cells [.fn 57 [.ptr 1000001 0,.ptr 1000002 0,.ptr 1000003 0,.ptr 1000004 0]]),(1000008,.cells [.map 1000009]),(1000009,.map true [.int .i64,.int .i64] (S.map kkD))] (.pan (.data (.iface 107 (.agg [])))) [(1000001,.cells [.map 1000005]),(1000002,.cells [.map 1000006]),(1000003,.cells [.data (.str p.name),.data (.i p.latency),.data (.i p.tail),.data (.sl 3 (p.params.map Bd.cs)),.data (.sl 3 (p.states.map Bd.cs)),.data (.sl 4 (p.lines.map Ln.cs)),.data (.sl 2 (p.tables.map Tb.cs)),.data (.sl 8 (p.stmts.map Sm.cs))]),(1000004,.cells [.fn 56 [.ptr 1000007 0,.ptr 1000008 0,.ptr 1000003 0]]),(1000005,.map false [.int .i64] (s'.opn.map ibD)),(1000006,.map false [.int .i64] (s'.ages.map iiD)),(1000007,.cells [.fn 57 [.ptr 1000001 0,.ptr 1000002 0,.ptr 1000003 0,.ptr 1000004 0]]),(1000008,.cells [.map 1000009]),(1000009,.map true [.int .i64,.int .i64] (S.map kkD))]:=by
 refine dX Tryz.func57 ?_
 repeat' ((try(conv=>whnf))<;>first
  |(refine YH rfl (λb hb=>?_) (λhb=>?_))
  |(refine Ns rfl (λn ha=>?_) (λha=>?_))
  |((refine BrI.ff_of ?_ ?_);exact rfl)
  |((refine BrI.tt_of ?_ ?_);exact rfl)
  |(have hq:=YP hb (by assumption) hh;clear hh;obtain rfl:=z2i hq;clear hq)
  |(have ho:=YQ hb (by assumption);clear hb)
  |(have ho:=YR hb;clear hb)
  |(have hq:=Nz ho ha hh;exact(Hm hq).elim)
  |(have hq:=z1i ho ha hh;clear hh;obtain⟨hir,k,hk,hR,hW⟩:=hq)
  |((refine ay ?_ ?_ ?_ ?_ ?_);exact rfl;exact rfl;rotate_left;exact YS hir)
  |((refine kL.mk 33 ?_);refine⟨rfl,⟨[(1,.ptr 1000001 0),(2,.ptr 1000002 0),(3,.ptr 1000003 0),(4,.ptr 1000004 0),(5,.ptr 5 0),(9,.ptr 9 0),(32,.fn 70 [.ptr 800001 0])],[(1000001,.cells [.map 1000005]),(1000002,.cells [.map 1000006]),(1000003,.cells [.data (.str p.name),.data (.i p.latency),.data (.i p.tail),.data (.sl 3 (p.params.map Bd.cs)),.data (.sl 3 (p.states.map Bd.cs)),.data (.sl 4 (p.lines.map Ln.cs)),.data (.sl 2 (p.tables.map Tb.cs)),.data (.sl 8 (p.stmts.map Sm.cs))]),(1000004,.cells [.fn 56 [.ptr 1000007 0,.ptr 1000008 0,.ptr 1000003 0]]),(1000005,.map false [.int .i64] ((⟨s.ages,lL i true s.opn⟩:AS).opn.map ibD)),(1000006,.map false [.int .i64] ((⟨s.ages,lL i true s.opn⟩:AS).ages.map iiD)),(1000007,.cells [.fn 57 [.ptr 1000001 0,.ptr 1000002 0,.ptr 1000003 0,.ptr 1000004 0]]),(1000008,.cells [.map 1000009]),(1000009,.map true [.int .i64,.int .i64] (S.map kkD)),(5,.cells [.data (.i i)]),(9,.cells [.data (.i 0)]),(800001,.cells [.data (.i (bH p i).kind),.data (.str (bH p i).name),.data (.i (bH p i).index),.data (.i (bH p i).n),.data (.sl 5 (Ex.css (bH p i).l))])],[(1000000,9),(1000010,5),(1000001,1000001),(1000002,1000002),(1000003,1000003),(1000004,1000004),(1000005,1000005),(1000006,1000006),(1000007,1000007),(1000008,1000008),(1000009,1000009)],[(9,.ptr 1000000 0),(4,.ptr 1000004 0),(5,.ptr 1000010 0)],λj=>[(1000000,.cells [.data (.i (lq p S f s i j).1)]),(1000010,.cells [.data (.i i)]),(1000001,.cells [.map 1000005]),(1000002,.cells [.map 1000006]),(1000003,.cells [.data (.str p.name),.data (.i p.latency),.data (.i p.tail),.data (.sl 3 (p.params.map Bd.cs)),.data (.sl 3 (p.states.map Bd.cs)),.data (.sl 4 (p.lines.map Ln.cs)),.data (.sl 2 (p.tables.map Tb.cs)),.data (.sl 8 (p.stmts.map Sm.cs))]),(1000004,.cells [.fn 56 [.ptr 1000007 0,.ptr 1000008 0,.ptr 1000003 0]]),(1000005,.map false [.int .i64] ((lq p S f s i j).2.opn.map ibD)),(1000006,.map false [.int .i64] ((lq p S f s i j).2.ages.map iiD)),(1000007,.cells [.fn 57 [.ptr 1000001 0,.ptr 1000002 0,.ptr 1000003 0,.ptr 1000004 0]]),(1000008,.cells [.map 1000009]),(1000009,.map true [.int .i64,.int .i64] (S.map kkD))],k,λj=>[((aC (bH p i)).getD j Ex.none).d],900002,some (.pan z7e,[(1000000,.cells [.data (.i (lq p S f s i k).1)]),(1000010,.cells [.data (.i i)]),(1000001,.cells [.map 1000005]),(1000002,.cells [.map 1000006]),(1000003,.cells [.data (.str p.name),.data (.i p.latency),.data (.i p.tail),.data (.sl 3 (p.params.map Bd.cs)),.data (.sl 3 (p.states.map Bd.cs)),.data (.sl 4 (p.lines.map Ln.cs)),.data (.sl 2 (p.tables.map Tb.cs)),.data (.sl 8 (p.stmts.map Sm.cs))]),(1000004,.cells [.fn 56 [.ptr 1000007 0,.ptr 1000008 0,.ptr 1000003 0]]),(1000005,.map false [.int .i64] (s'.opn.map ibD)),(1000006,.map false [.int .i64] (s'.ages.map iiD)),(1000007,.cells [.fn 57 [.ptr 1000001 0,.ptr 1000002 0,.ptr 1000003 0,.ptr 1000004 0]]),(1000008,.cells [.map 1000009]),(1000009,.map true [.int .i64,.int .i64] (S.map kkD))])⟩,⟨?_,rfl,rfl,?_,?_,λj hj=>⟨rfl,rfl,?_⟩,λkk hh ee=>?_,⟨_,_,rfl,rfl,λRf Re hy hy2=>⟨1000000,[.ptr 1000001 0],[(1000001,.cells [.data (.i (bH p i).kind),.data (.str (bH p i).name),.data (.i (bH p i).index),.data (.i (bH p i).n),.data (.sl 5 (Ex.css (bH p i).l))])],.data (.tuple []),[(1000001,.cells [.data (.i (bH p i).kind),.data (.str (bH p i).name),.data (.i (bH p i).index),.data (.i (bH p i).n),.data (.sl 5 (Ex.css (bH p i).l))])],[(1000000,900002),(1000001,800001)],PG (bH p i) Rf Re z7e k hk (λj y hj h=>J5 (P:=λn d=>LCall Tryz.prog xn [.yld 1000000,.data d] [(1000000,.rnd (Rf n))] (.ret (.b true)) [(1000000,.rnd (Rf (n+1)))]) hy j y hj h) (z2j (hy2 (Option.some_ne_none _))),rfl,?_,rfl,rfl,?_⟩⟩⟩⟩)
  |(cases ee;refine⟨rfl,?_⟩)
  |(have hq:=(hR j hj).ok;clear hj;obtain⟨w,hw1,hw2⟩:=hq)
  |exact trivial
  |refine BrI.intro (λh=>?_) (λh=>?_)
  |((refine rest_step _ _ _ [true,true] ?_ ?_);kernel_rfl)
  |((refine quiet_step ?_ ?_);kernel_rfl)
  |((refine gm [(1000000,800001)] (wM (bH p i)) ?_ ?_ ?_ ?_);rotate_left 0;exact rfl;(exact trivial);exact rfl)
  |((refine lent_step' [(1000001,1000001),(1000002,1000002),(1000003,1000003),(1000004,1000004),(1000005,1000005),(1000006,1000006),(1000007,1000007),(1000008,1000008),(1000009,1000009)] (Nh p S f i ((aC (bH p i)).getD j Ex.none) (lq p S f s i j).2 (lq p S f s i (j+1)).2 w (λk v t h=>hA _ k v t h) hw1) ?_ ?_ ?_ ?_);rotate_left 0;exact rfl;(exact⟨rfl,rfl,rfl,rfl,rfl,rfl,rfl,rfl,rfl,trivial⟩);exact rfl)
  |((refine lent_step' [(1000001,1000001),(1000002,1000002),(1000003,1000003),(1000004,1000004),(1000005,1000005),(1000006,1000006),(1000007,1000007),(1000008,1000008),(1000009,1000009)] (JZ p S f i ((aC (bH p i)).getD k Ex.none) (lq p S f s i k).2 s' (λk t h=>hP _ k t h) hW) ?_ ?_ ?_ ?_);rotate_left 0;exact rfl;(exact⟨rfl,rfl,rfl,rfl,rfl,rfl,rfl,rfl,rfl,trivial⟩);exact rfl)
  |((refine jc ?_);refine fin_step' [(1000001,1000001),(1000002,1000002),(1000003,1000003),(1000004,1000004),(1000005,1000005),(1000006,1000006),(1000007,1000007),(1000008,1000008),(1000009,1000009)] rfl ?_ ?_)
  |((refine aK ?_ ?_);exact rfl)
  |((refine ak ?_ ?_);kernel_rfl)
  |((refine kR ?_ ?_);kernel_rfl)
  |(refine And.intro ?_ ?_)
  |exact @rfl AV _
  |exact @rfl Block _
  |fail)
 all_goals first
  |(rfl)
  |((exact YZ))
  |(((try(conv=>whnf));(exact congrArg (λz=>AV.data (D.i z)) hw2.symm)))
  |skip
theorem EM(p:Pr)(S:List (Key×Int)):∀(f:Nat) (s:AS) (i:Int),(∀v s',qf p S f s i = .ok v s'->Iq p S s i v s')/\(∀t,qf p S f s i = .pan t->Ah p S s i t)
 | 0,_,_=>⟨λ_ _ h=>(by cases h),λ_ h=>(by cases h)⟩
 |f+1,s,i=>⟨λv s' h=>z2h p S f i s s' v (λs k v t h=>(EM p S f s k).1 v t h) h,λt h=>XV p S f i s t (λs k v t h=>(EM p S f s k).1 v t h) (λs k t h=>(EM p S f s k).2 t h) h⟩
end Go.Proofs.YthpbakljheeabaaGreatDoor
