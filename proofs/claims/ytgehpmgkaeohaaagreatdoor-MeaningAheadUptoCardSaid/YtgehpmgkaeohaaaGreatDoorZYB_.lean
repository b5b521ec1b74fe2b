/- A part of the proof. -/
import Derived.Test.YtgehpmgkaeohaaaGreatDoorZTA
import Derived.Test.YtgehpmgkaeohaaaGreatDoorZK6
set_option linter.all false
set_option maxHeartbeats 8000000
namespace Go.Proofs.YtgehpmgkaeohaaaGreatDoor
open Go.Fw Go.Fw.Ref15 Go.Fw.Rg Go.Fw.Tl
set_option maxRecDepth 10000
variable [ae]
abbrev YOk(Rf:Nat->RP)(n:Nat)(y:Ex):Prop:=ak Tryz.prog yx [.yld 1000000,.data y.d] [(1000000,.rnd (Rf n))] (.ret (.b true)) [(1000000,.rnd (Rf (n+1)))]
abbrev zit(Rf:Nat->RP)(Re:RP)(d:D)(n:Nat)(y:Ex):Prop:=ak Tryz.prog yx [.yld 1000000,.data y.d] [(1000000,.rnd (Rf n))] (.pan (.data d)) [(1000000,.rnd Re)]
theorem KI(x:Ex)(Rf:Nat->RP)(i:Nat)(hy:∀j y,(ax x)[j]? = some y->YOk Rf (i+j) y):ak Tryz.prog 93 [.data x.d,.ptr 1000001 0,.ptr 1000002 0] [(1000000,.rnd (Rf i)),(1000001,.cells [.yld 1000000]),(1000002,.cells [.fn 93 [.ptr 1000001 0,.ptr 1000002 0]])] (.ret (.b true)) [(1000000,.rnd (Rf (i+(ax x).length))),(1000001,.cells [.yld 1000000]),(1000002,.cells [.fn 93 [.ptr 1000001 0,.ptr 1000002 0]])]:=by
 revert i;revert x;refine Ex.ind λx ih i hy=>?_
 refine pg Tryz.func93 λhf=>?_
 have hlen:=Ex.fits (xy.data (hf (.data x.d) (by simp)))
 clear hf
 repeat' ((try conv=>whnf)<;>first
  |(have hq:m=i+(ax x).length:=Xd hd0 hI0;clear hI0;subst hq)
  |exact trivial
  |exact ai hd0 ‹_›
  |refine kG hd0 ?_
  |refine iw hd0 ?_
  |refine BrI.intro (λh=>?_) (λh=>?_)
  |exact Bool.noConfusion (h:false=true)
  |((refine au.mk 0 ?_);refine⟨aH (x.l) 14 (λ(m:(Nat))=>[]) (λ(m:(Nat))=>[(1000000,.rnd (Rf m)),(1000001,.cells [.yld 1000000]),(1000002,.cells [.fn 93 [.ptr 1000001 0,.ptr 1000002 0]]),(3,.cells [.data (.i x.kind),.data (.str x.name),.data (.i x.index),.data (.i x.n),.data (.sl 5 (Ex.css x.l))])]) [2,12,13] (λi0 r0 m=>m=i+(1+(dR (x.l.take i0)).length)),?_⟩;refine af (i+1) ?_ ?_ (λi0 (m:(Nat)) hd0 hI0=>?_) (λi0 x0 r0 (m:(Nat)) hd0 hl0 hI0=>?_))
  |refine ag hd0 (m+(ax x0).length) ?_ ?_
  |((refine lent_step' [] (hy 0 x (Ny x)) ?_ ?_ ?_ ?_);rotate_left 0;exact rfl;(exact⟨rfl,trivial⟩);exact rfl)
  |((refine lent_step' [(1000000,1000000),(1000001,1000001),(1000002,1000002)] (ih x0 (bU hd0) m (zen hd0 hI0 hy)) ?_ ?_ ?_ ?_);rotate_left 0;exact rfl;(exact⟨rfl,rfl,rfl,trivial⟩);exact rfl)
  |((refine bg ?_);refine fin_step' [(1000000,1000000),(1000001,1000001),(1000002,1000002)] rfl ?_ ?_)
  |((refine aB ?_ ?_ ?_ ?_ ?_);exact rfl;exact rfl;rotate_left;exact eY hd0)
  |refine oK ?_
  |refine And.intro ?_ ?_
  |exact @rfl AV _
  |fail)
 all_goals first
  |rfl
  |exact Qe hd0 hI0
theorem Yn(x:Ex)(Rf:Nat->RP)(hy:∀j y,(ax x)[j]? = some y->YOk Rf (0+j) y):ak Tryz.prog 92 [.yld 1000000,.ptr 1000001 0] [(1000000,.rnd (Rf 0)),(1000001,.cells [.data (.i x.kind),.data (.str x.name),.data (.i x.index),.data (.i x.n),.data (.sl 5 (Ex.css x.l))])] (.ret (.data (.tuple []))) [(1000000,.rnd (Rf (0+(ax x).length))),(1000001,.cells [.data (.i x.kind),.data (.str x.name),.data (.i x.index),.data (.i x.n),.data (.sl 5 (Ex.css x.l))])]:=by
 refine aT Tryz.func92 ?_
 repeat' ((try conv=>whnf)<;>first
  |exact trivial
  |((refine lent_step' [(1000000,1000000),(1000001,2),(1000002,3)] (KI x Rf 0 hy) ?_ ?_ ?_ ?_);rotate_left 0;exact rfl;(exact⟨rfl,rfl,rfl,trivial⟩);exact rfl)
  |((refine bg ?_);refine fin_step' [(1000000,1000000),(1000001,1000001)] rfl ?_ ?_)
  |refine And.intro ?_ ?_
  |fail)
theorem TT(x:Ex)(Rf:Nat->RP)(Re:RP)(d:D)(i q:Nat)(hq:q<(ax x).length)(hy:∀j y,j<q->(ax x)[j]? = some y->YOk Rf (i+j) y)(hp:∀y,(ax x)[q]? = some y->zit Rf Re d (i+q) y):ak Tryz.prog 93 [.data x.d,.ptr 1000001 0,.ptr 1000002 0] [(1000000,.rnd (Rf i)),(1000001,.cells [.yld 1000000]),(1000002,.cells [.fn 93 [.ptr 1000001 0,.ptr 1000002 0]])] (.pan (.data d)) [(1000000,.rnd Re),(1000001,.cells [.yld 1000000]),(1000002,.cells [.fn 93 [.ptr 1000001 0,.ptr 1000002 0]])]:=by
 revert q i;revert x;refine Ex.ind λx ih i q hq hy hp=>?_
 refine pg Tryz.func93 λhf=>?_
 have hlen:=Ex.fits (xy.data (hf (.data x.d) (by simp)))
 have hsp:q=0\/0<q:=by omega
 clear hf
 repeat' ((try conv=>whnf)<;>first
  |(rcases hsp with rfl |hq0)
  |exact absurd hq (by have:=Xd hd0 hI0.1;have:=hI0.2;omega)
  |(obtain⟨hI1,hI2⟩:=hI0;rcases zeo hd0 hI1 hI2 with hc |⟨t,hqt,ht⟩)
  |exact trivial
  |exact ai hd0 ‹_›
  |refine iw hd0 ?_
  |refine BrI.intro (λh=>?_) (λh=>?_)
  |exact Bool.noConfusion (h:false=true)
  |((refine au.mk 0 ?_);refine⟨aH (x.l) 14 (λ(m:(Nat))=>[]) (λ(m:(Nat))=>[(1000000,.rnd (Rf m)),(1000001,.cells [.yld 1000000]),(1000002,.cells [.fn 93 [.ptr 1000001 0,.ptr 1000002 0]]),(3,.cells [.data (.i x.kind),.data (.str x.name),.data (.i x.index),.data (.i x.n),.data (.sl 5 (Ex.css x.l))])]) [2,12,13] (λi0 r0 m=>m=i+(1+(dR (x.l.take i0)).length)/\m<=i+q),?_⟩;refine af (i+1) ?_ ?_ (λi0 (m:(Nat)) hd0 hI0=>?_) (λi0 x0 r0 (m:(Nat)) hd0 hl0 hI0=>?_))
  |refine ag hd0 (m+(ax x0).length) ?_ ?_
  |((refine lent_step' [] (hp x (Ny x)) ?_ ?_ ?_ ?_);rotate_left 0;exact rfl;(exact⟨rfl,trivial⟩);exact rfl)
  |((refine lent_step' [] (hy 0 x hq0 (Ny x)) ?_ ?_ ?_ ?_);rotate_left 0;exact rfl;(exact⟨rfl,trivial⟩);exact rfl)
  |((refine lent_step' [(1000000,1000000),(1000001,1000001),(1000002,1000002)] (KI x0 Rf m (z9i hd0 hI1 hy hc)) ?_ ?_ ?_ ?_);rotate_left 0;exact rfl;(exact⟨rfl,rfl,rfl,trivial⟩);exact rfl)
  |((refine lent_step' [(1000000,1000000),(1000001,1000001),(1000002,1000002)] (ih x0 (bU hd0) m t ht (z9j hd0 hI1 hy hqt) (zep hd0 hI1 hp hqt)) ?_ ?_ ?_ ?_);rotate_left 0;exact rfl;(exact⟨rfl,rfl,rfl,trivial⟩);exact rfl)
  |((refine dB ?_);refine fin_step' [(1000000,1000000),(1000001,1000001),(1000002,1000002)] rfl ?_ ?_)
  |((refine aB ?_ ?_ ?_ ?_ ?_);exact rfl;exact rfl;rotate_left;exact eY hd0)
  |refine oK ?_
  |refine And.intro ?_ ?_
  |exact @rfl AV _
  |exact @rfl Block _
  |fail)
 all_goals first
  |rfl
  |exact Qe hd0 hI1
  |exact hc
  |omega
theorem TU(x:Ex)(Rf:Nat->RP)(Re:RP)(d:D)(q:Nat)(hq:q<(ax x).length)(hy:∀j y,j<q->(ax x)[j]? = some y->YOk Rf (0+j) y)(hp:∀y,(ax x)[q]? = some y->zit Rf Re d (0+q) y):ak Tryz.prog 92 [.yld 1000000,.ptr 1000001 0] [(1000000,.rnd (Rf 0)),(1000001,.cells [.data (.i x.kind),.data (.str x.name),.data (.i x.index),.data (.i x.n),.data (.sl 5 (Ex.css x.l))])] (.pan (.data d)) [(1000000,.rnd Re),(1000001,.cells [.data (.i x.kind),.data (.str x.name),.data (.i x.index),.data (.i x.n),.data (.sl 5 (Ex.css x.l))])]:=by
 refine aT Tryz.func92 ?_
 repeat' ((try conv=>whnf)<;>first
  |exact trivial
  |((refine lent_step' [(1000000,1000000),(1000001,2),(1000002,3)] (TT x Rf Re d 0 q hq hy hp) ?_ ?_ ?_ ?_);rotate_left 0;exact rfl;(exact⟨rfl,rfl,rfl,trivial⟩);exact rfl)
  |((refine dB ?_);refine fin_step' [(1000000,1000000),(1000001,1000001)] rfl ?_ ?_)
  |refine And.intro ?_ ?_
  |exact @rfl Block _
  |fail)
theorem uF(x:Ex)  : ak Tryz.prog 48 [.data x.d] [] (.ret (.fn 92 [.ptr 1000000 0])) [(1000000,.cells [.data (.i x.kind),.data (.str x.name),.data (.i x.index),.data (.i x.n),.data (.sl 5 (Ex.css x.l))])]:=by
 refine aT Tryz.func48 ?_
 repeat' ((try conv=>whnf)<;>first
  |exact trivial
  |((refine bg ?_);refine fin_step' [(1000000,1)] rfl ?_ ?_)
  |refine And.intro ?_ ?_
  |exact @rfl AV _
  |fail)
abbrev zho(p:Pr)(S:List (Key×Int))(s:AS):Heap:=[(1000001,.cells [.map 1000005]),(1000002,.cells [.map 1000006]),(1000003,.cells [.data (.str p.name),.data (.i p.latency),.data (.i p.tail),.data (.sl 3 (p.params.map Bd.cs)),.data (.sl 3 (p.states.map Bd.cs)),.data (.sl 4 (p.lines.map Ln.cs)),.data (.sl 2 (p.tables.map Tb.cs)),.data (.sl 8 (p.stmts.map Sm.cs))]),(1000004,.cells [.fn 83 [.ptr 1000007 0,.ptr 1000008 0,.ptr 1000003 0]]),(1000005,.map false [.int .i64] (s.opn.map ibD)),(1000006,.map false [.int .i64] (s.ages.map iiD)),(1000007,.cells [.fn 84 [.ptr 1000001 0,.ptr 1000002 0,.ptr 1000003 0,.ptr 1000004 0]]),(1000008,.cells [.map 1000009]),(1000009,.map true [.int .i64,.int .i64] (S.map kkD))]
abbrev zg8:D:=.iface 126 (.agg [])
def KJ(p:Pr)(S:List (Key×Int))(s:AS)(i v:Int)(s':AS):Prop:=ak Tryz.prog 84 [.data (.i i),.ptr 1000001 0,.ptr 1000002 0,.ptr 1000003 0,.ptr 1000004 0] (zho p S s) (.ret (.data (.i v))) (zho p S s')
def CW(p:Pr)(S:List (Key×Int))(s:AS)(i:Int)(s':AS):Prop:=ak Tryz.prog 84 [.data (.i i),.ptr 1000001 0,.ptr 1000002 0,.ptr 1000003 0,.ptr 1000004 0] (zho p S s) (.pan (.data zg8)) (zho p S s')
theorem KJ.call{p:Pr}{S:List (Key×Int)}{s s':AS}{i v:Int}(h:KJ p S s i v s'):ak Tryz.prog 84 [.data (.i i),.ptr 1000001 0,.ptr 1000002 0,.ptr 1000003 0,.ptr 1000004 0] [(1000001,.cells [.map 1000005]),(1000002,.cells [.map 1000006]),(1000003,.cells [.data (.str p.name),.data (.i p.latency),.data (.i p.tail),.data (.sl 3 (p.params.map Bd.cs)),.data (.sl 3 (p.states.map Bd.cs)),.data (.sl 4 (p.lines.map Ln.cs)),.data (.sl 2 (p.tables.map Tb.cs)),.data (.sl 8 (p.stmts.map Sm.cs))]),(1000004,.cells [.fn 83 [.ptr 1000007 0,.ptr 1000008 0,.ptr 1000003 0]]),(1000005,.map false [.int .i64] (s.opn.map ibD)),(1000006,.map false [.int .i64] (s.ages.map iiD)),(1000007,.cells [.fn 84 [.ptr 1000001 0,.ptr 1000002 0,.ptr 1000003 0,.ptr 1000004 0]]),(1000008,.cells [.map 1000009]),(1000009,.map true [.int .i64,.int .i64] (S.map kkD))] (.ret (.data (.i v))) [(1000001,.cells [.map 1000005]),(1000002,.cells [.map 1000006]),(1000003,.cells [.data (.str p.name),.data (.i p.latency),.data (.i p.tail),.data (.sl 3 (p.params.map Bd.cs)),.data (.sl 3 (p.states.map Bd.cs)),.data (.sl 4 (p.lines.map Ln.cs)),.data (.sl 2 (p.tables.map Tb.cs)),.data (.sl 8 (p.stmts.map Sm.cs))]),(1000004,.cells [.fn 83 [.ptr 1000007 0,.ptr 1000008 0,.ptr 1000003 0]]),(1000005,.map false [.int .i64] (s'.opn.map ibD)),(1000006,.map false [.int .i64] (s'.ages.map iiD)),(1000007,.cells [.fn 84 [.ptr 1000001 0,.ptr 1000002 0,.ptr 1000003 0,.ptr 1000004 0]]),(1000008,.cells [.map 1000009]),(1000009,.map true [.int .i64,.int .i64] (S.map kkD))]:=h
theorem CW.call{p:Pr}{S:List (Key×Int)}{s s':AS}{i:Int}(h:CW p S s i s'):ak Tryz.prog 84 [.data (.i i),.ptr 1000001 0,.ptr 1000002 0,.ptr 1000003 0,.ptr 1000004 0] [(1000001,.cells [.map 1000005]),(1000002,.cells [.map 1000006]),(1000003,.cells [.data (.str p.name),.data (.i p.latency),.data (.i p.tail),.data (.sl 3 (p.params.map Bd.cs)),.data (.sl 3 (p.states.map Bd.cs)),.data (.sl 4 (p.lines.map Ln.cs)),.data (.sl 2 (p.tables.map Tb.cs)),.data (.sl 8 (p.stmts.map Sm.cs))]),(1000004,.cells [.fn 83 [.ptr 1000007 0,.ptr 1000008 0,.ptr 1000003 0]]),(1000005,.map false [.int .i64] (s.opn.map ibD)),(1000006,.map false [.int .i64] (s.ages.map iiD)),(1000007,.cells [.fn 84 [.ptr 1000001 0,.ptr 1000002 0,.ptr 1000003 0,.ptr 1000004 0]]),(1000008,.cells [.map 1000009]),(1000009,.map true [.int .i64,.int .i64] (S.map kkD))] (.pan (.data (.iface 126 (.agg [])))) [(1000001,.cells [.map 1000005]),(1000002,.cells [.map 1000006]),(1000003,.cells [.data (.str p.name),.data (.i p.latency),.data (.i p.tail),.data (.sl 3 (p.params.map Bd.cs)),.data (.sl 3 (p.states.map Bd.cs)),.data (.sl 4 (p.lines.map Ln.cs)),.data (.sl 2 (p.tables.map Tb.cs)),.data (.sl 8 (p.stmts.map Sm.cs))]),(1000004,.cells [.fn 83 [.ptr 1000007 0,.ptr 1000008 0,.ptr 1000003 0]]),(1000005,.map false [.int .i64] (s'.opn.map ibD)),(1000006,.map false [.int .i64] (s'.ages.map iiD)),(1000007,.cells [.fn 84 [.ptr 1000001 0,.ptr 1000002 0,.ptr 1000003 0,.ptr 1000004 0]]),(1000008,.cells [.map 1000009]),(1000009,.map true [.int .i64,.int .i64] (S.map kkD))]:=h
theorem P6(p:Pr)(S:List (Key×Int))(f:Nat)(at_:Int)(x:Ex)(s s':AS)(v:Int)(hA:∀k v t,rf p S f s k = .ok v t->KJ p S s k v t)(hh:um p S (rf p S f) at_ x s = .ok v s'):ak Tryz.prog 83 [.data (.i at_),.data x.d,.ptr 1000007 0,.ptr 1000008 0,.ptr 1000003 0] [(1000001,.cells [.map 1000005]),(1000002,.cells [.map 1000006]),(1000003,.cells [.data (.str p.name),.data (.i p.latency),.data (.i p.tail),.data (.sl 3 (p.params.map Bd.cs)),.data (.sl 3 (p.states.map Bd.cs)),.data (.sl 4 (p.lines.map Ln.cs)),.data (.sl 2 (p.tables.map Tb.cs)),.data (.sl 8 (p.stmts.map Sm.cs))]),(1000004,.cells [.fn 83 [.ptr 1000007 0,.ptr 1000008 0,.ptr 1000003 0]]),(1000005,.map false [.int .i64] (s.opn.map ibD)),(1000006,.map false [.int .i64] (s.ages.map iiD)),(1000007,.cells [.fn 84 [.ptr 1000001 0,.ptr 1000002 0,.ptr 1000003 0,.ptr 1000004 0]]),(1000008,.cells [.map 1000009]),(1000009,.map true [.int .i64,.int .i64] (S.map kkD))] (.ret (.data (.i v))) [(1000001,.cells [.map 1000005]),(1000002,.cells [.map 1000006]),(1000003,.cells [.data (.str p.name),.data (.i p.latency),.data (.i p.tail),.data (.sl 3 (p.params.map Bd.cs)),.data (.sl 3 (p.states.map Bd.cs)),.data (.sl 4 (p.lines.map Ln.cs)),.data (.sl 2 (p.tables.map Tb.cs)),.data (.sl 8 (p.stmts.map Sm.cs))]),(1000004,.cells [.fn 83 [.ptr 1000007 0,.ptr 1000008 0,.ptr 1000003 0]]),(1000005,.map false [.int .i64] (s'.opn.map ibD)),(1000006,.map false [.int .i64] (s'.ages.map iiD)),(1000007,.cells [.fn 84 [.ptr 1000001 0,.ptr 1000002 0,.ptr 1000003 0,.ptr 1000004 0]]),(1000008,.cells [.map 1000009]),(1000009,.map true [.int .i64,.int .i64] (S.map kkD))]:=by
 refine aT Tryz.func83 ?_
 repeat' ((try conv=>whnf)<;>first
  |((refine Zt [(4,1000003)] ?_ ?_ ?_);kernel_rfl;(refine EE ?_ ?_);(refine Pj rfl rfl rfl rfl rfl rfl ?_);(repeat((refine EF ?_ ?_);(first |exact trivial |exact rfl)));exact Jf;exact Je)
  |refine z4g rfl (λb hb=>?_) (λhb=>?_)
  |((refine BrI.ff_of ?_ ?_);exact rfl)
  |((refine BrI.tt_of ?_ ?_);exact rfl)
  |(have hq:=z4j (by assumption) hh;clear hh;have hc:=(hA _ _ _ hq).call)
  |(have hq:=z4k (by assumption) (by assumption) hb (by assumption) hh;clear hh;have hc:=(hA _ _ _ hq).call)
  |(have hq0:=z4l (by assumption) (by assumption) hb (by assumption) hh;clear hh;obtain⟨u,hq,rfl⟩:=Qg hq0;have hc:=(hA _ _ _ hq).call)
  |(have hq0:=z4n (by assumption) (by assumption) (by assumption) hb Jq hh;clear hh;have hi8:=hq0.2;obtain⟨u,hq,rfl⟩:=Qg hq0.1;have hc:=(hA _ _ _ hq).call)
  |(have hq0:=z4m (by assumption) (by assumption) hb hh;clear hh;obtain⟨rfl,rfl⟩:=Xg hq0)
  |(have hq0:=z4o (by assumption) (by assumption) (by assumption) hb hh;clear hh;obtain⟨rfl,rfl⟩:=Xg hq0)
  |(have hq0:=z4p (by assumption) (by assumption) (by assumption) hh;clear hh;obtain⟨rfl,rfl⟩:=Xg hq0)
  |exact trivial
  |refine BrI.intro (λh=>?_) (λh=>?_)
  |((refine aB ?_ ?_ ?_ ?_ ?_);exact rfl;exact rfl;rotate_left;exact Xh hi8)
  |((refine lent_step' [(1000001,1000001),(1000002,1000002),(1000003,1000003),(1000004,1000004),(1000005,1000005),(1000006,1000006),(1000007,1000007),(1000008,1000008),(1000009,1000009)] (hc) ?_ ?_ ?_ ?_);rotate_left 0;exact rfl;(exact⟨rfl,rfl,rfl,rfl,rfl,rfl,rfl,rfl,rfl,trivial⟩);exact rfl)
  |((refine bg ?_);refine fin_step' [(1000001,1000001),(1000002,1000002),(1000003,1000003),(1000004,1000004),(1000005,1000005),(1000006,1000006),(1000007,1000007),(1000008,1000008),(1000009,1000009)] rfl ?_ ?_)
  |refine And.intro ?_ ?_
  |exact @rfl AV _
  |fail)
 all_goals rfl
theorem Nq(p:Pr)(S:List (Key×Int))(f:Nat)(at_:Int)(x:Ex)(s s':AS)(hA:∀k t,rf p S f s k = .pan t->CW p S s k t)(hh:um p S (rf p S f) at_ x s = .pan s'):ak Tryz.prog 83 [.data (.i at_),.data x.d,.ptr 1000007 0,.ptr 1000008 0,.ptr 1000003 0] [(1000001,.cells [.map 1000005]),(1000002,.cells [.map 1000006]),(1000003,.cells [.data (.str p.name),.data (.i p.latency),.data (.i p.tail),.data (.sl 3 (p.params.map Bd.cs)),.data (.sl 3 (p.states.map Bd.cs)),.data (.sl 4 (p.lines.map Ln.cs)),.data (.sl 2 (p.tables.map Tb.cs)),.data (.sl 8 (p.stmts.map Sm.cs))]),(1000004,.cells [.fn 83 [.ptr 1000007 0,.ptr 1000008 0,.ptr 1000003 0]]),(1000005,.map false [.int .i64] (s.opn.map ibD)),(1000006,.map false [.int .i64] (s.ages.map iiD)),(1000007,.cells [.fn 84 [.ptr 1000001 0,.ptr 1000002 0,.ptr 1000003 0,.ptr 1000004 0]]),(1000008,.cells [.map 1000009]),(1000009,.map true [.int .i64,.int .i64] (S.map kkD))] (.pan (.data (.iface 126 (.agg [])))) [(1000001,.cells [.map 1000005]),(1000002,.cells [.map 1000006]),(1000003,.cells [.data (.str p.name),.data (.i p.latency),.data (.i p.tail),.data (.sl 3 (p.params.map Bd.cs)),.data (.sl 3 (p.states.map Bd.cs)),.data (.sl 4 (p.lines.map Ln.cs)),.data (.sl 2 (p.tables.map Tb.cs)),.data (.sl 8 (p.stmts.map Sm.cs))]),(1000004,.cells [.fn 83 [.ptr 1000007 0,.ptr 1000008 0,.ptr 1000003 0]]),(1000005,.map false [.int .i64] (s'.opn.map ibD)),(1000006,.map false [.int .i64] (s'.ages.map iiD)),(1000007,.cells [.fn 84 [.ptr 1000001 0,.ptr 1000002 0,.ptr 1000003 0,.ptr 1000004 0]]),(1000008,.cells [.map 1000009]),(1000009,.map true [.int .i64,.int .i64] (S.map kkD))]:=by
 refine aT Tryz.func83 ?_
 repeat' ((try conv=>whnf)<;>first
  |((refine Xe [(4,1000003)] rfl ?_ ?_ ?_);kernel_rfl;(refine EE ?_ ?_);(refine Pj rfl rfl rfl rfl rfl rfl ?_);(repeat((refine EF ?_ ?_);(first |exact trivial |exact rfl)));exact Jf;exact Je)
  |refine z4g rfl (λb hb=>?_) (λhb=>?_)
  |((refine BrI.ff_of ?_ ?_);exact rfl)
  |((refine BrI.tt_of ?_ ?_);exact rfl)
  |(have hq:=z4j (by assumption) hh;clear hh;have hc:=(hA _ _ hq).call)
  |(have hq:=z4k (by assumption) (by assumption) hb (by assumption) hh;clear hh;have hc:=(hA _ _ hq).call)
  |(have hq:=Xf (z4l (by assumption) (by assumption) hb (by assumption) hh);clear hh;have hc:=(hA _ _ hq).call)
  |(have hq0:=z4n (by assumption) (by assumption) (by assumption) hb zeq hh;clear hh;have hi8:=hq0.2;have hq:=Xf hq0.1;have hc:=(hA _ _ hq).call)
  |exact(JH (z4m (by assumption) (by assumption) hb hh)).elim
  |exact(JH (z4o (by assumption) (by assumption) (by assumption) hb hh)).elim
  |exact(JH (z4p (by assumption) (by assumption) (by assumption) hh)).elim
  |exact trivial
  |refine BrI.intro (λh=>?_) (λh=>?_)
  |((refine rest_step _ _ _ [false,false,false,false,false,false,false,true,true] ?_ ?_);kernel_rfl)
  |((refine quiet_step ?_ ?_);kernel_rfl)
  |((refine aB ?_ ?_ ?_ ?_ ?_);exact rfl;exact rfl;rotate_left;exact Xh hi8)
  |((refine lent_step' [(1000001,1000001),(1000002,1000002),(1000003,1000003),(1000004,1000004),(1000005,1000005),(1000006,1000006),(1000007,1000007),(1000008,1000008),(1000009,1000009)] (hc) ?_ ?_ ?_ ?_);rotate_left 0;exact rfl;(exact⟨rfl,rfl,rfl,rfl,rfl,rfl,rfl,rfl,rfl,trivial⟩);exact rfl)
  |((refine dB ?_);refine fin_step' [(1000001,1000001),(1000002,1000002),(1000003,1000003),(1000004,1000004),(1000005,1000005),(1000006,1000006),(1000007,1000007),(1000008,1000008),(1000009,1000009)] rfl ?_ ?_)
  |refine And.intro ?_ ?_
  |exact @rfl Block _
  |fail)
 all_goals rfl
theorem zg9{g:Bool}{ks:List KS}{l:List (Int×Int)}{k v:Int}:Block.map g ks (mput (.i k) (.i v) (l.map iiD))=Block.map g ks ((uH k v l).map iiD):=by rw[WU]
theorem z5u{g:Bool}{ks:List KS}{l:List (Int×Bool)}{k:Int}{v:Bool}:Block.map g ks (mput (.i k) (.b v) (l.map ibD))=Block.map g ks ((uH k v l).map ibD):=by rw[WW]
theorem KL{α:Type}{x:α}{P:Prop}(h:none=some x):P:=by cases h
theorem Fv(x:Ex)(Rf:Nat->RP)(hy:∀j y,(ax x)[j]? = some y->YOk Rf (0+j) y):ak Tryz.prog 92 [.yld 1000000,.ptr 1000001 0] [(1000000,.rnd (Rf 0)),(1000001,.cells [.data (.i x.kind),.data (.str x.name),.data (.i x.index),.data (.i x.n),.data (.sl 5 (Ex.css x.l))])] (.ret (.data (.tuple []))) [(1000000,.rnd (Rf (ax x).length)),(1000001,.cells [.data (.i x.kind),.data (.str x.name),.data (.i x.index),.data (.i x.n),.data (.sl 5 (Ex.css x.l))])]:=by
 have:=Yn x Rf hy
 rwa[Nat.zero_add]at this
theorem zby(p:Pr)(S:List (Key×Int))(f:Nat)(i:Int)(s s':AS)(v:Int)(hA:∀s k v t,rf p S f s k = .ok v t->KJ p S s k v t)(hh:rf p S (f+1) s i = .ok v s'):ak Tryz.prog 84 [.data (.i i),.ptr 1000001 0,.ptr 1000002 0,.ptr 1000003 0,.ptr 1000004 0] [(1000001,.cells [.map 1000005]),(1000002,.cells [.map 1000006]),(1000003,.cells [.data (.str p.name),.data (.i p.latency),.data (.i p.tail),.data (.sl 3 (p.params.map Bd.cs)),.data (.sl 3 (p.states.map Bd.cs)),.data (.sl 4 (p.lines.map Ln.cs)),.data (.sl 2 (p.tables.map Tb.cs)),.data (.sl 8 (p.stmts.map Sm.cs))]),(1000004,.cells [.fn 83 [.ptr 1000007 0,.ptr 1000008 0,.ptr 1000003 0]]),(1000005,.map false [.int .i64] (s.opn.map ibD)),(1000006,.map false [.int .i64] (s.ages.map iiD)),(1000007,.cells [.fn 84 [.ptr 1000001 0,.ptr 1000002 0,.ptr 1000003 0,.ptr 1000004 0]]),(1000008,.cells [.map 1000009]),(1000009,.map true [.int .i64,.int .i64] (S.map kkD))] (.ret (.data (.i v))) [(1000001,.cells [.map 1000005]),(1000002,.cells [.map 1000006]),(1000003,.cells [.data (.str p.name),.data (.i p.latency),.data (.i p.tail),.data (.sl 3 (p.params.map Bd.cs)),.data (.sl 3 (p.states.map Bd.cs)),.data (.sl 4 (p.lines.map Ln.cs)),.data (.sl 2 (p.tables.map Tb.cs)),.data (.sl 8 (p.stmts.map Sm.cs))]),(1000004,.cells [.fn 83 [.ptr 1000007 0,.ptr 1000008 0,.ptr 1000003 0]]),(1000005,.map false [.int .i64] (s'.opn.map ibD)),(1000006,.map false [.int .i64] (s'.ages.map iiD)),(1000007,.cells [.fn 84 [.ptr 1000001 0,.ptr 1000002 0,.ptr 1000003 0,.ptr 1000004 0]]),(1000008,.cells [.map 1000009]),(1000009,.map true [.int .i64,.int .i64] (S.map kkD))]:=by
 refine aT Tryz.func84 ?_
 repeat' ((try conv=>whnf)<;>first
  |refine z4i rfl (λb hb=>?_) (λhb=>?_)
  |refine z4h rfl (λn ha=>?_) (λha=>?_)
  |((refine BrI.ff_of ?_ ?_);exact rfl)
  |((refine BrI.tt_of ?_ ?_);exact rfl)
  |exact(JH (z4q hb (by assumption) hh).symm).elim
  |(have ho:=z4r hb (by assumption);clear hb)
  |(have ho:=z4s hb;clear hb)
  |(have hq:=Qj ho ha hh;clear hh;obtain⟨rfl,rfl⟩:=z9l hq)
  |(have hq:=zer ho ha hh;clear hh;obtain⟨hir,hR,rfl,rfl⟩:=hq)
  |((refine aB ?_ ?_ ?_ ?_ ?_);exact rfl;exact rfl;rotate_left;exact z4t hir)
  |((refine lg.mk 33 ?_);refine⟨rfl,⟨[(1,.ptr 1000001 0),(2,.ptr 1000002 0),(3,.ptr 1000003 0),(4,.ptr 1000004 0),(5,.ptr 5 0),(9,.ptr 9 0),(32,.fn 92 [.ptr 800001 0])],[(1000001,.cells [.map 1000005]),(1000002,.cells [.map 1000006]),(1000003,.cells [.data (.str p.name),.data (.i p.latency),.data (.i p.tail),.data (.sl 3 (p.params.map Bd.cs)),.data (.sl 3 (p.states.map Bd.cs)),.data (.sl 4 (p.lines.map Ln.cs)),.data (.sl 2 (p.tables.map Tb.cs)),.data (.sl 8 (p.stmts.map Sm.cs))]),(1000004,.cells [.fn 83 [.ptr 1000007 0,.ptr 1000008 0,.ptr 1000003 0]]),(1000005,.map false [.int .i64] ((⟨s.ages,uH i true s.opn⟩:AS).opn.map ibD)),(1000006,.map false [.int .i64] ((⟨s.ages,uH i true s.opn⟩:AS).ages.map iiD)),(1000007,.cells [.fn 84 [.ptr 1000001 0,.ptr 1000002 0,.ptr 1000003 0,.ptr 1000004 0]]),(1000008,.cells [.map 1000009]),(1000009,.map true [.int .i64,.int .i64] (S.map kkD)),(5,.cells [.data (.i i)]),(9,.cells [.data (.i 0)]),(800001,.cells [.data (.i (bF p i).kind),.data (.str (bF p i).name),.data (.i (bF p i).index),.data (.i (bF p i).n),.data (.sl 5 (Ex.css (bF p i).l))])],[(1000000,9),(1000010,5),(1000001,1000001),(1000002,1000002),(1000003,1000003),(1000004,1000004),(1000005,1000005),(1000006,1000006),(1000007,1000007),(1000008,1000008),(1000009,1000009)],[(9,.ptr 1000000 0),(4,.ptr 1000004 0),(5,.ptr 1000010 0)],λj=>[(1000000,.cells [.data (.i (lX p S f s i j).1)]),(1000010,.cells [.data (.i i)]),(1000001,.cells [.map 1000005]),(1000002,.cells [.map 1000006]),(1000003,.cells [.data (.str p.name),.data (.i p.latency),.data (.i p.tail),.data (.sl 3 (p.params.map Bd.cs)),.data (.sl 3 (p.states.map Bd.cs)),.data (.sl 4 (p.lines.map Ln.cs)),.data (.sl 2 (p.tables.map Tb.cs)),.data (.sl 8 (p.stmts.map Sm.cs))]),(1000004,.cells [.fn 83 [.ptr 1000007 0,.ptr 1000008 0,.ptr 1000003 0]]),(1000005,.map false [.int .i64] ((lX p S f s i j).2.opn.map ibD)),(1000006,.map false [.int .i64] ((lX p S f s i j).2.ages.map iiD)),(1000007,.cells [.fn 84 [.ptr 1000001 0,.ptr 1000002 0,.ptr 1000003 0,.ptr 1000004 0]]),(1000008,.cells [.map 1000009]),(1000009,.map true [.int .i64,.int .i64] (S.map kkD))],(ax (bF p i)).length,λj=>[((ax (bF p i)).getD j Ex.none).d],900002,none⟩,⟨?_,rfl,rfl,?_,?_,λj hj=>⟨rfl,rfl,?_⟩,λ_ _ e=>KL e,⟨_,_,rfl,rfl,λRf Re hy hy2=>⟨1000000,[.ptr 1000001 0],[(1000001,.cells [.data (.i (bF p i).kind),.data (.str (bF p i).name),.data (.i (bF p i).index),.data (.i (bF p i).n),.data (.sl 5 (Ex.css (bF p i).l))])],.data (.tuple []),[(1000001,.cells [.data (.i (bF p i).kind),.data (.str (bF p i).name),.data (.i (bF p i).index),.data (.i (bF p i).n),.data (.sl 5 (Ex.css (bF p i).l))])],[(1000000,900002),(1000001,800001)],Fv (bF p i) Rf (λj y hj=>Nz (P:=λn d=>ak Tryz.prog yx [.yld 1000000,.data d] [(1000000,.rnd (Rf n))] (.ret (.b true)) [(1000000,.rnd (Rf (n+1)))]) hy j y (List.getElem?_eq_some_iff.1 hj).1 hj),rfl,?_,rfl,rfl,?_⟩⟩⟩⟩)
  |(have hq:=(hR j hj).ok;clear hj;obtain⟨w,hw1,hw2⟩:=hq)
  |exact trivial
  |refine BrI.intro (λh=>?_) (λh=>?_)
  |((refine fM [(1000000,800001)] (uF (bF p i)) ?_ ?_ ?_ ?_);rotate_left 0;exact rfl;exact trivial;exact rfl)
  |((refine lent_step' [(1000001,1000001),(1000002,1000002),(1000003,1000003),(1000004,1000004),(1000005,1000005),(1000006,1000006),(1000007,1000007),(1000008,1000008),(1000009,1000009)] (P6 p S f i ((ax (bF p i)).getD j Ex.none) (lX p S f s i j).2 (lX p S f s i (j+1)).2 w (λk v t h=>hA _ k v t h) hw1) ?_ ?_ ?_ ?_);rotate_left 0;exact rfl;(exact⟨rfl,rfl,rfl,rfl,rfl,rfl,rfl,rfl,rfl,trivial⟩);exact rfl)
  |((refine bg ?_);refine fin_step' [(1000001,1000001),(1000002,1000002),(1000003,1000003),(1000004,1000004),(1000005,1000005),(1000006,1000006),(1000007,1000007),(1000008,1000008),(1000009,1000009)] rfl ?_ ?_)
  |refine oK ?_
  |refine eQ ?_
  |refine And.intro ?_ ?_
  |exact @rfl AV _
  |fail)
 all_goals first
  |rfl
  |exact z5u
  |exact zg9
  |((try(conv=>whnf));(exact congrArg (λz=>AV.data (D.i z)) hw2.symm))
theorem zbz{s t:AS}(h:AR.pan s = .pan t):t=s:=by cases h;rfl
theorem zb0{x:Ex}{Rf:Nat->RP}{Re:RP}{d:D}{k:Nat}(h:ak Tryz.prog yx [.yld 1000000,.data ((ax x).getD k Ex.none).d] [(1000000,.rnd (Rf k))] (.pan (.data d)) [(1000000,.rnd Re)]):∀y,(ax x)[k]? = some y->zit Rf Re d (0+k) y:=by
 intro y hy
 rw[List.getD_eq_getElem?_getD,hy]at h
 rw[Nat.zero_add];exact h
theorem z2i(p:Pr)(S:List (Key×Int))(f:Nat)(i:Int)(s s':AS)(hA:∀s k v t,rf p S f s k = .ok v t->KJ p S s k v t)(hP:∀s k t,rf p S f s k = .pan t->CW p S s k t)(hh:rf p S (f+1) s i = .pan s'):ak Tryz.prog 84 [.data (.i i),.ptr 1000001 0,.ptr 1000002 0,.ptr 1000003 0,.ptr 1000004 0] [(1000001,.cells [.map 1000005]),(1000002,.cells [.map 1000006]),(1000003,.cells [.data (.str p.name),.data (.i p.latency),.data (.i p.tail),.data (.sl 3 (p.params.map Bd.cs)),.data (.sl 3 (p.states.map Bd.cs)),.data (.sl 4 (p.lines.map Ln.cs)),.data (.sl 2 (p.tables.map Tb.cs)),.data (.sl 8 (p.stmts.map Sm.cs))]),(1000004,.cells [.fn 83 [.ptr 1000007 0,.ptr 1000008 0,.ptr 1000003 0]]),(1000005,.map false [.int .i64] (s.opn.map ibD)),(1000006,.map false [.int .i64] (s.ages.map iiD)),(1000007,.cells [.fn 84 [.ptr 1000001 0,.ptr 1000002 0,.ptr 1000003 0,.ptr 1000004 0]]),(1000008,.cells [.map 1000009]),(1000009,.map true [.int .i64,.int .i64] (S.map kkD))] (.pan (.data (.iface 126 (.agg [])))) [(1000001,.cells [.map 1000005]),(1000002,.cells [.map 1000006]),(1000003,.cells [.data (.str p.name),.data (.i p.latency),.data (.i p.tail),.data (.sl 3 (p.params.map Bd.cs)),.data (.sl 3 (p.states.map Bd.cs)),.data (.sl 4 (p.lines.map Ln.cs)),.data (.sl 2 (p.tables.map Tb.cs)),.data (.sl 8 (p.stmts.map Sm.cs))]),(1000004,.cells [.fn 83 [.ptr 1000007 0,.ptr 1000008 0,.ptr 1000003 0]]),(1000005,.map false [.int .i64] (s'.opn.map ibD)),(1000006,.map false [.int .i64] (s'.ages.map iiD)),(1000007,.cells [.fn 84 [.ptr 1000001 0,.ptr 1000002 0,.ptr 1000003 0,.ptr 1000004 0]]),(1000008,.cells [.map 1000009]),(1000009,.map true [.int .i64,.int .i64] (S.map kkD))]:=by
 refine aT Tryz.func84 ?_
 repeat' ((try conv=>whnf)<;>first
  |refine z4i rfl (λb hb=>?_) (λhb=>?_)
  |refine z4h rfl (λn ha=>?_) (λha=>?_)
  |((refine BrI.ff_of ?_ ?_);exact rfl)
  |((refine BrI.tt_of ?_ ?_);exact rfl)
  |(have hq:=z4q hb (by assumption) hh;clear hh;obtain rfl:=zbz hq;clear hq)
  |(have ho:=z4r hb (by assumption);clear hb)
  |(have ho:=z4s hb;clear hb)
  |(have hq:=Qj ho ha hh;exact(JH hq).elim)
  |(have hq:=z9m ho ha hh;clear hh;obtain⟨hir,k,hk,hR,hW⟩:=hq)
  |((refine aB ?_ ?_ ?_ ?_ ?_);exact rfl;exact rfl;rotate_left;exact z4t hir)
  |((refine lg.mk 33 ?_);refine⟨rfl,⟨[(1,.ptr 1000001 0),(2,.ptr 1000002 0),(3,.ptr 1000003 0),(4,.ptr 1000004 0),(5,.ptr 5 0),(9,.ptr 9 0),(32,.fn 92 [.ptr 800001 0])],[(1000001,.cells [.map 1000005]),(1000002,.cells [.map 1000006]),(1000003,.cells [.data (.str p.name),.data (.i p.latency),.data (.i p.tail),.data (.sl 3 (p.params.map Bd.cs)),.data (.sl 3 (p.states.map Bd.cs)),.data (.sl 4 (p.lines.map Ln.cs)),.data (.sl 2 (p.tables.map Tb.cs)),.data (.sl 8 (p.stmts.map Sm.cs))]),(1000004,.cells [.fn 83 [.ptr 1000007 0,.ptr 1000008 0,.ptr 1000003 0]]),(1000005,.map false [.int .i64] ((⟨s.ages,uH i true s.opn⟩:AS).opn.map ibD)),(1000006,.map false [.int .i64] ((⟨s.ages,uH i true s.opn⟩:AS).ages.map iiD)),(1000007,.cells [.fn 84 [.ptr 1000001 0,.ptr 1000002 0,.ptr 1000003 0,.ptr 1000004 0]]),(1000008,.cells [.map 1000009]),(1000009,.map true [.int .i64,.int .i64] (S.map kkD)),(5,.cells [.data (.i i)]),(9,.cells [.data (.i 0)]),(800001,.cells [.data (.i (bF p i).kind),.data (.str (bF p i).name),.data (.i (bF p i).index),.data (.i (bF p i).n),.data (.sl 5 (Ex.css (bF p i).l))])],[(1000000,9),(1000010,5),(1000001,1000001),(1000002,1000002),(1000003,1000003),(1000004,1000004),(1000005,1000005),(1000006,1000006),(1000007,1000007),(1000008,1000008),(1000009,1000009)],[(9,.ptr 1000000 0),(4,.ptr 1000004 0),(5,.ptr 1000010 0)],λj=>[(1000000,.cells [.data (.i (lX p S f s i j).1)]),(1000010,.cells [.data (.i i)]),(1000001,.cells [.map 1000005]),(1000002,.cells [.map 1000006]),(1000003,.cells [.data (.str p.name),.data (.i p.latency),.data (.i p.tail),.data (.sl 3 (p.params.map Bd.cs)),.data (.sl 3 (p.states.map Bd.cs)),.data (.sl 4 (p.lines.map Ln.cs)),.data (.sl 2 (p.tables.map Tb.cs)),.data (.sl 8 (p.stmts.map Sm.cs))]),(1000004,.cells [.fn 83 [.ptr 1000007 0,.ptr 1000008 0,.ptr 1000003 0]]),(1000005,.map false [.int .i64] ((lX p S f s i j).2.opn.map ibD)),(1000006,.map false [.int .i64] ((lX p S f s i j).2.ages.map iiD)),(1000007,.cells [.fn 84 [.ptr 1000001 0,.ptr 1000002 0,.ptr 1000003 0,.ptr 1000004 0]]),(1000008,.cells [.map 1000009]),(1000009,.map true [.int .i64,.int .i64] (S.map kkD))],k,λj=>[((ax (bF p i)).getD j Ex.none).d],900002,some (.pan zg8,[(1000000,.cells [.data (.i (lX p S f s i k).1)]),(1000010,.cells [.data (.i i)]),(1000001,.cells [.map 1000005]),(1000002,.cells [.map 1000006]),(1000003,.cells [.data (.str p.name),.data (.i p.latency),.data (.i p.tail),.data (.sl 3 (p.params.map Bd.cs)),.data (.sl 3 (p.states.map Bd.cs)),.data (.sl 4 (p.lines.map Ln.cs)),.data (.sl 2 (p.tables.map Tb.cs)),.data (.sl 8 (p.stmts.map Sm.cs))]),(1000004,.cells [.fn 83 [.ptr 1000007 0,.ptr 1000008 0,.ptr 1000003 0]]),(1000005,.map false [.int .i64] (s'.opn.map ibD)),(1000006,.map false [.int .i64] (s'.ages.map iiD)),(1000007,.cells [.fn 84 [.ptr 1000001 0,.ptr 1000002 0,.ptr 1000003 0,.ptr 1000004 0]]),(1000008,.cells [.map 1000009]),(1000009,.map true [.int .i64,.int .i64] (S.map kkD))])⟩,⟨?_,rfl,rfl,?_,?_,λj hj=>⟨rfl,rfl,?_⟩,λkk hh ee=>?_,⟨_,_,rfl,rfl,λRf Re hy hy2=>⟨1000000,[.ptr 1000001 0],[(1000001,.cells [.data (.i (bF p i).kind),.data (.str (bF p i).name),.data (.i (bF p i).index),.data (.i (bF p i).n),.data (.sl 5 (Ex.css (bF p i).l))])],.data (.tuple []),[(1000001,.cells [.data (.i (bF p i).kind),.data (.str (bF p i).name),.data (.i (bF p i).index),.data (.i (bF p i).n),.data (.sl 5 (Ex.css (bF p i).l))])],[(1000000,900002),(1000001,800001)],TU (bF p i) Rf Re zg8 k hk (λj y hj h=>Nz (P:=λn d=>ak Tryz.prog yx [.yld 1000000,.data d] [(1000000,.rnd (Rf n))] (.ret (.b true)) [(1000000,.rnd (Rf (n+1)))]) hy j y hj h) (zb0 (hy2 (Option.some_ne_none _))),rfl,?_,rfl,rfl,?_⟩⟩⟩⟩)
  |(cases ee;refine⟨rfl,?_⟩)
  |(have hq:=(hR j hj).ok;clear hj;obtain⟨w,hw1,hw2⟩:=hq)
  |exact trivial
  |refine BrI.intro (λh=>?_) (λh=>?_)
  |((refine rest_step _ _ _ [true,true] ?_ ?_);kernel_rfl)
  |((refine quiet_step ?_ ?_);kernel_rfl)
  |((refine fM [(1000000,800001)] (uF (bF p i)) ?_ ?_ ?_ ?_);rotate_left 0;exact rfl;exact trivial;exact rfl)
  |((refine lent_step' [(1000001,1000001),(1000002,1000002),(1000003,1000003),(1000004,1000004),(1000005,1000005),(1000006,1000006),(1000007,1000007),(1000008,1000008),(1000009,1000009)] (P6 p S f i ((ax (bF p i)).getD j Ex.none) (lX p S f s i j).2 (lX p S f s i (j+1)).2 w (λk v t h=>hA _ k v t h) hw1) ?_ ?_ ?_ ?_);rotate_left 0;exact rfl;(exact⟨rfl,rfl,rfl,rfl,rfl,rfl,rfl,rfl,rfl,trivial⟩);exact rfl)
  |((refine lent_step' [(1000001,1000001),(1000002,1000002),(1000003,1000003),(1000004,1000004),(1000005,1000005),(1000006,1000006),(1000007,1000007),(1000008,1000008),(1000009,1000009)] (Nq p S f i ((ax (bF p i)).getD k Ex.none) (lX p S f s i k).2 s' (λk t h=>hP _ k t h) hW) ?_ ?_ ?_ ?_);rotate_left 0;exact rfl;(exact⟨rfl,rfl,rfl,rfl,rfl,rfl,rfl,rfl,rfl,trivial⟩);exact rfl)
  |((refine dB ?_);refine fin_step' [(1000001,1000001),(1000002,1000002),(1000003,1000003),(1000004,1000004),(1000005,1000005),(1000006,1000006),(1000007,1000007),(1000008,1000008),(1000009,1000009)] rfl ?_ ?_)
  |refine oK ?_
  |refine eQ ?_
  |((refine eF ?_ ?_);kernel_rfl)
  |refine And.intro ?_ ?_
  |exact @rfl AV _
  |exact @rfl Block _
  |fail)
 all_goals first
  |rfl
  |exact z5u
  |((try(conv=>whnf));(exact congrArg (λz=>AV.data (D.i z)) hw2.symm))
theorem H7(p:Pr)(S:List (Key×Int)):∀(f:Nat) (s:AS) (i:Int),(∀v s',rf p S f s i = .ok v s'->KJ p S s i v s')/\(∀t,rf p S f s i = .pan t->CW p S s i t)
 | 0,_,_=>⟨λ_ _ h=>(by cases h),λ_ h=>(by cases h)⟩
 |f+1,s,i=>⟨λv s' h=>zby p S f i s s' v (λs k v t h=>(H7 p S f s k).1 v t h) h,λt h=>z2i p S f i s t (λs k v t h=>(H7 p S f s k).1 v t h) (λs k t h=>(H7 p S f s k).2 t h) h⟩
end Go.Proofs.YtgehpmgkaeohaaaGreatDoor
