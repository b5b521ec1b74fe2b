/- Contracts: package syntax: the writer. -/
import Derived.Test.YtmfehangcmbidaaGreatDoorZXA
import Derived.Test.YtmfehangcmbidaaGreatDoorZK8
set_option linter.unusedSectionVars false
set_option linter.unusedSimpArgs false
set_option linter.unusedVariables false
set_option maxHeartbeats 4000000
namespace Go.Proofs.YtmfehangcmbidaaGreatDoor
open Go.Fw Go.Fw.Lx Go.Fw.Sy
set_option maxRecDepth 10000
variable [ae]
theorem bU(ss:List Sy.Str)(ts:List Tk)(hn:ts.length+ss.length<=1073741823):ax Tryz.prog 73 [.ptr 1000000 0,.gs 1000002 1 (ss.map ui)] [(1000000,wC (ts)),(1000001,wT (ts)),(1000002,.tok 1 (ss.map ui).length)] (.ret (.data (.tuple []))) [(1000000,wC (ts++ss.map wd)),(1000001,wT (ts++ss.map wd)),(1000002,.tok 1 (ss.map ui).length)]:=by
 refine xQ Tryz.func73 λhf=>?_
 have hlen:ss.length<=9223372036854775807:=by omega
 clear hf
 repeat' ((try(conv=>whnf))<;>first
  |exact trivial
  |exact ah hd0 ‹_›
  |refine bz hd0 ?_
  |refine aS hd0 ?_
  |((refine ak.mk 0 ?_);refine⟨aF (ss) 8 (λ(t1:(List Tk))=>[]) (λ(t1:(List Tk))=>[(1000000,wC (t1)),(1000001,wT (t1))]) [0,6,7] (λi0 r0 t1=>t1++r0.map wd=ts++ss.map wd),?_⟩;refine ag (ts) ?_ ?_ (λi0 (t1:(List Tk)) hd0 hI0=>?_) (λi0 x0 r0 (t1:(List Tk)) hd0 hl0 hI0=>?_))
  |(refine af hd0 (t1++[wd x0]) ?_ ?_)
  |((refine aC ?_);refine fin_step' [(1000000,1000000),(1000001,1000001),(1000002,1000002)] rfl ?_ ?_)
  |(refine aB.l _ ?_)
  |((refine aJ ?_ ?_ ?_ ?_ ?_);exact rfl;exact rfl;rotate_left;(exact aA hd0))
  |((refine app_step' ?_ ?_ ?_ ?_ ?_ ?_ ?_);exact rfl;exact rfl;exact rfl;exact rfl)
  |(refine And.intro ?_ ?_)
  |((refine oD ?_ ?_ ?_);exact rfl;exact rfl;(first |skip))
  |((refine fH ?_ ?_);exact rfl;(first |skip))
  |((refine aO ?_);refine dN ?_ ?_ ?_;exact rfl;exact rfl;(first |skip))
  |exact @rfl AV _
  |exact eX rfl
  |fail)
 all_goals first
  |((exact kZ rfl))
  |((simpa using hI0))
  |((have h:=congrArg List.length hI0;simp only[List.length_append,List.length_map,List.length_cons]at h ⊢;omega))
  |((simp only[List.map_nil,List.append_nil]at hI0;subst hI0;rfl))
  |skip
theorem bC(s:Sy.Str)(ts:List Tk)(hn:ts.length+[sg s].length<=1073741823):ax Tryz.prog 75 [.ptr 1000000 0,.data (.str s)] [(1000000,wC (ts)),(1000001,wT (ts))] (.ret (.data (.tuple []))) [(1000000,wC (ts++[sg s])),(1000001,wT (ts++[sg s]))]:=by
 refine bg Tryz.func75 ?_
 repeat' ((try(conv=>whnf))<;>first
  |exact trivial
  |((refine aC ?_);refine fin_step' [(1000000,1000000),(1000001,1000001)] rfl ?_ ?_)
  |(refine aB.l _ ?_)
  |((refine app_step' ?_ ?_ ?_ ?_ ?_ ?_ ?_);exact rfl;exact rfl;exact rfl;exact rfl)
  |(refine And.intro ?_ ?_)
  |((refine fH ?_ ?_);exact rfl;(first |skip))
  |((refine aO ?_);refine dN ?_ ?_ ?_;exact rfl;exact rfl;(first |skip))
  |exact eX rfl
  |fail)
 all_goals first
  |((exact kZ rfl))
  |((simp only[List.length_map,List.length_cons,List.length_nil]at hn ⊢;omega))
  |skip
theorem dJ(n:Int)(ts:List Tk)(hn:ts.length+(gm n).length<=1073741823):ax Tryz.prog 74 [.ptr 1000000 0,.data (.i n)] [(1000000,wC (ts)),(1000001,wT (ts))] (.ret (.data (.tuple []))) [(1000000,wC (ts++gm n)),(1000001,wT (ts++gm n))]:=by
 refine bg Tryz.func74 ?_
 repeat' ((try(conv=>whnf))<;>first
  |((refine bf [sg fA] (cZ (.str fA)) (λts h=>bC fA ts h) ?_);refine⟨_,_,_,rfl,rfl,rfl,rfl,rfl,(z4o h hn),?_⟩)
  |exact trivial
  |refine BrI.intro (λh=>?_) (λh=>?_)
  |((refine aC ?_);refine fin_step' [(1000000,1000000),(1000001,1000001)] rfl ?_ ?_)
  |(refine aB.l _ ?_)
  |((refine app_step' ?_ ?_ ?_ ?_ ?_ ?_ ?_);exact rfl;exact rfl;exact rfl;exact rfl)
  |(refine And.intro ?_ ?_)
  |((refine fH ?_ ?_);exact rfl;(first |skip))
  |((refine aO ?_);refine dN ?_ ?_ ?_;exact rfl;exact rfl;(first |skip))
  |exact eX rfl
  |fail)
 all_goals first
  |((exact z4p h))
  |((exact z4q h))
  |((exact Z8 h hn))
  |((exact Z9 h hn))
  |skip
theorem Dz(x:Ex)  : aj Tryz.prog 141 [x.d] (.ret (.i (level x.kind))):=by
 refine bV Tryz.func141 ?_
 repeat' ((try(conv=>whnf))<;>first
  |((refine nU ?_ ?_);exact rfl)
  |refine BrI.intro (λh=>?_) (λh=>?_)
  |(refine qo ?_;conv=>whnf)
  |fail)
 all_goals first
  |((simp only[level, *,Bool.true_or,Bool.or_true,Bool.false_or,Bool.or_false,Bool.or_self,if_true,if_false,Bool.false_eq_true]))
  |skip
theorem A8   : ax Tryz.prog 143 [] [] (.ret (.map 1000000)) [(1000000,.map false [.str] (Dc.map U8))]:=by
 refine bg Tryz.func143 ?_
 repeat' ((try(conv=>whnf))<;>first
  |exact trivial
  |((refine aC ?_);refine fin_step' [(1000000,1)] rfl ?_ ?_)
  |(refine And.intro ?_ ?_)
  |exact @rfl AV _
  |exact @rfl Block _
  |fail)
 all_goals first
  |(rfl)
  |skip
theorem PO   : ax Tryz.prog 142 [] [] (.ret (.map 1000000)) [(1000000,.map false [.int .i64] (forms.map z4n))]:=by
 refine bg Tryz.func142 ?_
 repeat' ((try(conv=>whnf))<;>first
  |exact trivial
  |((refine aC ?_);refine fin_step' [(1000000,1)] rfl ?_ ?_)
  |(refine aB.l _ ?_)
  |(refine And.intro ?_ ?_)
  |exact @rfl AV _
  |exact @rfl Block _
  |fail)
 all_goals first
  |(rfl)
  |skip
theorem PQ(x:Ex)(v:Int)(ts:List Tk)(hlt:decide (level x.kind<v)=true)(hA:∀ts:List Tk,ts.length+(aZ x).length<=1073741823->ax Tryz.prog 121 [.ptr 1000000 0,.data x.d,.data (.i 0)] [(1000000,wC (ts)),(1000001,wT (ts))] (.ret (.data (.tuple []))) [(1000000,wC (ts++aZ x)),(1000001,wT (ts++aZ x))])(hn:ts.length+(dE x v).length<=1073741823):ax Tryz.prog 121 [.ptr 1000000 0,.data x.d,.data (.i v)] [(1000000,wC (ts)),(1000001,wT (ts))] (.ret (.data (.tuple []))) [(1000000,wC (ts++dE x v)),(1000001,wT (ts++dE x v))]:=by
 refine bg Tryz.func121 ?_
 repeat' ((try(conv=>whnf))<;>first
  |(exact absurd (hlt.symm.trans h) Bool.noConfusion)
  |((refine bf [sg nN] (cZ (.str nN)) (λts h=>bC nN ts h) ?_);refine⟨_,_,_,rfl,rfl,rfl,rfl,rfl,(z4x hlt hn),?_⟩)
  |((refine bf [sg uj] (cZ (.str uj)) (λts h=>bC uj ts h) ?_);refine⟨_,_,_,rfl,rfl,rfl,rfl,rfl,(z4z hlt hn),?_⟩)
  |((refine bf (aZ x) (tY x.d (.i 0)) (λts h=>hA ts h) ?_);refine⟨_,_,_,rfl,rfl,rfl,rfl,rfl,z4y hlt hn,?_⟩)
  |exact trivial
  |refine BrI.intro (λh=>?_) (λh=>?_)
  |((refine ai ?_ ?_ ?_);rotate_left;(exact Dz _))
  |((refine aC ?_);refine fin_step' [(1000000,1000000),(1000001,1000001)] rfl ?_ ?_)
  |(refine And.intro ?_ ?_)
  |((refine fH ?_ ?_);exact rfl;(first |skip))
  |((refine aO ?_);refine dN ?_ ?_ ?_;exact rfl;exact rfl;(first |skip))
  |fail)
 all_goals first
  |((exact z5a hlt))
  |skip
theorem DC(x:Ex)(v0:Int)(ts:List Tk)(hge:decide (level x.kind<v0)=false)(ih:∀y,y∈x.l->∀(v:Int) (ts:List Tk),ts.length+(dE y v).length<=1073741823->ax Tryz.prog 121 [.ptr 1000000 0,.data y.d,.data (.i v)] [(1000000,wC (ts)),(1000001,wT (ts))] (.ret (.data (.tuple []))) [(1000000,wC (ts++dE y v)),(1000001,wT (ts++dE y v))])(hn:ts.length+(aZ x).length<=1073741823):ax Tryz.prog 121 [.ptr 1000000 0,.data x.d,.data (.i v0)] [(1000000,wC (ts)),(1000001,wT (ts))] (.ret (.data (.tuple []))) [(1000000,wC (ts++aZ x)),(1000001,wT (ts++aZ x))]:=by
 refine Io tok hmix ⟨[],[]⟩ Tryz.func121 rfl (by kernel_rfl) (by kernel_rfl) (by kernel_rfl) λhf=>?_
 clear hf
 repeat' ((try(conv=>whnf))<;>first
  |((refine nU ?_ ?_);exact rfl)
  |((refine mP ?_ ?_);exact rfl)
  |(exact absurd (hge.symm.trans h) Bool.noConfusion)
  |(have hMARK:=hI0;clear hMARK;(refine jL (λss ts h=>bU ss ts h) ?_);refine⟨[_],_,_,_,_,rfl,rfl,rfl,rfl,rfl,rfl,(by first |exact TP hI0 hn (EG ‹(x0==wIf)=true›) |exact TP hI0 hn (vH ‹(x0==lq)=true›) |exact TP hI0 hn (vI ‹(x0==lu)=true›) |exact TP hI0 hn (Aq ‹(x0==wIf)=false› ‹(x0==lq)=false› ‹(x0==lu)=false› ‹(x0==[])=false›)),?_⟩)
  |((refine bf [sg f.2.2] (cZ (.str f.2.2)) (λts h=>bC f.2.2 ts h) ?_);refine⟨_,_,_,rfl,rfl,rfl,rfl,rfl,(z4u hI0 hn h).1,?_⟩)
  |((refine bf (gm x.n) (cZ (.i x.n)) (λts h=>dJ x.n ts h) ?_);refine⟨_,_,_,rfl,rfl,rfl,rfl,rfl,(z4u hI0 hn h).2,?_⟩)
  |((refine bf [sg x0] (cZ (.str x0)) (λts h=>bC x0 ts h) ?_);refine⟨_,_,_,rfl,rfl,rfl,rfl,rfl,TP hI0 hn (Aq ‹(x0==wIf)=false› ‹(x0==lq)=false› ‹(x0==lu)=false› ‹(x0==[])=false›),?_⟩)
  |((refine bf (dE y v) (tY y.d (.i v)) (λts h=>ih y (List.mem_of_getElem? hy) v ts h) ?_);refine⟨_,_,_,rfl,rfl,rfl,rfl,rfl,TQ hI0 hn (EG ‹(x0==wIf)=true›) hy hv,?_⟩)
  |((refine bf (dE y v) (tY y.d (.i v)) (λts h=>ih y (List.mem_of_getElem? hy) v ts h) ?_);refine⟨_,_,_,rfl,rfl,rfl,rfl,rfl,TQ hI0 hn (vH ‹(x0==lq)=true›) hy hv,?_⟩)
  |((refine bf (dE y v) (tY y.d (.i v)) (λts h=>ih y (List.mem_of_getElem? hy) v ts h) ?_);refine⟨_,_,_,rfl,rfl,rfl,rfl,rfl,TQ hI0 hn (vI ‹(x0==lu)=true›) hy hv,?_⟩)
  |((refine bf (dE y v) (tY y.d (.i v)) (λts h=>ih y (List.mem_of_getElem? hy) v ts h) ?_);refine⟨_,_,_,rfl,rfl,rfl,rfl,rfl,TQ hI0 hn (Aq ‹(x0==wIf)=false› ‹(x0==lq)=false› ‹(x0==lu)=false› ‹(x0==[])=false›) hy hv,?_⟩)
  |((refine bf (dE y v) (tY y.d (.i v)) (λts h=>ih y (List.mem_of_getElem? hy) v ts h) ?_);refine⟨_,_,_,rfl,rfl,rfl,rfl,rfl,z4s hI0 hn (JO ‹(x0==wIf)=false› ‹(x0==lq)=false› ‹(x0==lu)=false› ‹(x0==[])=true›) hy hv,?_⟩)
  |(refine⟨(),WL x.kind,λb0=>?_⟩)
  |(obtain⟨g,hg,rfl⟩:=z0c hL)
  |(exact Or.inr rfl)
  |(refine⟨(),z0d hL h,?_⟩)
  |(refine⟨[],[(1000000,wC (ts++aZ x)),(1000001,wT (ts++aZ x))],?_,⟨rfl,rfl,rfl,rfl⟩,?_⟩)
  |((refine jL (λss ts h=>bU ss ts h) ?_);refine⟨[g.1],_,_,_,_,rfl,rfl,rfl,rfl,rfl,rfl,z7k hn he (Dh hg ‹(g.2.1 != x.kind)=false›),?_⟩)
  |((refine jL (λss ts h=>bU ss ts h) ?_);refine⟨[x.name],_,_,_,_,rfl,rfl,rfl,rfl,rfl,rfl,z7m hn he (Dh hg ‹(g.2.1 != x.kind)=false›) ‹g.2.2.2=true›,?_⟩)
  |((refine jL (λss ts h=>bU ss ts h) ?_);refine⟨[x.name],_,_,_,_,rfl,rfl,rfl,rfl,rfl,rfl,z7w hn he (MX hL) h,?_⟩)
  |((refine bf [sg nN] (cZ (.str nN)) (λts h=>bC nN ts h) ?_);refine⟨_,_,_,rfl,rfl,rfl,rfl,rfl,z7l hn he (Dh hg ‹(g.2.1 != x.kind)=false›),?_⟩)
  |((refine bf [sg aU] (cZ (.str aU)) (λts h=>bC aU ts h) ?_);refine⟨_,_,_,rfl,rfl,rfl,rfl,rfl,z7q hn hI5 ‹decide ((i:Int)<mm2 false g.2.2.1 ((Ex.css x.l).length:Int))=true› ‹decide ((i:Int)>0)=true›,?_⟩)
  |((refine bf [sg aU] (cZ (.str aU)) (λts h=>bC aU ts h) ?_);refine⟨_,_,_,rfl,rfl,rfl,rfl,rfl,z7n hn he (Dh hg ‹(g.2.1 != x.kind)=false›) ‹g.2.2.2=true›,?_⟩)
  |((refine bf [sg uj] (cZ (.str uj)) (λts h=>bC uj ts h) ?_);refine⟨_,_,_,rfl,rfl,rfl,rfl,rfl,z7u hn hI5 ‹decide ((i:Int)<mm2 false g.2.2.1 ((Ex.css x.l).length:Int))=false›,?_⟩)
  |((refine bf (gm x.n) (cZ (.i x.n)) (λts h=>dJ x.n ts h) ?_);refine⟨_,_,_,rfl,rfl,rfl,rfl,rfl,z7v hn he (MX hL) h,?_⟩)
  |((refine bf (dE y 0) (tY y.d (.i 0)) (λts h=>ih y (List.mem_of_getElem? hy) 0 ts h) ?_);refine⟨_,_,_,rfl,rfl,rfl,rfl,rfl,z7r hn hI5 ‹decide ((i:Int)<mm2 false g.2.2.1 ((Ex.css x.l).length:Int))=true› ‹decide ((i:Int)>0)=true› hy,?_⟩)
  |((refine bf (dE y 0) (tY y.d (.i 0)) (λts h=>ih y (List.mem_of_getElem? hy) 0 ts h) ?_);refine⟨_,_,_,rfl,rfl,rfl,rfl,rfl,z7s hn hI5 ‹decide ((i:Int)<mm2 false g.2.2.1 ((Ex.css x.l).length:Int))=true› ‹decide ((i:Int)>0)=false› hy,?_⟩)
  |(refine bD (i+1,t1++[sg aU]++dE y 0) ?_ (z0f hI5 ‹decide ((i:Int)<mm2 false g.2.2.1 ((Ex.css x.l).length:Int))=true› ‹decide ((i:Int)>0)=true› hy) (z5c ‹decide ((i:Int)<mm2 false g.2.2.1 ((Ex.css x.l).length:Int))=true›))
  |(refine bD (i+1,t1++dE y 0) ?_ (z5b hI5 ‹decide ((i:Int)<mm2 false g.2.2.1 ((Ex.css x.l).length:Int))=true› ‹decide ((i:Int)>0)=false› hy) (z5c ‹decide ((i:Int)<mm2 false g.2.2.1 ((Ex.css x.l).length:Int))=true›))
  |exact trivial
  |refine bz hd0 ?_
  |refine aS hd0 ?_
  |refine BrI.intro (λh=>?_) (λh=>?_)
  |(refine MS forms (λf he=>?_) (λhe=>?_))
  |((refine Yi (i:=i0) ?_ ?_ ?_ (λy hy=>?_));exact⟨rfl,rfl⟩;exact rfl;exact z4w ‹decide ((i0:Int)<((Ex.css x.l).length:Int))=true›)
  |((refine z4v (i:=i0) ?_ ?_ ?_ (λv hv=>?_));exact⟨rfl,rfl⟩;exact rfl;exact z7i he hd0)
  |((refine MapAt.mk 84 ?_);refine⟨800100,false,[.str],Dc.map U8,⟨rfl,rfl⟩,⟨_,_,rfl⟩,⟨Unit,[(0,.ptr 1000000 0),(4,.ptr 4 0)],λ_=>[(4,.cells [.data (.i x.kind),.data (.str x.name),.data (.i x.index),.data (.i x.n),.data (.sl 5 (Ex.css x.l))]),(1000000,wC (ts)),(1000001,wT (ts))],λ_ es=>MI x.kind es⟩,?_⟩;refine⟨?_,rfl,λ_ _=>rfl,λ_=>rfl,rfl,λ_ l1 z l2 b0 r hL=>?_,λ_ hL=>?_⟩)
  |((refine Yi (i:=i) ?_ ?_ ?_ (λy hy=>?_));exact⟨rfl,rfl⟩;exact rfl;exact(TS ‹decide ((i:Int)<mm2 false g.2.2.1 ((Ex.css x.l).length:Int))=true›).1)
  |((refine ak.mk 0 ?_);refine⟨aF (f.1) 35 (λ(t1:(List Tk))=>[]) (λ(t1:(List Tk))=>[(4,.cells [.data (.i x.kind),.data (.str x.name),.data (.i x.index),.data (.i x.n),.data (.sl 5 (Ex.css x.l))]),(1000000,wC (t1)),(1000001,wT (t1))]) [0,4,6,33,34] (λi0 r0 t1=>FI x f (ts++aZ x) i0 r0 t1),?_⟩;refine ag (ts) ?_ ?_ (λi0 (t1:(List Tk)) hd0 hI0=>?_) (λi0 x0 r0 (t1:(List Tk)) hd0 hl0 hI0=>?_))
  |(refine af hd0 ?_ ?_ ?_)
  |((refine ak.mk 5 ?_);(have hb1:g.2.2.2=true:=‹g.2.2.2=true›);refine⟨jI (λ(q:(Nat)×(List Tk))=>match q with |(i,t1)=>[(116,.data (.val (.int .i64 (i:Nat))))]) (λ(q:(Nat)×(List Tk))=>match q with |(i,t1)=>[(1000000,wC (t1)),(1000001,wT (t1))]) [0,4,115] (λ(q:(Nat)×(List Tk))=>match q with |(i,t1)=>AT x g (ts++aZ x) i t1) (λ(q:(Nat)×(List Tk))=>match q with |(i,t1)=>x.l.length-i),?_⟩;refine dD ((0),(ts++[g.1].map wd++[sg nN]++[x.name].map wd++[sg aU])) ?_ ?_ (λ⟨i,t1⟩ hI5=>?_))
  |((refine ak.mk 5 ?_);(have hb1:g.2.2.2=false:=‹g.2.2.2=false›);refine⟨jI (λ(q:(Nat)×(List Tk))=>match q with |(i,t1)=>[(116,.data (.val (.int .i64 (i:Nat))))]) (λ(q:(Nat)×(List Tk))=>match q with |(i,t1)=>[(1000000,wC (t1)),(1000001,wT (t1))]) [0,4,115] (λ(q:(Nat)×(List Tk))=>match q with |(i,t1)=>AT x g (ts++aZ x) i t1) (λ(q:(Nat)×(List Tk))=>match q with |(i,t1)=>x.l.length-i),?_⟩;refine dD ((0),(ts++[g.1].map wd++[sg nN])) ?_ ?_ (λ⟨i,t1⟩ hI5=>?_))
  |((refine ai ?_ ?_ ?_);rotate_left;(exact Dz _))
  |((refine iq [(1000000,800000)] (PO) ?_ ?_ ?_ ?_);rotate_left 0;exact rfl;(exact trivial);exact rfl)
  |((refine iq [(1000000,800100)] (A8) ?_ ?_ ?_ ?_);rotate_left 0;exact rfl;(exact trivial);exact rfl)
  |((refine aC ?_);refine fin_step' [(1000000,1000000),(1000001,1000001)] rfl ?_ ?_)
  |(refine aB.l _ ?_)
  |((refine aJ ?_ ?_ ?_ ?_ ?_);exact rfl;exact rfl;rotate_left;(exact aA hd0))
  |((refine aV ?_ ?_);exact rfl)
  |((refine aH ?_ ?_);kernel_rfl)
  |(refine And.intro ?_ ?_)
  |((refine oD ?_ ?_ ?_);exact rfl;exact rfl;(first |skip))
  |((refine fH ?_ ?_);exact rfl;(first |skip))
  |((refine aO ?_);refine dN ?_ ?_ ?_;exact rfl;exact rfl;(first |exact rfl |skip))
  |exact @rfl AV _
  |exact @rfl Block _
  |exact @rfl (List AV) _
  |fail)
 all_goals first
  |((exact WI he))
  |((exact ah hd0 (z0e he)))
  |((exact z1r hI0 (EG ‹(x0==wIf)=true›) hy hv))
  |((exact z4r hI0 (EG ‹(x0==wIf)=true›) ‹decide ((i0:Int)<((Ex.css x.l).length:Int))=false›))
  |((exact z1r hI0 (vH ‹(x0==lq)=true›) hy hv))
  |((exact z4r hI0 (vH ‹(x0==lq)=true›) ‹decide ((i0:Int)<((Ex.css x.l).length:Int))=false›))
  |((exact z1r hI0 (vI ‹(x0==lu)=true›) hy hv))
  |((exact z4r hI0 (vI ‹(x0==lu)=true›) ‹decide ((i0:Int)<((Ex.css x.l).length:Int))=false›))
  |((exact z1r hI0 (Aq ‹(x0==wIf)=false› ‹(x0==lq)=false› ‹(x0==lu)=false› ‹(x0==[])=false›) hy hv))
  |((exact z4r hI0 (Aq ‹(x0==wIf)=false› ‹(x0==lq)=false› ‹(x0==lu)=false› ‹(x0==[])=false›) ‹decide ((i0:Int)<((Ex.css x.l).length:Int))=false›))
  |((exact z7f hI0 (JO ‹(x0==wIf)=false› ‹(x0==lq)=false› ‹(x0==lu)=false› ‹(x0==[])=true›) hy hv))
  |((exact z7g hI0 (JO ‹(x0==wIf)=false› ‹(x0==lq)=false› ‹(x0==lu)=false› ‹(x0==[])=true›) ‹decide ((i0:Int)<((Ex.css x.l).length:Int))=false›))
  |((exact congrArg (List.map Tk.cs) (z4t hI0 h)))
  |((exact congrArg (List.map Tk.cs) (z7h hI0 h)))
  |((exact z7o he (Dh hg ‹(g.2.1 != x.kind)=false›) ‹g.2.2.2=true›))
  |((exact z7p he (Dh hg ‹(g.2.1 != x.kind)=false›) ‹g.2.2.2=false›))
  |((exact Ey (z9q hg ‹decide ((i:Int)<mm2 false g.2.2.1 ((Ex.css x.l).length:Int))=true›)))
  |((exact congrArg (List.map Tk.cs) (z7t hI5 ‹decide ((i:Int)<mm2 false g.2.2.1 ((Ex.css x.l).length:Int))=false›)))
  |((exact congrArg (λl=>Block.tok 4 (List.map Tk.cs l).length) (z7t hI5 ‹decide ((i:Int)<mm2 false g.2.2.1 ((Ex.css x.l).length:Int))=false›)))
  |((exact z7x he (MX hL) h))
  |((exact z7y he (MX hL) h))
  |(rfl)
  |skip
theorem qM(x:Ex):∀(v:Int) (ts:List Tk),ts.length+(dE x v).length<=1073741823->ax Tryz.prog 121 [.ptr 1000000 0,.data x.d,.data (.i v)] [(1000000,wC (ts)),(1000001,wT (ts))] (.ret (.data (.tuple []))) [(1000000,wC (ts++dE x v)),(1000001,wT (ts++dE x v))]:=by
 refine Ex.ind (P:=λx=>∀(v:Int) (ts:List Tk),ts.length+(dE x v).length<=1073741823->ax Tryz.prog 121 [.ptr 1000000 0,.data x.d,.data (.i v)] [(1000000,wC (ts)),(1000001,wT (ts))] (.ret (.data (.tuple []))) [(1000000,wC (ts++dE x v)),(1000001,wT (ts++dE x v))]) (λx ih=>?_) x
 have hA:∀ts:List Tk,ts.length+(aZ x).length<=1073741823->ax Tryz.prog 121 [.ptr 1000000 0,.data x.d,.data (.i 0)] [(1000000,wC (ts)),(1000001,wT (ts))] (.ret (.data (.tuple []))) [(1000000,wC (ts++aZ x)),(1000001,wT (ts++aZ x))]:=λts hn=>DC x 0 ts (z9r x.kind) (λy hy v ts h=>ih y hy v ts h) hn
 intro v ts hn
 cases h:decide (level x.kind<v)with
 |true=>exact PQ x v ts h hA hn
 |false=>
  rw[WJ h]at hn ⊢
  exact DC x v ts h (λy hy v ts h=>ih y hy v ts h) hn
theorem qc(lo hi:Int)(ts:List Tk)(hn:ts.length+(fD lo hi).length<=1073741823):ax Tryz.prog 76 [.ptr 1000000 0,.data (.i lo),.data (.i hi)] [(1000000,wC (ts)),(1000001,wT (ts))] (.ret (.data (.tuple []))) [(1000000,wC (ts++fD lo hi)),(1000001,wT (ts++fD lo hi))]:=by
 refine bg Tryz.func76 ?_
 repeat' ((try(conv=>whnf))<;>first
  |((refine jL (λss ts h=>bU ss ts h) ?_);refine⟨[O1],_,_,_,_,rfl,rfl,rfl,rfl,rfl,rfl,(bc1).len (bR hn),?_⟩)
  |((refine bf (gm lo) (cZ (.i lo)) (λts h=>dJ lo ts h) ?_);refine⟨_,_,_,rfl,rfl,rfl,rfl,rfl,((bc1).go).len (bR hn),?_⟩)
  |((refine jL (λss ts h=>bU ss ts h) ?_);refine⟨[wTo],_,_,_,_,rfl,rfl,rfl,rfl,rfl,rfl,((bc1).go.go).len (bR hn),?_⟩)
  |((refine bf (gm hi) (cZ (.i hi)) (λts h=>dJ hi ts h) ?_);refine⟨_,_,_,rfl,rfl,rfl,rfl,rfl,((bc1).go.go.go).len (bR hn),?_⟩)
  |((refine bf [sg eu] (cZ (.str eu)) (λts h=>bC eu ts h) ?_);refine⟨_,_,_,rfl,rfl,rfl,rfl,rfl,((bc1).go.go.go.go).len (bR hn),?_⟩)
  |exact trivial
  |((refine aC ?_);refine fin_step' [(1000000,1000000),(1000001,1000001)] rfl ?_ ?_)
  |(refine aB.l _ ?_)
  |(refine And.intro ?_ ?_)
  |((refine fH ?_ ?_);exact rfl;(first |skip))
  |((refine aO ?_);refine dN ?_ ?_ ?_;exact rfl;exact rfl;(first |skip))
  |fail)
 all_goals first
  |((exact Dk (bc1).go.go.go.go))
  |skip
theorem PR(s:Sm)(ts:List Tk)(hn:ts.length+(iV s).length<=1073741823):ax Tryz.prog 77 [.ptr 1000000 0,.data s.d] [(1000000,wC (ts)),(1000001,wT (ts))] (.ret (.data (.tuple []))) [(1000000,wC (ts++iV s)),(1000001,wT (ts++iV s))]:=by
 refine bg Tryz.func77 ?_
 repeat' ((try(conv=>whnf))<;>first
  |((refine nU ?_ ?_);exact rfl)
  |((refine mP ?_ ?_);exact rfl)
  |((refine jL (λss ts h=>bU ss ts h) ?_);refine⟨[Zx,s.name],_,_,_,_,rfl,rfl,rfl,rfl,rfl,rfl,(sc1 h1).len (sR hn),?_⟩)
  |((refine jL (λss ts h=>bU ss ts h) ?_);refine⟨[Zy,s.name],_,_,_,_,rfl,rfl,rfl,rfl,rfl,rfl,(sc2 h1 h2).len (sR hn),?_⟩)
  |((refine jL (λss ts h=>bU ss ts h) ?_);refine⟨[JF,s.name],_,_,_,_,rfl,rfl,rfl,rfl,rfl,rfl,(sc3 h1 h2 h3).len (sR hn),?_⟩)
  |((refine jL (λss ts h=>bU ss ts h) ?_);refine⟨[Zz],_,_,_,_,rfl,rfl,rfl,rfl,rfl,rfl,(sc4 h1 h2 h3).len (sR hn),?_⟩)
  |((refine bf [sg sEq] (cZ (.str sEq)) (λts h=>bC sEq ts h) ?_);refine⟨_,_,_,rfl,rfl,rfl,rfl,rfl,((sc1 h1).go).len (sR hn),?_⟩)
  |((refine bf [sg sEq] (cZ (.str sEq)) (λts h=>bC sEq ts h) ?_);refine⟨_,_,_,rfl,rfl,rfl,rfl,rfl,((sc2 h1 h2).go).len (sR hn),?_⟩)
  |((refine bf [sg sEq] (cZ (.str sEq)) (λts h=>bC sEq ts h) ?_);refine⟨_,_,_,rfl,rfl,rfl,rfl,rfl,((sc3 h1 h2 h3).go).len (sR hn),?_⟩)
  |((refine bf (dE s.x 0) (tY s.x.d (.i 0)) (λts h=>qM s.x 0 ts h) ?_);refine⟨_,_,_,rfl,rfl,rfl,rfl,rfl,((sc1 h1).go.go).len (sR hn),?_⟩)
  |((refine bf (dE s.x 0) (tY s.x.d (.i 0)) (λts h=>qM s.x 0 ts h) ?_);refine⟨_,_,_,rfl,rfl,rfl,rfl,rfl,((sc2 h1 h2).go.go).len (sR hn),?_⟩)
  |((refine bf (dE s.x 0) (tY s.x.d (.i 0)) (λts h=>qM s.x 0 ts h) ?_);refine⟨_,_,_,rfl,rfl,rfl,rfl,rfl,((sc3 h1 h2 h3).go.go).len (sR hn),?_⟩)
  |((refine bf (dE s.x 0) (tY s.x.d (.i 0)) (λts h=>qM s.x 0 ts h) ?_);refine⟨_,_,_,rfl,rfl,rfl,rfl,rfl,((sc4 h1 h2 h3).go).len (sR hn),?_⟩)
  |((refine bf [sg eu] (cZ (.str eu)) (λts h=>bC eu ts h) ?_);refine⟨_,_,_,rfl,rfl,rfl,rfl,rfl,((sc1 h1).go.go.go).len (sR hn),?_⟩)
  |((refine bf [sg eu] (cZ (.str eu)) (λts h=>bC eu ts h) ?_);refine⟨_,_,_,rfl,rfl,rfl,rfl,rfl,((sc2 h1 h2).go.go.go).len (sR hn),?_⟩)
  |((refine bf [sg eu] (cZ (.str eu)) (λts h=>bC eu ts h) ?_);refine⟨_,_,_,rfl,rfl,rfl,rfl,rfl,((sc3 h1 h2 h3).go.go.go).len (sR hn),?_⟩)
  |((refine bf [sg eu] (cZ (.str eu)) (λts h=>bC eu ts h) ?_);refine⟨_,_,_,rfl,rfl,rfl,rfl,rfl,((sc4 h1 h2 h3).go.go).len (sR hn),?_⟩)
  |exact trivial
  |(refine z9s (λh1=>?_) (λh1 h2=>?_) (λh1 h2 h3=>?_) (λh1 h2 h3=>?_))
  |((refine aC ?_);refine fin_step' [(1000000,1000000),(1000001,1000001)] rfl ?_ ?_)
  |(refine aB.l _ ?_)
  |(refine And.intro ?_ ?_)
  |((refine fH ?_ ?_);exact rfl;(first |skip))
  |((refine aO ?_);refine dN ?_ ?_ ?_;exact rfl;exact rfl;(first |skip))
  |fail)
 all_goals first
  |((exact Dk (sc1 h1).go.go.go))
  |((exact Dk (sc2 h1 h2).go.go.go))
  |((exact Dk (sc3 h1 h2 h3).go.go.go))
  |((exact Dk (sc4 h1 h2 h3).go.go))
  |(rfl)
  |skip
theorem qN(p:Pr)(ts:List Tk)(hn:ts.length+(gW p).length<=1073741823):ax Tryz.prog 29 [.ptr 1000000 0,.data p.d] [(1000000,wC (ts)),(1000001,wT (ts))] (.ret (.data (.tuple []))) [(1000000,wC (ts++gW p)),(1000001,wT (ts++gW p))]:=by
 refine kP tok hmix ⟨[7],[]⟩ Tryz.func29 rfl (by kernel_rfl) (by kernel_rfl) (by kernel_rfl) λhf=>?_
 have hps:=Pr.fits (hf (.data p.d) (by simp)).data
 obtain⟨hlen,hlen2,hlen4,hlen6,hlen10,hlen8⟩:=hps
 clear hf
 repeat' ((try(conv=>whnf))<;>first
  |((refine jL (λss ts h=>bU ss ts h) ?_);refine⟨[wProcessor,p.name,dP],_,_,_,_,rfl,rfl,rfl,rfl,rfl,rfl,(pc1).len (pR hn),?_⟩)
  |((refine bf (gm p.latency) (cZ (.i p.latency)) (λts h=>dJ p.latency ts h) ?_);refine⟨_,_,_,rfl,rfl,rfl,rfl,rfl,((pc1).go).len (pR hn),?_⟩)
  |((refine jL (λss ts h=>bU ss ts h) ?_);refine⟨[wTail],_,_,_,_,rfl,rfl,rfl,rfl,rfl,rfl,((pc1).go.go).len (pR hn),?_⟩)
  |((refine jL (λss ts h=>bU ss ts h) ?_);refine⟨[fC],_,_,_,_,rfl,rfl,rfl,rfl,rfl,rfl,(pc3 h).len (pR hn),?_⟩)
  |((refine bf (gm p.tail) (cZ (.i p.tail)) (λts h=>dJ p.tail ts h) ?_);refine⟨_,_,_,rfl,rfl,rfl,rfl,rfl,(pc4 h).len (pR hn),?_⟩)
  |((refine ak.mk 7 ?_);refine⟨⟨List Tk,λ_=>[],λt1=>[(1000000,wC (t1)),(1000001,wT (t1))],[0,3],λt1=>CI ([sg sBra]++R0 p) (ts++gW p) t1,λ_=>0⟩,?_,?_⟩;rotate_left;intro t1 hC)
  |(refine⟨ts++[wProcessor,p.name,dP].map wd++gm p.latency++[wTail].map wd++[fC].map wd,(pc3 h).go,?_⟩)
  |(refine⟨ts++[wProcessor,p.name,dP].map wd++gm p.latency++[wTail].map wd++gm p.tail,(pc4 h).go,?_⟩)
  |((refine bf [sg sBra] (cZ (.str sBra)) (λts h=>bC sBra ts h) ?_);refine⟨_,_,_,rfl,rfl,rfl,rfl,rfl,(hC).len (pR hn),?_⟩)
  |((refine jL (λss ts h=>bU ss ts h) ?_);refine⟨[rP,x0.name],_,_,_,_,rfl,rfl,rfl,rfl,rfl,rfl,(O7 hI0).len (pR hn),?_⟩)
  |((refine bf (fD x0.lo x0.hi) (tY (.i x0.lo) (.i x0.hi)) (λts h=>qc x0.lo x0.hi ts h) ?_);refine⟨_,_,_,rfl,rfl,rfl,rfl,rfl,((O7 hI0).go).len (pR hn),?_⟩)
  |((refine jL (λss ts h=>bU ss ts h) ?_);refine⟨[pU,x2.name],_,_,_,_,rfl,rfl,rfl,rfl,rfl,rfl,(O7 hI2).len (pR hn),?_⟩)
  |((refine bf (fD x2.lo x2.hi) (tY (.i x2.lo) (.i x2.hi)) (λts h=>qc x2.lo x2.hi ts h) ?_);refine⟨_,_,_,rfl,rfl,rfl,rfl,rfl,((O7 hI2).go).len (pR hn),?_⟩)
  |((refine jL (λss ts h=>bU ss ts h) ?_);refine⟨[G6,x4.name],_,_,_,_,rfl,rfl,rfl,rfl,rfl,rfl,(WM hI4).len (pR hn),?_⟩)
  |((refine bf (gm x4.size) (cZ (.i x4.size)) (λts h=>dJ x4.size ts h) ?_);refine⟨_,_,_,rfl,rfl,rfl,rfl,rfl,((WM hI4).go).len (pR hn),?_⟩)
  |((refine bf (fD x4.lo x4.hi) (tY (.i x4.lo) (.i x4.hi)) (λts h=>qc x4.lo x4.hi ts h) ?_);refine⟨_,_,_,rfl,rfl,rfl,rfl,rfl,((WM hI4).go.go).len (pR hn),?_⟩)
  |((refine jL (λss ts h=>bU ss ts h) ?_);refine⟨[xW,x6.name],_,_,_,_,rfl,rfl,rfl,rfl,rfl,rfl,(z0g hI6).len (pR hn),?_⟩)
  |((refine bf [sg aU] (cZ (.str aU)) (λts h=>bC aU ts h) ?_);refine⟨_,_,_,rfl,rfl,rfl,rfl,rfl,(z0h hI8 ‹decide ((i8:Int)>0)=true›).len (pR hn),?_⟩)
  |((refine bf [sg eu] (cZ (.str eu)) (λts h=>bC eu ts h) ?_);refine⟨_,_,_,rfl,rfl,rfl,rfl,rfl,(z5f hI8).len (pR hn),?_⟩)
  |((refine bf [sg sEq] (cZ (.str sEq)) (λts h=>bC sEq ts h) ?_);refine⟨_,_,_,rfl,rfl,rfl,rfl,rfl,((z0g hI6).go).len (pR hn),?_⟩)
  |((refine bf (gm x8) (cZ (.i x8)) (λts h=>dJ x8 ts h) ?_);refine⟨_,_,_,rfl,rfl,rfl,rfl,rfl,((z0h hI8 ‹decide ((i8:Int)>0)=true›).go).len (pR hn),?_⟩)
  |((refine bf (gm x8) (cZ (.i x8)) (λts h=>dJ x8 ts h) ?_);refine⟨_,_,_,rfl,rfl,rfl,rfl,rfl,(z5e hI8 ‹decide ((i8:Int)>0)=false›).len (pR hn),?_⟩)
  |((refine bf (iV x10) (cZ x10.d) (λts h=>PR x10 ts h) ?_);refine⟨_,_,_,rfl,rfl,rfl,rfl,rfl,(z5d hI10).len (pR hn),?_⟩)
  |((refine bf [sg C9] (cZ (.str C9)) (λts h=>bC C9 ts h) ?_);refine⟨_,_,_,rfl,rfl,rfl,rfl,rfl,(Dj hI10).len (pR hn),?_⟩)
  |(refine af hd8 (t1++[sg aU]++gm x8) ?_ (z0h hI8 ‹decide ((i8:Int)>0)=true›).go.go)
  |(refine af hd8 (t1++gm x8) ?_ (z5e hI8 ‹decide ((i8:Int)>0)=false›).go)
  |exact trivial
  |exact ah hd0 ‹_›
  |exact ah hd2 ‹_›
  |exact ah hd4 ‹_›
  |exact ah hd6 ‹_›
  |exact ah hd10 ‹_›
  |refine bz hd0 ?_
  |refine bz hd2 ?_
  |refine bz hd4 ?_
  |refine bz hd6 ?_
  |refine bz hd10 ?_
  |refine bz hd8 ?_
  |refine aS hd0 ?_
  |refine aS hd2 ?_
  |refine aS hd4 ?_
  |refine aS hd6 ?_
  |refine aS hd10 ?_
  |refine aS hd8 ?_
  |refine BrI.intro (λh=>?_) (λh=>?_)
  |((refine ak.mk 8 ?_);refine⟨aF (x6.values) 118 (λ(t1:(List Tk))=>[]) (λ(t1:(List Tk))=>[(1000000,wC (t1)),(1000001,wT (t1))]) [0,3,102,103,104,116,117] (λi8 r8 t1=>CI (xe i8 r8++([sg eu]++(r6.flatMap tbT++R4 p))) (ts++gW p) t1),?_⟩;refine ag (t1++[xW,x6.name].map wd++[sg sEq]) ?_ ?_ (λi8 (t1:(List Tk)) hd8 hI8=>?_) (λi8 x8 r8 (t1:(List Tk)) hd8 hl8 hI8=>?_))
  |((refine ak.mk 10 ?_);refine⟨aF (p.stmts) 137 (λ(t1:(List Tk))=>[]) (λ(t1:(List Tk))=>[(1000000,wC (t1)),(1000001,wT (t1))]) [0,135,136] (λi10 r10 t1=>CI (r10.flatMap iV++R5 p) (ts++gW p) t1),?_⟩;refine ag (t1) ?_ ?_ (λi10 (t1:(List Tk)) hd10 hI10=>?_) (λi10 x10 r10 (t1:(List Tk)) hd10 hl10 hI10=>?_))
  |(refine af hd10 (t1++iV x10) ?_ ?_)
  |((refine ak.mk 6 ?_);refine⟨aF (p.tables) 104 (λ(t1:(List Tk))=>[]) (λ(t1:(List Tk))=>[(1000000,wC (t1)),(1000001,wT (t1))]) [0,3,102,103] (λi6 r6 t1=>CI (r6.flatMap tbT++R4 p) (ts++gW p) t1),?_⟩;refine ag (t1) ?_ ?_ (λi6 (t1:(List Tk)) hd6 hI6=>?_) (λi6 x6 r6 (t1:(List Tk)) hd6 hl6 hI6=>?_))
  |(refine af hd6 (t1++[sg eu]) ?_ ?_)
  |((refine ak.mk 4 ?_);refine⟨aF (p.lines) 81 (λ(t1:(List Tk))=>[]) (λ(t1:(List Tk))=>[(1000000,wC (t1)),(1000001,wT (t1))]) [0,3,79,80] (λi4 r4 t1=>CI (r4.flatMap lnT++R3 p) (ts++gW p) t1),?_⟩;refine ag (t1) ?_ ?_ (λi4 (t1:(List Tk)) hd4 hI4=>?_) (λi4 x4 r4 (t1:(List Tk)) hd4 hl4 hI4=>?_))
  |(refine af hd4 (t1++[G6,x4.name].map wd++gm x4.size++fD x4.lo x4.hi) ?_ ?_)
  |((refine ak.mk 2 ?_);refine⟨aF (p.states) 62 (λ(t1:(List Tk))=>[]) (λ(t1:(List Tk))=>[(1000000,wC (t1)),(1000001,wT (t1))]) [0,3,60,61] (λi2 r2 t1=>CI (r2.flatMap (bdT pU)++R2 p) (ts++gW p) t1),?_⟩;refine ag (t1) ?_ ?_ (λi2 (t1:(List Tk)) hd2 hI2=>?_) (λi2 x2 r2 (t1:(List Tk)) hd2 hl2 hI2=>?_))
  |(refine af hd2 (t1++[pU,x2.name].map wd++fD x2.lo x2.hi) ?_ ?_)
  |((refine ak.mk 0 ?_);refine⟨aF (p.params) 43 (λ(t1:(List Tk))=>[]) (λ(t1:(List Tk))=>[(1000000,wC (t1)),(1000001,wT (t1))]) [0,3,41,42] (λi0 r0 t1=>CI (r0.flatMap (bdT rP)++R1 p) (ts++gW p) t1),?_⟩;refine ag (t1++[sg sBra]) ?_ ?_ (λi0 (t1:(List Tk)) hd0 hI0=>?_) (λi0 x0 r0 (t1:(List Tk)) hd0 hl0 hI0=>?_))
  |(refine af hd0 (t1++[rP,x0.name].map wd++fD x0.lo x0.hi) ?_ ?_)
  |((refine aC ?_);refine fin_step' [(1000000,1000000),(1000001,1000001)] rfl ?_ ?_)
  |(refine aB.l _ ?_)
  |((refine aJ ?_ ?_ ?_ ?_ ?_);exact rfl;exact rfl;rotate_left;(first |exact aA hd0 |exact aA hd2 |exact aA hd4 |exact aA hd6 |exact aA hd10 |exact aA hd8))
  |((refine aV ?_ ?_);exact rfl)
  |(refine And.intro ?_ ?_)
  |((refine fH ?_ ?_);exact rfl;(first |skip))
  |((refine aO ?_);refine dN ?_ ?_ ?_;exact rfl;exact rfl;(first |skip))
  |exact @rfl AV _
  |fail)
 all_goals first
  |((exact hC.go))
  |((exact(O7 hI0).go.go))
  |((exact Dj hI0))
  |((exact(O7 hI2).go.go))
  |((exact Dj hI2))
  |((exact(WM hI4).go.go.go))
  |((exact Dj hI4))
  |((exact(z0g hI6).go.go))
  |((exact(z5f hI8).go))
  |((exact Dj hI6))
  |((exact(z5d hI10).go))
  |((exact Dk (Dj hI10)))
  |((exact ah hd8 (hlen8 x6 (dB hd6))))
  |skip
end Go.Proofs.YtmfehangcmbidaaGreatDoor
