/- Contracts: package syntax: the writer. -/
import Derived.Test.YtmfehangcmbidaaGreatDoorZXA
import Derived.Test.YtmfehangcmbidaaGreatDoorZK8
set_option linter.unusedSectionVars false
set_option linter.unusedSimpArgs false
set_option linter.unusedVariables false
set_option maxHeartbeats 4000000
namespace Go.Proofs.YtmfehangcmbidaaGreatDoor
open Go.Fw Go.Fw.Lx Go.Fw.Sy
set_option maxRecDepth 10000
variable [ae]
theorem bP(ss:List Sy.Str)(ts:List Tk)(hn:ts.length+ss.length<=1073741823):aC Tryz.prog 73 [.ptr 1000000 0,.gs 1000002 1 (ss.map ww)] [(1000000,wC (ts)),(1000001,wT (ts)),(1000002,.tok 1 (ss.map ww).length)] (.ret (.data (.tuple []))) [(1000000,wC (ts++ss.map wd)),(1000001,wT (ts++ss.map wd)),(1000002,.tok 1 (ss.map ww).length)]:=by
 refine ag tok hmix ⟨[],[]⟩ Tryz.func73 rfl (by kernel_rfl) (by kernel_rfl) (by kernel_rfl) λhf=>?_
 have hlen:ss.length<=9223372036854775807:=by omega
 clear hf
 repeat' ((try(conv=>whnf))<;>first
  |exact trivial
  |exact aK hd0 ‹_›
  |refine gX hd0 ?_
  |refine eH hd0 ?_
  |((refine aN.mk 0 ?_);refine⟨bn (ss) 8 (λ(t1:(List Tk))=>[]) (λ(t1:(List Tk))=>[(1000000,wC (t1)),(1000001,wT (t1))]) [0,6,7] (λi0 r0 t1=>t1++r0.map wd=ts++ss.map wd),?_⟩;refine au (ts) ?_ ?_ (λi0 (t1:(List Tk)) hd0 hI0=>?_) (λi0 x0 r0 (t1:(List Tk)) hd0 hl0 hI0=>?_))
  |(refine ak hd0 (t1++[wd x0]) ?_ ?_)
  |((refine ai ?_);refine fin_step' [(1000000,1000000),(1000001,1000001),(1000002,1000002)] rfl ?_ ?_)
  |(refine aG.l _ ?_)
  |((refine aU ?_ ?_ ?_ ?_ ?_);exact rfl;exact rfl;rotate_left;(exact cO hd0))
  |((refine app_step' ?_ ?_ ?_ ?_ ?_ ?_ ?_);exact rfl;exact rfl;exact rfl;exact rfl)
  |(refine And.intro ?_ ?_)
  |((refine qR ?_ ?_ ?_);exact rfl;exact rfl;(first |skip))
  |((refine fJ ?_ ?_);exact rfl;(first |skip))
  |((refine aO ?_);refine dN ?_ ?_ ?_;exact rfl;exact rfl;(first |skip))
  |exact @rfl AV _
  |exact fK rfl
  |fail)
 all_goals first
  |((exact kR rfl))
  |((simpa using hI0))
  |((have h:=congrArg List.length hI0;simp only[List.length_append,List.length_map,List.length_cons]at h ⊢;omega))
  |((simp only[List.map_nil,List.append_nil]at hI0;subst hI0;rfl))
  |skip
theorem bu(s:Sy.Str)(ts:List Tk)(hn:ts.length+[sg s].length<=1073741823):aC Tryz.prog 75 [.ptr 1000000 0,.data (.str s)] [(1000000,wC (ts)),(1000001,wT (ts))] (.ret (.data (.tuple []))) [(1000000,wC (ts++[sg s])),(1000001,wT (ts++[sg s]))]:=by
 refine ag tok hmix ⟨[],[]⟩ Tryz.func75 rfl (by kernel_rfl) (by kernel_rfl) (by kernel_rfl) λhf=>?_
 clear hf
 repeat' ((try(conv=>whnf))<;>first
  |exact trivial
  |((refine ai ?_);refine fin_step' [(1000000,1000000),(1000001,1000001)] rfl ?_ ?_)
  |(refine aG.l _ ?_)
  |((refine app_step' ?_ ?_ ?_ ?_ ?_ ?_ ?_);exact rfl;exact rfl;exact rfl;exact rfl)
  |(refine And.intro ?_ ?_)
  |((refine fJ ?_ ?_);exact rfl;(first |skip))
  |((refine aO ?_);refine dN ?_ ?_ ?_;exact rfl;exact rfl;(first |skip))
  |exact fK rfl
  |fail)
 all_goals first
  |((exact kR rfl))
  |((simp only[List.length_map,List.length_cons,List.length_nil]at hn ⊢;omega))
  |skip
theorem dM(n:Int)(ts:List Tk)(hn:ts.length+(dQ n).length<=1073741823):aC Tryz.prog 74 [.ptr 1000000 0,.data (.i n)] [(1000000,wC (ts)),(1000001,wT (ts))] (.ret (.data (.tuple []))) [(1000000,wC (ts++dQ n)),(1000001,wT (ts++dQ n))]:=by
 refine ag tok hmix ⟨[],[]⟩ Tryz.func74 rfl (by kernel_rfl) (by kernel_rfl) (by kernel_rfl) λhf=>?_
 clear hf
 repeat' ((try(conv=>whnf))<;>first
  |((refine aZ [sg sMinus] (dh (.str sMinus)) (λts h=>bu sMinus ts h) ?_);refine⟨_,_,_,rfl,rfl,rfl,rfl,rfl,(z5e h hn),?_⟩)
  |exact trivial
  |refine BrI.intro (λh=>?_) (λh=>?_)
  |((refine ai ?_);refine fin_step' [(1000000,1000000),(1000001,1000001)] rfl ?_ ?_)
  |(refine aG.l _ ?_)
  |((refine app_step' ?_ ?_ ?_ ?_ ?_ ?_ ?_);exact rfl;exact rfl;exact rfl;exact rfl)
  |(refine And.intro ?_ ?_)
  |((refine fJ ?_ ?_);exact rfl;(first |skip))
  |((refine aO ?_);refine dN ?_ ?_ ?_;exact rfl;exact rfl;(first |skip))
  |exact fK rfl
  |fail)
 all_goals first
  |((exact z5f h))
  |((exact z5g h))
  |((exact ZP h hn))
  |((exact ZQ h hn))
  |skip
theorem CE(x:Ex)  : aA Tryz.prog 141 [x.d] (.ret (.i (level x.kind))):=by
 refine af tok hmix ⟨[],[]⟩ Tryz.func141 rfl (by kernel_rfl) (by kernel_rfl) (by kernel_rfl) λhf=>?_
 clear hf
 repeat' ((try(conv=>whnf))<;>first
  |((refine kX ?_ ?_);exact rfl)
  |refine BrI.intro (λh=>?_) (λh=>?_)
  |((refine ai ?_);refine⟨[],rfl,?_,trivial⟩;conv=>whnf)
  |fail)
 all_goals first
  |((simp only[level, *,Bool.true_or,Bool.or_true,Bool.false_or,Bool.or_false,Bool.or_self,if_true,if_false,Bool.false_eq_true]))
  |skip
theorem Af   : aC Tryz.prog 143 [] [] (.ret (.map 1000000)) [(1000000,.map false [.str] (kW.map Ux))]:=by
 refine ag tok hmix ⟨[],[]⟩ Tryz.func143 rfl (by kernel_rfl) (by kernel_rfl) (by kernel_rfl) λhf=>?_
 clear hf
 repeat' ((try(conv=>whnf))<;>first
  |exact trivial
  |((refine ai ?_);refine fin_step' [(1000000,1)] rfl ?_ ?_)
  |(refine And.intro ?_ ?_)
  |exact @rfl AV _
  |exact @rfl Block _
  |fail)
 all_goals first
  |(rfl)
  |skip
theorem OC   : aC Tryz.prog 142 [] [] (.ret (.map 1000000)) [(1000000,.map false [.int .i64] (forms.map z5d))]:=by
 refine ag tok hmix ⟨[],[]⟩ Tryz.func142 rfl (by kernel_rfl) (by kernel_rfl) (by kernel_rfl) λhf=>?_
 clear hf
 repeat' ((try(conv=>whnf))<;>first
  |exact trivial
  |((refine ai ?_);refine fin_step' [(1000000,1)] rfl ?_ ?_)
  |(refine aG.l _ ?_)
  |(refine And.intro ?_ ?_)
  |exact @rfl AV _
  |exact @rfl Block _
  |fail)
 all_goals first
  |(rfl)
  |skip
theorem OD(x:Ex)(v:Int)(ts:List Tk)(hlt:decide (level x.kind<v)=true)(hA:∀ts:List Tk,ts.length+(aj x).length<=1073741823->aC Tryz.prog 121 [.ptr 1000000 0,.data x.d,.data (.i 0)] [(1000000,wC (ts)),(1000001,wT (ts))] (.ret (.data (.tuple []))) [(1000000,wC (ts++aj x)),(1000001,wT (ts++aj x))])(hn:ts.length+(aW x v).length<=1073741823):aC Tryz.prog 121 [.ptr 1000000 0,.data x.d,.data (.i v)] [(1000000,wC (ts)),(1000001,wT (ts))] (.ret (.data (.tuple []))) [(1000000,wC (ts++aW x v)),(1000001,wT (ts++aW x v))]:=by
 refine ag tok hmix ⟨[],[]⟩ Tryz.func121 rfl (by kernel_rfl) (by kernel_rfl) (by kernel_rfl) λhf=>?_
 clear hf
 repeat' ((try(conv=>whnf))<;>first
  |(exact absurd (hlt.symm.trans h) Bool.noConfusion)
  |((refine aZ [sg sPar] (dh (.str sPar)) (λts h=>bu sPar ts h) ?_);refine⟨_,_,_,rfl,rfl,rfl,rfl,rfl,(z5n hlt hn),?_⟩)
  |((refine aZ [sg sKet] (dh (.str sKet)) (λts h=>bu sKet ts h) ?_);refine⟨_,_,_,rfl,rfl,rfl,rfl,rfl,(z5p hlt hn),?_⟩)
  |((refine aZ (aj x) (sZ x.d (.i 0)) (λts h=>hA ts h) ?_);refine⟨_,_,_,rfl,rfl,rfl,rfl,rfl,z5o hlt hn,?_⟩)
  |exact trivial
  |refine BrI.intro (λh=>?_) (λh=>?_)
  |((refine ax ?_ ?_ ?_);rotate_left;(exact CE _))
  |((refine ai ?_);refine fin_step' [(1000000,1000000),(1000001,1000001)] rfl ?_ ?_)
  |(refine And.intro ?_ ?_)
  |((refine fJ ?_ ?_);exact rfl;(first |skip))
  |((refine aO ?_);refine dN ?_ ?_ ?_;exact rfl;exact rfl;(first |skip))
  |fail)
 all_goals first
  |((exact z5q hlt))
  |skip
theorem CG(x:Ex)(v0:Int)(ts:List Tk)(hge:decide (level x.kind<v0)=false)(ih:∀y,y∈x.l->∀(v:Int) (ts:List Tk),ts.length+(aW y v).length<=1073741823->aC Tryz.prog 121 [.ptr 1000000 0,.data y.d,.data (.i v)] [(1000000,wC (ts)),(1000001,wT (ts))] (.ret (.data (.tuple []))) [(1000000,wC (ts++aW y v)),(1000001,wT (ts++aW y v))])(hn:ts.length+(aj x).length<=1073741823):aC Tryz.prog 121 [.ptr 1000000 0,.data x.d,.data (.i v0)] [(1000000,wC (ts)),(1000001,wT (ts))] (.ret (.data (.tuple []))) [(1000000,wC (ts++aj x)),(1000001,wT (ts++aj x))]:=by
 refine GR tok hmix ⟨[],[]⟩ Tryz.func121 rfl (by kernel_rfl) (by kernel_rfl) (by kernel_rfl) λhf=>?_
 clear hf
 repeat' ((try(conv=>whnf))<;>first
  |((refine kX ?_ ?_);exact rfl)
  |((refine lQ ?_ ?_);exact rfl)
  |(exact absurd (hge.symm.trans h) Bool.noConfusion)
  |(have hMARK:=hI0;clear hMARK;(refine jG (λss ts h=>bP ss ts h) ?_);refine⟨[_],_,_,_,_,rfl,rfl,rfl,rfl,rfl,rfl,(by first |exact Sr hI0 hn (Ee ‹(x0==wIf)=true›) |exact Sr hI0 hn (uV ‹(x0==wThen)=true›) |exact Sr hI0 hn (uX ‹(x0==wElse)=true›) |exact Sr hI0 hn (zW ‹(x0==wIf)=false› ‹(x0==wThen)=false› ‹(x0==wElse)=false› ‹(x0==[])=false›)),?_⟩)
  |((refine aZ [sg f.2.2] (dh (.str f.2.2)) (λts h=>bu f.2.2 ts h) ?_);refine⟨_,_,_,rfl,rfl,rfl,rfl,rfl,(z5k hI0 hn h).1,?_⟩)
  |((refine aZ (dQ x.n) (dh (.i x.n)) (λts h=>dM x.n ts h) ?_);refine⟨_,_,_,rfl,rfl,rfl,rfl,rfl,(z5k hI0 hn h).2,?_⟩)
  |((refine aZ [sg x0] (dh (.str x0)) (λts h=>bu x0 ts h) ?_);refine⟨_,_,_,rfl,rfl,rfl,rfl,rfl,Sr hI0 hn (zW ‹(x0==wIf)=false› ‹(x0==wThen)=false› ‹(x0==wElse)=false› ‹(x0==[])=false›),?_⟩)
  |((refine aZ (aW y v) (sZ y.d (.i v)) (λts h=>ih y (List.mem_of_getElem? hy) v ts h) ?_);refine⟨_,_,_,rfl,rfl,rfl,rfl,rfl,Su hI0 hn (Ee ‹(x0==wIf)=true›) hy hv,?_⟩)
  |((refine aZ (aW y v) (sZ y.d (.i v)) (λts h=>ih y (List.mem_of_getElem? hy) v ts h) ?_);refine⟨_,_,_,rfl,rfl,rfl,rfl,rfl,Su hI0 hn (uV ‹(x0==wThen)=true›) hy hv,?_⟩)
  |((refine aZ (aW y v) (sZ y.d (.i v)) (λts h=>ih y (List.mem_of_getElem? hy) v ts h) ?_);refine⟨_,_,_,rfl,rfl,rfl,rfl,rfl,Su hI0 hn (uX ‹(x0==wElse)=true›) hy hv,?_⟩)
  |((refine aZ (aW y v) (sZ y.d (.i v)) (λts h=>ih y (List.mem_of_getElem? hy) v ts h) ?_);refine⟨_,_,_,rfl,rfl,rfl,rfl,rfl,Su hI0 hn (zW ‹(x0==wIf)=false› ‹(x0==wThen)=false› ‹(x0==wElse)=false› ‹(x0==[])=false›) hy hv,?_⟩)
  |((refine aZ (aW y v) (sZ y.d (.i v)) (λts h=>ih y (List.mem_of_getElem? hy) v ts h) ?_);refine⟨_,_,_,rfl,rfl,rfl,rfl,rfl,z5i hI0 hn (I8 ‹(x0==wIf)=false› ‹(x0==wThen)=false› ‹(x0==wElse)=false› ‹(x0==[])=true›) hy hv,?_⟩)
  |(refine⟨(),VW x.kind,λb0=>?_⟩)
  |(obtain⟨g,hg,rfl⟩:=ZU hL)
  |(exact Or.inr rfl)
  |(refine⟨(),ZV hL h,?_⟩)
  |(refine⟨[],[(1000000,wC (ts++aj x)),(1000001,wT (ts++aj x))],?_,⟨rfl,rfl,rfl,rfl⟩,?_⟩)
  |((refine jG (λss ts h=>bP ss ts h) ?_);refine⟨[g.1],_,_,_,_,rfl,rfl,rfl,rfl,rfl,rfl,z8w hn he (BU hg ‹(g.2.1 != x.kind)=false›),?_⟩)
  |((refine jG (λss ts h=>bP ss ts h) ?_);refine⟨[x.name],_,_,_,_,rfl,rfl,rfl,rfl,rfl,rfl,z8y hn he (BU hg ‹(g.2.1 != x.kind)=false›) ‹g.2.2.2=true›,?_⟩)
  |((refine jG (λss ts h=>bP ss ts h) ?_);refine⟨[x.name],_,_,_,_,rfl,rfl,rfl,rfl,rfl,rfl,z9g hn he (LD hL) h,?_⟩)
  |((refine aZ [sg sPar] (dh (.str sPar)) (λts h=>bu sPar ts h) ?_);refine⟨_,_,_,rfl,rfl,rfl,rfl,rfl,z8x hn he (BU hg ‹(g.2.1 != x.kind)=false›),?_⟩)
  |((refine aZ [sg sComma] (dh (.str sComma)) (λts h=>bu sComma ts h) ?_);refine⟨_,_,_,rfl,rfl,rfl,rfl,rfl,z9a hn hI5 ‹decide ((i:Int)<mm2 false g.2.2.1 ((Ex.css x.l).length:Int))=true› ‹decide ((i:Int)>0)=true›,?_⟩)
  |((refine aZ [sg sComma] (dh (.str sComma)) (λts h=>bu sComma ts h) ?_);refine⟨_,_,_,rfl,rfl,rfl,rfl,rfl,z8z hn he (BU hg ‹(g.2.1 != x.kind)=false›) ‹g.2.2.2=true›,?_⟩)
  |((refine aZ [sg sKet] (dh (.str sKet)) (λts h=>bu sKet ts h) ?_);refine⟨_,_,_,rfl,rfl,rfl,rfl,rfl,z9e hn hI5 ‹decide ((i:Int)<mm2 false g.2.2.1 ((Ex.css x.l).length:Int))=false›,?_⟩)
  |((refine aZ (dQ x.n) (dh (.i x.n)) (λts h=>dM x.n ts h) ?_);refine⟨_,_,_,rfl,rfl,rfl,rfl,rfl,z9f hn he (LD hL) h,?_⟩)
  |((refine aZ (aW y 0) (sZ y.d (.i 0)) (λts h=>ih y (List.mem_of_getElem? hy) 0 ts h) ?_);refine⟨_,_,_,rfl,rfl,rfl,rfl,rfl,z9b hn hI5 ‹decide ((i:Int)<mm2 false g.2.2.1 ((Ex.css x.l).length:Int))=true› ‹decide ((i:Int)>0)=true› hy,?_⟩)
  |((refine aZ (aW y 0) (sZ y.d (.i 0)) (λts h=>ih y (List.mem_of_getElem? hy) 0 ts h) ?_);refine⟨_,_,_,rfl,rfl,rfl,rfl,rfl,z9c hn hI5 ‹decide ((i:Int)<mm2 false g.2.2.1 ((Ex.css x.l).length:Int))=true› ‹decide ((i:Int)>0)=false› hy,?_⟩)
  |(refine bz (i+1,t1++[sg sComma]++aW y 0) ?_ (ZX hI5 ‹decide ((i:Int)<mm2 false g.2.2.1 ((Ex.css x.l).length:Int))=true› ‹decide ((i:Int)>0)=true› hy) (z5s ‹decide ((i:Int)<mm2 false g.2.2.1 ((Ex.css x.l).length:Int))=true›))
  |(refine bz (i+1,t1++aW y 0) ?_ (z5r hI5 ‹decide ((i:Int)<mm2 false g.2.2.1 ((Ex.css x.l).length:Int))=true› ‹decide ((i:Int)>0)=false› hy) (z5s ‹decide ((i:Int)<mm2 false g.2.2.1 ((Ex.css x.l).length:Int))=true›))
  |exact trivial
  |refine gX hd0 ?_
  |refine eH hd0 ?_
  |refine BrI.intro (λh=>?_) (λh=>?_)
  |(refine Lt forms (λf he=>?_) (λhe=>?_))
  |((refine X4 (i:=i0) ?_ ?_ ?_ (λy hy=>?_));exact⟨rfl,rfl⟩;exact rfl;exact z5m ‹decide ((i0:Int)<((Ex.css x.l).length:Int))=true›)
  |((refine z5l (i:=i0) ?_ ?_ ?_ (λv hv=>?_));exact⟨rfl,rfl⟩;exact rfl;exact z8u he hd0)
  |((refine MapAt.mk 84 ?_);refine⟨800100,false,[.str],kW.map Ux,⟨rfl,rfl⟩,⟨_,_,rfl⟩,⟨Unit,[(0,.ptr 1000000 0),(4,.ptr 4 0)],λ_=>[(4,.cells [.data (.i x.kind),.data (.str x.name),.data (.i x.index),.data (.i x.n),.data (.sl 5 (Ex.css x.l))]),(1000000,wC (ts)),(1000001,wT (ts))],λ_ es=>MI x.kind es⟩,?_⟩;refine⟨?_,rfl,λ_ _=>rfl,λ_=>rfl,rfl,λ_ l1 z l2 b0 r hL=>?_,λ_ hL=>?_⟩)
  |((refine X4 (i:=i) ?_ ?_ ?_ (λy hy=>?_));exact⟨rfl,rfl⟩;exact rfl;exact(SB ‹decide ((i:Int)<mm2 false g.2.2.1 ((Ex.css x.l).length:Int))=true›).1)
  |((refine aN.mk 0 ?_);refine⟨bn (f.1) 35 (λ(t1:(List Tk))=>[]) (λ(t1:(List Tk))=>[(4,.cells [.data (.i x.kind),.data (.str x.name),.data (.i x.index),.data (.i x.n),.data (.sl 5 (Ex.css x.l))]),(1000000,wC (t1)),(1000001,wT (t1))]) [0,4,6,33,34] (λi0 r0 t1=>FI x f (ts++aj x) i0 r0 t1),?_⟩;refine au (ts) ?_ ?_ (λi0 (t1:(List Tk)) hd0 hI0=>?_) (λi0 x0 r0 (t1:(List Tk)) hd0 hl0 hI0=>?_))
  |(refine ak hd0 ?_ ?_ ?_)
  |((refine aN.mk 5 ?_);(have hb1:g.2.2.2=true:=‹g.2.2.2=true›);refine⟨jE (λ(q:(Nat)×(List Tk))=>match q with |(i,t1)=>[(116,.data (.val (.int .i64 (i:Nat))))]) (λ(q:(Nat)×(List Tk))=>match q with |(i,t1)=>[(1000000,wC (t1)),(1000001,wT (t1))]) [0,4,115] (λ(q:(Nat)×(List Tk))=>match q with |(i,t1)=>AT x g (ts++aj x) i t1) (λ(q:(Nat)×(List Tk))=>match q with |(i,t1)=>x.l.length-i),?_⟩;refine dI ((0),(ts++[g.1].map wd++[sg sPar]++[x.name].map wd++[sg sComma])) ?_ ?_ (λ⟨i,t1⟩ hI5=>?_))
  |((refine aN.mk 5 ?_);(have hb1:g.2.2.2=false:=‹g.2.2.2=false›);refine⟨jE (λ(q:(Nat)×(List Tk))=>match q with |(i,t1)=>[(116,.data (.val (.int .i64 (i:Nat))))]) (λ(q:(Nat)×(List Tk))=>match q with |(i,t1)=>[(1000000,wC (t1)),(1000001,wT (t1))]) [0,4,115] (λ(q:(Nat)×(List Tk))=>match q with |(i,t1)=>AT x g (ts++aj x) i t1) (λ(q:(Nat)×(List Tk))=>match q with |(i,t1)=>x.l.length-i),?_⟩;refine dI ((0),(ts++[g.1].map wd++[sg sPar])) ?_ ?_ (λ⟨i,t1⟩ hI5=>?_))
  |((refine ax ?_ ?_ ?_);rotate_left;(exact CE _))
  |((refine uG [(1000000,800000)] (OC) ?_ ?_ ?_ ?_);rotate_left 0;exact rfl;(exact trivial);exact rfl)
  |((refine uG [(1000000,800100)] (Af) ?_ ?_ ?_ ?_);rotate_left 0;exact rfl;(exact trivial);exact rfl)
  |((refine ai ?_);refine fin_step' [(1000000,1000000),(1000001,1000001)] rfl ?_ ?_)
  |(refine aG.l _ ?_)
  |((refine aU ?_ ?_ ?_ ?_ ?_);exact rfl;exact rfl;rotate_left;(exact cO hd0))
  |((refine bg ?_ ?_);exact rfl)
  |((refine aI ?_ ?_);kernel_rfl)
  |(refine And.intro ?_ ?_)
  |((refine qR ?_ ?_ ?_);exact rfl;exact rfl;(first |skip))
  |((refine fJ ?_ ?_);exact rfl;(first |skip))
  |((refine aO ?_);refine dN ?_ ?_ ?_;exact rfl;exact rfl;(first |exact rfl |skip))
  |exact @rfl AV _
  |exact @rfl Block _
  |exact @rfl (List AV) _
  |fail)
 all_goals first
  |((exact VV he))
  |((exact aK hd0 (ZW he)))
  |((exact z2e hI0 (Ee ‹(x0==wIf)=true›) hy hv))
  |((exact z5h hI0 (Ee ‹(x0==wIf)=true›) ‹decide ((i0:Int)<((Ex.css x.l).length:Int))=false›))
  |((exact z2e hI0 (uV ‹(x0==wThen)=true›) hy hv))
  |((exact z5h hI0 (uV ‹(x0==wThen)=true›) ‹decide ((i0:Int)<((Ex.css x.l).length:Int))=false›))
  |((exact z2e hI0 (uX ‹(x0==wElse)=true›) hy hv))
  |((exact z5h hI0 (uX ‹(x0==wElse)=true›) ‹decide ((i0:Int)<((Ex.css x.l).length:Int))=false›))
  |((exact z2e hI0 (zW ‹(x0==wIf)=false› ‹(x0==wThen)=false› ‹(x0==wElse)=false› ‹(x0==[])=false›) hy hv))
  |((exact z5h hI0 (zW ‹(x0==wIf)=false› ‹(x0==wThen)=false› ‹(x0==wElse)=false› ‹(x0==[])=false›) ‹decide ((i0:Int)<((Ex.css x.l).length:Int))=false›))
  |((exact z8r hI0 (I8 ‹(x0==wIf)=false› ‹(x0==wThen)=false› ‹(x0==wElse)=false› ‹(x0==[])=true›) hy hv))
  |((exact z8s hI0 (I8 ‹(x0==wIf)=false› ‹(x0==wThen)=false› ‹(x0==wElse)=false› ‹(x0==[])=true›) ‹decide ((i0:Int)<((Ex.css x.l).length:Int))=false›))
  |((exact congrArg (List.map Tk.cs) (z5j hI0 h)))
  |((exact congrArg (List.map Tk.cs) (z8t hI0 h)))
  |((exact z81 he (BU hg ‹(g.2.1 != x.kind)=false›) ‹g.2.2.2=true›))
  |((exact z88 he (BU hg ‹(g.2.1 != x.kind)=false›) ‹g.2.2.2=false›))
  |((exact D7 (zaq hg ‹decide ((i:Int)<mm2 false g.2.2.1 ((Ex.css x.l).length:Int))=true›)))
  |((exact congrArg (List.map Tk.cs) (z9d hI5 ‹decide ((i:Int)<mm2 false g.2.2.1 ((Ex.css x.l).length:Int))=false›)))
  |((exact congrArg (λl=>Block.tok 4 (List.map Tk.cs l).length) (z9d hI5 ‹decide ((i:Int)<mm2 false g.2.2.1 ((Ex.css x.l).length:Int))=false›)))
  |((exact z9h he (LD hL) h))
  |((exact z9i he (LD hL) h))
  |(rfl)
  |skip
theorem qw(x:Ex):∀(v:Int) (ts:List Tk),ts.length+(aW x v).length<=1073741823->aC Tryz.prog 121 [.ptr 1000000 0,.data x.d,.data (.i v)] [(1000000,wC (ts)),(1000001,wT (ts))] (.ret (.data (.tuple []))) [(1000000,wC (ts++aW x v)),(1000001,wT (ts++aW x v))]:=by
 refine Ex.ind (P:=λx=>∀(v:Int) (ts:List Tk),ts.length+(aW x v).length<=1073741823->aC Tryz.prog 121 [.ptr 1000000 0,.data x.d,.data (.i v)] [(1000000,wC (ts)),(1000001,wT (ts))] (.ret (.data (.tuple []))) [(1000000,wC (ts++aW x v)),(1000001,wT (ts++aW x v))]) (λx ih=>?_) x
 have hA:∀ts:List Tk,ts.length+(aj x).length<=1073741823->aC Tryz.prog 121 [.ptr 1000000 0,.data x.d,.data (.i 0)] [(1000000,wC (ts)),(1000001,wT (ts))] (.ret (.data (.tuple []))) [(1000000,wC (ts++aj x)),(1000001,wT (ts++aj x))]:=λts hn=>CG x 0 ts (zar x.kind) (λy hy v ts h=>ih y hy v ts h) hn
 intro v ts hn
 cases h:decide (level x.kind<v)with
 |true=>exact OD x v ts h hA hn
 |false=>
  rw[Ef h]at hn ⊢
  exact CG x v ts h (λy hy v ts h=>ih y hy v ts h) hn
theorem pF(lo hi:Int)(ts:List Tk)(hn:ts.length+(bV lo hi).length<=1073741823):aC Tryz.prog 76 [.ptr 1000000 0,.data (.i lo),.data (.i hi)] [(1000000,wC (ts)),(1000001,wT (ts))] (.ret (.data (.tuple []))) [(1000000,wC (ts++bV lo hi)),(1000001,wT (ts++bV lo hi))]:=by
 refine ag tok hmix ⟨[],[]⟩ Tryz.func76 rfl (by kernel_rfl) (by kernel_rfl) (by kernel_rfl) λhf=>?_
 clear hf
 repeat' ((try(conv=>whnf))<;>first
  |((refine jG (λss ts h=>bP ss ts h) ?_);refine⟨[wFrom],_,_,_,_,rfl,rfl,rfl,rfl,rfl,rfl,(bc1).len (bR hn),?_⟩)
  |((refine aZ (dQ lo) (dh (.i lo)) (λts h=>dM lo ts h) ?_);refine⟨_,_,_,rfl,rfl,rfl,rfl,rfl,((bc1).go).len (bR hn),?_⟩)
  |((refine jG (λss ts h=>bP ss ts h) ?_);refine⟨[wTo],_,_,_,_,rfl,rfl,rfl,rfl,rfl,rfl,((bc1).go.go).len (bR hn),?_⟩)
  |((refine aZ (dQ hi) (dh (.i hi)) (λts h=>dM hi ts h) ?_);refine⟨_,_,_,rfl,rfl,rfl,rfl,rfl,((bc1).go.go.go).len (bR hn),?_⟩)
  |((refine aZ [sg sSemi] (dh (.str sSemi)) (λts h=>bu sSemi ts h) ?_);refine⟨_,_,_,rfl,rfl,rfl,rfl,rfl,((bc1).go.go.go.go).len (bR hn),?_⟩)
  |exact trivial
  |((refine ai ?_);refine fin_step' [(1000000,1000000),(1000001,1000001)] rfl ?_ ?_)
  |(refine aG.l _ ?_)
  |(refine And.intro ?_ ?_)
  |((refine fJ ?_ ?_);exact rfl;(first |skip))
  |((refine aO ?_);refine dN ?_ ?_ ?_;exact rfl;exact rfl;(first |skip))
  |fail)
 all_goals first
  |((exact BZ (bc1).go.go.go.go))
  |skip
theorem OE(s:Sm)(ts:List Tk)(hn:ts.length+(fA s).length<=1073741823):aC Tryz.prog 77 [.ptr 1000000 0,.data s.d] [(1000000,wC (ts)),(1000001,wT (ts))] (.ret (.data (.tuple []))) [(1000000,wC (ts++fA s)),(1000001,wT (ts++fA s))]:=by
 refine ag tok hmix ⟨[],[]⟩ Tryz.func77 rfl (by kernel_rfl) (by kernel_rfl) (by kernel_rfl) λhf=>?_
 clear hf
 repeat' ((try(conv=>whnf))<;>first
  |((refine kX ?_ ?_);exact rfl)
  |((refine lQ ?_ ?_);exact rfl)
  |((refine jG (λss ts h=>bP ss ts h) ?_);refine⟨[XN,s.name],_,_,_,_,rfl,rfl,rfl,rfl,rfl,rfl,(sc1 h1).len (sR hn),?_⟩)
  |((refine jG (λss ts h=>bP ss ts h) ?_);refine⟨[XO,s.name],_,_,_,_,rfl,rfl,rfl,rfl,rfl,rfl,(sc2 h1 h2).len (sR hn),?_⟩)
  |((refine jG (λss ts h=>bP ss ts h) ?_);refine⟨[Gm,s.name],_,_,_,_,rfl,rfl,rfl,rfl,rfl,rfl,(sc3 h1 h2 h3).len (sR hn),?_⟩)
  |((refine jG (λss ts h=>bP ss ts h) ?_);refine⟨[XP],_,_,_,_,rfl,rfl,rfl,rfl,rfl,rfl,(sc4 h1 h2 h3).len (sR hn),?_⟩)
  |((refine aZ [sg sEq] (dh (.str sEq)) (λts h=>bu sEq ts h) ?_);refine⟨_,_,_,rfl,rfl,rfl,rfl,rfl,((sc1 h1).go).len (sR hn),?_⟩)
  |((refine aZ [sg sEq] (dh (.str sEq)) (λts h=>bu sEq ts h) ?_);refine⟨_,_,_,rfl,rfl,rfl,rfl,rfl,((sc2 h1 h2).go).len (sR hn),?_⟩)
  |((refine aZ [sg sEq] (dh (.str sEq)) (λts h=>bu sEq ts h) ?_);refine⟨_,_,_,rfl,rfl,rfl,rfl,rfl,((sc3 h1 h2 h3).go).len (sR hn),?_⟩)
  |((refine aZ (aW s.x 0) (sZ s.x.d (.i 0)) (λts h=>qw s.x 0 ts h) ?_);refine⟨_,_,_,rfl,rfl,rfl,rfl,rfl,((sc1 h1).go.go).len (sR hn),?_⟩)
  |((refine aZ (aW s.x 0) (sZ s.x.d (.i 0)) (λts h=>qw s.x 0 ts h) ?_);refine⟨_,_,_,rfl,rfl,rfl,rfl,rfl,((sc2 h1 h2).go.go).len (sR hn),?_⟩)
  |((refine aZ (aW s.x 0) (sZ s.x.d (.i 0)) (λts h=>qw s.x 0 ts h) ?_);refine⟨_,_,_,rfl,rfl,rfl,rfl,rfl,((sc3 h1 h2 h3).go.go).len (sR hn),?_⟩)
  |((refine aZ (aW s.x 0) (sZ s.x.d (.i 0)) (λts h=>qw s.x 0 ts h) ?_);refine⟨_,_,_,rfl,rfl,rfl,rfl,rfl,((sc4 h1 h2 h3).go).len (sR hn),?_⟩)
  |((refine aZ [sg sSemi] (dh (.str sSemi)) (λts h=>bu sSemi ts h) ?_);refine⟨_,_,_,rfl,rfl,rfl,rfl,rfl,((sc1 h1).go.go.go).len (sR hn),?_⟩)
  |((refine aZ [sg sSemi] (dh (.str sSemi)) (λts h=>bu sSemi ts h) ?_);refine⟨_,_,_,rfl,rfl,rfl,rfl,rfl,((sc2 h1 h2).go.go.go).len (sR hn),?_⟩)
  |((refine aZ [sg sSemi] (dh (.str sSemi)) (λts h=>bu sSemi ts h) ?_);refine⟨_,_,_,rfl,rfl,rfl,rfl,rfl,((sc3 h1 h2 h3).go.go.go).len (sR hn),?_⟩)
  |((refine aZ [sg sSemi] (dh (.str sSemi)) (λts h=>bu sSemi ts h) ?_);refine⟨_,_,_,rfl,rfl,rfl,rfl,rfl,((sc4 h1 h2 h3).go.go).len (sR hn),?_⟩)
  |exact trivial
  |(refine zas (λh1=>?_) (λh1 h2=>?_) (λh1 h2 h3=>?_) (λh1 h2 h3=>?_))
  |((refine ai ?_);refine fin_step' [(1000000,1000000),(1000001,1000001)] rfl ?_ ?_)
  |(refine aG.l _ ?_)
  |(refine And.intro ?_ ?_)
  |((refine fJ ?_ ?_);exact rfl;(first |skip))
  |((refine aO ?_);refine dN ?_ ?_ ?_;exact rfl;exact rfl;(first |skip))
  |fail)
 all_goals first
  |((exact BZ (sc1 h1).go.go.go))
  |((exact BZ (sc2 h1 h2).go.go.go))
  |((exact BZ (sc3 h1 h2 h3).go.go.go))
  |((exact BZ (sc4 h1 h2 h3).go.go))
  |(rfl)
  |skip
theorem qx(p:Pr)(ts:List Tk)(hn:ts.length+(fB p).length<=1073741823):aC Tryz.prog 29 [.ptr 1000000 0,.data p.d] [(1000000,wC (ts)),(1000001,wT (ts))] (.ret (.data (.tuple []))) [(1000000,wC (ts++fB p)),(1000001,wT (ts++fB p))]:=by
 refine ag tok hmix ⟨[7],[]⟩ Tryz.func29 rfl (by kernel_rfl) (by kernel_rfl) (by kernel_rfl) λhf=>?_
 have hps:=Pr.fits (hf (.data p.d) (by simp)).data
 obtain⟨hlen,hlen2,hlen4,hlen6,hlen10,hlen8⟩:=hps
 clear hf
 repeat' ((try(conv=>whnf))<;>first
  |((refine jG (λss ts h=>bP ss ts h) ?_);refine⟨[wProcessor,p.name,dG],_,_,_,_,rfl,rfl,rfl,rfl,rfl,rfl,(pc1).len (pR hn),?_⟩)
  |((refine aZ (dQ p.latency) (dh (.i p.latency)) (λts h=>dM p.latency ts h) ?_);refine⟨_,_,_,rfl,rfl,rfl,rfl,rfl,((pc1).go).len (pR hn),?_⟩)
  |((refine jG (λss ts h=>bP ss ts h) ?_);refine⟨[wTail],_,_,_,_,rfl,rfl,rfl,rfl,rfl,rfl,((pc1).go.go).len (pR hn),?_⟩)
  |((refine jG (λss ts h=>bP ss ts h) ?_);refine⟨[di],_,_,_,_,rfl,rfl,rfl,rfl,rfl,rfl,(pc3 h).len (pR hn),?_⟩)
  |((refine aZ (dQ p.tail) (dh (.i p.tail)) (λts h=>dM p.tail ts h) ?_);refine⟨_,_,_,rfl,rfl,rfl,rfl,rfl,(pc4 h).len (pR hn),?_⟩)
  |((refine aN.mk 7 ?_);refine⟨⟨List Tk,λ_=>[],λt1=>[(1000000,wC (t1)),(1000001,wT (t1))],[0,3],λt1=>CI ([sg sBra]++R0 p) (ts++fB p) t1,λ_=>0⟩,?_,?_⟩;rotate_left;intro t1 hC)
  |(refine⟨ts++[wProcessor,p.name,dG].map wd++dQ p.latency++[wTail].map wd++[di].map wd,(pc3 h).go,?_⟩)
  |(refine⟨ts++[wProcessor,p.name,dG].map wd++dQ p.latency++[wTail].map wd++dQ p.tail,(pc4 h).go,?_⟩)
  |((refine aZ [sg sBra] (dh (.str sBra)) (λts h=>bu sBra ts h) ?_);refine⟨_,_,_,rfl,rfl,rfl,rfl,rfl,(hC).len (pR hn),?_⟩)
  |((refine jG (λss ts h=>bP ss ts h) ?_);refine⟨[lu,x0.name],_,_,_,_,rfl,rfl,rfl,rfl,rfl,rfl,(Oj hI0).len (pR hn),?_⟩)
  |((refine aZ (bV x0.lo x0.hi) (sZ (.i x0.lo) (.i x0.hi)) (λts h=>pF x0.lo x0.hi ts h) ?_);refine⟨_,_,_,rfl,rfl,rfl,rfl,rfl,((Oj hI0).go).len (pR hn),?_⟩)
  |((refine jG (λss ts h=>bP ss ts h) ?_);refine⟨[kL,x2.name],_,_,_,_,rfl,rfl,rfl,rfl,rfl,rfl,(Oj hI2).len (pR hn),?_⟩)
  |((refine aZ (bV x2.lo x2.hi) (sZ (.i x2.lo) (.i x2.hi)) (λts h=>pF x2.lo x2.hi ts h) ?_);refine⟨_,_,_,rfl,rfl,rfl,rfl,rfl,((Oj hI2).go).len (pR hn),?_⟩)
  |((refine jG (λss ts h=>bP ss ts h) ?_);refine⟨[DZ,x4.name],_,_,_,_,rfl,rfl,rfl,rfl,rfl,rfl,(VX hI4).len (pR hn),?_⟩)
  |((refine aZ (dQ x4.size) (dh (.i x4.size)) (λts h=>dM x4.size ts h) ?_);refine⟨_,_,_,rfl,rfl,rfl,rfl,rfl,((VX hI4).go).len (pR hn),?_⟩)
  |((refine aZ (bV x4.lo x4.hi) (sZ (.i x4.lo) (.i x4.hi)) (λts h=>pF x4.lo x4.hi ts h) ?_);refine⟨_,_,_,rfl,rfl,rfl,rfl,rfl,((VX hI4).go.go).len (pR hn),?_⟩)
  |((refine jG (λss ts h=>bP ss ts h) ?_);refine⟨[uN,x6.name],_,_,_,_,rfl,rfl,rfl,rfl,rfl,rfl,(ZY hI6).len (pR hn),?_⟩)
  |((refine aZ [sg sComma] (dh (.str sComma)) (λts h=>bu sComma ts h) ?_);refine⟨_,_,_,rfl,rfl,rfl,rfl,rfl,(ZZ hI8 ‹decide ((i8:Int)>0)=true›).len (pR hn),?_⟩)
  |((refine aZ [sg sSemi] (dh (.str sSemi)) (λts h=>bu sSemi ts h) ?_);refine⟨_,_,_,rfl,rfl,rfl,rfl,rfl,(z5v hI8).len (pR hn),?_⟩)
  |((refine aZ [sg sEq] (dh (.str sEq)) (λts h=>bu sEq ts h) ?_);refine⟨_,_,_,rfl,rfl,rfl,rfl,rfl,((ZY hI6).go).len (pR hn),?_⟩)
  |((refine aZ (dQ x8) (dh (.i x8)) (λts h=>dM x8 ts h) ?_);refine⟨_,_,_,rfl,rfl,rfl,rfl,rfl,((ZZ hI8 ‹decide ((i8:Int)>0)=true›).go).len (pR hn),?_⟩)
  |((refine aZ (dQ x8) (dh (.i x8)) (λts h=>dM x8 ts h) ?_);refine⟨_,_,_,rfl,rfl,rfl,rfl,rfl,(z5u hI8 ‹decide ((i8:Int)>0)=false›).len (pR hn),?_⟩)
  |((refine aZ (fA x10) (dh x10.d) (λts h=>OE x10 ts h) ?_);refine⟨_,_,_,rfl,rfl,rfl,rfl,rfl,(z5t hI10).len (pR hn),?_⟩)
  |((refine aZ [sg sEnd] (dh (.str sEnd)) (λts h=>bu sEnd ts h) ?_);refine⟨_,_,_,rfl,rfl,rfl,rfl,rfl,(BX hI10).len (pR hn),?_⟩)
  |(refine ak hd8 (t1++[sg sComma]++dQ x8) ?_ (ZZ hI8 ‹decide ((i8:Int)>0)=true›).go.go)
  |(refine ak hd8 (t1++dQ x8) ?_ (z5u hI8 ‹decide ((i8:Int)>0)=false›).go)
  |exact trivial
  |exact aK hd0 ‹_›
  |exact aK hd2 ‹_›
  |exact aK hd4 ‹_›
  |exact aK hd6 ‹_›
  |exact aK hd10 ‹_›
  |refine gX hd0 ?_
  |refine gX hd2 ?_
  |refine gX hd4 ?_
  |refine gX hd6 ?_
  |refine gX hd10 ?_
  |refine gX hd8 ?_
  |refine eH hd0 ?_
  |refine eH hd2 ?_
  |refine eH hd4 ?_
  |refine eH hd6 ?_
  |refine eH hd10 ?_
  |refine eH hd8 ?_
  |refine BrI.intro (λh=>?_) (λh=>?_)
  |((refine aN.mk 8 ?_);refine⟨bn (x6.values) 118 (λ(t1:(List Tk))=>[]) (λ(t1:(List Tk))=>[(1000000,wC (t1)),(1000001,wT (t1))]) [0,3,102,103,104,116,117] (λi8 r8 t1=>CI (kw i8 r8++([sg sSemi]++(r6.flatMap tbT++R4 p))) (ts++fB p) t1),?_⟩;refine au (t1++[uN,x6.name].map wd++[sg sEq]) ?_ ?_ (λi8 (t1:(List Tk)) hd8 hI8=>?_) (λi8 x8 r8 (t1:(List Tk)) hd8 hl8 hI8=>?_))
  |((refine aN.mk 10 ?_);refine⟨bn (p.stmts) 137 (λ(t1:(List Tk))=>[]) (λ(t1:(List Tk))=>[(1000000,wC (t1)),(1000001,wT (t1))]) [0,135,136] (λi10 r10 t1=>CI (r10.flatMap fA++R5 p) (ts++fB p) t1),?_⟩;refine au (t1) ?_ ?_ (λi10 (t1:(List Tk)) hd10 hI10=>?_) (λi10 x10 r10 (t1:(List Tk)) hd10 hl10 hI10=>?_))
  |(refine ak hd10 (t1++fA x10) ?_ ?_)
  |((refine aN.mk 6 ?_);refine⟨bn (p.tables) 104 (λ(t1:(List Tk))=>[]) (λ(t1:(List Tk))=>[(1000000,wC (t1)),(1000001,wT (t1))]) [0,3,102,103] (λi6 r6 t1=>CI (r6.flatMap tbT++R4 p) (ts++fB p) t1),?_⟩;refine au (t1) ?_ ?_ (λi6 (t1:(List Tk)) hd6 hI6=>?_) (λi6 x6 r6 (t1:(List Tk)) hd6 hl6 hI6=>?_))
  |(refine ak hd6 (t1++[sg sSemi]) ?_ ?_)
  |((refine aN.mk 4 ?_);refine⟨bn (p.lines) 81 (λ(t1:(List Tk))=>[]) (λ(t1:(List Tk))=>[(1000000,wC (t1)),(1000001,wT (t1))]) [0,3,79,80] (λi4 r4 t1=>CI (r4.flatMap lnT++R3 p) (ts++fB p) t1),?_⟩;refine au (t1) ?_ ?_ (λi4 (t1:(List Tk)) hd4 hI4=>?_) (λi4 x4 r4 (t1:(List Tk)) hd4 hl4 hI4=>?_))
  |(refine ak hd4 (t1++[DZ,x4.name].map wd++dQ x4.size++bV x4.lo x4.hi) ?_ ?_)
  |((refine aN.mk 2 ?_);refine⟨bn (p.states) 62 (λ(t1:(List Tk))=>[]) (λ(t1:(List Tk))=>[(1000000,wC (t1)),(1000001,wT (t1))]) [0,3,60,61] (λi2 r2 t1=>CI (r2.flatMap (bdT kL)++R2 p) (ts++fB p) t1),?_⟩;refine au (t1) ?_ ?_ (λi2 (t1:(List Tk)) hd2 hI2=>?_) (λi2 x2 r2 (t1:(List Tk)) hd2 hl2 hI2=>?_))
  |(refine ak hd2 (t1++[kL,x2.name].map wd++bV x2.lo x2.hi) ?_ ?_)
  |((refine aN.mk 0 ?_);refine⟨bn (p.params) 43 (λ(t1:(List Tk))=>[]) (λ(t1:(List Tk))=>[(1000000,wC (t1)),(1000001,wT (t1))]) [0,3,41,42] (λi0 r0 t1=>CI (r0.flatMap (bdT lu)++R1 p) (ts++fB p) t1),?_⟩;refine au (t1++[sg sBra]) ?_ ?_ (λi0 (t1:(List Tk)) hd0 hI0=>?_) (λi0 x0 r0 (t1:(List Tk)) hd0 hl0 hI0=>?_))
  |(refine ak hd0 (t1++[lu,x0.name].map wd++bV x0.lo x0.hi) ?_ ?_)
  |((refine ai ?_);refine fin_step' [(1000000,1000000),(1000001,1000001)] rfl ?_ ?_)
  |(refine aG.l _ ?_)
  |((refine aU ?_ ?_ ?_ ?_ ?_);exact rfl;exact rfl;rotate_left;(first |exact cO hd0 |exact cO hd2 |exact cO hd4 |exact cO hd6 |exact cO hd10 |exact cO hd8))
  |((refine bg ?_ ?_);exact rfl)
  |(refine And.intro ?_ ?_)
  |((refine fJ ?_ ?_);exact rfl;(first |skip))
  |((refine aO ?_);refine dN ?_ ?_ ?_;exact rfl;exact rfl;(first |skip))
  |exact @rfl AV _
  |fail)
 all_goals first
  |((exact hC.go))
  |((exact(Oj hI0).go.go))
  |((exact BX hI0))
  |((exact(Oj hI2).go.go))
  |((exact BX hI2))
  |((exact(VX hI4).go.go.go))
  |((exact BX hI4))
  |((exact(ZY hI6).go.go))
  |((exact(z5v hI8).go))
  |((exact BX hI6))
  |((exact(z5t hI10).go))
  |((exact BZ (BX hI10)))
  |((exact aK hd8 (hlen8 x6 (iD hd6))))
  |skip
end Go.Proofs.YtmfehangcmbidaaGreatDoor
