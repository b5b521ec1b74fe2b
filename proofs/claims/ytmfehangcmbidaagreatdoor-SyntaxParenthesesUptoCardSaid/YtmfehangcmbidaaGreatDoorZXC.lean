/- Contracts: package syntax: the writer. -/
import Derived.Test.YtmfehangcmbidaaGreatDoorZXA
import Derived.Test.YtmfehangcmbidaaGreatDoorZK8
set_option linter.unusedSectionVars false
set_option linter.unusedSimpArgs false
set_option linter.unusedVariables false
set_option maxHeartbeats 4000000
namespace Go.Proofs.YtmfehangcmbidaaGreatDoor
open Go.Fw Go.Fw.Lx Go.Fw.Sy
set_option maxRecDepth 10000
variable [ae]
theorem bJ(ss:List Sy.Str)(ts:List Tk)(hn:ts.length+ss.length<=1073741823):aA Tryz.prog 73 [.ptr 1000000 0,.gs 1000002 1 (ss.map ve)] [(1000000,wC (ts)),(1000001,wT (ts)),(1000002,.tok 1 (ss.map ve).length)] (.ret (.data (.tuple []))) [(1000000,wC (ts++ss.map wd)),(1000001,wT (ts++ss.map wd)),(1000002,.tok 1 (ss.map ve).length)]:=by
 refine ah tok hmix ⟨[],[]⟩ Tryz.func73 rfl (by kernel_rfl) (by kernel_rfl) (by kernel_rfl) λhf=>?_
 have hlen:ss.length<=9223372036854775807:=by omega
 clear hf
 repeat' ((try(conv=>whnf))<;>first
  |exact trivial
  |exact aT hd0 ‹_›
  |refine jm hd0 ?_
  |refine fH hd0 ?_
  |((refine aN.mk 0 ?_);refine⟨bQ (ss) 8 (λ(t1:(List Tk))=>[]) (λ(t1:(List Tk))=>[(1000000,wC (t1)),(1000001,wT (t1))]) [0,6,7] (λi0 r0 t1=>t1++r0.map wd=ts++ss.map wd),?_⟩;refine ay (ts) ?_ ?_ (λi0 (t1:(List Tk)) hd0 hI0=>?_) (λi0 x0 r0 (t1:(List Tk)) hd0 hl0 hI0=>?_))
  |(refine au hd0 (t1++[wd x0]) ?_ ?_)
  |((refine ai ?_);refine fin_step' [(1000000,1000000),(1000001,1000001),(1000002,1000002)] rfl ?_ ?_)
  |(refine aF.l _ ?_)
  |((refine bf ?_ ?_ ?_ ?_ ?_);exact rfl;exact rfl;rotate_left;(exact dF hd0))
  |((refine app_step' ?_ ?_ ?_ ?_ ?_ ?_ ?_);exact rfl;exact rfl;exact rfl;exact rfl)
  |(refine And.intro ?_ ?_)
  |((refine vw ?_ ?_ ?_);exact rfl;exact rfl;(first |skip))
  |((refine gq ?_ ?_);exact rfl;(first |skip))
  |((refine aJ ?_);refine dC ?_ ?_ ?_;exact rfl;exact rfl;(first |skip))
  |exact @rfl AV _
  |exact gu rfl
  |fail)
 all_goals first
  |((exact kE rfl))
  |((simpa using hI0))
  |((have h:=congrArg List.length hI0;simp only[List.length_append,List.length_map,List.length_cons]at h ⊢;omega))
  |((simp only[List.map_nil,List.append_nil]at hI0;subst hI0;rfl))
  |skip
theorem bn(s:Sy.Str)(ts:List Tk)(hn:ts.length+[sg s].length<=1073741823):aA Tryz.prog 75 [.ptr 1000000 0,.data (.str s)] [(1000000,wC (ts)),(1000001,wT (ts))] (.ret (.data (.tuple []))) [(1000000,wC (ts++[sg s])),(1000001,wT (ts++[sg s]))]:=by
 refine ah tok hmix ⟨[],[]⟩ Tryz.func75 rfl (by kernel_rfl) (by kernel_rfl) (by kernel_rfl) λhf=>?_
 clear hf
 repeat' ((try(conv=>whnf))<;>first
  |exact trivial
  |((refine ai ?_);refine fin_step' [(1000000,1000000),(1000001,1000001)] rfl ?_ ?_)
  |(refine aF.l _ ?_)
  |((refine app_step' ?_ ?_ ?_ ?_ ?_ ?_ ?_);exact rfl;exact rfl;exact rfl;exact rfl)
  |(refine And.intro ?_ ?_)
  |((refine gq ?_ ?_);exact rfl;(first |skip))
  |((refine aJ ?_);refine dC ?_ ?_ ?_;exact rfl;exact rfl;(first |skip))
  |exact gu rfl
  |fail)
 all_goals first
  |((exact kE rfl))
  |((simp only[List.length_map,List.length_cons,List.length_nil]at hn ⊢;omega))
  |skip
theorem dB(n:Int)(ts:List Tk)(hn:ts.length+(jq n).length<=1073741823):aA Tryz.prog 74 [.ptr 1000000 0,.data (.i n)] [(1000000,wC (ts)),(1000001,wT (ts))] (.ret (.data (.tuple []))) [(1000000,wC (ts++jq n)),(1000001,wT (ts++jq n))]:=by
 refine ah tok hmix ⟨[],[]⟩ Tryz.func74 rfl (by kernel_rfl) (by kernel_rfl) (by kernel_rfl) λhf=>?_
 clear hf
 repeat' ((try(conv=>whnf))<;>first
  |((refine aY [sg dh] (bY (.str dh)) (λts h=>bn dh ts h) ?_);refine⟨_,_,_,rfl,rfl,rfl,rfl,rfl,(z2d h hn),?_⟩)
  |exact trivial
  |refine BrI.intro (λh=>?_) (λh=>?_)
  |((refine ai ?_);refine fin_step' [(1000000,1000000),(1000001,1000001)] rfl ?_ ?_)
  |(refine aF.l _ ?_)
  |((refine app_step' ?_ ?_ ?_ ?_ ?_ ?_ ?_);exact rfl;exact rfl;exact rfl;exact rfl)
  |(refine And.intro ?_ ?_)
  |((refine gq ?_ ?_);exact rfl;(first |skip))
  |((refine aJ ?_);refine dC ?_ ?_ ?_;exact rfl;exact rfl;(first |skip))
  |exact gu rfl
  |fail)
 all_goals first
  |((exact z2e h))
  |((exact z2f h))
  |((exact YC h hn))
  |((exact YD h hn))
  |skip
theorem Bo(x:Ex)  : aB Tryz.prog 141 [x.d] (.ret (.i (level x.kind))):=by
 refine ag tok hmix ⟨[],[]⟩ Tryz.func141 rfl (by kernel_rfl) (by kernel_rfl) (by kernel_rfl) λhf=>?_
 clear hf
 repeat' ((try(conv=>whnf))<;>first
  |((refine mO ?_ ?_);exact rfl)
  |refine BrI.intro (λh=>?_) (λh=>?_)
  |((refine ai ?_);refine⟨[],rfl,?_,trivial⟩;conv=>whnf)
  |fail)
 all_goals first
  |((simp only[level, *,Bool.true_or,Bool.or_true,Bool.false_or,Bool.or_false,Bool.or_self,if_true,if_false,Bool.false_eq_true]))
  |skip
theorem zo   : aA Tryz.prog 143 [] [] (.ret (.map 1000000)) [(1000000,.map false [.str] (wF.map SS))]:=by
 refine ah tok hmix ⟨[],[]⟩ Tryz.func143 rfl (by kernel_rfl) (by kernel_rfl) (by kernel_rfl) λhf=>?_
 clear hf
 repeat' ((try(conv=>whnf))<;>first
  |exact trivial
  |((refine ai ?_);refine fin_step' [(1000000,1)] rfl ?_ ?_)
  |(refine And.intro ?_ ?_)
  |exact @rfl AV _
  |exact @rfl Block _
  |fail)
 all_goals first
  |(rfl)
  |skip
theorem Nj   : aA Tryz.prog 142 [] [] (.ret (.map 1000000)) [(1000000,.map false [.int .i64] (forms.map z2c))]:=by
 refine ah tok hmix ⟨[],[]⟩ Tryz.func142 rfl (by kernel_rfl) (by kernel_rfl) (by kernel_rfl) λhf=>?_
 clear hf
 repeat' ((try(conv=>whnf))<;>first
  |exact trivial
  |((refine ai ?_);refine fin_step' [(1000000,1)] rfl ?_ ?_)
  |(refine aF.l _ ?_)
  |(refine And.intro ?_ ?_)
  |exact @rfl AV _
  |exact @rfl Block _
  |fail)
 all_goals first
  |(rfl)
  |skip
theorem Nk(x:Ex)(v:Int)(ts:List Tk)(hlt:decide (level x.kind<v)=true)(hA:∀ts:List Tk,ts.length+(bg x).length<=1073741823->aA Tryz.prog 121 [.ptr 1000000 0,.data x.d,.data (.i 0)] [(1000000,wC (ts)),(1000001,wT (ts))] (.ret (.data (.tuple []))) [(1000000,wC (ts++bg x)),(1000001,wT (ts++bg x))])(hn:ts.length+(dm x v).length<=1073741823):aA Tryz.prog 121 [.ptr 1000000 0,.data x.d,.data (.i v)] [(1000000,wC (ts)),(1000001,wT (ts))] (.ret (.data (.tuple []))) [(1000000,wC (ts++dm x v)),(1000001,wT (ts++dm x v))]:=by
 refine ah tok hmix ⟨[],[]⟩ Tryz.func121 rfl (by kernel_rfl) (by kernel_rfl) (by kernel_rfl) λhf=>?_
 clear hf
 repeat' ((try(conv=>whnf))<;>first
  |(exact absurd (hlt.symm.trans h) Bool.noConfusion)
  |((refine aY [sg sPar] (bY (.str sPar)) (λts h=>bn sPar ts h) ?_);refine⟨_,_,_,rfl,rfl,rfl,rfl,rfl,(z2m hlt hn),?_⟩)
  |((refine aY [sg sKet] (bY (.str sKet)) (λts h=>bn sKet ts h) ?_);refine⟨_,_,_,rfl,rfl,rfl,rfl,rfl,(z2p hlt hn),?_⟩)
  |((refine aY (bg x) (rJ x.d (.i 0)) (λts h=>hA ts h) ?_);refine⟨_,_,_,rfl,rfl,rfl,rfl,rfl,z2o hlt hn,?_⟩)
  |exact trivial
  |refine BrI.intro (λh=>?_) (λh=>?_)
  |((refine ak ?_ ?_ ?_);rotate_left;(exact Bo _))
  |((refine ai ?_);refine fin_step' [(1000000,1000000),(1000001,1000001)] rfl ?_ ?_)
  |(refine And.intro ?_ ?_)
  |((refine gq ?_ ?_);exact rfl;(first |skip))
  |((refine aJ ?_);refine dC ?_ ?_ ?_;exact rfl;exact rfl;(first |skip))
  |fail)
 all_goals first
  |((exact z2q hlt))
  |skip
theorem Bq(x:Ex)(v0:Int)(ts:List Tk)(hge:decide (level x.kind<v0)=false)(ih:∀y,y∈x.l->∀(v:Int) (ts:List Tk),ts.length+(dm y v).length<=1073741823->aA Tryz.prog 121 [.ptr 1000000 0,.data y.d,.data (.i v)] [(1000000,wC (ts)),(1000001,wT (ts))] (.ret (.data (.tuple []))) [(1000000,wC (ts++dm y v)),(1000001,wT (ts++dm y v))])(hn:ts.length+(bg x).length<=1073741823):aA Tryz.prog 121 [.ptr 1000000 0,.data x.d,.data (.i v0)] [(1000000,wC (ts)),(1000001,wT (ts))] (.ret (.data (.tuple []))) [(1000000,wC (ts++bg x)),(1000001,wT (ts++bg x))]:=by
 refine FD tok hmix ⟨[],[]⟩ Tryz.func121 rfl (by kernel_rfl) (by kernel_rfl) (by kernel_rfl) λhf=>?_
 clear hf
 repeat' ((try(conv=>whnf))<;>first
  |((refine mO ?_ ?_);exact rfl)
  |((refine nC ?_ ?_);exact rfl)
  |(exact absurd (hge.symm.trans h) Bool.noConfusion)
  |(have hMARK:=hI0;clear hMARK;(refine jv (λss ts h=>bJ ss ts h) ?_);refine⟨[_],_,_,_,_,rfl,rfl,rfl,rfl,rfl,rfl,(by first |exact QD hI0 hn (Di ‹(x0==wIf)=true›) |exact QD hI0 hn (uq ‹(x0==kL)=true›) |exact QD hI0 hn (ut ‹(x0==kM)=true›) |exact QD hI0 hn (zh ‹(x0==wIf)=false› ‹(x0==kL)=false› ‹(x0==kM)=false› ‹(x0==[])=false›)),?_⟩)
  |((refine aY [sg f.2.2] (bY (.str f.2.2)) (λts h=>bn f.2.2 ts h) ?_);refine⟨_,_,_,rfl,rfl,rfl,rfl,rfl,(z2j hI0 hn h).1,?_⟩)
  |((refine aY (jq x.n) (bY (.i x.n)) (λts h=>dB x.n ts h) ?_);refine⟨_,_,_,rfl,rfl,rfl,rfl,rfl,(z2j hI0 hn h).2,?_⟩)
  |((refine aY [sg x0] (bY (.str x0)) (λts h=>bn x0 ts h) ?_);refine⟨_,_,_,rfl,rfl,rfl,rfl,rfl,QD hI0 hn (zh ‹(x0==wIf)=false› ‹(x0==kL)=false› ‹(x0==kM)=false› ‹(x0==[])=false›),?_⟩)
  |((refine aY (dm y v) (rJ y.d (.i v)) (λts h=>ih y (List.mem_of_getElem? hy) v ts h) ?_);refine⟨_,_,_,rfl,rfl,rfl,rfl,rfl,QE hI0 hn (Di ‹(x0==wIf)=true›) hy hv,?_⟩)
  |((refine aY (dm y v) (rJ y.d (.i v)) (λts h=>ih y (List.mem_of_getElem? hy) v ts h) ?_);refine⟨_,_,_,rfl,rfl,rfl,rfl,rfl,QE hI0 hn (uq ‹(x0==kL)=true›) hy hv,?_⟩)
  |((refine aY (dm y v) (rJ y.d (.i v)) (λts h=>ih y (List.mem_of_getElem? hy) v ts h) ?_);refine⟨_,_,_,rfl,rfl,rfl,rfl,rfl,QE hI0 hn (ut ‹(x0==kM)=true›) hy hv,?_⟩)
  |((refine aY (dm y v) (rJ y.d (.i v)) (λts h=>ih y (List.mem_of_getElem? hy) v ts h) ?_);refine⟨_,_,_,rfl,rfl,rfl,rfl,rfl,QE hI0 hn (zh ‹(x0==wIf)=false› ‹(x0==kL)=false› ‹(x0==kM)=false› ‹(x0==[])=false›) hy hv,?_⟩)
  |((refine aY (dm y v) (rJ y.d (.i v)) (λts h=>ih y (List.mem_of_getElem? hy) v ts h) ?_);refine⟨_,_,_,rfl,rfl,rfl,rfl,rfl,z2h hI0 hn (HY ‹(x0==wIf)=false› ‹(x0==kL)=false› ‹(x0==kM)=false› ‹(x0==[])=true›) hy hv,?_⟩)
  |(refine⟨(),UX x.kind,λb0=>?_⟩)
  |(obtain⟨g,hg,rfl⟩:=YG hL)
  |(exact Or.inr rfl)
  |(refine⟨(),YH hL h,?_⟩)
  |(refine⟨[],[(1000000,wC (ts++bg x)),(1000001,wT (ts++bg x))],?_,⟨rfl,rfl,rfl,rfl⟩,?_⟩)
  |((refine jv (λss ts h=>bJ ss ts h) ?_);refine⟨[g.1],_,_,_,_,rfl,rfl,rfl,rfl,rfl,rfl,z5q hn he (AZ hg ‹(g.2.1 != x.kind)=false›),?_⟩)
  |((refine jv (λss ts h=>bJ ss ts h) ?_);refine⟨[x.name],_,_,_,_,rfl,rfl,rfl,rfl,rfl,rfl,z5s hn he (AZ hg ‹(g.2.1 != x.kind)=false›) ‹g.2.2.2=true›,?_⟩)
  |((refine jv (λss ts h=>bJ ss ts h) ?_);refine⟨[x.name],_,_,_,_,rfl,rfl,rfl,rfl,rfl,rfl,z6c hn he (JV hL) h,?_⟩)
  |((refine aY [sg sPar] (bY (.str sPar)) (λts h=>bn sPar ts h) ?_);refine⟨_,_,_,rfl,rfl,rfl,rfl,rfl,z5r hn he (AZ hg ‹(g.2.1 != x.kind)=false›),?_⟩)
  |((refine aY [sg aS] (bY (.str aS)) (λts h=>bn aS ts h) ?_);refine⟨_,_,_,rfl,rfl,rfl,rfl,rfl,z5w hn hI5 ‹decide ((i:Int)<mm2 false g.2.2.1 ((Ex.css x.l).length:Int))=true› ‹decide ((i:Int)>0)=true›,?_⟩)
  |((refine aY [sg aS] (bY (.str aS)) (λts h=>bn aS ts h) ?_);refine⟨_,_,_,rfl,rfl,rfl,rfl,rfl,z5t hn he (AZ hg ‹(g.2.1 != x.kind)=false›) ‹g.2.2.2=true›,?_⟩)
  |((refine aY [sg sKet] (bY (.str sKet)) (λts h=>bn sKet ts h) ?_);refine⟨_,_,_,rfl,rfl,rfl,rfl,rfl,z6a hn hI5 ‹decide ((i:Int)<mm2 false g.2.2.1 ((Ex.css x.l).length:Int))=false›,?_⟩)
  |((refine aY (jq x.n) (bY (.i x.n)) (λts h=>dB x.n ts h) ?_);refine⟨_,_,_,rfl,rfl,rfl,rfl,rfl,z6b hn he (JV hL) h,?_⟩)
  |((refine aY (dm y 0) (rJ y.d (.i 0)) (λts h=>ih y (List.mem_of_getElem? hy) 0 ts h) ?_);refine⟨_,_,_,rfl,rfl,rfl,rfl,rfl,z5x hn hI5 ‹decide ((i:Int)<mm2 false g.2.2.1 ((Ex.css x.l).length:Int))=true› ‹decide ((i:Int)>0)=true› hy,?_⟩)
  |((refine aY (dm y 0) (rJ y.d (.i 0)) (λts h=>ih y (List.mem_of_getElem? hy) 0 ts h) ?_);refine⟨_,_,_,rfl,rfl,rfl,rfl,rfl,z5y hn hI5 ‹decide ((i:Int)<mm2 false g.2.2.1 ((Ex.css x.l).length:Int))=true› ‹decide ((i:Int)>0)=false› hy,?_⟩)
  |(refine aX (i+1,t1++[sg aS]++dm y 0) ?_ (YJ hI5 ‹decide ((i:Int)<mm2 false g.2.2.1 ((Ex.css x.l).length:Int))=true› ‹decide ((i:Int)>0)=true› hy) (z2s ‹decide ((i:Int)<mm2 false g.2.2.1 ((Ex.css x.l).length:Int))=true›))
  |(refine aX (i+1,t1++dm y 0) ?_ (z2r hI5 ‹decide ((i:Int)<mm2 false g.2.2.1 ((Ex.css x.l).length:Int))=true› ‹decide ((i:Int)>0)=false› hy) (z2s ‹decide ((i:Int)<mm2 false g.2.2.1 ((Ex.css x.l).length:Int))=true›))
  |exact trivial
  |refine jm hd0 ?_
  |refine fH hd0 ?_
  |refine BrI.intro (λh=>?_) (λh=>?_)
  |(refine JR forms (λf he=>?_) (λhe=>?_))
  |((refine WN (i:=i0) ?_ ?_ ?_ (λy hy=>?_));exact⟨rfl,rfl⟩;exact rfl;exact z2l ‹decide ((i0:Int)<((Ex.css x.l).length:Int))=true›)
  |((refine z2k (i:=i0) ?_ ?_ ?_ (λv hv=>?_));exact⟨rfl,rfl⟩;exact rfl;exact z5o he hd0)
  |((refine MapAt.mk 84 ?_);refine⟨800100,false,[.str],wF.map SS,⟨rfl,rfl⟩,⟨_,_,rfl⟩,⟨Unit,[(0,.ptr 1000000 0),(4,.ptr 4 0)],λ_=>[(4,.cells [.data (.i x.kind),.data (.str x.name),.data (.i x.index),.data (.i x.n),.data (.sl 5 (Ex.css x.l))]),(1000000,wC (ts)),(1000001,wT (ts))],λ_ es=>MI x.kind es⟩,?_⟩;refine⟨?_,rfl,λ_ _=>rfl,λ_=>rfl,rfl,λ_ l1 z l2 b0 r hL=>?_,λ_ hL=>?_⟩)
  |((refine WN (i:=i) ?_ ?_ ?_ (λy hy=>?_));exact⟨rfl,rfl⟩;exact rfl;exact(QH ‹decide ((i:Int)<mm2 false g.2.2.1 ((Ex.css x.l).length:Int))=true›).1)
  |((refine aN.mk 0 ?_);refine⟨bQ (f.1) 35 (λ(t1:(List Tk))=>[]) (λ(t1:(List Tk))=>[(4,.cells [.data (.i x.kind),.data (.str x.name),.data (.i x.index),.data (.i x.n),.data (.sl 5 (Ex.css x.l))]),(1000000,wC (t1)),(1000001,wT (t1))]) [0,4,6,33,34] (λi0 r0 t1=>FI x f (ts++bg x) i0 r0 t1),?_⟩;refine ay (ts) ?_ ?_ (λi0 (t1:(List Tk)) hd0 hI0=>?_) (λi0 x0 r0 (t1:(List Tk)) hd0 hl0 hI0=>?_))
  |(refine au hd0 ?_ ?_ ?_)
  |((refine aN.mk 5 ?_);(have hb1:g.2.2.2=true:=‹g.2.2.2=true›);refine⟨ik (λ(q:(Nat)×(List Tk))=>match q with |(i,t1)=>[(116,.data (.val (.int .i64 (i:Nat))))]) (λ(q:(Nat)×(List Tk))=>match q with |(i,t1)=>[(1000000,wC (t1)),(1000001,wT (t1))]) [0,4,115] (λ(q:(Nat)×(List Tk))=>match q with |(i,t1)=>AT x g (ts++bg x) i t1) (λ(q:(Nat)×(List Tk))=>match q with |(i,t1)=>x.l.length-i),?_⟩;refine bG ((0),(ts++[g.1].map wd++[sg sPar]++[x.name].map wd++[sg aS])) ?_ ?_ (λ⟨i,t1⟩ hI5=>?_))
  |((refine aN.mk 5 ?_);(have hb1:g.2.2.2=false:=‹g.2.2.2=false›);refine⟨ik (λ(q:(Nat)×(List Tk))=>match q with |(i,t1)=>[(116,.data (.val (.int .i64 (i:Nat))))]) (λ(q:(Nat)×(List Tk))=>match q with |(i,t1)=>[(1000000,wC (t1)),(1000001,wT (t1))]) [0,4,115] (λ(q:(Nat)×(List Tk))=>match q with |(i,t1)=>AT x g (ts++bg x) i t1) (λ(q:(Nat)×(List Tk))=>match q with |(i,t1)=>x.l.length-i),?_⟩;refine bG ((0),(ts++[g.1].map wd++[sg sPar])) ?_ ?_ (λ⟨i,t1⟩ hI5=>?_))
  |((refine ak ?_ ?_ ?_);rotate_left;(exact Bo _))
  |((refine tN [(1000000,800000)] (Nj) ?_ ?_ ?_ ?_);rotate_left 0;exact rfl;(exact trivial);exact rfl)
  |((refine tN [(1000000,800100)] (zo) ?_ ?_ ?_ ?_);rotate_left 0;exact rfl;(exact trivial);exact rfl)
  |((refine ai ?_);refine fin_step' [(1000000,1000000),(1000001,1000001)] rfl ?_ ?_)
  |(refine aF.l _ ?_)
  |((refine bf ?_ ?_ ?_ ?_ ?_);exact rfl;exact rfl;rotate_left;(exact dF hd0))
  |((refine bZ ?_ ?_);exact rfl)
  |((refine aH ?_ ?_);kernel_rfl)
  |(refine And.intro ?_ ?_)
  |((refine vw ?_ ?_ ?_);exact rfl;exact rfl;(first |skip))
  |((refine gq ?_ ?_);exact rfl;(first |skip))
  |((refine aJ ?_);refine dC ?_ ?_ ?_;exact rfl;exact rfl;(first |exact rfl |skip))
  |exact @rfl AV _
  |exact @rfl Block _
  |exact @rfl (List AV) _
  |fail)
 all_goals first
  |((exact UV he))
  |((exact aT hd0 (YI he)))
  |((exact ZU hI0 (Di ‹(x0==wIf)=true›) hy hv))
  |((exact z2g hI0 (Di ‹(x0==wIf)=true›) ‹decide ((i0:Int)<((Ex.css x.l).length:Int))=false›))
  |((exact ZU hI0 (uq ‹(x0==kL)=true›) hy hv))
  |((exact z2g hI0 (uq ‹(x0==kL)=true›) ‹decide ((i0:Int)<((Ex.css x.l).length:Int))=false›))
  |((exact ZU hI0 (ut ‹(x0==kM)=true›) hy hv))
  |((exact z2g hI0 (ut ‹(x0==kM)=true›) ‹decide ((i0:Int)<((Ex.css x.l).length:Int))=false›))
  |((exact ZU hI0 (zh ‹(x0==wIf)=false› ‹(x0==kL)=false› ‹(x0==kM)=false› ‹(x0==[])=false›) hy hv))
  |((exact z2g hI0 (zh ‹(x0==wIf)=false› ‹(x0==kL)=false› ‹(x0==kM)=false› ‹(x0==[])=false›) ‹decide ((i0:Int)<((Ex.css x.l).length:Int))=false›))
  |((exact z5l hI0 (HY ‹(x0==wIf)=false› ‹(x0==kL)=false› ‹(x0==kM)=false› ‹(x0==[])=true›) hy hv))
  |((exact z5m hI0 (HY ‹(x0==wIf)=false› ‹(x0==kL)=false› ‹(x0==kM)=false› ‹(x0==[])=true›) ‹decide ((i0:Int)<((Ex.css x.l).length:Int))=false›))
  |((exact congrArg (List.map Tk.cs) (z2i hI0 h)))
  |((exact congrArg (List.map Tk.cs) (z5n hI0 h)))
  |((exact z5u he (AZ hg ‹(g.2.1 != x.kind)=false›) ‹g.2.2.2=true›))
  |((exact z5v he (AZ hg ‹(g.2.1 != x.kind)=false›) ‹g.2.2.2=false›))
  |((exact CX (z7x hg ‹decide ((i:Int)<mm2 false g.2.2.1 ((Ex.css x.l).length:Int))=true›)))
  |((exact congrArg (List.map Tk.cs) (z5z hI5 ‹decide ((i:Int)<mm2 false g.2.2.1 ((Ex.css x.l).length:Int))=false›)))
  |((exact congrArg (λl=>Block.tok 4 (List.map Tk.cs l).length) (z5z hI5 ‹decide ((i:Int)<mm2 false g.2.2.1 ((Ex.css x.l).length:Int))=false›)))
  |((exact z6d he (JV hL) h))
  |((exact z6e he (JV hL) h))
  |(rfl)
  |skip
theorem o7(x:Ex):∀(v:Int) (ts:List Tk),ts.length+(dm x v).length<=1073741823->aA Tryz.prog 121 [.ptr 1000000 0,.data x.d,.data (.i v)] [(1000000,wC (ts)),(1000001,wT (ts))] (.ret (.data (.tuple []))) [(1000000,wC (ts++dm x v)),(1000001,wT (ts++dm x v))]:=by
 refine Ex.ind (P:=λx=>∀(v:Int) (ts:List Tk),ts.length+(dm x v).length<=1073741823->aA Tryz.prog 121 [.ptr 1000000 0,.data x.d,.data (.i v)] [(1000000,wC (ts)),(1000001,wT (ts))] (.ret (.data (.tuple []))) [(1000000,wC (ts++dm x v)),(1000001,wT (ts++dm x v))]) (λx ih=>?_) x
 have hA:∀ts:List Tk,ts.length+(bg x).length<=1073741823->aA Tryz.prog 121 [.ptr 1000000 0,.data x.d,.data (.i 0)] [(1000000,wC (ts)),(1000001,wT (ts))] (.ret (.data (.tuple []))) [(1000000,wC (ts++bg x)),(1000001,wT (ts++bg x))]:=λts hn=>Bq x 0 ts (z7y x.kind) (λy hy v ts h=>ih y hy v ts h) hn
 intro v ts hn
 cases h:decide (level x.kind<v)with
 |true=>exact Nk x v ts h hA hn
 |false=>
  rw[UW h]at hn ⊢
  exact Bq x v ts h (λy hy v ts h=>ih y hy v ts h) hn
theorem oz(lo hi:Int)(ts:List Tk)(hn:ts.length+(fJ lo hi).length<=1073741823):aA Tryz.prog 76 [.ptr 1000000 0,.data (.i lo),.data (.i hi)] [(1000000,wC (ts)),(1000001,wT (ts))] (.ret (.data (.tuple []))) [(1000000,wC (ts++fJ lo hi)),(1000001,wT (ts++fJ lo hi))]:=by
 refine ah tok hmix ⟨[],[]⟩ Tryz.func76 rfl (by kernel_rfl) (by kernel_rfl) (by kernel_rfl) λhf=>?_
 clear hf
 repeat' ((try(conv=>whnf))<;>first
  |((refine jv (λss ts h=>bJ ss ts h) ?_);refine⟨[MJ],_,_,_,_,rfl,rfl,rfl,rfl,rfl,rfl,(bc1).len (bR hn),?_⟩)
  |((refine aY (jq lo) (bY (.i lo)) (λts h=>dB lo ts h) ?_);refine⟨_,_,_,rfl,rfl,rfl,rfl,rfl,((bc1).go).len (bR hn),?_⟩)
  |((refine jv (λss ts h=>bJ ss ts h) ?_);refine⟨[wTo],_,_,_,_,rfl,rfl,rfl,rfl,rfl,rfl,((bc1).go.go).len (bR hn),?_⟩)
  |((refine aY (jq hi) (bY (.i hi)) (λts h=>dB hi ts h) ?_);refine⟨_,_,_,rfl,rfl,rfl,rfl,rfl,((bc1).go.go.go).len (bR hn),?_⟩)
  |((refine aY [sg bP] (bY (.str bP)) (λts h=>bn bP ts h) ?_);refine⟨_,_,_,rfl,rfl,rfl,rfl,rfl,((bc1).go.go.go.go).len (bR hn),?_⟩)
  |exact trivial
  |((refine ai ?_);refine fin_step' [(1000000,1000000),(1000001,1000001)] rfl ?_ ?_)
  |(refine aF.l _ ?_)
  |(refine And.intro ?_ ?_)
  |((refine gq ?_ ?_);exact rfl;(first |skip))
  |((refine aJ ?_);refine dC ?_ ?_ ?_;exact rfl;exact rfl;(first |skip))
  |fail)
 all_goals first
  |((exact Ba (bc1).go.go.go.go))
  |skip
theorem Nl(s:Sm)(ts:List Tk)(hn:ts.length+(jD s).length<=1073741823):aA Tryz.prog 77 [.ptr 1000000 0,.data s.d] [(1000000,wC (ts)),(1000001,wT (ts))] (.ret (.data (.tuple []))) [(1000000,wC (ts++jD s)),(1000001,wT (ts++jD s))]:=by
 refine ah tok hmix ⟨[],[]⟩ Tryz.func77 rfl (by kernel_rfl) (by kernel_rfl) (by kernel_rfl) λhf=>?_
 clear hf
 repeat' ((try(conv=>whnf))<;>first
  |((refine mO ?_ ?_);exact rfl)
  |((refine nC ?_ ?_);exact rfl)
  |((refine jv (λss ts h=>bJ ss ts h) ?_);refine⟨[Qk,s.name],_,_,_,_,rfl,rfl,rfl,rfl,rfl,rfl,(sc1 h1).len (sR hn),?_⟩)
  |((refine jv (λss ts h=>bJ ss ts h) ?_);refine⟨[Ql,s.name],_,_,_,_,rfl,rfl,rfl,rfl,rfl,rfl,(sc2 h1 h2).len (sR hn),?_⟩)
  |((refine jv (λss ts h=>bJ ss ts h) ?_);refine⟨[yY,s.name],_,_,_,_,rfl,rfl,rfl,rfl,rfl,rfl,(sc3 h1 h2 h3).len (sR hn),?_⟩)
  |((refine jv (λss ts h=>bJ ss ts h) ?_);refine⟨[Qm],_,_,_,_,rfl,rfl,rfl,rfl,rfl,rfl,(sc4 h1 h2 h3).len (sR hn),?_⟩)
  |((refine aY [sg sEq] (bY (.str sEq)) (λts h=>bn sEq ts h) ?_);refine⟨_,_,_,rfl,rfl,rfl,rfl,rfl,((sc1 h1).go).len (sR hn),?_⟩)
  |((refine aY [sg sEq] (bY (.str sEq)) (λts h=>bn sEq ts h) ?_);refine⟨_,_,_,rfl,rfl,rfl,rfl,rfl,((sc2 h1 h2).go).len (sR hn),?_⟩)
  |((refine aY [sg sEq] (bY (.str sEq)) (λts h=>bn sEq ts h) ?_);refine⟨_,_,_,rfl,rfl,rfl,rfl,rfl,((sc3 h1 h2 h3).go).len (sR hn),?_⟩)
  |((refine aY (dm s.x 0) (rJ s.x.d (.i 0)) (λts h=>o7 s.x 0 ts h) ?_);refine⟨_,_,_,rfl,rfl,rfl,rfl,rfl,((sc1 h1).go.go).len (sR hn),?_⟩)
  |((refine aY (dm s.x 0) (rJ s.x.d (.i 0)) (λts h=>o7 s.x 0 ts h) ?_);refine⟨_,_,_,rfl,rfl,rfl,rfl,rfl,((sc2 h1 h2).go.go).len (sR hn),?_⟩)
  |((refine aY (dm s.x 0) (rJ s.x.d (.i 0)) (λts h=>o7 s.x 0 ts h) ?_);refine⟨_,_,_,rfl,rfl,rfl,rfl,rfl,((sc3 h1 h2 h3).go.go).len (sR hn),?_⟩)
  |((refine aY (dm s.x 0) (rJ s.x.d (.i 0)) (λts h=>o7 s.x 0 ts h) ?_);refine⟨_,_,_,rfl,rfl,rfl,rfl,rfl,((sc4 h1 h2 h3).go).len (sR hn),?_⟩)
  |((refine aY [sg bP] (bY (.str bP)) (λts h=>bn bP ts h) ?_);refine⟨_,_,_,rfl,rfl,rfl,rfl,rfl,((sc1 h1).go.go.go).len (sR hn),?_⟩)
  |((refine aY [sg bP] (bY (.str bP)) (λts h=>bn bP ts h) ?_);refine⟨_,_,_,rfl,rfl,rfl,rfl,rfl,((sc2 h1 h2).go.go.go).len (sR hn),?_⟩)
  |((refine aY [sg bP] (bY (.str bP)) (λts h=>bn bP ts h) ?_);refine⟨_,_,_,rfl,rfl,rfl,rfl,rfl,((sc3 h1 h2 h3).go.go.go).len (sR hn),?_⟩)
  |((refine aY [sg bP] (bY (.str bP)) (λts h=>bn bP ts h) ?_);refine⟨_,_,_,rfl,rfl,rfl,rfl,rfl,((sc4 h1 h2 h3).go.go).len (sR hn),?_⟩)
  |exact trivial
  |(refine z7z (λh1=>?_) (λh1 h2=>?_) (λh1 h2 h3=>?_) (λh1 h2 h3=>?_))
  |((refine ai ?_);refine fin_step' [(1000000,1000000),(1000001,1000001)] rfl ?_ ?_)
  |(refine aF.l _ ?_)
  |(refine And.intro ?_ ?_)
  |((refine gq ?_ ?_);exact rfl;(first |skip))
  |((refine aJ ?_);refine dC ?_ ?_ ?_;exact rfl;exact rfl;(first |skip))
  |fail)
 all_goals first
  |((exact Ba (sc1 h1).go.go.go))
  |((exact Ba (sc2 h1 h2).go.go.go))
  |((exact Ba (sc3 h1 h2 h3).go.go.go))
  |((exact Ba (sc4 h1 h2 h3).go.go))
  |(rfl)
  |skip
theorem pg(p:Pr)(ts:List Tk)(hn:ts.length+(iV p).length<=1073741823):aA Tryz.prog 29 [.ptr 1000000 0,.data p.d] [(1000000,wC (ts)),(1000001,wT (ts))] (.ret (.data (.tuple []))) [(1000000,wC (ts++iV p)),(1000001,wT (ts++iV p))]:=by
 refine ah tok hmix ⟨[7],[]⟩ Tryz.func29 rfl (by kernel_rfl) (by kernel_rfl) (by kernel_rfl) λhf=>?_
 have hps:=Pr.fits (hf (.data p.d) (by simp)).data
 obtain⟨hlen,hlen2,hlen4,hlen6,hlen10,hlen8⟩:=hps
 clear hf
 repeat' ((try(conv=>whnf))<;>first
  |((refine jv (λss ts h=>bJ ss ts h) ?_);refine⟨[wProcessor,p.name,cZ],_,_,_,_,rfl,rfl,rfl,rfl,rfl,rfl,(pc1).len (pR hn),?_⟩)
  |((refine aY (jq p.latency) (bY (.i p.latency)) (λts h=>dB p.latency ts h) ?_);refine⟨_,_,_,rfl,rfl,rfl,rfl,rfl,((pc1).go).len (pR hn),?_⟩)
  |((refine jv (λss ts h=>bJ ss ts h) ?_);refine⟨[wTail],_,_,_,_,rfl,rfl,rfl,rfl,rfl,rfl,((pc1).go.go).len (pR hn),?_⟩)
  |((refine jv (λss ts h=>bJ ss ts h) ?_);refine⟨[dR],_,_,_,_,rfl,rfl,rfl,rfl,rfl,rfl,(pc3 h).len (pR hn),?_⟩)
  |((refine aY (jq p.tail) (bY (.i p.tail)) (λts h=>dB p.tail ts h) ?_);refine⟨_,_,_,rfl,rfl,rfl,rfl,rfl,(pc4 h).len (pR hn),?_⟩)
  |((refine aN.mk 7 ?_);refine⟨⟨List Tk,λ_=>[],λt1=>[(1000000,wC (t1)),(1000001,wT (t1))],[0,3],λt1=>CI ([sg sBra]++R0 p) (ts++iV p) t1,λ_=>0⟩,?_,?_⟩;rotate_left;intro t1 hC)
  |(refine⟨ts++[wProcessor,p.name,cZ].map wd++jq p.latency++[wTail].map wd++[dR].map wd,(pc3 h).go,?_⟩)
  |(refine⟨ts++[wProcessor,p.name,cZ].map wd++jq p.latency++[wTail].map wd++jq p.tail,(pc4 h).go,?_⟩)
  |((refine aY [sg sBra] (bY (.str sBra)) (λts h=>bn sBra ts h) ?_);refine⟨_,_,_,rfl,rfl,rfl,rfl,rfl,(hC).len (pR hn),?_⟩)
  |((refine jv (λss ts h=>bJ ss ts h) ?_);refine⟨[uh,x0.name],_,_,_,_,rfl,rfl,rfl,rfl,rfl,rfl,(MN hI0).len (pR hn),?_⟩)
  |((refine aY (fJ x0.lo x0.hi) (rJ (.i x0.lo) (.i x0.hi)) (λts h=>oz x0.lo x0.hi ts h) ?_);refine⟨_,_,_,rfl,rfl,rfl,rfl,rfl,((MN hI0).go).len (pR hn),?_⟩)
  |((refine jv (λss ts h=>bJ ss ts h) ?_);refine⟨[qA,x2.name],_,_,_,_,rfl,rfl,rfl,rfl,rfl,rfl,(MN hI2).len (pR hn),?_⟩)
  |((refine aY (fJ x2.lo x2.hi) (rJ (.i x2.lo) (.i x2.hi)) (λts h=>oz x2.lo x2.hi ts h) ?_);refine⟨_,_,_,rfl,rfl,rfl,rfl,rfl,((MN hI2).go).len (pR hn),?_⟩)
  |((refine jv (λss ts h=>bJ ss ts h) ?_);refine⟨[ES,x4.name],_,_,_,_,rfl,rfl,rfl,rfl,rfl,rfl,(UY hI4).len (pR hn),?_⟩)
  |((refine aY (jq x4.size) (bY (.i x4.size)) (λts h=>dB x4.size ts h) ?_);refine⟨_,_,_,rfl,rfl,rfl,rfl,rfl,((UY hI4).go).len (pR hn),?_⟩)
  |((refine aY (fJ x4.lo x4.hi) (rJ (.i x4.lo) (.i x4.hi)) (λts h=>oz x4.lo x4.hi ts h) ?_);refine⟨_,_,_,rfl,rfl,rfl,rfl,rfl,((UY hI4).go.go).len (pR hn),?_⟩)
  |((refine jv (λss ts h=>bJ ss ts h) ?_);refine⟨[wB,x6.name],_,_,_,_,rfl,rfl,rfl,rfl,rfl,rfl,(YK hI6).len (pR hn),?_⟩)
  |((refine aY [sg aS] (bY (.str aS)) (λts h=>bn aS ts h) ?_);refine⟨_,_,_,rfl,rfl,rfl,rfl,rfl,(YL hI8 ‹decide ((i8:Int)>0)=true›).len (pR hn),?_⟩)
  |((refine aY [sg bP] (bY (.str bP)) (λts h=>bn bP ts h) ?_);refine⟨_,_,_,rfl,rfl,rfl,rfl,rfl,(z2v hI8).len (pR hn),?_⟩)
  |((refine aY [sg sEq] (bY (.str sEq)) (λts h=>bn sEq ts h) ?_);refine⟨_,_,_,rfl,rfl,rfl,rfl,rfl,((YK hI6).go).len (pR hn),?_⟩)
  |((refine aY (jq x8) (bY (.i x8)) (λts h=>dB x8 ts h) ?_);refine⟨_,_,_,rfl,rfl,rfl,rfl,rfl,((YL hI8 ‹decide ((i8:Int)>0)=true›).go).len (pR hn),?_⟩)
  |((refine aY (jq x8) (bY (.i x8)) (λts h=>dB x8 ts h) ?_);refine⟨_,_,_,rfl,rfl,rfl,rfl,rfl,(z2u hI8 ‹decide ((i8:Int)>0)=false›).len (pR hn),?_⟩)
  |((refine aY (jD x10) (bY x10.d) (λts h=>Nl x10 ts h) ?_);refine⟨_,_,_,rfl,rfl,rfl,rfl,rfl,(z2t hI10).len (pR hn),?_⟩)
  |((refine aY [sg zC] (bY (.str zC)) (λts h=>bn zC ts h) ?_);refine⟨_,_,_,rfl,rfl,rfl,rfl,rfl,(A8 hI10).len (pR hn),?_⟩)
  |(refine au hd8 (t1++[sg aS]++jq x8) ?_ (YL hI8 ‹decide ((i8:Int)>0)=true›).go.go)
  |(refine au hd8 (t1++jq x8) ?_ (z2u hI8 ‹decide ((i8:Int)>0)=false›).go)
  |exact trivial
  |exact aT hd0 ‹_›
  |exact aT hd2 ‹_›
  |exact aT hd4 ‹_›
  |exact aT hd6 ‹_›
  |exact aT hd10 ‹_›
  |refine jm hd0 ?_
  |refine jm hd2 ?_
  |refine jm hd4 ?_
  |refine jm hd6 ?_
  |refine jm hd10 ?_
  |refine jm hd8 ?_
  |refine fH hd0 ?_
  |refine fH hd2 ?_
  |refine fH hd4 ?_
  |refine fH hd6 ?_
  |refine fH hd10 ?_
  |refine fH hd8 ?_
  |refine BrI.intro (λh=>?_) (λh=>?_)
  |((refine aN.mk 8 ?_);refine⟨bQ (x6.values) 118 (λ(t1:(List Tk))=>[]) (λ(t1:(List Tk))=>[(1000000,wC (t1)),(1000001,wT (t1))]) [0,3,102,103,104,116,117] (λi8 r8 t1=>CI (yZ i8 r8++([sg bP]++(r6.flatMap tbT++R4 p))) (ts++iV p) t1),?_⟩;refine ay (t1++[wB,x6.name].map wd++[sg sEq]) ?_ ?_ (λi8 (t1:(List Tk)) hd8 hI8=>?_) (λi8 x8 r8 (t1:(List Tk)) hd8 hl8 hI8=>?_))
  |((refine aN.mk 10 ?_);refine⟨bQ (p.stmts) 137 (λ(t1:(List Tk))=>[]) (λ(t1:(List Tk))=>[(1000000,wC (t1)),(1000001,wT (t1))]) [0,135,136] (λi10 r10 t1=>CI (r10.flatMap jD++R5 p) (ts++iV p) t1),?_⟩;refine ay (t1) ?_ ?_ (λi10 (t1:(List Tk)) hd10 hI10=>?_) (λi10 x10 r10 (t1:(List Tk)) hd10 hl10 hI10=>?_))
  |(refine au hd10 (t1++jD x10) ?_ ?_)
  |((refine aN.mk 6 ?_);refine⟨bQ (p.tables) 104 (λ(t1:(List Tk))=>[]) (λ(t1:(List Tk))=>[(1000000,wC (t1)),(1000001,wT (t1))]) [0,3,102,103] (λi6 r6 t1=>CI (r6.flatMap tbT++R4 p) (ts++iV p) t1),?_⟩;refine ay (t1) ?_ ?_ (λi6 (t1:(List Tk)) hd6 hI6=>?_) (λi6 x6 r6 (t1:(List Tk)) hd6 hl6 hI6=>?_))
  |(refine au hd6 (t1++[sg bP]) ?_ ?_)
  |((refine aN.mk 4 ?_);refine⟨bQ (p.lines) 81 (λ(t1:(List Tk))=>[]) (λ(t1:(List Tk))=>[(1000000,wC (t1)),(1000001,wT (t1))]) [0,3,79,80] (λi4 r4 t1=>CI (r4.flatMap lnT++R3 p) (ts++iV p) t1),?_⟩;refine ay (t1) ?_ ?_ (λi4 (t1:(List Tk)) hd4 hI4=>?_) (λi4 x4 r4 (t1:(List Tk)) hd4 hl4 hI4=>?_))
  |(refine au hd4 (t1++[ES,x4.name].map wd++jq x4.size++fJ x4.lo x4.hi) ?_ ?_)
  |((refine aN.mk 2 ?_);refine⟨bQ (p.states) 62 (λ(t1:(List Tk))=>[]) (λ(t1:(List Tk))=>[(1000000,wC (t1)),(1000001,wT (t1))]) [0,3,60,61] (λi2 r2 t1=>CI (r2.flatMap (bdT qA)++R2 p) (ts++iV p) t1),?_⟩;refine ay (t1) ?_ ?_ (λi2 (t1:(List Tk)) hd2 hI2=>?_) (λi2 x2 r2 (t1:(List Tk)) hd2 hl2 hI2=>?_))
  |(refine au hd2 (t1++[qA,x2.name].map wd++fJ x2.lo x2.hi) ?_ ?_)
  |((refine aN.mk 0 ?_);refine⟨bQ (p.params) 43 (λ(t1:(List Tk))=>[]) (λ(t1:(List Tk))=>[(1000000,wC (t1)),(1000001,wT (t1))]) [0,3,41,42] (λi0 r0 t1=>CI (r0.flatMap (bdT uh)++R1 p) (ts++iV p) t1),?_⟩;refine ay (t1++[sg sBra]) ?_ ?_ (λi0 (t1:(List Tk)) hd0 hI0=>?_) (λi0 x0 r0 (t1:(List Tk)) hd0 hl0 hI0=>?_))
  |(refine au hd0 (t1++[uh,x0.name].map wd++fJ x0.lo x0.hi) ?_ ?_)
  |((refine ai ?_);refine fin_step' [(1000000,1000000),(1000001,1000001)] rfl ?_ ?_)
  |(refine aF.l _ ?_)
  |((refine bf ?_ ?_ ?_ ?_ ?_);exact rfl;exact rfl;rotate_left;(first |exact dF hd0 |exact dF hd2 |exact dF hd4 |exact dF hd6 |exact dF hd10 |exact dF hd8))
  |((refine bZ ?_ ?_);exact rfl)
  |(refine And.intro ?_ ?_)
  |((refine gq ?_ ?_);exact rfl;(first |skip))
  |((refine aJ ?_);refine dC ?_ ?_ ?_;exact rfl;exact rfl;(first |skip))
  |exact @rfl AV _
  |fail)
 all_goals first
  |((exact hC.go))
  |((exact(MN hI0).go.go))
  |((exact A8 hI0))
  |((exact(MN hI2).go.go))
  |((exact A8 hI2))
  |((exact(UY hI4).go.go.go))
  |((exact A8 hI4))
  |((exact(YK hI6).go.go))
  |((exact(z2v hI8).go))
  |((exact A8 hI6))
  |((exact(z2t hI10).go))
  |((exact Ba (A8 hI10)))
  |((exact aT hd8 (hlen8 x6 (mg hd6))))
  |skip
end Go.Proofs.YtmfehangcmbidaaGreatDoor
