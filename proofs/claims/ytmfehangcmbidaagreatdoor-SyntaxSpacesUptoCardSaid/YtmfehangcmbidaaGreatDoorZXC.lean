/- Contracts: package syntax: the writer. -/
import Derived.Test.YtmfehangcmbidaaGreatDoorZXA
import Derived.Test.YtmfehangcmbidaaGreatDoorZK8
set_option linter.unusedSectionVars false
set_option linter.unusedSimpArgs false
set_option linter.unusedVariables false
set_option maxHeartbeats 4000000
namespace Go.Proofs.YtmfehangcmbidaaGreatDoor
open Go.Fw Go.Fw.Lx Go.Fw.Sy
set_option maxRecDepth 10000
variable [ae]
theorem bJ(ss:List Sy.Str)(ts:List Tk)(hn:ts.length+ss.length<=1073741823):aA Tryz.prog 73 [.ptr 1000000 0,.gs 1000002 1 (ss.map uX)] [(1000000,wC (ts)),(1000001,wT (ts)),(1000002,.tok 1 (ss.map uX).length)] (.ret (.data (.tuple []))) [(1000000,wC (ts++ss.map wd)),(1000001,wT (ts++ss.map wd)),(1000002,.tok 1 (ss.map uX).length)]:=by
 refine ag tok hmix ⟨[],[]⟩ Tryz.func73 rfl (by kernel_rfl) (by kernel_rfl) (by kernel_rfl) λhf=>?_
 have hlen:ss.length<=9223372036854775807:=by omega
 clear hf
 repeat' ((try(conv=>whnf))<;>first
  |exact trivial
  |exact aO hd0 ‹_›
  |refine iO hd0 ?_
  |refine fC hd0 ?_
  |((refine aN.mk 0 ?_);refine⟨bI (ss) 8 (λ(t1:(List Tk))=>[]) (λ(t1:(List Tk))=>[(1000000,wC (t1)),(1000001,wT (t1))]) [0,6,7] (λi0 r0 t1=>t1++r0.map wd=ts++ss.map wd),?_⟩;refine au (ts) ?_ ?_ (λi0 (t1:(List Tk)) hd0 hI0=>?_) (λi0 x0 r0 (t1:(List Tk)) hd0 hl0 hI0=>?_))
  |(refine ak hd0 (t1++[wd x0]) ?_ ?_)
  |((refine ah ?_);refine fin_step' [(1000000,1000000),(1000001,1000001),(1000002,1000002)] rfl ?_ ?_)
  |(refine aB.l _ ?_)
  |((refine aW ?_ ?_ ?_ ?_ ?_);exact rfl;exact rfl;rotate_left;(exact dI hd0))
  |((refine app_step' ?_ ?_ ?_ ?_ ?_ ?_ ?_);exact rfl;exact rfl;exact rfl;exact rfl)
  |(refine And.intro ?_ ?_)
  |((refine sZ ?_ ?_ ?_);exact rfl;exact rfl;(first |skip))
  |((refine fK ?_ ?_);exact rfl;(first |skip))
  |((refine aI ?_);refine dA ?_ ?_ ?_;exact rfl;exact rfl;(first |skip))
  |exact @rfl AV _
  |exact eU rfl
  |fail)
 all_goals first
  |((exact jX rfl))
  |((simpa using hI0))
  |((have h:=congrArg List.length hI0;simp only[List.length_append,List.length_map,List.length_cons]at h ⊢;omega))
  |((simp only[List.map_nil,List.append_nil]at hI0;subst hI0;rfl))
  |skip
theorem bg(s:Sy.Str)(ts:List Tk)(hn:ts.length+[sg s].length<=1073741823):aA Tryz.prog 75 [.ptr 1000000 0,.data (.str s)] [(1000000,wC (ts)),(1000001,wT (ts))] (.ret (.data (.tuple []))) [(1000000,wC (ts++[sg s])),(1000001,wT (ts++[sg s]))]:=by
 refine ag tok hmix ⟨[],[]⟩ Tryz.func75 rfl (by kernel_rfl) (by kernel_rfl) (by kernel_rfl) λhf=>?_
 clear hf
 repeat' ((try(conv=>whnf))<;>first
  |exact trivial
  |((refine ah ?_);refine fin_step' [(1000000,1000000),(1000001,1000001)] rfl ?_ ?_)
  |(refine aB.l _ ?_)
  |((refine app_step' ?_ ?_ ?_ ?_ ?_ ?_ ?_);exact rfl;exact rfl;exact rfl;exact rfl)
  |(refine And.intro ?_ ?_)
  |((refine fK ?_ ?_);exact rfl;(first |skip))
  |((refine aI ?_);refine dA ?_ ?_ ?_;exact rfl;exact rfl;(first |skip))
  |exact eU rfl
  |fail)
 all_goals first
  |((exact jX rfl))
  |((simp only[List.length_map,List.length_cons,List.length_nil]at hn ⊢;omega))
  |skip
theorem dC(n:Int)(ts:List Tk)(hn:ts.length+(jh n).length<=1073741823):aA Tryz.prog 74 [.ptr 1000000 0,.data (.i n)] [(1000000,wC (ts)),(1000001,wT (ts))] (.ret (.data (.tuple []))) [(1000000,wC (ts++jh n)),(1000001,wT (ts++jh n))]:=by
 refine ag tok hmix ⟨[],[]⟩ Tryz.func74 rfl (by kernel_rfl) (by kernel_rfl) (by kernel_rfl) λhf=>?_
 clear hf
 repeat' ((try(conv=>whnf))<;>first
  |((refine aV [sg dZ] (bZ (.str dZ)) (λts h=>bg dZ ts h) ?_);refine⟨_,_,_,rfl,rfl,rfl,rfl,rfl,(z1b h hn),?_⟩)
  |exact trivial
  |refine BrI.intro (λh=>?_) (λh=>?_)
  |((refine ah ?_);refine fin_step' [(1000000,1000000),(1000001,1000001)] rfl ?_ ?_)
  |(refine aB.l _ ?_)
  |((refine app_step' ?_ ?_ ?_ ?_ ?_ ?_ ?_);exact rfl;exact rfl;exact rfl;exact rfl)
  |(refine And.intro ?_ ?_)
  |((refine fK ?_ ?_);exact rfl;(first |skip))
  |((refine aI ?_);refine dA ?_ ?_ ?_;exact rfl;exact rfl;(first |skip))
  |exact eU rfl
  |fail)
 all_goals first
  |((exact z1c h))
  |((exact z1d h))
  |((exact Yw h hn))
  |((exact Yx h hn))
  |skip
theorem Bo(x:Ex)  : aj Tryz.prog 141 [x.d] (.ret (.i (level x.kind))):=by
 refine af tok hmix ⟨[],[]⟩ Tryz.func141 rfl (by kernel_rfl) (by kernel_rfl) (by kernel_rfl) λhf=>?_
 clear hf
 repeat' ((try(conv=>whnf))<;>first
  |((refine mg ?_ ?_);exact rfl)
  |refine BrI.intro (λh=>?_) (λh=>?_)
  |((refine ah ?_);refine⟨[],rfl,?_,trivial⟩;conv=>whnf)
  |fail)
 all_goals first
  |((simp only[level, *,Bool.true_or,Bool.or_true,Bool.false_or,Bool.or_false,Bool.or_self,if_true,if_false,Bool.false_eq_true]))
  |skip
theorem zo   : aA Tryz.prog 143 [] [] (.ret (.map 1000000)) [(1000000,.map false [.str] (CY.map TA))]:=by
 refine ag tok hmix ⟨[],[]⟩ Tryz.func143 rfl (by kernel_rfl) (by kernel_rfl) (by kernel_rfl) λhf=>?_
 clear hf
 repeat' ((try(conv=>whnf))<;>first
  |exact trivial
  |((refine ah ?_);refine fin_step' [(1000000,1)] rfl ?_ ?_)
  |(refine And.intro ?_ ?_)
  |exact @rfl AV _
  |exact @rfl Block _
  |fail)
 all_goals first
  |(rfl)
  |skip
theorem NR   : aA Tryz.prog 142 [] [] (.ret (.map 1000000)) [(1000000,.map false [.int .i64] (forms.map z1a))]:=by
 refine ag tok hmix ⟨[],[]⟩ Tryz.func142 rfl (by kernel_rfl) (by kernel_rfl) (by kernel_rfl) λhf=>?_
 clear hf
 repeat' ((try(conv=>whnf))<;>first
  |exact trivial
  |((refine ah ?_);refine fin_step' [(1000000,1)] rfl ?_ ?_)
  |(refine aB.l _ ?_)
  |(refine And.intro ?_ ?_)
  |exact @rfl AV _
  |exact @rfl Block _
  |fail)
 all_goals first
  |(rfl)
  |skip
theorem NS(x:Ex)(v:Int)(ts:List Tk)(hlt:decide (level x.kind<v)=true)(hA:∀ts:List Tk,ts.length+(aZ x).length<=1073741823->aA Tryz.prog 121 [.ptr 1000000 0,.data x.d,.data (.i 0)] [(1000000,wC (ts)),(1000001,wT (ts))] (.ret (.data (.tuple []))) [(1000000,wC (ts++aZ x)),(1000001,wT (ts++aZ x))])(hn:ts.length+(dw x v).length<=1073741823):aA Tryz.prog 121 [.ptr 1000000 0,.data x.d,.data (.i v)] [(1000000,wC (ts)),(1000001,wT (ts))] (.ret (.data (.tuple []))) [(1000000,wC (ts++dw x v)),(1000001,wT (ts++dw x v))]:=by
 refine ag tok hmix ⟨[],[]⟩ Tryz.func121 rfl (by kernel_rfl) (by kernel_rfl) (by kernel_rfl) λhf=>?_
 clear hf
 repeat' ((try(conv=>whnf))<;>first
  |(exact absurd (hlt.symm.trans h) Bool.noConfusion)
  |((refine aV [sg mO] (bZ (.str mO)) (λts h=>bg mO ts h) ?_);refine⟨_,_,_,rfl,rfl,rfl,rfl,rfl,(z1k hlt hn),?_⟩)
  |((refine aV [sg tN] (bZ (.str tN)) (λts h=>bg tN ts h) ?_);refine⟨_,_,_,rfl,rfl,rfl,rfl,rfl,(z1m hlt hn),?_⟩)
  |((refine aV (aZ x) (ry x.d (.i 0)) (λts h=>hA ts h) ?_);refine⟨_,_,_,rfl,rfl,rfl,rfl,rfl,z1l hlt hn,?_⟩)
  |exact trivial
  |refine BrI.intro (λh=>?_) (λh=>?_)
  |((refine ai ?_ ?_ ?_);rotate_left;(exact Bo _))
  |((refine ah ?_);refine fin_step' [(1000000,1000000),(1000001,1000001)] rfl ?_ ?_)
  |(refine And.intro ?_ ?_)
  |((refine fK ?_ ?_);exact rfl;(first |skip))
  |((refine aI ?_);refine dA ?_ ?_ ?_;exact rfl;exact rfl;(first |skip))
  |fail)
 all_goals first
  |((exact z1o hlt))
  |skip
theorem Bq(x:Ex)(v0:Int)(ts:List Tk)(hge:decide (level x.kind<v0)=false)(ih:∀y,y∈x.l->∀(v:Int) (ts:List Tk),ts.length+(dw y v).length<=1073741823->aA Tryz.prog 121 [.ptr 1000000 0,.data y.d,.data (.i v)] [(1000000,wC (ts)),(1000001,wT (ts))] (.ret (.data (.tuple []))) [(1000000,wC (ts++dw y v)),(1000001,wT (ts++dw y v))])(hn:ts.length+(aZ x).length<=1073741823):aA Tryz.prog 121 [.ptr 1000000 0,.data x.d,.data (.i v0)] [(1000000,wC (ts)),(1000001,wT (ts))] (.ret (.data (.tuple []))) [(1000000,wC (ts++aZ x)),(1000001,wT (ts++aZ x))]:=by
 refine FZ tok hmix ⟨[],[]⟩ Tryz.func121 rfl (by kernel_rfl) (by kernel_rfl) (by kernel_rfl) λhf=>?_
 clear hf
 repeat' ((try(conv=>whnf))<;>first
  |((refine mg ?_ ?_);exact rfl)
  |((refine mX ?_ ?_);exact rfl)
  |(exact absurd (hge.symm.trans h) Bool.noConfusion)
  |(have hMARK:=hI0;clear hMARK;(refine jk (λss ts h=>bJ ss ts h) ?_);refine⟨[_],_,_,_,_,rfl,rfl,rfl,rfl,rfl,rfl,(by first |exact Q9 hI0 hn (Dn ‹(x0==wIf)=true›) |exact Q9 hI0 hn (ug ‹(x0==ku)=true›) |exact Q9 hI0 hn (uh ‹(x0==kw)=true›) |exact Q9 hI0 hn (zh ‹(x0==wIf)=false› ‹(x0==ku)=false› ‹(x0==kw)=false› ‹(x0==[])=false›)),?_⟩)
  |((refine aV [sg f.2.2] (bZ (.str f.2.2)) (λts h=>bg f.2.2 ts h) ?_);refine⟨_,_,_,rfl,rfl,rfl,rfl,rfl,(z1h hI0 hn h).1,?_⟩)
  |((refine aV (jh x.n) (bZ (.i x.n)) (λts h=>dC x.n ts h) ?_);refine⟨_,_,_,rfl,rfl,rfl,rfl,rfl,(z1h hI0 hn h).2,?_⟩)
  |((refine aV [sg x0] (bZ (.str x0)) (λts h=>bg x0 ts h) ?_);refine⟨_,_,_,rfl,rfl,rfl,rfl,rfl,Q9 hI0 hn (zh ‹(x0==wIf)=false› ‹(x0==ku)=false› ‹(x0==kw)=false› ‹(x0==[])=false›),?_⟩)
  |((refine aV (dw y v) (ry y.d (.i v)) (λts h=>ih y (List.mem_of_getElem? hy) v ts h) ?_);refine⟨_,_,_,rfl,rfl,rfl,rfl,rfl,Rh hI0 hn (Dn ‹(x0==wIf)=true›) hy hv,?_⟩)
  |((refine aV (dw y v) (ry y.d (.i v)) (λts h=>ih y (List.mem_of_getElem? hy) v ts h) ?_);refine⟨_,_,_,rfl,rfl,rfl,rfl,rfl,Rh hI0 hn (ug ‹(x0==ku)=true›) hy hv,?_⟩)
  |((refine aV (dw y v) (ry y.d (.i v)) (λts h=>ih y (List.mem_of_getElem? hy) v ts h) ?_);refine⟨_,_,_,rfl,rfl,rfl,rfl,rfl,Rh hI0 hn (uh ‹(x0==kw)=true›) hy hv,?_⟩)
  |((refine aV (dw y v) (ry y.d (.i v)) (λts h=>ih y (List.mem_of_getElem? hy) v ts h) ?_);refine⟨_,_,_,rfl,rfl,rfl,rfl,rfl,Rh hI0 hn (zh ‹(x0==wIf)=false› ‹(x0==ku)=false› ‹(x0==kw)=false› ‹(x0==[])=false›) hy hv,?_⟩)
  |((refine aV (dw y v) (ry y.d (.i v)) (λts h=>ih y (List.mem_of_getElem? hy) v ts h) ?_);refine⟨_,_,_,rfl,rfl,rfl,rfl,rfl,z1f hI0 hn (Iy ‹(x0==wIf)=false› ‹(x0==ku)=false› ‹(x0==kw)=false› ‹(x0==[])=true›) hy hv,?_⟩)
  |(refine⟨(),Vg x.kind,λb0=>?_⟩)
  |(obtain⟨g,hg,rfl⟩:=YA hL)
  |(exact Or.inr rfl)
  |(refine⟨(),YB hL h,?_⟩)
  |(refine⟨[],[(1000000,wC (ts++aZ x)),(1000001,wT (ts++aZ x))],?_,⟨rfl,rfl,rfl,rfl⟩,?_⟩)
  |((refine jk (λss ts h=>bJ ss ts h) ?_);refine⟨[g.1],_,_,_,_,rfl,rfl,rfl,rfl,rfl,rfl,z3n hn he (AZ hg ‹(g.2.1 != x.kind)=false›),?_⟩)
  |((refine jk (λss ts h=>bJ ss ts h) ?_);refine⟨[x.name],_,_,_,_,rfl,rfl,rfl,rfl,rfl,rfl,z3p hn he (AZ hg ‹(g.2.1 != x.kind)=false›) ‹g.2.2.2=true›,?_⟩)
  |((refine jk (λss ts h=>bJ ss ts h) ?_);refine⟨[x.name],_,_,_,_,rfl,rfl,rfl,rfl,rfl,rfl,z3z hn he (KD hL) h,?_⟩)
  |((refine aV [sg mO] (bZ (.str mO)) (λts h=>bg mO ts h) ?_);refine⟨_,_,_,rfl,rfl,rfl,rfl,rfl,z3o hn he (AZ hg ‹(g.2.1 != x.kind)=false›),?_⟩)
  |((refine aV [sg aS] (bZ (.str aS)) (λts h=>bg aS ts h) ?_);refine⟨_,_,_,rfl,rfl,rfl,rfl,rfl,z3t hn hI5 ‹decide ((i:Int)<mm2 false g.2.2.1 ((Ex.css x.l).length:Int))=true› ‹decide ((i:Int)>0)=true›,?_⟩)
  |((refine aV [sg aS] (bZ (.str aS)) (λts h=>bg aS ts h) ?_);refine⟨_,_,_,rfl,rfl,rfl,rfl,rfl,z3q hn he (AZ hg ‹(g.2.1 != x.kind)=false›) ‹g.2.2.2=true›,?_⟩)
  |((refine aV [sg tN] (bZ (.str tN)) (λts h=>bg tN ts h) ?_);refine⟨_,_,_,rfl,rfl,rfl,rfl,rfl,z3x hn hI5 ‹decide ((i:Int)<mm2 false g.2.2.1 ((Ex.css x.l).length:Int))=false›,?_⟩)
  |((refine aV (jh x.n) (bZ (.i x.n)) (λts h=>dC x.n ts h) ?_);refine⟨_,_,_,rfl,rfl,rfl,rfl,rfl,z3y hn he (KD hL) h,?_⟩)
  |((refine aV (dw y 0) (ry y.d (.i 0)) (λts h=>ih y (List.mem_of_getElem? hy) 0 ts h) ?_);refine⟨_,_,_,rfl,rfl,rfl,rfl,rfl,z3u hn hI5 ‹decide ((i:Int)<mm2 false g.2.2.1 ((Ex.css x.l).length:Int))=true› ‹decide ((i:Int)>0)=true› hy,?_⟩)
  |((refine aV (dw y 0) (ry y.d (.i 0)) (λts h=>ih y (List.mem_of_getElem? hy) 0 ts h) ?_);refine⟨_,_,_,rfl,rfl,rfl,rfl,rfl,z3v hn hI5 ‹decide ((i:Int)<mm2 false g.2.2.1 ((Ex.css x.l).length:Int))=true› ‹decide ((i:Int)>0)=false› hy,?_⟩)
  |(refine bi (i+1,t1++[sg aS]++dw y 0) ?_ (YD hI5 ‹decide ((i:Int)<mm2 false g.2.2.1 ((Ex.css x.l).length:Int))=true› ‹decide ((i:Int)>0)=true› hy) (z1q ‹decide ((i:Int)<mm2 false g.2.2.1 ((Ex.css x.l).length:Int))=true›))
  |(refine bi (i+1,t1++dw y 0) ?_ (z1p hI5 ‹decide ((i:Int)<mm2 false g.2.2.1 ((Ex.css x.l).length:Int))=true› ‹decide ((i:Int)>0)=false› hy) (z1q ‹decide ((i:Int)<mm2 false g.2.2.1 ((Ex.css x.l).length:Int))=true›))
  |exact trivial
  |refine iO hd0 ?_
  |refine fC hd0 ?_
  |refine BrI.intro (λh=>?_) (λh=>?_)
  |(refine Kz forms (λf he=>?_) (λhe=>?_))
  |((refine WP (i:=i0) ?_ ?_ ?_ (λy hy=>?_));exact⟨rfl,rfl⟩;exact rfl;exact z1j ‹decide ((i0:Int)<((Ex.css x.l).length:Int))=true›)
  |((refine z1i (i:=i0) ?_ ?_ ?_ (λv hv=>?_));exact⟨rfl,rfl⟩;exact rfl;exact z3l he hd0)
  |((refine MapAt.mk 84 ?_);refine⟨800100,false,[.str],CY.map TA,⟨rfl,rfl⟩,⟨_,_,rfl⟩,⟨Unit,[(0,.ptr 1000000 0),(4,.ptr 4 0)],λ_=>[(4,.cells [.data (.i x.kind),.data (.str x.name),.data (.i x.index),.data (.i x.n),.data (.sl 5 (Ex.css x.l))]),(1000000,wC (ts)),(1000001,wT (ts))],λ_ es=>MI x.kind es⟩,?_⟩;refine⟨?_,rfl,λ_ _=>rfl,λ_=>rfl,rfl,λ_ l1 z l2 b0 r hL=>?_,λ_ hL=>?_⟩)
  |((refine WP (i:=i) ?_ ?_ ?_ (λy hy=>?_));exact⟨rfl,rfl⟩;exact rfl;exact(Rk ‹decide ((i:Int)<mm2 false g.2.2.1 ((Ex.css x.l).length:Int))=true›).1)
  |((refine aN.mk 0 ?_);refine⟨bI (f.1) 35 (λ(t1:(List Tk))=>[]) (λ(t1:(List Tk))=>[(4,.cells [.data (.i x.kind),.data (.str x.name),.data (.i x.index),.data (.i x.n),.data (.sl 5 (Ex.css x.l))]),(1000000,wC (t1)),(1000001,wT (t1))]) [0,4,6,33,34] (λi0 r0 t1=>FI x f (ts++aZ x) i0 r0 t1),?_⟩;refine au (ts) ?_ ?_ (λi0 (t1:(List Tk)) hd0 hI0=>?_) (λi0 x0 r0 (t1:(List Tk)) hd0 hl0 hI0=>?_))
  |(refine ak hd0 ?_ ?_ ?_)
  |((refine aN.mk 5 ?_);(have hb1:g.2.2.2=true:=‹g.2.2.2=true›);refine⟨jf (λ(q:(Nat)×(List Tk))=>match q with |(i,t1)=>[(116,.data (.val (.int .i64 (i:Nat))))]) (λ(q:(Nat)×(List Tk))=>match q with |(i,t1)=>[(1000000,wC (t1)),(1000001,wT (t1))]) [0,4,115] (λ(q:(Nat)×(List Tk))=>match q with |(i,t1)=>AT x g (ts++aZ x) i t1) (λ(q:(Nat)×(List Tk))=>match q with |(i,t1)=>x.l.length-i),?_⟩;refine dm ((0),(ts++[g.1].map wd++[sg mO]++[x.name].map wd++[sg aS])) ?_ ?_ (λ⟨i,t1⟩ hI5=>?_))
  |((refine aN.mk 5 ?_);(have hb1:g.2.2.2=false:=‹g.2.2.2=false›);refine⟨jf (λ(q:(Nat)×(List Tk))=>match q with |(i,t1)=>[(116,.data (.val (.int .i64 (i:Nat))))]) (λ(q:(Nat)×(List Tk))=>match q with |(i,t1)=>[(1000000,wC (t1)),(1000001,wT (t1))]) [0,4,115] (λ(q:(Nat)×(List Tk))=>match q with |(i,t1)=>AT x g (ts++aZ x) i t1) (λ(q:(Nat)×(List Tk))=>match q with |(i,t1)=>x.l.length-i),?_⟩;refine dm ((0),(ts++[g.1].map wd++[sg mO])) ?_ ?_ (λ⟨i,t1⟩ hI5=>?_))
  |((refine ai ?_ ?_ ?_);rotate_left;(exact Bo _))
  |((refine tq [(1000000,800000)] (NR) ?_ ?_ ?_ ?_);rotate_left 0;exact rfl;(exact trivial);exact rfl)
  |((refine tq [(1000000,800100)] (zo) ?_ ?_ ?_ ?_);rotate_left 0;exact rfl;(exact trivial);exact rfl)
  |((refine ah ?_);refine fin_step' [(1000000,1000000),(1000001,1000001)] rfl ?_ ?_)
  |(refine aB.l _ ?_)
  |((refine aW ?_ ?_ ?_ ?_ ?_);exact rfl;exact rfl;rotate_left;(exact dI hd0))
  |((refine bW ?_ ?_);exact rfl)
  |((refine aF ?_ ?_);kernel_rfl)
  |(refine And.intro ?_ ?_)
  |((refine sZ ?_ ?_ ?_);exact rfl;exact rfl;(first |skip))
  |((refine fK ?_ ?_);exact rfl;(first |skip))
  |((refine aI ?_);refine dA ?_ ?_ ?_;exact rfl;exact rfl;(first |exact rfl |skip))
  |exact @rfl AV _
  |exact @rfl Block _
  |exact @rfl (List AV) _
  |fail)
 all_goals first
  |((exact Ve he))
  |((exact aO hd0 (YC he)))
  |((exact Zk hI0 (Dn ‹(x0==wIf)=true›) hy hv))
  |((exact z1e hI0 (Dn ‹(x0==wIf)=true›) ‹decide ((i0:Int)<((Ex.css x.l).length:Int))=false›))
  |((exact Zk hI0 (ug ‹(x0==ku)=true›) hy hv))
  |((exact z1e hI0 (ug ‹(x0==ku)=true›) ‹decide ((i0:Int)<((Ex.css x.l).length:Int))=false›))
  |((exact Zk hI0 (uh ‹(x0==kw)=true›) hy hv))
  |((exact z1e hI0 (uh ‹(x0==kw)=true›) ‹decide ((i0:Int)<((Ex.css x.l).length:Int))=false›))
  |((exact Zk hI0 (zh ‹(x0==wIf)=false› ‹(x0==ku)=false› ‹(x0==kw)=false› ‹(x0==[])=false›) hy hv))
  |((exact z1e hI0 (zh ‹(x0==wIf)=false› ‹(x0==ku)=false› ‹(x0==kw)=false› ‹(x0==[])=false›) ‹decide ((i0:Int)<((Ex.css x.l).length:Int))=false›))
  |((exact z3i hI0 (Iy ‹(x0==wIf)=false› ‹(x0==ku)=false› ‹(x0==kw)=false› ‹(x0==[])=true›) hy hv))
  |((exact z3j hI0 (Iy ‹(x0==wIf)=false› ‹(x0==ku)=false› ‹(x0==kw)=false› ‹(x0==[])=true›) ‹decide ((i0:Int)<((Ex.css x.l).length:Int))=false›))
  |((exact congrArg (List.map Tk.cs) (z1g hI0 h)))
  |((exact congrArg (List.map Tk.cs) (z3k hI0 h)))
  |((exact z3r he (AZ hg ‹(g.2.1 != x.kind)=false›) ‹g.2.2.2=true›))
  |((exact z3s he (AZ hg ‹(g.2.1 != x.kind)=false›) ‹g.2.2.2=false›))
  |((exact Dc (z5e hg ‹decide ((i:Int)<mm2 false g.2.2.1 ((Ex.css x.l).length:Int))=true›)))
  |((exact congrArg (List.map Tk.cs) (z3w hI5 ‹decide ((i:Int)<mm2 false g.2.2.1 ((Ex.css x.l).length:Int))=false›)))
  |((exact congrArg (λl=>Block.tok 4 (List.map Tk.cs l).length) (z3w hI5 ‹decide ((i:Int)<mm2 false g.2.2.1 ((Ex.css x.l).length:Int))=false›)))
  |((exact z4a he (KD hL) h))
  |((exact z4b he (KD hL) h))
  |(rfl)
  |skip
theorem oV(x:Ex):∀(v:Int) (ts:List Tk),ts.length+(dw x v).length<=1073741823->aA Tryz.prog 121 [.ptr 1000000 0,.data x.d,.data (.i v)] [(1000000,wC (ts)),(1000001,wT (ts))] (.ret (.data (.tuple []))) [(1000000,wC (ts++dw x v)),(1000001,wT (ts++dw x v))]:=by
 refine Ex.ind (P:=λx=>∀(v:Int) (ts:List Tk),ts.length+(dw x v).length<=1073741823->aA Tryz.prog 121 [.ptr 1000000 0,.data x.d,.data (.i v)] [(1000000,wC (ts)),(1000001,wT (ts))] (.ret (.data (.tuple []))) [(1000000,wC (ts++dw x v)),(1000001,wT (ts++dw x v))]) (λx ih=>?_) x
 have hA:∀ts:List Tk,ts.length+(aZ x).length<=1073741823->aA Tryz.prog 121 [.ptr 1000000 0,.data x.d,.data (.i 0)] [(1000000,wC (ts)),(1000001,wT (ts))] (.ret (.data (.tuple []))) [(1000000,wC (ts++aZ x)),(1000001,wT (ts++aZ x))]:=λts hn=>Bq x 0 ts (z5f x.kind) (λy hy v ts h=>ih y hy v ts h) hn
 intro v ts hn
 cases h:decide (level x.kind<v)with
 |true=>exact NS x v ts h hA hn
 |false=>
  rw[Vf h]at hn ⊢
  exact Bq x v ts h (λy hy v ts h=>ih y hy v ts h) hn
theorem og(lo hi:Int)(ts:List Tk)(hn:ts.length+(fM lo hi).length<=1073741823):aA Tryz.prog 76 [.ptr 1000000 0,.data (.i lo),.data (.i hi)] [(1000000,wC (ts)),(1000001,wT (ts))] (.ret (.data (.tuple []))) [(1000000,wC (ts++fM lo hi)),(1000001,wT (ts++fM lo hi))]:=by
 refine ag tok hmix ⟨[],[]⟩ Tryz.func76 rfl (by kernel_rfl) (by kernel_rfl) (by kernel_rfl) λhf=>?_
 clear hf
 repeat' ((try(conv=>whnf))<;>first
  |((refine jk (λss ts h=>bJ ss ts h) ?_);refine⟨[Ns],_,_,_,_,rfl,rfl,rfl,rfl,rfl,rfl,(bc1).len (bR hn),?_⟩)
  |((refine aV (jh lo) (bZ (.i lo)) (λts h=>dC lo ts h) ?_);refine⟨_,_,_,rfl,rfl,rfl,rfl,rfl,((bc1).go).len (bR hn),?_⟩)
  |((refine jk (λss ts h=>bJ ss ts h) ?_);refine⟨[wTo],_,_,_,_,rfl,rfl,rfl,rfl,rfl,rfl,((bc1).go.go).len (bR hn),?_⟩)
  |((refine aV (jh hi) (bZ (.i hi)) (λts h=>dC hi ts h) ?_);refine⟨_,_,_,rfl,rfl,rfl,rfl,rfl,((bc1).go.go.go).len (bR hn),?_⟩)
  |((refine aV [sg dS] (bZ (.str dS)) (λts h=>bg dS ts h) ?_);refine⟨_,_,_,rfl,rfl,rfl,rfl,rfl,((bc1).go.go.go.go).len (bR hn),?_⟩)
  |exact trivial
  |((refine ah ?_);refine fin_step' [(1000000,1000000),(1000001,1000001)] rfl ?_ ?_)
  |(refine aB.l _ ?_)
  |(refine And.intro ?_ ?_)
  |((refine fK ?_ ?_);exact rfl;(first |skip))
  |((refine aI ?_);refine dA ?_ ?_ ?_;exact rfl;exact rfl;(first |skip))
  |fail)
 all_goals first
  |((exact Ba (bc1).go.go.go.go))
  |skip
theorem NT(s:Sm)(ts:List Tk)(hn:ts.length+(jv s).length<=1073741823):aA Tryz.prog 77 [.ptr 1000000 0,.data s.d] [(1000000,wC (ts)),(1000001,wT (ts))] (.ret (.data (.tuple []))) [(1000000,wC (ts++jv s)),(1000001,wT (ts++jv s))]:=by
 refine ag tok hmix ⟨[],[]⟩ Tryz.func77 rfl (by kernel_rfl) (by kernel_rfl) (by kernel_rfl) λhf=>?_
 clear hf
 repeat' ((try(conv=>whnf))<;>first
  |((refine mg ?_ ?_);exact rfl)
  |((refine mX ?_ ?_);exact rfl)
  |((refine jk (λss ts h=>bJ ss ts h) ?_);refine⟨[XZ,s.name],_,_,_,_,rfl,rfl,rfl,rfl,rfl,rfl,(sc1 h1).len (sR hn),?_⟩)
  |((refine jk (λss ts h=>bJ ss ts h) ?_);refine⟨[X0,s.name],_,_,_,_,rfl,rfl,rfl,rfl,rfl,rfl,(sc2 h1 h2).len (sR hn),?_⟩)
  |((refine jk (λss ts h=>bJ ss ts h) ?_);refine⟨[Ij,s.name],_,_,_,_,rfl,rfl,rfl,rfl,rfl,rfl,(sc3 h1 h2 h3).len (sR hn),?_⟩)
  |((refine jk (λss ts h=>bJ ss ts h) ?_);refine⟨[X3],_,_,_,_,rfl,rfl,rfl,rfl,rfl,rfl,(sc4 h1 h2 h3).len (sR hn),?_⟩)
  |((refine aV [sg sEq] (bZ (.str sEq)) (λts h=>bg sEq ts h) ?_);refine⟨_,_,_,rfl,rfl,rfl,rfl,rfl,((sc1 h1).go).len (sR hn),?_⟩)
  |((refine aV [sg sEq] (bZ (.str sEq)) (λts h=>bg sEq ts h) ?_);refine⟨_,_,_,rfl,rfl,rfl,rfl,rfl,((sc2 h1 h2).go).len (sR hn),?_⟩)
  |((refine aV [sg sEq] (bZ (.str sEq)) (λts h=>bg sEq ts h) ?_);refine⟨_,_,_,rfl,rfl,rfl,rfl,rfl,((sc3 h1 h2 h3).go).len (sR hn),?_⟩)
  |((refine aV (dw s.x 0) (ry s.x.d (.i 0)) (λts h=>oV s.x 0 ts h) ?_);refine⟨_,_,_,rfl,rfl,rfl,rfl,rfl,((sc1 h1).go.go).len (sR hn),?_⟩)
  |((refine aV (dw s.x 0) (ry s.x.d (.i 0)) (λts h=>oV s.x 0 ts h) ?_);refine⟨_,_,_,rfl,rfl,rfl,rfl,rfl,((sc2 h1 h2).go.go).len (sR hn),?_⟩)
  |((refine aV (dw s.x 0) (ry s.x.d (.i 0)) (λts h=>oV s.x 0 ts h) ?_);refine⟨_,_,_,rfl,rfl,rfl,rfl,rfl,((sc3 h1 h2 h3).go.go).len (sR hn),?_⟩)
  |((refine aV (dw s.x 0) (ry s.x.d (.i 0)) (λts h=>oV s.x 0 ts h) ?_);refine⟨_,_,_,rfl,rfl,rfl,rfl,rfl,((sc4 h1 h2 h3).go).len (sR hn),?_⟩)
  |((refine aV [sg dS] (bZ (.str dS)) (λts h=>bg dS ts h) ?_);refine⟨_,_,_,rfl,rfl,rfl,rfl,rfl,((sc1 h1).go.go.go).len (sR hn),?_⟩)
  |((refine aV [sg dS] (bZ (.str dS)) (λts h=>bg dS ts h) ?_);refine⟨_,_,_,rfl,rfl,rfl,rfl,rfl,((sc2 h1 h2).go.go.go).len (sR hn),?_⟩)
  |((refine aV [sg dS] (bZ (.str dS)) (λts h=>bg dS ts h) ?_);refine⟨_,_,_,rfl,rfl,rfl,rfl,rfl,((sc3 h1 h2 h3).go.go.go).len (sR hn),?_⟩)
  |((refine aV [sg dS] (bZ (.str dS)) (λts h=>bg dS ts h) ?_);refine⟨_,_,_,rfl,rfl,rfl,rfl,rfl,((sc4 h1 h2 h3).go.go).len (sR hn),?_⟩)
  |exact trivial
  |(refine z5g (λh1=>?_) (λh1 h2=>?_) (λh1 h2 h3=>?_) (λh1 h2 h3=>?_))
  |((refine ah ?_);refine fin_step' [(1000000,1000000),(1000001,1000001)] rfl ?_ ?_)
  |(refine aB.l _ ?_)
  |(refine And.intro ?_ ?_)
  |((refine fK ?_ ?_);exact rfl;(first |skip))
  |((refine aI ?_);refine dA ?_ ?_ ?_;exact rfl;exact rfl;(first |skip))
  |fail)
 all_goals first
  |((exact Ba (sc1 h1).go.go.go))
  |((exact Ba (sc2 h1 h2).go.go.go))
  |((exact Ba (sc3 h1 h2 h3).go.go.go))
  |((exact Ba (sc4 h1 h2 h3).go.go))
  |(rfl)
  |skip
theorem oW(p:Pr)(ts:List Tk)(hn:ts.length+(iM p).length<=1073741823):aA Tryz.prog 29 [.ptr 1000000 0,.data p.d] [(1000000,wC (ts)),(1000001,wT (ts))] (.ret (.data (.tuple []))) [(1000000,wC (ts++iM p)),(1000001,wT (ts++iM p))]:=by
 refine ag tok hmix ⟨[7],[]⟩ Tryz.func29 rfl (by kernel_rfl) (by kernel_rfl) (by kernel_rfl) λhf=>?_
 have hps:=Pr.fits (hf (.data p.d) (by simp)).data
 obtain⟨hlen,hlen2,hlen4,hlen6,hlen10,hlen8⟩:=hps
 clear hf
 repeat' ((try(conv=>whnf))<;>first
  |((refine jk (λss ts h=>bJ ss ts h) ?_);refine⟨[wProcessor,p.name,cO],_,_,_,_,rfl,rfl,rfl,rfl,rfl,rfl,(pc1).len (pR hn),?_⟩)
  |((refine aV (jh p.latency) (bZ (.i p.latency)) (λts h=>dC p.latency ts h) ?_);refine⟨_,_,_,rfl,rfl,rfl,rfl,rfl,((pc1).go).len (pR hn),?_⟩)
  |((refine jk (λss ts h=>bJ ss ts h) ?_);refine⟨[wTail],_,_,_,_,rfl,rfl,rfl,rfl,rfl,rfl,((pc1).go.go).len (pR hn),?_⟩)
  |((refine jk (λss ts h=>bJ ss ts h) ?_);refine⟨[dR],_,_,_,_,rfl,rfl,rfl,rfl,rfl,rfl,(pc3 h).len (pR hn),?_⟩)
  |((refine aV (jh p.tail) (bZ (.i p.tail)) (λts h=>dC p.tail ts h) ?_);refine⟨_,_,_,rfl,rfl,rfl,rfl,rfl,(pc4 h).len (pR hn),?_⟩)
  |((refine aN.mk 7 ?_);refine⟨⟨List Tk,λ_=>[],λt1=>[(1000000,wC (t1)),(1000001,wT (t1))],[0,3],λt1=>CI ([sg sBra]++R0 p) (ts++iM p) t1,λ_=>0⟩,?_,?_⟩;rotate_left;intro t1 hC)
  |(refine⟨ts++[wProcessor,p.name,cO].map wd++jh p.latency++[wTail].map wd++[dR].map wd,(pc3 h).go,?_⟩)
  |(refine⟨ts++[wProcessor,p.name,cO].map wd++jh p.latency++[wTail].map wd++jh p.tail,(pc4 h).go,?_⟩)
  |((refine aV [sg sBra] (bZ (.str sBra)) (λts h=>bg sBra ts h) ?_);refine⟨_,_,_,rfl,rfl,rfl,rfl,rfl,(hC).len (pR hn),?_⟩)
  |((refine jk (λss ts h=>bJ ss ts h) ?_);refine⟨[tK,x0.name],_,_,_,_,rfl,rfl,rfl,rfl,rfl,rfl,(NC hI0).len (pR hn),?_⟩)
  |((refine aV (fM x0.lo x0.hi) (ry (.i x0.lo) (.i x0.hi)) (λts h=>og x0.lo x0.hi ts h) ?_);refine⟨_,_,_,rfl,rfl,rfl,rfl,rfl,((NC hI0).go).len (pR hn),?_⟩)
  |((refine jk (λss ts h=>bJ ss ts h) ?_);refine⟨[qj,x2.name],_,_,_,_,rfl,rfl,rfl,rfl,rfl,rfl,(NC hI2).len (pR hn),?_⟩)
  |((refine aV (fM x2.lo x2.hi) (ry (.i x2.lo) (.i x2.hi)) (λts h=>og x2.lo x2.hi ts h) ?_);refine⟨_,_,_,rfl,rfl,rfl,rfl,rfl,((NC hI2).go).len (pR hn),?_⟩)
  |((refine jk (λss ts h=>bJ ss ts h) ?_);refine⟨[Fh,x4.name],_,_,_,_,rfl,rfl,rfl,rfl,rfl,rfl,(Vh hI4).len (pR hn),?_⟩)
  |((refine aV (jh x4.size) (bZ (.i x4.size)) (λts h=>dC x4.size ts h) ?_);refine⟨_,_,_,rfl,rfl,rfl,rfl,rfl,((Vh hI4).go).len (pR hn),?_⟩)
  |((refine aV (fM x4.lo x4.hi) (ry (.i x4.lo) (.i x4.hi)) (λts h=>og x4.lo x4.hi ts h) ?_);refine⟨_,_,_,rfl,rfl,rfl,rfl,rfl,((Vh hI4).go.go).len (pR hn),?_⟩)
  |((refine jk (λss ts h=>bJ ss ts h) ?_);refine⟨[ww,x6.name],_,_,_,_,rfl,rfl,rfl,rfl,rfl,rfl,(YE hI6).len (pR hn),?_⟩)
  |((refine aV [sg aS] (bZ (.str aS)) (λts h=>bg aS ts h) ?_);refine⟨_,_,_,rfl,rfl,rfl,rfl,rfl,(YF hI8 ‹decide ((i8:Int)>0)=true›).len (pR hn),?_⟩)
  |((refine aV [sg dS] (bZ (.str dS)) (λts h=>bg dS ts h) ?_);refine⟨_,_,_,rfl,rfl,rfl,rfl,rfl,(z1t hI8).len (pR hn),?_⟩)
  |((refine aV [sg sEq] (bZ (.str sEq)) (λts h=>bg sEq ts h) ?_);refine⟨_,_,_,rfl,rfl,rfl,rfl,rfl,((YE hI6).go).len (pR hn),?_⟩)
  |((refine aV (jh x8) (bZ (.i x8)) (λts h=>dC x8 ts h) ?_);refine⟨_,_,_,rfl,rfl,rfl,rfl,rfl,((YF hI8 ‹decide ((i8:Int)>0)=true›).go).len (pR hn),?_⟩)
  |((refine aV (jh x8) (bZ (.i x8)) (λts h=>dC x8 ts h) ?_);refine⟨_,_,_,rfl,rfl,rfl,rfl,rfl,(z1s hI8 ‹decide ((i8:Int)>0)=false›).len (pR hn),?_⟩)
  |((refine aV (jv x10) (bZ x10.d) (λts h=>NT x10 ts h) ?_);refine⟨_,_,_,rfl,rfl,rfl,rfl,rfl,(z1r hI10).len (pR hn),?_⟩)
  |((refine aV [sg xk] (bZ (.str xk)) (λts h=>bg xk ts h) ?_);refine⟨_,_,_,rfl,rfl,rfl,rfl,rfl,(A8 hI10).len (pR hn),?_⟩)
  |(refine ak hd8 (t1++[sg aS]++jh x8) ?_ (YF hI8 ‹decide ((i8:Int)>0)=true›).go.go)
  |(refine ak hd8 (t1++jh x8) ?_ (z1s hI8 ‹decide ((i8:Int)>0)=false›).go)
  |exact trivial
  |exact aO hd0 ‹_›
  |exact aO hd2 ‹_›
  |exact aO hd4 ‹_›
  |exact aO hd6 ‹_›
  |exact aO hd10 ‹_›
  |refine iO hd0 ?_
  |refine iO hd2 ?_
  |refine iO hd4 ?_
  |refine iO hd6 ?_
  |refine iO hd10 ?_
  |refine iO hd8 ?_
  |refine fC hd0 ?_
  |refine fC hd2 ?_
  |refine fC hd4 ?_
  |refine fC hd6 ?_
  |refine fC hd10 ?_
  |refine fC hd8 ?_
  |refine BrI.intro (λh=>?_) (λh=>?_)
  |((refine aN.mk 8 ?_);refine⟨bI (x6.values) 118 (λ(t1:(List Tk))=>[]) (λ(t1:(List Tk))=>[(1000000,wC (t1)),(1000001,wT (t1))]) [0,3,102,103,104,116,117] (λi8 r8 t1=>CI (yZ i8 r8++([sg dS]++(r6.flatMap tbT++R4 p))) (ts++iM p) t1),?_⟩;refine au (t1++[ww,x6.name].map wd++[sg sEq]) ?_ ?_ (λi8 (t1:(List Tk)) hd8 hI8=>?_) (λi8 x8 r8 (t1:(List Tk)) hd8 hl8 hI8=>?_))
  |((refine aN.mk 10 ?_);refine⟨bI (p.stmts) 137 (λ(t1:(List Tk))=>[]) (λ(t1:(List Tk))=>[(1000000,wC (t1)),(1000001,wT (t1))]) [0,135,136] (λi10 r10 t1=>CI (r10.flatMap jv++R5 p) (ts++iM p) t1),?_⟩;refine au (t1) ?_ ?_ (λi10 (t1:(List Tk)) hd10 hI10=>?_) (λi10 x10 r10 (t1:(List Tk)) hd10 hl10 hI10=>?_))
  |(refine ak hd10 (t1++jv x10) ?_ ?_)
  |((refine aN.mk 6 ?_);refine⟨bI (p.tables) 104 (λ(t1:(List Tk))=>[]) (λ(t1:(List Tk))=>[(1000000,wC (t1)),(1000001,wT (t1))]) [0,3,102,103] (λi6 r6 t1=>CI (r6.flatMap tbT++R4 p) (ts++iM p) t1),?_⟩;refine au (t1) ?_ ?_ (λi6 (t1:(List Tk)) hd6 hI6=>?_) (λi6 x6 r6 (t1:(List Tk)) hd6 hl6 hI6=>?_))
  |(refine ak hd6 (t1++[sg dS]) ?_ ?_)
  |((refine aN.mk 4 ?_);refine⟨bI (p.lines) 81 (λ(t1:(List Tk))=>[]) (λ(t1:(List Tk))=>[(1000000,wC (t1)),(1000001,wT (t1))]) [0,3,79,80] (λi4 r4 t1=>CI (r4.flatMap lnT++R3 p) (ts++iM p) t1),?_⟩;refine au (t1) ?_ ?_ (λi4 (t1:(List Tk)) hd4 hI4=>?_) (λi4 x4 r4 (t1:(List Tk)) hd4 hl4 hI4=>?_))
  |(refine ak hd4 (t1++[Fh,x4.name].map wd++jh x4.size++fM x4.lo x4.hi) ?_ ?_)
  |((refine aN.mk 2 ?_);refine⟨bI (p.states) 62 (λ(t1:(List Tk))=>[]) (λ(t1:(List Tk))=>[(1000000,wC (t1)),(1000001,wT (t1))]) [0,3,60,61] (λi2 r2 t1=>CI (r2.flatMap (bdT qj)++R2 p) (ts++iM p) t1),?_⟩;refine au (t1) ?_ ?_ (λi2 (t1:(List Tk)) hd2 hI2=>?_) (λi2 x2 r2 (t1:(List Tk)) hd2 hl2 hI2=>?_))
  |(refine ak hd2 (t1++[qj,x2.name].map wd++fM x2.lo x2.hi) ?_ ?_)
  |((refine aN.mk 0 ?_);refine⟨bI (p.params) 43 (λ(t1:(List Tk))=>[]) (λ(t1:(List Tk))=>[(1000000,wC (t1)),(1000001,wT (t1))]) [0,3,41,42] (λi0 r0 t1=>CI (r0.flatMap (bdT tK)++R1 p) (ts++iM p) t1),?_⟩;refine au (t1++[sg sBra]) ?_ ?_ (λi0 (t1:(List Tk)) hd0 hI0=>?_) (λi0 x0 r0 (t1:(List Tk)) hd0 hl0 hI0=>?_))
  |(refine ak hd0 (t1++[tK,x0.name].map wd++fM x0.lo x0.hi) ?_ ?_)
  |((refine ah ?_);refine fin_step' [(1000000,1000000),(1000001,1000001)] rfl ?_ ?_)
  |(refine aB.l _ ?_)
  |((refine aW ?_ ?_ ?_ ?_ ?_);exact rfl;exact rfl;rotate_left;(first |exact dI hd0 |exact dI hd2 |exact dI hd4 |exact dI hd6 |exact dI hd10 |exact dI hd8))
  |((refine bW ?_ ?_);exact rfl)
  |(refine And.intro ?_ ?_)
  |((refine fK ?_ ?_);exact rfl;(first |skip))
  |((refine aI ?_);refine dA ?_ ?_ ?_;exact rfl;exact rfl;(first |skip))
  |exact @rfl AV _
  |fail)
 all_goals first
  |((exact hC.go))
  |((exact(NC hI0).go.go))
  |((exact A8 hI0))
  |((exact(NC hI2).go.go))
  |((exact A8 hI2))
  |((exact(Vh hI4).go.go.go))
  |((exact A8 hI4))
  |((exact(YE hI6).go.go))
  |((exact(z1t hI8).go))
  |((exact A8 hI6))
  |((exact(z1r hI10).go))
  |((exact Ba (A8 hI10)))
  |((exact aO hd8 (hlen8 x6 (lV hd6))))
  |skip
end Go.Proofs.YtmfehangcmbidaaGreatDoor
