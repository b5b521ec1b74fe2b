/- Contracts: package syntax: the parser's tokens. -/
import Derived.Test.YtmfehangcmbidaaGreatDoorZDS
set_option linter.unusedSectionVars false
set_option linter.unusedSimpArgs false
set_option linter.unusedVariables false
set_option maxHeartbeats 400000
namespace Go.Proofs.YtmfehangcmbidaaGreatDoor
open Go.Fw Go.Fw.Lx Go.Fw.Sy
set_option maxRecDepth 10000
variable [ae]
theorem YY(s:Sy.Str)(l:List Tk)(e d:Int)  : aj Tryz.prog 158 [.ptr [.sl 4 (l.map Tk.cs),.i e,.i d],.str s] (.ret (.b (isT s l))):=by
 refine af tok hmix ⟨[],[]⟩ Tryz.func158 rfl (by kernel_rfl) (by kernel_rfl) (by kernel_rfl) λhf=>?_
 clear hf
 repeat' ((try(conv=>whnf))<;>first
  |((refine qm ?_ ?_ ?_ ?_);exact⟨rfl,rfl⟩;exact rfl;(simp[lQ]at hg;omega))
  |((refine aJ ?_ ?_ (λhg=>?_) ?_);exact rfl)
  |((refine aX ?_ ?_);exact rfl;exact rfl)
  |((refine ah ?_);refine⟨[],rfl,?_,trivial⟩;conv=>whnf)
  |fail)
 all_goals first
  |((simp only[isT,Ir];cases l.isEmpty<;>cases (hd l).kind != 2<;>rfl))
  |skip
theorem iJ(l:List Tk)(e d:Int)  : aj Tryz.prog 111 [.ptr [.sl 4 (l.map Tk.cs),.i e,.i d]] (.ret (.b (eG l))):=by
 refine af tok hmix ⟨[],[]⟩ Tryz.func111 rfl (by kernel_rfl) (by kernel_rfl) (by kernel_rfl) λhf=>?_
 clear hf
 repeat' ((try(conv=>whnf))<;>first
  |((refine qm ?_ ?_ ?_ ?_);exact⟨rfl,rfl⟩;exact rfl;(simp[lQ]at hg;omega))
  |((refine aJ ?_ ?_ (λhg=>?_) ?_);exact rfl)
  |((refine aX ?_ ?_);exact rfl;exact rfl)
  |((refine ah ?_);refine⟨[],rfl,?_,trivial⟩;conv=>whnf)
  |fail)
 all_goals first
  |((simp only[eG,Ir];cases l.isEmpty<;>cases (hd l).kind==2<;>rfl))
  |skip
theorem NE   : aj Tryz.prog 160 [] (.ret (strs words)):=by
 refine af tok hmix ⟨[],[]⟩ Tryz.func160 rfl (by kernel_rfl) (by kernel_rfl) (by kernel_rfl) λhf=>?_
 clear hf
 repeat' ((try(conv=>whnf))<;>first
  |(refine aB.l _ ?_)
  |((refine ah ?_);refine⟨[],rfl,?_,trivial⟩;conv=>whnf)
  |fail)
 all_goals first
  |(rfl)
  |skip
theorem IB(l:List Sy.Str)(v:Sy.Str)  : aj Tryz.prog 173 [strs l,.str v] (.ret (.i (QX v l 0))):=by
 refine af tok hmix ⟨[],[]⟩ Tryz.func173 rfl (by kernel_rfl) (by kernel_rfl) (by kernel_rfl) λhf=>?_
 have hlen:l.length<=9223372036854775807:=by simpa using(hf (.sl 1 (l.map uX)) (by simp)).sl.1
 clear hf
 repeat' ((try(conv=>whnf))<;>first
  |exact trivial
  |exact aO hd0 ‹_›
  |refine iO hd0 ?_
  |refine fC hd0 ?_
  |refine BrI.intro (λh=>?_) (λh=>?_)
  |((refine aN.mk 0 ?_);refine⟨bI (l) 8 (λ(_:Unit)=>[]) (λ(_:Unit)=>[]) [0,1,7] (λi0 r0 _=>QX v l 0=QX v r0 i0),?_⟩;refine au () ?_ ?_ (λi0 (_:Unit) hd0 hI0=>?_) (λi0 x0 r0 (_:Unit) hd0 hl0 hI0=>?_))
  |(refine ak hd0 () ?_ ?_)
  |((refine aW ?_ ?_ ?_ ?_ ?_);exact rfl;exact rfl;rotate_left;(exact dI hd0))
  |((refine ah ?_);refine⟨[],rfl,?_,trivial⟩;conv=>whnf)
  |(refine And.intro ?_ ?_)
  |exact @rfl AV _
  |fail)
 all_goals first
  |(rw[hI0];(try simp only[QX,Bool.not_true,Bool.not_false,Bool.and_true,Bool.true_and,Bool.and_false,Bool.false_and,Bool.or_true,Bool.true_or,Bool.or_false,Bool.false_or,if_true,if_false,reduceIte,Bool.false_eq_true,Bool.not_not,Bool.not_eq_true',beq_self_eq_true,List.all_cons,List.all_nil,List.any_cons,List.any_nil,List.length_map,bne,eq_self,Int.toNat_zero, *]);first |done |rfl)
  |(simp_all[QX])
  |skip
theorem Ry(l:List Sy.Str)(v:Sy.Str)  : aj Tryz.prog 159 [strs l,.str v] (.ret (.b (decide (QX v l 0>=0)))):=by
 refine af tok hmix ⟨[],[]⟩ Tryz.func159 rfl (by kernel_rfl) (by kernel_rfl) (by kernel_rfl) λhf=>?_
 clear hf
 repeat' ((try(conv=>whnf))<;>first
  |((refine ai ?_ ?_ ?_);rotate_left;(exact IB _ _))
  |((refine ah ?_);refine⟨[],rfl,?_,trivial⟩;conv=>whnf)
  |fail)
 all_goals first
  |skip
theorem rC(l:List Tk)(e d:Int)  : aj Tryz.prog 135 [.ptr [.sl 4 (l.map Tk.cs),.i e,.i d]] (.ret (.b (Gv l))):=by
 refine af tok hmix ⟨[],[]⟩ Tryz.func135 rfl (by kernel_rfl) (by kernel_rfl) (by kernel_rfl) λhf=>?_
 clear hf
 repeat' ((try(conv=>whnf))<;>first
  |((refine qm ?_ ?_ ?_ ?_);exact⟨rfl,rfl⟩;exact rfl;(simp[lQ]at hg;omega))
  |((refine ai ?_ ?_ ?_);rotate_left;(first |exact NE |exact Ry _ _))
  |((refine iT ?_ ?_ (λhg=>?_) ?_);exact rfl)
  |((refine aX ?_ ?_);exact rfl;exact rfl)
  |((refine aF ?_ ?_);kernel_rfl)
  |((refine ah ?_);refine⟨[],rfl,?_,trivial⟩;conv=>whnf)
  |fail)
 all_goals first
  |((simp only[Gv,Ir,U4];cases l.isEmpty<;>cases (hd l).kind==1<;>rfl))
  |skip
theorem gz(s:Sy.Str)(l:List Tk)(e d:Int)  : aA Tryz.prog 133 [.ptr 1000000 0,.data (.str s)] [(1000000,pB l e d)] (.ret (.data (.b (isT s l)))) [(1000000,pB (bif isT s l then l.drop 1 else l) e d)]:=by
 refine ag tok hmix ⟨[],[]⟩ Tryz.func133 rfl (by kernel_rfl) (by kernel_rfl) (by kernel_rfl) λhf=>?_
 clear hf
 repeat' ((try(conv=>whnf))<;>first
  |exact trivial
  |refine BrI.intro (λh=>?_) (λh=>?_)
  |((refine oN ?_ ?_ ?_);exact⟨rfl,rfl⟩;exact z2q (mf h))
  |((refine dH ?_ ?_);exact rfl)
  |((refine dG ?_ ?_ ?_);rotate_left;(exact YY _ _ _ _))
  |((refine ah ?_);refine fin_step' [(1000000,1000000)] rfl ?_ ?_)
  |(refine And.intro ?_ ?_)
  |fail)
 all_goals first
  |((rw[h];exact congrArg (D.sl 4) U3))
  |((rw[h];rfl))
  |skip
theorem jl(l:List Tk)(e d:Int)  : aA Tryz.prog 134 [.ptr 1000000 0] [(1000000,pB l e d)] (.pan (.data (jV 119 e l))) [(1000000,pB l e d)]:=by
 refine ag tok hmix ⟨[],[]⟩ Tryz.func134 rfl (by kernel_rfl) (by kernel_rfl) (by kernel_rfl) λhf=>?_
 clear hf
 repeat' ((try(conv=>whnf))<;>first
  |exact trivial
  |refine BrI.intro (λh=>?_) (λh=>?_)
  |((refine qm ?_ ?_ ?_ ?_);exact⟨rfl,rfl⟩;exact rfl;(simp at h;omega))
  |((refine iG ?_);refine fin_step' [(1000000,1000000)] rfl ?_ ?_)
  |(refine And.intro ?_ ?_)
  |fail)
 all_goals first
  |((exact U5 h))
  |((exact QZ h))
  |skip
theorem NF(ws:List Sy.Str)(l:List Tk)(e d:Int)(o:Option Unit)(l':List Tk)(hlen:ws.length<=9223372036854775807)(hM:C9 ws l=(o,l')):aA Tryz.prog 108 [.ptr 1000000 0,.gs 1000001 1 (ws.map uX)] [(1000000,pB l e d),(1000001,.tok 1 (ws.map uX).length)] (jE 119 (λ_:Unit=>.tuple []) e o l') [(1000000,pB l' e d),(1000001,.tok 1 (ws.map uX).length)]:=by
 refine ag tok hmix ⟨[],[]⟩ Tryz.func108 rfl (by kernel_rfl) (by kernel_rfl) (by kernel_rfl) λhf=>?_
 clear hf
 repeat' ((try(conv=>whnf))<;>first
  |((refine mg ?_ ?_);exact rfl)
  |((refine mX ?_ ?_);exact rfl)
  |((refine zN (λs l=>gz s l e d) ?_);refine⟨_,_,_,rfl,rfl,rfl,λhT _=>?_,λhT=>?_⟩)
  |((refine FB (λl=>jl l e d) ?_);refine⟨_,_,rfl,rfl,rfl,?_⟩)
  |((refine iV ?_);(try simp only[Bool.not_true,Bool.not_false,cond_true,cond_false,bne,Bool.not_eq_true',Bool.not_eq_false']at *);(rw[hI0]at hM);(simp only[C9,reduceIte,Bool.false_eq_true, *]at hM);(obtain⟨rfl,rfl⟩:=eH hM);refine gq ?_;(conv=>whnf);refine fin_step' [(1000000,1000000),(1000001,1000001)] rfl ?_ ?_)
  |((refine aY ?_);(try simp only[Bool.not_true,Bool.not_false,cond_true,cond_false,bne,Bool.not_eq_true',Bool.not_eq_false']at *);(rw[hI0]at hM);(simp only[C9,reduceIte,Bool.false_eq_true, *]at hM);(obtain⟨rfl,rfl⟩:=eH hM);refine aP ?_;refine fin_step' [(1000000,1000000),(1000001,1000001)] rfl ?_ ?_)
  |exact trivial
  |exact aO hd0 ‹_›
  |refine iO hd0 ?_
  |refine fC hd0 ?_
  |((refine aN.mk 0 ?_);refine⟨bI (ws) 8 (λ(l1:(List Tk))=>[]) (λ(l1:(List Tk))=>[(1000000,pB l1 e d)]) [0,6,7] (λi0 r0 l1=>C9 ws l=C9 r0 l1),?_⟩;refine au (l) ?_ ?_ (λi0 (l1:(List Tk)) hd0 hI0=>?_) (λi0 x0 r0 (l1:(List Tk)) hd0 hl0 hI0=>?_))
  |(refine ak hd0 (l1.drop 1) ?_ ?_)
  |((refine aW ?_ ?_ ?_ ?_ ?_);exact rfl;exact rfl;rotate_left;(exact dI hd0))
  |(refine And.intro ?_ ?_)
  |exact @rfl AV _
  |fail)
 all_goals first
  |((rw[hI0];simp only[C9,hT,if_true]))
  |skip
theorem gB(s:Sy.Str)(l:List Tk)(e d:Int)(o:Option Unit)(l':List Tk)(hM:aC s l=(o,l')):aA Tryz.prog 108 [.ptr 1000000 0,.gs 1000001 1 [[.str s]]] [(1000000,pB l e d),(1000001,.tok 1 1)] (jE 119 (λ_:Unit=>.tuple []) e o l') [(1000000,pB l' e d),(1000001,.tok 1 1)]:=
 NF [s] l e d o l' (by simp) (by rw[QW];exact hM)
theorem gG(l:List Tk)(e d:Int)(o:Option (Sy.Str))(l':List Tk)(hM:jg l=(o,l')):aA Tryz.prog 109 [.ptr 1000000 0] [(1000000,pB l e d)] (jE 119 (λs=>.str s) e o l') [(1000000,pB l' e d)]:=by
 refine ag tok hmix ⟨[],[]⟩ Tryz.func109 rfl (by kernel_rfl) (by kernel_rfl) (by kernel_rfl) λhf=>?_
 clear hf
 repeat' ((try(conv=>whnf))<;>first
  |((refine FB (λl=>jl l e d) ?_);refine⟨_,_,rfl,rfl,rfl,?_⟩)
  |((refine iV ?_);(try simp only[Bool.not_true,Bool.not_false,cond_true,cond_false,bne,Bool.not_eq_true',Bool.not_eq_false']at *);(simp only[jg,reduceIte,Bool.false_eq_true, *]at hM);(obtain⟨rfl,rfl⟩:=eH hM);refine gq ?_;(conv=>whnf);refine fin_step' [(1000000,1000000)] rfl ?_ ?_)
  |((refine aY ?_);(try simp only[Bool.not_true,Bool.not_false,cond_true,cond_false,bne,Bool.not_eq_true',Bool.not_eq_false']at *);(simp only[jg,reduceIte,Bool.false_eq_true, *]at hM);(obtain⟨rfl,rfl⟩:=eH hM);refine aP ?_;refine fin_step' [(1000000,1000000)] rfl ?_ ?_)
  |exact trivial
  |refine BrI.intro (λh=>?_) (λh=>?_)
  |((refine qm ?_ ?_ ?_ ?_);exact⟨rfl,rfl⟩;exact rfl;(exact J8 (by simpa using h)))
  |((refine oN ?_ ?_ ?_);exact⟨rfl,rfl⟩;exact z2q (J8 (by simpa using h)))
  |((refine dH ?_ ?_);exact rfl)
  |((refine dG ?_ ?_ ?_);rotate_left;(exact rC _ _ _))
  |(refine And.intro ?_ ?_)
  |fail)
 all_goals first
  |((exact congrArg (D.sl 4) U3))
  |skip
theorem gV(l:List Tk)(e d:Int)(o:Option (Int))(l':List Tk)(hM:mV l=(o,l')):aA Tryz.prog 110 [.ptr 1000000 0] [(1000000,pB l e d)] (jE 119 (λn=>.i n) e o l') [(1000000,pB l' e d)]:=by
 refine ag tok hmix ⟨[],[]⟩ Tryz.func110 rfl (by kernel_rfl) (by kernel_rfl) (by kernel_rfl) λhf=>?_
 clear hf
 repeat' ((try(conv=>whnf))<;>first
  |((refine FB (λl=>jl l e d) ?_);refine⟨_,_,rfl,rfl,rfl,?_⟩)
  |((refine iV ?_);(try simp only[Bool.not_true,Bool.not_false,cond_true,cond_false,bne,Bool.not_eq_true',Bool.not_eq_false']at *);(simp only[mV,reduceIte,Bool.false_eq_true, *]at hM);(obtain⟨rfl,rfl⟩:=eH hM);refine gq ?_;(conv=>whnf);refine fin_step' [(1000000,1000000)] rfl ?_ ?_)
  |((refine aY ?_);(try simp only[Bool.not_true,Bool.not_false,cond_true,cond_false,bne,Bool.not_eq_true',Bool.not_eq_false']at *);(simp only[mV,reduceIte,Bool.false_eq_true, *]at hM);(obtain⟨rfl,rfl⟩:=eH hM);refine aP ?_;refine fin_step' [(1000000,1000000)] rfl ?_ ?_)
  |exact trivial
  |refine BrI.intro (λh=>?_) (λh=>?_)
  |((refine qm ?_ ?_ ?_ ?_);exact⟨rfl,rfl⟩;exact rfl;(exact zf (by simpa using h)))
  |((refine oN ?_ ?_ ?_);exact⟨rfl,rfl⟩;exact z2q (zf (by simpa using h)))
  |((refine dH ?_ ?_);exact rfl)
  |((refine dG ?_ ?_ ?_);rotate_left;(exact iJ _ _ _))
  |(refine And.intro ?_ ?_)
  |fail)
 all_goals first
  |((exact congrArg (D.sl 4) U3))
  |skip
theorem wF(l:List Tk)(e d:Int)(o:Option (Int))(l':List Tk)(hM:Gw l=(o,l')):aA Tryz.prog 139 [.ptr 1000000 0] [(1000000,pB l e d)] (jE 119 (λn=>.i n) e o l') [(1000000,pB l' e d)]:=by
 refine ag tok hmix ⟨[],[]⟩ Tryz.func139 rfl (by kernel_rfl) (by kernel_rfl) (by kernel_rfl) λhf=>?_
 clear hf
 repeat' ((try(conv=>whnf))<;>first
  |((refine zN (λs l=>gz s l e d) ?_);refine⟨_,_,_,rfl,rfl,rfl,λhT _=>?_,λhT=>?_⟩)
  |((refine jL (d:=d) [] (λl=>gV l e d) ?_);refine⟨_,_,rfl,rfl,rfl,λn l1 h_n=>?_,λl1 h_n=>?_⟩)
  |((refine mg ?_ ?_);exact rfl)
  |((refine mX ?_ ?_);exact rfl)
  |((refine iV ?_);(try simp only[Bool.not_true,Bool.not_false,cond_true,cond_false,bne,Bool.not_eq_true',Bool.not_eq_false']at *);(simp only[Gw,bnd,reduceIte,Bool.false_eq_true, *]at hM);(obtain⟨rfl,rfl⟩:=eH hM);refine gq ?_;(conv=>whnf);refine fin_step' [(1000000,1000000)] rfl ?_ ?_)
  |((refine aY ?_);(try simp only[Bool.not_true,Bool.not_false,cond_true,cond_false,bne,Bool.not_eq_true',Bool.not_eq_false']at *);(simp only[Gw,bnd,reduceIte,Bool.false_eq_true, *]at hM);(obtain⟨rfl,rfl⟩:=eH hM);refine aP ?_;refine fin_step' [(1000000,1000000)] rfl ?_ ?_)
  |exact trivial
  |(refine And.intro ?_ ?_)
  |fail)
 all_goals first
  |skip
theorem FT(u:PM Ex)(e d:Int)(l:List Tk)(o:Option (Ex))(l':List Tk)(hu:(∀l o l',u l=(o,l')->aA Tryz.prog 181 [.ptr 1000000 0] [(1000000,pB l e d)] (jE 119 Ex.d e o l') [(1000000,pB l' e d)]))(hs:Sh u)(hM:kz u l=(o,l')):aA Tryz.prog 180 [.ptr 1000000 0] [(1000000,pB l e d)] (jE 119 Ex.d e o l') [(1000000,pB l' e d)]:=by
 refine ag tok hmix ⟨[],[]⟩ Tryz.func180 rfl (by kernel_rfl) (by kernel_rfl) (by kernel_rfl) λhf=>?_
 clear hf
 repeat' ((try(conv=>whnf))<;>first
  |((refine gX _ _ _ [true,true,true] ?_ ?_ ?_);exact rfl;kernel_rfl)
  |((refine gX _ _ _ [false,false,true,true] ?_ ?_ ?_);exact rfl;kernel_rfl)
  |((refine quiet_step ?_ ?_);kernel_rfl)
  |((refine mg ?_ ?_);exact rfl)
  |((refine mX ?_ ?_);exact rfl)
  |((refine zN (λs l=>gz s l e d) ?_);refine⟨_,_,_,rfl,rfl,rfl,λhT _=>?_,λhT=>?_⟩)
  |((refine FB (λl=>jl l e d) ?_);refine⟨_,_,rfl,rfl,rfl,?_⟩)
  |((refine jL (d:=d) [] (λl=>hu l) ?_);refine⟨_,_,rfl,rfl,rfl,λy l2 h_y=>?_,λl2 h_y=>?_⟩)
  |((refine jL (d:=d) [] (λl=>gV l e d) ?_);refine⟨_,_,rfl,rfl,rfl,λk l3 h_k=>?_,λl3 h_k=>?_⟩)
  |(refine bi (.mk 18 [] 0 k [x],l3,n-1) ?_ ?_ ?_)
  |(refine bi (ex2 17 x y,l2,n-1) ?_ ?_ ?_)
  |((refine aY ?_);(have hE:=X6 hM h_y);(obtain⟨rfl,rfl⟩:=hE);refine aP ?_;refine fin_step' [(1000000,1000000)] rfl ?_ ?_)
  |((refine aY ?_);(have hE:=X7 hI0 ‹isT lm l1=true› h_y);(obtain⟨rfl,rfl⟩:=hE);refine aP ?_;refine fin_step' [(1000000,1000000)] rfl ?_ ?_)
  |((refine aY ?_);(have hE:=X9 hI0 ‹isT lm l1=false› ‹isT jT l1=true› h);(obtain⟨rfl,rfl⟩:=hE);refine aP ?_;refine fin_step' [(1000000,1000000)] rfl ?_ ?_)
  |((refine aY ?_);(have hE:=Ya hI0 ‹isT lm l1=false› ‹isT jT l1=true› h h_k);(obtain⟨rfl,rfl⟩:=hE);refine aP ?_;refine fin_step' [(1000000,1000000)] rfl ?_ ?_)
  |((refine iV ?_);(have hE:=z0k hI0 ‹isT lm l1=false› ‹isT jT l1=false›);(obtain⟨rfl,rfl⟩:=hE);refine gq ?_;(conv=>whnf);refine fin_step' [(1000000,1000000)] rfl ?_ ?_)
  |exact trivial
  |refine BrI.intro (λh=>?_) (λh=>?_)
  |((refine qm ?_ ?_ ?_ ?_);exact⟨rfl,rfl⟩;exact rfl;(exact zf (by simpa[lQ]using hg)))
  |((refine aN.mk 0 ?_);refine⟨jf (λ(q:(Ex)×(List Tk)×(Nat))=>match q with |(x,l1,n)=>[]) (λ(q:(Ex)×(List Tk)×(Nat))=>match q with |(x,l1,n)=>[(3,.cells [.data (.i x.kind),.data (.str x.name),.data (.i x.index),.data (.i x.n),.data (.sl 5 (Ex.css x.l))]),(1000000,pB l1 e d)]) [0,2,3] (λ(q:(Ex)×(List Tk)×(Nat))=>match q with |(x,l1,n)=>LI (prodL u) (o,l') n x l1) (λ(q:(Ex)×(List Tk)×(Nat))=>match q with |(x,l1,n)=>n),?_⟩;refine dm ((y),(l2),(l2.length)) ?_ ?_ (λ⟨x,l1,n⟩ hI0=>?_))
  |((refine dH ?_ ?_);exact rfl)
  |((refine dG ?_ ?_ ?_);rotate_left;(exact iJ _ _ _))
  |(refine aB.l _ ?_)
  |((refine aJ ?_ ?_ (λhg=>?_) ?_);exact rfl)
  |((refine aX ?_ ?_);exact rfl;exact rfl)
  |((refine aF ?_ ?_);kernel_rfl)
  |((refine fJ ?_ ?_);kernel_rfl)
  |(refine And.intro ?_ ?_)
  |exact @rfl AV _
  |fail)
 all_goals first
  |((exact z0j hM h_y))
  |((exact X8 hs hI0 ‹isT lm l1=true› h_y))
  |((exact Yb hI0 ‹isT lm l1=false› ‹isT jT l1=true› h h_k))
  |((exact U2 hI0 ‹isT lm l1=true›))
  |((exact U2 hI0 ‹isT jT l1=true›))
  |((exact z5d x))
  |((exact z4v x y))
  |skip
theorem Vr(u:PM Ex)(e d:Int)(l:List Tk)(o:Option (Ex))(l':List Tk)(hu:(∀l o l',(kz u) l=(o,l')->aA Tryz.prog 180 [.ptr 1000000 0] [(1000000,pB l e d)] (jE 119 Ex.d e o l') [(1000000,pB l' e d)]))(hs:Sh u)(hM:sumM u l=(o,l')):aA Tryz.prog 174 [.ptr 1000000 0] [(1000000,pB l e d)] (jE 119 Ex.d e o l') [(1000000,pB l' e d)]:=by
 refine ag tok hmix ⟨[],[]⟩ Tryz.func174 rfl (by kernel_rfl) (by kernel_rfl) (by kernel_rfl) λhf=>?_
 clear hf
 repeat' ((try(conv=>whnf))<;>first
  |((refine gX _ _ _ [true,true,true] ?_ ?_ ?_);exact rfl;kernel_rfl)
  |((refine quiet_step ?_ ?_);kernel_rfl)
  |((refine mg ?_ ?_);exact rfl)
  |((refine mX ?_ ?_);exact rfl)
  |((refine zN (λs l=>gz s l e d) ?_);refine⟨_,_,_,rfl,rfl,rfl,λhT _=>?_,λhT=>?_⟩)
  |((refine jL (d:=d) [] (λl=>hu l) ?_);refine⟨_,_,rfl,rfl,rfl,λy l2 h_y=>?_,λl2 h_y=>?_⟩)
  |(refine bi (ex2 15 x y,l2,n-1) ?_ (z0n hs hI0 ‹isT mQ l1=true› h_y) ?_)
  |(refine bi (ex2 16 x y,l2,n-1) ?_ (z0p hs hI0 ‹isT mQ l1=false› ‹isT dZ l1=true› h_y) ?_)
  |((refine aY ?_);(have hE:=z0l hM h_y);(obtain⟨rfl,rfl⟩:=hE);refine aP ?_;refine fin_step' [(1000000,1000000)] rfl ?_ ?_)
  |((refine aY ?_);(have hE:=z0m hI0 ‹isT mQ l1=true› h_y);(obtain⟨rfl,rfl⟩:=hE);refine aP ?_;refine fin_step' [(1000000,1000000)] rfl ?_ ?_)
  |((refine aY ?_);(have hE:=z0o hI0 ‹isT mQ l1=false› ‹isT dZ l1=true› h_y);(obtain⟨rfl,rfl⟩:=hE);refine aP ?_;refine fin_step' [(1000000,1000000)] rfl ?_ ?_)
  |((refine iV ?_);(have hE:=z3g hI0 ‹isT mQ l1=false› ‹isT dZ l1=false›);(obtain⟨rfl,rfl⟩:=hE);refine gq ?_;(conv=>whnf);refine fin_step' [(1000000,1000000)] rfl ?_ ?_)
  |exact trivial
  |((refine aN.mk 0 ?_);refine⟨jf (λ(q:(Ex)×(List Tk)×(Nat))=>match q with |(x,l1,n)=>[]) (λ(q:(Ex)×(List Tk)×(Nat))=>match q with |(x,l1,n)=>[(3,.cells [.data (.i x.kind),.data (.str x.name),.data (.i x.index),.data (.i x.n),.data (.sl 5 (Ex.css x.l))]),(1000000,pB l1 e d)]) [0,2,3] (λ(q:(Ex)×(List Tk)×(Nat))=>match q with |(x,l1,n)=>LI (sumL u) (o,l') n x l1) (λ(q:(Ex)×(List Tk)×(Nat))=>match q with |(x,l1,n)=>n),?_⟩;refine dm ((y),(l2),(l2.length)) ?_ ?_ (λ⟨x,l1,n⟩ hI0=>?_))
  |(refine aB.l _ ?_)
  |((refine aF ?_ ?_);kernel_rfl)
  |((refine fJ ?_ ?_);kernel_rfl)
  |(refine And.intro ?_ ?_)
  |exact @rfl AV _
  |fail)
 all_goals first
  |((exact z3f hM h_y))
  |((exact U2 hI0 ‹isT mQ l1=true›))
  |((exact U2 hI0 ‹isT dZ l1=true›))
  |((exact z4v x y))
  |skip
theorem NG(u:PM Ex)(e d:Int)(n:Nat)(l:List Tk)(o:Option (Ex))(l':List Tk)(hS:(∀l o l',(sumM u) l=(o,l')->aA Tryz.prog 174 [.ptr 1000000 0] [(1000000,pB l e d)] (jE 119 Ex.d e o l') [(1000000,pB l' e d)]))(hs:Sh u)(hn:l.length<n)(hM:exprF u n l=(o,l')):aA Tryz.prog 161 [.ptr 1000000 0] [(1000000,pB l e d)] (jE 119 Ex.d e o l') [(1000000,pB l' e d)]:=by
 induction n generalizing l o l' with
 |zero=>exact absurd hn (Nat.not_lt_zero _)
 |succ n ih=>?_
 refine ag tok hmix ⟨[],[]⟩ Tryz.func161 rfl (by kernel_rfl) (by kernel_rfl) (by kernel_rfl) λhf=>?_
 clear hf
 repeat' ((try(conv=>whnf))<;>first
  |((refine mg ?_ ?_);exact rfl)
  |((refine mX ?_ ?_);exact rfl)
  |((refine zN (λs l=>gz s l e d) ?_);refine⟨_,_,_,rfl,rfl,rfl,λhT _=>?_,λhT=>?_⟩)
  |((refine zO (λs l=>gB s l e d) ?_);refine⟨_,_,_,_,rfl,rfl,rfl,rfl,rfl,λhW _=>?_,λhW=>?_⟩)
  |((refine z0r (d:=d) (λ_=>True) (WC hs) (λl o l' _=>hS l o l') ?_);refine⟨_,_,rfl,rfl,rfl,trivial,λa l1 h_a _=>?_,λl1 h_a=>?_⟩)
  |((refine z0r (d:=d) (λl=>l.length<n) (U0 hs n) (λl o l' hl=>ih l o l' hl) ?_);refine⟨_,_,rfl,rfl,rfl,by(simp only[List.length_drop]at *;omega),λc l3 h_c _=>?_,λl3 h_c=>?_⟩)
  |((refine app_step' ?_ ?_ ?_ ?_ ?_ ?_ ?_);exact rfl;exact rfl;exact rfl;exact rfl)
  |((refine iV ?_);(try simp only[Bool.not_true,Bool.not_false,cond_true,cond_false,bne,Bool.not_eq_true',Bool.not_eq_false']at *);(simp only[exprF,bnd,aC,reduceIte,Bool.false_eq_true, *]at hM);(obtain⟨rfl,rfl⟩:=eH hM);refine gq ?_;(conv=>whnf);refine fin_step' [(1000000,1000000)] rfl ?_ ?_)
  |((refine aY ?_);(try simp only[Bool.not_true,Bool.not_false,cond_true,cond_false,bne,Bool.not_eq_true',Bool.not_eq_false']at *);(simp only[exprF,bnd,aC,reduceIte,Bool.false_eq_true, *]at hM);(obtain⟨rfl,rfl⟩:=eH hM);refine aP ?_;refine fin_step' [(1000000,1000000)] rfl ?_ ?_)
  |exact trivial
  |(refine aB.l _ ?_)
  |(refine And.intro ?_ ?_)
  |exact eU rfl
  |fail)
 all_goals first
  |((exact U6))
  |skip
theorem NH(u:PM Ex)(e d:Int)(k:Int)(m:Nat)(l:List Tk)(o:Option (Ex))(l':List Tk)(hE:(∀l o l',(rf u) l=(o,l')->aA Tryz.prog 161 [.ptr 1000000 0] [(1000000,pB l e d)] (jE 119 Ex.d e o l') [(1000000,pB l' e d)]))(hs:Sh u)(hm:m<=2)(hM:mW u k m false l=(o,l')):aA Tryz.prog 183 [.ptr 1000000 0,.data (.i k),.data (.i (m:Int)),.data (.b false)] [(1000000,pB l e d)] (jE 119 Ex.d e o l') [(1000000,pB l' e d)]:=by
 refine ag tok hmix ⟨[],[]⟩ Tryz.func183 rfl (by kernel_rfl) (by kernel_rfl) (by kernel_rfl) λhf=>?_
 clear hf
 repeat' ((try(conv=>whnf))<;>first
  |((refine gX _ _ _ [true,true,true,true] ?_ ?_ ?_);exact rfl;kernel_rfl)
  |((refine quiet_step ?_ ?_);kernel_rfl)
  |((refine mX ?_ ?_);exact rfl)
  |((refine zO (λs l=>gB s l e d) ?_);refine⟨_,_,_,_,rfl,rfl,rfl,rfl,rfl,λhW _=>?_,λhW=>?_⟩)
  |((refine jL (d:=d) [] (λl=>hE l) ?_);refine⟨_,_,rfl,rfl,rfl,λx l2 h_x=>?_,λl2 h_x=>?_⟩)
  |(refine bi (i+1,xs++[x],l2,j-1) ?_ (WE hI0 ‹decide ((i:Int)<(m:Int))=true› ‹decide ((i:Int)>0)=true› ‹isT aS l1=true› h_x) (J9 hI0 ‹decide ((i:Int)<(m:Int))=true›))
  |(refine bi (i+1,xs++[x],l2,j-1) ?_ (WF hI0 ‹decide ((i:Int)<(m:Int))=true› ‹decide ((i:Int)>0)=false› h_x) (J9 hI0 ‹decide ((i:Int)<(m:Int))=true›))
  |((refine aY ?_);(have hE:=Q3 hM ‹isT mO l=false›);(obtain⟨rfl,rfl⟩:=hE);refine aP ?_;refine fin_step' [(1000000,1000000)] rfl ?_ ?_)
  |((refine aY ?_);(have hE:=WG hI0 ‹decide ((i:Int)<(m:Int))=true› ‹decide ((i:Int)>0)=true› ‹isT aS l1=false›);(obtain⟨rfl,rfl⟩:=hE);refine aP ?_;refine fin_step' [(1000000,1000000)] rfl ?_ ?_)
  |((refine aY ?_);(have hE:=WH hI0 ‹decide ((i:Int)<(m:Int))=true› ‹decide ((i:Int)>0)=true› ‹isT aS l1=true› h_x);(obtain⟨rfl,rfl⟩:=hE);refine aP ?_;refine fin_step' [(1000000,1000000)] rfl ?_ ?_)
  |((refine aY ?_);(have hE:=WI hI0 ‹decide ((i:Int)<(m:Int))=true› ‹decide ((i:Int)>0)=false› h_x);(obtain⟨rfl,rfl⟩:=hE);refine aP ?_;refine fin_step' [(1000000,1000000)] rfl ?_ ?_)
  |((refine aY ?_);(have hE:=WL hI0 ‹decide ((i:Int)<(m:Int))=false› ‹isT tN l1=false›);(obtain⟨rfl,rfl⟩:=hE);refine aP ?_;refine fin_step' [(1000000,1000000)] rfl ?_ ?_)
  |((refine iV ?_);(have hE:=WJ hI0 ‹decide ((i:Int)<(m:Int))=false› ‹isT tN l1=true›);(obtain⟨rfl,rfl⟩:=hE);refine gq ?_;(conv=>whnf);refine fin_step' [(1000000,1000000)] rfl ?_ ?_)
  |exact trivial
  |refine BrI.intro (λh=>?_) (λh=>?_)
  |((refine aN.mk 0 ?_);refine⟨jf (λ(q:(Nat)×(List Ex)×(List Tk)×(Nat))=>match q with |(i,xs,l1,j)=>[(23,.data (.val (.int .i64 (i:Nat))))]) (λ(q:(Nat)×(List Ex)×(List Tk)×(Nat))=>match q with |(i,xs,l1,j)=>[(8,.cells [.data (.i k),.data (.str []),.data (.i 0),.data (.i 0),.gs 900008 5 (xs.map Ex.cs)]),(900008,.tok 5 (xs.map Ex.cs).length),(1000000,pB l1 e d)]) [0,8,22] (λ(q:(Nat)×(List Ex)×(List Tk)×(Nat))=>match q with |(i,xs,l1,j)=>AI u k [] (o,l') m i j xs l1) (λ(q:(Nat)×(List Ex)×(List Tk)×(Nat))=>match q with |(i,xs,l1,j)=>j),?_⟩;refine dm ((0),([]),(l.drop 1),(m)) ?_ ?_ (λ⟨i,xs,l1,j⟩ hI0=>?_))
  |(refine aB.l _ ?_)
  |((refine di ?_ ?_ ?_ ?_ ?_ ?_)<;>exact rfl)
  |((refine dF ?_ ?_ ?_ ?_)<;>exact rfl)
  |((refine app_step' ?_ ?_ ?_ ?_ ?_ ?_ ?_);exact rfl;exact rfl;exact rfl;exact rfl)
  |((refine aF ?_ ?_);kernel_rfl)
  |((refine fJ ?_ ?_);kernel_rfl)
  |(refine And.intro ?_ ?_)
  |((refine sZ ?_ ?_ ?_);exact rfl;exact rfl;(first |exact cu |skip))
  |((refine fK ?_ ?_);exact rfl;(first |exact cu |skip))
  |exact @rfl AV _
  |exact eU rfl
  |fail)
 all_goals first
  |((exact Yc hM ‹isT mO l=true›))
  |((exact Dc (WN ‹decide ((i:Int)<(m:Int))=true› hm)))
  |((exact Q4 hI0 hm))
  |((exact Q5))
  |skip
theorem Rz(u:PM Ex)(e d:Int)(k:Int)(m:Nat)(l:List Tk)(o:Option (Ex))(l':List Tk)(hE:(∀l o l',(rf u) l=(o,l')->aA Tryz.prog 161 [.ptr 1000000 0] [(1000000,pB l e d)] (jE 119 Ex.d e o l') [(1000000,pB l' e d)]))(hs:Sh u)(hm:m<=2)(hM:mW u k m true l=(o,l')):aA Tryz.prog 183 [.ptr 1000000 0,.data (.i k),.data (.i (m:Int)),.data (.b true)] [(1000000,pB l e d)] (jE 119 Ex.d e o l') [(1000000,pB l' e d)]:=by
 refine ag tok hmix ⟨[],[]⟩ Tryz.func183 rfl (by kernel_rfl) (by kernel_rfl) (by kernel_rfl) λhf=>?_
 clear hf
 repeat' ((try(conv=>whnf))<;>first
  |((refine gX _ _ _ [true,true,true,true] ?_ ?_ ?_);exact rfl;kernel_rfl)
  |((refine quiet_step ?_ ?_);kernel_rfl)
  |((refine mg ?_ ?_);exact rfl)
  |((refine zO (λs l=>gB s l e d) ?_);refine⟨_,_,_,_,rfl,rfl,rfl,rfl,rfl,λhW _=>?_,λhW=>?_⟩)
  |((refine jL (d:=d) [] (λl=>gG l e d) ?_);refine⟨_,_,rfl,rfl,rfl,λs1 l1 h_s=>?_,λl1 h_s=>?_⟩)
  |((refine jL (d:=d) [] (λl=>hE l) ?_);refine⟨_,_,rfl,rfl,rfl,λx l2 h_x=>?_,λl2 h_x=>?_⟩)
  |(refine bi (i+1,xs++[x],l2,j-1) ?_ (WE hI0 ‹decide ((i:Int)<(m:Int))=true› ‹decide ((i:Int)>0)=true› ‹isT aS l1=true› h_x) (J9 hI0 ‹decide ((i:Int)<(m:Int))=true›))
  |(refine bi (i+1,xs++[x],l2,j-1) ?_ (WF hI0 ‹decide ((i:Int)<(m:Int))=true› ‹decide ((i:Int)>0)=false› h_x) (J9 hI0 ‹decide ((i:Int)<(m:Int))=true›))
  |((refine aY ?_);(have hE:=Q3 hM ‹isT mO l=false›);(obtain⟨rfl,rfl⟩:=hE);refine aP ?_;refine fin_step' [(1000000,1000000)] rfl ?_ ?_)
  |((refine aY ?_);(have hE:=Ye hM ‹isT mO l=true› h_s);(obtain⟨rfl,rfl⟩:=hE);refine aP ?_;refine fin_step' [(1000000,1000000)] rfl ?_ ?_)
  |((refine aY ?_);(have hE:=Yf hM ‹isT mO l=true› h_s ‹isT aS l1=false›);(obtain⟨rfl,rfl⟩:=hE);refine aP ?_;refine fin_step' [(1000000,1000000)] rfl ?_ ?_)
  |((refine aY ?_);(have hE:=WG hI0 ‹decide ((i:Int)<(m:Int))=true› ‹decide ((i:Int)>0)=true› ‹isT aS l1=false›);(obtain⟨rfl,rfl⟩:=hE);refine aP ?_;refine fin_step' [(1000000,1000000)] rfl ?_ ?_)
  |((refine aY ?_);(have hE:=WH hI0 ‹decide ((i:Int)<(m:Int))=true› ‹decide ((i:Int)>0)=true› ‹isT aS l1=true› h_x);(obtain⟨rfl,rfl⟩:=hE);refine aP ?_;refine fin_step' [(1000000,1000000)] rfl ?_ ?_)
  |((refine aY ?_);(have hE:=WI hI0 ‹decide ((i:Int)<(m:Int))=true› ‹decide ((i:Int)>0)=false› h_x);(obtain⟨rfl,rfl⟩:=hE);refine aP ?_;refine fin_step' [(1000000,1000000)] rfl ?_ ?_)
  |((refine aY ?_);(have hE:=WL hI0 ‹decide ((i:Int)<(m:Int))=false› ‹isT tN l1=false›);(obtain⟨rfl,rfl⟩:=hE);refine aP ?_;refine fin_step' [(1000000,1000000)] rfl ?_ ?_)
  |((refine iV ?_);(have hE:=WJ hI0 ‹decide ((i:Int)<(m:Int))=false› ‹isT tN l1=true›);(obtain⟨rfl,rfl⟩:=hE);refine gq ?_;(conv=>whnf);refine fin_step' [(1000000,1000000)] rfl ?_ ?_)
  |exact trivial
  |refine BrI.intro (λh=>?_) (λh=>?_)
  |((refine aN.mk 0 ?_);refine⟨jf (λ(q:(Nat)×(List Ex)×(List Tk)×(Nat))=>match q with |(i,xs,l1,j)=>[(23,.data (.val (.int .i64 (i:Nat))))]) (λ(q:(Nat)×(List Ex)×(List Tk)×(Nat))=>match q with |(i,xs,l1,j)=>[(8,.cells [.data (.i k),.data (.str s1),.data (.i 0),.data (.i 0),.gs 900008 5 (xs.map Ex.cs)]),(900008,.tok 5 (xs.map Ex.cs).length),(1000000,pB l1 e d)]) [0,8,22] (λ(q:(Nat)×(List Ex)×(List Tk)×(Nat))=>match q with |(i,xs,l1,j)=>AI u k s1 (o,l') m i j xs l1) (λ(q:(Nat)×(List Ex)×(List Tk)×(Nat))=>match q with |(i,xs,l1,j)=>j),?_⟩;refine dm ((0),([]),(l1.drop 1),(m)) ?_ ?_ (λ⟨i,xs,l1,j⟩ hI0=>?_))
  |(refine aB.l _ ?_)
  |((refine di ?_ ?_ ?_ ?_ ?_ ?_)<;>exact rfl)
  |((refine dF ?_ ?_ ?_ ?_)<;>exact rfl)
  |((refine app_step' ?_ ?_ ?_ ?_ ?_ ?_ ?_);exact rfl;exact rfl;exact rfl;exact rfl)
  |((refine aF ?_ ?_);kernel_rfl)
  |((refine fJ ?_ ?_);kernel_rfl)
  |(refine And.intro ?_ ?_)
  |((refine sZ ?_ ?_ ?_);exact rfl;exact rfl;(first |exact cu |skip))
  |((refine fK ?_ ?_);exact rfl;(first |exact cu |skip))
  |exact @rfl AV _
  |exact eU rfl
  |fail)
 all_goals first
  |((exact Yd hM ‹isT mO l=true› h_s ‹isT aS l1=true›))
  |((exact Dc (WN ‹decide ((i:Int)<(m:Int))=true› hm)))
  |((exact Q4 hI0 hm))
  |((exact Q5))
  |skip
end Go.Proofs.YtmfehangcmbidaaGreatDoor
