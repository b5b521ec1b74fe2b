/- Contracts: package syntax: the parser's tokens. -/
import Derived.Test.YtmfehangcmbidaaGreatDoorZDS
set_option linter.unusedSectionVars false
set_option linter.unusedSimpArgs false
set_option linter.unusedVariables false
set_option maxHeartbeats 400000
namespace Go.Proofs.YtmfehangcmbidaaGreatDoor
open Go.Fw Go.Fw.Lx Go.Fw.Sy
set_option maxRecDepth 10000
variable [ae]
theorem Y4(s:Sy.Str)(l:List Tk)(e d:Int)  : aB Tryz.prog 158 [.ptr [.sl 4 (l.map Tk.cs),.i e,.i d],.str s] (.ret (.b (isT s l))):=by
 refine ag tok hmix ⟨[],[]⟩ Tryz.func158 rfl (by kernel_rfl) (by kernel_rfl) (by kernel_rfl) λhf=>?_
 clear hf
 repeat' ((try(conv=>whnf))<;>first
  |((refine qG ?_ ?_ ?_ ?_);exact⟨rfl,rfl⟩;exact rfl;(simp[lX]at hg;omega))
  |((refine aQ ?_ ?_ (λhg=>?_) ?_);exact rfl)
  |((refine bK ?_ ?_);exact rfl;exact rfl)
  |((refine ai ?_);refine⟨[],rfl,?_,trivial⟩;conv=>whnf)
  |fail)
 all_goals first
  |((simp only[isT,Hu];cases l.isEmpty<;>cases (hd l).kind != 2<;>rfl))
  |skip
theorem iO(l:List Tk)(e d:Int)  : aB Tryz.prog 111 [.ptr [.sl 4 (l.map Tk.cs),.i e,.i d]] (.ret (.b (isNum l))):=by
 refine ag tok hmix ⟨[],[]⟩ Tryz.func111 rfl (by kernel_rfl) (by kernel_rfl) (by kernel_rfl) λhf=>?_
 clear hf
 repeat' ((try(conv=>whnf))<;>first
  |((refine qG ?_ ?_ ?_ ?_);exact⟨rfl,rfl⟩;exact rfl;(simp[lX]at hg;omega))
  |((refine aQ ?_ ?_ (λhg=>?_) ?_);exact rfl)
  |((refine bK ?_ ?_);exact rfl;exact rfl)
  |((refine ai ?_);refine⟨[],rfl,?_,trivial⟩;conv=>whnf)
  |fail)
 all_goals first
  |((simp only[isNum,Hu];cases l.isEmpty<;>cases (hd l).kind==2<;>rfl))
  |skip
theorem MP   : aB Tryz.prog 160 [] (.ret (strs words)):=by
 refine ag tok hmix ⟨[],[]⟩ Tryz.func160 rfl (by kernel_rfl) (by kernel_rfl) (by kernel_rfl) λhf=>?_
 clear hf
 repeat' ((try(conv=>whnf))<;>first
  |(refine aF.l _ ?_)
  |((refine ai ?_);refine⟨[],rfl,?_,trivial⟩;conv=>whnf)
  |fail)
 all_goals first
  |(rfl)
  |skip
theorem H7(l:List Sy.Str)(v:Sy.Str)  : aB Tryz.prog 173 [strs l,.str v] (.ret (.i (Qv v l 0))):=by
 refine ag tok hmix ⟨[],[]⟩ Tryz.func173 rfl (by kernel_rfl) (by kernel_rfl) (by kernel_rfl) λhf=>?_
 have hlen:l.length<=9223372036854775807:=by simpa using(hf (.sl 1 (l.map ve)) (by simp)).sl.1
 clear hf
 repeat' ((try(conv=>whnf))<;>first
  |exact trivial
  |exact aT hd0 ‹_›
  |refine jm hd0 ?_
  |refine fH hd0 ?_
  |refine BrI.intro (λh=>?_) (λh=>?_)
  |((refine aN.mk 0 ?_);refine⟨bQ (l) 8 (λ(_:Unit)=>[]) (λ(_:Unit)=>[]) [0,1,7] (λi0 r0 _=>Qv v l 0=Qv v r0 i0),?_⟩;refine ay () ?_ ?_ (λi0 (_:Unit) hd0 hI0=>?_) (λi0 x0 r0 (_:Unit) hd0 hl0 hI0=>?_))
  |(refine au hd0 () ?_ ?_)
  |((refine bf ?_ ?_ ?_ ?_ ?_);exact rfl;exact rfl;rotate_left;(exact dF hd0))
  |((refine ai ?_);refine⟨[],rfl,?_,trivial⟩;conv=>whnf)
  |(refine And.intro ?_ ?_)
  |exact @rfl AV _
  |fail)
 all_goals first
  |(rw[hI0];(try simp only[Qv,Bool.not_true,Bool.not_false,Bool.and_true,Bool.true_and,Bool.and_false,Bool.false_and,Bool.or_true,Bool.true_or,Bool.or_false,Bool.false_or,if_true,if_false,reduceIte,Bool.false_eq_true,Bool.not_not,Bool.not_eq_true',beq_self_eq_true,List.all_cons,List.all_nil,List.any_cons,List.any_nil,List.length_map,bne,eq_self,Int.toNat_zero, *]);first |done |rfl)
  |(simp_all[Qv])
  |skip
theorem QS(l:List Sy.Str)(v:Sy.Str)  : aB Tryz.prog 159 [strs l,.str v] (.ret (.b (decide (Qv v l 0>=0)))):=by
 refine ag tok hmix ⟨[],[]⟩ Tryz.func159 rfl (by kernel_rfl) (by kernel_rfl) (by kernel_rfl) λhf=>?_
 clear hf
 repeat' ((try(conv=>whnf))<;>first
  |((refine ak ?_ ?_ ?_);rotate_left;(exact H7 _ _))
  |((refine ai ?_);refine⟨[],rfl,?_,trivial⟩;conv=>whnf)
  |fail)
 all_goals first
  |skip
theorem rM(l:List Tk)(e d:Int)  : aB Tryz.prog 135 [.ptr [.sl 4 (l.map Tk.cs),.i e,.i d]] (.ret (.b (isNm l))):=by
 refine ag tok hmix ⟨[],[]⟩ Tryz.func135 rfl (by kernel_rfl) (by kernel_rfl) (by kernel_rfl) λhf=>?_
 clear hf
 repeat' ((try(conv=>whnf))<;>first
  |((refine qG ?_ ?_ ?_ ?_);exact⟨rfl,rfl⟩;exact rfl;(simp[lX]at hg;omega))
  |((refine ak ?_ ?_ ?_);rotate_left;(first |exact MP |exact QS _ _))
  |((refine ku ?_ ?_ (λhg=>?_) ?_);exact rfl)
  |((refine bK ?_ ?_);exact rfl;exact rfl)
  |((refine aH ?_ ?_);kernel_rfl)
  |((refine ai ?_);refine⟨[],rfl,?_,trivial⟩;conv=>whnf)
  |fail)
 all_goals first
  |((simp only[isNm,Hu,UK];cases l.isEmpty<;>cases (hd l).kind==1<;>rfl))
  |skip
theorem gG(s:Sy.Str)(l:List Tk)(e d:Int)  : aA Tryz.prog 133 [.ptr 1000000 0,.data (.str s)] [(1000000,pB l e d)] (.ret (.data (.b (isT s l)))) [(1000000,pB (bif isT s l then l.drop 1 else l) e d)]:=by
 refine ah tok hmix ⟨[],[]⟩ Tryz.func133 rfl (by kernel_rfl) (by kernel_rfl) (by kernel_rfl) λhf=>?_
 clear hf
 repeat' ((try(conv=>whnf))<;>first
  |exact trivial
  |refine BrI.intro (λh=>?_) (λh=>?_)
  |((refine oQ ?_ ?_ ?_);exact⟨rfl,rfl⟩;exact z4t (mM h))
  |((refine dQ ?_ ?_);exact rfl)
  |((refine dP ?_ ?_ ?_);rotate_left;(exact Y4 _ _ _ _))
  |((refine ai ?_);refine fin_step' [(1000000,1000000)] rfl ?_ ?_)
  |(refine And.intro ?_ ?_)
  |fail)
 all_goals first
  |((rw[h];exact congrArg (D.sl 4) UJ))
  |((rw[h];rfl))
  |skip
theorem jw(l:List Tk)(e d:Int)  : aA Tryz.prog 134 [.ptr 1000000 0] [(1000000,pB l e d)] (.pan (.data (kC 119 e l))) [(1000000,pB l e d)]:=by
 refine ah tok hmix ⟨[],[]⟩ Tryz.func134 rfl (by kernel_rfl) (by kernel_rfl) (by kernel_rfl) λhf=>?_
 clear hf
 repeat' ((try(conv=>whnf))<;>first
  |exact trivial
  |refine BrI.intro (λh=>?_) (λh=>?_)
  |((refine qG ?_ ?_ ?_ ?_);exact⟨rfl,rfl⟩;exact rfl;(simp at h;omega))
  |((refine iL ?_);refine fin_step' [(1000000,1000000)] rfl ?_ ?_)
  |(refine And.intro ?_ ?_)
  |fail)
 all_goals first
  |((exact UL h))
  |((exact Qx h))
  |skip
theorem MQ(ws:List Sy.Str)(l:List Tk)(e d:Int)(o:Option Unit)(l':List Tk)(hlen:ws.length<=9223372036854775807)(hM:CW ws l=(o,l')):aA Tryz.prog 108 [.ptr 1000000 0,.gs 1000001 1 (ws.map ve)] [(1000000,pB l e d),(1000001,.tok 1 (ws.map ve).length)] (jL 119 (λ_:Unit=>.tuple []) e o l') [(1000000,pB l' e d),(1000001,.tok 1 (ws.map ve).length)]:=by
 refine ah tok hmix ⟨[],[]⟩ Tryz.func108 rfl (by kernel_rfl) (by kernel_rfl) (by kernel_rfl) λhf=>?_
 clear hf
 repeat' ((try(conv=>whnf))<;>first
  |((refine mO ?_ ?_);exact rfl)
  |((refine nC ?_ ?_);exact rfl)
  |((refine zS (λs l=>gG s l e d) ?_);refine⟨_,_,_,rfl,rfl,rfl,λhT _=>?_,λhT=>?_⟩)
  |((refine EY (λl=>jw l e d) ?_);refine⟨_,_,rfl,rfl,rfl,?_⟩)
  |((refine jb ?_);(try simp only[Bool.not_true,Bool.not_false,cond_true,cond_false,bne,Bool.not_eq_true',Bool.not_eq_false']at *);(rw[hI0]at hM);(simp only[CW,reduceIte,Bool.false_eq_true, *]at hM);(obtain⟨rfl,rfl⟩:=eF hM);refine gp ?_;(conv=>whnf);refine fin_step' [(1000000,1000000),(1000001,1000001)] rfl ?_ ?_)
  |((refine aZ ?_);(try simp only[Bool.not_true,Bool.not_false,cond_true,cond_false,bne,Bool.not_eq_true',Bool.not_eq_false']at *);(rw[hI0]at hM);(simp only[CW,reduceIte,Bool.false_eq_true, *]at hM);(obtain⟨rfl,rfl⟩:=eF hM);refine aO ?_;refine fin_step' [(1000000,1000000),(1000001,1000001)] rfl ?_ ?_)
  |exact trivial
  |exact aT hd0 ‹_›
  |refine jm hd0 ?_
  |refine fH hd0 ?_
  |((refine aN.mk 0 ?_);refine⟨bQ (ws) 8 (λ(l1:(List Tk))=>[]) (λ(l1:(List Tk))=>[(1000000,pB l1 e d)]) [0,6,7] (λi0 r0 l1=>CW ws l=CW r0 l1),?_⟩;refine ay (l) ?_ ?_ (λi0 (l1:(List Tk)) hd0 hI0=>?_) (λi0 x0 r0 (l1:(List Tk)) hd0 hl0 hI0=>?_))
  |(refine au hd0 (l1.drop 1) ?_ ?_)
  |((refine bf ?_ ?_ ?_ ?_ ?_);exact rfl;exact rfl;rotate_left;(exact dF hd0))
  |(refine And.intro ?_ ?_)
  |exact @rfl AV _
  |fail)
 all_goals first
  |((rw[hI0];simp only[CW,hT,if_true]))
  |skip
theorem gI(s:Sy.Str)(l:List Tk)(e d:Int)(o:Option Unit)(l':List Tk)(hM:aC s l=(o,l')):aA Tryz.prog 108 [.ptr 1000000 0,.gs 1000001 1 [[.str s]]] [(1000000,pB l e d),(1000001,.tok 1 1)] (jL 119 (λ_:Unit=>.tuple []) e o l') [(1000000,pB l' e d),(1000001,.tok 1 1)]:=
 MQ [s] l e d o l' (by simp) (by rw[Qu];exact hM)
theorem jy(l:List Tk)(e d:Int)(o:Option (Sy.Str))(l':List Tk)(hM:nameM l=(o,l')):aA Tryz.prog 109 [.ptr 1000000 0] [(1000000,pB l e d)] (jL 119 (λs=>.str s) e o l') [(1000000,pB l' e d)]:=by
 refine ah tok hmix ⟨[],[]⟩ Tryz.func109 rfl (by kernel_rfl) (by kernel_rfl) (by kernel_rfl) λhf=>?_
 clear hf
 repeat' ((try(conv=>whnf))<;>first
  |((refine EY (λl=>jw l e d) ?_);refine⟨_,_,rfl,rfl,rfl,?_⟩)
  |((refine jb ?_);(try simp only[Bool.not_true,Bool.not_false,cond_true,cond_false,bne,Bool.not_eq_true',Bool.not_eq_false']at *);(simp only[nameM,reduceIte,Bool.false_eq_true, *]at hM);(obtain⟨rfl,rfl⟩:=eF hM);refine gp ?_;(conv=>whnf);refine fin_step' [(1000000,1000000)] rfl ?_ ?_)
  |((refine aZ ?_);(try simp only[Bool.not_true,Bool.not_false,cond_true,cond_false,bne,Bool.not_eq_true',Bool.not_eq_false']at *);(simp only[nameM,reduceIte,Bool.false_eq_true, *]at hM);(obtain⟨rfl,rfl⟩:=eF hM);refine aO ?_;refine fin_step' [(1000000,1000000)] rfl ?_ ?_)
  |exact trivial
  |refine BrI.intro (λh=>?_) (λh=>?_)
  |((refine qG ?_ ?_ ?_ ?_);exact⟨rfl,rfl⟩;exact rfl;(exact JG (by simpa using h)))
  |((refine oQ ?_ ?_ ?_);exact⟨rfl,rfl⟩;exact z4t (JG (by simpa using h)))
  |((refine dQ ?_ ?_);exact rfl)
  |((refine dP ?_ ?_ ?_);rotate_left;(exact rM _ _ _))
  |(refine And.intro ?_ ?_)
  |fail)
 all_goals first
  |((exact congrArg (D.sl 4) UJ))
  |skip
theorem gY(l:List Tk)(e d:Int)(o:Option (Int))(l':List Tk)(hM:numM l=(o,l')):aA Tryz.prog 110 [.ptr 1000000 0] [(1000000,pB l e d)] (jL 119 (λn=>.i n) e o l') [(1000000,pB l' e d)]:=by
 refine ah tok hmix ⟨[],[]⟩ Tryz.func110 rfl (by kernel_rfl) (by kernel_rfl) (by kernel_rfl) λhf=>?_
 clear hf
 repeat' ((try(conv=>whnf))<;>first
  |((refine EY (λl=>jw l e d) ?_);refine⟨_,_,rfl,rfl,rfl,?_⟩)
  |((refine jb ?_);(try simp only[Bool.not_true,Bool.not_false,cond_true,cond_false,bne,Bool.not_eq_true',Bool.not_eq_false']at *);(simp only[numM,reduceIte,Bool.false_eq_true, *]at hM);(obtain⟨rfl,rfl⟩:=eF hM);refine gp ?_;(conv=>whnf);refine fin_step' [(1000000,1000000)] rfl ?_ ?_)
  |((refine aZ ?_);(try simp only[Bool.not_true,Bool.not_false,cond_true,cond_false,bne,Bool.not_eq_true',Bool.not_eq_false']at *);(simp only[numM,reduceIte,Bool.false_eq_true, *]at hM);(obtain⟨rfl,rfl⟩:=eF hM);refine aO ?_;refine fin_step' [(1000000,1000000)] rfl ?_ ?_)
  |exact trivial
  |refine BrI.intro (λh=>?_) (λh=>?_)
  |((refine qG ?_ ?_ ?_ ?_);exact⟨rfl,rfl⟩;exact rfl;(exact zf (by simpa using h)))
  |((refine oQ ?_ ?_ ?_);exact⟨rfl,rfl⟩;exact z4t (zf (by simpa using h)))
  |((refine dQ ?_ ?_);exact rfl)
  |((refine dP ?_ ?_ ?_);rotate_left;(exact iO _ _ _))
  |(refine And.intro ?_ ?_)
  |fail)
 all_goals first
  |((exact congrArg (D.sl 4) UJ))
  |skip
theorem wJ(l:List Tk)(e d:Int)(o:Option (Int))(l':List Tk)(hM:zN l=(o,l')):aA Tryz.prog 139 [.ptr 1000000 0] [(1000000,pB l e d)] (jL 119 (λn=>.i n) e o l') [(1000000,pB l' e d)]:=by
 refine ah tok hmix ⟨[],[]⟩ Tryz.func139 rfl (by kernel_rfl) (by kernel_rfl) (by kernel_rfl) λhf=>?_
 clear hf
 repeat' ((try(conv=>whnf))<;>first
  |((refine zS (λs l=>gG s l e d) ?_);refine⟨_,_,_,rfl,rfl,rfl,λhT _=>?_,λhT=>?_⟩)
  |((refine jT (d:=d) [] (λl=>gY l e d) ?_);refine⟨_,_,rfl,rfl,rfl,λn l1 h_n=>?_,λl1 h_n=>?_⟩)
  |((refine mO ?_ ?_);exact rfl)
  |((refine nC ?_ ?_);exact rfl)
  |((refine jb ?_);(try simp only[Bool.not_true,Bool.not_false,cond_true,cond_false,bne,Bool.not_eq_true',Bool.not_eq_false']at *);(simp only[zN,bnd,reduceIte,Bool.false_eq_true, *]at hM);(obtain⟨rfl,rfl⟩:=eF hM);refine gp ?_;(conv=>whnf);refine fin_step' [(1000000,1000000)] rfl ?_ ?_)
  |((refine aZ ?_);(try simp only[Bool.not_true,Bool.not_false,cond_true,cond_false,bne,Bool.not_eq_true',Bool.not_eq_false']at *);(simp only[zN,bnd,reduceIte,Bool.false_eq_true, *]at hM);(obtain⟨rfl,rfl⟩:=eF hM);refine aO ?_;refine fin_step' [(1000000,1000000)] rfl ?_ ?_)
  |exact trivial
  |(refine And.intro ?_ ?_)
  |fail)
 all_goals first
  |skip
theorem Fp(u:PM Ex)(e d:Int)(l:List Tk)(o:Option (Ex))(l':List Tk)(hu:(∀l o l',u l=(o,l')->aA Tryz.prog 181 [.ptr 1000000 0] [(1000000,pB l e d)] (jL 119 Ex.d e o l') [(1000000,pB l' e d)]))(hs:Sh u)(hM:gy u l=(o,l')):aA Tryz.prog 180 [.ptr 1000000 0] [(1000000,pB l e d)] (jL 119 Ex.d e o l') [(1000000,pB l' e d)]:=by
 refine ah tok hmix ⟨[],[]⟩ Tryz.func180 rfl (by kernel_rfl) (by kernel_rfl) (by kernel_rfl) λhf=>?_
 clear hf
 repeat' ((try(conv=>whnf))<;>first
  |((refine iq _ _ _ [true,true,true] ?_ ?_ ?_);exact rfl;kernel_rfl)
  |((refine iq _ _ _ [false,false,true,true] ?_ ?_ ?_);exact rfl;kernel_rfl)
  |((refine quiet_step ?_ ?_);kernel_rfl)
  |((refine mO ?_ ?_);exact rfl)
  |((refine nC ?_ ?_);exact rfl)
  |((refine zS (λs l=>gG s l e d) ?_);refine⟨_,_,_,rfl,rfl,rfl,λhT _=>?_,λhT=>?_⟩)
  |((refine EY (λl=>jw l e d) ?_);refine⟨_,_,rfl,rfl,rfl,?_⟩)
  |((refine jT (d:=d) [] (λl=>hu l) ?_);refine⟨_,_,rfl,rfl,rfl,λy l2 h_y=>?_,λl2 h_y=>?_⟩)
  |((refine jT (d:=d) [] (λl=>gY l e d) ?_);refine⟨_,_,rfl,rfl,rfl,λk l3 h_k=>?_,λl3 h_k=>?_⟩)
  |(refine aX (.mk 18 [] 0 k [x],l3,n-1) ?_ ?_ ?_)
  |(refine aX (ex2 17 x y,l2,n-1) ?_ ?_ ?_)
  |((refine aZ ?_);(have hE:=Yc hM h_y);(obtain⟨rfl,rfl⟩:=hE);refine aO ?_;refine fin_step' [(1000000,1000000)] rfl ?_ ?_)
  |((refine aZ ?_);(have hE:=Yd hI0 ‹isT kw l1=true› h_y);(obtain⟨rfl,rfl⟩:=hE);refine aO ?_;refine fin_step' [(1000000,1000000)] rfl ?_ ?_)
  |((refine aZ ?_);(have hE:=Yf hI0 ‹isT kw l1=false› ‹isT iW l1=true› h);(obtain⟨rfl,rfl⟩:=hE);refine aO ?_;refine fin_step' [(1000000,1000000)] rfl ?_ ?_)
  |((refine aZ ?_);(have hE:=Yg hI0 ‹isT kw l1=false› ‹isT iW l1=true› h h_k);(obtain⟨rfl,rfl⟩:=hE);refine aO ?_;refine fin_step' [(1000000,1000000)] rfl ?_ ?_)
  |((refine jb ?_);(have hE:=z1f hI0 ‹isT kw l1=false› ‹isT iW l1=false›);(obtain⟨rfl,rfl⟩:=hE);refine gp ?_;(conv=>whnf);refine fin_step' [(1000000,1000000)] rfl ?_ ?_)
  |exact trivial
  |refine BrI.intro (λh=>?_) (λh=>?_)
  |((refine qG ?_ ?_ ?_ ?_);exact⟨rfl,rfl⟩;exact rfl;(exact zf (by simpa[lX]using hg)))
  |((refine aN.mk 0 ?_);refine⟨ik (λ(q:(Ex)×(List Tk)×(Nat))=>match q with |(x,l1,n)=>[]) (λ(q:(Ex)×(List Tk)×(Nat))=>match q with |(x,l1,n)=>[(3,.cells [.data (.i x.kind),.data (.str x.name),.data (.i x.index),.data (.i x.n),.data (.sl 5 (Ex.css x.l))]),(1000000,pB l1 e d)]) [0,2,3] (λ(q:(Ex)×(List Tk)×(Nat))=>match q with |(x,l1,n)=>LI (prodL u) (o,l') n x l1) (λ(q:(Ex)×(List Tk)×(Nat))=>match q with |(x,l1,n)=>n),?_⟩;refine bG ((y),(l2),(l2.length)) ?_ ?_ (λ⟨x,l1,n⟩ hI0=>?_))
  |((refine dQ ?_ ?_);exact rfl)
  |((refine dP ?_ ?_ ?_);rotate_left;(exact iO _ _ _))
  |(refine aF.l _ ?_)
  |((refine aQ ?_ ?_ (λhg=>?_) ?_);exact rfl)
  |((refine bK ?_ ?_);exact rfl;exact rfl)
  |((refine aH ?_ ?_);kernel_rfl)
  |((refine gB ?_ ?_);kernel_rfl)
  |(refine And.intro ?_ ?_)
  |exact @rfl AV _
  |fail)
 all_goals first
  |((exact z1e hM h_y))
  |((exact Ye hs hI0 ‹isT kw l1=true› h_y))
  |((exact Yh hI0 ‹isT kw l1=false› ‹isT iW l1=true› h h_k))
  |((exact UI hI0 ‹isT kw l1=true›))
  |((exact UI hI0 ‹isT iW l1=true›))
  |((exact z7w x))
  |((exact z7n x y))
  |skip
theorem U6(u:PM Ex)(e d:Int)(l:List Tk)(o:Option (Ex))(l':List Tk)(hu:(∀l o l',(gy u) l=(o,l')->aA Tryz.prog 180 [.ptr 1000000 0] [(1000000,pB l e d)] (jL 119 Ex.d e o l') [(1000000,pB l' e d)]))(hs:Sh u)(hM:sumM u l=(o,l')):aA Tryz.prog 174 [.ptr 1000000 0] [(1000000,pB l e d)] (jL 119 Ex.d e o l') [(1000000,pB l' e d)]:=by
 refine ah tok hmix ⟨[],[]⟩ Tryz.func174 rfl (by kernel_rfl) (by kernel_rfl) (by kernel_rfl) λhf=>?_
 clear hf
 repeat' ((try(conv=>whnf))<;>first
  |((refine iq _ _ _ [true,true,true] ?_ ?_ ?_);exact rfl;kernel_rfl)
  |((refine quiet_step ?_ ?_);kernel_rfl)
  |((refine mO ?_ ?_);exact rfl)
  |((refine nC ?_ ?_);exact rfl)
  |((refine zS (λs l=>gG s l e d) ?_);refine⟨_,_,_,rfl,rfl,rfl,λhT _=>?_,λhT=>?_⟩)
  |((refine jT (d:=d) [] (λl=>hu l) ?_);refine⟨_,_,rfl,rfl,rfl,λy l2 h_y=>?_,λl2 h_y=>?_⟩)
  |(refine aX (ex2 15 x y,l2,n-1) ?_ (z1i hs hI0 ‹isT lG l1=true› h_y) ?_)
  |(refine aX (ex2 16 x y,l2,n-1) ?_ (z1k hs hI0 ‹isT lG l1=false› ‹isT dh l1=true› h_y) ?_)
  |((refine aZ ?_);(have hE:=z1g hM h_y);(obtain⟨rfl,rfl⟩:=hE);refine aO ?_;refine fin_step' [(1000000,1000000)] rfl ?_ ?_)
  |((refine aZ ?_);(have hE:=z1h hI0 ‹isT lG l1=true› h_y);(obtain⟨rfl,rfl⟩:=hE);refine aO ?_;refine fin_step' [(1000000,1000000)] rfl ?_ ?_)
  |((refine aZ ?_);(have hE:=z1j hI0 ‹isT lG l1=false› ‹isT dh l1=true› h_y);(obtain⟨rfl,rfl⟩:=hE);refine aO ?_;refine fin_step' [(1000000,1000000)] rfl ?_ ?_)
  |((refine jb ?_);(have hE:=z5j hI0 ‹isT lG l1=false› ‹isT dh l1=false›);(obtain⟨rfl,rfl⟩:=hE);refine gp ?_;(conv=>whnf);refine fin_step' [(1000000,1000000)] rfl ?_ ?_)
  |exact trivial
  |((refine aN.mk 0 ?_);refine⟨ik (λ(q:(Ex)×(List Tk)×(Nat))=>match q with |(x,l1,n)=>[]) (λ(q:(Ex)×(List Tk)×(Nat))=>match q with |(x,l1,n)=>[(3,.cells [.data (.i x.kind),.data (.str x.name),.data (.i x.index),.data (.i x.n),.data (.sl 5 (Ex.css x.l))]),(1000000,pB l1 e d)]) [0,2,3] (λ(q:(Ex)×(List Tk)×(Nat))=>match q with |(x,l1,n)=>LI (sumL u) (o,l') n x l1) (λ(q:(Ex)×(List Tk)×(Nat))=>match q with |(x,l1,n)=>n),?_⟩;refine bG ((y),(l2),(l2.length)) ?_ ?_ (λ⟨x,l1,n⟩ hI0=>?_))
  |(refine aF.l _ ?_)
  |((refine aH ?_ ?_);kernel_rfl)
  |((refine gB ?_ ?_);kernel_rfl)
  |(refine And.intro ?_ ?_)
  |exact @rfl AV _
  |fail)
 all_goals first
  |((exact z5i hM h_y))
  |((exact UI hI0 ‹isT lG l1=true›))
  |((exact UI hI0 ‹isT dh l1=true›))
  |((exact z7n x y))
  |skip
theorem MR(u:PM Ex)(e d:Int)(n:Nat)(l:List Tk)(o:Option (Ex))(l':List Tk)(hS:(∀l o l',(sumM u) l=(o,l')->aA Tryz.prog 174 [.ptr 1000000 0] [(1000000,pB l e d)] (jL 119 Ex.d e o l') [(1000000,pB l' e d)]))(hs:Sh u)(hn:l.length<n)(hM:exprF u n l=(o,l')):aA Tryz.prog 161 [.ptr 1000000 0] [(1000000,pB l e d)] (jL 119 Ex.d e o l') [(1000000,pB l' e d)]:=by
 induction n generalizing l o l' with
 |zero=>exact absurd hn (Nat.not_lt_zero _)
 |succ n ih=>?_
 refine ah tok hmix ⟨[],[]⟩ Tryz.func161 rfl (by kernel_rfl) (by kernel_rfl) (by kernel_rfl) λhf=>?_
 clear hf
 repeat' ((try(conv=>whnf))<;>first
  |((refine mO ?_ ?_);exact rfl)
  |((refine nC ?_ ?_);exact rfl)
  |((refine zS (λs l=>gG s l e d) ?_);refine⟨_,_,_,rfl,rfl,rfl,λhT _=>?_,λhT=>?_⟩)
  |((refine zT (λs l=>gI s l e d) ?_);refine⟨_,_,_,_,rfl,rfl,rfl,rfl,rfl,λhW _=>?_,λhW=>?_⟩)
  |((refine z1m (d:=d) (λ_=>True) (WA hs) (λl o l' _=>hS l o l') ?_);refine⟨_,_,rfl,rfl,rfl,trivial,λa l1 h_a _=>?_,λl1 h_a=>?_⟩)
  |((refine z1m (d:=d) (λl=>l.length<n) (UG hs n) (λl o l' hl=>ih l o l' hl) ?_);refine⟨_,_,rfl,rfl,rfl,by(simp only[List.length_drop]at *;omega),λc l3 h_c _=>?_,λl3 h_c=>?_⟩)
  |((refine app_step' ?_ ?_ ?_ ?_ ?_ ?_ ?_);exact rfl;exact rfl;exact rfl;exact rfl)
  |((refine jb ?_);(try simp only[Bool.not_true,Bool.not_false,cond_true,cond_false,bne,Bool.not_eq_true',Bool.not_eq_false']at *);(simp only[exprF,bnd,aC,reduceIte,Bool.false_eq_true, *]at hM);(obtain⟨rfl,rfl⟩:=eF hM);refine gp ?_;(conv=>whnf);refine fin_step' [(1000000,1000000)] rfl ?_ ?_)
  |((refine aZ ?_);(try simp only[Bool.not_true,Bool.not_false,cond_true,cond_false,bne,Bool.not_eq_true',Bool.not_eq_false']at *);(simp only[exprF,bnd,aC,reduceIte,Bool.false_eq_true, *]at hM);(obtain⟨rfl,rfl⟩:=eF hM);refine aO ?_;refine fin_step' [(1000000,1000000)] rfl ?_ ?_)
  |exact trivial
  |(refine aF.l _ ?_)
  |(refine And.intro ?_ ?_)
  |exact gu rfl
  |fail)
 all_goals first
  |((exact UM))
  |skip
theorem MS(u:PM Ex)(e d:Int)(k:Int)(m:Nat)(l:List Tk)(o:Option (Ex))(l':List Tk)(hE:(∀l o l',(iT u) l=(o,l')->aA Tryz.prog 161 [.ptr 1000000 0] [(1000000,pB l e d)] (jL 119 Ex.d e o l') [(1000000,pB l' e d)]))(hs:Sh u)(hm:m<=2)(hM:argsM u k m false l=(o,l')):aA Tryz.prog 183 [.ptr 1000000 0,.data (.i k),.data (.i (m:Int)),.data (.b false)] [(1000000,pB l e d)] (jL 119 Ex.d e o l') [(1000000,pB l' e d)]:=by
 refine ah tok hmix ⟨[],[]⟩ Tryz.func183 rfl (by kernel_rfl) (by kernel_rfl) (by kernel_rfl) λhf=>?_
 clear hf
 repeat' ((try(conv=>whnf))<;>first
  |((refine iq _ _ _ [true,true,true,true] ?_ ?_ ?_);exact rfl;kernel_rfl)
  |((refine quiet_step ?_ ?_);kernel_rfl)
  |((refine nC ?_ ?_);exact rfl)
  |((refine zT (λs l=>gI s l e d) ?_);refine⟨_,_,_,_,rfl,rfl,rfl,rfl,rfl,λhW _=>?_,λhW=>?_⟩)
  |((refine jT (d:=d) [] (λl=>hE l) ?_);refine⟨_,_,rfl,rfl,rfl,λx l2 h_x=>?_,λl2 h_x=>?_⟩)
  |(refine aX (i+1,xs++[x],l2,j-1) ?_ (WB hI0 ‹decide ((i:Int)<(m:Int))=true› ‹decide ((i:Int)>0)=true› ‹isT aS l1=true› h_x) (JH hI0 ‹decide ((i:Int)<(m:Int))=true›))
  |(refine aX (i+1,xs++[x],l2,j-1) ?_ (WC hI0 ‹decide ((i:Int)<(m:Int))=true› ‹decide ((i:Int)>0)=false› h_x) (JH hI0 ‹decide ((i:Int)<(m:Int))=true›))
  |((refine aZ ?_);(have hE:=Qy hM ‹isT sPar l=false›);(obtain⟨rfl,rfl⟩:=hE);refine aO ?_;refine fin_step' [(1000000,1000000)] rfl ?_ ?_)
  |((refine aZ ?_);(have hE:=WE hI0 ‹decide ((i:Int)<(m:Int))=true› ‹decide ((i:Int)>0)=true› ‹isT aS l1=false›);(obtain⟨rfl,rfl⟩:=hE);refine aO ?_;refine fin_step' [(1000000,1000000)] rfl ?_ ?_)
  |((refine aZ ?_);(have hE:=WF hI0 ‹decide ((i:Int)<(m:Int))=true› ‹decide ((i:Int)>0)=true› ‹isT aS l1=true› h_x);(obtain⟨rfl,rfl⟩:=hE);refine aO ?_;refine fin_step' [(1000000,1000000)] rfl ?_ ?_)
  |((refine aZ ?_);(have hE:=WG hI0 ‹decide ((i:Int)<(m:Int))=true› ‹decide ((i:Int)>0)=false› h_x);(obtain⟨rfl,rfl⟩:=hE);refine aO ?_;refine fin_step' [(1000000,1000000)] rfl ?_ ?_)
  |((refine aZ ?_);(have hE:=WI hI0 ‹decide ((i:Int)<(m:Int))=false› ‹isT sKet l1=false›);(obtain⟨rfl,rfl⟩:=hE);refine aO ?_;refine fin_step' [(1000000,1000000)] rfl ?_ ?_)
  |((refine jb ?_);(have hE:=WH hI0 ‹decide ((i:Int)<(m:Int))=false› ‹isT sKet l1=true›);(obtain⟨rfl,rfl⟩:=hE);refine gp ?_;(conv=>whnf);refine fin_step' [(1000000,1000000)] rfl ?_ ?_)
  |exact trivial
  |refine BrI.intro (λh=>?_) (λh=>?_)
  |((refine aN.mk 0 ?_);refine⟨ik (λ(q:(Nat)×(List Ex)×(List Tk)×(Nat))=>match q with |(i,xs,l1,j)=>[(23,.data (.val (.int .i64 (i:Nat))))]) (λ(q:(Nat)×(List Ex)×(List Tk)×(Nat))=>match q with |(i,xs,l1,j)=>[(8,.cells [.data (.i k),.data (.str []),.data (.i 0),.data (.i 0),.gs 900008 5 (xs.map Ex.cs)]),(900008,.tok 5 (xs.map Ex.cs).length),(1000000,pB l1 e d)]) [0,8,22] (λ(q:(Nat)×(List Ex)×(List Tk)×(Nat))=>match q with |(i,xs,l1,j)=>AI u k [] (o,l') m i j xs l1) (λ(q:(Nat)×(List Ex)×(List Tk)×(Nat))=>match q with |(i,xs,l1,j)=>j),?_⟩;refine bG ((0),([]),(l.drop 1),(m)) ?_ ?_ (λ⟨i,xs,l1,j⟩ hI0=>?_))
  |(refine aF.l _ ?_)
  |((refine dD ?_ ?_ ?_ ?_ ?_ ?_)<;>exact rfl)
  |((refine dO ?_ ?_ ?_ ?_)<;>exact rfl)
  |((refine app_step' ?_ ?_ ?_ ?_ ?_ ?_ ?_);exact rfl;exact rfl;exact rfl;exact rfl)
  |((refine aH ?_ ?_);kernel_rfl)
  |((refine gB ?_ ?_);kernel_rfl)
  |(refine And.intro ?_ ?_)
  |((refine vw ?_ ?_ ?_);exact rfl;exact rfl;(first |exact dA |skip))
  |((refine gq ?_ ?_);exact rfl;(first |exact dA |skip))
  |exact @rfl AV _
  |exact gu rfl
  |fail)
 all_goals first
  |((exact Yi hM ‹isT sPar l=true›))
  |((exact CX (WL ‹decide ((i:Int)<(m:Int))=true› hm)))
  |((exact Qz hI0 hm))
  |((exact QA))
  |skip
theorem QT(u:PM Ex)(e d:Int)(k:Int)(m:Nat)(l:List Tk)(o:Option (Ex))(l':List Tk)(hE:(∀l o l',(iT u) l=(o,l')->aA Tryz.prog 161 [.ptr 1000000 0] [(1000000,pB l e d)] (jL 119 Ex.d e o l') [(1000000,pB l' e d)]))(hs:Sh u)(hm:m<=2)(hM:argsM u k m true l=(o,l')):aA Tryz.prog 183 [.ptr 1000000 0,.data (.i k),.data (.i (m:Int)),.data (.b true)] [(1000000,pB l e d)] (jL 119 Ex.d e o l') [(1000000,pB l' e d)]:=by
 refine ah tok hmix ⟨[],[]⟩ Tryz.func183 rfl (by kernel_rfl) (by kernel_rfl) (by kernel_rfl) λhf=>?_
 clear hf
 repeat' ((try(conv=>whnf))<;>first
  |((refine iq _ _ _ [true,true,true,true] ?_ ?_ ?_);exact rfl;kernel_rfl)
  |((refine quiet_step ?_ ?_);kernel_rfl)
  |((refine mO ?_ ?_);exact rfl)
  |((refine zT (λs l=>gI s l e d) ?_);refine⟨_,_,_,_,rfl,rfl,rfl,rfl,rfl,λhW _=>?_,λhW=>?_⟩)
  |((refine jT (d:=d) [] (λl=>jy l e d) ?_);refine⟨_,_,rfl,rfl,rfl,λs1 l1 h_s=>?_,λl1 h_s=>?_⟩)
  |((refine jT (d:=d) [] (λl=>hE l) ?_);refine⟨_,_,rfl,rfl,rfl,λx l2 h_x=>?_,λl2 h_x=>?_⟩)
  |(refine aX (i+1,xs++[x],l2,j-1) ?_ (WB hI0 ‹decide ((i:Int)<(m:Int))=true› ‹decide ((i:Int)>0)=true› ‹isT aS l1=true› h_x) (JH hI0 ‹decide ((i:Int)<(m:Int))=true›))
  |(refine aX (i+1,xs++[x],l2,j-1) ?_ (WC hI0 ‹decide ((i:Int)<(m:Int))=true› ‹decide ((i:Int)>0)=false› h_x) (JH hI0 ‹decide ((i:Int)<(m:Int))=true›))
  |((refine aZ ?_);(have hE:=Qy hM ‹isT sPar l=false›);(obtain⟨rfl,rfl⟩:=hE);refine aO ?_;refine fin_step' [(1000000,1000000)] rfl ?_ ?_)
  |((refine aZ ?_);(have hE:=Yk hM ‹isT sPar l=true› h_s);(obtain⟨rfl,rfl⟩:=hE);refine aO ?_;refine fin_step' [(1000000,1000000)] rfl ?_ ?_)
  |((refine aZ ?_);(have hE:=Yl hM ‹isT sPar l=true› h_s ‹isT aS l1=false›);(obtain⟨rfl,rfl⟩:=hE);refine aO ?_;refine fin_step' [(1000000,1000000)] rfl ?_ ?_)
  |((refine aZ ?_);(have hE:=WE hI0 ‹decide ((i:Int)<(m:Int))=true› ‹decide ((i:Int)>0)=true› ‹isT aS l1=false›);(obtain⟨rfl,rfl⟩:=hE);refine aO ?_;refine fin_step' [(1000000,1000000)] rfl ?_ ?_)
  |((refine aZ ?_);(have hE:=WF hI0 ‹decide ((i:Int)<(m:Int))=true› ‹decide ((i:Int)>0)=true› ‹isT aS l1=true› h_x);(obtain⟨rfl,rfl⟩:=hE);refine aO ?_;refine fin_step' [(1000000,1000000)] rfl ?_ ?_)
  |((refine aZ ?_);(have hE:=WG hI0 ‹decide ((i:Int)<(m:Int))=true› ‹decide ((i:Int)>0)=false› h_x);(obtain⟨rfl,rfl⟩:=hE);refine aO ?_;refine fin_step' [(1000000,1000000)] rfl ?_ ?_)
  |((refine aZ ?_);(have hE:=WI hI0 ‹decide ((i:Int)<(m:Int))=false› ‹isT sKet l1=false›);(obtain⟨rfl,rfl⟩:=hE);refine aO ?_;refine fin_step' [(1000000,1000000)] rfl ?_ ?_)
  |((refine jb ?_);(have hE:=WH hI0 ‹decide ((i:Int)<(m:Int))=false› ‹isT sKet l1=true›);(obtain⟨rfl,rfl⟩:=hE);refine gp ?_;(conv=>whnf);refine fin_step' [(1000000,1000000)] rfl ?_ ?_)
  |exact trivial
  |refine BrI.intro (λh=>?_) (λh=>?_)
  |((refine aN.mk 0 ?_);refine⟨ik (λ(q:(Nat)×(List Ex)×(List Tk)×(Nat))=>match q with |(i,xs,l1,j)=>[(23,.data (.val (.int .i64 (i:Nat))))]) (λ(q:(Nat)×(List Ex)×(List Tk)×(Nat))=>match q with |(i,xs,l1,j)=>[(8,.cells [.data (.i k),.data (.str s1),.data (.i 0),.data (.i 0),.gs 900008 5 (xs.map Ex.cs)]),(900008,.tok 5 (xs.map Ex.cs).length),(1000000,pB l1 e d)]) [0,8,22] (λ(q:(Nat)×(List Ex)×(List Tk)×(Nat))=>match q with |(i,xs,l1,j)=>AI u k s1 (o,l') m i j xs l1) (λ(q:(Nat)×(List Ex)×(List Tk)×(Nat))=>match q with |(i,xs,l1,j)=>j),?_⟩;refine bG ((0),([]),(l1.drop 1),(m)) ?_ ?_ (λ⟨i,xs,l1,j⟩ hI0=>?_))
  |(refine aF.l _ ?_)
  |((refine dD ?_ ?_ ?_ ?_ ?_ ?_)<;>exact rfl)
  |((refine dO ?_ ?_ ?_ ?_)<;>exact rfl)
  |((refine app_step' ?_ ?_ ?_ ?_ ?_ ?_ ?_);exact rfl;exact rfl;exact rfl;exact rfl)
  |((refine aH ?_ ?_);kernel_rfl)
  |((refine gB ?_ ?_);kernel_rfl)
  |(refine And.intro ?_ ?_)
  |((refine vw ?_ ?_ ?_);exact rfl;exact rfl;(first |exact dA |skip))
  |((refine gq ?_ ?_);exact rfl;(first |exact dA |skip))
  |exact @rfl AV _
  |exact gu rfl
  |fail)
 all_goals first
  |((exact Yj hM ‹isT sPar l=true› h_s ‹isT aS l1=true›))
  |((exact CX (WL ‹decide ((i:Int)<(m:Int))=true› hm)))
  |((exact Qz hI0 hm))
  |((exact QA))
  |skip
end Go.Proofs.YtmfehangcmbidaaGreatDoor
