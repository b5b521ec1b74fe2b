/- Contracts: package syntax: the parser's tokens. -/
import Derived.Test.YtmfehangcmbidaaGreatDoorZDS
set_option linter.unusedSectionVars false
set_option linter.unusedSimpArgs false
set_option linter.unusedVariables false
set_option maxHeartbeats 400000
namespace Go.Proofs.YtmfehangcmbidaaGreatDoor
open Go.Fw Go.Fw.Lx Go.Fw.Sy
set_option maxRecDepth 10000
variable [ae]
theorem z0t(s:Sy.Str)(l:List Tk)(e d:Int)  : aA Tryz.prog 158 [.ptr [.sl 4 (l.map Tk.cs),.i e,.i d],.str s] (.ret (.b (isT s l))):=by
 refine af tok hmix ⟨[],[]⟩ Tryz.func158 rfl (by kernel_rfl) (by kernel_rfl) (by kernel_rfl) λhf=>?_
 clear hf
 repeat' ((try(conv=>whnf))<;>first
  |((refine rH ?_ ?_ ?_ ?_);exact⟨rfl,rfl⟩;exact rfl;(simp[oO]at hg;omega))
  |((refine aT ?_ ?_ (λhg=>?_) ?_);exact rfl)
  |((refine bQ ?_ ?_);exact rfl;exact rfl)
  |((refine ai ?_);refine⟨[],rfl,?_,trivial⟩;conv=>whnf)
  |fail)
 all_goals first
  |((simp only[isT,I4];cases l.isEmpty<;>cases (hd l).kind != 2<;>rfl))
  |skip
theorem je(l:List Tk)(e d:Int)  : aA Tryz.prog 111 [.ptr [.sl 4 (l.map Tk.cs),.i e,.i d]] (.ret (.b (dJ l))):=by
 refine af tok hmix ⟨[],[]⟩ Tryz.func111 rfl (by kernel_rfl) (by kernel_rfl) (by kernel_rfl) λhf=>?_
 clear hf
 repeat' ((try(conv=>whnf))<;>first
  |((refine rH ?_ ?_ ?_ ?_);exact⟨rfl,rfl⟩;exact rfl;(simp[oO]at hg;omega))
  |((refine aT ?_ ?_ (λhg=>?_) ?_);exact rfl)
  |((refine bQ ?_ ?_);exact rfl;exact rfl)
  |((refine ai ?_);refine⟨[],rfl,?_,trivial⟩;conv=>whnf)
  |fail)
 all_goals first
  |((simp only[dJ,I4];cases l.isEmpty<;>cases (hd l).kind==2<;>rfl))
  |skip
theorem Om   : aA Tryz.prog 160 [] (.ret (strs words)):=by
 refine af tok hmix ⟨[],[]⟩ Tryz.func160 rfl (by kernel_rfl) (by kernel_rfl) (by kernel_rfl) λhf=>?_
 clear hf
 repeat' ((try(conv=>whnf))<;>first
  |(refine aG.l _ ?_)
  |((refine ai ?_);refine⟨[],rfl,?_,trivial⟩;conv=>whnf)
  |fail)
 all_goals first
  |(rfl)
  |skip
theorem Jd(l:List Sy.Str)(v:Sy.Str)  : aA Tryz.prog 173 [strs l,.str v] (.ret (.i (RS v l 0))):=by
 refine af tok hmix ⟨[],[]⟩ Tryz.func173 rfl (by kernel_rfl) (by kernel_rfl) (by kernel_rfl) λhf=>?_
 have hlen:l.length<=9223372036854775807:=by simpa using(hf (.sl 1 (l.map ww)) (by simp)).sl.1
 clear hf
 repeat' ((try(conv=>whnf))<;>first
  |exact trivial
  |exact aK hd0 ‹_›
  |refine gX hd0 ?_
  |refine eH hd0 ?_
  |refine BrI.intro (λh=>?_) (λh=>?_)
  |((refine aN.mk 0 ?_);refine⟨bn (l) 8 (λ(_:Unit)=>[]) (λ(_:Unit)=>[]) [0,1,7] (λi0 r0 _=>RS v l 0=RS v r0 i0),?_⟩;refine au () ?_ ?_ (λi0 (_:Unit) hd0 hI0=>?_) (λi0 x0 r0 (_:Unit) hd0 hl0 hI0=>?_))
  |(refine ak hd0 () ?_ ?_)
  |((refine aU ?_ ?_ ?_ ?_ ?_);exact rfl;exact rfl;rotate_left;(exact cO hd0))
  |((refine ai ?_);refine⟨[],rfl,?_,trivial⟩;conv=>whnf)
  |(refine And.intro ?_ ?_)
  |exact @rfl AV _
  |fail)
 all_goals first
  |(rw[hI0];(try simp only[RS,Bool.not_true,Bool.not_false,Bool.and_true,Bool.true_and,Bool.and_false,Bool.false_and,Bool.or_true,Bool.true_or,Bool.or_false,Bool.false_or,if_true,if_false,reduceIte,Bool.false_eq_true,Bool.not_not,Bool.not_eq_true',beq_self_eq_true,List.all_cons,List.all_nil,List.any_cons,List.any_nil,List.length_map,bne,eq_self,Int.toNat_zero, *]);first |done |rfl)
  |(simp_all[RS])
  |skip
theorem SV(l:List Sy.Str)(v:Sy.Str)  : aA Tryz.prog 159 [strs l,.str v] (.ret (.b (decide (RS v l 0>=0)))):=by
 refine af tok hmix ⟨[],[]⟩ Tryz.func159 rfl (by kernel_rfl) (by kernel_rfl) (by kernel_rfl) λhf=>?_
 clear hf
 repeat' ((try(conv=>whnf))<;>first
  |((refine ax ?_ ?_ ?_);rotate_left;(exact Jd _ _))
  |((refine ai ?_);refine⟨[],rfl,?_,trivial⟩;conv=>whnf)
  |fail)
 all_goals first
  |skip
theorem tq(l:List Tk)(e d:Int)  : aA Tryz.prog 135 [.ptr [.sl 4 (l.map Tk.cs),.i e,.i d]] (.ret (.b (xK l))):=by
 refine af tok hmix ⟨[],[]⟩ Tryz.func135 rfl (by kernel_rfl) (by kernel_rfl) (by kernel_rfl) λhf=>?_
 clear hf
 repeat' ((try(conv=>whnf))<;>first
  |((refine rH ?_ ?_ ?_ ?_);exact⟨rfl,rfl⟩;exact rfl;(simp[oO]at hg;omega))
  |((refine ax ?_ ?_ ?_);rotate_left;(first |exact Om |exact SV _ _))
  |((refine kK ?_ ?_ (λhg=>?_) ?_);exact rfl)
  |((refine bQ ?_ ?_);exact rfl;exact rfl)
  |((refine aI ?_ ?_);kernel_rfl)
  |((refine ai ?_);refine⟨[],rfl,?_,trivial⟩;conv=>whnf)
  |fail)
 all_goals first
  |((simp only[xK,I4,VM];cases l.isEmpty<;>cases (hd l).kind==1<;>rfl))
  |skip
theorem ig(s:Sy.Str)(l:List Tk)(e d:Int)  : aC Tryz.prog 133 [.ptr 1000000 0,.data (.str s)] [(1000000,pB l e d)] (.ret (.data (.b (isT s l)))) [(1000000,pB (bif isT s l then l.drop 1 else l) e d)]:=by
 refine ag tok hmix ⟨[],[]⟩ Tryz.func133 rfl (by kernel_rfl) (by kernel_rfl) (by kernel_rfl) λhf=>?_
 clear hf
 repeat' ((try(conv=>whnf))<;>first
  |exact trivial
  |refine BrI.intro (λh=>?_) (λh=>?_)
  |((refine qh ?_ ?_ ?_);exact⟨rfl,rfl⟩;exact z7x (nG h))
  |((refine dA ?_ ?_);exact rfl)
  |((refine dw ?_ ?_ ?_);rotate_left;(exact z0t _ _ _ _))
  |((refine ai ?_);refine fin_step' [(1000000,1000000)] rfl ?_ ?_)
  |(refine And.intro ?_ ?_)
  |fail)
 all_goals first
  |((rw[h];exact congrArg (D.sl 4) VL))
  |((rw[h];rfl))
  |skip
theorem jH(l:List Tk)(e d:Int)  : aC Tryz.prog 134 [.ptr 1000000 0] [(1000000,pB l e d)] (.pan (.data (kP 119 e l))) [(1000000,pB l e d)]:=by
 refine ag tok hmix ⟨[],[]⟩ Tryz.func134 rfl (by kernel_rfl) (by kernel_rfl) (by kernel_rfl) λhf=>?_
 clear hf
 repeat' ((try(conv=>whnf))<;>first
  |exact trivial
  |refine BrI.intro (λh=>?_) (λh=>?_)
  |((refine rH ?_ ?_ ?_ ?_);exact⟨rfl,rfl⟩;exact rfl;(simp at h;omega))
  |((refine jb ?_);refine fin_step' [(1000000,1000000)] rfl ?_ ?_)
  |(refine And.intro ?_ ?_)
  |fail)
 all_goals first
  |((exact VN h))
  |((exact RV h))
  |skip
theorem Oo(ws:List Sy.Str)(l:List Tk)(e d:Int)(o:Option Unit)(l':List Tk)(hlen:ws.length<=9223372036854775807)(hM:D6 ws l=(o,l')):aC Tryz.prog 108 [.ptr 1000000 0,.gs 1000001 1 (ws.map ww)] [(1000000,pB l e d),(1000001,.tok 1 (ws.map ww).length)] (jT 119 (λ_:Unit=>.tuple []) e o l') [(1000000,pB l' e d),(1000001,.tok 1 (ws.map ww).length)]:=by
 refine ag tok hmix ⟨[],[]⟩ Tryz.func108 rfl (by kernel_rfl) (by kernel_rfl) (by kernel_rfl) λhf=>?_
 clear hf
 repeat' ((try(conv=>whnf))<;>first
  |((refine kX ?_ ?_);exact rfl)
  |((refine lQ ?_ ?_);exact rfl)
  |((refine AO (λs l=>ig s l e d) ?_);refine⟨_,_,_,rfl,rfl,rfl,λhT _=>?_,λhT=>?_⟩)
  |((refine Gq (λl=>jH l e d) ?_);refine⟨_,_,rfl,rfl,rfl,?_⟩)
  |((refine jo ?_);(try simp only[Bool.not_true,Bool.not_false,cond_true,cond_false,bne,Bool.not_eq_true',Bool.not_eq_false']at *);(rw[hI0]at hM);(simp only[D6,reduceIte,Bool.false_eq_true, *]at hM);(obtain⟨rfl,rfl⟩:=fE hM);refine gK ?_;(conv=>whnf);refine fin_step' [(1000000,1000000),(1000001,1000001)] rfl ?_ ?_)
  |((refine bf ?_);(try simp only[Bool.not_true,Bool.not_false,cond_true,cond_false,bne,Bool.not_eq_true',Bool.not_eq_false']at *);(rw[hI0]at hM);(simp only[D6,reduceIte,Bool.false_eq_true, *]at hM);(obtain⟨rfl,rfl⟩:=fE hM);refine aQ ?_;refine fin_step' [(1000000,1000000),(1000001,1000001)] rfl ?_ ?_)
  |exact trivial
  |exact aK hd0 ‹_›
  |refine gX hd0 ?_
  |refine eH hd0 ?_
  |((refine aN.mk 0 ?_);refine⟨bn (ws) 8 (λ(l1:(List Tk))=>[]) (λ(l1:(List Tk))=>[(1000000,pB l1 e d)]) [0,6,7] (λi0 r0 l1=>D6 ws l=D6 r0 l1),?_⟩;refine au (l) ?_ ?_ (λi0 (l1:(List Tk)) hd0 hI0=>?_) (λi0 x0 r0 (l1:(List Tk)) hd0 hl0 hI0=>?_))
  |(refine ak hd0 (l1.drop 1) ?_ ?_)
  |((refine aU ?_ ?_ ?_ ?_ ?_);exact rfl;exact rfl;rotate_left;(exact cO hd0))
  |(refine And.intro ?_ ?_)
  |exact @rfl AV _
  |fail)
 all_goals first
  |((rw[hI0];simp only[D6,hT,if_true]))
  |skip
theorem ik(s:Sy.Str)(l:List Tk)(e d:Int)(o:Option Unit)(l':List Tk)(hM:aF s l=(o,l')):aC Tryz.prog 108 [.ptr 1000000 0,.gs 1000001 1 [[.str s]]] [(1000000,pB l e d),(1000001,.tok 1 1)] (jT 119 (λ_:Unit=>.tuple []) e o l') [(1000000,pB l' e d),(1000001,.tok 1 1)]:=
 Oo [s] l e d o l' (by simp) (by rw[RQ];exact hM)
theorem jI(l:List Tk)(e d:Int)(o:Option (Sy.Str))(l':List Tk)(hM:nameM l=(o,l')):aC Tryz.prog 109 [.ptr 1000000 0] [(1000000,pB l e d)] (jT 119 (λs=>.str s) e o l') [(1000000,pB l' e d)]:=by
 refine ag tok hmix ⟨[],[]⟩ Tryz.func109 rfl (by kernel_rfl) (by kernel_rfl) (by kernel_rfl) λhf=>?_
 clear hf
 repeat' ((try(conv=>whnf))<;>first
  |((refine Gq (λl=>jH l e d) ?_);refine⟨_,_,rfl,rfl,rfl,?_⟩)
  |((refine jo ?_);(try simp only[Bool.not_true,Bool.not_false,cond_true,cond_false,bne,Bool.not_eq_true',Bool.not_eq_false']at *);(simp only[nameM,reduceIte,Bool.false_eq_true, *]at hM);(obtain⟨rfl,rfl⟩:=fE hM);refine gK ?_;(conv=>whnf);refine fin_step' [(1000000,1000000)] rfl ?_ ?_)
  |((refine bf ?_);(try simp only[Bool.not_true,Bool.not_false,cond_true,cond_false,bne,Bool.not_eq_true',Bool.not_eq_false']at *);(simp only[nameM,reduceIte,Bool.false_eq_true, *]at hM);(obtain⟨rfl,rfl⟩:=fE hM);refine aQ ?_;refine fin_step' [(1000000,1000000)] rfl ?_ ?_)
  |exact trivial
  |refine BrI.intro (λh=>?_) (λh=>?_)
  |((refine rH ?_ ?_ ?_ ?_);exact⟨rfl,rfl⟩;exact rfl;(exact La (by simpa using h)))
  |((refine qh ?_ ?_ ?_);exact⟨rfl,rfl⟩;exact z7x (La (by simpa using h)))
  |((refine dA ?_ ?_);exact rfl)
  |((refine dw ?_ ?_ ?_);rotate_left;(exact tq _ _ _))
  |(refine And.intro ?_ ?_)
  |fail)
 all_goals first
  |((exact congrArg (D.sl 4) VL))
  |skip
theorem iJ(l:List Tk)(e d:Int)(o:Option (Int))(l':List Tk)(hM:numM l=(o,l')):aC Tryz.prog 110 [.ptr 1000000 0] [(1000000,pB l e d)] (jT 119 (λn=>.i n) e o l') [(1000000,pB l' e d)]:=by
 refine ag tok hmix ⟨[],[]⟩ Tryz.func110 rfl (by kernel_rfl) (by kernel_rfl) (by kernel_rfl) λhf=>?_
 clear hf
 repeat' ((try(conv=>whnf))<;>first
  |((refine Gq (λl=>jH l e d) ?_);refine⟨_,_,rfl,rfl,rfl,?_⟩)
  |((refine jo ?_);(try simp only[Bool.not_true,Bool.not_false,cond_true,cond_false,bne,Bool.not_eq_true',Bool.not_eq_false']at *);(simp only[numM,reduceIte,Bool.false_eq_true, *]at hM);(obtain⟨rfl,rfl⟩:=fE hM);refine gK ?_;(conv=>whnf);refine fin_step' [(1000000,1000000)] rfl ?_ ?_)
  |((refine bf ?_);(try simp only[Bool.not_true,Bool.not_false,cond_true,cond_false,bne,Bool.not_eq_true',Bool.not_eq_false']at *);(simp only[numM,reduceIte,Bool.false_eq_true, *]at hM);(obtain⟨rfl,rfl⟩:=fE hM);refine aQ ?_;refine fin_step' [(1000000,1000000)] rfl ?_ ?_)
  |exact trivial
  |refine BrI.intro (λh=>?_) (λh=>?_)
  |((refine rH ?_ ?_ ?_ ?_);exact⟨rfl,rfl⟩;exact rfl;(exact zU (by simpa using h)))
  |((refine qh ?_ ?_ ?_);exact⟨rfl,rfl⟩;exact z7x (zU (by simpa using h)))
  |((refine dA ?_ ?_);exact rfl)
  |((refine dw ?_ ?_ ?_);rotate_left;(exact je _ _ _))
  |(refine And.intro ?_ ?_)
  |fail)
 all_goals first
  |((exact congrArg (D.sl 4) VL))
  |skip
theorem xC(l:List Tk)(e d:Int)(o:Option (Int))(l':List Tk)(hM:intM l=(o,l')):aC Tryz.prog 139 [.ptr 1000000 0] [(1000000,pB l e d)] (jT 119 (λn=>.i n) e o l') [(1000000,pB l' e d)]:=by
 refine ag tok hmix ⟨[],[]⟩ Tryz.func139 rfl (by kernel_rfl) (by kernel_rfl) (by kernel_rfl) λhf=>?_
 clear hf
 repeat' ((try(conv=>whnf))<;>first
  |((refine AO (λs l=>ig s l e d) ?_);refine⟨_,_,_,rfl,rfl,rfl,λhT _=>?_,λhT=>?_⟩)
  |((refine kz (d:=d) [] (λl=>iJ l e d) ?_);refine⟨_,_,rfl,rfl,rfl,λn l1 h_n=>?_,λl1 h_n=>?_⟩)
  |((refine kX ?_ ?_);exact rfl)
  |((refine lQ ?_ ?_);exact rfl)
  |((refine jo ?_);(try simp only[Bool.not_true,Bool.not_false,cond_true,cond_false,bne,Bool.not_eq_true',Bool.not_eq_false']at *);(simp only[intM,bnd,reduceIte,Bool.false_eq_true, *]at hM);(obtain⟨rfl,rfl⟩:=fE hM);refine gK ?_;(conv=>whnf);refine fin_step' [(1000000,1000000)] rfl ?_ ?_)
  |((refine bf ?_);(try simp only[Bool.not_true,Bool.not_false,cond_true,cond_false,bne,Bool.not_eq_true',Bool.not_eq_false']at *);(simp only[intM,bnd,reduceIte,Bool.false_eq_true, *]at hM);(obtain⟨rfl,rfl⟩:=fE hM);refine aQ ?_;refine fin_step' [(1000000,1000000)] rfl ?_ ?_)
  |exact trivial
  |(refine And.intro ?_ ?_)
  |fail)
 all_goals first
  |skip
theorem GH(u:PM Ex)(e d:Int)(l:List Tk)(o:Option (Ex))(l':List Tk)(hu:(∀l o l',u l=(o,l')->aC Tryz.prog 181 [.ptr 1000000 0] [(1000000,pB l e d)] (jT 119 Ex.d e o l') [(1000000,pB l' e d)]))(hs:Sh u)(hM:gm u l=(o,l')):aC Tryz.prog 180 [.ptr 1000000 0] [(1000000,pB l e d)] (jT 119 Ex.d e o l') [(1000000,pB l' e d)]:=by
 refine ag tok hmix ⟨[],[]⟩ Tryz.func180 rfl (by kernel_rfl) (by kernel_rfl) (by kernel_rfl) λhf=>?_
 clear hf
 repeat' ((try(conv=>whnf))<;>first
  |((refine iO _ _ _ [true,true,true] ?_ ?_ ?_);exact rfl;kernel_rfl)
  |((refine iO _ _ _ [false,false,true,true] ?_ ?_ ?_);exact rfl;kernel_rfl)
  |((refine quiet_step ?_ ?_);kernel_rfl)
  |((refine kX ?_ ?_);exact rfl)
  |((refine lQ ?_ ?_);exact rfl)
  |((refine AO (λs l=>ig s l e d) ?_);refine⟨_,_,_,rfl,rfl,rfl,λhT _=>?_,λhT=>?_⟩)
  |((refine Gq (λl=>jH l e d) ?_);refine⟨_,_,rfl,rfl,rfl,?_⟩)
  |((refine kz (d:=d) [] (λl=>hu l) ?_);refine⟨_,_,rfl,rfl,rfl,λy l2 h_y=>?_,λl2 h_y=>?_⟩)
  |((refine kz (d:=d) [] (λl=>iJ l e d) ?_);refine⟨_,_,rfl,rfl,rfl,λk l3 h_k=>?_,λl3 h_k=>?_⟩)
  |(refine bz (.mk 18 [] 0 k [x],l3,n-1) ?_ ?_ ?_)
  |(refine bz (ex2 17 x y,l2,n-1) ?_ ?_ ?_)
  |((refine bf ?_);(have hE:=Zo hM h_y);(obtain⟨rfl,rfl⟩:=hE);refine aQ ?_;refine fin_step' [(1000000,1000000)] rfl ?_ ?_)
  |((refine bf ?_);(have hE:=Zp hI0 ‹isT sStar l1=true› h_y);(obtain⟨rfl,rfl⟩:=hE);refine aQ ?_;refine fin_step' [(1000000,1000000)] rfl ?_ ?_)
  |((refine bf ?_);(have hE:=Zr hI0 ‹isT sStar l1=false› ‹isT sSlash l1=true› h);(obtain⟨rfl,rfl⟩:=hE);refine aQ ?_;refine fin_step' [(1000000,1000000)] rfl ?_ ?_)
  |((refine bf ?_);(have hE:=Zt hI0 ‹isT sStar l1=false› ‹isT sSlash l1=true› h h_k);(obtain⟨rfl,rfl⟩:=hE);refine aQ ?_;refine fin_step' [(1000000,1000000)] rfl ?_ ?_)
  |((refine jo ?_);(have hE:=z4d hI0 ‹isT sStar l1=false› ‹isT sSlash l1=false›);(obtain⟨rfl,rfl⟩:=hE);refine gK ?_;(conv=>whnf);refine fin_step' [(1000000,1000000)] rfl ?_ ?_)
  |exact trivial
  |refine BrI.intro (λh=>?_) (λh=>?_)
  |((refine rH ?_ ?_ ?_ ?_);exact⟨rfl,rfl⟩;exact rfl;(exact zU (by simpa[oO]using hg)))
  |((refine aN.mk 0 ?_);refine⟨jE (λ(q:(Ex)×(List Tk)×(Nat))=>match q with |(x,l1,n)=>[]) (λ(q:(Ex)×(List Tk)×(Nat))=>match q with |(x,l1,n)=>[(3,.cells [.data (.i x.kind),.data (.str x.name),.data (.i x.index),.data (.i x.n),.data (.sl 5 (Ex.css x.l))]),(1000000,pB l1 e d)]) [0,2,3] (λ(q:(Ex)×(List Tk)×(Nat))=>match q with |(x,l1,n)=>LI (prodL u) (o,l') n x l1) (λ(q:(Ex)×(List Tk)×(Nat))=>match q with |(x,l1,n)=>n),?_⟩;refine dI ((y),(l2),(l2.length)) ?_ ?_ (λ⟨x,l1,n⟩ hI0=>?_))
  |((refine dA ?_ ?_);exact rfl)
  |((refine dw ?_ ?_ ?_);rotate_left;(exact je _ _ _))
  |(refine aG.l _ ?_)
  |((refine aT ?_ ?_ (λhg=>?_) ?_);exact rfl)
  |((refine bQ ?_ ?_);exact rfl;exact rfl)
  |((refine aI ?_ ?_);kernel_rfl)
  |((refine gY ?_ ?_);kernel_rfl)
  |(refine And.intro ?_ ?_)
  |exact @rfl AV _
  |fail)
 all_goals first
  |((exact z4c hM h_y))
  |((exact Zq hs hI0 ‹isT sStar l1=true› h_y))
  |((exact Zu hI0 ‹isT sStar l1=false› ‹isT sSlash l1=true› h h_k))
  |((exact VK hI0 ‹isT sStar l1=true›))
  |((exact VK hI0 ‹isT sSlash l1=true›))
  |((exact zao x))
  |((exact zac x y))
  |skip
theorem V7(u:PM Ex)(e d:Int)(l:List Tk)(o:Option (Ex))(l':List Tk)(hu:(∀l o l',(gm u) l=(o,l')->aC Tryz.prog 180 [.ptr 1000000 0] [(1000000,pB l e d)] (jT 119 Ex.d e o l') [(1000000,pB l' e d)]))(hs:Sh u)(hM:sumM u l=(o,l')):aC Tryz.prog 174 [.ptr 1000000 0] [(1000000,pB l e d)] (jT 119 Ex.d e o l') [(1000000,pB l' e d)]:=by
 refine ag tok hmix ⟨[],[]⟩ Tryz.func174 rfl (by kernel_rfl) (by kernel_rfl) (by kernel_rfl) λhf=>?_
 clear hf
 repeat' ((try(conv=>whnf))<;>first
  |((refine iO _ _ _ [true,true,true] ?_ ?_ ?_);exact rfl;kernel_rfl)
  |((refine quiet_step ?_ ?_);kernel_rfl)
  |((refine kX ?_ ?_);exact rfl)
  |((refine lQ ?_ ?_);exact rfl)
  |((refine AO (λs l=>ig s l e d) ?_);refine⟨_,_,_,rfl,rfl,rfl,λhT _=>?_,λhT=>?_⟩)
  |((refine kz (d:=d) [] (λl=>hu l) ?_);refine⟨_,_,rfl,rfl,rfl,λy l2 h_y=>?_,λl2 h_y=>?_⟩)
  |(refine bz (ex2 15 x y,l2,n-1) ?_ (z4g hs hI0 ‹isT sPlus l1=true› h_y) ?_)
  |(refine bz (ex2 16 x y,l2,n-1) ?_ (z4i hs hI0 ‹isT sPlus l1=false› ‹isT sMinus l1=true› h_y) ?_)
  |((refine bf ?_);(have hE:=z4e hM h_y);(obtain⟨rfl,rfl⟩:=hE);refine aQ ?_;refine fin_step' [(1000000,1000000)] rfl ?_ ?_)
  |((refine bf ?_);(have hE:=z4f hI0 ‹isT sPlus l1=true› h_y);(obtain⟨rfl,rfl⟩:=hE);refine aQ ?_;refine fin_step' [(1000000,1000000)] rfl ?_ ?_)
  |((refine bf ?_);(have hE:=z4h hI0 ‹isT sPlus l1=false› ‹isT sMinus l1=true› h_y);(obtain⟨rfl,rfl⟩:=hE);refine aQ ?_;refine fin_step' [(1000000,1000000)] rfl ?_ ?_)
  |((refine jo ?_);(have hE:=z8p hI0 ‹isT sPlus l1=false› ‹isT sMinus l1=false›);(obtain⟨rfl,rfl⟩:=hE);refine gK ?_;(conv=>whnf);refine fin_step' [(1000000,1000000)] rfl ?_ ?_)
  |exact trivial
  |((refine aN.mk 0 ?_);refine⟨jE (λ(q:(Ex)×(List Tk)×(Nat))=>match q with |(x,l1,n)=>[]) (λ(q:(Ex)×(List Tk)×(Nat))=>match q with |(x,l1,n)=>[(3,.cells [.data (.i x.kind),.data (.str x.name),.data (.i x.index),.data (.i x.n),.data (.sl 5 (Ex.css x.l))]),(1000000,pB l1 e d)]) [0,2,3] (λ(q:(Ex)×(List Tk)×(Nat))=>match q with |(x,l1,n)=>LI (sumL u) (o,l') n x l1) (λ(q:(Ex)×(List Tk)×(Nat))=>match q with |(x,l1,n)=>n),?_⟩;refine dI ((y),(l2),(l2.length)) ?_ ?_ (λ⟨x,l1,n⟩ hI0=>?_))
  |(refine aG.l _ ?_)
  |((refine aI ?_ ?_);kernel_rfl)
  |((refine gY ?_ ?_);kernel_rfl)
  |(refine And.intro ?_ ?_)
  |exact @rfl AV _
  |fail)
 all_goals first
  |((exact z8o hM h_y))
  |((exact VK hI0 ‹isT sPlus l1=true›))
  |((exact VK hI0 ‹isT sMinus l1=true›))
  |((exact zac x y))
  |skip
theorem Oq(u:PM Ex)(e d:Int)(n:Nat)(l:List Tk)(o:Option (Ex))(l':List Tk)(hS:(∀l o l',(sumM u) l=(o,l')->aC Tryz.prog 174 [.ptr 1000000 0] [(1000000,pB l e d)] (jT 119 Ex.d e o l') [(1000000,pB l' e d)]))(hs:Sh u)(hn:l.length<n)(hM:exprF u n l=(o,l')):aC Tryz.prog 161 [.ptr 1000000 0] [(1000000,pB l e d)] (jT 119 Ex.d e o l') [(1000000,pB l' e d)]:=by
 induction n generalizing l o l' with
 |zero=>exact absurd hn (Nat.not_lt_zero _)
 |succ n ih=>?_
 refine ag tok hmix ⟨[],[]⟩ Tryz.func161 rfl (by kernel_rfl) (by kernel_rfl) (by kernel_rfl) λhf=>?_
 clear hf
 repeat' ((try(conv=>whnf))<;>first
  |((refine kX ?_ ?_);exact rfl)
  |((refine lQ ?_ ?_);exact rfl)
  |((refine AO (λs l=>ig s l e d) ?_);refine⟨_,_,_,rfl,rfl,rfl,λhT _=>?_,λhT=>?_⟩)
  |((refine AP (λs l=>ik s l e d) ?_);refine⟨_,_,_,_,rfl,rfl,rfl,rfl,rfl,λhW _=>?_,λhW=>?_⟩)
  |((refine z4k (d:=d) (λ_=>True) (XQ hs) (λl o l' _=>hS l o l') ?_);refine⟨_,_,rfl,rfl,rfl,trivial,λa l1 h_a _=>?_,λl1 h_a=>?_⟩)
  |((refine z4k (d:=d) (λl=>l.length<n) (VI hs n) (λl o l' hl=>ih l o l' hl) ?_);refine⟨_,_,rfl,rfl,rfl,by(simp only[List.length_drop]at *;omega),λc l3 h_c _=>?_,λl3 h_c=>?_⟩)
  |((refine app_step' ?_ ?_ ?_ ?_ ?_ ?_ ?_);exact rfl;exact rfl;exact rfl;exact rfl)
  |((refine jo ?_);(try simp only[Bool.not_true,Bool.not_false,cond_true,cond_false,bne,Bool.not_eq_true',Bool.not_eq_false']at *);(simp only[exprF,bnd,aF,reduceIte,Bool.false_eq_true, *]at hM);(obtain⟨rfl,rfl⟩:=fE hM);refine gK ?_;(conv=>whnf);refine fin_step' [(1000000,1000000)] rfl ?_ ?_)
  |((refine bf ?_);(try simp only[Bool.not_true,Bool.not_false,cond_true,cond_false,bne,Bool.not_eq_true',Bool.not_eq_false']at *);(simp only[exprF,bnd,aF,reduceIte,Bool.false_eq_true, *]at hM);(obtain⟨rfl,rfl⟩:=fE hM);refine aQ ?_;refine fin_step' [(1000000,1000000)] rfl ?_ ?_)
  |exact trivial
  |(refine aG.l _ ?_)
  |(refine And.intro ?_ ?_)
  |exact fK rfl
  |fail)
 all_goals first
  |((exact VO))
  |skip
theorem Ot(u:PM Ex)(e d:Int)(k:Int)(m:Nat)(l:List Tk)(o:Option (Ex))(l':List Tk)(hE:(∀l o l',(jd u) l=(o,l')->aC Tryz.prog 161 [.ptr 1000000 0] [(1000000,pB l e d)] (jT 119 Ex.d e o l') [(1000000,pB l' e d)]))(hs:Sh u)(hm:m<=2)(hM:iR u k m false l=(o,l')):aC Tryz.prog 183 [.ptr 1000000 0,.data (.i k),.data (.i (m:Int)),.data (.b false)] [(1000000,pB l e d)] (jT 119 Ex.d e o l') [(1000000,pB l' e d)]:=by
 refine ag tok hmix ⟨[],[]⟩ Tryz.func183 rfl (by kernel_rfl) (by kernel_rfl) (by kernel_rfl) λhf=>?_
 clear hf
 repeat' ((try(conv=>whnf))<;>first
  |((refine iO _ _ _ [true,true,true,true] ?_ ?_ ?_);exact rfl;kernel_rfl)
  |((refine quiet_step ?_ ?_);kernel_rfl)
  |((refine lQ ?_ ?_);exact rfl)
  |((refine AP (λs l=>ik s l e d) ?_);refine⟨_,_,_,_,rfl,rfl,rfl,rfl,rfl,λhW _=>?_,λhW=>?_⟩)
  |((refine kz (d:=d) [] (λl=>hE l) ?_);refine⟨_,_,rfl,rfl,rfl,λx l2 h_x=>?_,λl2 h_x=>?_⟩)
  |(refine bz (i+1,xs++[x],l2,j-1) ?_ (XR hI0 ‹decide ((i:Int)<(m:Int))=true› ‹decide ((i:Int)>0)=true› ‹isT sComma l1=true› h_x) (Lc hI0 ‹decide ((i:Int)<(m:Int))=true›))
  |(refine bz (i+1,xs++[x],l2,j-1) ?_ (XT hI0 ‹decide ((i:Int)<(m:Int))=true› ‹decide ((i:Int)>0)=false› h_x) (Lc hI0 ‹decide ((i:Int)<(m:Int))=true›))
  |((refine bf ?_);(have hE:=RX hM ‹isT sPar l=false›);(obtain⟨rfl,rfl⟩:=hE);refine aQ ?_;refine fin_step' [(1000000,1000000)] rfl ?_ ?_)
  |((refine bf ?_);(have hE:=XU hI0 ‹decide ((i:Int)<(m:Int))=true› ‹decide ((i:Int)>0)=true› ‹isT sComma l1=false›);(obtain⟨rfl,rfl⟩:=hE);refine aQ ?_;refine fin_step' [(1000000,1000000)] rfl ?_ ?_)
  |((refine bf ?_);(have hE:=XV hI0 ‹decide ((i:Int)<(m:Int))=true› ‹decide ((i:Int)>0)=true› ‹isT sComma l1=true› h_x);(obtain⟨rfl,rfl⟩:=hE);refine aQ ?_;refine fin_step' [(1000000,1000000)] rfl ?_ ?_)
  |((refine bf ?_);(have hE:=XW hI0 ‹decide ((i:Int)<(m:Int))=true› ‹decide ((i:Int)>0)=false› h_x);(obtain⟨rfl,rfl⟩:=hE);refine aQ ?_;refine fin_step' [(1000000,1000000)] rfl ?_ ?_)
  |((refine bf ?_);(have hE:=XY hI0 ‹decide ((i:Int)<(m:Int))=false› ‹isT sKet l1=false›);(obtain⟨rfl,rfl⟩:=hE);refine aQ ?_;refine fin_step' [(1000000,1000000)] rfl ?_ ?_)
  |((refine jo ?_);(have hE:=XX hI0 ‹decide ((i:Int)<(m:Int))=false› ‹isT sKet l1=true›);(obtain⟨rfl,rfl⟩:=hE);refine gK ?_;(conv=>whnf);refine fin_step' [(1000000,1000000)] rfl ?_ ?_)
  |exact trivial
  |refine BrI.intro (λh=>?_) (λh=>?_)
  |((refine aN.mk 0 ?_);refine⟨jE (λ(q:(Nat)×(List Ex)×(List Tk)×(Nat))=>match q with |(i,xs,l1,j)=>[(23,.data (.val (.int .i64 (i:Nat))))]) (λ(q:(Nat)×(List Ex)×(List Tk)×(Nat))=>match q with |(i,xs,l1,j)=>[(8,.cells [.data (.i k),.data (.str []),.data (.i 0),.data (.i 0),.gs 900008 5 (xs.map Ex.cs)]),(900008,.tok 5 (xs.map Ex.cs).length),(1000000,pB l1 e d)]) [0,8,22] (λ(q:(Nat)×(List Ex)×(List Tk)×(Nat))=>match q with |(i,xs,l1,j)=>AI u k [] (o,l') m i j xs l1) (λ(q:(Nat)×(List Ex)×(List Tk)×(Nat))=>match q with |(i,xs,l1,j)=>j),?_⟩;refine dI ((0),([]),(l.drop 1),(m)) ?_ ?_ (λ⟨i,xs,l1,j⟩ hI0=>?_))
  |(refine aG.l _ ?_)
  |((refine dO ?_ ?_ ?_ ?_ ?_ ?_)<;>exact rfl)
  |((refine eG ?_ ?_ ?_ ?_)<;>exact rfl)
  |((refine app_step' ?_ ?_ ?_ ?_ ?_ ?_ ?_);exact rfl;exact rfl;exact rfl;exact rfl)
  |((refine aI ?_ ?_);kernel_rfl)
  |((refine gY ?_ ?_);kernel_rfl)
  |(refine And.intro ?_ ?_)
  |((refine qR ?_ ?_ ?_);exact rfl;exact rfl;(first |exact bT |skip))
  |((refine fJ ?_ ?_);exact rfl;(first |exact bT |skip))
  |exact @rfl AV _
  |exact fK rfl
  |fail)
 all_goals first
  |((exact Zv hM ‹isT sPar l=true›))
  |((exact D7 (X0 ‹decide ((i:Int)<(m:Int))=true› hm)))
  |((exact RY hI0 hm))
  |((exact Si))
  |skip
theorem SX(u:PM Ex)(e d:Int)(k:Int)(m:Nat)(l:List Tk)(o:Option (Ex))(l':List Tk)(hE:(∀l o l',(jd u) l=(o,l')->aC Tryz.prog 161 [.ptr 1000000 0] [(1000000,pB l e d)] (jT 119 Ex.d e o l') [(1000000,pB l' e d)]))(hs:Sh u)(hm:m<=2)(hM:iR u k m true l=(o,l')):aC Tryz.prog 183 [.ptr 1000000 0,.data (.i k),.data (.i (m:Int)),.data (.b true)] [(1000000,pB l e d)] (jT 119 Ex.d e o l') [(1000000,pB l' e d)]:=by
 refine ag tok hmix ⟨[],[]⟩ Tryz.func183 rfl (by kernel_rfl) (by kernel_rfl) (by kernel_rfl) λhf=>?_
 clear hf
 repeat' ((try(conv=>whnf))<;>first
  |((refine iO _ _ _ [true,true,true,true] ?_ ?_ ?_);exact rfl;kernel_rfl)
  |((refine quiet_step ?_ ?_);kernel_rfl)
  |((refine kX ?_ ?_);exact rfl)
  |((refine AP (λs l=>ik s l e d) ?_);refine⟨_,_,_,_,rfl,rfl,rfl,rfl,rfl,λhW _=>?_,λhW=>?_⟩)
  |((refine kz (d:=d) [] (λl=>jI l e d) ?_);refine⟨_,_,rfl,rfl,rfl,λs1 l1 h_s=>?_,λl1 h_s=>?_⟩)
  |((refine kz (d:=d) [] (λl=>hE l) ?_);refine⟨_,_,rfl,rfl,rfl,λx l2 h_x=>?_,λl2 h_x=>?_⟩)
  |(refine bz (i+1,xs++[x],l2,j-1) ?_ (XR hI0 ‹decide ((i:Int)<(m:Int))=true› ‹decide ((i:Int)>0)=true› ‹isT sComma l1=true› h_x) (Lc hI0 ‹decide ((i:Int)<(m:Int))=true›))
  |(refine bz (i+1,xs++[x],l2,j-1) ?_ (XT hI0 ‹decide ((i:Int)<(m:Int))=true› ‹decide ((i:Int)>0)=false› h_x) (Lc hI0 ‹decide ((i:Int)<(m:Int))=true›))
  |((refine bf ?_);(have hE:=RX hM ‹isT sPar l=false›);(obtain⟨rfl,rfl⟩:=hE);refine aQ ?_;refine fin_step' [(1000000,1000000)] rfl ?_ ?_)
  |((refine bf ?_);(have hE:=Zx hM ‹isT sPar l=true› h_s);(obtain⟨rfl,rfl⟩:=hE);refine aQ ?_;refine fin_step' [(1000000,1000000)] rfl ?_ ?_)
  |((refine bf ?_);(have hE:=Zy hM ‹isT sPar l=true› h_s ‹isT sComma l1=false›);(obtain⟨rfl,rfl⟩:=hE);refine aQ ?_;refine fin_step' [(1000000,1000000)] rfl ?_ ?_)
  |((refine bf ?_);(have hE:=XU hI0 ‹decide ((i:Int)<(m:Int))=true› ‹decide ((i:Int)>0)=true› ‹isT sComma l1=false›);(obtain⟨rfl,rfl⟩:=hE);refine aQ ?_;refine fin_step' [(1000000,1000000)] rfl ?_ ?_)
  |((refine bf ?_);(have hE:=XV hI0 ‹decide ((i:Int)<(m:Int))=true› ‹decide ((i:Int)>0)=true› ‹isT sComma l1=true› h_x);(obtain⟨rfl,rfl⟩:=hE);refine aQ ?_;refine fin_step' [(1000000,1000000)] rfl ?_ ?_)
  |((refine bf ?_);(have hE:=XW hI0 ‹decide ((i:Int)<(m:Int))=true› ‹decide ((i:Int)>0)=false› h_x);(obtain⟨rfl,rfl⟩:=hE);refine aQ ?_;refine fin_step' [(1000000,1000000)] rfl ?_ ?_)
  |((refine bf ?_);(have hE:=XY hI0 ‹decide ((i:Int)<(m:Int))=false› ‹isT sKet l1=false›);(obtain⟨rfl,rfl⟩:=hE);refine aQ ?_;refine fin_step' [(1000000,1000000)] rfl ?_ ?_)
  |((refine jo ?_);(have hE:=XX hI0 ‹decide ((i:Int)<(m:Int))=false› ‹isT sKet l1=true›);(obtain⟨rfl,rfl⟩:=hE);refine gK ?_;(conv=>whnf);refine fin_step' [(1000000,1000000)] rfl ?_ ?_)
  |exact trivial
  |refine BrI.intro (λh=>?_) (λh=>?_)
  |((refine aN.mk 0 ?_);refine⟨jE (λ(q:(Nat)×(List Ex)×(List Tk)×(Nat))=>match q with |(i,xs,l1,j)=>[(23,.data (.val (.int .i64 (i:Nat))))]) (λ(q:(Nat)×(List Ex)×(List Tk)×(Nat))=>match q with |(i,xs,l1,j)=>[(8,.cells [.data (.i k),.data (.str s1),.data (.i 0),.data (.i 0),.gs 900008 5 (xs.map Ex.cs)]),(900008,.tok 5 (xs.map Ex.cs).length),(1000000,pB l1 e d)]) [0,8,22] (λ(q:(Nat)×(List Ex)×(List Tk)×(Nat))=>match q with |(i,xs,l1,j)=>AI u k s1 (o,l') m i j xs l1) (λ(q:(Nat)×(List Ex)×(List Tk)×(Nat))=>match q with |(i,xs,l1,j)=>j),?_⟩;refine dI ((0),([]),(l1.drop 1),(m)) ?_ ?_ (λ⟨i,xs,l1,j⟩ hI0=>?_))
  |(refine aG.l _ ?_)
  |((refine dO ?_ ?_ ?_ ?_ ?_ ?_)<;>exact rfl)
  |((refine eG ?_ ?_ ?_ ?_)<;>exact rfl)
  |((refine app_step' ?_ ?_ ?_ ?_ ?_ ?_ ?_);exact rfl;exact rfl;exact rfl;exact rfl)
  |((refine aI ?_ ?_);kernel_rfl)
  |((refine gY ?_ ?_);kernel_rfl)
  |(refine And.intro ?_ ?_)
  |((refine qR ?_ ?_ ?_);exact rfl;exact rfl;(first |exact bT |skip))
  |((refine fJ ?_ ?_);exact rfl;(first |exact bT |skip))
  |exact @rfl AV _
  |exact fK rfl
  |fail)
 all_goals first
  |((exact Zw hM ‹isT sPar l=true› h_s ‹isT sComma l1=true›))
  |((exact D7 (X0 ‹decide ((i:Int)<(m:Int))=true› hm)))
  |((exact RY hI0 hm))
  |((exact Si))
  |skip
end Go.Proofs.YtmfehangcmbidaaGreatDoor
