/- Contracts: package syntax: the parser's tokens. -/
import Derived.Test.YtmfehangcmbidaaGreatDoorZDS
set_option linter.unusedSectionVars false
set_option linter.unusedSimpArgs false
set_option linter.unusedVariables false
set_option maxHeartbeats 400000
namespace Go.Proofs.YtmfehangcmbidaaGreatDoor
open Go.Fw Go.Fw.Lx Go.Fw.Sy
set_option maxRecDepth 10000
variable [ae]
theorem z1f(s:Sy.Str)(l:List Tk)(e d:Int)  : aj Tryz.prog 158 [.ptr [.sl 4 (l.map Tk.cs),.i e,.i d],.str s] (.ret (.b (isT s l))):=by
 refine bV Tryz.func158 ?_
 repeat' ((try(conv=>whnf))<;>first
  |((refine rQ ?_ ?_ ?_ ?_);exact⟨rfl,rfl⟩;exact rfl;(simp[lY]at hg;omega))
  |((refine aP ?_ ?_ (λhg=>?_) ?_);exact rfl)
  |((refine bH ?_ ?_);exact rfl;exact rfl)
  |(refine qo ?_;conv=>whnf)
  |fail)
 all_goals first
  |((simp only[isT,JK];cases l.isEmpty<;>cases (hd l).kind != 2<;>rfl))
  |skip
theorem jh(l:List Tk)(e d:Int)  : aj Tryz.prog 111 [.ptr [.sl 4 (l.map Tk.cs),.i e,.i d]] (.ret (.b (fZ l))):=by
 refine bV Tryz.func111 ?_
 repeat' ((try(conv=>whnf))<;>first
  |((refine rQ ?_ ?_ ?_ ?_);exact⟨rfl,rfl⟩;exact rfl;(simp[lY]at hg;omega))
  |((refine aP ?_ ?_ (λhg=>?_) ?_);exact rfl)
  |((refine bH ?_ ?_);exact rfl;exact rfl)
  |(refine qo ?_;conv=>whnf)
  |fail)
 all_goals first
  |((simp only[fZ,JK];cases l.isEmpty<;>cases (hd l).kind==2<;>rfl))
  |skip
theorem Px   : aj Tryz.prog 160 [] (.ret (strs words)):=by
 refine bV Tryz.func160 ?_
 repeat' ((try(conv=>whnf))<;>first
  |(refine aB.l _ ?_)
  |(refine qo ?_;conv=>whnf)
  |fail)
 all_goals first
  |(rfl)
  |skip
theorem J3(l:List Sy.Str)(v:Sy.Str)  : aj Tryz.prog 173 [strs l,.str v] (.ret (.i (Fz v l 0))):=by
 refine dM Tryz.func173 λhf=>?_
 have hlen:l.length<=9223372036854775807:=by simpa using(hf (.sl 1 (l.map ui)) (by simp)).sl.1
 clear hf
 repeat' ((try(conv=>whnf))<;>first
  |exact trivial
  |exact ah hd0 ‹_›
  |refine bz hd0 ?_
  |refine aS hd0 ?_
  |refine BrI.intro (λh=>?_) (λh=>?_)
  |((refine ak.mk 0 ?_);refine⟨aF (l) 8 (λ(_:Unit)=>[]) (λ(_:Unit)=>[]) [0,1,7] (λi0 r0 _=>Fz v l 0=Fz v r0 i0),?_⟩;refine ag () ?_ ?_ (λi0 (_:Unit) hd0 hI0=>?_) (λi0 x0 r0 (_:Unit) hd0 hl0 hI0=>?_))
  |(refine af hd0 () ?_ ?_)
  |((refine aJ ?_ ?_ ?_ ?_ ?_);exact rfl;exact rfl;rotate_left;(exact aA hd0))
  |(refine qo ?_;conv=>whnf)
  |(refine And.intro ?_ ?_)
  |exact @rfl AV _
  |fail)
 all_goals first
  |(rw[hI0];(try simp only[Fz,Bool.not_true,Bool.not_false,Bool.and_true,Bool.true_and,Bool.and_false,Bool.false_and,Bool.or_true,Bool.true_or,Bool.or_false,Bool.false_or,if_true,if_false,reduceIte,Bool.false_eq_true,Bool.not_not,Bool.not_eq_true',beq_self_eq_true,List.all_cons,List.all_nil,List.any_cons,List.any_nil,List.length_map,bne,eq_self,Int.toNat_zero, *]);first |done |rfl)
  |(simp_all[Fz])
  |skip
theorem UM(l:List Sy.Str)(v:Sy.Str)  : aj Tryz.prog 159 [strs l,.str v] (.ret (.b (decide (Fz v l 0>=0)))):=by
 refine bV Tryz.func159 ?_
 repeat' ((try(conv=>whnf))<;>first
  |((refine ai ?_ ?_ ?_);rotate_left;(exact J3 _ _))
  |(refine qo ?_;conv=>whnf)
  |fail)
 all_goals first
  |skip
theorem uf(l:List Tk)(e d:Int)  : aj Tryz.prog 135 [.ptr [.sl 4 (l.map Tk.cs),.i e,.i d]] (.ret (.b (IQ l))):=by
 refine bV Tryz.func135 ?_
 repeat' ((try(conv=>whnf))<;>first
  |((refine rQ ?_ ?_ ?_ ?_);exact⟨rfl,rfl⟩;exact rfl;(simp[lY]at hg;omega))
  |((refine ai ?_ ?_ ?_);rotate_left;(first |exact Px |exact UM _ _))
  |((refine nM ?_ ?_ (λhg=>?_) ?_);exact rfl)
  |((refine bH ?_ ?_);exact rfl;exact rfl)
  |((refine aH ?_ ?_);kernel_rfl)
  |(refine qo ?_;conv=>whnf)
  |fail)
 all_goals first
  |((simp only[IQ,JK,Wx];cases l.isEmpty<;>cases (hd l).kind==1<;>rfl))
  |skip
theorem iD(s:Sy.Str)(l:List Tk)(e d:Int)  : ax Tryz.prog 133 [.ptr 1000000 0,.data (.str s)] [(1000000,pB l e d)] (.ret (.data (.b (isT s l)))) [(1000000,pB (bif isT s l then l.drop 1 else l) e d)]:=by
 refine bg Tryz.func133 ?_
 repeat' ((try(conv=>whnf))<;>first
  |exact trivial
  |refine BrI.intro (λh=>?_) (λh=>?_)
  |((refine qA ?_ ?_ ?_);exact⟨rfl,rfl⟩;exact z6o (nT h))
  |((refine ed ?_ ?_);exact rfl)
  |((refine dZ ?_ ?_ ?_);rotate_left;(exact z1f _ _ _ _))
  |((refine aC ?_);refine fin_step' [(1000000,1000000)] rfl ?_ ?_)
  |(refine And.intro ?_ ?_)
  |fail)
 all_goals first
  |((rw[h];exact congrArg (D.sl 4) Wv))
  |((rw[h];rfl))
  |skip
theorem jO(l:List Tk)(e d:Int)  : ax Tryz.prog 134 [.ptr 1000000 0] [(1000000,pB l e d)] (.pan (.data (kX 119 e l))) [(1000000,pB l e d)]:=by
 refine bg Tryz.func134 ?_
 repeat' ((try(conv=>whnf))<;>first
  |exact trivial
  |refine BrI.intro (λh=>?_) (λh=>?_)
  |((refine rQ ?_ ?_ ?_ ?_);exact⟨rfl,rfl⟩;exact rfl;(simp at h;omega))
  |((refine fJ ?_);refine fin_step' [(1000000,1000000)] rfl ?_ ?_)
  |(refine And.intro ?_ ?_)
  |fail)
 all_goals first
  |((exact Wy h))
  |((exact TF h))
  |skip
theorem Py(ws:List Sy.Str)(l:List Tk)(e d:Int)(o:Option Unit)(l':List Tk)(hlen:ws.length<=9223372036854775807)(hM:Ew ws l=(o,l')):ax Tryz.prog 108 [.ptr 1000000 0,.gs 1000001 1 (ws.map ui)] [(1000000,pB l e d),(1000001,.tok 1 (ws.map ui).length)] (jZ 119 (λ_:Unit=>.tuple []) e o l') [(1000000,pB l' e d),(1000001,.tok 1 (ws.map ui).length)]:=by
 refine bg Tryz.func108 ?_
 repeat' ((try(conv=>whnf))<;>first
  |((refine nU ?_ ?_);exact rfl)
  |((refine mP ?_ ?_);exact rfl)
  |((refine BD (λs l=>iD s l e d) ?_);refine⟨_,_,_,rfl,rfl,rfl,λhT _=>?_,λhT=>?_⟩)
  |((refine Hf (λl=>jO l e d) ?_);refine⟨_,_,rfl,rfl,rfl,?_⟩)
  |((refine jv ?_);(try simp only[Bool.not_true,Bool.not_false,cond_true,cond_false,bne,Bool.not_eq_true',Bool.not_eq_false']at *);(rw[hI0]at hM);(simp only[Ew,reduceIte,Bool.false_eq_true, *]at hM);(obtain⟨rfl,rfl⟩:=fE hM);refine gV ?_;(conv=>whnf);refine fin_step' [(1000000,1000000),(1000001,1000001)] rfl ?_ ?_)
  |((refine bi ?_);(try simp only[Bool.not_true,Bool.not_false,cond_true,cond_false,bne,Bool.not_eq_true',Bool.not_eq_false']at *);(rw[hI0]at hM);(simp only[Ew,reduceIte,Bool.false_eq_true, *]at hM);(obtain⟨rfl,rfl⟩:=fE hM);refine aT ?_;refine fin_step' [(1000000,1000000),(1000001,1000001)] rfl ?_ ?_)
  |exact trivial
  |exact ah hd0 ‹_›
  |refine bz hd0 ?_
  |refine aS hd0 ?_
  |((refine ak.mk 0 ?_);refine⟨aF (ws) 8 (λ(l1:(List Tk))=>[]) (λ(l1:(List Tk))=>[(1000000,pB l1 e d)]) [0,6,7] (λi0 r0 l1=>Ew ws l=Ew r0 l1),?_⟩;refine ag (l) ?_ ?_ (λi0 (l1:(List Tk)) hd0 hI0=>?_) (λi0 x0 r0 (l1:(List Tk)) hd0 hl0 hI0=>?_))
  |(refine af hd0 (l1.drop 1) ?_ ?_)
  |((refine aJ ?_ ?_ ?_ ?_ ?_);exact rfl;exact rfl;rotate_left;(exact aA hd0))
  |(refine And.intro ?_ ?_)
  |exact @rfl AV _
  |fail)
 all_goals first
  |((rw[hI0];simp only[Ew,hT,if_true]))
  |skip
theorem iE(s:Sy.Str)(l:List Tk)(e d:Int)(o:Option Unit)(l':List Tk)(hM:aN s l=(o,l')):ax Tryz.prog 108 [.ptr 1000000 0,.gs 1000001 1 [[.str s]]] [(1000000,pB l e d),(1000001,.tok 1 1)] (jZ 119 (λ_:Unit=>.tuple []) e o l') [(1000000,pB l' e d),(1000001,.tok 1 1)]:=
 Py [s] l e d o l' (by simp) (by rw[TD];exact hM)
theorem jP(l:List Tk)(e d:Int)(o:Option (Sy.Str))(l':List Tk)(hM:kU l=(o,l')):ax Tryz.prog 109 [.ptr 1000000 0] [(1000000,pB l e d)] (jZ 119 (λs=>.str s) e o l') [(1000000,pB l' e d)]:=by
 refine bg Tryz.func109 ?_
 repeat' ((try(conv=>whnf))<;>first
  |((refine Hf (λl=>jO l e d) ?_);refine⟨_,_,rfl,rfl,rfl,?_⟩)
  |((refine jv ?_);(try simp only[Bool.not_true,Bool.not_false,cond_true,cond_false,bne,Bool.not_eq_true',Bool.not_eq_false']at *);(simp only[kU,reduceIte,Bool.false_eq_true, *]at hM);(obtain⟨rfl,rfl⟩:=fE hM);refine gV ?_;(conv=>whnf);refine fin_step' [(1000000,1000000)] rfl ?_ ?_)
  |((refine bi ?_);(try simp only[Bool.not_true,Bool.not_false,cond_true,cond_false,bne,Bool.not_eq_true',Bool.not_eq_false']at *);(simp only[kU,reduceIte,Bool.false_eq_true, *]at hM);(obtain⟨rfl,rfl⟩:=fE hM);refine aT ?_;refine fin_step' [(1000000,1000000)] rfl ?_ ?_)
  |exact trivial
  |refine BrI.intro (λh=>?_) (λh=>?_)
  |((refine rQ ?_ ?_ ?_ ?_);exact⟨rfl,rfl⟩;exact rfl;(exact MH (by simpa using h)))
  |((refine qA ?_ ?_ ?_);exact⟨rfl,rfl⟩;exact z6o (MH (by simpa using h)))
  |((refine ed ?_ ?_);exact rfl)
  |((refine dZ ?_ ?_ ?_);rotate_left;(exact uf _ _ _))
  |(refine And.intro ?_ ?_)
  |fail)
 all_goals first
  |((exact congrArg (D.sl 4) Wv))
  |skip
theorem iM(l:List Tk)(e d:Int)(o:Option (Int))(l':List Tk)(hM:tK l=(o,l')):ax Tryz.prog 110 [.ptr 1000000 0] [(1000000,pB l e d)] (jZ 119 (λn=>.i n) e o l') [(1000000,pB l' e d)]:=by
 refine bg Tryz.func110 ?_
 repeat' ((try(conv=>whnf))<;>first
  |((refine Hf (λl=>jO l e d) ?_);refine⟨_,_,rfl,rfl,rfl,?_⟩)
  |((refine jv ?_);(try simp only[Bool.not_true,Bool.not_false,cond_true,cond_false,bne,Bool.not_eq_true',Bool.not_eq_false']at *);(simp only[tK,reduceIte,Bool.false_eq_true, *]at hM);(obtain⟨rfl,rfl⟩:=fE hM);refine gV ?_;(conv=>whnf);refine fin_step' [(1000000,1000000)] rfl ?_ ?_)
  |((refine bi ?_);(try simp only[Bool.not_true,Bool.not_false,cond_true,cond_false,bne,Bool.not_eq_true',Bool.not_eq_false']at *);(simp only[tK,reduceIte,Bool.false_eq_true, *]at hM);(obtain⟨rfl,rfl⟩:=fE hM);refine aT ?_;refine fin_step' [(1000000,1000000)] rfl ?_ ?_)
  |exact trivial
  |refine BrI.intro (λh=>?_) (λh=>?_)
  |((refine rQ ?_ ?_ ?_ ?_);exact⟨rfl,rfl⟩;exact rfl;(exact Ap (by simpa using h)))
  |((refine qA ?_ ?_ ?_);exact⟨rfl,rfl⟩;exact z6o (Ap (by simpa using h)))
  |((refine ed ?_ ?_);exact rfl)
  |((refine dZ ?_ ?_ ?_);rotate_left;(exact jh _ _ _))
  |(refine And.intro ?_ ?_)
  |fail)
 all_goals first
  |((exact congrArg (D.sl 4) Wv))
  |skip
theorem x9(l:List Tk)(e d:Int)(o:Option (Int))(l':List Tk)(hM:IR l=(o,l')):ax Tryz.prog 139 [.ptr 1000000 0] [(1000000,pB l e d)] (jZ 119 (λn=>.i n) e o l') [(1000000,pB l' e d)]:=by
 refine bg Tryz.func139 ?_
 repeat' ((try(conv=>whnf))<;>first
  |((refine BD (λs l=>iD s l e d) ?_);refine⟨_,_,_,rfl,rfl,rfl,λhT _=>?_,λhT=>?_⟩)
  |((refine kG (d:=d) [] (λl=>iM l e d) ?_);refine⟨_,_,rfl,rfl,rfl,λn l1 h_n=>?_,λl1 h_n=>?_⟩)
  |((refine nU ?_ ?_);exact rfl)
  |((refine mP ?_ ?_);exact rfl)
  |((refine jv ?_);(try simp only[Bool.not_true,Bool.not_false,cond_true,cond_false,bne,Bool.not_eq_true',Bool.not_eq_false']at *);(simp only[IR,bnd,reduceIte,Bool.false_eq_true, *]at hM);(obtain⟨rfl,rfl⟩:=fE hM);refine gV ?_;(conv=>whnf);refine fin_step' [(1000000,1000000)] rfl ?_ ?_)
  |((refine bi ?_);(try simp only[Bool.not_true,Bool.not_false,cond_true,cond_false,bne,Bool.not_eq_true',Bool.not_eq_false']at *);(simp only[IR,bnd,reduceIte,Bool.false_eq_true, *]at hM);(obtain⟨rfl,rfl⟩:=fE hM);refine aT ?_;refine fin_step' [(1000000,1000000)] rfl ?_ ?_)
  |exact trivial
  |(refine And.intro ?_ ?_)
  |fail)
 all_goals first
  |skip
theorem Ig(u:PM Ex)(e d:Int)(l:List Tk)(o:Option (Ex))(l':List Tk)(hu:(∀l o l',u l=(o,l')->ax Tryz.prog 181 [.ptr 1000000 0] [(1000000,pB l e d)] (jZ 119 Ex.d e o l') [(1000000,pB l' e d)]))(hs:Sh u)(hM:lC u l=(o,l')):ax Tryz.prog 180 [.ptr 1000000 0] [(1000000,pB l e d)] (jZ 119 Ex.d e o l') [(1000000,pB l' e d)]:=by
 refine bg Tryz.func180 ?_
 repeat' ((try(conv=>whnf))<;>first
  |((refine iP _ _ _ [true,true,true] ?_ ?_ ?_);exact rfl;kernel_rfl)
  |((refine iP _ _ _ [false,false,true,true] ?_ ?_ ?_);exact rfl;kernel_rfl)
  |((refine quiet_step ?_ ?_);kernel_rfl)
  |((refine nU ?_ ?_);exact rfl)
  |((refine mP ?_ ?_);exact rfl)
  |((refine BD (λs l=>iD s l e d) ?_);refine⟨_,_,_,rfl,rfl,rfl,λhT _=>?_,λhT=>?_⟩)
  |((refine Hf (λl=>jO l e d) ?_);refine⟨_,_,rfl,rfl,rfl,?_⟩)
  |((refine kG (d:=d) [] (λl=>hu l) ?_);refine⟨_,_,rfl,rfl,rfl,λy l2 h_y=>?_,λl2 h_y=>?_⟩)
  |((refine kG (d:=d) [] (λl=>iM l e d) ?_);refine⟨_,_,rfl,rfl,rfl,λk l3 h_k=>?_,λl3 h_k=>?_⟩)
  |(refine bD (.mk 18 [] 0 k [x],l3,n-1) ?_ ?_ ?_)
  |(refine bD (ex2 17 x y,l2,n-1) ?_ ?_ ?_)
  |((refine bi ?_);(have hE:=ZC hM h_y);(obtain⟨rfl,rfl⟩:=hE);refine aT ?_;refine fin_step' [(1000000,1000000)] rfl ?_ ?_)
  |((refine bi ?_);(have hE:=ZE hI0 ‹isT mO l1=true› h_y);(obtain⟨rfl,rfl⟩:=hE);refine aT ?_;refine fin_step' [(1000000,1000000)] rfl ?_ ?_)
  |((refine bi ?_);(have hE:=ZG hI0 ‹isT mO l1=false› ‹isT kT l1=true› h);(obtain⟨rfl,rfl⟩:=hE);refine aT ?_;refine fin_step' [(1000000,1000000)] rfl ?_ ?_)
  |((refine bi ?_);(have hE:=ZH hI0 ‹isT mO l1=false› ‹isT kT l1=true› h h_k);(obtain⟨rfl,rfl⟩:=hE);refine aT ?_;refine fin_step' [(1000000,1000000)] rfl ?_ ?_)
  |((refine jv ?_);(have hE:=z3n hI0 ‹isT mO l1=false› ‹isT kT l1=false›);(obtain⟨rfl,rfl⟩:=hE);refine gV ?_;(conv=>whnf);refine fin_step' [(1000000,1000000)] rfl ?_ ?_)
  |exact trivial
  |refine BrI.intro (λh=>?_) (λh=>?_)
  |((refine rQ ?_ ?_ ?_ ?_);exact⟨rfl,rfl⟩;exact rfl;(exact Ap (by simpa[lY]using hg)))
  |((refine ak.mk 0 ?_);refine⟨jI (λ(q:(Ex)×(List Tk)×(Nat))=>match q with |(x,l1,n)=>[]) (λ(q:(Ex)×(List Tk)×(Nat))=>match q with |(x,l1,n)=>[(3,.cells [.data (.i x.kind),.data (.str x.name),.data (.i x.index),.data (.i x.n),.data (.sl 5 (Ex.css x.l))]),(1000000,pB l1 e d)]) [0,2,3] (λ(q:(Ex)×(List Tk)×(Nat))=>match q with |(x,l1,n)=>LI (prodL u) (o,l') n x l1) (λ(q:(Ex)×(List Tk)×(Nat))=>match q with |(x,l1,n)=>n),?_⟩;refine dD ((y),(l2),(l2.length)) ?_ ?_ (λ⟨x,l1,n⟩ hI0=>?_))
  |((refine ed ?_ ?_);exact rfl)
  |((refine dZ ?_ ?_ ?_);rotate_left;(exact jh _ _ _))
  |(refine aB.l _ ?_)
  |((refine aP ?_ ?_ (λhg=>?_) ?_);exact rfl)
  |((refine bH ?_ ?_);exact rfl;exact rfl)
  |((refine aH ?_ ?_);kernel_rfl)
  |((refine je ?_ ?_);kernel_rfl)
  |(refine And.intro ?_ ?_)
  |exact @rfl AV _
  |fail)
 all_goals first
  |((exact z3m hM h_y))
  |((exact ZF hs hI0 ‹isT mO l1=true› h_y))
  |((exact ZI hI0 ‹isT mO l1=false› ‹isT kT l1=true› h h_k))
  |((exact Wu hI0 ‹isT mO l1=true›))
  |((exact Wu hI0 ‹isT kT l1=true›))
  |((exact z9p x))
  |((exact z9h x y))
  |skip
theorem Xp(u:PM Ex)(e d:Int)(l:List Tk)(o:Option (Ex))(l':List Tk)(hu:(∀l o l',(lC u) l=(o,l')->ax Tryz.prog 180 [.ptr 1000000 0] [(1000000,pB l e d)] (jZ 119 Ex.d e o l') [(1000000,pB l' e d)]))(hs:Sh u)(hM:sumM u l=(o,l')):ax Tryz.prog 174 [.ptr 1000000 0] [(1000000,pB l e d)] (jZ 119 Ex.d e o l') [(1000000,pB l' e d)]:=by
 refine bg Tryz.func174 ?_
 repeat' ((try(conv=>whnf))<;>first
  |((refine iP _ _ _ [true,true,true] ?_ ?_ ?_);exact rfl;kernel_rfl)
  |((refine quiet_step ?_ ?_);kernel_rfl)
  |((refine nU ?_ ?_);exact rfl)
  |((refine mP ?_ ?_);exact rfl)
  |((refine BD (λs l=>iD s l e d) ?_);refine⟨_,_,_,rfl,rfl,rfl,λhT _=>?_,λhT=>?_⟩)
  |((refine kG (d:=d) [] (λl=>hu l) ?_);refine⟨_,_,rfl,rfl,rfl,λy l2 h_y=>?_,λl2 h_y=>?_⟩)
  |(refine bD (ex2 15 x y,l2,n-1) ?_ (z3q hs hI0 ‹isT oG l1=true› h_y) ?_)
  |(refine bD (ex2 16 x y,l2,n-1) ?_ (z3s hs hI0 ‹isT oG l1=false› ‹isT fA l1=true› h_y) ?_)
  |((refine bi ?_);(have hE:=z3o hM h_y);(obtain⟨rfl,rfl⟩:=hE);refine aT ?_;refine fin_step' [(1000000,1000000)] rfl ?_ ?_)
  |((refine bi ?_);(have hE:=z3p hI0 ‹isT oG l1=true› h_y);(obtain⟨rfl,rfl⟩:=hE);refine aT ?_;refine fin_step' [(1000000,1000000)] rfl ?_ ?_)
  |((refine bi ?_);(have hE:=z3r hI0 ‹isT oG l1=false› ‹isT fA l1=true› h_y);(obtain⟨rfl,rfl⟩:=hE);refine aT ?_;refine fin_step' [(1000000,1000000)] rfl ?_ ?_)
  |((refine jv ?_);(have hE:=z7d hI0 ‹isT oG l1=false› ‹isT fA l1=false›);(obtain⟨rfl,rfl⟩:=hE);refine gV ?_;(conv=>whnf);refine fin_step' [(1000000,1000000)] rfl ?_ ?_)
  |exact trivial
  |((refine ak.mk 0 ?_);refine⟨jI (λ(q:(Ex)×(List Tk)×(Nat))=>match q with |(x,l1,n)=>[]) (λ(q:(Ex)×(List Tk)×(Nat))=>match q with |(x,l1,n)=>[(3,.cells [.data (.i x.kind),.data (.str x.name),.data (.i x.index),.data (.i x.n),.data (.sl 5 (Ex.css x.l))]),(1000000,pB l1 e d)]) [0,2,3] (λ(q:(Ex)×(List Tk)×(Nat))=>match q with |(x,l1,n)=>LI (sumL u) (o,l') n x l1) (λ(q:(Ex)×(List Tk)×(Nat))=>match q with |(x,l1,n)=>n),?_⟩;refine dD ((y),(l2),(l2.length)) ?_ ?_ (λ⟨x,l1,n⟩ hI0=>?_))
  |(refine aB.l _ ?_)
  |((refine aH ?_ ?_);kernel_rfl)
  |((refine je ?_ ?_);kernel_rfl)
  |(refine And.intro ?_ ?_)
  |exact @rfl AV _
  |fail)
 all_goals first
  |((exact z7c hM h_y))
  |((exact Wu hI0 ‹isT oG l1=true›))
  |((exact Wu hI0 ‹isT fA l1=true›))
  |((exact z9h x y))
  |skip
theorem Pz(u:PM Ex)(e d:Int)(n:Nat)(l:List Tk)(o:Option (Ex))(l':List Tk)(hS:(∀l o l',(sumM u) l=(o,l')->ax Tryz.prog 174 [.ptr 1000000 0] [(1000000,pB l e d)] (jZ 119 Ex.d e o l') [(1000000,pB l' e d)]))(hs:Sh u)(hn:l.length<n)(hM:exprF u n l=(o,l')):ax Tryz.prog 161 [.ptr 1000000 0] [(1000000,pB l e d)] (jZ 119 Ex.d e o l') [(1000000,pB l' e d)]:=by
 induction n generalizing l o l' with
 |zero=>exact absurd hn (Nat.not_lt_zero _)
 |succ n ih=>?_
 refine bg Tryz.func161 ?_
 repeat' ((try(conv=>whnf))<;>first
  |((refine nU ?_ ?_);exact rfl)
  |((refine mP ?_ ?_);exact rfl)
  |((refine BD (λs l=>iD s l e d) ?_);refine⟨_,_,_,rfl,rfl,rfl,λhT _=>?_,λhT=>?_⟩)
  |((refine BF (λs l=>iE s l e d) ?_);refine⟨_,_,_,_,rfl,rfl,rfl,rfl,rfl,λhW _=>?_,λhW=>?_⟩)
  |((refine z3u (d:=d) (λ_=>True) (X7 hs) (λl o l' _=>hS l o l') ?_);refine⟨_,_,rfl,rfl,rfl,trivial,λa l1 h_a _=>?_,λl1 h_a=>?_⟩)
  |((refine z3u (d:=d) (λl=>l.length<n) (Wq hs n) (λl o l' hl=>ih l o l' hl) ?_);refine⟨_,_,rfl,rfl,rfl,by(simp only[List.length_drop]at *;omega),λc l3 h_c _=>?_,λl3 h_c=>?_⟩)
  |((refine app_step' ?_ ?_ ?_ ?_ ?_ ?_ ?_);exact rfl;exact rfl;exact rfl;exact rfl)
  |((refine jv ?_);(try simp only[Bool.not_true,Bool.not_false,cond_true,cond_false,bne,Bool.not_eq_true',Bool.not_eq_false']at *);(simp only[exprF,bnd,aN,reduceIte,Bool.false_eq_true, *]at hM);(obtain⟨rfl,rfl⟩:=fE hM);refine gV ?_;(conv=>whnf);refine fin_step' [(1000000,1000000)] rfl ?_ ?_)
  |((refine bi ?_);(try simp only[Bool.not_true,Bool.not_false,cond_true,cond_false,bne,Bool.not_eq_true',Bool.not_eq_false']at *);(simp only[exprF,bnd,aN,reduceIte,Bool.false_eq_true, *]at hM);(obtain⟨rfl,rfl⟩:=fE hM);refine aT ?_;refine fin_step' [(1000000,1000000)] rfl ?_ ?_)
  |exact trivial
  |(refine aB.l _ ?_)
  |(refine And.intro ?_ ?_)
  |exact eX rfl
  |fail)
 all_goals first
  |((exact WA))
  |skip
theorem PD(u:PM Ex)(e d:Int)(k:Int)(m:Nat)(l:List Tk)(o:Option (Ex))(l':List Tk)(hE:(∀l o l',(tN u) l=(o,l')->ax Tryz.prog 161 [.ptr 1000000 0] [(1000000,pB l e d)] (jZ 119 Ex.d e o l') [(1000000,pB l' e d)]))(hs:Sh u)(hm:m<=2)(hM:oH u k m false l=(o,l')):ax Tryz.prog 183 [.ptr 1000000 0,.data (.i k),.data (.i (m:Int)),.data (.b false)] [(1000000,pB l e d)] (jZ 119 Ex.d e o l') [(1000000,pB l' e d)]:=by
 refine bg Tryz.func183 ?_
 repeat' ((try(conv=>whnf))<;>first
  |((refine iP _ _ _ [true,true,true,true] ?_ ?_ ?_);exact rfl;kernel_rfl)
  |((refine quiet_step ?_ ?_);kernel_rfl)
  |((refine mP ?_ ?_);exact rfl)
  |((refine BF (λs l=>iE s l e d) ?_);refine⟨_,_,_,_,rfl,rfl,rfl,rfl,rfl,λhW _=>?_,λhW=>?_⟩)
  |((refine kG (d:=d) [] (λl=>hE l) ?_);refine⟨_,_,rfl,rfl,rfl,λx l2 h_x=>?_,λl2 h_x=>?_⟩)
  |(refine bD (i+1,xs++[x],l2,j-1) ?_ (X8 hI0 ‹decide ((i:Int)<(m:Int))=true› ‹decide ((i:Int)>0)=true› ‹isT aU l1=true› h_x) (MJ hI0 ‹decide ((i:Int)<(m:Int))=true›))
  |(refine bD (i+1,xs++[x],l2,j-1) ?_ (X9 hI0 ‹decide ((i:Int)<(m:Int))=true› ‹decide ((i:Int)>0)=false› h_x) (MJ hI0 ‹decide ((i:Int)<(m:Int))=true›))
  |((refine bi ?_);(have hE:=TG hM ‹isT nN l=false›);(obtain⟨rfl,rfl⟩:=hE);refine aT ?_;refine fin_step' [(1000000,1000000)] rfl ?_ ?_)
  |((refine bi ?_);(have hE:=Ya hI0 ‹decide ((i:Int)<(m:Int))=true› ‹decide ((i:Int)>0)=true› ‹isT aU l1=false›);(obtain⟨rfl,rfl⟩:=hE);refine aT ?_;refine fin_step' [(1000000,1000000)] rfl ?_ ?_)
  |((refine bi ?_);(have hE:=Yb hI0 ‹decide ((i:Int)<(m:Int))=true› ‹decide ((i:Int)>0)=true› ‹isT aU l1=true› h_x);(obtain⟨rfl,rfl⟩:=hE);refine aT ?_;refine fin_step' [(1000000,1000000)] rfl ?_ ?_)
  |((refine bi ?_);(have hE:=Yc hI0 ‹decide ((i:Int)<(m:Int))=true› ‹decide ((i:Int)>0)=false› h_x);(obtain⟨rfl,rfl⟩:=hE);refine aT ?_;refine fin_step' [(1000000,1000000)] rfl ?_ ?_)
  |((refine bi ?_);(have hE:=Ye hI0 ‹decide ((i:Int)<(m:Int))=false› ‹isT uj l1=false›);(obtain⟨rfl,rfl⟩:=hE);refine aT ?_;refine fin_step' [(1000000,1000000)] rfl ?_ ?_)
  |((refine jv ?_);(have hE:=Yd hI0 ‹decide ((i:Int)<(m:Int))=false› ‹isT uj l1=true›);(obtain⟨rfl,rfl⟩:=hE);refine gV ?_;(conv=>whnf);refine fin_step' [(1000000,1000000)] rfl ?_ ?_)
  |exact trivial
  |refine BrI.intro (λh=>?_) (λh=>?_)
  |((refine ak.mk 0 ?_);refine⟨jI (λ(q:(Nat)×(List Ex)×(List Tk)×(Nat))=>match q with |(i,xs,l1,j)=>[(23,.data (.val (.int .i64 (i:Nat))))]) (λ(q:(Nat)×(List Ex)×(List Tk)×(Nat))=>match q with |(i,xs,l1,j)=>[(8,.cells [.data (.i k),.data (.str []),.data (.i 0),.data (.i 0),.gs 900008 5 (xs.map Ex.cs)]),(900008,.tok 5 (xs.map Ex.cs).length),(1000000,pB l1 e d)]) [0,8,22] (λ(q:(Nat)×(List Ex)×(List Tk)×(Nat))=>match q with |(i,xs,l1,j)=>AI u k [] (o,l') m i j xs l1) (λ(q:(Nat)×(List Ex)×(List Tk)×(Nat))=>match q with |(i,xs,l1,j)=>j),?_⟩;refine dD ((0),([]),(l.drop 1),(m)) ?_ ?_ (λ⟨i,xs,l1,j⟩ hI0=>?_))
  |(refine aB.l _ ?_)
  |((refine bW ?_ ?_ ?_ ?_ ?_ ?_)<;>exact rfl)
  |((refine dm ?_ ?_ ?_ ?_)<;>exact rfl)
  |((refine app_step' ?_ ?_ ?_ ?_ ?_ ?_ ?_);exact rfl;exact rfl;exact rfl;exact rfl)
  |((refine aH ?_ ?_);kernel_rfl)
  |((refine je ?_ ?_);kernel_rfl)
  |(refine And.intro ?_ ?_)
  |((refine oD ?_ ?_ ?_);exact rfl;exact rfl;(first |exact dO |skip))
  |((refine fH ?_ ?_);exact rfl;(first |exact dO |skip))
  |exact @rfl AV _
  |exact eX rfl
  |fail)
 all_goals first
  |((exact ZJ hM ‹isT nN l=true›))
  |((exact Ey (Yg ‹decide ((i:Int)<(m:Int))=true› hm)))
  |((exact TJ hI0 hm))
  |((exact TK))
  |skip
theorem UN(u:PM Ex)(e d:Int)(k:Int)(m:Nat)(l:List Tk)(o:Option (Ex))(l':List Tk)(hE:(∀l o l',(tN u) l=(o,l')->ax Tryz.prog 161 [.ptr 1000000 0] [(1000000,pB l e d)] (jZ 119 Ex.d e o l') [(1000000,pB l' e d)]))(hs:Sh u)(hm:m<=2)(hM:oH u k m true l=(o,l')):ax Tryz.prog 183 [.ptr 1000000 0,.data (.i k),.data (.i (m:Int)),.data (.b true)] [(1000000,pB l e d)] (jZ 119 Ex.d e o l') [(1000000,pB l' e d)]:=by
 refine bg Tryz.func183 ?_
 repeat' ((try(conv=>whnf))<;>first
  |((refine iP _ _ _ [true,true,true,true] ?_ ?_ ?_);exact rfl;kernel_rfl)
  |((refine quiet_step ?_ ?_);kernel_rfl)
  |((refine nU ?_ ?_);exact rfl)
  |((refine BF (λs l=>iE s l e d) ?_);refine⟨_,_,_,_,rfl,rfl,rfl,rfl,rfl,λhW _=>?_,λhW=>?_⟩)
  |((refine kG (d:=d) [] (λl=>jP l e d) ?_);refine⟨_,_,rfl,rfl,rfl,λs1 l1 h_s=>?_,λl1 h_s=>?_⟩)
  |((refine kG (d:=d) [] (λl=>hE l) ?_);refine⟨_,_,rfl,rfl,rfl,λx l2 h_x=>?_,λl2 h_x=>?_⟩)
  |(refine bD (i+1,xs++[x],l2,j-1) ?_ (X8 hI0 ‹decide ((i:Int)<(m:Int))=true› ‹decide ((i:Int)>0)=true› ‹isT aU l1=true› h_x) (MJ hI0 ‹decide ((i:Int)<(m:Int))=true›))
  |(refine bD (i+1,xs++[x],l2,j-1) ?_ (X9 hI0 ‹decide ((i:Int)<(m:Int))=true› ‹decide ((i:Int)>0)=false› h_x) (MJ hI0 ‹decide ((i:Int)<(m:Int))=true›))
  |((refine bi ?_);(have hE:=TG hM ‹isT nN l=false›);(obtain⟨rfl,rfl⟩:=hE);refine aT ?_;refine fin_step' [(1000000,1000000)] rfl ?_ ?_)
  |((refine bi ?_);(have hE:=ZL hM ‹isT nN l=true› h_s);(obtain⟨rfl,rfl⟩:=hE);refine aT ?_;refine fin_step' [(1000000,1000000)] rfl ?_ ?_)
  |((refine bi ?_);(have hE:=ZM hM ‹isT nN l=true› h_s ‹isT aU l1=false›);(obtain⟨rfl,rfl⟩:=hE);refine aT ?_;refine fin_step' [(1000000,1000000)] rfl ?_ ?_)
  |((refine bi ?_);(have hE:=Ya hI0 ‹decide ((i:Int)<(m:Int))=true› ‹decide ((i:Int)>0)=true› ‹isT aU l1=false›);(obtain⟨rfl,rfl⟩:=hE);refine aT ?_;refine fin_step' [(1000000,1000000)] rfl ?_ ?_)
  |((refine bi ?_);(have hE:=Yb hI0 ‹decide ((i:Int)<(m:Int))=true› ‹decide ((i:Int)>0)=true› ‹isT aU l1=true› h_x);(obtain⟨rfl,rfl⟩:=hE);refine aT ?_;refine fin_step' [(1000000,1000000)] rfl ?_ ?_)
  |((refine bi ?_);(have hE:=Yc hI0 ‹decide ((i:Int)<(m:Int))=true› ‹decide ((i:Int)>0)=false› h_x);(obtain⟨rfl,rfl⟩:=hE);refine aT ?_;refine fin_step' [(1000000,1000000)] rfl ?_ ?_)
  |((refine bi ?_);(have hE:=Ye hI0 ‹decide ((i:Int)<(m:Int))=false› ‹isT uj l1=false›);(obtain⟨rfl,rfl⟩:=hE);refine aT ?_;refine fin_step' [(1000000,1000000)] rfl ?_ ?_)
  |((refine jv ?_);(have hE:=Yd hI0 ‹decide ((i:Int)<(m:Int))=false› ‹isT uj l1=true›);(obtain⟨rfl,rfl⟩:=hE);refine gV ?_;(conv=>whnf);refine fin_step' [(1000000,1000000)] rfl ?_ ?_)
  |exact trivial
  |refine BrI.intro (λh=>?_) (λh=>?_)
  |((refine ak.mk 0 ?_);refine⟨jI (λ(q:(Nat)×(List Ex)×(List Tk)×(Nat))=>match q with |(i,xs,l1,j)=>[(23,.data (.val (.int .i64 (i:Nat))))]) (λ(q:(Nat)×(List Ex)×(List Tk)×(Nat))=>match q with |(i,xs,l1,j)=>[(8,.cells [.data (.i k),.data (.str s1),.data (.i 0),.data (.i 0),.gs 900008 5 (xs.map Ex.cs)]),(900008,.tok 5 (xs.map Ex.cs).length),(1000000,pB l1 e d)]) [0,8,22] (λ(q:(Nat)×(List Ex)×(List Tk)×(Nat))=>match q with |(i,xs,l1,j)=>AI u k s1 (o,l') m i j xs l1) (λ(q:(Nat)×(List Ex)×(List Tk)×(Nat))=>match q with |(i,xs,l1,j)=>j),?_⟩;refine dD ((0),([]),(l1.drop 1),(m)) ?_ ?_ (λ⟨i,xs,l1,j⟩ hI0=>?_))
  |(refine aB.l _ ?_)
  |((refine bW ?_ ?_ ?_ ?_ ?_ ?_)<;>exact rfl)
  |((refine dm ?_ ?_ ?_ ?_)<;>exact rfl)
  |((refine app_step' ?_ ?_ ?_ ?_ ?_ ?_ ?_);exact rfl;exact rfl;exact rfl;exact rfl)
  |((refine aH ?_ ?_);kernel_rfl)
  |((refine je ?_ ?_);kernel_rfl)
  |(refine And.intro ?_ ?_)
  |((refine oD ?_ ?_ ?_);exact rfl;exact rfl;(first |exact dO |skip))
  |((refine fH ?_ ?_);exact rfl;(first |exact dO |skip))
  |exact @rfl AV _
  |exact eX rfl
  |fail)
 all_goals first
  |((exact ZK hM ‹isT nN l=true› h_s ‹isT aU l1=true›))
  |((exact Ey (Yg ‹decide ((i:Int)<(m:Int))=true› hm)))
  |((exact TJ hI0 hm))
  |((exact TK))
  |skip
end Go.Proofs.YtmfehangcmbidaaGreatDoor
