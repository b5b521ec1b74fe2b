/- Contracts: package syntax: units. -/
import Derived.Test.YtmfehangcmbidaaGreatDoorZXA
set_option linter.unusedSectionVars false
set_option linter.unusedSimpArgs false
set_option linter.unusedVariables false
set_option maxHeartbeats 400000
namespace Go.Proofs.YtmfehangcmbidaaGreatDoor
open Go.Fw Go.Fw.Lx Go.Fw.Sy
set_option maxRecDepth 10000
variable [ae]
theorem qo(l:List Tk)(e d:Int)(p:Option D)(thr:Bool)(hp:thr=true\/p=none):rC Tryz.prog 182 [.ptr 1000000 0] p thr [(1000000,.cells [.ptr 1000001 0]),(1000001,pB l e d)] [(1000000,.cells [.ptr 1000001 0]),(1000001,pB l e (IntKind.i64.wrap (d-1)))]:=by
 refine FM tok hmix Tryz.func182 rfl (by kernel_rfl) (by kernel_rfl) (by kernel_rfl) hp ?_
 repeat' ((try(conv=>whnf))<;>first
  |exact trivial
  |(refine⟨([]:List (Nat×Nat)),?_⟩)
  |(refine⟨by kernel_rfl,?_⟩)
  |(refine⟨rfl,?_⟩)
  |(refine⟨?_,?_⟩)
  |fail)
theorem AQ   : aC Tryz.prog 143 [] [] (.ret (.map 1000000)) [(1000000,.map false [.str] (kW.map Ux))]:=by
 refine ag tok hmix ⟨[],[]⟩ Tryz.func143 rfl (by kernel_rfl) (by kernel_rfl) (by kernel_rfl) λhf=>?_
 clear hf
 repeat' ((try(conv=>whnf))<;>first
  |exact trivial
  |((refine ai ?_);refine fin_step' [(1000000,1)] rfl ?_ ?_)
  |(refine And.intro ?_ ?_)
  |exact @rfl AV _
  |exact @rfl Block _
  |fail)
 all_goals first
  |(rfl)
  |skip
theorem SY(e d:Int)(l:List Tk)(o:Option (Ex))(l':List Tk)(hd0:0<=d)(hd1:d<=63)(hdp:d=63)(hM:unitB none l=(o,l')):aC Tryz.prog 181 [.ptr 1000000 0] [(1000000,pB l e d)] (jT 119 Ex.d e o l') [(1000000,pB l' e d)]:=by
 refine ag tok hmix ⟨[],[]⟩ Tryz.func181 rfl (by kernel_rfl) (by kernel_rfl) (by kernel_rfl) λhf=>?_
 clear hf
 repeat' ((try(conv=>whnf))<;>first
  |((refine kX ?_ ?_);exact rfl)
  |((refine lQ ?_ ?_);exact rfl)
  |((refine AO (λs l=>ig s l e (IntKind.i64.wrap (d+1))) ?_);refine⟨_,_,_,rfl,rfl,rfl,λhT _=>?_,λhT=>?_⟩)
  |((refine Gq (λl=>jH l e d) ?_);refine⟨_,_,rfl,rfl,rfl,?_⟩)
  |((refine Gq (λl=>jH l e (IntKind.i64.wrap (d+1))) ?_);refine⟨_,_,rfl,rfl,rfl,?_⟩)
  |((refine RN (d:=(IntKind.i64.wrap (d+1))) dJ (λl=>(hd l).n) RI (λl=>iJ l e (IntKind.i64.wrap (d+1))) ?_);refine⟨_,_,rfl,rfl,rfl,λ_=>?_,λhN=>absurd (h.symm.trans hN) Bool.noConfusion⟩)
  |((refine RN (d:=(IntKind.i64.wrap (d+1))) xK (λl=>(hd l).text) RJ (λl=>jI l e (IntKind.i64.wrap (d+1))) ?_);refine⟨_,_,rfl,rfl,rfl,λ_=>?_,λhN=>absurd (h.symm.trans hN) Bool.noConfusion⟩)
  |(exact absurd h (ZA hdp))
  |((refine I5 ?_);(try simp only[Bool.not_true,Bool.not_false,cond_true,cond_false,bne,Bool.not_eq_true',Bool.not_eq_false']at *);(simp only[unitB,bnd,aF,reduceIte,Bool.false_eq_true, *]at hM);(obtain⟨rfl,rfl⟩:=fE hM);refine⟨_,_,_,[(1000000,1),(1000001,1000000)],qo _ _ _ none false (.inr rfl),rfl,⟨rfl,rfl,trivial⟩,rfl,?_⟩;(conv=>whnf);refine fin_step' [(1000000,1000000)] rfl ?_ ?_)
  |((refine bf ?_);(have hE:=Lh hM h);(obtain⟨rfl,rfl⟩:=hE);refine aQ ?_;refine fin_step' [(1000000,1000000)] rfl ?_ ?_)
  |((refine Lj ?_);(try simp only[Bool.not_true,Bool.not_false,cond_true,cond_false,bne,Bool.not_eq_true',Bool.not_eq_false']at *);(simp only[unitB,bnd,aF,reduceIte,Bool.false_eq_true, *]at hM);(obtain⟨rfl,rfl⟩:=fE hM);(refine Ht.pan rfl rfl ?_);refine⟨_,_,_,[(1000000,1),(1000001,1000000)],qo _ _ _ _ true (.inl rfl),rfl,⟨rfl,rfl,trivial⟩,rfl,?_⟩;(refine jb ?_);refine fin_step' [(1000000,1000000)] rfl ?_ ?_)
  |exact trivial
  |refine BrI.intro (λh=>?_) (λh=>?_)
  |((refine dA ?_ ?_);exact rfl)
  |((refine dw ?_ ?_ ?_);rotate_left;(first |exact je _ _ _ |exact tq _ _ _))
  |(refine And.intro ?_ ?_)
  |fail)
 all_goals first
  |(rfl)
  |((exact congrArg D.i (Gs hd0 hd1)))
  |skip
theorem S9(u:PM Ex)(e d:Int)(l:List Tk)(o:Option (Ex))(l':List Tk)(hd0:0<=d)(hd1:d<=63)(hdp:d<63)(hu:(∀l o l',u l=(o,l')->aC Tryz.prog 181 [.ptr 1000000 0] [(1000000,pB l e (IntKind.i64.wrap (d+1)))] (jT 119 Ex.d e o l') [(1000000,pB l' e (IntKind.i64.wrap (d+1)))]))(hE:(∀l o l',(jd u) l=(o,l')->aC Tryz.prog 161 [.ptr 1000000 0] [(1000000,pB l e (IntKind.i64.wrap (d+1)))] (jT 119 Ex.d e o l') [(1000000,pB l' e (IntKind.i64.wrap (d+1)))]))(hA:∀(k n:Int) (b:Bool),0<=n->n<=2->(∀l o l',iR u k n.toNat b l=(o,l')->aC Tryz.prog 183 [.ptr 1000000 0,.data (.i k),.data (.i n),.data (.b b)] [(1000000,pB l e (IntKind.i64.wrap (d+1)))] (jT 119 Ex.d e o l') [(1000000,pB l' e (IntKind.i64.wrap (d+1)))]))(hM:unitB (some u) l=(o,l')):aC Tryz.prog 181 [.ptr 1000000 0] [(1000000,pB l e d)] (jT 119 Ex.d e o l') [(1000000,pB l' e d)]:=by
 refine ag tok hmix ⟨[],[]⟩ Tryz.func181 rfl (by kernel_rfl) (by kernel_rfl) (by kernel_rfl) λhf=>?_
 clear hf
 repeat' ((try(conv=>whnf))<;>first
  |((refine kX ?_ ?_);exact rfl)
  |((refine lQ ?_ ?_);exact rfl)
  |((refine AO (λs l=>ig s l e (IntKind.i64.wrap (d+1))) ?_);refine⟨_,_,_,rfl,rfl,rfl,λhT _=>?_,λhT=>?_⟩)
  |((refine AP (λs l=>ik s l e (IntKind.i64.wrap (d+1))) ?_);refine⟨_,_,_,_,rfl,rfl,rfl,rfl,rfl,λhW _=>?_,λhW=>?_⟩)
  |((refine Gq (λl=>jH l e d) ?_);refine⟨_,_,rfl,rfl,rfl,?_⟩)
  |((refine Gq (λl=>jH l e (IntKind.i64.wrap (d+1))) ?_);refine⟨_,_,rfl,rfl,rfl,?_⟩)
  |((refine RN (d:=(IntKind.i64.wrap (d+1))) dJ (λl=>(hd l).n) RI (λl=>iJ l e (IntKind.i64.wrap (d+1))) ?_);refine⟨_,_,rfl,rfl,rfl,λ_=>?_,λhN=>absurd (h.symm.trans hN) Bool.noConfusion⟩)
  |((refine RN (d:=(IntKind.i64.wrap (d+1))) xK (λl=>(hd l).text) RJ (λl=>jI l e (IntKind.i64.wrap (d+1))) ?_);refine⟨_,_,rfl,rfl,rfl,λ_=>?_,λhN=>absurd (h.symm.trans hN) Bool.noConfusion⟩)
  |((refine kz (d:=(IntKind.i64.wrap (d+1))) [] (λl=>hu l) ?_);refine⟨_,_,rfl,rfl,rfl,λx l1 h_x=>?_,λl1 h_x=>?_⟩)
  |((refine kz (d:=(IntKind.i64.wrap (d+1))) [] (λl=>hE l) ?_);refine⟨_,_,rfl,rfl,rfl,λx l1 h_x=>?_,λl1 h_x=>?_⟩)
  |((refine lentP' (d:=(IntKind.i64.wrap (d+1))) (z4j (.i f.1) (.i f.2.1) (.b f.2.2)) (λl o l' h=>hA f.1 f.2.1 f.2.2 (XZ he).1 (XZ he).2 l o l' h) ?_);refine⟨_,_,l.drop 1,rfl,rfl,VL,rfl,λx l1 h_x=>?_,λl1 h_x=>?_⟩)
  |(exact absurd h (VQ hd0 hdp))
  |((refine I5 ?_);(try simp only[Bool.not_true,Bool.not_false,cond_true,cond_false,bne,Bool.not_eq_true',Bool.not_eq_false']at *);(simp only[unitB,bnd,aF,reduceIte,Bool.false_eq_true, *]at hM);(obtain⟨rfl,rfl⟩:=fE hM);refine⟨_,_,_,[(1000000,1),(1000001,1000000)],qo _ _ _ none false (.inr rfl),rfl,⟨rfl,rfl,trivial⟩,rfl,?_⟩;(conv=>whnf);refine fin_step' [(1000000,1000000)] rfl ?_ ?_)
  |((refine bf ?_);(have hE:=Lh hM h);(obtain⟨rfl,rfl⟩:=hE);refine aQ ?_;refine fin_step' [(1000000,1000000)] rfl ?_ ?_)
  |((refine Lj ?_);(try simp only[Bool.not_true,Bool.not_false,cond_true,cond_false,bne,Bool.not_eq_true',Bool.not_eq_false']at *);(simp only[unitB,bnd,aF,reduceIte,Bool.false_eq_true, *]at hM);(obtain⟨rfl,rfl⟩:=fE hM);(refine Ht.pan rfl rfl ?_);refine⟨_,_,_,[(1000000,1),(1000001,1000000)],qo _ _ _ _ true (.inl rfl),rfl,⟨rfl,rfl,trivial⟩,rfl,?_⟩;(refine jb ?_);refine fin_step' [(1000000,1000000)] rfl ?_ ?_)
  |exact trivial
  |refine BrI.intro (λh=>?_) (λh=>?_)
  |(refine Ld kW (λf he=>?_) (λhe=>?_))
  |((refine rH ?_ ?_ ?_ ?_);exact⟨rfl,rfl⟩;exact rfl;(exact emp_len' ‹(((l.map Tk.cs).length:Int)==0)=false›))
  |((refine qh ?_ ?_ ?_);exact⟨rfl,rfl⟩;exact z7x (emp_len' ‹(((l.map Tk.cs).length:Int)==0)=false›))
  |((refine dA ?_ ?_);exact rfl)
  |((refine dw ?_ ?_ ?_);rotate_left;(first |exact je _ _ _ |exact tq _ _ _))
  |((refine uG [(1000000,800000)] (AQ) ?_ ?_ ?_ ?_);rotate_left 0;exact rfl;(exact trivial);exact rfl)
  |(refine aG.l _ ?_)
  |((refine aT ?_ ?_ (λhg=>?_) ?_);exact rfl)
  |((refine bQ ?_ ?_);exact rfl;exact rfl)
  |((refine aI ?_ ?_);kernel_rfl)
  |(refine And.intro ?_ ?_)
  |fail)
 all_goals first
  |(rfl)
  |((exact congrArg D.i (Gs hd0 hd1)))
  |((exact VP))
  |skip
end Go.Proofs.YtmfehangcmbidaaGreatDoor
namespace Go.Proofs.YtmfehangcmbidaaGreatDoor
open Go.Fw Go.Fw.Lx Go.Fw.Sy
set_option maxRecDepth 10000
variable [ae] {u : PM Ex} {e d : Int}
theorem Ou(hu:∀l o l',u l=(o,l')->aC Tryz.prog 181 [.ptr 1000000 0] [(1000000,pB l e d)] (jT 119 Ex.d e o l') [(1000000,pB l' e d)])(hs:Sh u):∀l o l',(gm u) l=(o,l')->aC Tryz.prog 180 [.ptr 1000000 0] [(1000000,pB l e d)] (jT 119 Ex.d e o l') [(1000000,pB l' e d)]:=λl o l' h=>GH u e d l o l' hu hs h
theorem LQ(hu:∀l o l',u l=(o,l')->aC Tryz.prog 181 [.ptr 1000000 0] [(1000000,pB l e d)] (jT 119 Ex.d e o l') [(1000000,pB l' e d)])(hs:Sh u):∀l o l',(sumM u) l=(o,l')->aC Tryz.prog 174 [.ptr 1000000 0] [(1000000,pB l e d)] (jT 119 Ex.d e o l') [(1000000,pB l' e d)]:=λl o l' h=>V7 u e d l o l' (Ou hu hs) hs h
theorem wS(hu:∀l o l',u l=(o,l')->aC Tryz.prog 181 [.ptr 1000000 0] [(1000000,pB l e d)] (jT 119 Ex.d e o l') [(1000000,pB l' e d)])(hs:Sh u):∀l o l',(jd u) l=(o,l')->aC Tryz.prog 161 [.ptr 1000000 0] [(1000000,pB l e d)] (jT 119 Ex.d e o l') [(1000000,pB l' e d)]:=λl o l' h=>Oq u e d (l.length+1) l o l' (LQ hu hs) hs (Nat.lt_succ_self _) h
theorem DL(hu:∀l o l',u l=(o,l')->aC Tryz.prog 181 [.ptr 1000000 0] [(1000000,pB l e d)] (jT 119 Ex.d e o l') [(1000000,pB l' e d)])(hs:Sh u)(k n:Int)(b:Bool)(h0:0<=n)(h2:n<=2):∀l o l',iR u k n.toNat b l=(o,l')->aC Tryz.prog 183 [.ptr 1000000 0,.data (.i k),.data (.i n),.data (.b b)] [(1000000,pB l e d)] (jT 119 Ex.d e o l') [(1000000,pB l' e d)]:=by
 intro l o l' h
 have hn:((n.toNat:Nat):Int)=n:=Int.toNat_of_nonneg h0
 cases b with
 |false=>have:=Ot u e d k n.toNat l o l' (wS hu hs) hs (by omega) h;rwa[hn]at this
 |true=>have:=SX u e d k n.toNat l o l' (wS hu hs) hs (by omega) h;rwa[hn]at this
theorem GI(e:Int):∀(k:Nat) (d:Int),0<=d->d+k=63->∀l o l',(bH k) l=(o,l')->aC Tryz.prog 181 [.ptr 1000000 0] [(1000000,pB l e d)] (jT 119 Ex.d e o l') [(1000000,pB l' e d)]
 | 0,d,h0,hk,l,o,l',h=>SY e d l o l' h0 (by omega) (by omega) h
 |k+1,d,h0,hk,l,o,l',h=>by
  have hd:IntKind.i64.wrap (d+1)=d+1:=Zz h0 (by omega)
  have ih:=GI e k (IntKind.i64.wrap (d+1)) (by omega) (by omega)
  exact S9 (bH k) e d l o l' h0 (by omega) (by omega) ih (wS ih (zS k)) (λk n b h0 h2=>DL ih (zS _) k n b h0 h2) h
theorem Tc(e:Int):∀l o l',(jd (bH 63)) l=(o,l')->aC Tryz.prog 161 [.ptr 1000000 0] [(1000000,pB l e 0)] (jT 119 Ex.d e o l') [(1000000,pB l' e 0)]:=wS (GI e 63 0 (by omega) (by omega)) (zS 63)
theorem Ac(l:List Tk)(e d:Int)(o:Option (Int×Int))(l':List Tk)(hM:kM l=(o,l')):aC Tryz.prog 137 [.ptr 1000000 0] [(1000000,pB l e d)] (jT 119 (λb:Int×Int=>.tuple [.i b.1,.i b.2]) e o l') [(1000000,pB l' e d)]:=by
 refine ag tok hmix ⟨[],[]⟩ Tryz.func137 rfl (by kernel_rfl) (by kernel_rfl) (by kernel_rfl) λhf=>?_
 clear hf
 repeat' ((try(conv=>whnf))<;>first
  |((refine AP (λs l=>ik s l e d) ?_);refine⟨_,_,_,_,rfl,rfl,rfl,rfl,rfl,λhW _=>?_,λhW=>?_⟩)
  |((refine kz (d:=d) [] (λl=>xC l e d) ?_);refine⟨_,_,rfl,rfl,rfl,λn l1 h_n=>?_,λl1 h_n=>?_⟩)
  |((refine jo ?_);(try simp only[Bool.not_true,Bool.not_false,cond_true,cond_false,bne,Bool.not_eq_true',Bool.not_eq_false']at *);(simp only[kM,bnd,aF,reduceIte,Bool.false_eq_true, *]at hM);(obtain⟨rfl,rfl⟩:=fE hM);refine gK ?_;(conv=>whnf);refine fin_step' [(1000000,1000000)] rfl ?_ ?_)
  |((refine bf ?_);(try simp only[Bool.not_true,Bool.not_false,cond_true,cond_false,bne,Bool.not_eq_true',Bool.not_eq_false']at *);(simp only[kM,bnd,aF,reduceIte,Bool.false_eq_true, *]at hM);(obtain⟨rfl,rfl⟩:=fE hM);refine aQ ?_;refine fin_step' [(1000000,1000000)] rfl ?_ ?_)
  |exact trivial
  |(refine aG.l _ ?_)
  |(refine And.intro ?_ ?_)
  |fail)
 all_goals first
  |skip
theorem Ce(l:List Tk)(e d:Int)(o:Option (Bd))(l':List Tk)(hM:oV l=(o,l')):aC Tryz.prog 136 [.ptr 1000000 0] [(1000000,pB l e d)] (jT 119 (λb:Bd=>.agg b.cs) e o l') [(1000000,pB l' e d)]:=by
 refine ag tok hmix ⟨[],[]⟩ Tryz.func136 rfl (by kernel_rfl) (by kernel_rfl) (by kernel_rfl) λhf=>?_
 clear hf
 repeat' ((try(conv=>whnf))<;>first
  |((refine kz (d:=d) [] (λl=>jI l e d) ?_);refine⟨_,_,rfl,rfl,rfl,λs l1 h_s=>?_,λl1 h_s=>?_⟩)
  |((refine kz (d:=d) [] (λl=>Ac l e d) ?_);refine⟨_,_,rfl,rfl,rfl,λb l2 h_b=>?_,λl2 h_b=>?_⟩)
  |((refine jo ?_);(try simp only[Bool.not_true,Bool.not_false,cond_true,cond_false,bne,Bool.not_eq_true',Bool.not_eq_false']at *);(simp only[oV,bnd,reduceIte,Bool.false_eq_true, *]at hM);(obtain⟨rfl,rfl⟩:=fE hM);refine gK ?_;(conv=>whnf);refine fin_step' [(1000000,1000000)] rfl ?_ ?_)
  |((refine bf ?_);(try simp only[Bool.not_true,Bool.not_false,cond_true,cond_false,bne,Bool.not_eq_true',Bool.not_eq_false']at *);(simp only[oV,bnd,reduceIte,Bool.false_eq_true, *]at hM);(obtain⟨rfl,rfl⟩:=fE hM);refine aQ ?_;refine fin_step' [(1000000,1000000)] rfl ?_ ?_)
  |exact trivial
  |(refine And.intro ?_ ?_)
  |fail)
 all_goals first
  |skip
theorem Td(l:List Tk)(e d:Int)(o:Option (List Int))(l':List Tk)(hl:l.length<=1073741823)(hM:zM l=(o,l')):aC Tryz.prog 138 [.ptr 1000000 0,.fn 139 []] [(1000000,pB l e d)] (jT 119 (λl:List Int=>ints l) e o l') [(1000000,pB l' e d)]:=by
 refine ag tok hmix ⟨[],[]⟩ Tryz.func138 rfl (by kernel_rfl) (by kernel_rfl) (by kernel_rfl) λhf=>?_
 clear hf
 repeat' ((try(conv=>whnf))<;>first
  |((refine kX ?_ ?_);exact rfl)
  |((refine lQ ?_ ?_);exact rfl)
  |((refine AO (λs l=>ig s l e d) ?_);refine⟨_,_,_,rfl,rfl,rfl,λhT _=>?_,λhT=>?_⟩)
  |((refine kz (d:=d) [] (λl=>xC l e d) ?_);refine⟨_,_,rfl,rfl,rfl,λv l2 h_v=>?_,λl2 h_v=>?_⟩)
  |(refine bz (n-1,vs++[v],l2) ?_ (z4r hI0 ‹isT sComma l1=true› h_v) (ZE hI0 ‹isT sComma l1=true›))
  |((refine bf ?_);(have hE:=ZB hM h_v);(obtain⟨rfl,rfl⟩:=hE);refine aQ ?_;refine fin_step' [(1000000,1000000)] rfl ?_ ?_)
  |((refine bf ?_);(have hE:=ZC hI0 ‹isT sComma l1=true› h_v);(obtain⟨rfl,rfl⟩:=hE);refine aQ ?_;refine fin_step' [(1000000,1000000)] rfl ?_ ?_)
  |((refine jo ?_);(have hE:=z4q hI0 ‹isT sComma l1=false›);(obtain⟨rfl,rfl⟩:=hE);refine gK ?_;(conv=>whnf);refine fin_step' [(1000000,1000000)] rfl ?_ ?_)
  |exact trivial
  |((refine aN.mk 0 ?_);refine⟨jE (λ(q:(Nat)×(List Int)×(List Tk))=>match q with |(n,vs,l1)=>[(5,.gs 9 1 (vs.map Uw))]) (λ(q:(Nat)×(List Int)×(List Tk))=>match q with |(n,vs,l1)=>[(1000000,pB l1 e d),(9,.tok 1 (vs.map Uw).length)]) [0,1] (λ(q:(Nat)×(List Int)×(List Tk))=>match q with |(n,vs,l1)=>LsI (o,l') n vs l1) (λ(q:(Nat)×(List Int)×(List Tk))=>match q with |(n,vs,l1)=>n),?_⟩;refine dI ((l2.length),([v]),(l2)) ?_ ?_ (λ⟨n,vs,l1⟩ hI0=>?_))
  |(refine aG.l _ ?_)
  |((refine app_step' ?_ ?_ ?_ ?_ ?_ ?_ ?_);exact rfl;exact rfl;exact rfl;exact rfl)
  |(refine And.intro ?_ ?_)
  |((refine qR ?_ ?_ ?_);exact rfl;exact rfl;(first |exact bT |exact rfl |skip))
  |((refine fJ ?_ ?_);exact rfl;(first |exact bT |skip))
  |exact @rfl AV _
  |exact @rfl Block _
  |exact fK rfl
  |fail)
 all_goals first
  |((exact z4p hl hM h_v))
  |((exact VR hI0))
  |skip
theorem Cf(e:Int)(l:List Tk)(p:Pr)(ok:Bool)(p':Pr)(l':List Tk)(hz:Sz p l)(hM:oW p l=(ok,p',l')):aC Tryz.prog 113 [.ptr 1000000 0,.ptr 1000001 0] [(1000000,pB l e 0),(1000001,xB p),(1000002,.tok 3 (p.params.map Bd.cs).length),(1000003,.tok 3 (p.states.map Bd.cs).length),(1000004,.tok 4 (p.lines.map Ln.cs).length),(1000005,.tok 2 (p.tables.map Tb.cs).length),(1000006,.tok 8 (p.stmts.map Sm.cs).length)] (Gt 119 e ok l') [(1000000,pB l' e 0),(1000001,xB p'),(1000002,.tok 3 (p'.params.map Bd.cs).length),(1000003,.tok 3 (p'.states.map Bd.cs).length),(1000004,.tok 4 (p'.lines.map Ln.cs).length),(1000005,.tok 2 (p'.tables.map Tb.cs).length),(1000006,.tok 8 (p'.stmts.map Sm.cs).length)]:=by
 refine ag tok hmix ⟨[],[]⟩ Tryz.func113 rfl (by kernel_rfl) (by kernel_rfl) (by kernel_rfl) λhf=>?_
 clear hf
 repeat' ((try(conv=>whnf))<;>first
  |((refine iO _ _ _ [true,true,true,true,true] ?_ ?_ ?_);exact rfl;kernel_rfl)
  |((refine quiet_step ?_ ?_);kernel_rfl)
  |((refine kz (d:=0) [] (λl=>Ce l e 0) ?_);refine⟨_,_,rfl,rfl,rfl,λb l1 h_b=>?_,λl1 h_b=>?_⟩)
  |((refine sV ?_);(try simp only[Bool.not_true,Bool.not_false,cond_true,cond_false,bne,Bool.not_eq_true',Bool.not_eq_false']at *);(simp only[oW,itB,reduceIte,Bool.false_eq_true, *]at hM);(obtain⟨rfl,rfl,rfl⟩:=jF hM);refine kQ ?_;(conv=>whnf);refine fin_step' [(1000000,1000000),(1000001,1000001),(1000002,1000002),(1000003,1000003),(1000004,1000004),(1000005,1000005),(1000006,1000006)] rfl ?_ ?_)
  |((refine wM ?_);(try simp only[Bool.not_true,Bool.not_false,cond_true,cond_false,bne,Bool.not_eq_true',Bool.not_eq_false']at *);(simp only[oW,itB,reduceIte,Bool.false_eq_true, *]at hM);(obtain⟨rfl,rfl,rfl⟩:=jF hM);refine lZ ?_;refine fin_step' [(1000000,1000000),(1000001,1000001),(1000002,1000002),(1000003,1000003),(1000004,1000004),(1000005,1000005),(1000006,1000006)] rfl ?_ ?_)
  |exact trivial
  |(refine aG.l _ ?_)
  |((refine app_step' ?_ ?_ ?_ ?_ ?_ ?_ ?_);exact rfl;exact rfl;exact rfl;exact rfl)
  |((refine aI ?_ ?_);kernel_rfl)
  |((refine gY ?_ ?_);kernel_rfl)
  |(refine And.intro ?_ ?_)
  |((refine fJ ?_ ?_);exact rfl;(first |exact bT |skip))
  |((refine aO ?_);refine dN ?_ ?_ ?_;exact rfl;exact rfl;(first |exact rfl |skip))
  |exact fK rfl
  |fail)
 all_goals first
  |((exact kR rfl))
  |((rw[List.length_map];first |(have:=hz.a;omega) |(have:=hz.b;omega) |(have:=hz.c;omega) |(have:=hz.d;omega) |(have:=hz.e;omega)))
  |skip
theorem Ci(e:Int)(l:List Tk)(p:Pr)(ok:Bool)(p':Pr)(l':List Tk)(hz:Sz p l)(hM:oZ p l=(ok,p',l')):aC Tryz.prog 114 [.ptr 1000000 0,.ptr 1000001 0] [(1000000,pB l e 0),(1000001,xB p),(1000002,.tok 3 (p.params.map Bd.cs).length),(1000003,.tok 3 (p.states.map Bd.cs).length),(1000004,.tok 4 (p.lines.map Ln.cs).length),(1000005,.tok 2 (p.tables.map Tb.cs).length),(1000006,.tok 8 (p.stmts.map Sm.cs).length)] (Gt 119 e ok l') [(1000000,pB l' e 0),(1000001,xB p'),(1000002,.tok 3 (p'.params.map Bd.cs).length),(1000003,.tok 3 (p'.states.map Bd.cs).length),(1000004,.tok 4 (p'.lines.map Ln.cs).length),(1000005,.tok 2 (p'.tables.map Tb.cs).length),(1000006,.tok 8 (p'.stmts.map Sm.cs).length)]:=by
 refine ag tok hmix ⟨[],[]⟩ Tryz.func114 rfl (by kernel_rfl) (by kernel_rfl) (by kernel_rfl) λhf=>?_
 clear hf
 repeat' ((try(conv=>whnf))<;>first
  |((refine iO _ _ _ [true,true,true,true,true] ?_ ?_ ?_);exact rfl;kernel_rfl)
  |((refine quiet_step ?_ ?_);kernel_rfl)
  |((refine kz (d:=0) [] (λl=>Ce l e 0) ?_);refine⟨_,_,rfl,rfl,rfl,λb l1 h_b=>?_,λl1 h_b=>?_⟩)
  |((refine sV ?_);(try simp only[Bool.not_true,Bool.not_false,cond_true,cond_false,bne,Bool.not_eq_true',Bool.not_eq_false']at *);(simp only[oZ,itB,reduceIte,Bool.false_eq_true, *]at hM);(obtain⟨rfl,rfl,rfl⟩:=jF hM);refine kQ ?_;(conv=>whnf);refine fin_step' [(1000000,1000000),(1000001,1000001),(1000002,1000002),(1000003,1000003),(1000004,1000004),(1000005,1000005),(1000006,1000006)] rfl ?_ ?_)
  |((refine wM ?_);(try simp only[Bool.not_true,Bool.not_false,cond_true,cond_false,bne,Bool.not_eq_true',Bool.not_eq_false']at *);(simp only[oZ,itB,reduceIte,Bool.false_eq_true, *]at hM);(obtain⟨rfl,rfl,rfl⟩:=jF hM);refine lZ ?_;refine fin_step' [(1000000,1000000),(1000001,1000001),(1000002,1000002),(1000003,1000003),(1000004,1000004),(1000005,1000005),(1000006,1000006)] rfl ?_ ?_)
  |exact trivial
  |(refine aG.l _ ?_)
  |((refine app_step' ?_ ?_ ?_ ?_ ?_ ?_ ?_);exact rfl;exact rfl;exact rfl;exact rfl)
  |((refine aI ?_ ?_);kernel_rfl)
  |((refine gY ?_ ?_);kernel_rfl)
  |(refine And.intro ?_ ?_)
  |((refine fJ ?_ ?_);exact rfl;(first |exact bT |skip))
  |((refine aO ?_);refine dN ?_ ?_ ?_;exact rfl;exact rfl;(first |exact rfl |skip))
  |exact fK rfl
  |fail)
 all_goals first
  |((exact kR rfl))
  |((rw[List.length_map];first |(have:=hz.a;omega) |(have:=hz.b;omega) |(have:=hz.c;omega) |(have:=hz.d;omega) |(have:=hz.e;omega)))
  |skip
theorem GK(e:Int)(l:List Tk)(p:Pr)(ok:Bool)(p':Pr)(l':List Tk)(hz:Sz p l)(hM:zL p l=(ok,p',l')):aC Tryz.prog 115 [.ptr 1000000 0,.ptr 1000001 0] [(1000000,pB l e 0),(1000001,xB p),(1000002,.tok 3 (p.params.map Bd.cs).length),(1000003,.tok 3 (p.states.map Bd.cs).length),(1000004,.tok 4 (p.lines.map Ln.cs).length),(1000005,.tok 2 (p.tables.map Tb.cs).length),(1000006,.tok 8 (p.stmts.map Sm.cs).length)] (Gt 119 e ok l') [(1000000,pB l' e 0),(1000001,xB p'),(1000002,.tok 3 (p'.params.map Bd.cs).length),(1000003,.tok 3 (p'.states.map Bd.cs).length),(1000004,.tok 4 (p'.lines.map Ln.cs).length),(1000005,.tok 2 (p'.tables.map Tb.cs).length),(1000006,.tok 8 (p'.stmts.map Sm.cs).length)]:=by
 refine ag tok hmix ⟨[],[]⟩ Tryz.func115 rfl (by kernel_rfl) (by kernel_rfl) (by kernel_rfl) λhf=>?_
 clear hf
 repeat' ((try(conv=>whnf))<;>first
  |((refine kz (d:=0) [] (λl=>jI l e 0) ?_);refine⟨_,_,rfl,rfl,rfl,λs1 l1 h_s1=>?_,λl1 h_s1=>?_⟩)
  |((refine kz (d:=0) [] (λl=>iJ l e 0) ?_);refine⟨_,_,rfl,rfl,rfl,λn l2 h_n=>?_,λl2 h_n=>?_⟩)
  |((refine kz (d:=0) [] (λl=>Ac l e 0) ?_);refine⟨_,_,rfl,rfl,rfl,λb l3 h_b=>?_,λl3 h_b=>?_⟩)
  |((refine sV ?_);(try simp only[Bool.not_true,Bool.not_false,cond_true,cond_false,bne,Bool.not_eq_true',Bool.not_eq_false']at *);(simp only[zL,itB,reduceIte,Bool.false_eq_true, *]at hM);(obtain⟨rfl,rfl,rfl⟩:=jF hM);refine kQ ?_;(conv=>whnf);refine fin_step' [(1000000,1000000),(1000001,1000001),(1000002,1000002),(1000003,1000003),(1000004,1000004),(1000005,1000005),(1000006,1000006)] rfl ?_ ?_)
  |((refine wM ?_);(try simp only[Bool.not_true,Bool.not_false,cond_true,cond_false,bne,Bool.not_eq_true',Bool.not_eq_false']at *);(simp only[zL,itB,reduceIte,Bool.false_eq_true, *]at hM);(obtain⟨rfl,rfl,rfl⟩:=jF hM);refine lZ ?_;refine fin_step' [(1000000,1000000),(1000001,1000001),(1000002,1000002),(1000003,1000003),(1000004,1000004),(1000005,1000005),(1000006,1000006)] rfl ?_ ?_)
  |exact trivial
  |(refine aG.l _ ?_)
  |((refine app_step' ?_ ?_ ?_ ?_ ?_ ?_ ?_);exact rfl;exact rfl;exact rfl;exact rfl)
  |((refine aI ?_ ?_);kernel_rfl)
  |(refine And.intro ?_ ?_)
  |((refine fJ ?_ ?_);exact rfl;(first |skip))
  |((refine aO ?_);refine dN ?_ ?_ ?_;exact rfl;exact rfl;(first |exact rfl |skip))
  |exact fK rfl
  |fail)
 all_goals first
  |((exact kR rfl))
  |((rw[List.length_map];first |(have:=hz.a;omega) |(have:=hz.b;omega) |(have:=hz.c;omega) |(have:=hz.d;omega) |(have:=hz.e;omega)))
  |skip
theorem Cj(e:Int)(l:List Tk)(p:Pr)(ok:Bool)(p':Pr)(l':List Tk)(hz:Sz p l)(hM:o7 p l=(ok,p',l')):aC Tryz.prog 116 [.ptr 1000000 0,.ptr 1000001 0] [(1000000,pB l e 0),(1000001,xB p),(1000002,.tok 3 (p.params.map Bd.cs).length),(1000003,.tok 3 (p.states.map Bd.cs).length),(1000004,.tok 4 (p.lines.map Ln.cs).length),(1000005,.tok 2 (p.tables.map Tb.cs).length),(1000006,.tok 8 (p.stmts.map Sm.cs).length)] (Gt 119 e ok l') [(1000000,pB l' e 0),(1000001,xB p'),(1000002,.tok 3 (p'.params.map Bd.cs).length),(1000003,.tok 3 (p'.states.map Bd.cs).length),(1000004,.tok 4 (p'.lines.map Ln.cs).length),(1000005,.tok 2 (p'.tables.map Tb.cs).length),(1000006,.tok 8 (p'.stmts.map Sm.cs).length)]:=by
 refine ag tok hmix ⟨[],[]⟩ Tryz.func116 rfl (by kernel_rfl) (by kernel_rfl) (by kernel_rfl) λhf=>?_
 clear hf
 repeat' ((try(conv=>whnf))<;>first
  |((refine kz (d:=0) [] (λl=>jI l e 0) ?_);refine⟨_,_,rfl,rfl,rfl,λs1 l1 h_s1=>?_,λl1 h_s1=>?_⟩)
  |((refine AP (λs l=>ik s l e 0) ?_);refine⟨_,_,_,_,rfl,rfl,rfl,rfl,rfl,λhW _=>?_,λhW=>?_⟩)
  |((refine z4m (d:=0) (z4n 139) (λl=>l.length<=1073741823) (λl o l' hl h=>Td l e 0 o l' hl h) ?_);refine⟨_,_,rfl,rfl,rfl,by(have:=nC _ _ _ h_s1;have:=hz.a;simp only[List.length_drop];omega),λvs l3 h_vs=>?_,λl3 h_vs=>?_⟩)
  |((refine sV ?_);(try simp only[Bool.not_true,Bool.not_false,cond_true,cond_false,bne,Bool.not_eq_true',Bool.not_eq_false']at *);(simp only[o7,itB,aF,reduceIte,Bool.false_eq_true, *]at hM);(obtain⟨rfl,rfl,rfl⟩:=jF hM);refine kQ ?_;(conv=>whnf);refine fin_step' [(1000000,1000000),(1000001,1000001),(1000002,1000002),(1000003,1000003),(1000004,1000004),(1000005,1000005),(1000006,1000006)] rfl ?_ ?_)
  |((refine wM ?_);(try simp only[Bool.not_true,Bool.not_false,cond_true,cond_false,bne,Bool.not_eq_true',Bool.not_eq_false']at *);(simp only[o7,itB,aF,reduceIte,Bool.false_eq_true, *]at hM);(obtain⟨rfl,rfl,rfl⟩:=jF hM);refine lZ ?_;refine fin_step' [(1000000,1000000),(1000001,1000001),(1000002,1000002),(1000003,1000003),(1000004,1000004),(1000005,1000005),(1000006,1000006)] rfl ?_ ?_)
  |exact trivial
  |(refine aG.l _ ?_)
  |((refine app_step' ?_ ?_ ?_ ?_ ?_ ?_ ?_);exact rfl;exact rfl;exact rfl;exact rfl)
  |((refine aI ?_ ?_);kernel_rfl)
  |(refine And.intro ?_ ?_)
  |((refine fJ ?_ ?_);exact rfl;(first |skip))
  |((refine aO ?_);refine dN ?_ ?_ ?_;exact rfl;exact rfl;(first |exact rfl |skip))
  |exact fK rfl
  |fail)
 all_goals first
  |((exact kR rfl))
  |((rw[List.length_map];first |(have:=hz.a;omega) |(have:=hz.b;omega) |(have:=hz.c;omega) |(have:=hz.d;omega) |(have:=hz.e;omega)))
  |skip
theorem jJ(e:Int)(k:Int)(l:List Tk)(p:Pr)(ok:Bool)(p':Pr)(l':List Tk)(hz:Sz p l)(hM:jm k p l=(ok,p',l')):aC Tryz.prog 140 [.ptr 1000000 0,.ptr 1000001 0,.data (.i k)] [(1000000,pB l e 0),(1000001,xB p),(1000002,.tok 3 (p.params.map Bd.cs).length),(1000003,.tok 3 (p.states.map Bd.cs).length),(1000004,.tok 4 (p.lines.map Ln.cs).length),(1000005,.tok 2 (p.tables.map Tb.cs).length),(1000006,.tok 8 (p.stmts.map Sm.cs).length)] (Gt 119 e ok l') [(1000000,pB l' e 0),(1000001,xB p'),(1000002,.tok 3 (p'.params.map Bd.cs).length),(1000003,.tok 3 (p'.states.map Bd.cs).length),(1000004,.tok 4 (p'.lines.map Ln.cs).length),(1000005,.tok 2 (p'.tables.map Tb.cs).length),(1000006,.tok 8 (p'.stmts.map Sm.cs).length)]:=by
 refine ag tok hmix ⟨[],[]⟩ Tryz.func140 rfl (by kernel_rfl) (by kernel_rfl) (by kernel_rfl) λhf=>?_
 clear hf
 repeat' ((try(conv=>whnf))<;>first
  |((refine kz (d:=0) [] (λl=>jI l e 0) ?_);refine⟨_,_,rfl,rfl,rfl,λs1 l1 h_s1=>?_,λl1 h_s1=>?_⟩)
  |((refine AP (λs l=>ik s l e 0) ?_);refine⟨_,_,_,_,rfl,rfl,rfl,rfl,rfl,λhW _=>?_,λhW=>?_⟩)
  |((refine kz (d:=0) [] (λl=>Tc e l) ?_);refine⟨_,_,rfl,rfl,rfl,λx l3 h_x=>?_,λl3 h_x=>?_⟩)
  |((refine sV ?_);(try simp only[Bool.not_true,Bool.not_false,cond_true,cond_false,bne,Bool.not_eq_true',Bool.not_eq_false']at *);(simp only[jm,itB,bnd,aF,bne,Bool.not_false,Bool.not_true,reduceIte,Bool.false_eq_true, *]at hM);(obtain⟨rfl,rfl,rfl⟩:=jF hM);refine kQ ?_;(conv=>whnf);refine fin_step' [(1000000,1000000),(1000001,1000001),(1000002,1000002),(1000003,1000003),(1000004,1000004),(1000005,1000005),(1000006,1000006)] rfl ?_ ?_)
  |((refine wM ?_);(try simp only[Bool.not_true,Bool.not_false,cond_true,cond_false,bne,Bool.not_eq_true',Bool.not_eq_false']at *);(simp only[jm,itB,bnd,aF,bne,Bool.not_false,Bool.not_true,reduceIte,Bool.false_eq_true, *]at hM);(obtain⟨rfl,rfl,rfl⟩:=jF hM);refine lZ ?_;refine fin_step' [(1000000,1000000),(1000001,1000001),(1000002,1000002),(1000003,1000003),(1000004,1000004),(1000005,1000005),(1000006,1000006)] rfl ?_ ?_)
  |exact trivial
  |refine BrI.intro (λh=>?_) (λh=>?_)
  |(refine aG.l _ ?_)
  |((refine app_step' ?_ ?_ ?_ ?_ ?_ ?_ ?_);exact rfl;exact rfl;exact rfl;exact rfl)
  |((refine aI ?_ ?_);kernel_rfl)
  |(refine And.intro ?_ ?_)
  |((refine fJ ?_ ?_);exact rfl;(first |skip))
  |((refine aO ?_);refine dN ?_ ?_ ?_;exact rfl;exact rfl;(first |exact rfl |skip))
  |exact fK rfl
  |fail)
 all_goals first
  |((exact kR rfl))
  |((rw[List.length_map];first |(have:=hz.a;omega) |(have:=hz.b;omega) |(have:=hz.c;omega) |(have:=hz.d;omega) |(have:=hz.e;omega)))
  |skip
theorem LU(e:Int)(l:List Tk)(p:Pr)(ok:Bool)(p':Pr)(l':List Tk)(hz:Sz p l)(hM:(jm 1) p l=(ok,p',l')):aC Tryz.prog 117 [.ptr 1000000 0,.ptr 1000001 0] [(1000000,pB l e 0),(1000001,xB p),(1000002,.tok 3 (p.params.map Bd.cs).length),(1000003,.tok 3 (p.states.map Bd.cs).length),(1000004,.tok 4 (p.lines.map Ln.cs).length),(1000005,.tok 2 (p.tables.map Tb.cs).length),(1000006,.tok 8 (p.stmts.map Sm.cs).length)] (Gt 119 e ok l') [(1000000,pB l' e 0),(1000001,xB p'),(1000002,.tok 3 (p'.params.map Bd.cs).length),(1000003,.tok 3 (p'.states.map Bd.cs).length),(1000004,.tok 4 (p'.lines.map Ln.cs).length),(1000005,.tok 2 (p'.tables.map Tb.cs).length),(1000006,.tok 8 (p'.stmts.map Sm.cs).length)]:=by
 refine ag tok hmix ⟨[],[]⟩ Tryz.func117 rfl (by kernel_rfl) (by kernel_rfl) (by kernel_rfl) λhf=>?_
 clear hf
 repeat' ((try(conv=>whnf))<;>first
  |((refine uS 140 (jm 1 p l) (λp1 l1=>⟨λhR=>?_,λhR=>?_⟩));(refine lent_step' [(1000000,1000000),(1000001,1000001),(1000002,1000002),(1000003,1000003),(1000004,1000004),(1000005,1000005),(1000006,1000006)] (jJ e 1 l p true p1 l1 hz hR) rfl ⟨rfl,rfl,rfl,rfl,rfl,rfl,rfl,trivial⟩ rfl ?_);rotate_left;(refine lent_step' [(1000000,1000000),(1000001,1000001),(1000002,1000002),(1000003,1000003),(1000004,1000004),(1000005,1000005),(1000006,1000006)] (jJ e 1 l p false p1 l1 hz hR) rfl ⟨rfl,rfl,rfl,rfl,rfl,rfl,rfl,trivial⟩ rfl ?_))
  |((refine sV ?_);(try simp only[Bool.not_true,Bool.not_false,cond_true,cond_false,bne,Bool.not_eq_true',Bool.not_eq_false']at *);(simp only[hR,reduceIte,Bool.false_eq_true, *]at hM);(obtain⟨rfl,rfl,rfl⟩:=jF hM);refine kQ ?_;(conv=>whnf);refine fin_step' [(1000000,1000000),(1000001,1000001),(1000002,1000002),(1000003,1000003),(1000004,1000004),(1000005,1000005),(1000006,1000006)] rfl ?_ ?_)
  |((refine wM ?_);(try simp only[Bool.not_true,Bool.not_false,cond_true,cond_false,bne,Bool.not_eq_true',Bool.not_eq_false']at *);(simp only[hR,reduceIte,Bool.false_eq_true, *]at hM);(obtain⟨rfl,rfl,rfl⟩:=jF hM);refine lZ ?_;refine fin_step' [(1000000,1000000),(1000001,1000001),(1000002,1000002),(1000003,1000003),(1000004,1000004),(1000005,1000005),(1000006,1000006)] rfl ?_ ?_)
  |exact trivial
  |(refine And.intro ?_ ?_)
  |((refine aO ?_);refine dN ?_ ?_ ?_;exact rfl;exact rfl;(first |exact rfl |skip))
  |exact @rfl Block _
  |fail)
 all_goals first
  |skip
theorem LV(e:Int)(l:List Tk)(p:Pr)(ok:Bool)(p':Pr)(l':List Tk)(hz:Sz p l)(hM:(jm 2) p l=(ok,p',l')):aC Tryz.prog 118 [.ptr 1000000 0,.ptr 1000001 0] [(1000000,pB l e 0),(1000001,xB p),(1000002,.tok 3 (p.params.map Bd.cs).length),(1000003,.tok 3 (p.states.map Bd.cs).length),(1000004,.tok 4 (p.lines.map Ln.cs).length),(1000005,.tok 2 (p.tables.map Tb.cs).length),(1000006,.tok 8 (p.stmts.map Sm.cs).length)] (Gt 119 e ok l') [(1000000,pB l' e 0),(1000001,xB p'),(1000002,.tok 3 (p'.params.map Bd.cs).length),(1000003,.tok 3 (p'.states.map Bd.cs).length),(1000004,.tok 4 (p'.lines.map Ln.cs).length),(1000005,.tok 2 (p'.tables.map Tb.cs).length),(1000006,.tok 8 (p'.stmts.map Sm.cs).length)]:=by
 refine ag tok hmix ⟨[],[]⟩ Tryz.func118 rfl (by kernel_rfl) (by kernel_rfl) (by kernel_rfl) λhf=>?_
 clear hf
 repeat' ((try(conv=>whnf))<;>first
  |((refine uS 140 (jm 2 p l) (λp1 l1=>⟨λhR=>?_,λhR=>?_⟩));(refine lent_step' [(1000000,1000000),(1000001,1000001),(1000002,1000002),(1000003,1000003),(1000004,1000004),(1000005,1000005),(1000006,1000006)] (jJ e 2 l p true p1 l1 hz hR) rfl ⟨rfl,rfl,rfl,rfl,rfl,rfl,rfl,trivial⟩ rfl ?_);rotate_left;(refine lent_step' [(1000000,1000000),(1000001,1000001),(1000002,1000002),(1000003,1000003),(1000004,1000004),(1000005,1000005),(1000006,1000006)] (jJ e 2 l p false p1 l1 hz hR) rfl ⟨rfl,rfl,rfl,rfl,rfl,rfl,rfl,trivial⟩ rfl ?_))
  |((refine sV ?_);(try simp only[Bool.not_true,Bool.not_false,cond_true,cond_false,bne,Bool.not_eq_true',Bool.not_eq_false']at *);(simp only[hR,reduceIte,Bool.false_eq_true, *]at hM);(obtain⟨rfl,rfl,rfl⟩:=jF hM);refine kQ ?_;(conv=>whnf);refine fin_step' [(1000000,1000000),(1000001,1000001),(1000002,1000002),(1000003,1000003),(1000004,1000004),(1000005,1000005),(1000006,1000006)] rfl ?_ ?_)
  |((refine wM ?_);(try simp only[Bool.not_true,Bool.not_false,cond_true,cond_false,bne,Bool.not_eq_true',Bool.not_eq_false']at *);(simp only[hR,reduceIte,Bool.false_eq_true, *]at hM);(obtain⟨rfl,rfl,rfl⟩:=jF hM);refine lZ ?_;refine fin_step' [(1000000,1000000),(1000001,1000001),(1000002,1000002),(1000003,1000003),(1000004,1000004),(1000005,1000005),(1000006,1000006)] rfl ?_ ?_)
  |exact trivial
  |(refine And.intro ?_ ?_)
  |((refine aO ?_);refine dN ?_ ?_ ?_;exact rfl;exact rfl;(first |exact rfl |skip))
  |exact @rfl Block _
  |fail)
 all_goals first
  |skip
theorem GL(e:Int)(l:List Tk)(p:Pr)(ok:Bool)(p':Pr)(l':List Tk)(hz:Sz p l)(hM:(jm 3) p l=(ok,p',l')):aC Tryz.prog 119 [.ptr 1000000 0,.ptr 1000001 0] [(1000000,pB l e 0),(1000001,xB p),(1000002,.tok 3 (p.params.map Bd.cs).length),(1000003,.tok 3 (p.states.map Bd.cs).length),(1000004,.tok 4 (p.lines.map Ln.cs).length),(1000005,.tok 2 (p.tables.map Tb.cs).length),(1000006,.tok 8 (p.stmts.map Sm.cs).length)] (Gt 119 e ok l') [(1000000,pB l' e 0),(1000001,xB p'),(1000002,.tok 3 (p'.params.map Bd.cs).length),(1000003,.tok 3 (p'.states.map Bd.cs).length),(1000004,.tok 4 (p'.lines.map Ln.cs).length),(1000005,.tok 2 (p'.tables.map Tb.cs).length),(1000006,.tok 8 (p'.stmts.map Sm.cs).length)]:=by
 refine ag tok hmix ⟨[],[]⟩ Tryz.func119 rfl (by kernel_rfl) (by kernel_rfl) (by kernel_rfl) λhf=>?_
 clear hf
 repeat' ((try(conv=>whnf))<;>first
  |((refine uS 140 (jm 3 p l) (λp1 l1=>⟨λhR=>?_,λhR=>?_⟩));(refine lent_step' [(1000000,1000000),(1000001,1000001),(1000002,1000002),(1000003,1000003),(1000004,1000004),(1000005,1000005),(1000006,1000006)] (jJ e 3 l p true p1 l1 hz hR) rfl ⟨rfl,rfl,rfl,rfl,rfl,rfl,rfl,trivial⟩ rfl ?_);rotate_left;(refine lent_step' [(1000000,1000000),(1000001,1000001),(1000002,1000002),(1000003,1000003),(1000004,1000004),(1000005,1000005),(1000006,1000006)] (jJ e 3 l p false p1 l1 hz hR) rfl ⟨rfl,rfl,rfl,rfl,rfl,rfl,rfl,trivial⟩ rfl ?_))
  |((refine sV ?_);(try simp only[Bool.not_true,Bool.not_false,cond_true,cond_false,bne,Bool.not_eq_true',Bool.not_eq_false']at *);(simp only[hR,reduceIte,Bool.false_eq_true, *]at hM);(obtain⟨rfl,rfl,rfl⟩:=jF hM);refine kQ ?_;(conv=>whnf);refine fin_step' [(1000000,1000000),(1000001,1000001),(1000002,1000002),(1000003,1000003),(1000004,1000004),(1000005,1000005),(1000006,1000006)] rfl ?_ ?_)
  |((refine wM ?_);(try simp only[Bool.not_true,Bool.not_false,cond_true,cond_false,bne,Bool.not_eq_true',Bool.not_eq_false']at *);(simp only[hR,reduceIte,Bool.false_eq_true, *]at hM);(obtain⟨rfl,rfl,rfl⟩:=jF hM);refine lZ ?_;refine fin_step' [(1000000,1000000),(1000001,1000001),(1000002,1000002),(1000003,1000003),(1000004,1000004),(1000005,1000005),(1000006,1000006)] rfl ?_ ?_)
  |exact trivial
  |(refine And.intro ?_ ?_)
  |((refine aO ?_);refine dN ?_ ?_ ?_;exact rfl;exact rfl;(first |exact rfl |skip))
  |exact @rfl Block _
  |fail)
 all_goals first
  |skip
theorem LW(e:Int)(l:List Tk)(p:Pr)(ok:Bool)(p':Pr)(l':List Tk)(hz:Sz p l)(hM:(jm 4) p l=(ok,p',l')):aC Tryz.prog 120 [.ptr 1000000 0,.ptr 1000001 0] [(1000000,pB l e 0),(1000001,xB p),(1000002,.tok 3 (p.params.map Bd.cs).length),(1000003,.tok 3 (p.states.map Bd.cs).length),(1000004,.tok 4 (p.lines.map Ln.cs).length),(1000005,.tok 2 (p.tables.map Tb.cs).length),(1000006,.tok 8 (p.stmts.map Sm.cs).length)] (Gt 119 e ok l') [(1000000,pB l' e 0),(1000001,xB p'),(1000002,.tok 3 (p'.params.map Bd.cs).length),(1000003,.tok 3 (p'.states.map Bd.cs).length),(1000004,.tok 4 (p'.lines.map Ln.cs).length),(1000005,.tok 2 (p'.tables.map Tb.cs).length),(1000006,.tok 8 (p'.stmts.map Sm.cs).length)]:=by
 refine ag tok hmix ⟨[],[]⟩ Tryz.func120 rfl (by kernel_rfl) (by kernel_rfl) (by kernel_rfl) λhf=>?_
 clear hf
 repeat' ((try(conv=>whnf))<;>first
  |((refine uS 140 (jm 4 p l) (λp1 l1=>⟨λhR=>?_,λhR=>?_⟩));(refine lent_step' [(1000000,1000000),(1000001,1000001),(1000002,1000002),(1000003,1000003),(1000004,1000004),(1000005,1000005),(1000006,1000006)] (jJ e 4 l p true p1 l1 hz hR) rfl ⟨rfl,rfl,rfl,rfl,rfl,rfl,rfl,trivial⟩ rfl ?_);rotate_left;(refine lent_step' [(1000000,1000000),(1000001,1000001),(1000002,1000002),(1000003,1000003),(1000004,1000004),(1000005,1000005),(1000006,1000006)] (jJ e 4 l p false p1 l1 hz hR) rfl ⟨rfl,rfl,rfl,rfl,rfl,rfl,rfl,trivial⟩ rfl ?_))
  |((refine sV ?_);(try simp only[Bool.not_true,Bool.not_false,cond_true,cond_false,bne,Bool.not_eq_true',Bool.not_eq_false']at *);(simp only[hR,reduceIte,Bool.false_eq_true, *]at hM);(obtain⟨rfl,rfl,rfl⟩:=jF hM);refine kQ ?_;(conv=>whnf);refine fin_step' [(1000000,1000000),(1000001,1000001),(1000002,1000002),(1000003,1000003),(1000004,1000004),(1000005,1000005),(1000006,1000006)] rfl ?_ ?_)
  |((refine wM ?_);(try simp only[Bool.not_true,Bool.not_false,cond_true,cond_false,bne,Bool.not_eq_true',Bool.not_eq_false']at *);(simp only[hR,reduceIte,Bool.false_eq_true, *]at hM);(obtain⟨rfl,rfl,rfl⟩:=jF hM);refine lZ ?_;refine fin_step' [(1000000,1000000),(1000001,1000001),(1000002,1000002),(1000003,1000003),(1000004,1000004),(1000005,1000005),(1000006,1000006)] rfl ?_ ?_)
  |exact trivial
  |(refine And.intro ?_ ?_)
  |((refine aO ?_);refine dN ?_ ?_ ?_;exact rfl;exact rfl;(first |exact rfl |skip))
  |exact @rfl Block _
  |fail)
 all_goals first
  |skip
end Go.Proofs.YtmfehangcmbidaaGreatDoor
namespace Go.Proofs.YtmfehangcmbidaaGreatDoor
open Go.Fw Go.Fw.Lx Go.Fw.Sy
set_option maxRecDepth 10000
variable [ae]
theorem Ad(e:Int)(l:List Tk)(p:Pr)(ok:Bool)(p':Pr)(l':List Tk)(hz:Sz p l)(hM:dU decls p l=(ok,p',l')):aC Tryz.prog 112 [.ptr 1000000 0,.ptr 1000001 0,.map 1000007] [(1000000,pB l e 0),(1000001,xB p),(1000002,.tok 3 (p.params.map Bd.cs).length),(1000003,.tok 3 (p.states.map Bd.cs).length),(1000004,.tok 4 (p.lines.map Ln.cs).length),(1000005,.tok 2 (p.tables.map Tb.cs).length),(1000006,.tok 8 (p.stmts.map Sm.cs).length),(1000007,.map false [.str] [(.str lu,.fn 113 []),(.str kL,.fn 114 []),(.str DZ,.fn 115 []),(.str uN,.fn 116 [])])] (Gt 119 e ok l') [(1000000,pB l' e 0),(1000001,xB p'),(1000002,.tok 3 (p'.params.map Bd.cs).length),(1000003,.tok 3 (p'.states.map Bd.cs).length),(1000004,.tok 4 (p'.lines.map Ln.cs).length),(1000005,.tok 2 (p'.tables.map Tb.cs).length),(1000006,.tok 8 (p'.stmts.map Sm.cs).length),(1000007,.map false [.str] [(.str lu,.fn 113 []),(.str kL,.fn 114 []),(.str DZ,.fn 115 []),(.str uN,.fn 116 [])])]:=by
 refine ag tok hmix ⟨[],[]⟩ Tryz.func112 rfl (by kernel_rfl) (by kernel_rfl) (by kernel_rfl) λhf=>?_
 clear hf
 repeat' ((try(conv=>whnf))<;>first
  |((refine wF (.data (.val (.bool false))) ?_ ?_ ?_);exact rfl;exact rfl)
  |((refine oQ ?_ ?_);exact rfl)
  |((refine kX ?_ ?_);exact rfl)
  |((refine lQ ?_ ?_);exact rfl)
  |((refine AO (λs l=>ig s l e 0) ?_);refine⟨_,_,_,rfl,rfl,rfl,λhT _=>?_,λhT=>?_⟩)
  |((refine AP (λs l=>ik s l e 0) ?_);refine⟨_,_,_,_,rfl,rfl,rfl,rfl,rfl,λhW _=>?_,λhW=>?_⟩)
  |((refine uS 113 (oW p (l1.drop 1)) (λp1 l2=>⟨λhR=>?_,λhR=>?_⟩));(refine lent_step' [(1000000,1000000),(1000001,1000001),(1000002,1000002),(1000003,1000003),(1000004,1000004),(1000005,1000005),(1000006,1000006)] (Cf e (l1.drop 1) p true p1 l2 (hI0.sz.le (by simp)) hR) rfl ⟨rfl,rfl,rfl,rfl,rfl,rfl,rfl,trivial⟩ rfl ?_);rotate_left;(refine lent_step' [(1000000,1000000),(1000001,1000001),(1000002,1000002),(1000003,1000003),(1000004,1000004),(1000005,1000005),(1000006,1000006)] (Cf e (l1.drop 1) p false p1 l2 (hI0.sz.le (by simp)) hR) rfl ⟨rfl,rfl,rfl,rfl,rfl,rfl,rfl,trivial⟩ rfl ?_))
  |((refine uS 114 (oZ p (l1.drop 1)) (λp1 l2=>⟨λhR=>?_,λhR=>?_⟩));(refine lent_step' [(1000000,1000000),(1000001,1000001),(1000002,1000002),(1000003,1000003),(1000004,1000004),(1000005,1000005),(1000006,1000006)] (Ci e (l1.drop 1) p true p1 l2 (hI0.sz.le (by simp)) hR) rfl ⟨rfl,rfl,rfl,rfl,rfl,rfl,rfl,trivial⟩ rfl ?_);rotate_left;(refine lent_step' [(1000000,1000000),(1000001,1000001),(1000002,1000002),(1000003,1000003),(1000004,1000004),(1000005,1000005),(1000006,1000006)] (Ci e (l1.drop 1) p false p1 l2 (hI0.sz.le (by simp)) hR) rfl ⟨rfl,rfl,rfl,rfl,rfl,rfl,rfl,trivial⟩ rfl ?_))
  |((refine uS 115 (zL p (l1.drop 1)) (λp1 l2=>⟨λhR=>?_,λhR=>?_⟩));(refine lent_step' [(1000000,1000000),(1000001,1000001),(1000002,1000002),(1000003,1000003),(1000004,1000004),(1000005,1000005),(1000006,1000006)] (GK e (l1.drop 1) p true p1 l2 (hI0.sz.le (by simp)) hR) rfl ⟨rfl,rfl,rfl,rfl,rfl,rfl,rfl,trivial⟩ rfl ?_);rotate_left;(refine lent_step' [(1000000,1000000),(1000001,1000001),(1000002,1000002),(1000003,1000003),(1000004,1000004),(1000005,1000005),(1000006,1000006)] (GK e (l1.drop 1) p false p1 l2 (hI0.sz.le (by simp)) hR) rfl ⟨rfl,rfl,rfl,rfl,rfl,rfl,rfl,trivial⟩ rfl ?_))
  |((refine uS 116 (o7 p (l1.drop 1)) (λp1 l2=>⟨λhR=>?_,λhR=>?_⟩));(refine lent_step' [(1000000,1000000),(1000001,1000001),(1000002,1000002),(1000003,1000003),(1000004,1000004),(1000005,1000005),(1000006,1000006)] (Cj e (l1.drop 1) p true p1 l2 (hI0.sz.le (by simp)) hR) rfl ⟨rfl,rfl,rfl,rfl,rfl,rfl,rfl,trivial⟩ rfl ?_);rotate_left;(refine lent_step' [(1000000,1000000),(1000001,1000001),(1000002,1000002),(1000003,1000003),(1000004,1000004),(1000005,1000005),(1000006,1000006)] (Cj e (l1.drop 1) p false p1 l2 (hI0.sz.le (by simp)) hR) rfl ⟨rfl,rfl,rfl,rfl,rfl,rfl,rfl,trivial⟩ rfl ?_))
  |(refine bz (n-1,p1,l2.drop 1) ?_ (zae hI0 ‹isT (hd l1).text l1=true› (by simp only[find,decls, *,reduceIte,Bool.false_eq_true]) hR (by first |exact D8 hR |exact D9 hR |exact I7 hR |exact Ea hR |exact wO hR) ‹isT sSemi l2=true›) (z4u hI0 ‹isT (hd l1).text l1=true›))
  |((refine wM ?_);(have hE:=z4s hI0 ‹isT (hd l1).text l1=true› (by simp only[find,decls, *,reduceIte,Bool.false_eq_true]) hR);(obtain⟨rfl,rfl,rfl⟩:=hE);refine lZ ?_;refine fin_step' [(1000000,1000000),(1000001,1000001),(1000002,1000002),(1000003,1000003),(1000004,1000004),(1000005,1000005),(1000006,1000006),(1000007,1000007)] rfl ?_ ?_)
  |((refine wM ?_);(have hE:=z4t hI0 ‹isT (hd l1).text l1=true› (by simp only[find,decls, *,reduceIte,Bool.false_eq_true]) hR ‹isT sSemi l2=false›);(obtain⟨rfl,rfl,rfl⟩:=hE);refine lZ ?_;refine fin_step' [(1000000,1000000),(1000001,1000001),(1000002,1000002),(1000003,1000003),(1000004,1000004),(1000005,1000005),(1000006,1000006),(1000007,1000007)] rfl ?_ ?_)
  |((refine sV ?_);(have hE:=z4v hI0 ‹decide (((l1.map Tk.cs).length:Int)>0)=false›);(obtain⟨rfl,rfl,rfl⟩:=hE);refine kQ ?_;(conv=>whnf);refine fin_step' [(1000000,1000000),(1000001,1000001),(1000002,1000002),(1000003,1000003),(1000004,1000004),(1000005,1000005),(1000006,1000006),(1000007,1000007)] rfl ?_ ?_)
  |((refine sV ?_);(have hE:=z4x hI0 ‹isT (hd l1).text l1=false›);(obtain⟨rfl,rfl,rfl⟩:=hE);refine kQ ?_;(conv=>whnf);refine fin_step' [(1000000,1000000),(1000001,1000001),(1000002,1000002),(1000003,1000003),(1000004,1000004),(1000005,1000005),(1000006,1000006),(1000007,1000007)] rfl ?_ ?_)
  |((refine sV ?_);(have hE:=z4w hI0 (by simp only[find,decls, *,reduceIte,Bool.false_eq_true]));(obtain⟨rfl,rfl,rfl⟩:=hE);refine kQ ?_;(conv=>whnf);refine fin_step' [(1000000,1000000),(1000001,1000001),(1000002,1000002),(1000003,1000003),(1000004,1000004),(1000005,1000005),(1000006,1000006),(1000007,1000007)] rfl ?_ ?_)
  |exact trivial
  |refine BrI.intro (λh=>?_) (λh=>?_)
  |((refine rH ?_ ?_ ?_ ?_);exact⟨rfl,rfl⟩;exact rfl;exact Ll ‹decide (((l1.map Tk.cs).length:Int)>0)=true›)
  |(refine zad (λh1=>?_) (λh0 h1=>?_) (λh0 h00 h1=>?_) (λh0 h00 h000 h1=>?_) (λh0 h00 h000 h0000=>?_))
  |((refine aN.mk 0 ?_);refine⟨jE (λ(q:(Nat)×(Pr)×(List Tk))=>match q with |(n,p,l1)=>[]) (λ(q:(Nat)×(Pr)×(List Tk))=>match q with |(n,p,l1)=>[(1000000,pB l1 e 0),(1000001,xB p),(1000002,.tok 3 (p.params.map Bd.cs).length),(1000003,.tok 3 (p.states.map Bd.cs).length),(1000004,.tok 4 (p.lines.map Ln.cs).length),(1000005,.tok 2 (p.tables.map Tb.cs).length),(1000006,.tok 8 (p.stmts.map Sm.cs).length)]) [0,1,2] (λ(q:(Nat)×(Pr)×(List Tk))=>match q with |(n,p,l1)=>ItI decls (ok,p',l') n p l1) (λ(q:(Nat)×(Pr)×(List Tk))=>match q with |(n,p,l1)=>n),?_⟩;refine dI ((l.length),(p),(l)) ?_ ?_ (λ⟨n,p,l1⟩ hI0=>?_))
  |(refine aG.l _ ?_)
  |(refine And.intro ?_ ?_)
  |((refine qR ?_ ?_ ?_);exact rfl;exact rfl;(first |exact rfl |skip))
  |((refine aO ?_);refine dN ?_ ?_ ?_;exact rfl;exact rfl;(first |exact rfl |skip))
  |exact @rfl AV _
  |exact @rfl Block _
  |fail)
 all_goals first
  |(rfl)
  |((exact ItI.start hz hM))
  |skip
theorem Ae(e:Int)(l:List Tk)(p:Pr)(ok:Bool)(p':Pr)(l':List Tk)(hz:Sz p l)(hM:dU stmts p l=(ok,p',l')):aC Tryz.prog 112 [.ptr 1000000 0,.ptr 1000001 0,.map 1000007] [(1000000,pB l e 0),(1000001,xB p),(1000002,.tok 3 (p.params.map Bd.cs).length),(1000003,.tok 3 (p.states.map Bd.cs).length),(1000004,.tok 4 (p.lines.map Ln.cs).length),(1000005,.tok 2 (p.tables.map Tb.cs).length),(1000006,.tok 8 (p.stmts.map Sm.cs).length),(1000007,.map false [.str] [(.str XN,.fn 117 []),(.str XO,.fn 118 []),(.str Gm,.fn 119 []),(.str XP,.fn 120 [])])] (Gt 119 e ok l') [(1000000,pB l' e 0),(1000001,xB p'),(1000002,.tok 3 (p'.params.map Bd.cs).length),(1000003,.tok 3 (p'.states.map Bd.cs).length),(1000004,.tok 4 (p'.lines.map Ln.cs).length),(1000005,.tok 2 (p'.tables.map Tb.cs).length),(1000006,.tok 8 (p'.stmts.map Sm.cs).length),(1000007,.map false [.str] [(.str XN,.fn 117 []),(.str XO,.fn 118 []),(.str Gm,.fn 119 []),(.str XP,.fn 120 [])])]:=by
 refine ag tok hmix ⟨[],[]⟩ Tryz.func112 rfl (by kernel_rfl) (by kernel_rfl) (by kernel_rfl) λhf=>?_
 clear hf
 repeat' ((try(conv=>whnf))<;>first
  |((refine wF (.data (.val (.bool false))) ?_ ?_ ?_);exact rfl;exact rfl)
  |((refine oQ ?_ ?_);exact rfl)
  |((refine kX ?_ ?_);exact rfl)
  |((refine lQ ?_ ?_);exact rfl)
  |((refine AO (λs l=>ig s l e 0) ?_);refine⟨_,_,_,rfl,rfl,rfl,λhT _=>?_,λhT=>?_⟩)
  |((refine AP (λs l=>ik s l e 0) ?_);refine⟨_,_,_,_,rfl,rfl,rfl,rfl,rfl,λhW _=>?_,λhW=>?_⟩)
  |((refine uS 117 (jm 1 p (l1.drop 1)) (λp1 l2=>⟨λhR=>?_,λhR=>?_⟩));(refine lent_step' [(1000000,1000000),(1000001,1000001),(1000002,1000002),(1000003,1000003),(1000004,1000004),(1000005,1000005),(1000006,1000006)] (LU e (l1.drop 1) p true p1 l2 (hI0.sz.le (by simp)) hR) rfl ⟨rfl,rfl,rfl,rfl,rfl,rfl,rfl,trivial⟩ rfl ?_);rotate_left;(refine lent_step' [(1000000,1000000),(1000001,1000001),(1000002,1000002),(1000003,1000003),(1000004,1000004),(1000005,1000005),(1000006,1000006)] (LU e (l1.drop 1) p false p1 l2 (hI0.sz.le (by simp)) hR) rfl ⟨rfl,rfl,rfl,rfl,rfl,rfl,rfl,trivial⟩ rfl ?_))
  |((refine uS 118 (jm 2 p (l1.drop 1)) (λp1 l2=>⟨λhR=>?_,λhR=>?_⟩));(refine lent_step' [(1000000,1000000),(1000001,1000001),(1000002,1000002),(1000003,1000003),(1000004,1000004),(1000005,1000005),(1000006,1000006)] (LV e (l1.drop 1) p true p1 l2 (hI0.sz.le (by simp)) hR) rfl ⟨rfl,rfl,rfl,rfl,rfl,rfl,rfl,trivial⟩ rfl ?_);rotate_left;(refine lent_step' [(1000000,1000000),(1000001,1000001),(1000002,1000002),(1000003,1000003),(1000004,1000004),(1000005,1000005),(1000006,1000006)] (LV e (l1.drop 1) p false p1 l2 (hI0.sz.le (by simp)) hR) rfl ⟨rfl,rfl,rfl,rfl,rfl,rfl,rfl,trivial⟩ rfl ?_))
  |((refine uS 119 (jm 3 p (l1.drop 1)) (λp1 l2=>⟨λhR=>?_,λhR=>?_⟩));(refine lent_step' [(1000000,1000000),(1000001,1000001),(1000002,1000002),(1000003,1000003),(1000004,1000004),(1000005,1000005),(1000006,1000006)] (GL e (l1.drop 1) p true p1 l2 (hI0.sz.le (by simp)) hR) rfl ⟨rfl,rfl,rfl,rfl,rfl,rfl,rfl,trivial⟩ rfl ?_);rotate_left;(refine lent_step' [(1000000,1000000),(1000001,1000001),(1000002,1000002),(1000003,1000003),(1000004,1000004),(1000005,1000005),(1000006,1000006)] (GL e (l1.drop 1) p false p1 l2 (hI0.sz.le (by simp)) hR) rfl ⟨rfl,rfl,rfl,rfl,rfl,rfl,rfl,trivial⟩ rfl ?_))
  |((refine uS 120 (jm 4 p (l1.drop 1)) (λp1 l2=>⟨λhR=>?_,λhR=>?_⟩));(refine lent_step' [(1000000,1000000),(1000001,1000001),(1000002,1000002),(1000003,1000003),(1000004,1000004),(1000005,1000005),(1000006,1000006)] (LW e (l1.drop 1) p true p1 l2 (hI0.sz.le (by simp)) hR) rfl ⟨rfl,rfl,rfl,rfl,rfl,rfl,rfl,trivial⟩ rfl ?_);rotate_left;(refine lent_step' [(1000000,1000000),(1000001,1000001),(1000002,1000002),(1000003,1000003),(1000004,1000004),(1000005,1000005),(1000006,1000006)] (LW e (l1.drop 1) p false p1 l2 (hI0.sz.le (by simp)) hR) rfl ⟨rfl,rfl,rfl,rfl,rfl,rfl,rfl,trivial⟩ rfl ?_))
  |(refine bz (n-1,p1,l2.drop 1) ?_ (zae hI0 ‹isT (hd l1).text l1=true› (by simp only[find,stmts, *,reduceIte,Bool.false_eq_true]) hR (by first |exact D8 hR |exact D9 hR |exact I7 hR |exact Ea hR |exact wO hR) ‹isT sSemi l2=true›) (z4u hI0 ‹isT (hd l1).text l1=true›))
  |((refine wM ?_);(have hE:=z4s hI0 ‹isT (hd l1).text l1=true› (by simp only[find,stmts, *,reduceIte,Bool.false_eq_true]) hR);(obtain⟨rfl,rfl,rfl⟩:=hE);refine lZ ?_;refine fin_step' [(1000000,1000000),(1000001,1000001),(1000002,1000002),(1000003,1000003),(1000004,1000004),(1000005,1000005),(1000006,1000006),(1000007,1000007)] rfl ?_ ?_)
  |((refine wM ?_);(have hE:=z4t hI0 ‹isT (hd l1).text l1=true› (by simp only[find,stmts, *,reduceIte,Bool.false_eq_true]) hR ‹isT sSemi l2=false›);(obtain⟨rfl,rfl,rfl⟩:=hE);refine lZ ?_;refine fin_step' [(1000000,1000000),(1000001,1000001),(1000002,1000002),(1000003,1000003),(1000004,1000004),(1000005,1000005),(1000006,1000006),(1000007,1000007)] rfl ?_ ?_)
  |((refine sV ?_);(have hE:=z4v hI0 ‹decide (((l1.map Tk.cs).length:Int)>0)=false›);(obtain⟨rfl,rfl,rfl⟩:=hE);refine kQ ?_;(conv=>whnf);refine fin_step' [(1000000,1000000),(1000001,1000001),(1000002,1000002),(1000003,1000003),(1000004,1000004),(1000005,1000005),(1000006,1000006),(1000007,1000007)] rfl ?_ ?_)
  |((refine sV ?_);(have hE:=z4x hI0 ‹isT (hd l1).text l1=false›);(obtain⟨rfl,rfl,rfl⟩:=hE);refine kQ ?_;(conv=>whnf);refine fin_step' [(1000000,1000000),(1000001,1000001),(1000002,1000002),(1000003,1000003),(1000004,1000004),(1000005,1000005),(1000006,1000006),(1000007,1000007)] rfl ?_ ?_)
  |((refine sV ?_);(have hE:=z4w hI0 (by simp only[find,stmts, *,reduceIte,Bool.false_eq_true]));(obtain⟨rfl,rfl,rfl⟩:=hE);refine kQ ?_;(conv=>whnf);refine fin_step' [(1000000,1000000),(1000001,1000001),(1000002,1000002),(1000003,1000003),(1000004,1000004),(1000005,1000005),(1000006,1000006),(1000007,1000007)] rfl ?_ ?_)
  |exact trivial
  |refine BrI.intro (λh=>?_) (λh=>?_)
  |((refine rH ?_ ?_ ?_ ?_);exact⟨rfl,rfl⟩;exact rfl;exact Ll ‹decide (((l1.map Tk.cs).length:Int)>0)=true›)
  |(refine zad (λh1=>?_) (λh0 h1=>?_) (λh0 h00 h1=>?_) (λh0 h00 h000 h1=>?_) (λh0 h00 h000 h0000=>?_))
  |((refine aN.mk 0 ?_);refine⟨jE (λ(q:(Nat)×(Pr)×(List Tk))=>match q with |(n,p,l1)=>[]) (λ(q:(Nat)×(Pr)×(List Tk))=>match q with |(n,p,l1)=>[(1000000,pB l1 e 0),(1000001,xB p),(1000002,.tok 3 (p.params.map Bd.cs).length),(1000003,.tok 3 (p.states.map Bd.cs).length),(1000004,.tok 4 (p.lines.map Ln.cs).length),(1000005,.tok 2 (p.tables.map Tb.cs).length),(1000006,.tok 8 (p.stmts.map Sm.cs).length)]) [0,1,2] (λ(q:(Nat)×(Pr)×(List Tk))=>match q with |(n,p,l1)=>ItI stmts (ok,p',l') n p l1) (λ(q:(Nat)×(Pr)×(List Tk))=>match q with |(n,p,l1)=>n),?_⟩;refine dI ((l.length),(p),(l)) ?_ ?_ (λ⟨n,p,l1⟩ hI0=>?_))
  |(refine aG.l _ ?_)
  |(refine And.intro ?_ ?_)
  |((refine qR ?_ ?_ ?_);exact rfl;exact rfl;(first |exact rfl |skip))
  |((refine aO ?_);refine dN ?_ ?_ ?_;exact rfl;exact rfl;(first |exact rfl |skip))
  |exact @rfl AV _
  |exact @rfl Block _
  |fail)
 all_goals first
  |(rfl)
  |((exact ItI.start hz hM))
  |skip
theorem Tf(l:List Tk)(e:Int)(o:Option (Pr))(l':List Tk)(hl:l.length<=1073741823)(hM:lN l=(o,l')):aC Tryz.prog 72 [.ptr 1000000 0] [(1000000,pB l e 0)] (jT 119 (λp:Pr=>p.d) e o l') [(1000000,pB l' e 0)]:=by
 refine ag tok hmix ⟨[11],[]⟩ Tryz.func72 rfl (by kernel_rfl) (by kernel_rfl) (by kernel_rfl) λhf=>?_
 clear hf
 repeat' ((try(conv=>whnf))<;>first
  |((refine AP (λs l=>ik s l e 0) ?_);refine⟨_,_,_,_,rfl,rfl,rfl,rfl,rfl,λhW _=>?_,λhW=>?_⟩)
  |((refine kz (d:=0) [] (λl=>jI l e 0) ?_);refine⟨_,_,rfl,rfl,rfl,λs1 l1 h_s1=>?_,λl1 h_s1=>?_⟩)
  |((refine RN (d:=0) dJ (λl=>(hd l).n) RI (λl=>iJ l e 0) ?_);refine⟨_,_,rfl,rfl,rfl,λ_=>?_,λhN=>absurd (h.symm.trans hN) Bool.noConfusion⟩)
  |((refine kz (d:=0) [] (λl=>iJ l e 0) ?_);refine⟨_,_,rfl,rfl,rfl,λa1 l2 h_a1=>?_,λl2 h_a1=>?_⟩)
  |((refine aN.mk 11 ?_);refine⟨⟨Sy.Str×Int×Int×List Tk,λ_=>[],λ(q:Sy.Str×Int×Int×List Tk)=>match q with |(s,a,t,l1)=>[(2,.cells [.data (.str s),.data (.i a),.data (.i t),.gs 900100 3 [],.gs 900101 3 [],.gs 900102 4 [],.gs 900103 2 [],.gs 900104 8 []]),(900100,.tok 3 0),(900101,.tok 3 0),(900102,.tok 4 0),(900103,.tok 2 0),(900104,.tok 8 0),(1000000,pB l1 e 0)],[0,2],λ(q:Sy.Str×Int×Int×List Tk)=>match q with |(s,a,t,l1)=>uT s a t l1=(o,l')/\l1.length<=l.length,λ_=>0⟩,?_,?_⟩;rotate_left;rintro⟨s,a,t,l1⟩ hI)
  |(refine⟨(s1,a1,(hd (l2.drop 1)).n,((l2.drop 1).drop 1).drop 1),ZH hM ‹isT wProcessor l=true› h_s1 ‹isT dG l1=true› h_a1 ‹isT wTail l2=true› ‹dJ (l2.drop 1)=true› ‹isT sBra ((l2.drop 1).drop 1)=true›,?_⟩)
  |(refine⟨(s1,a1,-1,((l2.drop 1).drop 1).drop 1),ZJ hM ‹isT wProcessor l=true› h_s1 ‹isT dG l1=true› h_a1 ‹isT wTail l2=true› ‹dJ (l2.drop 1)=false› ‹isT di (l2.drop 1)=true› ‹isT sBra ((l2.drop 1).drop 1)=true›,?_⟩)
  |((refine uS 112 (dU decls (p0 s a t) l1) (λp1 l2=>⟨λhR1=>?_,λhR1=>?_⟩));(refine lent_step' [(1000000,1000000),(1000001,2),(1000002,900100),(1000003,900101),(1000004,900102),(1000005,900103),(1000006,900104),(1000007,31)] (Ad e l1 (p0 s a t) true p1 l2 (sz0 (Nat.le_trans hI.2 hl)) hR1) rfl ⟨rfl,rfl,rfl,rfl,rfl,rfl,rfl,rfl,trivial⟩ rfl ?_);rotate_left;(refine lent_step' [(1000000,1000000),(1000001,2),(1000002,900100),(1000003,900101),(1000004,900102),(1000005,900103),(1000006,900104),(1000007,31)] (Ad e l1 (p0 s a t) false p1 l2 (sz0 (Nat.le_trans hI.2 hl)) hR1) rfl ⟨rfl,rfl,rfl,rfl,rfl,rfl,rfl,rfl,trivial⟩ rfl ?_))
  |((refine uS 112 (dU stmts p1 l2) (λp2 l3=>⟨λhR2=>?_,λhR2=>?_⟩));(refine lent_step' [(1000000,1000000),(1000001,2),(1000002,900100),(1000003,900101),(1000004,900102),(1000005,900103),(1000006,900104),(1000007,35)] (Ae e l2 p1 true p2 l3 (Gw hR1 (sz0 (Nat.le_trans hI.2 hl))) hR2) rfl ⟨rfl,rfl,rfl,rfl,rfl,rfl,rfl,rfl,trivial⟩ rfl ?_);rotate_left;(refine lent_step' [(1000000,1000000),(1000001,2),(1000002,900100),(1000003,900101),(1000004,900102),(1000005,900103),(1000006,900104),(1000007,35)] (Ae e l2 p1 false p2 l3 (Gw hR1 (sz0 (Nat.le_trans hI.2 hl))) hR2) rfl ⟨rfl,rfl,rfl,rfl,rfl,rfl,rfl,rfl,trivial⟩ rfl ?_))
  |((refine bf ?_);(have hE:=ZK hI.1 hR1);(obtain⟨rfl,rfl⟩:=hE);refine aQ ?_;refine fin_step' [(1000000,1000000)] rfl ?_ ?_)
  |((refine bf ?_);(have hE:=ZL hI.1 hR1 hR2);(obtain⟨rfl,rfl⟩:=hE);refine aQ ?_;refine fin_step' [(1000000,1000000)] rfl ?_ ?_)
  |((refine bf ?_);(have hE:=ZM hI.1 hR1 hR2 ‹isT sEnd l3=false›);(obtain⟨rfl,rfl⟩:=hE);refine aQ ?_;refine fin_step' [(1000000,1000000)] rfl ?_ ?_)
  |((refine jo ?_);(have hE:=z4y hI.1 hR1 hR2 ‹isT sEnd l3=true›);(obtain⟨rfl,rfl⟩:=hE);refine gK ?_;(conv=>whnf);refine fin_step' [(1000000,1000000)] rfl ?_ ?_)
  |((refine bf ?_);(have hE:=ZI hM ‹isT wProcessor l=true› h_s1 ‹isT dG l1=true› h_a1 ‹isT wTail l2=true› ‹dJ (l2.drop 1)=true› ‹isT sBra ((l2.drop 1).drop 1)=false›);(obtain⟨rfl,rfl⟩:=hE);refine aQ ?_;refine fin_step' [(1000000,1000000)] rfl ?_ ?_)
  |((refine bf ?_);(try simp only[Bool.not_true,Bool.not_false,cond_true,cond_false,bne,Bool.not_eq_true',Bool.not_eq_false']at *);(simp only[uU,bnd,aF,reduceIte,Bool.false_eq_true, *]at hM);(obtain⟨rfl,rfl⟩:=fE hM);refine aQ ?_;refine fin_step' [(1000000,1000000)] rfl ?_ ?_)
  |exact trivial
  |refine BrI.intro (λh=>?_) (λh=>?_)
  |((refine dA ?_ ?_);exact rfl)
  |((refine dw ?_ ?_ ?_);rotate_left;(exact je _ _ _))
  |(refine aG.l _ ?_)
  |((refine dO ?_ ?_ ?_ ?_ ?_ ?_)<;>exact rfl)
  |((refine eG ?_ ?_ ?_ ?_)<;>exact rfl)
  |(refine And.intro ?_ ?_)
  |exact @rfl AV _
  |fail)
 all_goals first
  |(rfl)
  |skip
theorem Ti(es:List (List D))(d1 d2:D)(v:Int):Qv Tryz.prog 71 [.ptr 1000000 0,.ptr 1000001 0,.ptr 1000002 0] (some (.iface 119 (.agg [.i v]))) [(1000000,.cells [.gs 1000003 8 es]),(1000001,.cells [.data d1]),(1000002,.cells [.data d2]),(1000003,.tok 8 es.length)]
  [(1000000,.cells [.nilsl 8]),(1000001,.cells [.data (.i v)]),(1000002,.cells [.data (.i 140)]),(1000003,.tok 8 es.length)]:=by
 refine mW tok hmix Tryz.func71 rfl (by kernel_rfl) (by kernel_rfl) (by kernel_rfl) ?_
 repeat' ((try(conv=>whnf))<;>first
  |exact trivial
  |((refine aI ?_ ?_);kernel_rfl)
  |(refine⟨([]:List (Nat×Nat)),?_⟩)
  |(refine⟨by kernel_rfl,?_⟩)
  |(refine⟨rfl,?_⟩)
  |(refine⟨?_,?_⟩)
  |fail)
theorem V8(es:List (List D))(d1 d2:D):Qv Tryz.prog 71 [.ptr 1000000 0,.ptr 1000001 0,.ptr 1000002 0] none [(1000000,.cells [.gs 1000003 8 es]),(1000001,.cells [.data d1]),(1000002,.cells [.data d2]),(1000003,.tok 8 es.length)] [(1000000,.cells [.gs 1000003 8 es]),(1000001,.cells [.data d1]),(1000002,.cells [.data d2]),(1000003,.tok 8 es.length)]:=by
 refine mW tok hmix Tryz.func71 rfl (by kernel_rfl) (by kernel_rfl) (by kernel_rfl) ?_
 repeat' ((try(conv=>whnf))<;>first
  |exact trivial
  |(refine⟨([]:List (Nat×Nat)),?_⟩)
  |(refine⟨by kernel_rfl,?_⟩)
  |(refine⟨rfl,?_⟩)
  |(refine⟨?_,?_⟩)
  |fail)
theorem pz(l:List Tk)(e:Int)(hl:l.length<=1073741823):aA Tryz.prog 28 [.sl 4 (l.map Tk.cs),.i e] (.ret (readD e (readM l))):=by
 refine af tok hmix ⟨[],[]⟩ Tryz.func28 rfl (by kernel_rfl) (by kernel_rfl) (by kernel_rfl) λhf=>?_
 clear hf
 repeat' ((try(conv=>whnf))<;>first
  |((refine iO _ _ _ [true,true,true] ?_ ?_ ?_);exact rfl;kernel_rfl)
  |((refine quiet_step ?_ ?_);kernel_rfl)
  |((refine z4m (d:=0) ZO (λl=>l.length<=1073741823) (λl o l' hl h=>Tf l e o l' hl h) ?_);refine⟨_,_,rfl,rfl,rfl,z8q hI0,λp l2 h_p=>?_,λl2 h_p=>?_⟩)
  |(refine bz (n-1,ps++[p],l2) ?_ (z5b hI0 ‹decide (((l1.map Tk.cs).length:Int)>0)=true› h_p) (ZN hI0 ‹decide (((l1.map Tk.cs).length:Int)>0)=true›))
  |((refine I5 ?_);refine⟨_,_,_,[(1000000,4),(1000001,5),(1000002,6),(1000003,900200)],V8 _ _ _,rfl,⟨rfl,rfl,rfl,rfl,trivial⟩,rfl,?_⟩;(rw[z5c hI0 ‹decide (((l1.map Tk.cs).length:Int)>0)=false›]);(conv=>whnf);refine fin_step' [] rfl ?_ ?_)
  |((rw[z5a hI0 ‹decide (((l1.map Tk.cs).length:Int)>0)=true› h_p]);(refine zV ?_);refine⟨_,_,_,[(1000000,4),(1000001,5),(1000002,6),(1000003,900200)],Ti _ _ _ _,rfl,⟨rfl,rfl,rfl,rfl,trivial⟩,rfl,?_⟩;(conv=>whnf);refine fin_step' [] rfl ?_ ?_)
  |exact trivial
  |refine BrI.intro (λh=>?_) (λh=>?_)
  |((refine aN.mk 0 ?_);refine⟨jE (λ(q:(Nat)×(List Pr)×(List Tk))=>match q with |(n,ps,l1)=>[]) (λ(q:(Nat)×(List Pr)×(List Tk))=>match q with |(n,ps,l1)=>[(4,.cells [.gs 900200 8 (ps.map Pr.cs)]),(900200,.tok 8 (ps.map Pr.cs).length),(12,pB l1 e 0)]) [4,5,6,7,999999] (λ(q:(Nat)×(List Pr)×(List Tk))=>match q with |(n,ps,l1)=>RdI (readM l) n ps l1) (λ(q:(Nat)×(List Pr)×(List Tk))=>match q with |(n,ps,l1)=>n),?_⟩;refine dI ((l.length),([]),(l)) ?_ ?_ (λ⟨n,ps,l1⟩ hI0=>?_))
  |(refine aG.l _ ?_)
  |((refine dO ?_ ?_ ?_ ?_ ?_ ?_)<;>exact rfl)
  |((refine eG ?_ ?_ ?_ ?_)<;>exact rfl)
  |((refine app_step' ?_ ?_ ?_ ?_ ?_ ?_ ?_);exact rfl;exact rfl;exact rfl;exact rfl)
  |((refine aI ?_ ?_);kernel_rfl)
  |((refine gY ?_ ?_);kernel_rfl)
  |(refine And.intro ?_ ?_)
  |((refine qR ?_ ?_ ?_);exact rfl;exact rfl;(first |exact bT |skip))
  |((refine fJ ?_ ?_);exact rfl;(first |exact bT |skip))
  |exact @rfl AV _
  |exact fK rfl
  |fail)
 all_goals first
  |(rfl)
  |((exact z4z hl))
  |((exact VU hI0))
  |skip
end Go.Proofs.YtmfehangcmbidaaGreatDoor
