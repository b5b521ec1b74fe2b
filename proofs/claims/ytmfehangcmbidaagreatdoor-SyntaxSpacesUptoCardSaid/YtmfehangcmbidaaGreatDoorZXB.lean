/- Contracts: package syntax: units. -/
import Derived.Test.YtmfehangcmbidaaGreatDoorZXA
set_option linter.unusedSectionVars false
set_option linter.unusedSimpArgs false
set_option linter.unusedVariables false
set_option maxHeartbeats 400000
namespace Go.Proofs.YtmfehangcmbidaaGreatDoor
open Go.Fw Go.Fw.Lx Go.Fw.Sy
set_option maxRecDepth 10000
variable [ae]
theorem oQ(l:List Tk)(e d:Int)(p:Option D)(thr:Bool)(hp:thr=true\/p=none):pY Tryz.prog 182 [.ptr 1000000 0] p thr [(1000000,.cells [.ptr 1000001 0]),(1000001,pB l e d)] [(1000000,.cells [.ptr 1000001 0]),(1000001,pB l e (IntKind.i64.wrap (d-1)))]:=by
 refine EC tok hmix Tryz.func182 rfl (by kernel_rfl) (by kernel_rfl) (by kernel_rfl) hp ?_
 repeat' ((try(conv=>whnf))<;>first
  |exact trivial
  |(refine⟨([]:List (Nat×Nat)),?_⟩)
  |(refine⟨by kernel_rfl,?_⟩)
  |(refine⟨rfl,?_⟩)
  |(refine⟨?_,?_⟩)
  |fail)
theorem zS   : aA Tryz.prog 143 [] [] (.ret (.map 1000000)) [(1000000,.map false [.str] (CY.map TA))]:=by
 refine ag tok hmix ⟨[],[]⟩ Tryz.func143 rfl (by kernel_rfl) (by kernel_rfl) (by kernel_rfl) λhf=>?_
 clear hf
 repeat' ((try(conv=>whnf))<;>first
  |exact trivial
  |((refine ah ?_);refine fin_step' [(1000000,1)] rfl ?_ ?_)
  |(refine And.intro ?_ ?_)
  |exact @rfl AV _
  |exact @rfl Block _
  |fail)
 all_goals first
  |(rfl)
  |skip
theorem RD(e d:Int)(l:List Tk)(o:Option (Ex))(l':List Tk)(hd0:0<=d)(hd1:d<=63)(hdp:d=63)(hM:wJ none l=(o,l')):aA Tryz.prog 181 [.ptr 1000000 0] [(1000000,pB l e d)] (jE 119 Ex.d e o l') [(1000000,pB l' e d)]:=by
 refine ag tok hmix ⟨[],[]⟩ Tryz.func181 rfl (by kernel_rfl) (by kernel_rfl) (by kernel_rfl) λhf=>?_
 clear hf
 repeat' ((try(conv=>whnf))<;>first
  |((refine mg ?_ ?_);exact rfl)
  |((refine mX ?_ ?_);exact rfl)
  |((refine zN (λs l=>gz s l e (IntKind.i64.wrap (d+1))) ?_);refine⟨_,_,_,rfl,rfl,rfl,λhT _=>?_,λhT=>?_⟩)
  |((refine FB (λl=>jl l e d) ?_);refine⟨_,_,rfl,rfl,rfl,?_⟩)
  |((refine FB (λl=>jl l e (IntKind.i64.wrap (d+1))) ?_);refine⟨_,_,rfl,rfl,rfl,?_⟩)
  |((refine QV (d:=(IntKind.i64.wrap (d+1))) eG (λl=>(hd l).n) QT (λl=>gV l e (IntKind.i64.wrap (d+1))) ?_);refine⟨_,_,rfl,rfl,rfl,λ_=>?_,λhN=>absurd (h.symm.trans hN) Bool.noConfusion⟩)
  |((refine QV (d:=(IntKind.i64.wrap (d+1))) Gv (λl=>(hd l).text) QU (λl=>gG l e (IntKind.i64.wrap (d+1))) ?_);refine⟨_,_,rfl,rfl,rfl,λ_=>?_,λhN=>absurd (h.symm.trans hN) Bool.noConfusion⟩)
  |(exact absurd h (Yh hdp))
  |((refine Iu ?_);(try simp only[Bool.not_true,Bool.not_false,cond_true,cond_false,bne,Bool.not_eq_true',Bool.not_eq_false']at *);(simp only[wJ,bnd,aC,reduceIte,Bool.false_eq_true, *]at hM);(obtain⟨rfl,rfl⟩:=eH hM);refine⟨_,_,_,[(1000000,1),(1000001,1000000)],oQ _ _ _ none false (.inr rfl),rfl,⟨rfl,rfl,trivial⟩,rfl,?_⟩;(conv=>whnf);refine fin_step' [(1000000,1000000)] rfl ?_ ?_)
  |((refine aY ?_);(have hE:=Kq hM h);(obtain⟨rfl,rfl⟩:=hE);refine aP ?_;refine fin_step' [(1000000,1000000)] rfl ?_ ?_)
  |((refine Kr ?_);(try simp only[Bool.not_true,Bool.not_false,cond_true,cond_false,bne,Bool.not_eq_true',Bool.not_eq_false']at *);(simp only[wJ,bnd,aC,reduceIte,Bool.false_eq_true, *]at hM);(obtain⟨rfl,rfl⟩:=eH hM);(refine Gs.pan rfl rfl ?_);refine⟨_,_,_,[(1000000,1),(1000001,1000000)],oQ _ _ _ _ true (.inl rfl),rfl,⟨rfl,rfl,trivial⟩,rfl,?_⟩;(refine iG ?_);refine fin_step' [(1000000,1000000)] rfl ?_ ?_)
  |exact trivial
  |refine BrI.intro (λh=>?_) (λh=>?_)
  |((refine dH ?_ ?_);exact rfl)
  |((refine dG ?_ ?_ ?_);rotate_left;(first |exact iJ _ _ _ |exact rC _ _ _))
  |(refine And.intro ?_ ?_)
  |fail)
 all_goals first
  |(rfl)
  |((exact congrArg D.i (FC hd0 hd1)))
  |skip
theorem RF(u:PM Ex)(e d:Int)(l:List Tk)(o:Option (Ex))(l':List Tk)(hd0:0<=d)(hd1:d<=63)(hdp:d<63)(hu:(∀l o l',u l=(o,l')->aA Tryz.prog 181 [.ptr 1000000 0] [(1000000,pB l e (IntKind.i64.wrap (d+1)))] (jE 119 Ex.d e o l') [(1000000,pB l' e (IntKind.i64.wrap (d+1)))]))(hE:(∀l o l',(rf u) l=(o,l')->aA Tryz.prog 161 [.ptr 1000000 0] [(1000000,pB l e (IntKind.i64.wrap (d+1)))] (jE 119 Ex.d e o l') [(1000000,pB l' e (IntKind.i64.wrap (d+1)))]))(hA:∀(k n:Int) (b:Bool),0<=n->n<=2->(∀l o l',mW u k n.toNat b l=(o,l')->aA Tryz.prog 183 [.ptr 1000000 0,.data (.i k),.data (.i n),.data (.b b)] [(1000000,pB l e (IntKind.i64.wrap (d+1)))] (jE 119 Ex.d e o l') [(1000000,pB l' e (IntKind.i64.wrap (d+1)))]))(hM:wJ (some u) l=(o,l')):aA Tryz.prog 181 [.ptr 1000000 0] [(1000000,pB l e d)] (jE 119 Ex.d e o l') [(1000000,pB l' e d)]:=by
 refine ag tok hmix ⟨[],[]⟩ Tryz.func181 rfl (by kernel_rfl) (by kernel_rfl) (by kernel_rfl) λhf=>?_
 clear hf
 repeat' ((try(conv=>whnf))<;>first
  |((refine mg ?_ ?_);exact rfl)
  |((refine mX ?_ ?_);exact rfl)
  |((refine zN (λs l=>gz s l e (IntKind.i64.wrap (d+1))) ?_);refine⟨_,_,_,rfl,rfl,rfl,λhT _=>?_,λhT=>?_⟩)
  |((refine zO (λs l=>gB s l e (IntKind.i64.wrap (d+1))) ?_);refine⟨_,_,_,_,rfl,rfl,rfl,rfl,rfl,λhW _=>?_,λhW=>?_⟩)
  |((refine FB (λl=>jl l e d) ?_);refine⟨_,_,rfl,rfl,rfl,?_⟩)
  |((refine FB (λl=>jl l e (IntKind.i64.wrap (d+1))) ?_);refine⟨_,_,rfl,rfl,rfl,?_⟩)
  |((refine QV (d:=(IntKind.i64.wrap (d+1))) eG (λl=>(hd l).n) QT (λl=>gV l e (IntKind.i64.wrap (d+1))) ?_);refine⟨_,_,rfl,rfl,rfl,λ_=>?_,λhN=>absurd (h.symm.trans hN) Bool.noConfusion⟩)
  |((refine QV (d:=(IntKind.i64.wrap (d+1))) Gv (λl=>(hd l).text) QU (λl=>gG l e (IntKind.i64.wrap (d+1))) ?_);refine⟨_,_,rfl,rfl,rfl,λ_=>?_,λhN=>absurd (h.symm.trans hN) Bool.noConfusion⟩)
  |((refine jL (d:=(IntKind.i64.wrap (d+1))) [] (λl=>hu l) ?_);refine⟨_,_,rfl,rfl,rfl,λx l1 h_x=>?_,λl1 h_x=>?_⟩)
  |((refine jL (d:=(IntKind.i64.wrap (d+1))) [] (λl=>hE l) ?_);refine⟨_,_,rfl,rfl,rfl,λx l1 h_x=>?_,λl1 h_x=>?_⟩)
  |((refine lentP' (d:=(IntKind.i64.wrap (d+1))) (z0q (.i f.1) (.i f.2.1) (.b f.2.2)) (λl o l' h=>hA f.1 f.2.1 f.2.2 (WM he).1 (WM he).2 l o l' h) ?_);refine⟨_,_,l.drop 1,rfl,rfl,U3,rfl,λx l1 h_x=>?_,λl1 h_x=>?_⟩)
  |(exact absurd h (U8 hd0 hdp))
  |((refine Iu ?_);(try simp only[Bool.not_true,Bool.not_false,cond_true,cond_false,bne,Bool.not_eq_true',Bool.not_eq_false']at *);(simp only[wJ,bnd,aC,reduceIte,Bool.false_eq_true, *]at hM);(obtain⟨rfl,rfl⟩:=eH hM);refine⟨_,_,_,[(1000000,1),(1000001,1000000)],oQ _ _ _ none false (.inr rfl),rfl,⟨rfl,rfl,trivial⟩,rfl,?_⟩;(conv=>whnf);refine fin_step' [(1000000,1000000)] rfl ?_ ?_)
  |((refine aY ?_);(have hE:=Kq hM h);(obtain⟨rfl,rfl⟩:=hE);refine aP ?_;refine fin_step' [(1000000,1000000)] rfl ?_ ?_)
  |((refine Kr ?_);(try simp only[Bool.not_true,Bool.not_false,cond_true,cond_false,bne,Bool.not_eq_true',Bool.not_eq_false']at *);(simp only[wJ,bnd,aC,reduceIte,Bool.false_eq_true, *]at hM);(obtain⟨rfl,rfl⟩:=eH hM);(refine Gs.pan rfl rfl ?_);refine⟨_,_,_,[(1000000,1),(1000001,1000000)],oQ _ _ _ _ true (.inl rfl),rfl,⟨rfl,rfl,trivial⟩,rfl,?_⟩;(refine iG ?_);refine fin_step' [(1000000,1000000)] rfl ?_ ?_)
  |exact trivial
  |refine BrI.intro (λh=>?_) (λh=>?_)
  |(refine Ko CY (λf he=>?_) (λhe=>?_))
  |((refine qm ?_ ?_ ?_ ?_);exact⟨rfl,rfl⟩;exact rfl;(exact emp_len' ‹(((l.map Tk.cs).length:Int)==0)=false›))
  |((refine oN ?_ ?_ ?_);exact⟨rfl,rfl⟩;exact z2q (emp_len' ‹(((l.map Tk.cs).length:Int)==0)=false›))
  |((refine dH ?_ ?_);exact rfl)
  |((refine dG ?_ ?_ ?_);rotate_left;(first |exact iJ _ _ _ |exact rC _ _ _))
  |((refine tq [(1000000,800000)] (zS) ?_ ?_ ?_ ?_);rotate_left 0;exact rfl;(exact trivial);exact rfl)
  |(refine aB.l _ ?_)
  |((refine aJ ?_ ?_ (λhg=>?_) ?_);exact rfl)
  |((refine aX ?_ ?_);exact rfl;exact rfl)
  |((refine aF ?_ ?_);kernel_rfl)
  |(refine And.intro ?_ ?_)
  |fail)
 all_goals first
  |(rfl)
  |((exact congrArg D.i (FC hd0 hd1)))
  |((exact U7))
  |skip
end Go.Proofs.YtmfehangcmbidaaGreatDoor
namespace Go.Proofs.YtmfehangcmbidaaGreatDoor
open Go.Fw Go.Fw.Lx Go.Fw.Sy
set_option maxRecDepth 10000
variable [ae] {u : PM Ex} {e d : Int}
theorem NI(hu:∀l o l',u l=(o,l')->aA Tryz.prog 181 [.ptr 1000000 0] [(1000000,pB l e d)] (jE 119 Ex.d e o l') [(1000000,pB l' e d)])(hs:Sh u):∀l o l',(kz u) l=(o,l')->aA Tryz.prog 180 [.ptr 1000000 0] [(1000000,pB l e d)] (jE 119 Ex.d e o l') [(1000000,pB l' e d)]:=λl o l' h=>FT u e d l o l' hu hs h
theorem z14(hu:∀l o l',u l=(o,l')->aA Tryz.prog 181 [.ptr 1000000 0] [(1000000,pB l e d)] (jE 119 Ex.d e o l') [(1000000,pB l' e d)])(hs:Sh u):∀l o l',(sumM u) l=(o,l')->aA Tryz.prog 174 [.ptr 1000000 0] [(1000000,pB l e d)] (jE 119 Ex.d e o l') [(1000000,pB l' e d)]:=λl o l' h=>Vr u e d l o l' (NI hu hs) hs h
theorem Du(hu:∀l o l',u l=(o,l')->aA Tryz.prog 181 [.ptr 1000000 0] [(1000000,pB l e d)] (jE 119 Ex.d e o l') [(1000000,pB l' e d)])(hs:Sh u):∀l o l',(rf u) l=(o,l')->aA Tryz.prog 161 [.ptr 1000000 0] [(1000000,pB l e d)] (jE 119 Ex.d e o l') [(1000000,pB l' e d)]:=λl o l' h=>NG u e d (l.length+1) l o l' (z14 hu hs) hs (Nat.lt_succ_self _) h
theorem CE(hu:∀l o l',u l=(o,l')->aA Tryz.prog 181 [.ptr 1000000 0] [(1000000,pB l e d)] (jE 119 Ex.d e o l') [(1000000,pB l' e d)])(hs:Sh u)(k n:Int)(b:Bool)(h0:0<=n)(h2:n<=2):∀l o l',mW u k n.toNat b l=(o,l')->aA Tryz.prog 183 [.ptr 1000000 0,.data (.i k),.data (.i n),.data (.b b)] [(1000000,pB l e d)] (jE 119 Ex.d e o l') [(1000000,pB l' e d)]:=by
 intro l o l' h
 have hn:((n.toNat:Nat):Int)=n:=Int.toNat_of_nonneg h0
 cases b with
 |false=>have:=NH u e d k n.toNat l o l' (Du hu hs) hs (by omega) h;rwa[hn]at this
 |true=>have:=Rz u e d k n.toNat l o l' (Du hu hs) hs (by omega) h;rwa[hn]at this
theorem FU(e:Int):∀(k:Nat) (d:Int),0<=d->d+k=63->∀l o l',(Ik k) l=(o,l')->aA Tryz.prog 181 [.ptr 1000000 0] [(1000000,pB l e d)] (jE 119 Ex.d e o l') [(1000000,pB l' e d)]
 | 0,d,h0,hk,l,o,l',h=>RD e d l o l' h0 (by omega) (by omega) h
 |k+1,d,h0,hk,l,o,l',h=>by
  have hd:IntKind.i64.wrap (d+1)=d+1:=Yg h0 (by omega)
  have ih:=FU e k (IntKind.i64.wrap (d+1)) (by omega) (by omega)
  exact RF (Ik k) e d l o l' h0 (by omega) (by omega) ih (Du ih (y8 k)) (λk n b h0 h2=>CE ih (y8 _) k n b h0 h2) h
theorem RG(e:Int):∀l o l',(rf (Ik 63)) l=(o,l')->aA Tryz.prog 161 [.ptr 1000000 0] [(1000000,pB l e 0)] (jE 119 Ex.d e o l') [(1000000,pB l' e 0)]:=Du (FU e 63 0 (by omega) (by omega)) (y8 63)
theorem zk(l:List Tk)(e d:Int)(o:Option (Int×Int))(l':List Tk)(hM:rq l=(o,l')):aA Tryz.prog 137 [.ptr 1000000 0] [(1000000,pB l e d)] (jE 119 (λb:Int×Int=>.tuple [.i b.1,.i b.2]) e o l') [(1000000,pB l' e d)]:=by
 refine ag tok hmix ⟨[],[]⟩ Tryz.func137 rfl (by kernel_rfl) (by kernel_rfl) (by kernel_rfl) λhf=>?_
 clear hf
 repeat' ((try(conv=>whnf))<;>first
  |((refine zO (λs l=>gB s l e d) ?_);refine⟨_,_,_,_,rfl,rfl,rfl,rfl,rfl,λhW _=>?_,λhW=>?_⟩)
  |((refine jL (d:=d) [] (λl=>wF l e d) ?_);refine⟨_,_,rfl,rfl,rfl,λn l1 h_n=>?_,λl1 h_n=>?_⟩)
  |((refine iV ?_);(try simp only[Bool.not_true,Bool.not_false,cond_true,cond_false,bne,Bool.not_eq_true',Bool.not_eq_false']at *);(simp only[rq,bnd,aC,reduceIte,Bool.false_eq_true, *]at hM);(obtain⟨rfl,rfl⟩:=eH hM);refine gq ?_;(conv=>whnf);refine fin_step' [(1000000,1000000)] rfl ?_ ?_)
  |((refine aY ?_);(try simp only[Bool.not_true,Bool.not_false,cond_true,cond_false,bne,Bool.not_eq_true',Bool.not_eq_false']at *);(simp only[rq,bnd,aC,reduceIte,Bool.false_eq_true, *]at hM);(obtain⟨rfl,rfl⟩:=eH hM);refine aP ?_;refine fin_step' [(1000000,1000000)] rfl ?_ ?_)
  |exact trivial
  |(refine aB.l _ ?_)
  |(refine And.intro ?_ ?_)
  |fail)
 all_goals first
  |skip
theorem Bf(l:List Tk)(e d:Int)(o:Option (Bd))(l':List Tk)(hM:yU l=(o,l')):aA Tryz.prog 136 [.ptr 1000000 0] [(1000000,pB l e d)] (jE 119 (λb:Bd=>.agg b.cs) e o l') [(1000000,pB l' e d)]:=by
 refine ag tok hmix ⟨[],[]⟩ Tryz.func136 rfl (by kernel_rfl) (by kernel_rfl) (by kernel_rfl) λhf=>?_
 clear hf
 repeat' ((try(conv=>whnf))<;>first
  |((refine jL (d:=d) [] (λl=>gG l e d) ?_);refine⟨_,_,rfl,rfl,rfl,λs l1 h_s=>?_,λl1 h_s=>?_⟩)
  |((refine jL (d:=d) [] (λl=>zk l e d) ?_);refine⟨_,_,rfl,rfl,rfl,λb l2 h_b=>?_,λl2 h_b=>?_⟩)
  |((refine iV ?_);(try simp only[Bool.not_true,Bool.not_false,cond_true,cond_false,bne,Bool.not_eq_true',Bool.not_eq_false']at *);(simp only[yU,bnd,reduceIte,Bool.false_eq_true, *]at hM);(obtain⟨rfl,rfl⟩:=eH hM);refine gq ?_;(conv=>whnf);refine fin_step' [(1000000,1000000)] rfl ?_ ?_)
  |((refine aY ?_);(try simp only[Bool.not_true,Bool.not_false,cond_true,cond_false,bne,Bool.not_eq_true',Bool.not_eq_false']at *);(simp only[yU,bnd,reduceIte,Bool.false_eq_true, *]at hM);(obtain⟨rfl,rfl⟩:=eH hM);refine aP ?_;refine fin_step' [(1000000,1000000)] rfl ?_ ?_)
  |exact trivial
  |(refine And.intro ?_ ?_)
  |fail)
 all_goals first
  |skip
theorem RH(l:List Tk)(e d:Int)(o:Option (List Int))(l':List Tk)(hl:l.length<=1073741823)(hM:Fj l=(o,l')):aA Tryz.prog 138 [.ptr 1000000 0,.fn 139 []] [(1000000,pB l e d)] (jE 119 (λl:List Int=>ints l) e o l') [(1000000,pB l' e d)]:=by
 refine ag tok hmix ⟨[],[]⟩ Tryz.func138 rfl (by kernel_rfl) (by kernel_rfl) (by kernel_rfl) λhf=>?_
 clear hf
 repeat' ((try(conv=>whnf))<;>first
  |((refine mg ?_ ?_);exact rfl)
  |((refine mX ?_ ?_);exact rfl)
  |((refine zN (λs l=>gz s l e d) ?_);refine⟨_,_,_,rfl,rfl,rfl,λhT _=>?_,λhT=>?_⟩)
  |((refine jL (d:=d) [] (λl=>wF l e d) ?_);refine⟨_,_,rfl,rfl,rfl,λv l2 h_v=>?_,λl2 h_v=>?_⟩)
  |(refine bi (n-1,vs++[v],l2) ?_ (z0y hI0 ‹isT aS l1=true› h_v) (Yk hI0 ‹isT aS l1=true›))
  |((refine aY ?_);(have hE:=Yi hM h_v);(obtain⟨rfl,rfl⟩:=hE);refine aP ?_;refine fin_step' [(1000000,1000000)] rfl ?_ ?_)
  |((refine aY ?_);(have hE:=Yj hI0 ‹isT aS l1=true› h_v);(obtain⟨rfl,rfl⟩:=hE);refine aP ?_;refine fin_step' [(1000000,1000000)] rfl ?_ ?_)
  |((refine iV ?_);(have hE:=z0x hI0 ‹isT aS l1=false›);(obtain⟨rfl,rfl⟩:=hE);refine gq ?_;(conv=>whnf);refine fin_step' [(1000000,1000000)] rfl ?_ ?_)
  |exact trivial
  |((refine aN.mk 0 ?_);refine⟨jf (λ(q:(Nat)×(List Int)×(List Tk))=>match q with |(n,vs,l1)=>[(5,.gs 9 1 (vs.map Tz))]) (λ(q:(Nat)×(List Int)×(List Tk))=>match q with |(n,vs,l1)=>[(1000000,pB l1 e d),(9,.tok 1 (vs.map Tz).length)]) [0,1] (λ(q:(Nat)×(List Int)×(List Tk))=>match q with |(n,vs,l1)=>LsI (o,l') n vs l1) (λ(q:(Nat)×(List Int)×(List Tk))=>match q with |(n,vs,l1)=>n),?_⟩;refine dm ((l2.length),([v]),(l2)) ?_ ?_ (λ⟨n,vs,l1⟩ hI0=>?_))
  |(refine aB.l _ ?_)
  |((refine app_step' ?_ ?_ ?_ ?_ ?_ ?_ ?_);exact rfl;exact rfl;exact rfl;exact rfl)
  |(refine And.intro ?_ ?_)
  |((refine sZ ?_ ?_ ?_);exact rfl;exact rfl;(first |exact cu |exact rfl |skip))
  |((refine fK ?_ ?_);exact rfl;(first |exact cu |skip))
  |exact @rfl AV _
  |exact @rfl Block _
  |exact eU rfl
  |fail)
 all_goals first
  |((exact z0w hl hM h_v))
  |((exact U9 hI0))
  |skip
theorem Bg(e:Int)(l:List Tk)(p:Pr)(ok:Bool)(p':Pr)(l':List Tk)(hz:Sz p l)(hM:yV p l=(ok,p',l')):aA Tryz.prog 113 [.ptr 1000000 0,.ptr 1000001 0] [(1000000,pB l e 0),(1000001,xB p),(1000002,.tok 3 (p.params.map Bd.cs).length),(1000003,.tok 3 (p.states.map Bd.cs).length),(1000004,.tok 4 (p.lines.map Ln.cs).length),(1000005,.tok 2 (p.tables.map Tb.cs).length),(1000006,.tok 8 (p.stmts.map Sm.cs).length)] (FD 119 e ok l') [(1000000,pB l' e 0),(1000001,xB p'),(1000002,.tok 3 (p'.params.map Bd.cs).length),(1000003,.tok 3 (p'.states.map Bd.cs).length),(1000004,.tok 4 (p'.lines.map Ln.cs).length),(1000005,.tok 2 (p'.tables.map Tb.cs).length),(1000006,.tok 8 (p'.stmts.map Sm.cs).length)]:=by
 refine ag tok hmix ⟨[],[]⟩ Tryz.func113 rfl (by kernel_rfl) (by kernel_rfl) (by kernel_rfl) λhf=>?_
 clear hf
 repeat' ((try(conv=>whnf))<;>first
  |((refine gX _ _ _ [true,true,true,true,true] ?_ ?_ ?_);exact rfl;kernel_rfl)
  |((refine quiet_step ?_ ?_);kernel_rfl)
  |((refine jL (d:=0) [] (λl=>Bf l e 0) ?_);refine⟨_,_,rfl,rfl,rfl,λb l1 h_b=>?_,λl1 h_b=>?_⟩)
  |((refine ru ?_);(try simp only[Bool.not_true,Bool.not_false,cond_true,cond_false,bne,Bool.not_eq_true',Bool.not_eq_false']at *);(simp only[yV,itB,reduceIte,Bool.false_eq_true, *]at hM);(obtain⟨rfl,rfl,rfl⟩:=ji hM);refine jW ?_;(conv=>whnf);refine fin_step' [(1000000,1000000),(1000001,1000001),(1000002,1000002),(1000003,1000003),(1000004,1000004),(1000005,1000005),(1000006,1000006)] rfl ?_ ?_)
  |((refine vG ?_);(try simp only[Bool.not_true,Bool.not_false,cond_true,cond_false,bne,Bool.not_eq_true',Bool.not_eq_false']at *);(simp only[yV,itB,reduceIte,Bool.false_eq_true, *]at hM);(obtain⟨rfl,rfl,rfl⟩:=ji hM);refine lu ?_;refine fin_step' [(1000000,1000000),(1000001,1000001),(1000002,1000002),(1000003,1000003),(1000004,1000004),(1000005,1000005),(1000006,1000006)] rfl ?_ ?_)
  |exact trivial
  |(refine aB.l _ ?_)
  |((refine app_step' ?_ ?_ ?_ ?_ ?_ ?_ ?_);exact rfl;exact rfl;exact rfl;exact rfl)
  |((refine aF ?_ ?_);kernel_rfl)
  |((refine fJ ?_ ?_);kernel_rfl)
  |(refine And.intro ?_ ?_)
  |((refine fK ?_ ?_);exact rfl;(first |exact cu |skip))
  |((refine aI ?_);refine dA ?_ ?_ ?_;exact rfl;exact rfl;(first |exact rfl |skip))
  |exact eU rfl
  |fail)
 all_goals first
  |((exact jX rfl))
  |((rw[List.length_map];first |(have:=hz.a;omega) |(have:=hz.b;omega) |(have:=hz.c;omega) |(have:=hz.d;omega) |(have:=hz.e;omega)))
  |skip
theorem Bh(e:Int)(l:List Tk)(p:Pr)(ok:Bool)(p':Pr)(l':List Tk)(hz:Sz p l)(hM:yX p l=(ok,p',l')):aA Tryz.prog 114 [.ptr 1000000 0,.ptr 1000001 0] [(1000000,pB l e 0),(1000001,xB p),(1000002,.tok 3 (p.params.map Bd.cs).length),(1000003,.tok 3 (p.states.map Bd.cs).length),(1000004,.tok 4 (p.lines.map Ln.cs).length),(1000005,.tok 2 (p.tables.map Tb.cs).length),(1000006,.tok 8 (p.stmts.map Sm.cs).length)] (FD 119 e ok l') [(1000000,pB l' e 0),(1000001,xB p'),(1000002,.tok 3 (p'.params.map Bd.cs).length),(1000003,.tok 3 (p'.states.map Bd.cs).length),(1000004,.tok 4 (p'.lines.map Ln.cs).length),(1000005,.tok 2 (p'.tables.map Tb.cs).length),(1000006,.tok 8 (p'.stmts.map Sm.cs).length)]:=by
 refine ag tok hmix ⟨[],[]⟩ Tryz.func114 rfl (by kernel_rfl) (by kernel_rfl) (by kernel_rfl) λhf=>?_
 clear hf
 repeat' ((try(conv=>whnf))<;>first
  |((refine gX _ _ _ [true,true,true,true,true] ?_ ?_ ?_);exact rfl;kernel_rfl)
  |((refine quiet_step ?_ ?_);kernel_rfl)
  |((refine jL (d:=0) [] (λl=>Bf l e 0) ?_);refine⟨_,_,rfl,rfl,rfl,λb l1 h_b=>?_,λl1 h_b=>?_⟩)
  |((refine ru ?_);(try simp only[Bool.not_true,Bool.not_false,cond_true,cond_false,bne,Bool.not_eq_true',Bool.not_eq_false']at *);(simp only[yX,itB,reduceIte,Bool.false_eq_true, *]at hM);(obtain⟨rfl,rfl,rfl⟩:=ji hM);refine jW ?_;(conv=>whnf);refine fin_step' [(1000000,1000000),(1000001,1000001),(1000002,1000002),(1000003,1000003),(1000004,1000004),(1000005,1000005),(1000006,1000006)] rfl ?_ ?_)
  |((refine vG ?_);(try simp only[Bool.not_true,Bool.not_false,cond_true,cond_false,bne,Bool.not_eq_true',Bool.not_eq_false']at *);(simp only[yX,itB,reduceIte,Bool.false_eq_true, *]at hM);(obtain⟨rfl,rfl,rfl⟩:=ji hM);refine lu ?_;refine fin_step' [(1000000,1000000),(1000001,1000001),(1000002,1000002),(1000003,1000003),(1000004,1000004),(1000005,1000005),(1000006,1000006)] rfl ?_ ?_)
  |exact trivial
  |(refine aB.l _ ?_)
  |((refine app_step' ?_ ?_ ?_ ?_ ?_ ?_ ?_);exact rfl;exact rfl;exact rfl;exact rfl)
  |((refine aF ?_ ?_);kernel_rfl)
  |((refine fJ ?_ ?_);kernel_rfl)
  |(refine And.intro ?_ ?_)
  |((refine fK ?_ ?_);exact rfl;(first |exact cu |skip))
  |((refine aI ?_);refine dA ?_ ?_ ?_;exact rfl;exact rfl;(first |exact rfl |skip))
  |exact eU rfl
  |fail)
 all_goals first
  |((exact jX rfl))
  |((rw[List.length_map];first |(have:=hz.a;omega) |(have:=hz.b;omega) |(have:=hz.c;omega) |(have:=hz.d;omega) |(have:=hz.e;omega)))
  |skip
theorem FV(e:Int)(l:List Tk)(p:Pr)(ok:Bool)(p':Pr)(l':List Tk)(hz:Sz p l)(hM:Il p l=(ok,p',l')):aA Tryz.prog 115 [.ptr 1000000 0,.ptr 1000001 0] [(1000000,pB l e 0),(1000001,xB p),(1000002,.tok 3 (p.params.map Bd.cs).length),(1000003,.tok 3 (p.states.map Bd.cs).length),(1000004,.tok 4 (p.lines.map Ln.cs).length),(1000005,.tok 2 (p.tables.map Tb.cs).length),(1000006,.tok 8 (p.stmts.map Sm.cs).length)] (FD 119 e ok l') [(1000000,pB l' e 0),(1000001,xB p'),(1000002,.tok 3 (p'.params.map Bd.cs).length),(1000003,.tok 3 (p'.states.map Bd.cs).length),(1000004,.tok 4 (p'.lines.map Ln.cs).length),(1000005,.tok 2 (p'.tables.map Tb.cs).length),(1000006,.tok 8 (p'.stmts.map Sm.cs).length)]:=by
 refine ag tok hmix ⟨[],[]⟩ Tryz.func115 rfl (by kernel_rfl) (by kernel_rfl) (by kernel_rfl) λhf=>?_
 clear hf
 repeat' ((try(conv=>whnf))<;>first
  |((refine jL (d:=0) [] (λl=>gG l e 0) ?_);refine⟨_,_,rfl,rfl,rfl,λs1 l1 h_s1=>?_,λl1 h_s1=>?_⟩)
  |((refine jL (d:=0) [] (λl=>gV l e 0) ?_);refine⟨_,_,rfl,rfl,rfl,λn l2 h_n=>?_,λl2 h_n=>?_⟩)
  |((refine jL (d:=0) [] (λl=>zk l e 0) ?_);refine⟨_,_,rfl,rfl,rfl,λb l3 h_b=>?_,λl3 h_b=>?_⟩)
  |((refine ru ?_);(try simp only[Bool.not_true,Bool.not_false,cond_true,cond_false,bne,Bool.not_eq_true',Bool.not_eq_false']at *);(simp only[Il,itB,reduceIte,Bool.false_eq_true, *]at hM);(obtain⟨rfl,rfl,rfl⟩:=ji hM);refine jW ?_;(conv=>whnf);refine fin_step' [(1000000,1000000),(1000001,1000001),(1000002,1000002),(1000003,1000003),(1000004,1000004),(1000005,1000005),(1000006,1000006)] rfl ?_ ?_)
  |((refine vG ?_);(try simp only[Bool.not_true,Bool.not_false,cond_true,cond_false,bne,Bool.not_eq_true',Bool.not_eq_false']at *);(simp only[Il,itB,reduceIte,Bool.false_eq_true, *]at hM);(obtain⟨rfl,rfl,rfl⟩:=ji hM);refine lu ?_;refine fin_step' [(1000000,1000000),(1000001,1000001),(1000002,1000002),(1000003,1000003),(1000004,1000004),(1000005,1000005),(1000006,1000006)] rfl ?_ ?_)
  |exact trivial
  |(refine aB.l _ ?_)
  |((refine app_step' ?_ ?_ ?_ ?_ ?_ ?_ ?_);exact rfl;exact rfl;exact rfl;exact rfl)
  |((refine aF ?_ ?_);kernel_rfl)
  |(refine And.intro ?_ ?_)
  |((refine fK ?_ ?_);exact rfl;(first |skip))
  |((refine aI ?_);refine dA ?_ ?_ ?_;exact rfl;exact rfl;(first |exact rfl |skip))
  |exact eU rfl
  |fail)
 all_goals first
  |((exact jX rfl))
  |((rw[List.length_map];first |(have:=hz.a;omega) |(have:=hz.b;omega) |(have:=hz.c;omega) |(have:=hz.d;omega) |(have:=hz.e;omega)))
  |skip
theorem Bi(e:Int)(l:List Tk)(p:Pr)(ok:Bool)(p':Pr)(l':List Tk)(hz:Sz p l)(hM:yY p l=(ok,p',l')):aA Tryz.prog 116 [.ptr 1000000 0,.ptr 1000001 0] [(1000000,pB l e 0),(1000001,xB p),(1000002,.tok 3 (p.params.map Bd.cs).length),(1000003,.tok 3 (p.states.map Bd.cs).length),(1000004,.tok 4 (p.lines.map Ln.cs).length),(1000005,.tok 2 (p.tables.map Tb.cs).length),(1000006,.tok 8 (p.stmts.map Sm.cs).length)] (FD 119 e ok l') [(1000000,pB l' e 0),(1000001,xB p'),(1000002,.tok 3 (p'.params.map Bd.cs).length),(1000003,.tok 3 (p'.states.map Bd.cs).length),(1000004,.tok 4 (p'.lines.map Ln.cs).length),(1000005,.tok 2 (p'.tables.map Tb.cs).length),(1000006,.tok 8 (p'.stmts.map Sm.cs).length)]:=by
 refine ag tok hmix ⟨[],[]⟩ Tryz.func116 rfl (by kernel_rfl) (by kernel_rfl) (by kernel_rfl) λhf=>?_
 clear hf
 repeat' ((try(conv=>whnf))<;>first
  |((refine jL (d:=0) [] (λl=>gG l e 0) ?_);refine⟨_,_,rfl,rfl,rfl,λs1 l1 h_s1=>?_,λl1 h_s1=>?_⟩)
  |((refine zO (λs l=>gB s l e 0) ?_);refine⟨_,_,_,_,rfl,rfl,rfl,rfl,rfl,λhW _=>?_,λhW=>?_⟩)
  |((refine z0t (d:=0) (z0u 139) (λl=>l.length<=1073741823) (λl o l' hl h=>RH l e 0 o l' hl h) ?_);refine⟨_,_,rfl,rfl,rfl,by(have:=lZ _ _ _ h_s1;have:=hz.a;simp only[List.length_drop];omega),λvs l3 h_vs=>?_,λl3 h_vs=>?_⟩)
  |((refine ru ?_);(try simp only[Bool.not_true,Bool.not_false,cond_true,cond_false,bne,Bool.not_eq_true',Bool.not_eq_false']at *);(simp only[yY,itB,aC,reduceIte,Bool.false_eq_true, *]at hM);(obtain⟨rfl,rfl,rfl⟩:=ji hM);refine jW ?_;(conv=>whnf);refine fin_step' [(1000000,1000000),(1000001,1000001),(1000002,1000002),(1000003,1000003),(1000004,1000004),(1000005,1000005),(1000006,1000006)] rfl ?_ ?_)
  |((refine vG ?_);(try simp only[Bool.not_true,Bool.not_false,cond_true,cond_false,bne,Bool.not_eq_true',Bool.not_eq_false']at *);(simp only[yY,itB,aC,reduceIte,Bool.false_eq_true, *]at hM);(obtain⟨rfl,rfl,rfl⟩:=ji hM);refine lu ?_;refine fin_step' [(1000000,1000000),(1000001,1000001),(1000002,1000002),(1000003,1000003),(1000004,1000004),(1000005,1000005),(1000006,1000006)] rfl ?_ ?_)
  |exact trivial
  |(refine aB.l _ ?_)
  |((refine app_step' ?_ ?_ ?_ ?_ ?_ ?_ ?_);exact rfl;exact rfl;exact rfl;exact rfl)
  |((refine aF ?_ ?_);kernel_rfl)
  |(refine And.intro ?_ ?_)
  |((refine fK ?_ ?_);exact rfl;(first |skip))
  |((refine aI ?_);refine dA ?_ ?_ ?_;exact rfl;exact rfl;(first |exact rfl |skip))
  |exact eU rfl
  |fail)
 all_goals first
  |((exact jX rfl))
  |((rw[List.length_map];first |(have:=hz.a;omega) |(have:=hz.b;omega) |(have:=hz.c;omega) |(have:=hz.d;omega) |(have:=hz.e;omega)))
  |skip
theorem jm(e:Int)(k:Int)(l:List Tk)(p:Pr)(ok:Bool)(p':Pr)(l':List Tk)(hz:Sz p l)(hM:kU k p l=(ok,p',l')):aA Tryz.prog 140 [.ptr 1000000 0,.ptr 1000001 0,.data (.i k)] [(1000000,pB l e 0),(1000001,xB p),(1000002,.tok 3 (p.params.map Bd.cs).length),(1000003,.tok 3 (p.states.map Bd.cs).length),(1000004,.tok 4 (p.lines.map Ln.cs).length),(1000005,.tok 2 (p.tables.map Tb.cs).length),(1000006,.tok 8 (p.stmts.map Sm.cs).length)] (FD 119 e ok l') [(1000000,pB l' e 0),(1000001,xB p'),(1000002,.tok 3 (p'.params.map Bd.cs).length),(1000003,.tok 3 (p'.states.map Bd.cs).length),(1000004,.tok 4 (p'.lines.map Ln.cs).length),(1000005,.tok 2 (p'.tables.map Tb.cs).length),(1000006,.tok 8 (p'.stmts.map Sm.cs).length)]:=by
 refine ag tok hmix ⟨[],[]⟩ Tryz.func140 rfl (by kernel_rfl) (by kernel_rfl) (by kernel_rfl) λhf=>?_
 clear hf
 repeat' ((try(conv=>whnf))<;>first
  |((refine jL (d:=0) [] (λl=>gG l e 0) ?_);refine⟨_,_,rfl,rfl,rfl,λs1 l1 h_s1=>?_,λl1 h_s1=>?_⟩)
  |((refine zO (λs l=>gB s l e 0) ?_);refine⟨_,_,_,_,rfl,rfl,rfl,rfl,rfl,λhW _=>?_,λhW=>?_⟩)
  |((refine jL (d:=0) [] (λl=>RG e l) ?_);refine⟨_,_,rfl,rfl,rfl,λx l3 h_x=>?_,λl3 h_x=>?_⟩)
  |((refine ru ?_);(try simp only[Bool.not_true,Bool.not_false,cond_true,cond_false,bne,Bool.not_eq_true',Bool.not_eq_false']at *);(simp only[kU,itB,bnd,aC,bne,Bool.not_false,Bool.not_true,reduceIte,Bool.false_eq_true, *]at hM);(obtain⟨rfl,rfl,rfl⟩:=ji hM);refine jW ?_;(conv=>whnf);refine fin_step' [(1000000,1000000),(1000001,1000001),(1000002,1000002),(1000003,1000003),(1000004,1000004),(1000005,1000005),(1000006,1000006)] rfl ?_ ?_)
  |((refine vG ?_);(try simp only[Bool.not_true,Bool.not_false,cond_true,cond_false,bne,Bool.not_eq_true',Bool.not_eq_false']at *);(simp only[kU,itB,bnd,aC,bne,Bool.not_false,Bool.not_true,reduceIte,Bool.false_eq_true, *]at hM);(obtain⟨rfl,rfl,rfl⟩:=ji hM);refine lu ?_;refine fin_step' [(1000000,1000000),(1000001,1000001),(1000002,1000002),(1000003,1000003),(1000004,1000004),(1000005,1000005),(1000006,1000006)] rfl ?_ ?_)
  |exact trivial
  |refine BrI.intro (λh=>?_) (λh=>?_)
  |(refine aB.l _ ?_)
  |((refine app_step' ?_ ?_ ?_ ?_ ?_ ?_ ?_);exact rfl;exact rfl;exact rfl;exact rfl)
  |((refine aF ?_ ?_);kernel_rfl)
  |(refine And.intro ?_ ?_)
  |((refine fK ?_ ?_);exact rfl;(first |skip))
  |((refine aI ?_);refine dA ?_ ?_ ?_;exact rfl;exact rfl;(first |exact rfl |skip))
  |exact eU rfl
  |fail)
 all_goals first
  |((exact jX rfl))
  |((rw[List.length_map];first |(have:=hz.a;omega) |(have:=hz.b;omega) |(have:=hz.c;omega) |(have:=hz.d;omega) |(have:=hz.e;omega)))
  |skip
theorem KL(e:Int)(l:List Tk)(p:Pr)(ok:Bool)(p':Pr)(l':List Tk)(hz:Sz p l)(hM:(kU 1) p l=(ok,p',l')):aA Tryz.prog 117 [.ptr 1000000 0,.ptr 1000001 0] [(1000000,pB l e 0),(1000001,xB p),(1000002,.tok 3 (p.params.map Bd.cs).length),(1000003,.tok 3 (p.states.map Bd.cs).length),(1000004,.tok 4 (p.lines.map Ln.cs).length),(1000005,.tok 2 (p.tables.map Tb.cs).length),(1000006,.tok 8 (p.stmts.map Sm.cs).length)] (FD 119 e ok l') [(1000000,pB l' e 0),(1000001,xB p'),(1000002,.tok 3 (p'.params.map Bd.cs).length),(1000003,.tok 3 (p'.states.map Bd.cs).length),(1000004,.tok 4 (p'.lines.map Ln.cs).length),(1000005,.tok 2 (p'.tables.map Tb.cs).length),(1000006,.tok 8 (p'.stmts.map Sm.cs).length)]:=by
 refine ag tok hmix ⟨[],[]⟩ Tryz.func117 rfl (by kernel_rfl) (by kernel_rfl) (by kernel_rfl) λhf=>?_
 clear hf
 repeat' ((try(conv=>whnf))<;>first
  |((refine tY 140 (kU 1 p l) (λp1 l1=>⟨λhR=>?_,λhR=>?_⟩));(refine lent_step' [(1000000,1000000),(1000001,1000001),(1000002,1000002),(1000003,1000003),(1000004,1000004),(1000005,1000005),(1000006,1000006)] (jm e 1 l p true p1 l1 hz hR) rfl ⟨rfl,rfl,rfl,rfl,rfl,rfl,rfl,trivial⟩ rfl ?_);rotate_left;(refine lent_step' [(1000000,1000000),(1000001,1000001),(1000002,1000002),(1000003,1000003),(1000004,1000004),(1000005,1000005),(1000006,1000006)] (jm e 1 l p false p1 l1 hz hR) rfl ⟨rfl,rfl,rfl,rfl,rfl,rfl,rfl,trivial⟩ rfl ?_))
  |((refine ru ?_);(try simp only[Bool.not_true,Bool.not_false,cond_true,cond_false,bne,Bool.not_eq_true',Bool.not_eq_false']at *);(simp only[hR,reduceIte,Bool.false_eq_true, *]at hM);(obtain⟨rfl,rfl,rfl⟩:=ji hM);refine jW ?_;(conv=>whnf);refine fin_step' [(1000000,1000000),(1000001,1000001),(1000002,1000002),(1000003,1000003),(1000004,1000004),(1000005,1000005),(1000006,1000006)] rfl ?_ ?_)
  |((refine vG ?_);(try simp only[Bool.not_true,Bool.not_false,cond_true,cond_false,bne,Bool.not_eq_true',Bool.not_eq_false']at *);(simp only[hR,reduceIte,Bool.false_eq_true, *]at hM);(obtain⟨rfl,rfl,rfl⟩:=ji hM);refine lu ?_;refine fin_step' [(1000000,1000000),(1000001,1000001),(1000002,1000002),(1000003,1000003),(1000004,1000004),(1000005,1000005),(1000006,1000006)] rfl ?_ ?_)
  |exact trivial
  |(refine And.intro ?_ ?_)
  |((refine aI ?_);refine dA ?_ ?_ ?_;exact rfl;exact rfl;(first |exact rfl |skip))
  |exact @rfl Block _
  |fail)
 all_goals first
  |skip
theorem KN(e:Int)(l:List Tk)(p:Pr)(ok:Bool)(p':Pr)(l':List Tk)(hz:Sz p l)(hM:(kU 2) p l=(ok,p',l')):aA Tryz.prog 118 [.ptr 1000000 0,.ptr 1000001 0] [(1000000,pB l e 0),(1000001,xB p),(1000002,.tok 3 (p.params.map Bd.cs).length),(1000003,.tok 3 (p.states.map Bd.cs).length),(1000004,.tok 4 (p.lines.map Ln.cs).length),(1000005,.tok 2 (p.tables.map Tb.cs).length),(1000006,.tok 8 (p.stmts.map Sm.cs).length)] (FD 119 e ok l') [(1000000,pB l' e 0),(1000001,xB p'),(1000002,.tok 3 (p'.params.map Bd.cs).length),(1000003,.tok 3 (p'.states.map Bd.cs).length),(1000004,.tok 4 (p'.lines.map Ln.cs).length),(1000005,.tok 2 (p'.tables.map Tb.cs).length),(1000006,.tok 8 (p'.stmts.map Sm.cs).length)]:=by
 refine ag tok hmix ⟨[],[]⟩ Tryz.func118 rfl (by kernel_rfl) (by kernel_rfl) (by kernel_rfl) λhf=>?_
 clear hf
 repeat' ((try(conv=>whnf))<;>first
  |((refine tY 140 (kU 2 p l) (λp1 l1=>⟨λhR=>?_,λhR=>?_⟩));(refine lent_step' [(1000000,1000000),(1000001,1000001),(1000002,1000002),(1000003,1000003),(1000004,1000004),(1000005,1000005),(1000006,1000006)] (jm e 2 l p true p1 l1 hz hR) rfl ⟨rfl,rfl,rfl,rfl,rfl,rfl,rfl,trivial⟩ rfl ?_);rotate_left;(refine lent_step' [(1000000,1000000),(1000001,1000001),(1000002,1000002),(1000003,1000003),(1000004,1000004),(1000005,1000005),(1000006,1000006)] (jm e 2 l p false p1 l1 hz hR) rfl ⟨rfl,rfl,rfl,rfl,rfl,rfl,rfl,trivial⟩ rfl ?_))
  |((refine ru ?_);(try simp only[Bool.not_true,Bool.not_false,cond_true,cond_false,bne,Bool.not_eq_true',Bool.not_eq_false']at *);(simp only[hR,reduceIte,Bool.false_eq_true, *]at hM);(obtain⟨rfl,rfl,rfl⟩:=ji hM);refine jW ?_;(conv=>whnf);refine fin_step' [(1000000,1000000),(1000001,1000001),(1000002,1000002),(1000003,1000003),(1000004,1000004),(1000005,1000005),(1000006,1000006)] rfl ?_ ?_)
  |((refine vG ?_);(try simp only[Bool.not_true,Bool.not_false,cond_true,cond_false,bne,Bool.not_eq_true',Bool.not_eq_false']at *);(simp only[hR,reduceIte,Bool.false_eq_true, *]at hM);(obtain⟨rfl,rfl,rfl⟩:=ji hM);refine lu ?_;refine fin_step' [(1000000,1000000),(1000001,1000001),(1000002,1000002),(1000003,1000003),(1000004,1000004),(1000005,1000005),(1000006,1000006)] rfl ?_ ?_)
  |exact trivial
  |(refine And.intro ?_ ?_)
  |((refine aI ?_);refine dA ?_ ?_ ?_;exact rfl;exact rfl;(first |exact rfl |skip))
  |exact @rfl Block _
  |fail)
 all_goals first
  |skip
theorem FW(e:Int)(l:List Tk)(p:Pr)(ok:Bool)(p':Pr)(l':List Tk)(hz:Sz p l)(hM:(kU 3) p l=(ok,p',l')):aA Tryz.prog 119 [.ptr 1000000 0,.ptr 1000001 0] [(1000000,pB l e 0),(1000001,xB p),(1000002,.tok 3 (p.params.map Bd.cs).length),(1000003,.tok 3 (p.states.map Bd.cs).length),(1000004,.tok 4 (p.lines.map Ln.cs).length),(1000005,.tok 2 (p.tables.map Tb.cs).length),(1000006,.tok 8 (p.stmts.map Sm.cs).length)] (FD 119 e ok l') [(1000000,pB l' e 0),(1000001,xB p'),(1000002,.tok 3 (p'.params.map Bd.cs).length),(1000003,.tok 3 (p'.states.map Bd.cs).length),(1000004,.tok 4 (p'.lines.map Ln.cs).length),(1000005,.tok 2 (p'.tables.map Tb.cs).length),(1000006,.tok 8 (p'.stmts.map Sm.cs).length)]:=by
 refine ag tok hmix ⟨[],[]⟩ Tryz.func119 rfl (by kernel_rfl) (by kernel_rfl) (by kernel_rfl) λhf=>?_
 clear hf
 repeat' ((try(conv=>whnf))<;>first
  |((refine tY 140 (kU 3 p l) (λp1 l1=>⟨λhR=>?_,λhR=>?_⟩));(refine lent_step' [(1000000,1000000),(1000001,1000001),(1000002,1000002),(1000003,1000003),(1000004,1000004),(1000005,1000005),(1000006,1000006)] (jm e 3 l p true p1 l1 hz hR) rfl ⟨rfl,rfl,rfl,rfl,rfl,rfl,rfl,trivial⟩ rfl ?_);rotate_left;(refine lent_step' [(1000000,1000000),(1000001,1000001),(1000002,1000002),(1000003,1000003),(1000004,1000004),(1000005,1000005),(1000006,1000006)] (jm e 3 l p false p1 l1 hz hR) rfl ⟨rfl,rfl,rfl,rfl,rfl,rfl,rfl,trivial⟩ rfl ?_))
  |((refine ru ?_);(try simp only[Bool.not_true,Bool.not_false,cond_true,cond_false,bne,Bool.not_eq_true',Bool.not_eq_false']at *);(simp only[hR,reduceIte,Bool.false_eq_true, *]at hM);(obtain⟨rfl,rfl,rfl⟩:=ji hM);refine jW ?_;(conv=>whnf);refine fin_step' [(1000000,1000000),(1000001,1000001),(1000002,1000002),(1000003,1000003),(1000004,1000004),(1000005,1000005),(1000006,1000006)] rfl ?_ ?_)
  |((refine vG ?_);(try simp only[Bool.not_true,Bool.not_false,cond_true,cond_false,bne,Bool.not_eq_true',Bool.not_eq_false']at *);(simp only[hR,reduceIte,Bool.false_eq_true, *]at hM);(obtain⟨rfl,rfl,rfl⟩:=ji hM);refine lu ?_;refine fin_step' [(1000000,1000000),(1000001,1000001),(1000002,1000002),(1000003,1000003),(1000004,1000004),(1000005,1000005),(1000006,1000006)] rfl ?_ ?_)
  |exact trivial
  |(refine And.intro ?_ ?_)
  |((refine aI ?_);refine dA ?_ ?_ ?_;exact rfl;exact rfl;(first |exact rfl |skip))
  |exact @rfl Block _
  |fail)
 all_goals first
  |skip
theorem KO(e:Int)(l:List Tk)(p:Pr)(ok:Bool)(p':Pr)(l':List Tk)(hz:Sz p l)(hM:(kU 4) p l=(ok,p',l')):aA Tryz.prog 120 [.ptr 1000000 0,.ptr 1000001 0] [(1000000,pB l e 0),(1000001,xB p),(1000002,.tok 3 (p.params.map Bd.cs).length),(1000003,.tok 3 (p.states.map Bd.cs).length),(1000004,.tok 4 (p.lines.map Ln.cs).length),(1000005,.tok 2 (p.tables.map Tb.cs).length),(1000006,.tok 8 (p.stmts.map Sm.cs).length)] (FD 119 e ok l') [(1000000,pB l' e 0),(1000001,xB p'),(1000002,.tok 3 (p'.params.map Bd.cs).length),(1000003,.tok 3 (p'.states.map Bd.cs).length),(1000004,.tok 4 (p'.lines.map Ln.cs).length),(1000005,.tok 2 (p'.tables.map Tb.cs).length),(1000006,.tok 8 (p'.stmts.map Sm.cs).length)]:=by
 refine ag tok hmix ⟨[],[]⟩ Tryz.func120 rfl (by kernel_rfl) (by kernel_rfl) (by kernel_rfl) λhf=>?_
 clear hf
 repeat' ((try(conv=>whnf))<;>first
  |((refine tY 140 (kU 4 p l) (λp1 l1=>⟨λhR=>?_,λhR=>?_⟩));(refine lent_step' [(1000000,1000000),(1000001,1000001),(1000002,1000002),(1000003,1000003),(1000004,1000004),(1000005,1000005),(1000006,1000006)] (jm e 4 l p true p1 l1 hz hR) rfl ⟨rfl,rfl,rfl,rfl,rfl,rfl,rfl,trivial⟩ rfl ?_);rotate_left;(refine lent_step' [(1000000,1000000),(1000001,1000001),(1000002,1000002),(1000003,1000003),(1000004,1000004),(1000005,1000005),(1000006,1000006)] (jm e 4 l p false p1 l1 hz hR) rfl ⟨rfl,rfl,rfl,rfl,rfl,rfl,rfl,trivial⟩ rfl ?_))
  |((refine ru ?_);(try simp only[Bool.not_true,Bool.not_false,cond_true,cond_false,bne,Bool.not_eq_true',Bool.not_eq_false']at *);(simp only[hR,reduceIte,Bool.false_eq_true, *]at hM);(obtain⟨rfl,rfl,rfl⟩:=ji hM);refine jW ?_;(conv=>whnf);refine fin_step' [(1000000,1000000),(1000001,1000001),(1000002,1000002),(1000003,1000003),(1000004,1000004),(1000005,1000005),(1000006,1000006)] rfl ?_ ?_)
  |((refine vG ?_);(try simp only[Bool.not_true,Bool.not_false,cond_true,cond_false,bne,Bool.not_eq_true',Bool.not_eq_false']at *);(simp only[hR,reduceIte,Bool.false_eq_true, *]at hM);(obtain⟨rfl,rfl,rfl⟩:=ji hM);refine lu ?_;refine fin_step' [(1000000,1000000),(1000001,1000001),(1000002,1000002),(1000003,1000003),(1000004,1000004),(1000005,1000005),(1000006,1000006)] rfl ?_ ?_)
  |exact trivial
  |(refine And.intro ?_ ?_)
  |((refine aI ?_);refine dA ?_ ?_ ?_;exact rfl;exact rfl;(first |exact rfl |skip))
  |exact @rfl Block _
  |fail)
 all_goals first
  |skip
end Go.Proofs.YtmfehangcmbidaaGreatDoor
namespace Go.Proofs.YtmfehangcmbidaaGreatDoor
open Go.Fw Go.Fw.Lx Go.Fw.Sy
set_option maxRecDepth 10000
variable [ae]
theorem zl(e:Int)(l:List Tk)(p:Pr)(ok:Bool)(p':Pr)(l':List Tk)(hz:Sz p l)(hM:dD decls p l=(ok,p',l')):aA Tryz.prog 112 [.ptr 1000000 0,.ptr 1000001 0,.map 1000007] [(1000000,pB l e 0),(1000001,xB p),(1000002,.tok 3 (p.params.map Bd.cs).length),(1000003,.tok 3 (p.states.map Bd.cs).length),(1000004,.tok 4 (p.lines.map Ln.cs).length),(1000005,.tok 2 (p.tables.map Tb.cs).length),(1000006,.tok 8 (p.stmts.map Sm.cs).length),(1000007,.map false [.str] [(.str tK,.fn 113 []),(.str qj,.fn 114 []),(.str Fh,.fn 115 []),(.str ww,.fn 116 [])])] (FD 119 e ok l') [(1000000,pB l' e 0),(1000001,xB p'),(1000002,.tok 3 (p'.params.map Bd.cs).length),(1000003,.tok 3 (p'.states.map Bd.cs).length),(1000004,.tok 4 (p'.lines.map Ln.cs).length),(1000005,.tok 2 (p'.tables.map Tb.cs).length),(1000006,.tok 8 (p'.stmts.map Sm.cs).length),(1000007,.map false [.str] [(.str tK,.fn 113 []),(.str qj,.fn 114 []),(.str Fh,.fn 115 []),(.str ww,.fn 116 [])])]:=by
 refine ag tok hmix ⟨[],[]⟩ Tryz.func112 rfl (by kernel_rfl) (by kernel_rfl) (by kernel_rfl) λhf=>?_
 clear hf
 repeat' ((try(conv=>whnf))<;>first
  |((refine uZ (.data (.val (.bool false))) ?_ ?_ ?_);exact rfl;exact rfl)
  |((refine yO ?_ ?_);exact rfl)
  |((refine mg ?_ ?_);exact rfl)
  |((refine mX ?_ ?_);exact rfl)
  |((refine zN (λs l=>gz s l e 0) ?_);refine⟨_,_,_,rfl,rfl,rfl,λhT _=>?_,λhT=>?_⟩)
  |((refine zO (λs l=>gB s l e 0) ?_);refine⟨_,_,_,_,rfl,rfl,rfl,rfl,rfl,λhW _=>?_,λhW=>?_⟩)
  |((refine tY 113 (yV p (l1.drop 1)) (λp1 l2=>⟨λhR=>?_,λhR=>?_⟩));(refine lent_step' [(1000000,1000000),(1000001,1000001),(1000002,1000002),(1000003,1000003),(1000004,1000004),(1000005,1000005),(1000006,1000006)] (Bg e (l1.drop 1) p true p1 l2 (hI0.sz.le (by simp)) hR) rfl ⟨rfl,rfl,rfl,rfl,rfl,rfl,rfl,trivial⟩ rfl ?_);rotate_left;(refine lent_step' [(1000000,1000000),(1000001,1000001),(1000002,1000002),(1000003,1000003),(1000004,1000004),(1000005,1000005),(1000006,1000006)] (Bg e (l1.drop 1) p false p1 l2 (hI0.sz.le (by simp)) hR) rfl ⟨rfl,rfl,rfl,rfl,rfl,rfl,rfl,trivial⟩ rfl ?_))
  |((refine tY 114 (yX p (l1.drop 1)) (λp1 l2=>⟨λhR=>?_,λhR=>?_⟩));(refine lent_step' [(1000000,1000000),(1000001,1000001),(1000002,1000002),(1000003,1000003),(1000004,1000004),(1000005,1000005),(1000006,1000006)] (Bh e (l1.drop 1) p true p1 l2 (hI0.sz.le (by simp)) hR) rfl ⟨rfl,rfl,rfl,rfl,rfl,rfl,rfl,trivial⟩ rfl ?_);rotate_left;(refine lent_step' [(1000000,1000000),(1000001,1000001),(1000002,1000002),(1000003,1000003),(1000004,1000004),(1000005,1000005),(1000006,1000006)] (Bh e (l1.drop 1) p false p1 l2 (hI0.sz.le (by simp)) hR) rfl ⟨rfl,rfl,rfl,rfl,rfl,rfl,rfl,trivial⟩ rfl ?_))
  |((refine tY 115 (Il p (l1.drop 1)) (λp1 l2=>⟨λhR=>?_,λhR=>?_⟩));(refine lent_step' [(1000000,1000000),(1000001,1000001),(1000002,1000002),(1000003,1000003),(1000004,1000004),(1000005,1000005),(1000006,1000006)] (FV e (l1.drop 1) p true p1 l2 (hI0.sz.le (by simp)) hR) rfl ⟨rfl,rfl,rfl,rfl,rfl,rfl,rfl,trivial⟩ rfl ?_);rotate_left;(refine lent_step' [(1000000,1000000),(1000001,1000001),(1000002,1000002),(1000003,1000003),(1000004,1000004),(1000005,1000005),(1000006,1000006)] (FV e (l1.drop 1) p false p1 l2 (hI0.sz.le (by simp)) hR) rfl ⟨rfl,rfl,rfl,rfl,rfl,rfl,rfl,trivial⟩ rfl ?_))
  |((refine tY 116 (yY p (l1.drop 1)) (λp1 l2=>⟨λhR=>?_,λhR=>?_⟩));(refine lent_step' [(1000000,1000000),(1000001,1000001),(1000002,1000002),(1000003,1000003),(1000004,1000004),(1000005,1000005),(1000006,1000006)] (Bi e (l1.drop 1) p true p1 l2 (hI0.sz.le (by simp)) hR) rfl ⟨rfl,rfl,rfl,rfl,rfl,rfl,rfl,trivial⟩ rfl ?_);rotate_left;(refine lent_step' [(1000000,1000000),(1000001,1000001),(1000002,1000002),(1000003,1000003),(1000004,1000004),(1000005,1000005),(1000006,1000006)] (Bi e (l1.drop 1) p false p1 l2 (hI0.sz.le (by simp)) hR) rfl ⟨rfl,rfl,rfl,rfl,rfl,rfl,rfl,trivial⟩ rfl ?_))
  |(refine bi (n-1,p1,l2.drop 1) ?_ (z4x hI0 ‹isT (hd l1).text l1=true› (by simp only[find,decls, *,reduceIte,Bool.false_eq_true]) hR (by first |exact Dh hR |exact Di hR |exact Iw hR |exact Dj hR |exact vH hR) ‹isT dS l2=true›) (z01 hI0 ‹isT (hd l1).text l1=true›))
  |((refine vG ?_);(have hE:=z0z hI0 ‹isT (hd l1).text l1=true› (by simp only[find,decls, *,reduceIte,Bool.false_eq_true]) hR);(obtain⟨rfl,rfl,rfl⟩:=hE);refine lu ?_;refine fin_step' [(1000000,1000000),(1000001,1000001),(1000002,1000002),(1000003,1000003),(1000004,1000004),(1000005,1000005),(1000006,1000006),(1000007,1000007)] rfl ?_ ?_)
  |((refine vG ?_);(have hE:=z00 hI0 ‹isT (hd l1).text l1=true› (by simp only[find,decls, *,reduceIte,Bool.false_eq_true]) hR ‹isT dS l2=false›);(obtain⟨rfl,rfl,rfl⟩:=hE);refine lu ?_;refine fin_step' [(1000000,1000000),(1000001,1000001),(1000002,1000002),(1000003,1000003),(1000004,1000004),(1000005,1000005),(1000006,1000006),(1000007,1000007)] rfl ?_ ?_)
  |((refine ru ?_);(have hE:=z02 hI0 ‹decide (((l1.map Tk.cs).length:Int)>0)=false›);(obtain⟨rfl,rfl,rfl⟩:=hE);refine jW ?_;(conv=>whnf);refine fin_step' [(1000000,1000000),(1000001,1000001),(1000002,1000002),(1000003,1000003),(1000004,1000004),(1000005,1000005),(1000006,1000006),(1000007,1000007)] rfl ?_ ?_)
  |((refine ru ?_);(have hE:=z04 hI0 ‹isT (hd l1).text l1=false›);(obtain⟨rfl,rfl,rfl⟩:=hE);refine jW ?_;(conv=>whnf);refine fin_step' [(1000000,1000000),(1000001,1000001),(1000002,1000002),(1000003,1000003),(1000004,1000004),(1000005,1000005),(1000006,1000006),(1000007,1000007)] rfl ?_ ?_)
  |((refine ru ?_);(have hE:=z03 hI0 (by simp only[find,decls, *,reduceIte,Bool.false_eq_true]));(obtain⟨rfl,rfl,rfl⟩:=hE);refine jW ?_;(conv=>whnf);refine fin_step' [(1000000,1000000),(1000001,1000001),(1000002,1000002),(1000003,1000003),(1000004,1000004),(1000005,1000005),(1000006,1000006),(1000007,1000007)] rfl ?_ ?_)
  |exact trivial
  |refine BrI.intro (λh=>?_) (λh=>?_)
  |((refine qm ?_ ?_ ?_ ?_);exact⟨rfl,rfl⟩;exact rfl;exact Kt ‹decide (((l1.map Tk.cs).length:Int)>0)=true›)
  |(refine z4w (λh1=>?_) (λh0 h1=>?_) (λh0 h00 h1=>?_) (λh0 h00 h000 h1=>?_) (λh0 h00 h000 h0000=>?_))
  |((refine aN.mk 0 ?_);refine⟨jf (λ(q:(Nat)×(Pr)×(List Tk))=>match q with |(n,p,l1)=>[]) (λ(q:(Nat)×(Pr)×(List Tk))=>match q with |(n,p,l1)=>[(1000000,pB l1 e 0),(1000001,xB p),(1000002,.tok 3 (p.params.map Bd.cs).length),(1000003,.tok 3 (p.states.map Bd.cs).length),(1000004,.tok 4 (p.lines.map Ln.cs).length),(1000005,.tok 2 (p.tables.map Tb.cs).length),(1000006,.tok 8 (p.stmts.map Sm.cs).length)]) [0,1,2] (λ(q:(Nat)×(Pr)×(List Tk))=>match q with |(n,p,l1)=>ItI decls (ok,p',l') n p l1) (λ(q:(Nat)×(Pr)×(List Tk))=>match q with |(n,p,l1)=>n),?_⟩;refine dm ((l.length),(p),(l)) ?_ ?_ (λ⟨n,p,l1⟩ hI0=>?_))
  |(refine aB.l _ ?_)
  |(refine And.intro ?_ ?_)
  |((refine sZ ?_ ?_ ?_);exact rfl;exact rfl;(first |exact rfl |skip))
  |((refine aI ?_);refine dA ?_ ?_ ?_;exact rfl;exact rfl;(first |exact rfl |skip))
  |exact @rfl AV _
  |exact @rfl Block _
  |fail)
 all_goals first
  |(rfl)
  |((exact ItI.start hz hM))
  |skip
theorem zn(e:Int)(l:List Tk)(p:Pr)(ok:Bool)(p':Pr)(l':List Tk)(hz:Sz p l)(hM:dD stmts p l=(ok,p',l')):aA Tryz.prog 112 [.ptr 1000000 0,.ptr 1000001 0,.map 1000007] [(1000000,pB l e 0),(1000001,xB p),(1000002,.tok 3 (p.params.map Bd.cs).length),(1000003,.tok 3 (p.states.map Bd.cs).length),(1000004,.tok 4 (p.lines.map Ln.cs).length),(1000005,.tok 2 (p.tables.map Tb.cs).length),(1000006,.tok 8 (p.stmts.map Sm.cs).length),(1000007,.map false [.str] [(.str XZ,.fn 117 []),(.str X0,.fn 118 []),(.str Ij,.fn 119 []),(.str X3,.fn 120 [])])] (FD 119 e ok l') [(1000000,pB l' e 0),(1000001,xB p'),(1000002,.tok 3 (p'.params.map Bd.cs).length),(1000003,.tok 3 (p'.states.map Bd.cs).length),(1000004,.tok 4 (p'.lines.map Ln.cs).length),(1000005,.tok 2 (p'.tables.map Tb.cs).length),(1000006,.tok 8 (p'.stmts.map Sm.cs).length),(1000007,.map false [.str] [(.str XZ,.fn 117 []),(.str X0,.fn 118 []),(.str Ij,.fn 119 []),(.str X3,.fn 120 [])])]:=by
 refine ag tok hmix ⟨[],[]⟩ Tryz.func112 rfl (by kernel_rfl) (by kernel_rfl) (by kernel_rfl) λhf=>?_
 clear hf
 repeat' ((try(conv=>whnf))<;>first
  |((refine uZ (.data (.val (.bool false))) ?_ ?_ ?_);exact rfl;exact rfl)
  |((refine yO ?_ ?_);exact rfl)
  |((refine mg ?_ ?_);exact rfl)
  |((refine mX ?_ ?_);exact rfl)
  |((refine zN (λs l=>gz s l e 0) ?_);refine⟨_,_,_,rfl,rfl,rfl,λhT _=>?_,λhT=>?_⟩)
  |((refine zO (λs l=>gB s l e 0) ?_);refine⟨_,_,_,_,rfl,rfl,rfl,rfl,rfl,λhW _=>?_,λhW=>?_⟩)
  |((refine tY 117 (kU 1 p (l1.drop 1)) (λp1 l2=>⟨λhR=>?_,λhR=>?_⟩));(refine lent_step' [(1000000,1000000),(1000001,1000001),(1000002,1000002),(1000003,1000003),(1000004,1000004),(1000005,1000005),(1000006,1000006)] (KL e (l1.drop 1) p true p1 l2 (hI0.sz.le (by simp)) hR) rfl ⟨rfl,rfl,rfl,rfl,rfl,rfl,rfl,trivial⟩ rfl ?_);rotate_left;(refine lent_step' [(1000000,1000000),(1000001,1000001),(1000002,1000002),(1000003,1000003),(1000004,1000004),(1000005,1000005),(1000006,1000006)] (KL e (l1.drop 1) p false p1 l2 (hI0.sz.le (by simp)) hR) rfl ⟨rfl,rfl,rfl,rfl,rfl,rfl,rfl,trivial⟩ rfl ?_))
  |((refine tY 118 (kU 2 p (l1.drop 1)) (λp1 l2=>⟨λhR=>?_,λhR=>?_⟩));(refine lent_step' [(1000000,1000000),(1000001,1000001),(1000002,1000002),(1000003,1000003),(1000004,1000004),(1000005,1000005),(1000006,1000006)] (KN e (l1.drop 1) p true p1 l2 (hI0.sz.le (by simp)) hR) rfl ⟨rfl,rfl,rfl,rfl,rfl,rfl,rfl,trivial⟩ rfl ?_);rotate_left;(refine lent_step' [(1000000,1000000),(1000001,1000001),(1000002,1000002),(1000003,1000003),(1000004,1000004),(1000005,1000005),(1000006,1000006)] (KN e (l1.drop 1) p false p1 l2 (hI0.sz.le (by simp)) hR) rfl ⟨rfl,rfl,rfl,rfl,rfl,rfl,rfl,trivial⟩ rfl ?_))
  |((refine tY 119 (kU 3 p (l1.drop 1)) (λp1 l2=>⟨λhR=>?_,λhR=>?_⟩));(refine lent_step' [(1000000,1000000),(1000001,1000001),(1000002,1000002),(1000003,1000003),(1000004,1000004),(1000005,1000005),(1000006,1000006)] (FW e (l1.drop 1) p true p1 l2 (hI0.sz.le (by simp)) hR) rfl ⟨rfl,rfl,rfl,rfl,rfl,rfl,rfl,trivial⟩ rfl ?_);rotate_left;(refine lent_step' [(1000000,1000000),(1000001,1000001),(1000002,1000002),(1000003,1000003),(1000004,1000004),(1000005,1000005),(1000006,1000006)] (FW e (l1.drop 1) p false p1 l2 (hI0.sz.le (by simp)) hR) rfl ⟨rfl,rfl,rfl,rfl,rfl,rfl,rfl,trivial⟩ rfl ?_))
  |((refine tY 120 (kU 4 p (l1.drop 1)) (λp1 l2=>⟨λhR=>?_,λhR=>?_⟩));(refine lent_step' [(1000000,1000000),(1000001,1000001),(1000002,1000002),(1000003,1000003),(1000004,1000004),(1000005,1000005),(1000006,1000006)] (KO e (l1.drop 1) p true p1 l2 (hI0.sz.le (by simp)) hR) rfl ⟨rfl,rfl,rfl,rfl,rfl,rfl,rfl,trivial⟩ rfl ?_);rotate_left;(refine lent_step' [(1000000,1000000),(1000001,1000001),(1000002,1000002),(1000003,1000003),(1000004,1000004),(1000005,1000005),(1000006,1000006)] (KO e (l1.drop 1) p false p1 l2 (hI0.sz.le (by simp)) hR) rfl ⟨rfl,rfl,rfl,rfl,rfl,rfl,rfl,trivial⟩ rfl ?_))
  |(refine bi (n-1,p1,l2.drop 1) ?_ (z4x hI0 ‹isT (hd l1).text l1=true› (by simp only[find,stmts, *,reduceIte,Bool.false_eq_true]) hR (by first |exact Dh hR |exact Di hR |exact Iw hR |exact Dj hR |exact vH hR) ‹isT dS l2=true›) (z01 hI0 ‹isT (hd l1).text l1=true›))
  |((refine vG ?_);(have hE:=z0z hI0 ‹isT (hd l1).text l1=true› (by simp only[find,stmts, *,reduceIte,Bool.false_eq_true]) hR);(obtain⟨rfl,rfl,rfl⟩:=hE);refine lu ?_;refine fin_step' [(1000000,1000000),(1000001,1000001),(1000002,1000002),(1000003,1000003),(1000004,1000004),(1000005,1000005),(1000006,1000006),(1000007,1000007)] rfl ?_ ?_)
  |((refine vG ?_);(have hE:=z00 hI0 ‹isT (hd l1).text l1=true› (by simp only[find,stmts, *,reduceIte,Bool.false_eq_true]) hR ‹isT dS l2=false›);(obtain⟨rfl,rfl,rfl⟩:=hE);refine lu ?_;refine fin_step' [(1000000,1000000),(1000001,1000001),(1000002,1000002),(1000003,1000003),(1000004,1000004),(1000005,1000005),(1000006,1000006),(1000007,1000007)] rfl ?_ ?_)
  |((refine ru ?_);(have hE:=z02 hI0 ‹decide (((l1.map Tk.cs).length:Int)>0)=false›);(obtain⟨rfl,rfl,rfl⟩:=hE);refine jW ?_;(conv=>whnf);refine fin_step' [(1000000,1000000),(1000001,1000001),(1000002,1000002),(1000003,1000003),(1000004,1000004),(1000005,1000005),(1000006,1000006),(1000007,1000007)] rfl ?_ ?_)
  |((refine ru ?_);(have hE:=z04 hI0 ‹isT (hd l1).text l1=false›);(obtain⟨rfl,rfl,rfl⟩:=hE);refine jW ?_;(conv=>whnf);refine fin_step' [(1000000,1000000),(1000001,1000001),(1000002,1000002),(1000003,1000003),(1000004,1000004),(1000005,1000005),(1000006,1000006),(1000007,1000007)] rfl ?_ ?_)
  |((refine ru ?_);(have hE:=z03 hI0 (by simp only[find,stmts, *,reduceIte,Bool.false_eq_true]));(obtain⟨rfl,rfl,rfl⟩:=hE);refine jW ?_;(conv=>whnf);refine fin_step' [(1000000,1000000),(1000001,1000001),(1000002,1000002),(1000003,1000003),(1000004,1000004),(1000005,1000005),(1000006,1000006),(1000007,1000007)] rfl ?_ ?_)
  |exact trivial
  |refine BrI.intro (λh=>?_) (λh=>?_)
  |((refine qm ?_ ?_ ?_ ?_);exact⟨rfl,rfl⟩;exact rfl;exact Kt ‹decide (((l1.map Tk.cs).length:Int)>0)=true›)
  |(refine z4w (λh1=>?_) (λh0 h1=>?_) (λh0 h00 h1=>?_) (λh0 h00 h000 h1=>?_) (λh0 h00 h000 h0000=>?_))
  |((refine aN.mk 0 ?_);refine⟨jf (λ(q:(Nat)×(Pr)×(List Tk))=>match q with |(n,p,l1)=>[]) (λ(q:(Nat)×(Pr)×(List Tk))=>match q with |(n,p,l1)=>[(1000000,pB l1 e 0),(1000001,xB p),(1000002,.tok 3 (p.params.map Bd.cs).length),(1000003,.tok 3 (p.states.map Bd.cs).length),(1000004,.tok 4 (p.lines.map Ln.cs).length),(1000005,.tok 2 (p.tables.map Tb.cs).length),(1000006,.tok 8 (p.stmts.map Sm.cs).length)]) [0,1,2] (λ(q:(Nat)×(Pr)×(List Tk))=>match q with |(n,p,l1)=>ItI stmts (ok,p',l') n p l1) (λ(q:(Nat)×(Pr)×(List Tk))=>match q with |(n,p,l1)=>n),?_⟩;refine dm ((l.length),(p),(l)) ?_ ?_ (λ⟨n,p,l1⟩ hI0=>?_))
  |(refine aB.l _ ?_)
  |(refine And.intro ?_ ?_)
  |((refine sZ ?_ ?_ ?_);exact rfl;exact rfl;(first |exact rfl |skip))
  |((refine aI ?_);refine dA ?_ ?_ ?_;exact rfl;exact rfl;(first |exact rfl |skip))
  |exact @rfl AV _
  |exact @rfl Block _
  |fail)
 all_goals first
  |(rfl)
  |((exact ItI.start hz hM))
  |skip
theorem RI(l:List Tk)(e:Int)(o:Option (Pr))(l':List Tk)(hl:l.length<=1073741823)(hM:jr l=(o,l')):aA Tryz.prog 72 [.ptr 1000000 0] [(1000000,pB l e 0)] (jE 119 (λp:Pr=>p.d) e o l') [(1000000,pB l' e 0)]:=by
 refine ag tok hmix ⟨[11],[]⟩ Tryz.func72 rfl (by kernel_rfl) (by kernel_rfl) (by kernel_rfl) λhf=>?_
 clear hf
 repeat' ((try(conv=>whnf))<;>first
  |((refine zO (λs l=>gB s l e 0) ?_);refine⟨_,_,_,_,rfl,rfl,rfl,rfl,rfl,λhW _=>?_,λhW=>?_⟩)
  |((refine jL (d:=0) [] (λl=>gG l e 0) ?_);refine⟨_,_,rfl,rfl,rfl,λs1 l1 h_s1=>?_,λl1 h_s1=>?_⟩)
  |((refine QV (d:=0) eG (λl=>(hd l).n) QT (λl=>gV l e 0) ?_);refine⟨_,_,rfl,rfl,rfl,λ_=>?_,λhN=>absurd (h.symm.trans hN) Bool.noConfusion⟩)
  |((refine jL (d:=0) [] (λl=>gV l e 0) ?_);refine⟨_,_,rfl,rfl,rfl,λa1 l2 h_a1=>?_,λl2 h_a1=>?_⟩)
  |((refine aN.mk 11 ?_);refine⟨⟨Sy.Str×Int×Int×List Tk,λ_=>[],λ(q:Sy.Str×Int×Int×List Tk)=>match q with |(s,a,t,l1)=>[(2,.cells [.data (.str s),.data (.i a),.data (.i t),.gs 900100 3 [],.gs 900101 3 [],.gs 900102 4 [],.gs 900103 2 [],.gs 900104 8 []]),(900100,.tok 3 0),(900101,.tok 3 0),(900102,.tok 4 0),(900103,.tok 2 0),(900104,.tok 8 0),(1000000,pB l1 e 0)],[0,2],λ(q:Sy.Str×Int×Int×List Tk)=>match q with |(s,a,t,l1)=>tZ s a t l1=(o,l')/\l1.length<=l.length,λ_=>0⟩,?_,?_⟩;rotate_left;rintro⟨s,a,t,l1⟩ hI)
  |(refine⟨(s1,a1,(hd (l2.drop 1)).n,((l2.drop 1).drop 1).drop 1),Yn hM ‹isT wProcessor l=true› h_s1 ‹isT cO l1=true› h_a1 ‹isT wTail l2=true› ‹eG (l2.drop 1)=true› ‹isT sBra ((l2.drop 1).drop 1)=true›,?_⟩)
  |(refine⟨(s1,a1,-1,((l2.drop 1).drop 1).drop 1),Yp hM ‹isT wProcessor l=true› h_s1 ‹isT cO l1=true› h_a1 ‹isT wTail l2=true› ‹eG (l2.drop 1)=false› ‹isT dR (l2.drop 1)=true› ‹isT sBra ((l2.drop 1).drop 1)=true›,?_⟩)
  |((refine tY 112 (dD decls (p0 s a t) l1) (λp1 l2=>⟨λhR1=>?_,λhR1=>?_⟩));(refine lent_step' [(1000000,1000000),(1000001,2),(1000002,900100),(1000003,900101),(1000004,900102),(1000005,900103),(1000006,900104),(1000007,31)] (zl e l1 (p0 s a t) true p1 l2 (sz0 (Nat.le_trans hI.2 hl)) hR1) rfl ⟨rfl,rfl,rfl,rfl,rfl,rfl,rfl,rfl,trivial⟩ rfl ?_);rotate_left;(refine lent_step' [(1000000,1000000),(1000001,2),(1000002,900100),(1000003,900101),(1000004,900102),(1000005,900103),(1000006,900104),(1000007,31)] (zl e l1 (p0 s a t) false p1 l2 (sz0 (Nat.le_trans hI.2 hl)) hR1) rfl ⟨rfl,rfl,rfl,rfl,rfl,rfl,rfl,rfl,trivial⟩ rfl ?_))
  |((refine tY 112 (dD stmts p1 l2) (λp2 l3=>⟨λhR2=>?_,λhR2=>?_⟩));(refine lent_step' [(1000000,1000000),(1000001,2),(1000002,900100),(1000003,900101),(1000004,900102),(1000005,900103),(1000006,900104),(1000007,35)] (zn e l2 p1 true p2 l3 (FM hR1 (sz0 (Nat.le_trans hI.2 hl))) hR2) rfl ⟨rfl,rfl,rfl,rfl,rfl,rfl,rfl,rfl,trivial⟩ rfl ?_);rotate_left;(refine lent_step' [(1000000,1000000),(1000001,2),(1000002,900100),(1000003,900101),(1000004,900102),(1000005,900103),(1000006,900104),(1000007,35)] (zn e l2 p1 false p2 l3 (FM hR1 (sz0 (Nat.le_trans hI.2 hl))) hR2) rfl ⟨rfl,rfl,rfl,rfl,rfl,rfl,rfl,rfl,trivial⟩ rfl ?_))
  |((refine aY ?_);(have hE:=Yq hI.1 hR1);(obtain⟨rfl,rfl⟩:=hE);refine aP ?_;refine fin_step' [(1000000,1000000)] rfl ?_ ?_)
  |((refine aY ?_);(have hE:=Yr hI.1 hR1 hR2);(obtain⟨rfl,rfl⟩:=hE);refine aP ?_;refine fin_step' [(1000000,1000000)] rfl ?_ ?_)
  |((refine aY ?_);(have hE:=Yt hI.1 hR1 hR2 ‹isT xk l3=false›);(obtain⟨rfl,rfl⟩:=hE);refine aP ?_;refine fin_step' [(1000000,1000000)] rfl ?_ ?_)
  |((refine iV ?_);(have hE:=z05 hI.1 hR1 hR2 ‹isT xk l3=true›);(obtain⟨rfl,rfl⟩:=hE);refine gq ?_;(conv=>whnf);refine fin_step' [(1000000,1000000)] rfl ?_ ?_)
  |((refine aY ?_);(have hE:=Yo hM ‹isT wProcessor l=true› h_s1 ‹isT cO l1=true› h_a1 ‹isT wTail l2=true› ‹eG (l2.drop 1)=true› ‹isT sBra ((l2.drop 1).drop 1)=false›);(obtain⟨rfl,rfl⟩:=hE);refine aP ?_;refine fin_step' [(1000000,1000000)] rfl ?_ ?_)
  |((refine aY ?_);(try simp only[Bool.not_true,Bool.not_false,cond_true,cond_false,bne,Bool.not_eq_true',Bool.not_eq_false']at *);(simp only[uf,bnd,aC,reduceIte,Bool.false_eq_true, *]at hM);(obtain⟨rfl,rfl⟩:=eH hM);refine aP ?_;refine fin_step' [(1000000,1000000)] rfl ?_ ?_)
  |exact trivial
  |refine BrI.intro (λh=>?_) (λh=>?_)
  |((refine dH ?_ ?_);exact rfl)
  |((refine dG ?_ ?_ ?_);rotate_left;(exact iJ _ _ _))
  |(refine aB.l _ ?_)
  |((refine di ?_ ?_ ?_ ?_ ?_ ?_)<;>exact rfl)
  |((refine dF ?_ ?_ ?_ ?_)<;>exact rfl)
  |(refine And.intro ?_ ?_)
  |exact @rfl AV _
  |fail)
 all_goals first
  |(rfl)
  |skip
theorem RJ(es:List (List D))(d1 d2:D)(v:Int):PS Tryz.prog 71 [.ptr 1000000 0,.ptr 1000001 0,.ptr 1000002 0] (some (.iface 119 (.agg [.i v]))) [(1000000,.cells [.gs 1000003 8 es]),(1000001,.cells [.data d1]),(1000002,.cells [.data d2]),(1000003,.tok 8 es.length)]
  [(1000000,.cells [.nilsl 8]),(1000001,.cells [.data (.i v)]),(1000002,.cells [.data (.i 140)]),(1000003,.tok 8 es.length)]:=by
 refine lM tok hmix Tryz.func71 rfl (by kernel_rfl) (by kernel_rfl) (by kernel_rfl) ?_
 repeat' ((try(conv=>whnf))<;>first
  |exact trivial
  |((refine aF ?_ ?_);kernel_rfl)
  |(refine⟨([]:List (Nat×Nat)),?_⟩)
  |(refine⟨by kernel_rfl,?_⟩)
  |(refine⟨rfl,?_⟩)
  |(refine⟨?_,?_⟩)
  |fail)
theorem Vs(es:List (List D))(d1 d2:D):PS Tryz.prog 71 [.ptr 1000000 0,.ptr 1000001 0,.ptr 1000002 0] none [(1000000,.cells [.gs 1000003 8 es]),(1000001,.cells [.data d1]),(1000002,.cells [.data d2]),(1000003,.tok 8 es.length)] [(1000000,.cells [.gs 1000003 8 es]),(1000001,.cells [.data d1]),(1000002,.cells [.data d2]),(1000003,.tok 8 es.length)]:=by
 refine lM tok hmix Tryz.func71 rfl (by kernel_rfl) (by kernel_rfl) (by kernel_rfl) ?_
 repeat' ((try(conv=>whnf))<;>first
  |exact trivial
  |(refine⟨([]:List (Nat×Nat)),?_⟩)
  |(refine⟨by kernel_rfl,?_⟩)
  |(refine⟨rfl,?_⟩)
  |(refine⟨?_,?_⟩)
  |fail)
theorem nZ(l:List Tk)(e:Int)(hl:l.length<=1073741823):aj Tryz.prog 28 [.sl 4 (l.map Tk.cs),.i e] (.ret (readD e (bQ l))):=by
 refine af tok hmix ⟨[],[]⟩ Tryz.func28 rfl (by kernel_rfl) (by kernel_rfl) (by kernel_rfl) λhf=>?_
 clear hf
 repeat' ((try(conv=>whnf))<;>first
  |((refine gX _ _ _ [true,true,true] ?_ ?_ ?_);exact rfl;kernel_rfl)
  |((refine quiet_step ?_ ?_);kernel_rfl)
  |((refine z0t (d:=0) Yv (λl=>l.length<=1073741823) (λl o l' hl h=>RI l e o l' hl h) ?_);refine⟨_,_,rfl,rfl,rfl,z3h hI0,λp l2 h_p=>?_,λl2 h_p=>?_⟩)
  |(refine bi (n-1,ps++[p],l2) ?_ (z08 hI0 ‹decide (((l1.map Tk.cs).length:Int)>0)=true› h_p) (Yu hI0 ‹decide (((l1.map Tk.cs).length:Int)>0)=true›))
  |((refine Iu ?_);refine⟨_,_,_,[(1000000,4),(1000001,5),(1000002,6),(1000003,900200)],Vs _ _ _,rfl,⟨rfl,rfl,rfl,rfl,trivial⟩,rfl,?_⟩;(rw[z09 hI0 ‹decide (((l1.map Tk.cs).length:Int)>0)=false›]);(conv=>whnf);refine fin_step' [] rfl ?_ ?_)
  |((rw[z07 hI0 ‹decide (((l1.map Tk.cs).length:Int)>0)=true› h_p]);(refine zg ?_);refine⟨_,_,_,[(1000000,4),(1000001,5),(1000002,6),(1000003,900200)],RJ _ _ _ _,rfl,⟨rfl,rfl,rfl,rfl,trivial⟩,rfl,?_⟩;(conv=>whnf);refine fin_step' [] rfl ?_ ?_)
  |exact trivial
  |refine BrI.intro (λh=>?_) (λh=>?_)
  |((refine aN.mk 0 ?_);refine⟨jf (λ(q:(Nat)×(List Pr)×(List Tk))=>match q with |(n,ps,l1)=>[]) (λ(q:(Nat)×(List Pr)×(List Tk))=>match q with |(n,ps,l1)=>[(4,.cells [.gs 900200 8 (ps.map Pr.cs)]),(900200,.tok 8 (ps.map Pr.cs).length),(12,pB l1 e 0)]) [4,5,6,7,999999] (λ(q:(Nat)×(List Pr)×(List Tk))=>match q with |(n,ps,l1)=>RdI (bQ l) n ps l1) (λ(q:(Nat)×(List Pr)×(List Tk))=>match q with |(n,ps,l1)=>n),?_⟩;refine dm ((l.length),([]),(l)) ?_ ?_ (λ⟨n,ps,l1⟩ hI0=>?_))
  |(refine aB.l _ ?_)
  |((refine di ?_ ?_ ?_ ?_ ?_ ?_)<;>exact rfl)
  |((refine dF ?_ ?_ ?_ ?_)<;>exact rfl)
  |((refine app_step' ?_ ?_ ?_ ?_ ?_ ?_ ?_);exact rfl;exact rfl;exact rfl;exact rfl)
  |((refine aF ?_ ?_);kernel_rfl)
  |((refine fJ ?_ ?_);kernel_rfl)
  |(refine And.intro ?_ ?_)
  |((refine sZ ?_ ?_ ?_);exact rfl;exact rfl;(first |exact cu |skip))
  |((refine fK ?_ ?_);exact rfl;(first |exact cu |skip))
  |exact @rfl AV _
  |exact eU rfl
  |fail)
 all_goals first
  |(rfl)
  |((exact z06 hl))
  |((exact Vd hI0))
  |skip
end Go.Proofs.YtmfehangcmbidaaGreatDoor
