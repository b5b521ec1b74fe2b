/- SyntaxParentheses: what an expression is read from, and how many units lie in each other. -/
import Derived.Test.YtmfehangcmbidaaGreatDoorZSP17
set_option linter.unusedSectionVars false
set_option linter.unusedSimpArgs false
set_option linter.unusedVariables false
namespace Go.Fw.Sy
open Go.Fw Go.Fw.Lx
variable [ae] {s : Str} {l : List Tk} {t : Tk}
def cw(t:Tk):Nat:=if t.text==sPar || t.text==dh then 1 else 0
def cnt(c:List Tk):Nat:=(c.map cw).sum
theorem Ir:cnt []=0:=rfl
theorem eH(t:Tk)(c:List Tk):cnt (t::c)=cw t+cnt c:=by simp[cnt]
theorem jF(a b:List Tk):cnt (a++b)=cnt a+cnt b:=by simp[cnt]
def Qt(t:Tk):Prop:=(t.kind==3&&t.text==bP)=false
def Qs(c:List Tk):Prop:=∀t∈c,Qt t
theorem Qs.nil:Qs []:=λt h=>by simp at h
theorem Qs.cons{c:List Tk}(ht:Qt t)(h:Qs c):Qs (t::c):=λx hx=>by
 rcases List.mem_cons.1 hx with rfl |hx
 ·exact ht
 ·exact h x hx
theorem Qs.app{a b:List Tk}(ha:Qs a)(hb:Qs b):Qs (a++b):=λx hx=>by
 rcases List.mem_append.1 hx with hx |hx
 ·exact ha x hx
 ·exact hb x hx
theorem jG(h:isT s l=true):∃t,l=t::l.drop 1/\t.text=s/\∀s' r,isT s' (t::r)=(s==s'):=by
 cases l with
 |nil=>simp[isT]at h
 |cons t l=>
  simp only[isT,hd,List.isEmpty_cons,Bool.not_false,Bool.true_and,Bool.and_eq_true,beq_iff_eq]at h
  refine⟨t,rfl,h.2,λs' r=>?_⟩
  simp only[isT,hd,List.isEmpty_cons,Bool.not_false,Bool.true_and,h.1,h.2]
theorem fO(h:t.text=s)(hs:(s==bP)=false):Qt t:=by unfold Qt;rw[h,hs,Bool.and_false]
theorem RX(h:isNum l=true):∃t,l=t::l.drop 1/\Qt t:=by
 cases l with
 |nil=>simp[isNum]at h
 |cons t l=>
  simp only[isNum,hd,List.isEmpty_cons,Bool.not_false,Bool.true_and,Bool.and_eq_true,beq_iff_eq]at h
  exact⟨t,rfl,by unfold Qt;rw[h.1];rfl⟩
theorem WV(h:isNm l=true):∃t,l=t::l.drop 1/\Qt t:=by
 cases l with
 |nil=>simp[isNm]at h
 |cons t l=>
  simp only[isNm,hd,List.isEmpty_cons,Bool.not_false,Bool.true_and,Bool.and_eq_true,beq_iff_eq]at h
  exact⟨t,rfl,by unfold Qt;rw[h.1];rfl⟩
theorem Iu(h:∀s' r,isT s' (t::r)=(s==s'))(h1:(s==kw)=false)(h2:(s==iW)=false)(r:List Tk):St2 (t::r):=⟨by rw[h,h1],by rw[h,h2]⟩
theorem rQ(h:∀s' r,isT s' (t::r)=(s==s'))(h1:(s==kw)=false)(h2:(s==iW)=false)(h3:(s==lG)=false)(h4:(s==dh)=false)(r:List Tk):St1 (t::r):=⟨Iu h h1 h2 r,by rw[h,h3],by rw[h,h4]⟩
def RC(C:List Tk->Prop)(d:Nat)(u v:PM Ex):Prop:=∀l x r,u l=(some x,r)->∃c,l=c++r/\Qs c/\(cnt c<=d->∀r',C r'->v (c++r')=(some x,r'))
abbrev RU(d:Nat)(u v:PM Ex):Prop:=RC (λ_=>True) d u v
section
variable {u v : PM Ex} {d : Nat}
theorem iQ{s:Str}{l r:List Tk}{x:Unit}(e:aC s l=(some x,r)):∃t,l=t::r/\t.text=s/\(∀s' r,isT s' (t::r)=(s==s'))/\∀r',aC s (t::r')=(some x,r'):=by
 unfold aC at e
 split at e
 ·rename_i h
  simp only[Prod.mk.injEq]at e
  obtain⟨t,h1,h2,h3⟩:=jG h
  rw[e.2]at h1
  refine⟨t,h1,h2,h3,λr'=>?_⟩
  rw[aC,if_pos (by rw[h3];exact beq_self_eq_true s)];rfl
 ·cases e
theorem VD(hv:Loc v)(h:RU d u v):∀(n:Nat) (x:Ex) (l:List Tk) (y:Ex) (r:List Tk),prodL u n x l=(some y,r)->∃c,l=c++r/\Qs c/\(cnt c<=d->∀r',St2 r'->goP v x (c++r')=(some y,r')):=by
 intro n
 induction n with
 |zero=>intro x l y r e;simp only[prodL,Prod.mk.injEq,Option.some.injEq]at e;obtain⟨rfl,rfl⟩:=e;exact⟨[],rfl,.nil,λ_ r' hr=>vO hr _⟩
 |succ n ih=>
  intro x l y r e
  rw[mX]at e
  split at e
  ·rename_i hT
   obtain⟨z,l1,h1,h2⟩:=af e
   obtain⟨t,a1,a2,a3⟩:=jG hT
   obtain⟨c1,b1,b2,b3⟩:=h _ _ _ h1
   obtain⟨c2,d1,d2,d3⟩:=ih _ _ _ _ h2
   refine⟨t::(c1++c2),by rw[a1,b1,d1,List.cons_append,List.append_assoc],.cons (fO a2 (by decide)) (b2.app d2),λhc r' hr=>?_⟩
   rw[eH,jF]at hc
   have e1:=b3 (by omega) (c2++r') trivial
   rw[List.cons_append,List.append_assoc]
   unfold goP
   rw[List.length_cons,mX,if_pos (by rw[a3];rfl),List.drop_one,List.tail_cons,e1]
   exact(FW hv _ _ (by have:=(hv.act e1).le;omega) (Nat.le_refl _)).trans (d3 (by omega) r' hr)
  ·rename_i hT0
   split at e
   ·rename_i hT
    unfold divM at e
    split at e
    ·cases e
    ·rename_i hz
     obtain⟨z,l1,h1,h2⟩:=af e
     obtain⟨t,a1,a2,a3⟩:=jG hT
     have hN:isNum (l.drop 1)=true:=by
      cases hN:isNum (l.drop 1)with
      |true=>rfl
      |false=>rw[numM,hN,if_neg Bool.noConfusion]at h1;cases h1
     obtain⟨t2,b1,b2⟩:=RX hN
     have h1':=h1
     rw[numM,if_pos hN]at h1
     simp only[Prod.mk.injEq,Option.some.injEq]at h1
     obtain⟨c2,d1,d2,d3⟩:=ih _ _ _ _ h2
     rw[h1.2]at b1
     refine⟨t::t2::c2,by rw[a1,b1,d1];rfl,.cons (fO a2 (by decide)) (.cons b2 d2),λhc r' hr=>?_⟩
     rw[eH,eH]at hc
     rw[b1]at hz h1
     have e1:numM (t2::(c2++r'))=(some z,c2++r'):=by
      rw[b1]at hN
      rw[numM,if_pos (show isNum (t2::(c2++r'))=true from hN)]
      exact congrArg (λz=>(some z,c2++r')) h1.1
     rw[List.cons_append,List.cons_append]
     unfold goP
     rw[List.length_cons,mX,if_neg (by rw[a3];decide),if_pos (by rw[a3];rfl),List.drop_one,List.tail_cons,divM,if_neg (show ¬(isNum (t2::(c2++r'))&&(hd (t2::(c2++r'))).n==0)=true from hz),e1]
     exact(FW hv _ _ (by simp) (Nat.le_refl _)).trans (d3 (by omega) r' hr)
   ·simp only[Prod.mk.injEq,Option.some.injEq]at e;obtain⟨rfl,rfl⟩:=e;exact⟨[],rfl,.nil,λ_ r' hr=>vO hr _⟩
theorem Iw(hv:Loc v)(h:RU d u v):RC St2 d (gy u) (gy v):=λl y r e=>by
 obtain⟨x,l1,h1,h2⟩:=af (show bnd (u l) (λx r=>prodL u r.length x r)=_ from e)
 obtain⟨c1,b1,b2,b3⟩:=h _ _ _ h1
 obtain⟨c2,d1,d2,d3⟩:=VD hv h _ _ _ _ _ h2
 refine⟨c1++c2,by rw[b1,d1,List.append_assoc],b2.app d2,λhc r' hr=>?_⟩
 rw[jF]at hc
 rw[List.append_assoc,RN (b3 (by omega) (c2++r') trivial)]
 exact d3 (by omega) r' hr
theorem Zr(hv:Loc v)(h:RU d u v):∀(n:Nat) (x:Ex) (l:List Tk) (y:Ex) (r:List Tk),sumL u n x l=(some y,r)->∃c,l=c++r/\Qs c/\(∀r',St1 r'->St2 (c++r'))/\(cnt c<=d->∀r',St1 r'->goS v x (c++r')=(some y,r')):=by
 intro n
 induction n with
 |zero=>intro x l y r e;simp only[sumL,Prod.mk.injEq,Option.some.injEq]at e;obtain⟨rfl,rfl⟩:=e;exact⟨[],rfl,.nil,λr' hr=>hr.toSt2,λ_ r' hr=>zu hr _⟩
 |succ n ih=>
  intro x l y r e
  rw[uw]at e
  split at e
  ·rename_i hT
   obtain⟨z,l1,h1,h2⟩:=af e
   obtain⟨t,a1,a2,a3⟩:=jG hT
   obtain⟨c1,b1,b2,b3⟩:=Iw hv h _ _ _ h1
   obtain⟨c2,d1,d2,d4,d3⟩:=ih _ _ _ _ h2
   refine⟨t::(c1++c2),by rw[a1,b1,d1,List.cons_append,List.append_assoc],.cons (fO a2 (by decide)) (b2.app d2),λr' hr=>?_,λhc r' hr=>?_⟩
   ·exact Iu a3 (by decide) (by decide) _
   rw[eH,jF]at hc
   have e1:=b3 (by omega) (c2++r') (d4 r' hr)
   rw[List.cons_append,List.append_assoc]
   unfold goS
   rw[List.length_cons,uw,if_pos (by rw[a3];rfl),List.drop_one,List.tail_cons,e1]
   exact(Ky hv _ _ (by have:=((kU hv).act e1).le;omega) (Nat.le_refl _)).trans (d3 (by omega) r' hr)
  ·split at e
   ·rename_i hT
    obtain⟨z,l1,h1,h2⟩:=af e
    obtain⟨t,a1,a2,a3⟩:=jG hT
    obtain⟨c1,b1,b2,b3⟩:=Iw hv h _ _ _ h1
    obtain⟨c2,d1,d2,d4,d3⟩:=ih _ _ _ _ h2
    refine⟨t::(c1++c2),by rw[a1,b1,d1,List.cons_append,List.append_assoc],.cons (fO a2 (by decide)) (b2.app d2),λr' hr=>?_,λhc r' hr=>?_⟩
    ·exact Iu a3 (by decide) (by decide) _
    rw[eH,jF]at hc
    have e1:=b3 (by omega) (c2++r') (d4 r' hr)
    rw[List.cons_append,List.append_assoc]
    unfold goS
    rw[List.length_cons,uw,if_neg (by rw[a3];decide),if_pos (by rw[a3];rfl),List.drop_one,List.tail_cons,e1]
    exact(Ky hv _ _ (by have:=((kU hv).act e1).le;omega) (Nat.le_refl _)).trans (d3 (by omega) r' hr)
   ·simp only[Prod.mk.injEq,Option.some.injEq]at e;obtain⟨rfl,rfl⟩:=e;exact⟨[],rfl,.nil,λr' hr=>hr.toSt2,λ_ r' hr=>zu hr _⟩
theorem RY(hv:Loc v)(h:RU d u v):RC St1 d (sumM u) (sumM v):=λl y r e=>by
 obtain⟨x,l1,h1,h2⟩:=af (show bnd (gy u l) (λx r=>sumL u r.length x r)=_ from e)
 obtain⟨c1,b1,b2,b3⟩:=Iw hv h _ _ _ h1
 obtain⟨c2,d1,d2,d4,d3⟩:=Zr hv h _ _ _ _ _ h2
 refine⟨c1++c2,by rw[b1,d1,List.append_assoc],b2.app d2,λhc r' hr=>?_⟩
 rw[jF]at hc
 rw[List.append_assoc,J5 (b3 (by omega) (c2++r') (d4 r' hr))]
 exact d3 (by omega) r' hr
theorem z3s(x:Ex):1<=nd x:=by obtain⟨k,nm,i,n,l⟩:=x;rw[nd];omega
theorem VE(hv:Loc v)(hz:Sze u)(h:RU d u v):∀(n:Nat) (l:List Tk) (x:Ex) (r:List Tk),exprF u n l=(some x,r)->∃c,l=c++r/\Qs c/\(cnt c<=d->∀r',St1 r'->∀m,(c++r').length<=m->exprF v (m+1) (c++r')=(some x,r')):=by
 intro n
 induction n with
 |zero=>intro l x r e;cases e
 |succ n ih=>
  intro l x r e
  rw[mY]at e
  split at e
  ·rename_i hT
   obtain⟨a,l1,h1,e⟩:=af e
   obtain⟨_,l2,h2,e⟩:=af e
   obtain⟨b,l3,h3,e⟩:=af e
   obtain⟨_,l4,h4,e⟩:=af e
   obtain⟨y,l5,h5,e⟩:=af e
   obtain⟨_,l6,h6,e⟩:=af e
   obtain⟨z,l7,h7,e⟩:=af e
   simp only[Prod.mk.injEq,Option.some.injEq]at e
   obtain⟨rfl,rfl⟩:=e
   obtain⟨t,a1,a2,a3⟩:=jG hT
   obtain⟨c1,b1,q1,e1⟩:=RY hv h _ _ _ h1
   obtain⟨t2,b2,q2,f2,e2⟩:=iQ h2
   obtain⟨c3,b3,q3,e3⟩:=RY hv h _ _ _ h3
   obtain⟨t4,b4,q4,f4,e4⟩:=iQ h4
   obtain⟨c5,b5,q5,e5⟩:=ih _ _ _ h5
   obtain⟨t6,b6,q6,f6,e6⟩:=iQ h6
   obtain⟨c7,b7,q7,e7⟩:=ih _ _ _ h7
   refine⟨t::(c1++t2::(c3++t4::(c5++t6::c7))),?_,?_,λhc r' hr m hm=>?_⟩
   ·rw[a1,b1,b2,b3,b4,b5,b6,b7];simp
   ·exact .cons (fO a2 (by decide)) (q1.app (.cons (fO q2 (by decide)) (q3.app (.cons (fO q4 (by decide)) (q5.app (.cons (fO q6 (by decide)) q7))))))
   ·simp only[eH,jF]at hc
    simp only[List.cons_append,List.append_assoc,List.length_cons,List.length_append]at hm ⊢
    obtain⟨m,rfl⟩:∃k,m=k+1:=⟨m-1,by omega⟩
    rw[mY,if_pos (by rw[a3];rfl),List.drop_one,List.tail_cons,e1 (by omega) _ (rQ f2 (by decide) (by decide) (by decide) (by decide) _),gZ,e2,gZ,e3 (by omega) _ (rQ f4 (by decide) (by decide) (by decide) (by decide) _),gZ,e4,gZ]
    rw[e5 (by omega) _ (rQ f6 (by decide) (by decide) (by decide) (by decide) _) m (by simp only[List.length_append,List.length_cons];omega),gZ,e6,gZ]
    rw[e7 (by omega) _ hr m (by simp only[List.length_append];omega),gZ]
  ·rename_i hT
   obtain⟨c,b1,q1,e1⟩:=RY hv h _ _ _ e
   refine⟨c,b1,q1,λhc r' hr m hm=>?_⟩
   have e2:=e1 hc r' hr
   rw[mY,if_neg ?_]
   ·exact e2
   ·intro hX
    cases c with
    |nil=>
     have h0:=Kz hz _ _ _ e
     have h1:=z3s x
     rw[List.nil_append]at b1
     subst b1;omega
    |cons t c=>
     rw[b1]at hT
     exact hT hX
theorem zA(hv:Loc v)(hz:Sze u)(h:RU d u v):RC St1 d (iT u) (iT v):=λl x r e=>by
 obtain⟨c,a,b,e1⟩:=VE hv hz h _ _ _ _ (show exprF u (l.length+1) l=_ from e)
 exact⟨c,a,b,λhc r' hr=>e1 hc r' hr _ (Nat.le_refl _)⟩
theorem Zt(hv:Loc v)(hz:Sze u)(h:RU d u v):∀(n i:Nat) (acc:List Ex) (l:List Tk) (xs:List Ex) (r:List Tk),wG u n i acc l=(some xs,r)->∃c,l=c++r/\Qs c/\(0<i->∀r',St1 r'->St1 (c++r'))/\(cnt c<=d->∀r',St1 r'->wG v n i acc (c++r')=(some xs,r')):=by
 intro n
 induction n with
 |zero=>intro i acc l xs r e;simp only[wG,Prod.mk.injEq,Option.some.injEq]at e;obtain⟨rfl,rfl⟩:=e;exact⟨[],rfl,.nil,λ_ r' hr=>hr,λ_ r' hr=>rfl⟩
 |succ n ih=>
  intro i acc l xs r e
  rw[wG]at e
  obtain⟨_,l1,h1,e⟩:=af e
  obtain⟨x,l2,h2,e⟩:=af e
  obtain⟨c2,b2,q2,e2⟩:=zA hv hz h _ _ _ h2
  obtain⟨c3,b3,q3,s3,e3⟩:=ih _ _ _ _ _ e
  have go:cnt c2+cnt c3<=d->∀r',St1 r'->(bnd (iT v (c2++(c3++r'))) λx l=>wG v n (i+1) (acc++[x]) l)=(some xs,r'):=λhc r' hr=>by
   rw[e2 (by omega) _ (s3 (by omega) r' hr),gZ,e3 (by omega) r' hr]
  split at h1
  ·rename_i hi
   obtain⟨t,b1,q1,f1,e1⟩:=iQ h1
   refine⟨t::(c2++c3),by rw[b1,b2,b3];simp,.cons (fO q1 (by decide)) (q2.app q3),λ_ r' hr=>rQ f1 (by decide) (by decide) (by decide) (by decide) _,λhc r' hr=>?_⟩
   rw[eH,jF]at hc
   rw[List.cons_append,List.append_assoc,wG]
   show bnd (if 0<i then aC aS (t::(c2++(c3++r')))else(some (),t::(c2++(c3++r')))) _=_
   rw[if_pos hi,e1,gZ]
   exact go (by omega) r' hr
  ·rename_i hi
   cases h1
   refine⟨c2++c3,by rw[b2,b3];simp,q2.app q3,λh0=>absurd h0 hi,λhc r' hr=>?_⟩
   rw[jF]at hc
   rw[List.append_assoc,wG]
   show bnd (if 0<i then aC aS (c2++(c3++r'))else(some (),c2++(c3++r'))) _=_
   rw[if_neg hi,gZ]
   exact go hc r' hr
theorem Dy{l r:List Tk}{x:Str}(e:nameM l=(some x,r)):∃t,l=t::r/\Qt t/\∀r',nameM (t::r')=(some x,r'):=by
 unfold nameM at e
 split at e
 ·rename_i h
  simp only[Prod.mk.injEq,Option.some.injEq]at e
  obtain⟨t,h1,h2⟩:=WV h
  rw[e.2]at h1
  refine⟨t,h1,h2,λr'=>?_⟩
  rw[h1]at h e
  rw[nameM,if_pos (show isNm (t::r')=true from h)]
  exact congrArg (λz=>(some z,r')) e.1
 ·cases e
theorem Si(hv:Loc v)(hz:Sze u)(h:RU d u v){f:Int}{n:Nat}{nm:Bool}{l r:List Tk}{x:Ex}(e:argsM u f n nm l=(some x,r)):∃c,l=c++r/\Qs c/\1<=cnt c/\(cnt c<=d+1->∀r',argsM v f n nm (c++r')=(some x,r')):=by
 unfold argsM at e
 obtain⟨_,l1,h1,e⟩:=af e
 obtain⟨s,l2,h2,e⟩:=af e
 obtain⟨xs,l3,h3,e⟩:=af e
 obtain⟨_,l4,h4,e⟩:=af e
 simp only[Prod.mk.injEq,Option.some.injEq]at e
 obtain⟨rfl,rfl⟩:=e
 obtain⟨t1,b1,q1,f1,e1⟩:=iQ h1
 obtain⟨c3,b3,q3,s3,e3⟩:=Zt hv hz h _ _ _ _ _ _ h3
 obtain⟨t4,b4,q4,f4,e4⟩:=iQ h4
 have hc1:cw t1=1:=by unfold cw;rw[q1];rfl
 have hst:=λr'=>rQ f4 (by decide) (by decide) (by decide) (by decide) r'
 cases nm with
 |true=>
  simp only[if_true]at h2
  obtain⟨s',l5,h5,h2⟩:=af h2
  obtain⟨_,l6,h6,h2⟩:=af h2
  simp only[Prod.mk.injEq,Option.some.injEq]at h2
  obtain⟨rfl,rfl⟩:=h2
  obtain⟨t5,b5,q5,e5⟩:=Dy h5
  obtain⟨t6,b6,q6,f6,e6⟩:=iQ h6
  refine⟨t1::t5::t6::(c3++[t4]),by rw[b1,b5,b6,b3,b4];simp,.cons (fO q1 (by decide)) (.cons q5 (.cons (fO q6 (by decide)) (q3.app (.cons (fO q4 (by decide)) .nil)))),by rw[eH];omega,λhc r'=>?_⟩
  simp only[eH,jF,Ir]at hc
  simp only[List.cons_append,List.append_assoc,List.nil_append]
  unfold argsM
  rw[e1,gZ,if_pos rfl,e5,gZ,e6,gZ,gZ,e3 (by omega) _ (hst r'),gZ,e4,gZ]
 |false=>
  simp only[Bool.false_eq_true,if_false]at h2
  cases h2
  refine⟨t1::(c3++[t4]),by rw[b1,b3,b4];simp,.cons (fO q1 (by decide)) (q3.app (.cons (fO q4 (by decide)) .nil)),by rw[eH];omega,λhc r'=>?_⟩
  simp only[eH,jF,Ir]at hc
  simp only[List.cons_append,List.append_assoc,List.nil_append]
  unfold argsM
  rw[e1,gZ,if_neg Bool.noConfusion,gZ,e3 (by omega) _ (hst r'),gZ,e4,gZ]
end
theorem Sj(k:Nat)(l:List Tk):gX (k+1) l=unitB (some (gX k)) l:=rfl
theorem z3t{k:Nat}{t:Tk}{r:List Tk}(h:isNum (t::r)=true):gX k (t::r)=(some (.mk 1 [] 0 t.n []),r):=by
 cases k with
 |zero=>show unitB none _=_;unfold unitB;rw[if_pos h];rfl
 |succ k=>show unitB (some (gX k)) _=_;unfold unitB;rw[if_pos h];rfl
theorem z3u{k:Nat}{t:Tk}{r:List Tk}(h0:¬isNum (t::r)=true)(h:isNm (t::r)=true):gX k (t::r)=(some (.mk 2 t.text 0 0 []),r):=by
 cases k with
 |zero=>show unitB none _=_;unfold unitB;rw[if_neg h0,if_pos h];rfl
 |succ k=>show unitB (some (gX k)) _=_;unfold unitB;rw[if_neg h0,if_pos h];rfl
theorem Sl:∀K k:Nat,RU k (gX K) (gX k):=by
 have base:∀(u:Option (PM Ex)),(∀w,u=some w->Sze w/\∀k,RU k w (gX k))->∀k,RU k (unitB u) (gX k):=by
  intro u hu k l x r e
  unfold unitB at e
  split at e
  ·rename_i hN
   simp only[Prod.mk.injEq,Option.some.injEq]at e
   obtain⟨t,a1,a2⟩:=RX hN
   rw[e.2]at a1
   refine⟨[t],a1,.cons a2 .nil,λ_ r' _=>?_⟩
   rw[a1]at hN e
   refine(z3t (r:=r') (show isNum (t::r')=true from hN)).trans ?_
   rw[<-e.1];rfl
  ·rename_i hN
   split at e
   ·rename_i hM
    simp only[Prod.mk.injEq,Option.some.injEq]at e
    obtain⟨t,a1,a2⟩:=WV hM
    rw[e.2]at a1
    refine⟨[t],a1,.cons a2 .nil,λ_ r' _=>?_⟩
    rw[a1]at hN hM e
    refine(z3u (r:=r') (show ¬isNum (t::r')=true from hN) (show isNm (t::r')=true from hM)).trans ?_
    rw[<-e.1];rfl
   ·rename_i hM
    cases u with
    |none=>cases e
    |some u=>
     obtain⟨hz,hg⟩:=hu u rfl
     simp only at e
     have go:∀{t:Tk} {k:Nat} (r':List Tk),l=t::l.drop 1->gX (k+1) (t::r')=if isT dh (t::r')then bnd (gX k r') λx l=>(some (ex1 14 x),l)
       else if isT sPar (t::r')then bnd (iT (gX k) r') λx l=>bnd (aC sKet l) λ_ l=>(some x,l)
       else match look t.text wF with
        |some f=>if t.kind==1 then argsM (gX k) f.1 f.2.1.toNat f.2.2 r' else(none,t::r')
        |none=>(none,t::r'):=by
      intro t k r' hl
      rw[hl]at hN hM
      rw[Sj,unitB,if_neg (show ¬isNum (t::r')=true from hN),if_neg (show ¬isNm (t::r')=true from hM)]
      rfl
     split at e
     ·rename_i hT
      obtain⟨y,l1,h1,e⟩:=af e
      simp only[Prod.mk.injEq,Option.some.injEq]at e
      obtain⟨rfl,rfl⟩:=e
      obtain⟨t,a1,a2,a3⟩:=jG hT
      have hc1:cw t=1:=by unfold cw;rw[a2];rfl
      obtain⟨c,b1,q1,_⟩:=hg k _ _ _ h1
      refine⟨t::c,by rw[a1,b1];rfl,.cons (fO a2 (by decide)) q1,λhc r' _=>?_⟩
      rw[eH]at hc
      obtain⟨k,rfl⟩:∃m,k=m+1:=⟨k-1,by omega⟩
      obtain⟨c',b1',_,e1⟩:=hg k _ _ _ h1
      obtain rfl:c=c':=List.append_cancel_right (b1.symm.trans b1')
      rw[List.cons_append,go _ a1,if_pos (by rw[a3];rfl),e1 (by omega) r' trivial,gZ]
     ·split at e
      ·rename_i hT
       obtain⟨y,l1,h1,e⟩:=af e
       obtain⟨_,l2,h2,e⟩:=af e
       simp only[Prod.mk.injEq,Option.some.injEq]at e
       obtain⟨rfl,rfl⟩:=e
       obtain⟨t,a1,a2,a3⟩:=jG hT
       have hc1:cw t=1:=by unfold cw;rw[a2];rfl
       obtain⟨t2,b2,q2,f2,e2⟩:=iQ h2
       obtain⟨c,b1,q1,_⟩:=zA (iP k) hz (hg k) _ _ _ h1
       refine⟨t::(c++[t2]),by rw[a1,b1,b2];simp,.cons (fO a2 (by decide)) (q1.app (.cons (fO q2 (by decide)) .nil)),λhc r' _=>?_⟩
       simp only[eH,jF,Ir]at hc
       obtain⟨k,rfl⟩:∃m,k=m+1:=⟨k-1,by omega⟩
       obtain⟨c',b1',_,e1⟩:=zA (iP k) hz (hg k) _ _ _ h1
       obtain rfl:c=c':=List.append_cancel_right (b1.symm.trans b1')
       rw[List.cons_append,List.append_assoc,go _ a1,if_neg (by rw[a3];decide),if_pos (by rw[a3];rfl),e1 (by omega) ([t2]++r') (rQ f2 (by decide) (by decide) (by decide) (by decide) _),gZ]
       show bnd (aC sKet (t2::r')) _=_
       rw[e2,gZ]
      ·rename_i hT1 hT2
       split at e
       ·rename_i f hf
        split at e
        ·rename_i hk
         cases l with
         |nil=>exact absurd hf (by show look [] wF≠some f;rw[show look [] wF=none from rfl];exact λh=>by cases h)
         |cons t l=>
          obtain⟨c,b1,q1,g1,_⟩:=Si (iP k) hz (hg k) (show argsM u f.1 f.2.1.toNat f.2.2 l=(some x,r)from e)
          refine⟨t::c,by rw[b1];rfl,.cons ?_ q1,λhc r' _=>?_⟩
          ·unfold Qt
           rw[show t.kind=1 from by simpa[hd]using hk];rfl
          rw[eH]at hc
          obtain⟨k,rfl⟩:∃m,k=m+1:=⟨k-1,by omega⟩
          obtain⟨c',b1',_,_,e1⟩:=Si (iP k) hz (hg k) (show argsM u f.1 f.2.1.toNat f.2.2 l=(some x,r)from e)
          obtain rfl:c=c':=List.append_cancel_right (b1.symm.trans b1')
          rw[List.cons_append,go _ rfl,if_neg (show ¬isT dh (t::(c++r'))=true from hT1),if_neg (show ¬isT sPar (t::(c++r'))=true from hT2)]
          rw[show look t.text wF=some f from hf]
          simp only
          rw[if_pos (show(t.kind==1)=true from hk)]
          exact e1 (by omega) r'
        ·cases e
       ·cases e
 intro K
 induction K with
 |zero=>exact base none (λv h=>by cases h)
 |succ K ih=>exact base (some (gX K)) (λv h=>by cases h;exact⟨Dx K,ih⟩)
def par(n:Nat)(c:List Tk):List Tk:=List.replicate n (sg sPar)++(c++List.replicate n (sg sKet))
theorem Zu(n:Nat)(c:List Tk):par (n+1) c=sg sPar::(par n c++[sg sKet]):=by
 unfold par
 rw[List.replicate_succ,List.replicate_succ' (n:=n) (a:=sg sKet)]
 simp
theorem VF{K n:Nat}{c:List Tk}{x:Ex}(h:∀k,cnt c<=k->∀r',St1 r'->iT (gX k) (c++r')=(some x,r'))(hK:cnt c+n<=K):∀r',St1 r'->iT (gX K) (par n c++r')=(some x,r'):=by
 induction n generalizing K with
 |zero=>intro r' hr;simpa[par]using h K (by omega) r' hr
 |succ n ih=>
  intro r' hr
  obtain⟨K,rfl⟩:∃m,K=m+1:=⟨K-1,by omega⟩
  rw[Zu,List.cons_append,List.append_assoc]
  have hu:gX (K+1) (sg sPar::(par n c++([sg sKet]++r')))=(some x,r'):=by
   rw[Sj,Zh (by simp[isNum,hd]) (by simp[isNm,hd]),if_neg (by rw[wM];decide),if_pos (by rw[wM];rfl),List.drop_one,List.tail_cons,ih (K:=K) (by omega) ([sg sKet]++r') (Zg r'),gZ]
   show bnd (aC sKet (sg sKet::r')) _=_
   rw[Zf,gZ]
  rw[vK (by rw[wM];decide),J5 ((RN hu).trans (vO hr.toSt2 _))]
  exact zu hr _
theorem Sr{l r:List Tk}{x:Ex}(h:iT (gX 63) l=(some x,r)):∃c,l=c++r/\Qs c/\∀n,cnt c+n<=63->∀r',St1 r'->iT (gX 63) (par n c++r')=(some x,r'):=by
 obtain⟨c,a,b,_⟩:=zA (iP 0) (Dx 63) (Sl 63 0) _ _ _ h
 refine⟨c,a,b,λn hn=>VF (λk hk r' hr=>?_) hn⟩
 obtain⟨c',a',_,e⟩:=zA (iP k) (Dx 63) (Sl 63 k) _ _ _ h
 obtain rfl:c=c':=List.append_cancel_right (a.symm.trans a')
 exact e hk r' hr
end Go.Fw.Sy
