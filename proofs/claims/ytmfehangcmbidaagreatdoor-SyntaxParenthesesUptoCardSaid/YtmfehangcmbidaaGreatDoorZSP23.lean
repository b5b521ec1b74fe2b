/- SyntaxParentheses: parentheses around the expressions of statements: what is parsed. -/
import Derived.Test.YtmfehangcmbidaaGreatDoorZSP22
set_option linter.unusedSectionVars false
set_option linter.unusedSimpArgs false
set_option linter.unusedVariables false
namespace Go.Fw.Sy
open Go.Fw Go.Fw.Lx
variable [ae]
def skipS(s:Str):Nat:=if s==Qm then 1 else if s==Qk || s==Ql || s==yY then 3 else 0
def kN(t:Tk):Nat:=if t.kind==1 then skipS t.text else 0
def KE(t:Tk):Prop:=(t.kind==3&&t.text==bP)=true
theorem oH{t:Tk}{s:Str}(h:t.text=s)(hs:skipS s=0):kN t=0:=by unfold kN;rw[h,hs];split<;>rfl
inductive Wf:List Tk->Prop
 |nil:Wf []
 |tok {t:Tk} {c:List Tk} (h:kN t=0) (r:Wf c):Wf (t::c)
 |st {t s:Tk} {mid e c:List Tk} (ht:kN t=mid.length+1) (he:Qs e) (hs:KE s) (r:Wf (s::c)):Wf (t::(mid++(e++s::c)))
inductive Par:List Tk->List Tk->Prop
 |nil:Par [] []
 |tok {t:Tk} {c c':List Tk} (h:kN t=0) (r:Par c c'):Par (t::c) (t::c')
 |st {t s:Tk} {mid e c c':List Tk} {n:Nat} (ht:kN t=mid.length+1) (he:Qs e) (hs:KE s) (hn:cnt e+n<=60) (r:Par (s::c) c'):Par (t::(mid++(e++s::c))) (t::(mid++(par n e++c')))
variable {s : Str}
theorem BC:∀{e e':List Tk} {s s':Tk} {c c':List Tk},Qs e->KE s->Qs e'->KE s'->e++s::c=e'++s'::c'->e=e'/\s=s'/\c=c'
 | [],[],_,_,_,_,_,_,_,_,h=>by simp only[List.nil_append,List.cons.injEq]at h;exact⟨rfl,h.1,h.2⟩
 | [],t::e',s,_,_,_,_,h1,h2,_,h=>by
  simp only[List.nil_append,List.cons_append,List.cons.injEq]at h
  have:=h2 t (by simp);rw[<-h.1]at this;unfold Qt at this;unfold KE at h1;rw[h1]at this;cases this
 |t::e,[],_,s',_,_,h1,_,_,h2,h=>by
  simp only[List.nil_append,List.cons_append,List.cons.injEq]at h
  have:=h1 t (by simp);rw[h.1]at this;unfold Qt at this;unfold KE at h2;rw[h2]at this;cases this
 |t::e,t'::e',s,s',c,c',h1,h2,h3,h4,h=>by
  simp only[List.cons_append,List.cons.injEq]at h
  obtain⟨a,b,d⟩:=BC (λx hx=>h1 x (by simp[hx])) h2 (λx hx=>h3 x (by simp[hx])) h4 h.2
  exact⟨by rw[h.1,a],b,d⟩
theorem VG{α:Type}(p:Pr)(x:α)(l:List Tk)(f:α->List Tk->Bool×Pr×List Tk):itB p (some x,l) f=f x l:=rfl
theorem Par.nil_inv{l:List Tk}(h:Par [] l):l = []:=by cases h;rfl
theorem Par.head{t:Tk}{c l:List Tk}(h:Par (t::c) l):∃d,l=t::d:=by
 generalize hX:t::c=x at h
 cases h with
 |nil=>cases hX
 |tok h r=>injection hX with h1 h2;subst h1;exact⟨_,rfl⟩
 |st ht he hs hn r=>injection hX with h1 h2;subst h1;exact⟨_,rfl⟩
theorem Par.tok_inv{t:Tk}{c l:List Tk}(h:Par (t::c) l)(ht:kN t=0):∃d,l=t::d/\Par c d:=by
 generalize hX:t::c=x at h
 cases h with
 |nil=>cases hX
 |tok h r=>injection hX with h1 h2;subst h1;subst h2;exact⟨_,rfl,r⟩
 |st ht' he hs hn r=>injection hX with h1 h2;subst h1;omega
theorem Par.st_inv{t s:Tk}{mid e c l:List Tk}(h:Par (t::(mid++(e++s::c))) l)(ht:kN t=mid.length+1)(he:Qs e)(hs:KE s):∃n d,l=t::(mid++(par n e++d))/\cnt e+n<=60/\Par (s::c) d:=by
 generalize hX:t::(mid++(e++s::c))=x at h
 cases h with
 |nil=>cases hX
 |tok h r=>injection hX with h1 h2;subst h1;omega
 |st ht' he' hs' hn r=>
  injection hX with h1 h2
  subst h1
  obtain⟨h3,h4⟩:=List.append_inj h2 (by omega)
  subst h3
  obtain⟨h5,h6,h7⟩:=BC he hs he' hs' h4
  subst h5;subst h6;subst h7
  exact⟨_,_,rfl,hn,r⟩
theorem Par.hd{l l':List Tk}(h:Par l l'):hdS l l':=by
 cases l with
 |nil=>rw[h.nil_inv];exact hdS.rfl' _
 |cons t l=>obtain⟨d,rfl⟩:=h.head;rfl
def jc{α:Type}(M:PM α):Prop:=∀l x r,Val l->M l=(some x,r)->Val r/\(Wf r->Wf l)/\∀l',Par l l'->∃r',Par r r'/\M l'=(some x,r')
def Su(f:List Tk->Bool×Pr×List Tk):Prop:=∀l p r,Val l->f l=(true,p,r)->Val r/\(Wf r->Wf l)/\∀l',Par l l'->∃r',Par r r'/\f l'=(true,p,r')
theorem jc.bnd{α β:Type}{M:PM α}{f:α->PM β}(hM:jc M)(hf:∀x,jc (f x)):jc (λl=>bnd (M l) f):=λl x r hv e=>by
 obtain⟨y,l1,h1,h2⟩:=af (show Sy.bnd (M l) f=_ from e)
 obtain⟨a1,a2,a3⟩:=hM _ _ _ hv h1
 obtain⟨b1,b2,b3⟩:=hf y _ _ _ a1 h2
 refine⟨b1,λh=>a2 (b2 h),λl' hp=>?_⟩
 obtain⟨l1',c1,c2⟩:=a3 l' hp
 obtain⟨r',d1,d2⟩:=b3 l1' c1
 exact⟨r',d1,by show Sy.bnd (M l') f=_;rw[c2,gZ,d2]⟩
theorem jc.pure{α:Type}(x:α):jc (λl=>(some x,l)):=λl y r hv e=>by
 simp only[Prod.mk.injEq,Option.some.injEq]at e
 obtain⟨rfl,rfl⟩:=e
 exact⟨hv,id,λl' hp=>⟨l',hp,rfl⟩⟩
theorem Su.pure(p:Pr):Su (λl=>(true,p,l)):=λl y r hv e=>by
 simp only[Prod.mk.injEq,true_and]at e
 obtain⟨rfl,rfl⟩:=e
 exact⟨hv,id,λl' hp=>⟨l',hp,rfl⟩⟩
theorem jc.it{α:Type}{M:PM α}{p:Pr}{f:α->List Tk->Bool×Pr×List Tk}(hM:jc M)(hf:∀x,Su (f x)):Su (λl=>itB p (M l) f):=λl x r hv e=>by
 obtain⟨y,l1,h1,h2⟩:=eG (show itB p (M l) f=_ from e)
 obtain⟨a1,a2,a3⟩:=hM _ _ _ hv h1
 obtain⟨b1,b2,b3⟩:=hf y _ _ _ a1 h2
 refine⟨b1,λh=>a2 (b2 h),λl' hp=>?_⟩
 obtain⟨l1',c1,c2⟩:=a3 l' hp
 obtain⟨r',d1,d2⟩:=b3 l1' c1
 exact⟨r',d1,by show itB p (M l') f=_;rw[c2,VG,d2]⟩
theorem jc.seq{α:Type}{g:List Tk->Bool×Pr×List Tk}{f:Pr->PM α}(hg:Su g)(hf:∀p,jc (f p)):jc (λl=>seqP (g l) f):=λl x r hv e=>by
 obtain⟨p,l1,h1,h2⟩:=zy (show seqP (g l) f=_ from e)
 obtain⟨a1,a2,a3⟩:=hg _ _ _ hv h1
 obtain⟨b1,b2,b3⟩:=hf p _ _ _ a1 h2
 refine⟨b1,λh=>a2 (b2 h),λl' hp=>?_⟩
 obtain⟨l1',c1,c2⟩:=a3 l' hp
 obtain⟨r',d1,d2⟩:=b3 l1' c1
 exact⟨r',d1,by show seqP (g l') f=_;rw[c2];exact d2⟩
theorem jc.tok{α:Type}{M:PM α}(h:∀l x r,M l=(some x,r)->∃t,l=t::r/\kN t=0/\∀r',M (t::r')=(some x,r')):jc M:=λl x r hv e=>by
 obtain⟨t,rfl,h1,h2⟩:=h l x r e
 refine⟨λy hy=>hv y (by simp[hy]),λhw=>.tok h1 hw,λl' hp=>?_⟩
 obtain⟨d,rfl,h3⟩:=hp.tok_inv h1
 exact⟨d,h3,h2 d⟩
theorem qI(hs:skipS s=0):jc (aC s):=.tok λl x r e=>by
 obtain⟨t,a,b,_,c⟩:=iQ e
 exact⟨t,a,oH b hs,c⟩
theorem SA(h:words.contains s=false):skipS s=0:=by
 unfold skipS
 have key:∀w:Str,words.contains w=true->(s==w)=false:=λw hw=>by
  cases e:s==w with
  |false=>rfl
  |true=>rw[beq_iff_eq]at e;subst e;rw[h]at hw;cases hw
 rw[key Qm (by decide),key Qk (by decide),key Ql (by decide),key yY (by decide)];rfl
theorem KF:jc nameM:=.tok λl x r e=>by
 obtain⟨t,a,b,c⟩:=Dy e
 refine⟨t,a,?_,c⟩
 have hX:=c []
 unfold nameM at hX
 split at hX
 ·rename_i hN
  simp only[isNm,hd,List.isEmpty_cons,Bool.not_false,Bool.true_and,Bool.and_eq_true,beq_iff_eq,Bool.not_eq_true']at hN
  unfold kN;rw[SA hN.2];split<;>rfl
 ·cases hX
theorem SB:jc numM:=.tok λl x r e=>by
 have e0:=e
 unfold numM at e
 split at e
 ·rename_i hN
  simp only[Prod.mk.injEq,Option.some.injEq]at e
  cases l with
  |nil=>simp[isNum]at hN
  |cons t l=>
   have hk:t.kind=2:=by
    simp only[isNum,hd,List.isEmpty_cons,Bool.not_false,Bool.true_and,Bool.and_eq_true,beq_iff_eq]at hN
    exact hN.1
   refine⟨t,by rw[<-e.2];rfl,by unfold kN;rw[hk];rfl,λr'=>?_⟩
   rw[numM,if_pos (show isNum (t::r')=true from hN)]
   exact congrArg (λz=>(some z,r')) e.1
 ·cases e
theorem WW{l l':List Tk}(h:isT s l=true)(hs:skipS s=0)(hp:Par l l'):∃t d,l=t::l.drop 1/\kN t=0/\l'=t::d/\Par (l.drop 1) d/\isT s l'=true:=by
 obtain⟨t,a,b,c⟩:=jG h
 have hs':=oH b hs
 have hp':=hp
 rw[a]at hp'
 obtain⟨d,e,f⟩:=hp'.tok_inv hs'
 exact⟨t,d,a,hs',e,f,by rw[e,c];exact beq_self_eq_true s⟩
theorem z8g{α:Type}{A B:PM α}(hs:skipS s=0)(hA:jc A)(hB:jc B):jc (λl=>if isT s l then A (l.drop 1)else B l):=λl x r hv e=>by
 simp only at e
 split at e
 ·rename_i hT
  obtain⟨a1,a2,a3⟩:=hA _ _ _ hv.drop e
  obtain⟨t,b,_⟩:=jG hT
  refine⟨a1,λhw=>?_,λl' hp=>?_⟩
  ·obtain⟨t,c1,c2,c3⟩:=jG hT
   rw[c1];exact .tok (oH c2 hs) (a2 hw)
  ·obtain⟨t,d,c1,c2,c3,c4,c5⟩:=WW hT hs hp
   obtain⟨r',d1,d2⟩:=a3 _ c4
   exact⟨r',d1,by show(if isT s l' then A (l'.drop 1)else B l')=_;rw[if_pos c5,c3];exact d2⟩
 ·rename_i hT
  obtain⟨a1,a2,a3⟩:=hB _ _ _ hv e
  refine⟨a1,a2,λl' hp=>?_⟩
  obtain⟨r',d1,d2⟩:=a3 _ hp
  exact⟨r',d1,by show(if isT s l' then A (l'.drop 1)else B l')=_;rw[if_neg (by rw[<-fM hp.hd];exact hT)];exact d2⟩
theorem VH:jc zN:=z8g (s:=dh) (A:=λl=>bnd (numM l) λn r=>(some (IntKind.i64.wrap (0-n)),r)) (B:=numM) rfl (SB.bnd λn=>.pure _) SB
theorem KG:jc lh:=(qI rfl).bnd λ_=>VH.bnd λ_=>(qI rfl).bnd λ_=>VH.bnd λ_=>.pure _
theorem SC:jc qB:=KF.bnd λ_=>KG.bnd λ_=>.pure _
theorem Zv:∀(n:Nat) (acc:List Int) (l:List Tk) (vs:List Int) (r:List Tk),l.length<=n->Val l->listL n acc l=(some vs,r)->Val r/\(Wf r->Wf l)/\∀l',Par l l'->∃r',Par r r'/\∀m,l'.length<=m->listL m acc l'=(some vs,r'):=by
 intro n
 induction n with
 |zero=>
  intro acc l vs r hn hv e
  simp only[listL,Prod.mk.injEq,Option.some.injEq]at e;obtain⟨rfl,rfl⟩:=e
  have:l = []:=List.length_eq_zero_iff.1 (by omega)
  subst this
  refine⟨hv,id,λl' hp=>⟨l',hp,λm hm=>?_⟩⟩
  rw[hp.nil_inv]
  cases m with
  |zero=>rfl
  |succ m=>rw[rP,if_neg (by simp[isT])]
 |succ n ih=>
  intro acc l vs r hn hv e
  rw[rP]at e
  split at e
  ·rename_i hT
   obtain⟨v,l1,h1,e⟩:=af e
   obtain⟨a1,a2,a3⟩:=VH _ _ _ hv.drop h1
   have hl:=fD (kJ l hT)
   have hi:=vP h1
   obtain⟨b1,b2,b3⟩:=ih _ _ _ _ (by omega) a1 e
   refine⟨b1,λhw=>?_,λl' hp=>?_⟩
   ·obtain⟨t,c1,c2,c3⟩:=jG hT
    rw[c1];exact .tok (oH c2 rfl) (a2 (b2 hw))
   ·obtain⟨t,d,c1,c2,c3,c4,c5⟩:=WW hT rfl hp
    obtain⟨l2,d1,d2⟩:=a3 _ c4
    obtain⟨r',e1,e2⟩:=b3 _ d1
    refine⟨r',e1,λm hm=>?_⟩
    rw[c3,List.length_cons]at hm
    obtain⟨m,rfl⟩:∃k,m=k+1:=⟨m-1,by omega⟩
    rw[rP,if_pos c5,c3,List.drop_one,List.tail_cons,d2,gZ]
    exact e2 m (by have:=vP d2;omega)
  ·rename_i hT
   simp only[Prod.mk.injEq,Option.some.injEq]at e;obtain⟨rfl,rfl⟩:=e
   refine⟨hv,id,λl' hp=>⟨l',hp,λm hm=>?_⟩⟩
   cases m with
   |zero=>rfl
   |succ m=>rw[rP,if_neg (by rw[<-fM hp.hd];exact hT)]
theorem z3v:jc wQ:=λl x r hv e=>by
 unfold wQ at e
 obtain⟨v,l1,h1,e⟩:=af e
 obtain⟨a1,a2,a3⟩:=VH _ _ _ hv h1
 obtain⟨b1,b2,b3⟩:=Zv _ _ _ _ _ (Nat.le_refl _) a1 e
 refine⟨b1,λh=>a2 (b2 h),λl' hp=>?_⟩
 obtain⟨l1',c1,c2⟩:=a3 l' hp
 obtain⟨r',d1,d2⟩:=b3 l1' c1
 exact⟨r',d1,by unfold wQ;rw[c2,gZ];exact d2 _ (Nat.le_refl _)⟩
theorem Zw(p:Pr):Su (qC p):=SC.it λ_=>.pure _
theorem Zx(p:Pr):Su (qE p):=SC.it λ_=>.pure _
theorem z3w(p:Pr):Su (zO p):=KF.it λ_=>SB.it λ_=>KG.it λ_=>.pure _
theorem Zy(p:Pr):Su (qF p):=KF.it λ_=>(qI rfl).it λ_=>z3v.it λ_=>.pure _
def ItP(t:List (Str×IM)):Prop:=∀s f,find s t=some f->∀(u:Tk) (l1:List Tk) (p p1:Pr) (l2 l3:List Tk),Val (u::l1)->u.text=s->u.kind≠2->f p l1=(true,p1,l2)->aC bP l2=(some (),l3)->Val l2/\(Wf l2->Wf (u::l1))/\∀l',Par (u::l1) l'->∃d r',l'=u::d/\Par l2 r'/\f p d=(true,p1,r')
theorem ItP.of_g{f:IM}(hs:skipS s=0)(hf:∀p,Su (f p)){u:Tk}{l1 l2:List Tk}{p p1:Pr}(hv:Val (u::l1))(hu:u.text=s)(e:f p l1=(true,p1,l2)):Val l2/\(Wf l2->Wf (u::l1))/\∀l',Par (u::l1) l'->∃d r',l'=u::d/\Par l2 r'/\f p d=(true,p1,r'):=by
 obtain⟨a1,a2,a3⟩:=hf p _ _ _ (λy hy=>hv y (by simp[hy])) e
 have hk:=oH hu hs
 refine⟨a1,λh=>.tok hk (a2 h),λl' hp=>?_⟩
 obtain⟨d,rfl,h3⟩:=hp.tok_inv hk
 obtain⟨r',b1,b2⟩:=a3 d h3
 exact⟨d,r',rfl,b1,b2⟩
theorem Zz:ItP decls:=by
 intro s f hf u l1 p p1 l2 l3 hv hu hk e _
 simp only[decls,find]at hf
 split at hf
 ·rename_i h;rw[beq_iff_eq]at h;cases hf;exact ItP.of_g (by rw[h];rfl) Zw hv hu e
 ·split at hf
  ·rename_i h;rw[beq_iff_eq]at h;cases hf;exact ItP.of_g (by rw[h];rfl) Zx hv hu e
  ·split at hf
   ·rename_i h;rw[beq_iff_eq]at h;cases hf;exact ItP.of_g (by rw[h];rfl) z3w hv hu e
   ·split at hf
    ·rename_i h;rw[beq_iff_eq]at h;cases hf;exact ItP.of_g (by rw[h];rfl) Zy hv hu e
    ·cases hf
theorem SE{t:Tk}(hv:valid t=true)(h2:t.kind≠2):t.kind=1/\EL t.text=true\/t.kind=3/\t.text.length=1:=by
 unfold valid at hv
 split at hv
 ·rename_i h;rw[beq_iff_eq]at h;simp only[Bool.and_eq_true]at hv;exact .inl ⟨h,hv.1⟩
 ·split at hv
  ·rename_i h;rw[beq_iff_eq]at h;exact absurd h h2
  ·split at hv
   ·rename_i h;rw[beq_iff_eq]at h;simp only[Bool.and_eq_true,beq_iff_eq]at hv;exact .inr ⟨h,by have:=hv.1.1;omega⟩
   ·cases hv
theorem SG{l r:List Tk}(hv:Val l)(e:aC bP l=(some (),r)):∃s,l=s::r/\KE s/\∀r',St1 (s::r'):=by
 obtain⟨s,rfl,b,c,d⟩:=iQ e
 refine⟨s,rfl,?_,λr'=>rQ c (by decide) (by decide) (by decide) (by decide) r'⟩
 have h2:s.kind≠2:=λh=>by
  have:=c bP []
  simp[isT,hd,h]at this
 rcases SE (hv s (by simp)) h2 with⟨h,h3⟩ |⟨h,_⟩
 ·rw[b]at h3;exact absurd h3 (by decide)
 ·unfold KE;rw[h,b];rfl
theorem KH{k:Int}{u:Tk}{l1 l2 l3:List Tk}{p p1:Pr}(hk:kN u=if k==4 then 1 else 3)(hv:Val (u::l1))(e:jo k p l1=(true,p1,l2))(hw:aC bP l2=(some (),l3)):Val l2/\(Wf l2->Wf (u::l1))/\∀l',Par (u::l1) l'->∃d r',l'=u::d/\Par l2 r'/\jo k p d=(true,p1,r'):=by
 have hv1:Val l1:=λy hy=>hv y (by simp[hy])
 unfold jo at e ⊢
 obtain⟨s,l4,h1,e⟩:=eG e
 obtain⟨x,l5,h2,e⟩:=eG e
 simp only[Prod.mk.injEq,true_and]at e
 obtain⟨rfl,rfl⟩:=e
 have mid:∃mid,l1=mid++l4/\kN u=mid.length+1/\∀r',(if k != 4 then bnd (nameM (mid++r')) λs l=>bnd (aC sEq l) λ_ l=>((some s,l):Option Str×List Tk)else(some [],mid++r'))=(some s,r'):=by
  split at h1
  ·rename_i h4
   obtain⟨s',l6,h5,h1⟩:=af h1
   obtain⟨_,l7,h6,h1⟩:=af h1
   simp only[Prod.mk.injEq,Option.some.injEq]at h1
   obtain⟨rfl,rfl⟩:=h1
   obtain⟨t1,rfl,_,e1⟩:=Dy h5
   obtain⟨t2,rfl,_,_,e2⟩:=iQ h6
   refine⟨[t1,t2],rfl,?_,λr'=>?_⟩
   ·rw[hk,if_neg (by simpa using h4)];rfl
   ·show(if k != 4 then bnd (nameM (t1::t2::r')) _ else _)=_
    rw[if_pos h4,e1,gZ,e2,gZ]
  ·rename_i h4
   simp only[Prod.mk.injEq,Option.some.injEq]at h1
   obtain⟨rfl,rfl⟩:=h1
   refine⟨[],rfl,?_,λr'=>by rw[if_neg h4];rfl⟩
   rw[hk,if_pos (by simpa using h4)];rfl
 obtain⟨mid,rfl,m1,m2⟩:=mid
 obtain⟨c,rfl,q1,q2⟩:=Sr h2
 have v2:Val l5:=hv1.app.app
 obtain⟨sm,rfl,s1,s2⟩:=SG v2 hw
 refine⟨v2,λh=>.st m1 q1 s1 h,λl' hp=>?_⟩
 obtain⟨n,d,rfl,n1,n2⟩:=hp.st_inv m1 q1 s1
 refine⟨mid++(par n c++d),d,rfl,n2,?_⟩
 obtain⟨d',rfl⟩:=n2.head
 rw[m2,VG,q2 n (by omega) _ (s2 d'),VG]
theorem ZA:ItP stmts:=by
 intro s f hf u l1 p p1 l2 l3 hv hu hk e hw
 have kd:u.text.length≠1->u.kind=1:=λh=>by
  rcases SE (hv u (by simp)) hk with⟨h1,_⟩ |⟨_,h1⟩
  ·exact h1
  ·exact absurd h1 h
 have sk:∀{w:Str},s=w->w.length≠1->kN u=skipS w:=λ{w} h hl=>by
  have:u.text=w:=hu.trans h
  unfold kN;rw[kd (by rw[this];exact hl),this];rfl
 simp only[stmts,find]at hf
 split at hf
 ·rename_i h;rw[beq_iff_eq]at h;cases hf;exact KH (sk h (by decide)) hv e hw
 ·split at hf
  ·rename_i h;rw[beq_iff_eq]at h;cases hf;exact KH (sk h (by decide)) hv e hw
  ·split at hf
   ·rename_i h;rw[beq_iff_eq]at h;cases hf;exact KH (sk h (by decide)) hv e hw
   ·split at hf
    ·rename_i h;rw[beq_iff_eq]at h;cases hf;exact KH (sk h (by decide)) hv e hw
    ·cases hf
theorem VI{t:List (Str×IM)}(hl:∀e∈t,Ku e.2)(ht:ItP t):∀(n:Nat) (p:Pr) (l:List Tk) (p':Pr) (r:List Tk),l.length<=n->Val l->itemsF t n p l=(true,p',r)->Val r/\(Wf r->Wf l)/\∀l',Par l l'->∃r',Par r r'/\∀m,l'.length<=m->itemsF t m p l'=(true,p',r'):=by
 intro n
 induction n with
 |zero=>
  intro p l p' r hn hv e
  simp only[itemsF,Prod.mk.injEq,true_and]at e;obtain⟨rfl,rfl⟩:=e
  have:l = []:=List.length_eq_zero_iff.1 (by omega)
  subst this
  refine⟨hv,id,λl' hp=>⟨l',hp,λm hm=>?_⟩⟩
  rw[hp.nil_inv]
  cases m with
  |zero=>rfl
  |succ m=>rw[gQ,if_pos (by rfl)]
 |succ n ih=>
  intro p l p' r hn hv e
  cases l with
  |nil=>
   rw[gQ,if_pos (by rfl)]at e
   simp only[Prod.mk.injEq,true_and]at e;obtain⟨rfl,rfl⟩:=e
   refine⟨hv,id,λl' hp=>⟨l',hp,λm hm=>?_⟩⟩
   rw[hp.nil_inv]
   cases m with
   |zero=>rfl
   |succ m=>rw[gQ,if_pos (by rfl)]
  |cons u l=>
   rw[gQ,if_neg (by simp)]at e
   have same:(∀d m,itemsF t (m+1) p (u::d)=(true,p,u::d))->((true,p,u::l):Bool×Pr×List Tk)=(true,p',r)->Val r/\(Wf r->Wf (u::l))/\∀l',Par (u::l) l'->∃r',Par r r'/\∀m,l'.length<=m->itemsF t m p l'=(true,p',r'):=by
    intro hs e
    simp only[Prod.mk.injEq,true_and]at e;obtain⟨rfl,rfl⟩:=e
    refine⟨hv,id,λl' hp=>⟨l',hp,λm hm=>?_⟩⟩
    obtain⟨d,rfl⟩:=hp.head
    cases m with
    |zero=>rfl
    |succ m=>exact hs d m
   split at e
   ·rename_i hf
    refine same (λd m=>?_) e
    rw[gQ,if_neg (by simp)]
    simp only[show find (hd (u::d)).text t=none from hf]
   ·rename_i f hf
    split at e
    ·rename_i hT
     cases hX:f p ((u::l).drop 1)with
     |mk b q=>
      obtain⟨p1,l2⟩:=q
      rw[hX]at e
      cases b with
      |false=>cases e
      |true=>
       obtain⟨_,l3,h3,e⟩:=eG (show itB p1 (aC bP l2) (λ_ l=>itemsF t n p1 l)=_ from e)
       have hk:u.kind≠2:=λh=>by simp[isT,hd,h]at hT
       obtain⟨a1,a2,a3⟩:=ht _ _ hf u l p p1 l2 l3 hv rfl hk hX h3
       have hle:l2.length<=l.length:=((Dv hl hf p).act (show tr (f p l)=((true,p1),l2)by rw[show f p l=(true,p1,l2)from hX];rfl)).le
       have hw:=di h3
       obtain⟨b1,b2,b3⟩:=qI (s:=bP) rfl _ _ _ a1 h3
       obtain⟨c1,c2,c3⟩:=ih _ _ _ _ (by rw[List.length_cons]at hn;omega) b1 e
       refine⟨c1,λh=>a2 (b2 (c2 h)),λl' hp=>?_⟩
       obtain⟨d,r2,rfl,d1,d2⟩:=a3 l' hp
       obtain⟨r3,e1,e2⟩:=b3 _ d1
       obtain⟨r4,f1,f2⟩:=c3 _ e1
       refine⟨r4,f1,λm hm=>?_⟩
       rw[List.length_cons]at hm
       obtain⟨m,rfl⟩:∃k,m=k+1:=⟨m-1,by omega⟩
       have hle2:r2.length<=d.length:=((Dv hl hf p).act (show tr (f p d)=((true,p1),r2)by rw[d2];rfl)).le
       rw[gQ,if_neg (by simp)]
       simp only[show find (hd (u::d)).text t=some f from hf]
       rw[if_pos (show isT (hd (u::d)).text (u::d)=true from hT),List.drop_one,List.tail_cons,d2]
       show itB p1 (aC bP r2) (λ_ l=>itemsF t m p1 l)=_
       rw[e2,VG]
       exact f2 m (by have:=di e2;omega)
    ·rename_i hT
     refine same (λd m=>?_) e
     rw[gQ,if_neg (by simp)]
     simp only[show find (hd (u::d)).text t=some f from hf]
     rw[if_neg (show ¬isT (hd (u::d)).text (u::d)=true from hT)]
theorem SH{t:List (Str×IM)}(hl:∀e∈t,Ku e.2)(ht:ItP t)(p:Pr):Su (ed t p):=λl p' r hv e=>by
 obtain⟨a,b,c⟩:=VI hl ht _ _ _ _ _ (Nat.le_refl _) hv (show itemsF t l.length p l=_ from e)
 refine⟨a,b,λl' hp=>?_⟩
 obtain⟨r',d,e⟩:=c l' hp
 exact⟨r',d,e _ (Nat.le_refl _)⟩
theorem z3x:jc (λl=>if isNum l then numM l else bnd (aC dR l) λ_ l=>((some (-1),l):Option Int×List Tk)):=λl x r hv e=>by
 simp only at e
 split at e
 ·rename_i hN
  obtain⟨a1,a2,a3⟩:=SB _ _ _ hv e
  refine⟨a1,a2,λl' hp=>?_⟩
  obtain⟨r',d1,d2⟩:=a3 _ hp
  exact⟨r',d1,by show(if isNum l' then numM l' else _)=_;rw[if_pos (by rw[<-pz hp.hd];exact hN)];exact d2⟩
 ·rename_i hN
  obtain⟨a1,a2,a3⟩:=(qI (s:=dR) rfl).bnd (f:=λ_ l=>((some (-1),l):Option Int×List Tk)) (λ_=>.pure _) _ _ _ hv e
  refine⟨a1,a2,λl' hp=>?_⟩
  obtain⟨r',d1,d2⟩:=a3 _ hp
  exact⟨r',d1,by show(if isNum l' then numM l' else _)=_;rw[if_neg (by rw[<-pz hp.hd];exact hN)];exact d2⟩
theorem z3y:jc mr:=by
 have h:=(qI (s:=wProcessor) rfl).bnd λ_=>KF.bnd λs=>(qI (s:=cZ) rfl).bnd λ_=>SB.bnd λa=>(qI (s:=wTail) rfl).bnd λ_=>z3x.bnd λt=>(qI (s:=sBra) rfl).bnd λ_=>
  jc.seq (SH FP Zz ⟨s,a,t,[],[],[],[],[]⟩) λp=>jc.seq (SH FQ ZA p) λp=>(qI (s:=zC) rfl).bnd λ_=>.pure p
 exact h
theorem ZB:∀(n:Nat) (ps:List Pr) (l:List Tk) (x:List Pr) (r:List Tk),l.length<=n->Val l->readF n ps l=(some x,r)->Wf l/\∀l',Par l l'->∀m,l'.length<=m->readF m ps l'=(some x,[]):=by
 intro n
 induction n with
 |zero=>
  intro ps l x r hn hv e
  have:l = []:=List.length_eq_zero_iff.1 (by omega)
  subst this
  rw[oG]at e
  simp only[Prod.mk.injEq,Option.some.injEq]at e;obtain⟨rfl,rfl⟩:=e
  exact⟨.nil,λl' hp m _=>by rw[hp.nil_inv,oG]⟩
 |succ n ih=>
  intro ps l x r hn hv e
  cases l with
  |nil=>
   rw[oG]at e
   simp only[Prod.mk.injEq,Option.some.injEq]at e;obtain⟨rfl,rfl⟩:=e
   exact⟨.nil,λl' hp m _=>by rw[hp.nil_inv,oG]⟩
  |cons t l=>
   rw[Ry]at e
   obtain⟨p,l1,h1,e⟩:=af e
   obtain⟨a1,a2,a3⟩:=z3y _ _ _ hv h1
   have hle:=(z3r hv h1).2.2
   obtain⟨b1,b2⟩:=ih _ _ _ _ (by omega) a1 e
   refine⟨a2 b1,λl' hp m hm=>?_⟩
   obtain⟨r',c1,c2⟩:=a3 _ hp
   obtain⟨d,rfl⟩:=hp.head
   rw[List.length_cons]at hm
   obtain⟨m,rfl⟩:∃k,m=k+1:=⟨m-1,by omega⟩
   rw[Ry,c2,gZ]
   have hlt:=Hz c2
   exact b2 _ c1 m (by simp only[List.length_cons]at hlt;omega)
theorem VJ{l r:List Tk}{x:List Pr}(hv:Val l)(e:iU l=(some x,r)):Wf l/\∀l',Par l l'->iU l'=(some x,[]):=by
 obtain⟨a,b⟩:=ZB _ _ _ _ _ (Nat.le_refl _) hv (show readF l.length [] l=_ from e)
 exact⟨a,λl' hp=>b l' hp _ (Nat.le_refl _)⟩
end Go.Fw.Sy
