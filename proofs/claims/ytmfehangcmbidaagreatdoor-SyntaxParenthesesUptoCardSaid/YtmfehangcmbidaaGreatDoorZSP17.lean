/- SyntaxBack: what is read: how great it is; declarations, statements, processors. -/
import Derived.Test.YtmfehangcmbidaaGreatDoorZSP16
set_option linter.unusedSectionVars false
set_option linter.unusedSimpArgs false
set_option linter.unusedVariables false
namespace Go.Fw.Sy
open Go.Fw Go.Fw.Lx
variable [ae]
mutual
def nd:Ex->Nat
 | .mk _ _ _ _ l=>ndL l+1
def ndL:List Ex->Nat
 | []=>0
 |x::r=>nd x+ndL r
end
theorem RQ:∀a b:List Ex,ndL (a++b)=ndL a+ndL b
 | [],b=>by simp[ndL]
 |x::a,b=>by simp only[List.cons_append,ndL,RQ a b];omega
theorem fD{l:List Tk}(h:l.isEmpty=false):(l.drop 1).length+1=l.length:=by cases l<;>simp at h ⊢
theorem di{s:Str}{l r:List Tk}{x:Unit}(e:aC s l=(some x,r)):r.length+1=l.length:=by
 unfold aC at e
 split at e
 ·rename_i h;simp only[Prod.mk.injEq]at e;obtain⟨_,rfl⟩:=e;exact fD (kJ l h)
 ·cases e
theorem pI{l r:List Tk}{x:Str}(e:nameM l=(some x,r)):r.length+1=l.length:=by
 unfold nameM at e
 split at e
 ·rename_i h;simp only[Prod.mk.injEq]at e;obtain⟨_,rfl⟩:=e;exact fD (Du l h)
 ·cases e
theorem zx{l r:List Tk}{x:Int}(e:numM l=(some x,r)):r.length+1=l.length:=by
 unfold numM at e
 split at e
 ·rename_i h;simp only[Prod.mk.injEq]at e;obtain⟨_,rfl⟩:=e;exact fD (xH l h)
 ·cases e
theorem vP{l r:List Tk}{x:Int}(e:zN l=(some x,r)):r.length+1<=l.length:=by
 unfold zN at e
 split at e
 ·rename_i h
  obtain⟨n,l1,h1,e⟩:=af e
  simp only[Prod.mk.injEq]at e;obtain⟨_,rfl⟩:=e
  have:=zx h1;have:=fD (kJ l h);omega
 ·have:=zx e;omega
def Sze(u:PM Ex):Prop:=∀l x r,u l=(some x,r)->nd x+r.length<=l.length
theorem VB{u:PM Ex}(hu:Sze u):∀(n:Nat) (x:Ex) (l:List Tk) (y:Ex) (r:List Tk),prodL u n x l=(some y,r)->nd y+r.length<=nd x+l.length:=by
 intro n
 induction n with
 |zero=>intro x l y r e;simp only[prodL,Prod.mk.injEq,Option.some.injEq]at e;obtain⟨rfl,rfl⟩:=e;exact Nat.le_refl _
 |succ n ih=>
  intro x l y r e
  rw[mX]at e
  split at e
  ·rename_i h
   obtain⟨z,l1,h1,h2⟩:=af e
   have a1:=ih _ _ _ _ h2
   have a2:=hu _ _ _ h1
   have a3:=fD (kJ l h)
   simp only[nd,ndL]at a1 ⊢;omega
  ·split at e
   ·rename_i h
    unfold divM at e
    split at e
    ·cases e
    ·obtain⟨z,l1,h1,h2⟩:=af e
     have a1:=ih _ _ _ _ h2
     have a2:=zx h1
     have a3:=fD (kJ l h)
     simp only[nd,ndL]at a1 ⊢;omega
   ·simp only[Prod.mk.injEq,Option.some.injEq]at e;obtain⟨rfl,rfl⟩:=e;exact Nat.le_refl _
theorem RS{u:PM Ex}(hu:Sze u):Sze (gy u):=λl y r e=>by
 obtain⟨x,l1,h1,h2⟩:=af (show bnd (u l) (λx r=>prodL u r.length x r)=_ from e)
 have a1:=VB hu _ _ _ _ _ h2;have a2:=hu _ _ _ h1;omega
theorem Zi{u:PM Ex}(hu:Sze u):∀(n:Nat) (x:Ex) (l:List Tk) (y:Ex) (r:List Tk),sumL u n x l=(some y,r)->nd y+r.length<=nd x+l.length:=by
 intro n
 induction n with
 |zero=>intro x l y r e;simp only[sumL,Prod.mk.injEq,Option.some.injEq]at e;obtain⟨rfl,rfl⟩:=e;exact Nat.le_refl _
 |succ n ih=>
  intro x l y r e
  rw[uw]at e
  have key:∀{s:Str} {k:Int},isT s l=true->(bnd (gy u (l.drop 1)) λy=>sumL u n (ex2 k x y))=(some y,r)->nd y+r.length<=nd x+l.length:=by
   intro s k h e
   obtain⟨z,l1,h1,h2⟩:=af e
   have a1:=ih _ _ _ _ h2
   have a2:=RS hu _ _ _ h1
   have a3:=fD (kJ l h)
   simp only[nd,ndL]at a1 ⊢;omega
  split at e
  ·rename_i h;exact key h e
  ·split at e
   ·rename_i h;exact key h e
   ·simp only[Prod.mk.injEq,Option.some.injEq]at e;obtain⟨rfl,rfl⟩:=e;exact Nat.le_refl _
theorem Kz{u:PM Ex}(hu:Sze u):Sze (sumM u):=λl y r e=>by
 obtain⟨x,l1,h1,h2⟩:=af (show bnd (gy u l) (λx r=>sumL u r.length x r)=_ from e)
 have a1:=Zi hu _ _ _ _ _ h2;have a2:=RS hu _ _ _ h1;omega
theorem VC{u:PM Ex}(hu:Sze u):∀n:Nat,Sze (exprF u n):=by
 intro n
 induction n with
 |zero=>intro l y r e;cases e
 |succ n ih=>
  intro l y r e
  rw[mY]at e
  split at e
  ·rename_i h
   obtain⟨a,l1,h1,e⟩:=af e
   obtain⟨_,l2,h2,e⟩:=af e
   obtain⟨b,l3,h3,e⟩:=af e
   obtain⟨_,l4,h4,e⟩:=af e
   obtain⟨c,l5,h5,e⟩:=af e
   obtain⟨_,l6,h6,e⟩:=af e
   obtain⟨d,l7,h7,e⟩:=af e
   simp only[Prod.mk.injEq,Option.some.injEq]at e
   obtain⟨rfl,rfl⟩:=e
   have a0:=fD (kJ l h)
   have a1:=Kz hu _ _ _ h1
   have a2:=di h2
   have a3:=Kz hu _ _ _ h3
   have a4:=di h4
   have a5:=ih _ _ _ h5
   have a6:=di h6
   have a7:=ih _ _ _ h7
   simp only[nd,ndL];omega
  ·exact Kz hu _ _ _ e
theorem Iq{u:PM Ex}(hu:Sze u):Sze (iT u):=λl y r e=>VC hu _ l y r e
theorem Zj{u:PM Ex}(hu:Sze u):∀(n i:Nat) (acc:List Ex) (l:List Tk) (xs:List Ex) (r:List Tk),wG u n i acc l=(some xs,r)->ndL xs+r.length<=ndL acc+l.length:=by
 intro n
 induction n with
 |zero=>intro i acc l xs r e;simp only[wG,Prod.mk.injEq,Option.some.injEq]at e;obtain⟨rfl,rfl⟩:=e;exact Nat.le_refl _
 |succ n ih=>
  intro i acc l xs r e
  rw[wG]at e
  obtain⟨_,l1,h1,e⟩:=af e
  obtain⟨x,l2,h2,e⟩:=af e
  have a1:l1.length<=l.length:=by
   split at h1
   ·have:=di h1;omega
   ·cases h1;exact Nat.le_refl _
  have a2:=Iq hu _ _ _ h2
  have a3:=ih _ _ _ _ _ e
  rw[RQ]at a3
  simp only[ndL]at a3;omega
theorem Zk{u:PM Ex}(hu:Sze u){f:Int}{n:Nat}{nm:Bool}{l r:List Tk}{x:Ex}(e:argsM u f n nm l=(some x,r)):nd x+r.length<=l.length:=by
 unfold argsM at e
 obtain⟨_,l1,h1,e⟩:=af e
 obtain⟨s,l2,h2,e⟩:=af e
 obtain⟨xs,l3,h3,e⟩:=af e
 obtain⟨_,l4,h4,e⟩:=af e
 simp only[Prod.mk.injEq,Option.some.injEq]at e
 obtain⟨rfl,rfl⟩:=e
 have key:l2.length<=l1.length:=by
  cases nm with
  |true=>
   simp only[if_true]at h2
   obtain⟨s',l5,h5,h2⟩:=af h2
   obtain⟨_,l6,h6,h2⟩:=af h2
   simp only[Prod.mk.injEq,Option.some.injEq]at h2
   obtain⟨rfl,rfl⟩:=h2
   have:=pI h5;have:=di h6;omega
  |false=>simp only[Bool.false_eq_true,if_false]at h2;cases h2;exact Nat.le_refl _
 have a1:=di h1
 have a3:=Zj hu _ _ _ _ _ _ h3
 have a4:=di h4
 simp only[nd,ndL]at a3 ⊢;omega
theorem Dx:∀k:Nat,Sze (gX k):=by
 have base:∀u:Option (PM Ex),(∀v,u=some v->Sze v)->Sze (unitB u):=by
  intro u hu l x r e
  unfold unitB at e
  split at e
  ·rename_i hN
   simp only[Prod.mk.injEq,Option.some.injEq]at e
   obtain⟨rfl,rfl⟩:=e
   have:=fD (xH l hN);simp only[nd,ndL];omega
  ·split at e
   ·rename_i hN
    simp only[Prod.mk.injEq,Option.some.injEq]at e
    obtain⟨rfl,rfl⟩:=e
    have:=fD (Du l hN);simp only[nd,ndL];omega
   ·cases u with
    |none=>cases e
    |some u=>
     have hg:=hu u rfl
     simp only at e
     split at e
     ·rename_i h
      obtain⟨y,l1,h1,e⟩:=af e
      simp only[Prod.mk.injEq,Option.some.injEq]at e
      obtain⟨rfl,rfl⟩:=e
      have:=hg _ _ _ h1;have:=fD (kJ l h);simp only[nd,ndL];omega
     ·split at e
      ·rename_i h
       obtain⟨y,l1,h1,e⟩:=af e
       obtain⟨_,l2,h2,e⟩:=af e
       simp only[Prod.mk.injEq,Option.some.injEq]at e
       obtain⟨rfl,rfl⟩:=e
       have:=Iq hg _ _ _ h1;have:=di h2;have:=fD (kJ l h);omega
      ·split at e
       ·split at e
        ·have:=Zk hg e
         have:(l.drop 1).length<=l.length:=by rw[List.length_drop];omega
         omega
        ·cases e
       ·cases e
 intro k
 induction k with
 |zero=>exact base none (λv h=>by cases h)
 |succ k ih=>exact base (some (gX k)) (λv h=>by cases h;exact ih)
def szP(p:Pr):Nat:=p.params.length+(p.states.length+(p.lines.length+((p.tables.map λt=>t.values.length).sum+(p.stmts.map λs=>nd s.x).sum)))
def Keep(f:IM):Prop:=∀p l p' r,z3o p->Val l->f p l=(true,p',r)->z3o p'/\Val r/\szP p'+r.length<=szP p+l.length
theorem eG{α:Type}{p p':Pr}{m:Option α×List Tk}{f:α->List Tk->Bool×Pr×List Tk}{r:List Tk}(h:itB p m f=(true,p',r)):∃x l,m=(some x,l)/\f x l=(true,p',r):=by
 obtain⟨o,l⟩:=m
 cases o with
 |none=>cases h
 |some x=>exact⟨x,l,rfl,h⟩
theorem KA{l r:List Tk}{b:Int×Int}(h:Val l)(e:lh l=(some b,r)):zY b.1/\zY b.2/\Val r/\r.length<=l.length:=by
 unfold lh at e
 obtain⟨_,l1,h1,e⟩:=af e
 obtain⟨lo,l2,h2,e⟩:=af e
 obtain⟨_,l3,h3,e⟩:=af e
 obtain⟨hi,l4,h4,e⟩:=af e
 simp only[Prod.mk.injEq,Option.some.injEq]at e
 obtain⟨rfl,rfl⟩:=e
 have v1:=(aP _).val h h1
 have v2:=oD.val v1 h2
 have v3:=(aP _).val v2 h3
 refine⟨VA v1 h2,VA v3 h4,oD.val v3 h4,?_⟩
 have:=di h1;have:=vP h2;have:=di h3;have:=vP h4;omega
theorem RV{l r:List Tk}{b:Bd}(h:Val l)(e:qB l=(some b,r)):z6l b/\Val r/\r.length+1<=l.length:=by
 unfold qB at e
 obtain⟨s,l1,h1,e⟩:=af e
 obtain⟨c,l2,h2,e⟩:=af e
 simp only[Prod.mk.injEq,Option.some.injEq]at e
 obtain⟨rfl,rfl⟩:=e
 obtain⟨a,b,v,n⟩:=KA (gK.val h h1) h2
 exact⟨⟨zt h h1,a,b⟩,v,by have:=pI h1;omega⟩
theorem pJ{α:Type}{Q:α->Prop}{l:List α}{x:α}(h:∀y∈l,Q y)(hx:Q x):∀y∈l++[x],Q y:=λy hy=>by
 rcases List.mem_append.1 hy with h1 |h1
 ·exact h y h1
 ·rw[List.mem_singleton.1 h1];exact hx
theorem Zl:Keep qC:=λp l p' r hp hv e=>by
 unfold qC at e
 obtain⟨b,l1,h1,e⟩:=eG e
 simp only[Prod.mk.injEq,true_and]at e
 obtain⟨rfl,rfl⟩:=e
 obtain⟨hb,v,n⟩:=RV hv h1
 exact⟨{ hp with params:=pJ hp.params hb },v,by simp only[szP,List.length_append,List.length_singleton];omega⟩
theorem Zm:Keep qE:=λp l p' r hp hv e=>by
 unfold qE at e
 obtain⟨b,l1,h1,e⟩:=eG e
 simp only[Prod.mk.injEq,true_and]at e
 obtain⟨rfl,rfl⟩:=e
 obtain⟨hb,v,n⟩:=RV hv h1
 exact⟨{ hp with states:=pJ hp.states hb },v,by simp only[szP,List.length_append,List.length_singleton];omega⟩
theorem z3p:Keep zO:=λp l p' r hp hv e=>by
 unfold zO at e
 obtain⟨s,l1,h1,e⟩:=eG e
 obtain⟨n,l2,h2,e⟩:=eG e
 obtain⟨b,l3,h3,e⟩:=eG e
 simp only[Prod.mk.injEq,true_and]at e
 obtain⟨rfl,rfl⟩:=e
 have v1:=gK.val hv h1
 have v2:=mW.val v1 h2
 obtain⟨a,c,v3,m⟩:=KA v2 h3
 exact⟨{ hp with lines:=pJ hp.lines ⟨zt hv h1,Ip v1 h2,a,c⟩ },v3,by have:=pI h1;have:=zx h2;simp only[szP,List.length_append,List.length_singleton];omega⟩
theorem Zn:∀(n:Nat) (acc:List Int) (l:List Tk) (vs:List Int) (r:List Tk),(∀x∈acc,zY x)->Val l->listL n acc l=(some vs,r)->(∀x∈vs,zY x)/\acc.length<=vs.length/\Val r/\vs.length+r.length<=acc.length+l.length:=by
 intro n
 induction n with
 |zero=>intro acc l vs r ha hv e;simp only[listL,Prod.mk.injEq,Option.some.injEq]at e;obtain⟨rfl,rfl⟩:=e;exact⟨ha,Nat.le_refl _,hv,Nat.le_refl _⟩
 |succ n ih=>
  intro acc l vs r ha hv e
  rw[rP]at e
  split at e
  ·rename_i h
   obtain⟨v,l1,h1,e⟩:=af e
   obtain⟨a,b,c,d⟩:=ih _ _ _ _ (pJ ha (VA hv.drop h1)) (oD.val hv.drop h1) e
   have:=fD (kJ l h);have:=vP h1
   rw[List.length_append,List.length_singleton]at b d
   exact⟨a,by omega,c,by omega⟩
  ·simp only[Prod.mk.injEq,Option.some.injEq]at e;obtain⟨rfl,rfl⟩:=e;exact⟨ha,Nat.le_refl _,hv,Nat.le_refl _⟩
theorem Zo:Keep qF:=λp l p' r hp hv e=>by
 unfold qF at e
 obtain⟨s,l1,h1,e⟩:=eG e
 obtain⟨_,l2,h2,e⟩:=eG e
 obtain⟨vs,l3,h3,e⟩:=eG e
 simp only[Prod.mk.injEq,true_and]at e
 obtain⟨rfl,rfl⟩:=e
 have v1:=gK.val hv h1
 have v2:=(aP _).val v1 h2
 unfold wQ at h3
 obtain⟨v,l4,h4,h3⟩:=af h3
 obtain⟨a,b,c,d⟩:=Zn _ _ _ _ _ (λx hx=>by rw[List.mem_singleton.1 hx];exact VA v2 h4) (oD.val v2 h4) h3
 rw[List.length_singleton]at b d
 refine⟨{ hp with tables:=pJ hp.tables ⟨zt hv h1,?_,a⟩ },c,?_⟩
 ·intro h0;simp only at h0;rw[h0]at b;simp at b
 ·have:=pI h1;have:=di h2;have:=vP h4
  simp only[szP,List.map_append,List.map_cons,List.map_nil,List.sum_append,List.sum_cons,List.sum_nil];omega
theorem KC{k:Int}(hk:k=1\/k=2\/k=3\/k=4):Keep (jo k):=λp l p' r hp hv e=>by
 unfold jo at e
 obtain⟨s,l1,h1,e⟩:=eG e
 obtain⟨x,l2,h2,e⟩:=eG e
 simp only[Prod.mk.injEq,true_and]at e
 obtain⟨rfl,rfl⟩:=e
 have key:((k=1\/k=2\/k=3)/\RH s\/k=4/\s = [])/\Val l1/\l1.length<=l.length:=by
  split at h1
  ·rename_i h
   obtain⟨s',l5,h5,h1⟩:=af h1
   obtain⟨_,l6,h6,h1⟩:=af h1
   simp only[Prod.mk.injEq,Option.some.injEq]at h1
   obtain⟨rfl,rfl⟩:=h1
   have h4:k≠4:=by simpa using h
   exact⟨.inl ⟨by omega,zt hv h5⟩,(aP _).val (gK.val hv h5) h6,by have:=pI h5;have:=di h6;omega⟩
  ·rename_i h
   simp only[Prod.mk.injEq,Option.some.injEq]at h1
   obtain⟨rfl,rfl⟩:=h1
   exact⟨.inr ⟨by simpa using h,rfl⟩,hv,Nat.le_refl _⟩
 refine⟨{ hp with stmts:=pJ hp.stmts ⟨key.1,rfl,RJ (iP 63) (z3n 63) _ _ _ key.2.1 h2⟩ },(uy (iP 63)).val key.2.1 h2,?_⟩
 have:=Iq (Dx 63) _ _ _ h2
 simp only[szP,List.map_append,List.map_cons,List.map_nil,List.sum_append,List.sum_cons,List.sum_nil];omega
theorem z3q{t:List (Str×IM)}(ht:∀q∈t,Keep q.2){s:Str}{f:IM}(h:find s t=some f):Keep f:=by
 induction t with
 |nil=>cases h
 |cons q t ih=>
  obtain⟨w,g⟩:=q
  rw[find]at h
  split at h
  ·cases h;exact ht (w,f) (by simp)
  ·exact ih (λq hq=>ht q (by simp[hq])) h
theorem KD{t:List (Str×IM)}(ht:∀q∈t,Keep q.2):∀n,Keep (itemsF t n):=by
 intro n
 induction n with
 |zero=>intro p l p' r hp hv e;simp only[itemsF,Prod.mk.injEq,true_and]at e;obtain⟨rfl,rfl⟩:=e;exact⟨hp,hv,Nat.le_refl _⟩
 |succ n ih=>
  intro p l p' r hp hv e
  rw[gQ]at e
  have same:((true,p,l):Bool×Pr×List Tk)=(true,p',r)->z3o p'/\Val r/\szP p'+r.length<=szP p+l.length:=by
   intro e;simp only[Prod.mk.injEq,true_and]at e;obtain⟨rfl,rfl⟩:=e;exact⟨hp,hv,Nat.le_refl _⟩
  split at e
  ·exact same e
  ·split at e
   ·exact same e
   ·rename_i f hf
    split at e
    ·cases hX:f p (l.drop 1)with
     |mk b q=>
      obtain⟨p1,l1⟩:=q
      rw[hX]at e
      cases b with
      |false=>cases e
      |true=>
       obtain⟨_,l2,h2,e⟩:=eG (show itB p1 (aC bP l1) (λ_ l=>itemsF t n p1 l)=_ from e)
       obtain⟨a1,a2,a3⟩:=z3q ht hf _ _ _ _ hp hv.drop hX
       obtain⟨b1,b2,b3⟩:=ih _ _ _ _ a1 ((aP _).val a2 h2) e
       have:=di h2
       have:(l.drop 1).length<=l.length:=by rw[List.length_drop];omega
       exact⟨b1,b2,by omega⟩
    ·exact same e
theorem Zp:∀q∈decls,Keep q.2:=by
 intro q hq
 simp only[decls,List.mem_cons,List.not_mem_nil,or_false]at hq
 rcases hq with rfl |rfl |rfl |rfl
 ·exact Zl
 ·exact Zm
 ·exact z3p
 ·exact Zo
theorem Zq:∀q∈stmts,Keep q.2:=by
 intro q hq
 simp only[stmts,List.mem_cons,List.not_mem_nil,or_false]at hq
 rcases hq with rfl |rfl |rfl |rfl
 ·exact KC (k:=1) (by decide)
 ·exact KC (k:=2) (by decide)
 ·exact KC (k:=3) (by decide)
 ·exact KC (k:=4) (by decide)
theorem zy{α:Type}{x:Bool×Pr×List Tk}{g:Pr->PM α}{y:α}{r:List Tk}(h:seqP x g=(some y,r)):∃p l,x=(true,p,l)/\g p l=(some y,r):=by
 obtain⟨b,p,l⟩:=x
 cases b with
 |false=>cases h
 |true=>exact⟨p,l,rfl,h⟩
theorem z3r{l r:List Tk}{p:Pr}(hv:Val l)(e:mr l=(some p,r)):z3o p/\Val r/\szP p+1+r.length<=l.length:=by
 rw[Za]at e
 obtain⟨_,l1,h1,e⟩:=af e
 obtain⟨s,l2,h2,e⟩:=af e
 obtain⟨_,l3,h3,e⟩:=af e
 obtain⟨a,l4,h4,e⟩:=af e
 obtain⟨_,l5,h5,e⟩:=af e
 obtain⟨t,l6,h6,e⟩:=af e
 obtain⟨_,l7,h7,e⟩:=af e
 obtain⟨p1,l8,h8,e⟩:=zy e
 obtain⟨p2,l9,h9,e⟩:=zy e
 obtain⟨_,l10,h10,e⟩:=af e
 simp only[Prod.mk.injEq,Option.some.injEq]at e
 obtain⟨rfl,rfl⟩:=e
 have v1:=(aP _).val hv h1
 have v2:=gK.val v1 h2
 have v3:=(aP _).val v2 h3
 have v4:=mW.val v3 h4
 have v5:=(aP _).val v4 h5
 have v6:=Dw.val v5 h6
 have v7:=(aP _).val v6 h7
 have n6:l6.length<=l5.length:=(Dw.act h6).le
 have ht:t = -1\/FV t:=by
  split at h6
  ·exact .inr (Ip v5 h6)
  ·obtain⟨_,l11,h11,h6⟩:=af h6
   simp only[Prod.mk.injEq,Option.some.injEq]at h6
   exact .inl h6.1.symm
 have hp:z3o ⟨s,a,t,[],[],[],[],[]⟩:=⟨zt v1 h2,Ip v3 h4,ht,by simp,by simp,by simp,by simp,by simp⟩
 obtain⟨b1,b2,b3⟩:=KD Zp _ _ _ _ _ hp v7 h8
 obtain⟨c1,c2,c3⟩:=KD Zq _ _ _ _ _ b1 b2 h9
 refine⟨c1,(aP _).val c2 h10,?_⟩
 have:=di h1;have:=pI h2;have:=di h3;have:=zx h4;have:=di h5;have:=di h7;have:=di h10
 have h0:szP ⟨s,a,t,[],[],[],[],[]⟩=0:=rfl
 omega
end Go.Fw.Sy
