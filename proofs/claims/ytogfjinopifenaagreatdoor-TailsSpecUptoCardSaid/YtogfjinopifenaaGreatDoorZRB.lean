/- Package ranges in plain words: a whole processor. -/
import Derived.Test.YtogfjinopifenaaGreatDoorZRA
import Derived.Test.YtogfjinopifenaaGreatDoorZPX
set_option linter.unusedSectionVars false
set_option linter.unusedSimpArgs false
set_option linter.unusedVariables false
namespace Go.Fw.Rg
open Go.Fw Go.Fw.Ref15
variable [GlobInt]
structure GoodP(p:Pr):Prop where
 sm:p.Small
 hn:∀s∈p.stmts,Ref15.nodes s.x<=1073741824
 hT:∀t∈p.tables,t.values.length<=1073741824
theorem GoodP.hl{p:Pr}(g:GoodP p):p.stmts.length<=1073741824:=by have:=g.sm.stmts;omega
def resE(p:Pr):Int:=if(Nam.resolveC p).2 != 0 then(Nam.resolveC p).2 else if samePr p (Nam.resolveC p).1 then 0 else 150
theorem find_lt{s:Str}:∀{l:List Str} (i:Int),findFrom s l i<i+l.length\/findFrom s l i = -1
 | [],i=>.inr rfl
 |x::r,i=>by
  simp[findFrom]
  split
  ·grind
  ·rcases find_lt (s:=s) (l:=r) (i+1)with h |h<;>grind
theorem find_lt0{s:Str}{l:List Str}(h:0<=find l s):find l s<l.length:=by
 rcases find_lt (s:=s) (l:=l) 0 with q |q<;>grind[find]
theorem given_lt{s:Str}:∀{l:List Sm} (i:Int),givenFrom s l i<i+l.length\/givenFrom s l i = -1
 | [],i=>.inr rfl
 |x::r,i=>by
  simp[givenFrom]
  split
  ·grind
  ·rcases given_lt (s:=s) (l:=r) (i+1)with h |h<;>grind
theorem given_lt0{p:Pr}{s:Str}{b:Nat}(h:0<=given p s b):given p s b<b:=by
 rcases given_lt (s:=s) (l:=p.stmts.take b) 0 with q |q<;>grind[given]
theorem formeds_mem:∀{l:List Ex},formeds l=true->∀y∈l,formed y=true
 |x::r,h,y,hy=>by
  simp[formeds]at h
  rcases List.mem_cons.1 hy with rfl |hy
  ·exact h.1
  ·exact formeds_mem h.2 y hy
theorem numbersL_mem:∀{l:List Ex},numbersL l=true->∀y∈l,numbers y=true
 |x::r,h,y,hy=>by
  simp[numbersL]at h
  rcases List.mem_cons.1 hy with rfl |hy
  ·exact h.1
  ·exact numbersL_mem h.2 y hy
theorem resolvedL_mem{p:Pr}{b:Nat}:∀{l:List Ex},resolvedL p b l=(l,true)->∀y∈l,resolved p b y=(y,true)
 |x::r,h,y,hy=>by
  simp[resolvedL]at h
  rcases List.mem_cons.1 hy with rfl |hy
  ·grind
  ·exact resolvedL_mem (Prod.ext h.1.2 h.2.2) y hy
theorem wfL_of{p:Pr}{n:Nat}:∀{l:List Ex},(∀y∈l,wfX p n y=true)->wfL p n l=true
 | [],_=>rfl
 |x::r,h=>by
  simp[wfL]
  exact⟨h x (by simp),wfL_of λy hy=>h y (by simp[hy])⟩
theorem parts_kinds{k:Int}(h:0<=Ref15.parts k):1<=k/\k<=19:=by
 grind[Ref15.parts]
theorem wf_ex{p:Pr}(ht:p.tables.all tableOk=true)(b:Nat):∀x:Ex,formed x=true->numbers x=true->resolved p b x=(x,true)->wfX p b x=true:=by
 refine Ex.ind λx ih hf hn hr=>?_
 rw[formed_eq]at hf
 rw[numbers_eq]at hn
 rw[resolved_eq]at hr
 simp at hf hn
 obtain⟨⟨⟨⟨f1,f2⟩,f3⟩,f4⟩,f5⟩:=hf
 obtain⟨⟨n1,n2⟩,n3⟩:=hn
 rw[wfX_eq]
 have hk:=parts_kinds (k:=x.kind) (by omega)
 simp only[Bool.and_eq_true,beq_iff_eq]
 refine⟨⟨f1,?_⟩,?_⟩
 ·by_cases hN:(named x.kind&&x.kind != 8&&x.kind != 9)=true
  ·rw[if_pos hN]at hr
   rw[value]at hr
   simp only at hr
   split at hr
   ·split at hr
    ·have e1:x.kind=5:=congrArg (λq=>q.1.kind) hr.symm
     have e2:given p x.name b=x.index:=congrArg (λq=>q.1.index) hr
     have e3:decide (given p x.name b>=0)=true:=congrArg Prod.snd hr
     have e3:=of_decide_eq_true e3
     have e4:=given_lt0 (b:=b) e3
     rw[ownW,e1]
     simp_all
    ·have e1:x.kind=4:=congrArg (λq=>q.1.kind) hr.symm
     have e2:find (bounds p.states) x.name=x.index:=congrArg (λq=>q.1.index) hr
     have e3:decide (find (bounds p.states) x.name>=0)=true:=congrArg Prod.snd hr
     have e3:=of_decide_eq_true e3
     have e4:=find_lt0 e3
     rw[ownW,e1]
     rw[e2]at e3 e4;simp only[bounds,List.length_map]at e4
     simp_all
   ·have e1:x.kind=3:=congrArg (λq=>q.1.kind) hr.symm
    have e2:find (bounds p.params) x.name=x.index:=congrArg (λq=>q.1.index) hr
    have e3:decide (find (bounds p.params) x.name>=0)=true:=congrArg Prod.snd hr
    have e3:=of_decide_eq_true e3
    have e4:=find_lt0 e3
    rw[ownW,e1]
    rw[e2]at e3 e4;simp only[bounds,List.length_map]at e4
    simp_all
  ·rw[if_neg hN]at hr
   have e2:exIndex p x=x.index:=congrArg (λq=>q.1.index) hr
   have e3:(decide (exIndex p x>=0)&&(resolvedL p b x.l).2)=true:=congrArg Prod.snd hr
   simp only[Bool.and_eq_true,decide_eq_true_eq]at e3
   have e3:=e3.1
   rw[exIndex]at e2 e3
   rw[ownW]
   rcases Nam.kinds_cases hk with h |h |h |h |h |h |h |h |h |h |h |h |h |h |h |h |h |h |h<;>rw[h]at hN n2 e2 e3 ⊢ <;> first
    |exact absurd (by decide) hN
    |rfl
    |skip
   ·simp;omega
   ·grind[find_lt0,Ref15.lines,List.length_map]
   ·simp only[(by decide:((9:Int)==9)=true),if_true]at e2 e3
    have e4:=find_lt0 e3
    rw[e2]at e3 e4;simp only[Ref15.tables,List.length_map]at e4
    have hm:p.tables.getD x.index.toNat Tb.none∈p.tables:=by
     simp_all
    have hq:=List.all_eq_true.1 ht _ hm
    simp only[tableOk,Bool.not_eq_true',Bool.or_eq_false_iff,decide_eq_false_iff_not]at hq
    grind
   simp_all
 ·refine wfL_of λy hy=>ih y hy (formeds_mem f5 y hy) (numbersL_mem n3 y hy) ?_
  by_cases hN:(named x.kind&&x.kind != 8&&x.kind != 9)=true
  ·exfalso
   have:Ref15.parts x.kind=0:=by
    simp only[named,Bool.and_eq_true,bne_iff_ne]at hN
    rcases Nam.kinds_cases hk with h |h |h |h |h |h |h |h |h |h |h |h |h |h |h |h |h |h |h<;>rw[h]at hN ⊢ <;> first |rfl |(exfalso;simp at hN;done)
   simp_all
  ·rw[if_neg hN]at hr
   have e1:(resolvedL p b x.l).1=x.l:=congrArg (λq=>q.1.l) hr
   have e3:(decide (exIndex p x>=0)&&(resolvedL p b x.l).2)=true:=congrArg Prod.snd hr
   simp only[Bool.and_eq_true]at e3
   grind[resolvedL_mem,Prod.ext]
theorem resolveL_cons{p:Pr}{s:Sm}{r l:List Sm}{i:Nat}{out:Bool}(h:resolveL p (s::r) i out = .ok l):(resolved p i s.x).2=true/\0<=smIndex p s/\again p i s=false/\∃t,resolveL p r (i+1) (s.kind==4) = .ok t/\l=⟨s.kind,s.name,smIndex p s,(resolved p i s.x).1⟩::t:=by
 rw[resolveL]at h
 grind
theorem wf_stmts{p:Pr}(ht:p.tables.all tableOk=true):∀(r:List Sm) (i:Nat) (out:Bool),r.all stmtOk=true->(r.all λs=>numbers s.x)=true->resolveL p r i out = .ok r->wfSL p i r=true
 | [],_,_,_,_,_=>rfl
 |s::r,i,out,h1,h2,h3=>by
  simp only[List.all_cons,Bool.and_eq_true]at h1 h2
  obtain⟨g1,g2,_,t,g3,g4⟩:=resolveL_cons h3
  simp at g4
  obtain⟨g4,rfl⟩:=g4
  have e1:smIndex p s=s.index:=congrArg Sm.index g4.symm
  have e2:(resolved p i s.x).1=s.x:=congrArg Sm.x g4.symm
  simp only[wfSL,wfS,Bool.and_eq_true]
  have hf:formed s.x=true:=by
   grind[stmtOk,Bool.not_eq_true',Bool.not_eq_false']
  refine⟨⟨wf_ex ht i s.x hf h2.1 (Prod.ext e2 g1),?_,?_⟩,wf_stmts ht r (i+1) _ h1.2 h2.2 g3⟩
  ·cases hk:s.kind==2 with
   |false=>rfl
   |true=>
    have:s.kind=2:=by simpa using hk
    rw[smIndex,this]at e1 g2
    grind[find_lt0,bounds,List.length_map]
  ·cases hk:s.kind==3 with
   |false=>rfl
   |true=>
    have:s.kind=3:=by simpa using hk
    rw[smIndex,this]at e1 g2
    grind[find_lt0,Ref15.lines,List.length_map]
theorem btw{lo hi:Int}(h:between lo hi=true):-2147483648<=lo/\lo<=hi/\hi<=2147483647:=by
 simp[between]at h;omega
theorem rng_of{p:Pr}(h:ranged p=true):Rng p:=by
 simp[ranged]at h
 obtain⟨⟨⟨⟨h1,h2⟩,h3⟩,h4⟩,_⟩:=h
 exact⟨λb hb=>btw (h1 b hb),λb hb=>btw (h2 b hb),λb hb=>btw (h3 b hb),λt ht v hv=>by have:=btw (h4 t ht v hv);omega⟩
structure Res(p:Pr):Prop where
 fo:Formed p=true
 li:limited p=true
 nm:nameOk p.name=true
 dn:(Declared p).all nameOk=true
 un:uniqueFrom (Declared p) (Declared p) 0=true
 ra:ranged p=true
 ru:resolveL p p.stmts 0 false = .ok p.stmts
variable {p : Pr}
theorem fin_ok{e:Except Int (List Sm)}(h:Ref15.fin p [] e=(p,0))(hne:∀n,e = .error n->n≠0):e = .ok p.stmts:=by
 cases e with
 |error n=>exact absurd (congrArg Prod.snd h) (hne n rfl)
 |ok l=>
  have:=congrArg (λq=>q.1.stmts) h
  simp[Ref15.fin]at this
  rw[this]
theorem runL_ne:∀(r:List Sm) (i:Nat) (out:Bool) (n:Int),resolveL p r i out = .error n->n≠0
 | [],i,out,n,h=>by
  grind[resolveL]
 |s::r,i,out,n,h=>by
  rw[resolveL]at h
  split at h<;>try(cases h;decide)
  split at h<;>try(cases h;decide)
  split at h
  ·cases h;decide
  ·split at h
   ·rename_i q
    cases h
    exact runL_ne r _ _ _ q
   ·cases h
theorem res_iff:Resolve p=(p,0)↔Res p:=by
 constructor
 ·intro h
  have h0:=congrArg Prod.snd h
  rw[Resolve]at h h0
  split at h
  ·simp_all
  ·rename_i q1;split at h
   ·simp_all
   ·rename_i q2;split at h
    ·simp_all
    ·rename_i q3;split at h
     ·simp_all
     ·rename_i q4;split at h
      ·simp_all
      ·rename_i q5;split at h
       ·simp_all
       ·rename_i q6
        exact⟨by simpa using q1,by simpa using q2,by simpa using q3,by simpa using q4,by simpa using q5,by simpa using q6,fin_ok h (runL_ne _ _ _)⟩
 ·intro h
  rw[Resolve,h.fo,h.li,h.nm,h.dn,h.un,h.ra,h.ru]
  simp[Ref15.fin]
theorem Res.tb(h:Res p):p.tables.all tableOk=true:=by
 have:=h.li;rw[limited_eq]at this;simp_all
theorem Res.rng(h:Res p):Rng p:=rng_of h.ra
theorem Res.wf(h:Res p):wfSL p 0 p.stmts=true:=by
 refine wf_stmts h.tb _ _ _ h.fo ?_ h.ru
 have:=h.ra;simp only[ranged,Bool.and_eq_true]at this;exact this.2
theorem resE_zero(h:resE p=0):Nam.resolveC p=(p,0):=by
 grind[resE,samePr_iff]
theorem resE_res(h:resE p=0):Res p:=res_iff.1 (by rw[<-Nam.resolve_same];exact resE_zero h)
theorem res_resE(h:Res p):resE p=0:=by
 have:=res_iff.2 h
 rw[<-Nam.resolve_same]at this
 rw[resE,this]
 simp[(samePr_iff p p).2 rfl]
end Go.Fw.Rg
namespace Go.Fw
def lkI(k:Int):List (Int×Int)->Option Int
 | []=>none
 |(a,v)::r=>if k==a then some v else lkI k r
abbrev iiC(q:Int×Int):D×D:=(.i q.1,.i q.2)
theorem keySame_i(a b:Int):keySame (.i a) (.i b)=(a==b):=rfl
theorem mget_lkI(k:Int):∀l:List (Int×Int),mget (.i k) (l.map iiC)=(lkI k l).map .i
 | []=>rfl
 |(a,v)::r=>by
  simp only[List.map_cons,mget,keySame_i,lkI]
  cases k==a with
  |true=>rfl
  |false=>exact mget_lkI k r
theorem opt_lkI[GlobInt]{k:Int}{l:List (Int×Int)}{M:List (D×D)}{f:D->Prop}{g:Prop}(hM:M=l.map iiC)(h1:∀n,lkI k l=some n->f (.i n))(h2:lkI k l=none->g):OptBr (mget (.i k) M) f g:=by
 cases hk:lkI k l with
 |none=>grind[Nam.opt_none,mget_lkI]
 |some n=>grind[Nam.opt_some,mget_lkI]
end Go.Fw
namespace Go.Fw.Rg
open Go.Fw Go.Fw.Ref15
variable [GlobInt]
def needL:List (Int×Int):=[(1,0),(3,0),(4,0),(5,0),(6,1),(7,1),(8,1),(9,1),(10,1),(13,1),(14,1),(18,1),(11,2),(12,2),(15,2),(16,2),(17,2),(19,4)]
def manyL(p:Pr):List (Int×Int):=[(3,p.params.length),(4,p.states.length),(8,p.lines.length),(9,p.tables.length),(5,p.stmts.length)]
def manyW(p:Pr):List (Int×Int):=[(3,(p.params.map Bd.cs).length),(4,(p.states.map Bd.cs).length),(8,(p.lines.map Ln.cs).length),(9,(p.tables.map Tb.cs).length),(5,(p.stmts.map Sm.cs).length)]
theorem opt_many{p:Pr}{k:Int}{M:List (D×D)}{f:D->Prop}{g:Prop}(hM:M=(manyW p).map iiC)(h1:∀n,lkI k (manyL p)=some n->f (.i n))(h2:lkI k (manyL p)=none->g):OptBr (mget (.i k) M) f g:=by
 grind[manyW,manyL,opt_lkI]
theorem many5{p:Pr}{k m:Int}(h:lkI k (manyL p)=some m)(h5:(k==5)=true):m=p.stmts.length:=by
 have:k=5:=by simpa using h5
 subst this
 exact(Option.some.inj h).symm
theorem many5n{p:Pr}{k:Int}(h:lkI k (manyL p)=none)(h5:(k==5)=true):False:=by
 have:k=5:=by simpa using h5
 subst this
 cases h
theorem css_h{l:List Ex}{n most:Int}{b:Bool}(h:(bif ((Ex.css l).length:Int) != n then true else decide (most<1))=b):(bif (l.length:Int) != n then true else decide (most<1))=b:=by grind[Ex.css_len]
def inM(i:Int):Option Int->Bool
 |none=>true
 |some m=>!(bif decide (i<0)then true else decide (i>=m))
theorem inM_some{i m:Int}{b:Bool}(h:(bif decide (i<0)then true else decide (i>=m))=b):inM i (some m) = !b:=by rw[inM,h]
def ok0(p:Pr)(k i m:Int):Bool:=if k==1 then(bif decide (0<=m)then decide (m<=2147483648)else false)else if k==18 then(bif decide (1<=m)then decide (m<=2147483648)else false)else if k==5 then(p.stmts.getD i.toNat Sm.none).kind==1 else true
mutual
def fitsM(p:Pr):Ex->Int->Int×Bool
 | .mk k _ i m l,most=>match lkI k needL with
  |none=>(0,false)
  |some need=>if(bif (l.length:Int) != need then true else decide (most<1))=true then(0,false)else if inM i (lkI k (manyL p))=false then(0,false)else fitsL p l most 1 (ok0 p k i m)
def fitsL(p:Pr):List Ex->Int->Int->Bool->Int×Bool
 | [],_,n,ok=>(n,ok)
 |y::r,most,n,ok=>if(!(bif ok then(fitsM p y (most-n)).2 else false))=true then(0,false)else fitsL p r most (n+(fitsM p y (most-n)).1) (bif ok then(fitsM p y (most-n)).2 else false)
end
theorem fitsM_eq(p:Pr)(x:Ex)(most:Int):fitsM p x most=match lkI x.kind needL with
  |none=>(0,false)
  |some need=>if(bif (x.l.length:Int) != need then true else decide (most<1))=true then(0,false)else if inM x.index (lkI x.kind (manyL p))=false then(0,false)else fitsL p x.l most 1 (ok0 p x.kind x.index x.n):=by cases x;rfl
theorem fits_no{p:Pr}{x:Ex}{most:Int}(h:lkI x.kind needL=none):fitsM p x most=(0,false):=by rw[fitsM_eq,h]
theorem fits_n1{p:Pr}{x:Ex}{most need:Int}(h:lkI x.kind needL=some need)(h2:(bif (x.l.length:Int) != need then true else decide (most<1))=true):fitsM p x most=(0,false):=by
 rw[fitsM_eq];simp_all
theorem fits_n2{p:Pr}{x:Ex}{most need:Int}(h:lkI x.kind needL=some need)(h2:(bif (x.l.length:Int) != need then true else decide (most<1))=false)(h3:inM x.index (lkI x.kind (manyL p))=false):fitsM p x most=(0,false):=by
 rw[fitsM_eq];simp_all
theorem fits_go{p:Pr}{x:Ex}{most need:Int}(h:lkI x.kind needL=some need)(h2:(bif (x.l.length:Int) != need then true else decide (most<1))=false)(h3:inM x.index (lkI x.kind (manyL p))=true):fitsM p x most=fitsL p x.l most 1 (ok0 p x.kind x.index x.n):=by
 rw[fitsM_eq];grind
theorem most_ge{l:List Ex}{nd most:Int}(h:(bif ((Ex.css l).length:Int) != nd then true else decide (most<1))=false):1<=most:=by
 simp_all
theorem fits_start{p:Pr}{x:Ex}{most nd:Int}{o:Option Int}{b:Bool}(hnd:lkI x.kind needL=some nd)(hmd:lkI x.kind (manyL p)=o)(h:(bif ((Ex.css x.l).length:Int) != nd then true else decide (most<1))=false)(h2:inM x.index o=true)(h3:ok0 p x.kind x.index x.n=b):fitsM p x most=fitsL p x.l most 1 b:=by
 rw[fits_go hnd (css_h h) (by simp_all),h3]
theorem fits_out{p:Pr}{x:Ex}{most nd:Int}{o:Option Int}(hnd:lkI x.kind needL=some nd)(hmd:lkI x.kind (manyL p)=o)(h:(bif ((Ex.css x.l).length:Int) != nd then true else decide (most<1))=false)(h2:inM x.index o=false):fitsM p x most=(0,false):=by
 rw[fits_n2 hnd (css_h h) (by simp_all)]
theorem ok0_1{p:Pr}{k i m:Int}(h:(k==1)=true):ok0 p k i m=(bif decide (0<=m)then decide (m<=2147483648)else false):=by simp[ok0,h]
theorem ok0_2{p:Pr}{k i m:Int}(h:(k==1)=false)(h2:(k==18)=true):ok0 p k i m=(bif decide (1<=m)then decide (m<=2147483648)else false):=by simp[ok0,h,h2]
theorem ok0_3{p:Pr}{k i m:Int}(h:(k==1)=false)(h2:(k==18)=false)(h3:(k==5)=true):ok0 p k i m=((p.stmts.getD i.toNat Sm.none).kind==1):=by simp[ok0,h,h2,h3]
theorem ok0_4{p:Pr}{k i m:Int}(h:(k==1)=false)(h2:(k==18)=false)(h3:(k==5)=false):ok0 p k i m=true:=by simp[ok0,h,h2,h3]
theorem idx5{p:Pr}{k i m:Int}(h:lkI k (manyL p)=some m)(h5:(k==5)=true)(h2:(bif decide (i<0)then true else decide (i>=m))=false):0<=i/\i<p.stmts.length:=by
 grind[many5]
theorem fitsL_no{p:Pr}{y:Ex}{r:List Ex}{most n:Int}{ok:Bool}(h:(!(bif ok then(fitsM p y (most-n)).2 else false))=true):fitsL p (y::r) most n ok=(0,false):=by rw[fitsL,if_pos h]
theorem fitsL_go{p:Pr}{y:Ex}{r:List Ex}{most n:Int}{ok:Bool}(h:(!(bif ok then(fitsM p y (most-n)).2 else false))=false):fitsL p (y::r) most n ok=fitsL p r most (n+(fitsM p y (most-n)).1) (bif ok then(fitsM p y (most-n)).2 else false):=by rw[fitsL,if_neg (by rw[h];decide)]
theorem bifT{b c:Bool}(h:(!(bif b then c else false))=false):b=true/\c=true:=by simp_all
theorem fits_rng(p:Pr):∀(x:Ex) (most:Int),most<=512->0<=(fitsM p x most).1/\(fitsM p x most).1<=512/\((fitsM p x most).2=true->1<=(fitsM p x most).1/\(fitsM p x most).1<=most):=by
 refine Ex.ind λx ih most hm=>?_
 have hL:∀(l:List Ex),(∀y∈l,y∈x.l)->∀(n:Int) (ok:Bool),1<=n->n<=most->0<=(fitsL p l most n ok).1/\(fitsL p l most n ok).1<=512/\((fitsL p l most n ok).2=true->1<=(fitsL p l most n ok).1/\(fitsL p l most n ok).1<=most):=by
  intro l
  induction l with
  |nil=>grind[fitsL]
  |cons y r ihr=>
   intro hl n ok h1 h2
   cases hb:!(bif ok then(fitsM p y (most-n)).2 else false)with
   |true=>rw[fitsL_no hb];simp
   |false=>
    rw[fitsL_go hb]
    obtain⟨a,b⟩:=bifT hb
    have:=ih y (hl y (by simp)) (most-n) (by omega)
    have h3:=this.2.2 b
    exact ihr (λz hz=>hl z (by simp[hz])) _ _ (by omega) (by omega)
 cases h:lkI x.kind needL with
 |none=>rw[fits_no h];simp
 |some need=>
  cases h2:(bif (x.l.length:Int) != need then true else decide (most<1))with
  |true=>rw[fits_n1 h h2];simp
  |false=>
   cases h3:inM x.index (lkI x.kind (manyL p))with
   |false=>rw[fits_n2 h h2 h3];simp
   |true=>
    rw[fits_go h h2 h3]
    have:1<=most:=by
     simp_all
    exact hL x.l (λ_ h=>h) 1 _ (Int.le_refl _) this
def parts16(k:Int):Int:=
 if k==1 || k==3 || k==4 || k==5 then 0
 else if k==6 || k==7 || k==8 || k==9 || k==10 || k==13 || k==14 || k==18 then 1
 else if k==11 || k==12 || k==15 || k==16 || k==17 then 2
 else if k==19 then 4 else -1
def own16(p:Pr)(x:Ex):Bool:=
 if((x.l.length:Int) != parts16 x.kind)=true then false
 else if x.kind==1 then(bif decide (x.n>=0)then decide (x.n<=2147483648)else false)
 else if x.kind==18 then(bif decide (x.n>=1)then decide (x.n<=2147483648)else false)
 else if x.kind==3 then(bif decide (x.index>=0)then decide (x.index<p.params.length)else false)
 else if x.kind==4 then(bif decide (x.index>=0)then decide (x.index<p.states.length)else false)
 else if x.kind==8 then(bif decide (x.index>=0)then decide (x.index<p.lines.length)else false)
 else if x.kind==9 then(bif decide (x.index>=0)then decide (x.index<p.tables.length)else false)
 else if x.kind==5 then(bif (bif decide (x.index>=0)then decide (x.index<p.stmts.length)else false)then(p.stmts.getD x.index.toNat Sm.none).kind==1 else false)
 else true
mutual
def countM(p:Pr):Ex->Int->Int
 | .mk k nm i m l,most=>if(bif decide (most<1)then true else !own16 p (.mk k nm i m l))=true then -1 else countL p l most 1
def countL(p:Pr):List Ex->Int->Int->Int
 | [],_,n=>n
 |y::r,most,n=>if countM p y (most-n)<0 then -1 else countL p r most (n+countM p y (most-n))
end
theorem countM_eq(p:Pr)(x:Ex)(most:Int):countM p x most=if(bif decide (most<1)then true else !own16 p x)=true then -1 else countL p x.l most 1:=by cases x;rfl
theorem count_rng(p:Pr):∀(x:Ex) (most:Int),countM p x most = -1\/(1<=countM p x most/\countM p x most<=most):=by
 refine Ex.ind λx ih most=>?_
 have hL:∀(l:List Ex),(∀y∈l,y∈x.l)->∀(n:Int),1<=n->n<=most->countL p l most n = -1\/(1<=countL p l most n/\countL p l most n<=most):=by
  intro l
  induction l with
  |nil=>grind[countL]
  |cons y r ihr=>
   intro hl n h1 h2
   rw[countL]
   grind
 rw[countM_eq]
 grind
theorem parts16_lk(k:Int):lkI k needL=if parts16 k<0 then none else some (parts16 k):=by
 by_cases hk:1<=k/\k<=19
 ·rcases Nam.kinds_cases hk with h |h |h |h |h |h |h |h |h |h |h |h |h |h |h |h |h |h |h<;>subst h<;>rfl
 ·have h1:∀n:Int,1<=n->n<=19->(k==n)=false:=λn a b=>by
   grind
  simp[parts16,lkI,needL,h1]
theorem own_fits{p:Pr}{x:Ex}{most:Int}(hm:1<=most):(∃n,lkI x.kind needL=some n/\(bif (x.l.length:Int) != n then true else decide (most<1))=false/\inM x.index (lkI x.kind (manyL p))=true/\ok0 p x.kind x.index x.n=true)↔own16 p x=true:=by
 have hm':decide (most<1)=false:=by simp;omega
 rw[hm',parts16_lk]
 by_cases hk:1<=x.kind/\x.kind<=19
 ·rcases Nam.kinds_cases hk with h |h |h |h |h |h |h |h |h |h |h |h |h |h |h |h |h |h |h<;>rw[own16,h]<;>simp[parts16,inM,manyL,lkI,ok0]<;>(try omega)
 ·have h1:∀n:Int,1<=n->n<=19->(x.kind==n)=false:=λn a b=>by
   grind
  have:parts16 x.kind = -1:=by simp[parts16,h1]
  grind[own16]
theorem count_fits(p:Pr):∀(x:Ex) (most:Int),((fitsM p x most).2=true->countM p x most=(fitsM p x most).1)/\((fitsM p x most).2=false->countM p x most = -1):=by
 refine Ex.ind λx ih most=>?_
 have hL:∀(l:List Ex),(∀y∈l,y∈x.l)->∀(n:Int),((fitsL p l most n true).2=true->countL p l most n=(fitsL p l most n true).1)/\((fitsL p l most n true).2=false->countL p l most n = -1):=by
  intro l
  induction l with
  |nil=>intro _ n;rw[fitsL,countL];simp
  |cons y r ihr=>
   intro hl n
   have:=ih y (hl y (by simp)) (most-n)
   rw[countL]
   cases hb:(fitsM p y (most-n)).2 with
   |false=>
    rw[fitsL_no (by rw[hb];rfl),this.2 hb]
    simp
   |true=>
    rw[fitsL_go (by rw[hb];rfl),this.1 hb,hb]
    split
    ·have hq:∀z:Ex,∀m,(fitsM p z m).2=true->1<=(fitsM p z m).1:=by
      refine Ex.ind λz ihz m hz=>?_
      have hLL:∀(l:List Ex),(∀y∈l,y∈z.l)->∀(n:Int) (ok:Bool),1<=n->(fitsL p l m n ok).2=true->1<=(fitsL p l m n ok).1:=by
       intro l
       induction l with
       |nil=>grind[fitsL]
       |cons y r ihr=>
        intro hl n ok h1 h2
        cases hb:!(bif ok then(fitsM p y (m-n)).2 else false)with
        |true=>rw[fitsL_no hb]at h2;simp_all
        |false=>
         rw[fitsL_go hb]at h2 ⊢
         grind
      rw[fitsM_eq]at hz ⊢
      grind
     grind
    simp_all
 rw[countM_eq]
 by_cases hm:most<1
 ·have hf:fitsM p x most=(0,false):=by
   cases h:lkI x.kind needL with
   |none=>exact fits_no h
   |some n=>grind[fits_n1]
  simp_all
 ·have hm':1<=most:=by omega
  rw[decide_eq_false hm]
  cases ho:own16 p x with
  |true=>
   obtain⟨n,h1,h2,h3,h4⟩:=(own_fits hm').2 ho
   rw[fits_go h1 h2 h3,h4]
   simp_all
  |false=>
   have hn:¬∃n,lkI x.kind needL=some n/\(bif (x.l.length:Int) != n then true else decide (most<1))=false/\inM x.index (lkI x.kind (manyL p))=true/\ok0 p x.kind x.index x.n=true:=by
    rw[own_fits hm',ho];simp
   refine⟨λh=>?_,λ_=>rfl⟩
   cases h1:lkI x.kind needL with
   |none=>rw[fits_no h1]at h;simp_all
   |some n=>
    cases h2:(bif (x.l.length:Int) != n then true else decide (most<1))with
    |true=>rw[fits_n1 h1 h2]at h;simp_all
    |false=>
     cases h3:inM x.index (lkI x.kind (manyL p))with
     |false=>rw[fits_n2 h1 h2 h3]at h;simp_all
     |true=>
      rw[fits_go h1 h2 h3]at h
      have h4:ok0 p x.kind x.index x.n=false:=by
       simp_all
      rw[h4]at h
      cases hl:x.l with
      |nil=>rw[hl,fitsL]at h;simp_all
      |cons y r=>rw[hl,fitsL_no rfl]at h;simp_all
theorem fits_wf{p:Pr}(ht:p.tables.all tableOk=true):∀(x:Ex) (most:Int),(fitsM p x most).2=true->wfX p p.stmts.length x=true:=by
 refine Ex.ind λx ih most h=>?_
 have hm:1<=most:=by
  rcases count_rng p x most with q |q<;>try omega
  have:=(count_fits p x most).1 h
  rw[countM_eq]at q this
  split at q
  ·rename_i hq
   cases hc:decide (most<1)with
   |false=>simpa using hc
   |true=>
    have hf:fitsM p x most=(0,false):=by
     cases h:lkI x.kind needL with
     |none=>exact fits_no h
     |some n=>grind[fits_n1]
    simp_all
  simp_all
 have ho:own16 p x=true:=by
  cases ho:own16 p x with
  |true=>rfl
  |false=>
   exfalso
   cases h1':lkI x.kind needL with
   |none=>rw[fits_no h1']at h;simp_all
   |some n=>
    cases h2':(bif (x.l.length:Int) != n then true else decide (most<1))with
    |true=>rw[fits_n1 h1' h2']at h;simp_all
    |false=>
     cases h3':inM x.index (lkI x.kind (manyL p))with
     |false=>rw[fits_n2 h1' h2' h3']at h;simp_all
     |true=>
      cases h4:ok0 p x.kind x.index x.n with
      |true=>have:=(own_fits hm).1 ⟨n,h1',h2',h3',h4⟩;simp_all
      |false=>
       rw[fits_go h1' h2' h3',h4]at h
       cases hl:x.l with
       |nil=>rw[hl,fitsL]at h;simp_all
       |cons y r=>rw[hl,fitsL_no rfl]at h;simp_all
 obtain⟨n,h1,h2,h3,h4⟩:=(own_fits hm).2 ho
 rw[fits_go h1 h2 h3,h4]at h
 have hL:∀(l:List Ex),(∀y∈l,y∈x.l)->∀(n:Int) (ok:Bool),(fitsL p l most n ok).2=true->wfL p p.stmts.length l=true:=by
  intro l
  induction l with
  |nil=>intro _ n ok _;rfl
  |cons y r ihr=>
   intro hl n ok h
   cases hb:!(bif ok then(fitsM p y (most-n)).2 else false)with
   |true=>rw[fitsL_no hb]at h;simp_all
   |false=>
    rw[fitsL_go hb]at h
    simp only[wfL,Bool.and_eq_true]
    grind
 rw[wfX_eq,hL x.l (λ_ h=>h) _ _ h,Bool.and_true]
 rw[parts16_lk]at h1
 have hne:∀i:Int,0<=i->i<p.tables.length->(tableAt p i==[])=false:=by
  intro i h0 h1
  have hm:p.tables.getD i.toNat Tb.none∈p.tables:=by
   simp_all
  have hq:=List.all_eq_true.1 ht _ hm
  simp only[tableOk,Bool.not_eq_true',Bool.or_eq_false_iff]at hq
  grind
 by_cases hk:1<=x.kind/\x.kind<=19
 ·rw[own16]at ho
  rcases Nam.kinds_cases hk with h |h |h |h |h |h |h |h |h |h |h |h |h |h |h |h |h |h |h<;>rw[h]at ho ⊢ <;> simp[parts16,Ref15.parts,ownW]at ho ⊢ <;> first
   |exact ho
   |omega
   |simp_all
   |simp_all
   |exact ho.2.1
   |simp_all
   |simp_all
   |simp_all
 ·have h1':∀n:Int,1<=n->n<=19->(x.kind==n)=false:=λn a b=>by
   grind
  have:parts16 x.kind = -1:=by simp[parts16,h1']
  simp_all
def rngT:Except Int Sp->D
 | .ok s=>.tuple [.i s.1,.i s.2,.i 0]
 | .error e=>.tuple [.i 0,.i 0,.i e]
theorem rng_step{A M:DOut->Prop}{V:Prop}{r:Except Int Sp}(hA:A (.ret (rngT r)))(h1:∀s,r = .ok s->M (.ret (.tuple [.i s.1,.i s.2,.i 0])))(h2:∀e,r = .error e->M (.ret (.tuple [.i 0,.i 0,.i e]))):(∃out,A out/\M out)\/V:=by
 refine .inl ⟨_,hA,?_⟩
 cases r with
 |ok s=>exact h1 s rfl
 |error e=>exact h2 e rfl
def halfC(a b:Int):Bool:=bif decide (IntKind.i64.wrap (IntKind.i64.wrap (a.tdiv 2)+IntKind.i64.wrap (b.tdiv 2))>2305843009213693953)then true else decide (IntKind.i64.wrap (IntKind.i64.wrap (a.tdiv 2)+IntKind.i64.wrap (b.tdiv 2)) < -2305843009213693953)
theorem half_val{a b:Int}(ha:inW a=true)(hb:inW b=true):IntKind.i64.wrap (IntKind.i64.wrap (a.tdiv 2)+IntKind.i64.wrap (b.tdiv 2))=a.tdiv 2+b.tdiv 2:=by
 grind[inW_iff,wrap_ok]
theorem half_yes{a b:Int}(ha:inW a=true)(hb:inW b=true)(h:halfC a b=true):inW (a+b)=false:=by
 rw[halfC,half_val ha hb]at h
 grind[inW]
theorem half_no{a b:Int}(ha:inW a=true)(hb:inW b=true)(h:halfC a b=false):IntKind.i64.wrap (a+b)=a+b:=by
 rw[halfC,half_val ha hb]at h
 grind[wrap_ok]
def sumW(a b:Int):Int:=if halfC a b then 0 else a+b
theorem sum_ref(a b:Int):(bif decide (a+b<=4611686018427387904)then decide (a+b >= -4611686018427387904)else false)=inW (a+b):=by
 rw[bif_and,inW,Bool.and_comm]
theorem two_ref{a b c d:Int}(ha:inW a=true)(hb:inW b=true)(hc:inW c=true)(hd:inW d=true):rngT (if(inW (a+b)&&inW (c+d))=true then .ok (sumW a b,sumW c d)else .error 160)=rngT (two (a+b) (c+d)):=by
 grind[two,sumW,half_yes]
def mulO(a b:Int):Bool:=decide (mm2 true a (IntKind.i64.wrap (0-a))>IntKind.i64.wrap ((4611686018427387904:Int).tdiv (mm2 true b (IntKind.i64.wrap (0-b)))))
theorem mulO_eq{a b:Int}(ha:inW a=true)(hb:inW b=true)(h0:b≠0):mulO a b = !inW (a * b):=by
 have hv:0<b.natAbs:=Int.natAbs_pos.2 h0
 have hq:((4611686018427387904:Int).tdiv (b.natAbs:Int))=((4611686018427387904 / b.natAbs:Nat):Int):=by
  rfl
 have hle:4611686018427387904 / b.natAbs<=4611686018427387904:=Nat.div_le_self _ _
 have hex:(mm2 true a (IntKind.i64.wrap (0-a))<=IntKind.i64.wrap ((4611686018427387904:Int).tdiv (mm2 true b (IntKind.i64.wrap (0-b)))))↔inW (a * b)=true:=by
  rw[neg_wrap ha,neg_wrap hb,mm2_abs,mm2_abs,hq,wrap_nat2 hle,Int.ofNat_le,Nat.le_div_iff_mul_le hv,inW_iff,<-Int.natAbs_mul]
  omega
 rw[mulO]
 grind
def pv(a b:Int):Int:=if inW (a * b)then a * b else 0
theorem pv_zero{a b:Int}(h:mulZ a b=true):inW (a * b)=true/\pv a b=0:=by
 have e:=mulZ_in h
 rw[pv,e];exact⟨rfl,rfl⟩
theorem prod_over{a b:Int}(ha:inW a=true)(hb:inW b=true)(h0:mulZ a b=false)(h:mulO a b=true):D.tuple [.i 0,.b false]=D.tuple [.i (pv a b),.b (inW (a * b))]:=by
 grind[mulO_eq,mulZ_no,pv]
theorem prod_fine{a b:Int}(ha:inW a=true)(hb:inW b=true)(h0:mulZ a b=false)(h:mulO a b=false):D.tuple [.i (IntKind.i64.wrap (a * b)),.b true]=D.tuple [.i (pv a b),.b (inW (a * b))]:=by
 grind[mulO_eq,pv,inW_wrap]
theorem mm2_abs_ne{b:Int}(hb:inW b=true)(h0:b≠0):mm2 true b (IntKind.i64.wrap (0-b))≠0:=by
 grind[neg_wrap,mm2_abs]
def prs(a b:Sp):List Int:=[a.1 * b.1,a.1 * b.2,a.2 * b.1,a.2 * b.2]
def foldM(t:Bool):List Int->Int->Int
 | [],m=>m
 |v::r,m=>foldM t r (mm2 t m v)
structure PrI(a b:Sp)(n:Nat)(lo hi:Int):Prop where
 ok:∀v∈(prs a b).take n,inW v=true
 lo:lo=foldM false ((prs a b).take n) 4611686018427387904
 hi:hi=foldM true ((prs a b).take n) (-4611686018427387904)
variable {n : Nat} {k i m : Int} {p : Pr} {a b : Sp} {lo hi : Int}
theorem prI_start(a b:Sp):PrI a b 0 4611686018427387904 (-4611686018427387904):=⟨λv h=>by simp at h,rfl,rfl⟩
theorem foldM_snoc(t:Bool)(v:Int):∀(l:List Int) (m:Int),foldM t (l++[v]) m=mm2 t (foldM t l m) v
 | [],m=>rfl
 |x::r,m=>by rw[List.cons_append,foldM,foldM,foldM_snoc t v r]
theorem prI_next{lo hi v:Int}(h:PrI a b n lo hi)(hv:(prs a b)[n]? = some v)(hw:inW v=true):PrI a b (n+1) (mm2 false lo v) (mm2 true hi v):=by
 have e:(prs a b).take (n+1)=(prs a b).take n++[v]:=by rw[List.take_add_one,hv];rfl
 refine⟨λw hw'=>?_,?_,?_⟩
 ·rw[e]at hw'
  rcases List.mem_append.1 hw' with q |q
  ·exact h.ok w q
  simp_all
 ·rw[e,foldM_snoc,<-h.lo]
 ·rw[e,foldM_snoc,<-h.hi]
theorem prI_end(h:PrI a b 4 lo hi):prodM a b = .ok (lo,hi):=by
 have h1:=h.ok (a.1 * b.1) (by simp[prs])
 have h2:=h.ok (a.1 * b.2) (by simp[prs])
 have h3:=h.ok (a.2 * b.1) (by simp[prs])
 have h4:=h.ok (a.2 * b.2) (by simp[prs])
 rw[prodM,h1,h2,h3,h4,h.lo,h.hi]
 grind[mm2,inW_iff,prs,foldM,min4,max4]
theorem prI_bad{v:Int}(hv:(prs a b)[n]? = some v)(hw:inW v=false):prodM a b = .error 160:=by
 have hm:v∈prs a b:=List.mem_of_getElem? hv
 rw[prodM]
 have:(inW (a.1 * b.1)&&inW (a.1 * b.2)&&inW (a.2 * b.1)&&inW (a.2 * b.2))=false:=by
  simp[prs]at hm
  grind
 rw[this];rfl
theorem prI_step{lo hi x y:Int}(h:PrI a b n lo hi)(hv:(prs a b)[n]? = some (x * y))(hw:(!inW (x * y))=false):PrI a b (n+1) (mm2 false lo (pv x y)) (mm2 true hi (pv x y)):=by
 have hw:inW (x * y)=true:=by simpa using hw
 rw[pv,if_pos hw];exact prI_next h hv hw
theorem prI_out(n:Nat){v:Int}(hv:(prs a b)[n]? = some v)(hw:(!inW v)=true):D.tuple [.i 0,.i 0,.i 160]=rngT (prodM a b):=by
 rw[prI_bad hv (by simpa using hw)];rfl
theorem prI_two{i k:Nat}(h:PrI a b (2 * i+k) lo hi/\k<=2)(hk:decide ((k:Int)<2)=false):PrI a b (2 * (i+1)) lo hi:=by
 grind
theorem prI_fin{i:Nat}(h:PrI a b (2 * i) lo hi/\i<=2)(hk:decide ((i:Int)<2)=false):D.tuple [.i lo,.i hi,.i 0]=rngT (prodM a b):=by
 have:i=2:=by grind
 subst this;rw[prI_end h.1];rfl
theorem two_cases{i:Nat}(h:decide ((i:Int)<2)=true):i=0\/i=1:=by
 grind
theorem wfS_2{i:Nat}{s:Sm}(h:wfS p i s=true)(h2:(s.kind==2)=true):0<=s.index/\s.index<p.states.length:=by
 simp[wfS,h2]at h;exact h.2.1
theorem wfS_3{i:Nat}{s:Sm}(h:wfS p i s=true)(h2:(s.kind==3)=true):0<=s.index/\s.index<p.lines.length:=by
 simp[wfS,h2]at h;exact h.2.2
theorem within_all{a b:Int}(ha:inW a=true)(hb:inW b=true):(decide (a>=((-4611686018427387904,4611686018427387904):Sp).1)&&decide (b<=((-4611686018427387904,4611686018427387904):Sp).2))=true:=by
 grind[inW_iff]
theorem gidx_int{α:Type}{f:α->List D}(d:α){l:List α}{n:Int}{q:List D->Prop}(h3:0<=n/\n<l.length)(h:q (f (l.getD n.toNat d))):∃c,(0<=n/\(l.map f)[n.toNat]? = some c)/\q c:=by
 simp_all
theorem want_idx{i:Int}(h:wantB (bif decide (i>=0)then decide (i<(n:Int))else false) true=true):0<=i/\i<n:=by
 cases hc:decide (i>=0)<;>cases hd:decide (i<(n:Int))<;>rw[hc,hd]at h<;>first |exact Bool.noConfusion h |simp_all
theorem own_k3(h:ownW p n k i m=true)(hk:(k==3)=true):0<=i/\i<p.params.length:=by
 have:k=3:=by simpa using hk
 subst this
 have h:(decide (0<=i)&&decide (i<p.params.length))=true:=h
 simpa using h
theorem own_k4(h:ownW p n k i m=true)(hk:(k==4)=true):0<=i/\i<p.states.length:=by
 have:k=4:=by simpa using hk
 subst this
 have h:(decide (0<=i)&&decide (i<p.states.length))=true:=h
 simpa using h
theorem own_k5(h:ownW p n k i m=true)(hk:(k==5)=true):0<=i/\i<n:=by
 have:k=5:=by simpa using hk
 subst this
 have h:(decide (0<=i)&&decide (i<n))=true:=h
 simpa using h
theorem own_k8(h:ownW p n k i m=true)(hk:(k==8)=true):0<=i/\i<p.lines.length:=by
 have:k=8:=by simpa using hk
 subst this
 have h:(decide (0<=i)&&decide (i<p.lines.length))=true:=h
 simpa using h
theorem own_k9(h:ownW p n k i m=true)(hk:(k==9)=true):0<=i/\i<p.tables.length/\tableAt p i ≠ []:=by
 have:k=9:=by simpa using hk
 subst this
 have h:(decide (0<=i)&&decide (i<p.tables.length) && !(tableAt p i==[]))=true:=h
 simp_all
theorem own_k18(h:ownW p n k i m=true)(hk:(k==18)=true):1<=m:=by
 have:k=18:=by simpa using hk
 subst this
 have h:(decide (1<=m)&&decide (m<=2147483648))=true:=h
 simp_all
theorem one_partx{k:Int}(c:Int)(h:(n:Int)=Ref15.parts k)(hc:Ref15.parts c=1)(hk:(k==c)=true):(0:Int)<n:=by
 simp_all
theorem two_partx{k:Int}(c:Int)(h:(n:Int)=Ref15.parts k)(hc:Ref15.parts c=2)(hk:(k==c)=true):(n:Int)=2:=by
 simp_all
theorem if_parts{k:Int}(h:(n:Int)=Ref15.parts k)(hk:(k==19)=true):(n:Int)=4:=by
 have:k=19:=by simpa using hk
 subst this;exact h
theorem tab_pos(h:ownW p n k i m=true)(hk:(k==9)=true):0<(tableAt p i).length:=List.length_pos_iff.2 (own_k9 h hk).2.2
theorem tab_len(h:ownW p n k i m=true)(hk:(k==9)=true)(hT:∀t∈p.tables,t.values.length<=1073741824):(tableAt p i).length<=9223372036854775807:=by
 grind
theorem opM_k{found l:List Sp}(c:Int)(hk:(k==c)=true):opM p found k i m l=opM p found c i m l:=by
 simp_all
theorem k19(h:ownW p n k i m=true)(h1:(k==1)=false)(h3:(k==3)=false)(h4:(k==4)=false)(h5:(k==5)=false)(h6:(k==6)=false)(h7:(k==7)=false)(h8:(k==8)=false)(h9:(k==9)=false)(h10:(k==10)=false)(h11:(k==11)=false)(h12:(k==12)=false)(h13:(k==13)=false)(h14:(k==14)=false)(h15:(k==15)=false)(h16:(k==16)=false)(h17:(k==17)=false)(h18:(k==18)=false):(k==19)=true:=by
 rcases kinds h with r |r |r |r |r |r |r |r |r |r |r |r |r |r |r |r |r |r<;>subst r<;>first |rfl |simp_all |(exact Bool.noConfusion h3) |(exact Bool.noConfusion h4) |(exact Bool.noConfusion h5) |(exact Bool.noConfusion h6) |(exact Bool.noConfusion h7) |(exact Bool.noConfusion h8) |(exact Bool.noConfusion h9) |(exact Bool.noConfusion h10) |(exact Bool.noConfusion h11) |(exact Bool.noConfusion h12) |(exact Bool.noConfusion h13) |(exact Bool.noConfusion h14) |(exact Bool.noConfusion h15) |(exact Bool.noConfusion h16) |(exact Bool.noConfusion h17) |(exact Bool.noConfusion h18)
theorem ite_err{c:Prop}[Decidable c]{a b:Except Int Sp}{e:Int}{P:Prop}(h:(if c then a else b) = .error e)(ha:a = .error e->P)(hb:b = .error e->P):P:=by
 grind
theorem find_ne{found:List Sp}:∀(x:Ex) (e:Int),findM p found x = .error e->e=160\/e=161:=by
 have hO:∀(k i m:Int) (l:List Sp) (e:Int),opM p found k i m l = .error e->e=160\/e=161:=by
  intro k i m l e h
  repeat' (refine ite_err h ?_ ?_<;>(intro h))
  all_goals first
   |(cases h;done)
   |(cases h;exact .inl rfl)
   |(cases h;exact .inr rfl)
 refine Ex.ind λx ih e h=>?_
 have hL:∀(l:List Ex),(∀y∈l,y∈x.l)->∀e,findL p found l = .error e->e=160\/e=161:=by
  intro l
  induction l with
  |nil=>grind[findL]
  |cons y r ihr=>
   grind[findL]
 grind[findM_eq]
theorem find_ne0{found:List Sp}{x:Ex}{e:Int}(h:findM p found x = .error e):(e != 0)=true:=by
 grind[find_ne]
def boundsR(p:Pr):List Sp×Int:=if(resE p != 0)=true then([],resE p)else match stmtsM p p.stmts []with
 | .ok F=>(F,0)
 | .error e=>([],e)
def boundsT:Except Int (List Sp)->D
 | .ok F=>.tuple [.sl 2 (F.map Sp.cs),.i 0]
 | .error e=>.tuple [.sl 2 [],.i e]
def boundsD(p:Pr):D:=.tuple [.sl 2 ((boundsR p).1.map Sp.cs),.i (boundsR p).2]
def fitsB(p:Pr)(x:Ex):Bool:=(fitsM p x 512).2
def intervalR(p:Pr)(x:Ex):Except Int Sp:=if((boundsR p).2 != 0)=true then .error (boundsR p).2 else if fitsB p x then findM p (boundsR p).1 x else .error 150
theorem boundsD_no{p:Pr}(h:(resE p != 0)=true):boundsD p = .tuple [.sl 2 [],.i (resE p)]:=by rw[boundsD,boundsR,if_pos h];rfl
theorem boundsD_go{p:Pr}(h:resE p=0):boundsD p=boundsT (stmtsM p p.stmts []):=by
 have h:¬((resE p != 0)=true):=by rw[h];decide
 rw[boundsD,boundsR,if_neg h]
 cases stmtsM p p.stmts []<;>rfl
theorem boundsR_ok{p:Pr}{F:List Sp}(h:resE p=0)(h2:stmtsM p p.stmts [] = .ok F):boundsR p=(F,0):=by
 have h:¬((resE p != 0)=true):=by rw[h];decide
 rw[boundsR,if_neg h,h2]
theorem boundsR_bad{p:Pr}{e:Int}(h:resE p=0)(h2:stmtsM p p.stmts [] = .error e):boundsR p=([],e):=by
 have h:¬((resE p != 0)=true):=by rw[h];decide
 rw[boundsR,if_neg h,h2]
theorem boundsR_no{p:Pr}(h:(resE p != 0)=true):boundsR p=([],resE p):=by rw[boundsR,if_pos h]
theorem stm_ne{p:Pr}:∀(r:List Sm) (fs:List Sp) (e:Int),stmtsM p r fs = .error e->e=160\/e=161
 | [],fs,e,h=>by grind[stmtsM]
 |s::r,fs,e,h=>by
  rw[stmtsM]at h
  cases hf:findM p fs s.x with
  |error e'=>grind[find_ne]
  |ok f=>
   rw[hf]at h
   simp only at h
   split at h
   ·exact stm_ne r _ e h
   simp_all
theorem stm_ne0{p:Pr}{e:Int}(h:stmtsM p p.stmts [] = .error e):(e != 0)=true:=by
 grind[stm_ne]
structure BOk(p:Pr)(F:List Sp):Prop where
 res:Res p
 run:stmtsM p p.stmts [] = .ok F
 len:F.length=p.stmts.length
 ins:InS F
theorem stm_len{p:Pr}(hR:Rng p):∀(r:List Sm) (i:Nat) (fs F:List Sp),wfSL p i r=true->fs.length=i->InS fs->stmtsM p r fs = .ok F->F.length=i+r.length/\InS F
 | [],i,fs,F,_,hl,hi,h=>by grind[stmtsM]
 |s::r,i,fs,F,hw,hl,hi,h=>by
  rw[stmtsM]at h
  cases hf:findM p fs s.x with
  |error e'=>simp_all
  |ok f=>
   rw[hf]at h
   simp only at h
   split at h
   ·have hq:=findM_in hR hi _ _ (by grind[wfSL_x]) hf
    have:=stm_len hR r (i+1) (fs++[f]) F (wfSL_next hw) (by simp[hl]) (inS_snoc hi hq) h
    grind
   ·cases h
theorem bok_of{p:Pr}{F:List Sp}(h:resE p=0)(h2:stmtsM p p.stmts [] = .ok F):BOk p F:=by
 have hr:=resE_res h
 have:=stm_len hr.rng p.stmts 0 [] F hr.wf rfl (λs hs=>by simp at hs) h2
 exact⟨hr,h2,by omega,this.2⟩
theorem boundsR_zero{p:Pr}(h:(boundsR p).2=0):BOk p (boundsR p).1/\resE p=0:=by
 cases hz:resE p != 0 with
 |true=>grind[boundsR_no]
 |false=>
  have hz:resE p=0:=by simpa using hz
  cases hs:stmtsM p p.stmts []with
  |error e=>rw[boundsR_bad hz hs]at h;grind[stm_ne0]
  |ok F=>rw[boundsR_ok hz hs];grind[bok_of]
theorem fitsB_count(p:Pr)(x:Ex):decide (countM p x 512>0)=fitsB p x:=by
 have h:=count_fits p x 512
 have hr:=fits_rng p x 512 (by decide)
 grind[fitsB]
theorem bok_wf{p:Pr}{F:List Sp}{x:Ex}(h:BOk p F)(hx:fitsB p x=true):wfX p F.length x=true:=by
 rw[h.len];exact fits_wf h.res.tb x 512 hx
theorem intR_no{p:Pr}{x:Ex}(h:((boundsR p).2 != 0)=true):intervalR p x = .error (boundsR p).2:=by rw[intervalR,if_pos h]
theorem intR_name{p:Pr}{x:Ex}(h:(boundsR p).2=0)(hx:fitsB p x=false):intervalR p x = .error 150:=by
 rw[intervalR,if_neg (by rw[h];decide),hx];rfl
theorem intR_go{p:Pr}{x:Ex}(h:(boundsR p).2=0)(hx:fitsB p x=true):intervalR p x=findM p (boundsR p).1 x:=by
 rw[intervalR,if_neg (by rw[h];decide),hx];rfl
theorem nil_bif{i n:Nat}{b:Bool}(hd:¬i<n)(h:(bif decide ((i:Int)<(n:Int))then b else false)=true):False:=hd (by simp_all)
theorem drop_ge{α:Type}{l:List α}{i:Nat}(h:l.drop i = []):¬i<l.length:=by
 simp_all
theorem css_ge{l:List Ex}{i:Nat}(h:l.drop i = []):¬i<(Ex.css l).length:=by rw[Ex.css_len];exact drop_ge h
theorem not_t{b:Bool}(h:(!b)=true):b=false:=by simp_all
theorem not_f{b:Bool}(h:(!b)=false):b=true:=by simp_all
theorem stmF_ok'{p:Pr}:∀(r:List Sm) (fs F:List Sp),stmtsM p r fs = .ok F->stmtsF p r fs=F
 | [],fs,F,h=>by cases h;rfl
 |s::r,fs,F,h=>by
  rw[stmtsM]at h
  rw[stmtsF]
  cases hf:findM p fs s.x with
  |error e'=>simp_all
  |ok f=>
   rw[hf]at h
   simp only at h ⊢
   split at h
   ·rename_i hw;rw[if_pos hw];exact stmF_ok' r _ F h
   ·cases h
theorem stmF_ok{p:Pr}{F:List Sp}(h:stmtsM p p.stmts [] = .ok F):stmtsF p p.stmts []=F:=stmF_ok' _ _ _ h
theorem samePr_comm(a b:Pr):samePr a b=samePr b a:=by
 rw[Bool.eq_iff_iff,samePr_iff,samePr_iff];exact eq_comm
theorem stI_s{p:Pr}{R:Except Int (List Sp)}{FF:List Sp}{i:Nat}{s:Sm}{r:List Sm}{fs:List Sp}(h:StI p R FF i (s::r) fs):wfS p i s=true:=by
 have:=h.wf;simp[wfSL]at this;exact this.1
mutual
def esz:Ex->Nat
 | .mk _ nm _ _ l=>1+nm.length+eszL l
def eszL:List Ex->Nat
 | []=>0
 |x::r=>esz x+eszL r
end
theorem esz_eq(x:Ex):esz x=1+x.name.length+eszL x.l:=by cases x;rfl
structure FewH(p:Pr):Prop where
 nm:p.name.length<=1073741824
 par:∀b∈p.params,b.name.length<=1073741824
 sta:∀b∈p.states,b.name.length<=1073741824
 lin:∀b∈p.lines,b.name.length<=1073741824
 tab:∀t∈p.tables,t.name.length<=1073741824/\t.values.length<=1073741824
 stm:∀s∈p.stmts,s.name.length<=1073741824/\esz s.x<=1048576
theorem good_at{p:Pr}(h:p.params.length<=4/\p.states.length<=4/\p.lines.length<=4/\p.tables.length<=4/\p.stmts.length<=4/\(p.stmts.all λs=>Nat.ble (Ref15.nodes s.x) 100)=true/\(p.tables.all λt=>Nat.ble t.values.length 100)=true):GoodP p:=by
 obtain⟨h1,h2,h3,h4,h5,h6,h7⟩:=h
 refine⟨⟨by omega,by omega,by omega,by omega,by omega⟩,λs hs=>?_,λt ht=>?_⟩
 ·have:=Nat.le_of_ble_eq_true (List.all_eq_true.1 h6 s hs);omega
 ·have:=Nat.le_of_ble_eq_true (List.all_eq_true.1 h7 t ht);omega
def Incl(s' s:Sp):Prop:=s.1<=s'.1/\s'.1<=s'.2/\s'.2<=s.2
def SubL(l' l:List Sp):Prop:=∀i:Nat,Incl (l'.getD i (0,0)) (l.getD i (0,0))
theorem incl_refl{s:Sp}(h:s.1<=s.2):Incl s s:=⟨Int.le_refl _,h,Int.le_refl _⟩
theorem subL_nil:SubL [] []:=λi=>by simp[Incl]
theorem subL_cons{a b:Sp}{l m:List Sp}(h:Incl a b)(h2:SubL l m):SubL (a::l) (b::m):=λi=>by
 cases i with
 |zero=>exact h
 |succ i=>simpa using h2 i
theorem mul_between{a b x y:Int}(h1:a<=x)(h2:x<=b):(a * y<=x * y/\x * y<=b * y)\/(b * y<=x * y/\x * y<=a * y):=by
 by_cases hy:0<=y
 ·exact .inl ⟨Int.mul_le_mul_of_nonneg_right h1 hy,Int.mul_le_mul_of_nonneg_right h2 hy⟩
 simp_all
theorem prod_in{a1 a2 b1 b2 x y L H:Int}(h1:a1<=x)(h2:x<=a2)(h3:b1<=y)(h4:y<=b2)(c1:L<=a1 * b1/\a1 * b1<=H)(c2:L<=a1 * b2/\a1 * b2<=H)(c3:L<=a2 * b1/\a2 * b1<=H)(c4:L<=a2 * b2/\a2 * b2<=H):L<=x * y/\x * y<=H:=by
 have e1:L<=x * b1/\x * b1<=H:=by
  rcases mul_between (y:=b1) h1 h2 with h |h<;>omega
 have e2:L<=x * b2/\x * b2<=H:=by
  rcases mul_between (y:=b2) h1 h2 with h |h<;>omega
 rcases mul_between (y:=x) h3 h4 with h |h<;>rw[Int.mul_comm b1,Int.mul_comm b2,Int.mul_comm y]at h<;>omega
theorem min4_le(a b c d:Int):min4 a b c d<=a/\min4 a b c d<=b/\min4 a b c d<=c/\min4 a b c d<=d:=by
 grind[min4,mm2]
theorem max4_ge(a b c d:Int):a<=max4 a b c d/\b<=max4 a b c d/\c<=max4 a b c d/\d<=max4 a b c d:=by
 grind[max4,mm2]
theorem min4_glb{a b c d L:Int}(h1:L<=a)(h2:L<=b)(h3:L<=c)(h4:L<=d):L<=min4 a b c d:=by
 grind[min4,mm2]
theorem max4_lub{a b c d H:Int}(h1:a<=H)(h2:b<=H)(h3:c<=H)(h4:d<=H):max4 a b c d<=H:=by
 grind[max4,mm2]
theorem prod_sub{a b a' b' s:Sp}(h:prodM a b = .ok s)(ha:Incl a' a)(hb:Incl b' b):∃s',prodM a' b' = .ok s'/\Incl s' s:=by
 obtain⟨rfl,w1,w2,w3,w4⟩:=prod_res h
 obtain⟨n1,n2,n3,n4⟩:=min4_le (a.1 * b.1) (a.1 * b.2) (a.2 * b.1) (a.2 * b.2)
 obtain⟨m1,m2,m3,m4⟩:=max4_ge (a.1 * b.1) (a.1 * b.2) (a.2 * b.1) (a.2 * b.2)
 obtain⟨p1,p2,p3⟩:=ha
 obtain⟨q1,q2,q3⟩:=hb
 have hin:∀x y:Int,a.1<=x->x<=a.2->b.1<=y->y<=b.2->min4 (a.1 * b.1) (a.1 * b.2) (a.2 * b.1) (a.2 * b.2)<=x * y/\x * y<=max4 (a.1 * b.1) (a.1 * b.2) (a.2 * b.1) (a.2 * b.2):=λx y g1 g2 g3 g4=>prod_in g1 g2 g3 g4 ⟨n1,m1⟩ ⟨n2,m2⟩ ⟨n3,m3⟩ ⟨n4,m4⟩
 have k1:=hin a'.1 b'.1 (by omega) (by omega) (by omega) (by omega)
 have k2:=hin a'.1 b'.2 (by omega) (by omega) (by omega) (by omega)
 have k3:=hin a'.2 b'.1 (by omega) (by omega) (by omega) (by omega)
 have k4:=hin a'.2 b'.2 (by omega) (by omega) (by omega) (by omega)
 have lo:-4611686018427387904<=min4 (a.1 * b.1) (a.1 * b.2) (a.2 * b.1) (a.2 * b.2):=by
  have:=inW_iff.1 w1;have:=inW_iff.1 w2;have:=inW_iff.1 w3;have:=inW_iff.1 w4
  exact min4_glb (by omega) (by omega) (by omega) (by omega)
 have hi:max4 (a.1 * b.1) (a.1 * b.2) (a.2 * b.1) (a.2 * b.2)<=4611686018427387904:=by
  have:=inW_iff.1 w1;have:=inW_iff.1 w2;have:=inW_iff.1 w3;have:=inW_iff.1 w4
  exact max4_lub (by omega) (by omega) (by omega) (by omega)
 refine⟨(min4 (a'.1 * b'.1) (a'.1 * b'.2) (a'.2 * b'.1) (a'.2 * b'.2),max4 (a'.1 * b'.1) (a'.1 * b'.2) (a'.2 * b'.1) (a'.2 * b'.2)),?_,?_,?_,?_⟩
 ·grind[prodM,inW_iff]
 ·exact min4_glb k1.1 k2.1 k3.1 k4.1
 ·exact Int.le_trans (min4_le _ _ _ _).1 (max4_ge _ _ _ _).1
 ·exact max4_lub k1.2 k2.2 k3.2 k4.2
theorem two_sub{a b c d a' b' c' d':Int}{s:Sp}(h:two (a+b) (c+d) = .ok s)(h1:a<=a')(h2:b<=b')(h3:c'<=c)(h4:d'<=d)(h5:a'+b'<=c'+d'):∃s',two (a'+b') (c'+d') = .ok s'/\Incl s' s:=by
 obtain⟨rfl,w1,w2⟩:=two_res h
 refine⟨(a'+b',c'+d'),?_,by omega,by omega,by omega⟩
 grind[two,inW_iff]
theorem clip_mono{a b:Int}(h:a<=b):clipM a<=clipM b:=by
 grind[clipM]
theorem mm2_mono{t:Bool}{a b a' b':Int}(h1:a<=a')(h2:b<=b'):mm2 t a b<=mm2 t a' b':=by
 cases t<;>simp[mm2]<;>(repeat' split)<;>omega
theorem abs_sub{a a':Sp}(h:Incl a' a):Incl (absM a') (absM a):=by
 grind[absM,mm2,Incl]
structure Nar(p' p:Pr):Prop where
 par:∀i:Nat,(p.params.getD i Bd.none).lo<=(p'.params.getD i Bd.none).lo/\(p'.params.getD i Bd.none).lo<=(p'.params.getD i Bd.none).hi/\(p'.params.getD i Bd.none).hi<=(p.params.getD i Bd.none).hi
 sta:p'.states=p.states
 lin:p'.lines=p.lines
 tab:p'.tables=p.tables
theorem nar_refl{p:Pr}(hR:Rng p):Nar p p:=by
 refine⟨λi=>?_,rfl,rfl,rfl⟩
 rw[List.getD_eq_getElem?_getD]
 cases h:p.params[i]? with
 |none=>simp
 |some b=>have:=hR.par b (List.mem_of_getElem? h);simp_all
theorem minmax(m:Int)(l:List Int):minL m l<=maxL m l:=Int.le_trans (minL_le l m).1 (maxL_le l m).1
theorem opM_sub{p p':Pr}{found found' l l':List Sp}{k i m:Int}{s:Sp}{n:Nat}(hR:Rng p)(hp:Nar p' p)(hF:SubL found' found)(hl:SubL l' l)(hw:ownW p n k i m=true)(h:opM p found k i m l = .ok s):∃s',opM p' found' k i m l' = .ok s'/\Incl s' s:=by
 have h0:=hl 0;have h1:=hl 1;have h2:=hl 2;have h3:=hl 3
 rcases kinds hw with r |r |r |r |r |r |r |r |r |r |r |r |r |r |r |r |r |r<;>subst r
 ·cases (show(Except.ok (m,m):Except Int Sp) = .ok s from h);exact⟨_,rfl,incl_refl (Int.le_refl _)⟩
 ·cases (show(Except.ok ((paramAt p i).lo,(paramAt p i).hi):Except Int Sp) = .ok s from h);exact⟨_,rfl,hp.par i.toNat⟩
 ·cases (show(Except.ok ((stateAt p i).lo,(stateAt p i).hi):Except Int Sp) = .ok s from h)
  refine⟨((stateAt p i).lo,(stateAt p i).hi),?_,incl_refl ?_⟩
  ·show(Except.ok ((stateAt p' i).lo,(stateAt p' i).hi):Except Int Sp)=_
   rw[stateAt,hp.sta]
  ·have hq:=own_k4 hw rfl
   exact(hR.sta _ (getD_mem' Bd.none hq.1 hq.2)).2.1
 ·cases (show(Except.ok (found.getD i.toNat (0,0)):Except Int Sp) = .ok s from h);exact⟨_,rfl,hF i.toNat⟩
 ·have h:aheadM (l.getD 0 (0,0)) = .ok s:=h
  have hs:=ahead_res h
  refine⟨s,?_,by grind[incl_refl]⟩
  show aheadM (l'.getD 0 (0,0)) = .ok s
  subst hs
  rw[aheadM]at h ⊢
  split at h
  ·cases h
  ·rename_i hq
   obtain⟨g1,g2,g3⟩:=h0
   grind
 ·have h:aheadM (l.getD 0 (0,0)) = .ok s:=h
  have hs:=ahead_res h
  refine⟨s,?_,by grind[incl_refl]⟩
  show aheadM (l'.getD 0 (0,0)) = .ok s
  subst hs
  rw[aheadM]at h ⊢
  split at h
  ·cases h
  ·rename_i hq
   obtain⟨g1,g2,g3⟩:=h0
   grind
 ·cases (show(Except.ok (mm2 false (lineAt p i).lo 0,mm2 true (lineAt p i).hi 0):Except Int Sp) = .ok s from h)
  refine⟨(mm2 false (lineAt p i).lo 0,mm2 true (lineAt p i).hi 0),?_,incl_refl ?_⟩
  ·show(Except.ok (mm2 false (lineAt p' i).lo 0,mm2 true (lineAt p' i).hi 0):Except Int Sp)=_
   rw[lineAt,hp.lin]
  grind[mm2]
 ·cases (show(Except.ok (minL ((tableAt p i).getD 0 0) (tableAt p i),maxL ((tableAt p i).getD 0 0) (tableAt p i)):Except Int Sp) = .ok s from h)
  refine⟨(minL ((tableAt p i).getD 0 0) (tableAt p i),maxL ((tableAt p i).getD 0 0) (tableAt p i)),?_,incl_refl (minmax _ _)⟩
  show(Except.ok (minL ((tableAt p' i).getD 0 0) (tableAt p' i),maxL ((tableAt p' i).getD 0 0) (tableAt p' i)):Except Int Sp)=_
  rw[tableAt,hp.tab]
 ·cases (show(Except.ok (clipM (l.getD 0 (0,0)).1,clipM (l.getD 0 (0,0)).2):Except Int Sp) = .ok s from h)
  exact⟨_,rfl,clip_mono h0.1,clip_mono h0.2.1,clip_mono h0.2.2⟩
 ·cases (show(Except.ok (mm2 false (l.getD 0 (0,0)).1 (l.getD 1 (0,0)).1,mm2 false (l.getD 0 (0,0)).2 (l.getD 1 (0,0)).2):Except Int Sp) = .ok s from h)
  exact⟨_,rfl,mm2_mono (t:=false) h0.1 h1.1,mm2_mono (t:=false) h0.2.1 h1.2.1,mm2_mono (t:=false) h0.2.2 h1.2.2⟩
 ·cases (show(Except.ok (mm2 true (l.getD 0 (0,0)).1 (l.getD 1 (0,0)).1,mm2 true (l.getD 0 (0,0)).2 (l.getD 1 (0,0)).2):Except Int Sp) = .ok s from h)
  exact⟨_,rfl,mm2_mono (t:=true) h0.1 h1.1,mm2_mono (t:=true) h0.2.1 h1.2.1,mm2_mono (t:=true) h0.2.2 h1.2.2⟩
 ·cases (show(Except.ok (absM (l.getD 0 (0,0))):Except Int Sp) = .ok s from h)
  exact⟨_,rfl,abs_sub h0⟩
 ·cases (show(Except.ok (-(l.getD 0 (0,0)).2,-(l.getD 0 (0,0)).1):Except Int Sp) = .ok s from h)
  exact⟨_,rfl,by grind[Incl]⟩
 ·obtain⟨g1,g2,g3⟩:=h0;obtain⟨k1,k2,k3⟩:=h1
  exact two_sub (show two ((l.getD 0 (0,0)).1+(l.getD 1 (0,0)).1) ((l.getD 0 (0,0)).2+(l.getD 1 (0,0)).2) = .ok s from h) g1 k1 g3 k3 (by omega)
 ·obtain⟨g1,g2,g3⟩:=h0;obtain⟨k1,k2,k3⟩:=h1
  exact two_sub (show two ((l.getD 0 (0,0)).1 + -(l.getD 1 (0,0)).2) ((l.getD 0 (0,0)).2 + -(l.getD 1 (0,0)).1) = .ok s from h) g1 (by omega) g3 (by omega) (by omega)
 ·exact prod_sub (show prodM (l.getD 0 (0,0)) (l.getD 1 (0,0)) = .ok s from h) h0 h1
 ·cases (show(Except.ok (floorM (l.getD 0 (0,0)).1 m,floorM (l.getD 0 (0,0)).2 m):Except Int Sp) = .ok s from h)
  have hm:=own_k18 hw rfl
  obtain⟨g1,g2,g3⟩:=h0
  exact⟨_,rfl,Int.ediv_le_ediv (by omega) g1,Int.ediv_le_ediv (by omega) g2,Int.ediv_le_ediv (by omega) g3⟩
 ·cases (show(Except.ok (mm2 false (l.getD 2 (0,0)).1 (l.getD 3 (0,0)).1,mm2 true (l.getD 2 (0,0)).2 (l.getD 3 (0,0)).2):Except Int Sp) = .ok s from h)
  obtain⟨g1,g2,g3⟩:=h2
  refine⟨_,rfl,mm2_mono (t:=false) g1 h3.1,?_,mm2_mono (t:=true) g3 h3.2.2⟩
  grind[mm2]
mutual
theorem findM_sub{p p':Pr}{found found':List Sp}(hR:Rng p)(hp:Nar p' p)(hF:SubL found' found):∀(x:Ex) (s:Sp),wfX p found.length x=true->findM p found x = .ok s->∃s',findM p' found' x = .ok s'/\Incl s' s
 | .mk k nm i m l,s,hw,h=>by
  obtain⟨_,g2,g3⟩:=wfX_parts hw
  rw[findM_eq]at h
  rw[findM_eq]
  simp only[Ex.l,Ex.kind,Ex.index,Ex.n]at h g2 g3 ⊢
  cases hl:findL p found l with
  |error e=>rw[hl]at h;cases h
  |ok t=>
   rw[hl]at h
   obtain⟨t',ht,hs⟩:=findL_sub hR hp hF l t g3 hl
   rw[ht]
   exact opM_sub hR hp hF hs g2 h
theorem findL_sub{p p':Pr}{found found':List Sp}(hR:Rng p)(hp:Nar p' p)(hF:SubL found' found):∀(l:List Ex) (t:List Sp),wfL p found.length l=true->findL p found l = .ok t->∃t',findL p' found' l = .ok t'/\SubL t' t
 | [],t,_,h=>by rw[findL]at h;cases h;exact⟨[],rfl,subL_nil⟩
 |x::r,t,hw,h=>by
  simp only[wfL,Bool.and_eq_true]at hw
  rw[findL]at h
  cases hx:findM p found x with
  |error e=>rw[hx]at h;cases h
  |ok s=>
   rw[hx]at h
   simp only at h
   cases hr:findL p found r with
   |error e=>rw[hr]at h;cases h
   |ok u=>
    rw[hr]at h
    cases h
    obtain⟨s',hs,hi⟩:=findM_sub hR hp hF x s hw.1 hx
    obtain⟨u',hu,hj⟩:=findL_sub hR hp hF r u hw.2 hr
    exact⟨s'::u',by rw[findL,hs,hu],subL_cons hi hj⟩
end
theorem findM_ord{p:Pr}{found:List Sp}(hR:Rng p)(hF:SubL found found){x:Ex}{s:Sp}(hw:wfX p found.length x=true)(h:findM p found x = .ok s):s.1<=s.2:=by
 obtain⟨s',hs,hi⟩:=findM_sub hR (nar_refl hR) hF x s hw h
 rw[h]at hs;cases hs;exact hi.2.1
structure FOk(found:List Sp):Prop where
 ins:InS found
 ord:∀s∈found,s.1<=s.2
theorem FOk.sub{found:List Sp}(h:FOk found):SubL found found:=λi=>by
 rw[List.getD_eq_getElem?_getD]
 cases hq:found[i]? with
 |none=>exact⟨Int.le_refl _,Int.le_refl _,Int.le_refl _⟩
 |some s=>exact incl_refl (h.ord s (List.mem_of_getElem? hq))
theorem findL_each{p:Pr}{found:List Sp}:∀{l:List Ex} {t:List Sp},findL p found l = .ok t->∀y∈l,∃s,findM p found y = .ok s
 |x::r,t,h,y,hy=>by
  rw[findL]at h
  cases hx:findM p found x with
  |error e=>rw[hx]at h;cases h
  |ok s=>
   rw[hx]at h
   simp only at h
   cases hr:findL p found r with
   |error e=>rw[hr]at h;cases h
   |ok u=>
    rcases List.mem_cons.1 hy with rfl |hy
    ·exact⟨s,hx⟩
    ·exact findL_each hr y hy
theorem stm_fok{p:Pr}(hR:Rng p):∀(r:List Sm) (i:Nat) (fs F:List Sp),wfSL p i r=true->fs.length=i->FOk fs->stmtsM p r fs = .ok F->FOk F
 | [],i,fs,F,_,hl,hi,h=>by rw[stmtsM]at h;cases h;exact hi
 |s::r,i,fs,F,hw,hl,hi,h=>by
  rw[stmtsM]at h
  cases hf:findM p fs s.x with
  |error e'=>rw[hf]at h;cases h
  |ok f=>
   rw[hf]at h
   simp only at h
   have hx:wfX p fs.length s.x=true:=by rw[hl];exact wfSL_x hw
   split at h
   ·refine stm_fok hR r (i+1) (fs++[f]) F (wfSL_next hw) (by simp[hl]) ⟨inS_snoc hi.ins (findM_in hR hi.ins _ _ hx hf),λs hs=>?_⟩ h
    rcases List.mem_append.1 hs with q |q
    ·exact hi.ord s q
    ·rw[List.mem_singleton.1 q];exact findM_ord hR hi.sub hx hf
   ·cases h
theorem BOk.fok{p:Pr}{F:List Sp}(h:BOk p F):FOk F:=stm_fok h.res.rng p.stmts 0 [] F h.res.wf rfl ⟨λs hs=>by simp at hs,λs hs=>by simp at hs⟩ h.run
theorem stm_pre{p:Pr}:∀(r:List Sm) (fs F:List Sp),stmtsM p r fs = .ok F->∃t,F=fs++t
 | [],fs,F,h=>by rw[stmtsM]at h;cases h;exact⟨[],by simp⟩
 |s::r,fs,F,h=>by
  rw[stmtsM]at h
  cases hf:findM p fs s.x with
  |error e'=>rw[hf]at h;cases h
  |ok f=>
   rw[hf]at h
   simp only at h
   split at h
   ·obtain⟨t,rfl⟩:=stm_pre r _ F h;exact⟨f::t,by simp⟩
   ·cases h
theorem stm_reach{p:Pr}{F:List Sp}(h:stmtsM p p.stmts [] = .ok F):∀i,i<=p.stmts.length->stmtsM p (p.stmts.drop i) (F.take i) = .ok F/\(F.take i).length=i
 | 0,_=>by simpa using h
 |i+1,hi=>by
  obtain⟨h1,h2⟩:=stm_reach h i (by omega)
  have hd:p.stmts.drop i=p.stmts[i]::p.stmts.drop (i+1):=List.drop_eq_getElem_cons (by omega)
  rw[hd,stmtsM]at h1
  cases hf:findM p (F.take i) p.stmts[i].x with
  |error e'=>rw[hf]at h1;cases h1
  |ok f=>
   rw[hf]at h1
   simp only at h1
   split at h1
   ·obtain⟨t,ht⟩:=stm_pre _ _ _ h1
    have e:F.take (i+1)=F.take i++[f]:=by
     have:F.take (i+1)=(F.take i++[f]++t).take (i+1):=by rw[<-ht]
     rw[this,List.take_append_of_le_length (by simp[h2])]
     exact List.take_of_length_le (by simp[h2])
    rw[e];exact⟨h1,by simp[h2]⟩
   ·cases h1
theorem wfSL_drop{p:Pr}:∀(r:List Sm) (k i:Nat),wfSL p k r=true->wfSL p (k+i) (r.drop i)=true
 |r,k,0,h=>by simpa using h
 | [],k,i+1,_=>by simp[wfSL]
 |s::r,k,i+1,h=>by
  have:=wfSL_drop r (k+1) i (wfSL_next h)
  rw[show k+1+i=k+(i+1)by omega]at this
  simpa using this
structure StAt(p:Pr)(F:List Sp)(i:Nat)(s:Sm):Prop where
 lt:i<F.length
 run:findM p (F.take i) s.x = .ok (F.getD i (0,0))
 win:within p s (F.getD i (0,0))=true
 wf:wfS p i s=true
 len:(F.take i).length=i
theorem st_at{p:Pr}{F:List Sp}{i:Nat}{s:Sm}{r:List Sm}(h:BOk p F)(hd:p.stmts.drop i=s::r):StAt p F i s:=by
 have hi:i<p.stmts.length:=by
  by_cases hq:i<p.stmts.length
  ·exact hq
  ·rw[List.drop_eq_nil_iff.2 (by omega)]at hd;cases hd
 obtain⟨h1,h2⟩:=stm_reach h.run i (by omega)
 have hw:=wfSL_drop p.stmts 0 i h.res.wf
 rw[hd,Nat.zero_add]at hw
 rw[hd,stmtsM]at h1
 cases hf:findM p (F.take i) s.x with
 |error e'=>rw[hf]at h1;cases h1
 |ok f=>
  rw[hf]at h1
  simp only at h1
  split at h1
  ·rename_i hwi
   obtain⟨t,ht⟩:=stm_pre _ _ _ h1
   have hl:i<F.length:=by rw[h.len];exact hi
   have e:F.getD i (0,0)=f:=by
    rw[List.getD_eq_getElem?_getD]
    have:F[i]? = some f:=by
     rw[ht,List.append_assoc,List.getElem?_append_right (by omega),h2];simp
    rw[this];rfl
   refine⟨hl,by rw[e];exact hf,by rw[e];exact hwi,?_,h2⟩
   simp only[wfSL,Bool.and_eq_true]at hw;exact hw.1
  ·cases h1
theorem given_kind{s:Str}:∀(l:List Sm) (i:Int),0<=i->0<=givenFrom s l i->i<=givenFrom s l i/\((l.getD (givenFrom s l i-i).toNat Sm.none).kind==1)=true
 | [],i,_,h=>by simp[givenFrom]at h
 |x::r,i,hi,h=>by
  simp only[givenFrom]at h ⊢
  split
  ·rename_i hq
   simp only[Bool.and_eq_true]at hq
   refine⟨Int.le_refl _,?_⟩
   rw[show(i-i).toNat=0 by omega];exact hq.1
  ·rename_i hq
   rw[if_neg hq]at h
   obtain⟨a,b⟩:=given_kind r (i+1) (by omega) h
   refine⟨by omega,?_⟩
   rw[show(givenFrom s r (i+1)-i).toNat=(givenFrom s r (i+1)-(i+1)).toNat+1 by omega];exact b
end Go.Fw.Rg
