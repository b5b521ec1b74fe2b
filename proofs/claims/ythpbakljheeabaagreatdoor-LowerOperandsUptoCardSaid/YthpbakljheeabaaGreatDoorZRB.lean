/- Package ranges in plain words: a whole processor. -/
import Derived.Test.YthpbakljheeabaaGreatDoorZRA
import Derived.Test.YthpbakljheeabaaGreatDoorZPX
set_option linter.unusedSectionVars false
set_option linter.unusedSimpArgs false
set_option linter.unusedVariables false
namespace Go.Fw.Rg
open Go.Fw Go.Fw.Ref15
variable [af]
structure iY(p:Pr):Prop where
 sm:p.Small
 hn:∀s∈p.stmts,Ref15.nodes s.x<=1073741824
 hT:∀t∈p.tables,t.values.length<=1073741824
theorem iY.hl{p:Pr}(g:iY p):p.stmts.length<=1073741824:=by have:=g.sm.stmts;omega
def resE(p:Pr):Int:=if(Nam.resolveC p).2 != 0 then(Nam.resolveC p).2 else if qx p (Nam.resolveC p).1 then 0 else 150
theorem RD{s:Str}:∀{l:List Str} (i:Int),aU s l i<i+l.length\/aU s l i = -1
 | [],i=>.inr rfl
 |x::r,i=>by
  simp only[aU]
  split
  ·left;simp only[List.length_cons];omega
  ·rcases RD (s:=s) (l:=r) (i+1)with h |h
   ·left;simp only[List.length_cons];omega
   ·exact .inr h
theorem pg{s:Str}{l:List Str}(h:0<=find l s):find l s<l.length:=by
 rcases RD (s:=s) (l:=l) 0 with q |q
 ·simpa[find]using q
 ·rw[find]at h;omega
theorem LG{s:Str}:∀{l:List Sm} (i:Int),aB s l i<i+l.length\/aB s l i = -1
 | [],i=>.inr rfl
 |x::r,i=>by
  simp only[aB]
  split
  ·left;simp only[List.length_cons];omega
  ·rcases LG (s:=s) (l:=r) (i+1)with h |h
   ·left;simp only[List.length_cons];omega
   ·exact .inr h
theorem RF{p:Pr}{s:Str}{b:Nat}(h:0<=given p s b):given p s b<b:=by
 rcases LG (s:=s) (l:=p.stmts.take b) 0 with q |q
 ·rw[given];simp only[List.length_take]at q;omega
 ·rw[given]at h;omega
theorem kK:∀{l:List Ex},formeds l=true->∀y∈l,formed y=true
 |x::r,h,y,hy=>by
  simp only[formeds,Bool.and_eq_true]at h
  rcases List.mem_cons.1 hy with rfl |hy
  ·exact h.1
  ·exact kK h.2 y hy
theorem wu:∀{l:List Ex},o8 l=true->∀y∈l,numbers y=true
 |x::r,h,y,hy=>by
  simp only[o8,Bool.and_eq_true]at h
  rcases List.mem_cons.1 hy with rfl |hy
  ·exact h.1
  ·exact wu h.2 y hy
theorem mZ{p:Pr}{b:Nat}:∀{l:List Ex},cu p b l=(l,true)->∀y∈l,bz p b y=(y,true)
 |x::r,h,y,hy=>by
  simp only[cu,Prod.mk.injEq,List.cons.injEq,Bool.and_eq_true]at h
  rcases List.mem_cons.1 hy with rfl |hy
  ·exact Prod.ext h.1.1 h.2.1
  ·exact mZ (Prod.ext h.1.2 h.2.2) y hy
theorem RG{p:Pr}{n:Nat}:∀{l:List Ex},(∀y∈l,wfX p n y=true)->wfL p n l=true
 | [],_=>rfl
 |x::r,h=>by
  simp only[wfL,Bool.and_eq_true]
  exact⟨h x (by simp),RG λy hy=>h y (by simp[hy])⟩
theorem Jf{k:Int}(h:0<=Ref15.parts k):1<=k/\k<=19:=by
 by_cases hk:1<=k/\k<=19
 ·exact hk
 ·exfalso
  have h1:∀n:Int,1<=n->n<=19->(k==n)=false:=λn a b=>by
   simp only[beq_eq_false_iff_ne];omega
  simp[Ref15.parts,h1]at h
theorem z7w{p:Pr}(ht:p.tables.all kz=true)(b:Nat):∀x:Ex,formed x=true->numbers x=true->bz p b x=(x,true)->wfX p b x=true:=by
 refine Ex.ind λx ih hf hn hr=>?_
 rw[formed_eq]at hf
 rw[Bq]at hn
 rw[kC]at hr
 simp only[Bool.and_eq_true,Bool.not_eq_true',Bool.or_eq_false_iff,bne_eq_false_iff_eq,decide_eq_false_iff_not]at hf hn
 obtain⟨⟨⟨⟨f1,f2⟩,f3⟩,f4⟩,f5⟩:=hf
 obtain⟨⟨n1,n2⟩,n3⟩:=hn
 rw[Lj]
 have hk:=Jf (k:=x.kind) (by rw[<-f1];omega)
 simp only[Bool.and_eq_true,beq_iff_eq]
 refine⟨⟨f1,?_⟩,?_⟩
 ·by_cases hN:(named x.kind&&x.kind != 8&&x.kind != 9)=true
  ·rw[if_pos hN]at hr
   rw[value]at hr
   simp only at hr
   split at hr
   ·split at hr
    ·have e1:x.kind=5:=congrArg (λq=>q.1.kind) hr.symm
     have e2:given p x.name b=x.index:=congrArg (λq=>q.1.index) hr
     have e3:decide (given p x.name b>=0)=true:=congrArg Prod.snd hr
     have e3:=of_decide_eq_true e3
     have e4:=RF (b:=b) e3
     rw[uw,e1]
     simp only[e2]at e3 e4
     simp only[(by decide:((5:Int)==1)=false),(by decide:((5:Int)==3)=false),(by decide:((5:Int)==4)=false),(by decide:((5:Int)==5)=true),Bool.false_eq_true,if_false,if_true,Bool.and_eq_true,decide_eq_true_eq]
     omega
    ·have e1:x.kind=4:=congrArg (λq=>q.1.kind) hr.symm
     have e2:find (bounds p.states) x.name=x.index:=congrArg (λq=>q.1.index) hr
     have e3:decide (find (bounds p.states) x.name>=0)=true:=congrArg Prod.snd hr
     have e3:=of_decide_eq_true e3
     have e4:=pg e3
     rw[uw,e1]
     rw[e2]at e3 e4;simp only[bounds,List.length_map]at e4
     simp only[(by decide:((4:Int)==1)=false),(by decide:((4:Int)==3)=false),(by decide:((4:Int)==4)=true),Bool.false_eq_true,if_false,if_true,Bool.and_eq_true,decide_eq_true_eq]
     omega
   ·have e1:x.kind=3:=congrArg (λq=>q.1.kind) hr.symm
    have e2:find (bounds p.params) x.name=x.index:=congrArg (λq=>q.1.index) hr
    have e3:decide (find (bounds p.params) x.name>=0)=true:=congrArg Prod.snd hr
    have e3:=of_decide_eq_true e3
    have e4:=pg e3
    rw[uw,e1]
    rw[e2]at e3 e4;simp only[bounds,List.length_map]at e4
    simp only[(by decide:((3:Int)==1)=false),(by decide:((3:Int)==3)=true),Bool.false_eq_true,if_false,if_true,Bool.and_eq_true,decide_eq_true_eq]
    omega
  ·rw[if_neg hN]at hr
   have e2:iO p x=x.index:=congrArg (λq=>q.1.index) hr
   have e3:(decide (iO p x>=0)&&(cu p b x.l).2)=true:=congrArg Prod.snd hr
   simp only[Bool.and_eq_true,decide_eq_true_eq]at e3
   have e3:=e3.1
   rw[iO]at e2 e3
   rw[uw]
   rcases Nam.kinds_cases hk with h |h |h |h |h |h |h |h |h |h |h |h |h |h |h |h |h |h |h<;>rw[h]at hN n2 e2 e3 ⊢ <;> first
    |exact absurd (by decide) hN
    |rfl
    |skip
   ·simp;omega
   ·simp only[(by decide:((8:Int)==9)=false),(by decide:((8:Int)==8)=true),Bool.false_eq_true,if_false,if_true]at e2 e3
    have e4:=pg e3
    rw[e2]at e3 e4;simp only[Ref15.lines,List.length_map]at e4
    simp;omega
   ·simp only[(by decide:((9:Int)==9)=true),if_true]at e2 e3
    have e4:=pg e3
    rw[e2]at e3 e4;simp only[Ref15.tables,List.length_map]at e4
    have hm:p.tables.getD x.index.toNat Tb.none∈p.tables:=by
     have:x.index.toNat<p.tables.length:=by omega
     rw[List.getD_eq_getElem?_getD,List.getElem?_eq_getElem this];exact List.getElem_mem this
    have hq:=List.all_eq_true.1 ht _ hm
    simp only[kz,Bool.not_eq_true',Bool.or_eq_false_iff,decide_eq_false_iff_not]at hq
    have hne:(aO p x.index==[])=false:=by
     rw[beq_eq_false_iff_ne];intro h0;rw[aO]at h0;rw[h0]at hq;simp at hq
    simp[hne];omega
   ·simp at n2 ⊢;omega
 ·refine RG λy hy=>ih y hy (kK f5 y hy) (wu n3 y hy) ?_
  by_cases hN:(named x.kind&&x.kind != 8&&x.kind != 9)=true
  ·exfalso
   have:Ref15.parts x.kind=0:=by
    simp only[named,Bool.and_eq_true,bne_iff_ne]at hN
    rcases Nam.kinds_cases hk with h |h |h |h |h |h |h |h |h |h |h |h |h |h |h |h |h |h |h<;>rw[h]at hN ⊢ <;> first |rfl |(exfalso;simp at hN;done)
   rw[this]at f1
   have:x.l.length=0:=by omega
   rw[List.length_eq_zero_iff]at this;rw[this]at hy;simp at hy
  ·rw[if_neg hN]at hr
   have e1:(cu p b x.l).1=x.l:=congrArg (λq=>q.1.l) hr
   have e3:(decide (iO p x>=0)&&(cu p b x.l).2)=true:=congrArg Prod.snd hr
   simp only[Bool.and_eq_true]at e3
   exact mZ (Prod.ext e1 e3.2) y hy
theorem DK{p:Pr}{s:Sm}{r l:List Sm}{i:Nat}{out:Bool}(h:dh p (s::r) i out = .ok l):(bz p i s.x).2=true/\0<=bY p s/\again p i s=false/\∃t,dh p r (i+1) (s.kind==4) = .ok t/\l=⟨s.kind,s.name,bY p s,(bz p i s.x).1⟩::t:=by
 rw[dh]at h
 split at h
 ·cases h
 ·split at h
  ·cases h
  ·split at h
   ·cases h
   ·rename_i h1 h2 h3
    simp only[Bool.not_eq_true',Bool.not_eq_false,decide_eq_true_eq,Int.not_lt,Bool.not_eq_true]at h1 h2 h3
    refine⟨h1,h2,h3,?_⟩
    split at h
    ·cases h
    ·rename_i t ht
     cases h
     exact⟨t,ht,rfl⟩
theorem LH{p:Pr}(ht:p.tables.all kz=true):∀(r:List Sm) (i:Nat) (out:Bool),r.all stmtOk=true->(r.all λs=>numbers s.x)=true->dh p r i out = .ok r->tK p i r=true
 | [],_,_,_,_,_=>rfl
 |s::r,i,out,h1,h2,h3=>by
  simp only[List.all_cons,Bool.and_eq_true]at h1 h2
  obtain⟨g1,g2,_,t,g3,g4⟩:=DK h3
  simp only[List.cons.injEq]at g4
  obtain⟨g4,rfl⟩:=g4
  have e1:bY p s=s.index:=congrArg Sm.index g4.symm
  have e2:(bz p i s.x).1=s.x:=congrArg Sm.x g4.symm
  simp only[tK,wfS,Bool.and_eq_true]
  have hf:formed s.x=true:=by
   have:=h1.1
   simp only[stmtOk,Bool.not_eq_true',Bool.or_eq_false_iff,Bool.not_eq_false']at this
   exact this.2
  refine⟨⟨z7w ht i s.x hf h2.1 (Prod.ext e2 g1),?_,?_⟩,LH ht r (i+1) _ h1.2 h2.2 g3⟩
  ·cases hk:s.kind==2 with
   |false=>rfl
   |true=>
    have:s.kind=2:=by simpa using hk
    rw[bY,this]at e1 g2
    simp only[(by decide:((2:Int)==3)=false),(by decide:((2:Int)==2)=true),Bool.false_eq_true,if_false,if_true]at e1 g2
    have:=pg g2
    rw[e1]at this g2;simp only[bounds,List.length_map]at this
    simp;omega
  ·cases hk:s.kind==3 with
   |false=>rfl
   |true=>
    have:s.kind=3:=by simpa using hk
    rw[bY,this]at e1 g2
    simp only[(by decide:((3:Int)==3)=true),if_true]at e1 g2
    have:=pg g2
    rw[e1]at this g2;simp only[Ref15.lines,List.length_map]at this
    simp;omega
theorem btw{lo hi:Int}(h:between lo hi=true):-2147483648<=lo/\lo<=hi/\hi<=2147483647:=by
 simp only[between,Bool.and_eq_true,decide_eq_true_eq]at h;omega
theorem z3u{p:Pr}(h:ranged p=true):Rng p:=by
 simp only[ranged,Bool.and_eq_true,List.all_eq_true]at h
 obtain⟨⟨⟨⟨h1,h2⟩,h3⟩,h4⟩,_⟩:=h
 exact⟨λb hb=>btw (h1 b hb),λb hb=>btw (h2 b hb),λb hb=>btw (h3 b hb),λt ht v hv=>by have:=btw (h4 t ht v hv);omega⟩
structure Res(p:Pr):Prop where
 fo:Formed p=true
 li:limited p=true
 nm:oG p.name=true
 dn:(dO p).all oG=true
 un:iC (dO p) (dO p) 0=true
 ra:ranged p=true
 ru:dh p p.stmts 0 false = .ok p.stmts
variable {p : Pr}
theorem EU{e:Except Int (List Sm)}(h:Ref15.fin p [] e=(p,0))(hne:∀n,e = .error n->n≠0):e = .ok p.stmts:=by
 cases e with
 |error n=>exact absurd (congrArg Prod.snd h) (hne n rfl)
 |ok l=>
  have:=congrArg (λq=>q.1.stmts) h
  simp only[Ref15.fin,List.nil_append]at this
  rw[this]
theorem RH:∀(r:List Sm) (i:Nat) (out:Bool) (n:Int),dh p r i out = .error n->n≠0
 | [],i,out,n,h=>by
  rw[dh]at h
  split at h
  ·cases h;decide
  ·cases h
 |s::r,i,out,n,h=>by
  rw[dh]at h
  split at h
  ·cases h;decide
  ·split at h
   ·cases h;decide
   ·split at h
    ·cases h;decide
    ·split at h
     ·rename_i q
      cases h
      exact RH r _ _ _ q
     ·cases h
theorem RI:Resolve p=(p,0)↔Res p:=by
 constructor
 ·intro h
  have h0:=congrArg Prod.snd h
  rw[Resolve]at h h0
  split at h
  ·rename_i q;rw[if_pos q]at h0;exfalso;simp at h0
  ·rename_i q1;rw[if_neg q1]at h0
   split at h
   ·rename_i q;rw[if_pos q]at h0;exfalso;simp at h0
   ·rename_i q2;rw[if_neg q2]at h0
    split at h
    ·rename_i q;rw[if_pos q]at h0;exfalso;simp at h0
    ·rename_i q3;rw[if_neg q3]at h0
     split at h
     ·rename_i q;rw[if_pos q]at h0;exfalso;simp at h0
     ·rename_i q4;rw[if_neg q4]at h0
      split at h
      ·rename_i q;rw[if_pos q]at h0;exfalso;simp at h0
      ·rename_i q5;rw[if_neg q5]at h0
       split at h
       ·rename_i q;rw[if_pos q]at h0;exfalso;simp at h0
       ·rename_i q6
        exact⟨by simpa using q1,by simpa using q2,by simpa using q3,by simpa using q4,by simpa using q5,by simpa using q6,EU h (RH _ _ _)⟩
 ·intro h
  rw[Resolve,h.fo,h.li,h.nm,h.dn,h.un,h.ra,h.ru]
  simp[Ref15.fin]
theorem Res.tb(h:Res p):p.tables.all kz=true:=by
 have:=h.li;rw[limited_eq]at this;simp only[Bool.and_eq_true]at this;exact this.2.2.1
theorem Res.rng(h:Res p):Rng p:=z3u h.ra
theorem Res.wf(h:Res p):tK p 0 p.stmts=true:=by
 refine LH h.tb _ _ _ h.fo ?_ h.ru
 have:=h.ra;simp only[ranged,Bool.and_eq_true]at this;exact this.2
theorem F5(h:resE p=0):Nam.resolveC p=(p,0):=by
 rw[resE]at h
 split at h
 ·rename_i h1;rw[h]at h1;exact absurd h1 (by decide)
 ·rename_i h1
  split at h
  ·rename_i h2
   exact Prod.ext ((iD _ _).1 h2).symm (by simpa using h1)
  ·exact absurd h (by decide)
theorem xx(h:resE p=0):Res p:=RI.1 (by rw[<-Nam.resolve_same];exact F5 h)
theorem LJ(h:Res p):resE p=0:=by
 have:=RI.2 h
 rw[<-Nam.resolve_same]at this
 rw[resE,this]
 simp[(iD p p).2 rfl]
end Go.Fw.Rg
namespace Go.Fw
def lkI(k:Int):List (Int×Int)->Option Int
 | []=>none
 |(a,v)::r=>if k==a then some v else lkI k r
abbrev iiC(q:Int×Int):D×D:=(.i q.1,.i q.2)
theorem RJ(a b:Int):dD (.i a) (.i b)=(a==b):=rfl
theorem DL(k:Int):∀l:List (Int×Int),nI (.i k) (l.map iiC)=(lkI k l).map .i
 | []=>rfl
 |(a,v)::r=>by
  simp only[List.map_cons,iiC,nI,RJ,lkI]
  cases k==a with
  |true=>rfl
  |false=>simp only[Bool.false_eq_true,if_false];exact DL k r
theorem RN[af]{k:Int}{l:List (Int×Int)}{M:List (D×D)}{f:D->Prop}{g:Prop}(hM:M=l.map iiC)(h1:∀n,lkI k l=some n->f (.i n))(h2:lkI k l=none->g):rD (nI (.i k) M) f g:=by
 subst hM
 cases hk:lkI k l with
 |none=>exact Nam.opt_none (by rw[DL,hk];rfl) (h2 hk)
 |some n=>exact Nam.opt_some (d:=.i n) (by rw[DL,hk];rfl) (h1 n hk)
end Go.Fw
namespace Go.Fw.Rg
open Go.Fw Go.Fw.Ref15
variable [af]
def bU:List (Int×Int):=[(1,0),(3,0),(4,0),(5,0),(6,1),(7,1),(8,1),(9,1),(10,1),(13,1),(14,1),(18,1),(11,2),(12,2),(15,2),(16,2),(17,2),(19,4)]
def jQ(p:Pr):List (Int×Int):=[(3,p.params.length),(4,p.states.length),(8,p.lines.length),(9,p.tables.length),(5,p.stmts.length)]
def Zz(p:Pr):List (Int×Int):=[(3,(p.params.map Bd.cs).length),(4,(p.states.map Bd.cs).length),(8,(p.lines.map Ln.cs).length),(9,(p.tables.map Tb.cs).length),(5,(p.stmts.map Sm.cs).length)]
theorem VP{p:Pr}{k:Int}{M:List (D×D)}{f:D->Prop}{g:Prop}(hM:M=(Zz p).map iiC)(h1:∀n,lkI k (jQ p)=some n->f (.i n))(h2:lkI k (jQ p)=none->g):rD (nI (.i k) M) f g:=by
 have e:Zz p=jQ p:=by simp only[Zz,jQ,List.length_map]
 rw[e]at hM
 exact RN hM h1 h2
theorem z7x{p:Pr}{k m:Int}(h:lkI k (jQ p)=some m)(h5:(k==5)=true):m=p.stmts.length:=by
 have:k=5:=by simpa using h5
 subst this
 exact(Option.some.inj h).symm
theorem z3v{p:Pr}{k:Int}(h:lkI k (jQ p)=none)(h5:(k==5)=true):False:=by
 have:k=5:=by simpa using h5
 subst this
 cases h
theorem ZA{l:List Ex}{n most:Int}{b:Bool}(h:(bif ((Ex.css l).length:Int) != n then true else decide (most<1))=b):(bif (l.length:Int) != n then true else decide (most<1))=b:=by rw[Ex.css_len]at h;exact h
def inM(i:Int):Option Int->Bool
 |none=>true
 |some m=>!(bif decide (i<0)then true else decide (i>=m))
theorem LK{i m:Int}{b:Bool}(h:(bif decide (i<0)then true else decide (i>=m))=b):inM i (some m) = !b:=by rw[inM,h]
def ok0(p:Pr)(k i m:Int):Bool:=if k==1 then(bif decide (0<=m)then decide (m<=2147483648)else false)else if k==18 then(bif decide (1<=m)then decide (m<=2147483648)else false)else if k==5 then(p.stmts.getD i.toNat Sm.none).kind==1 else true
mutual
def dR(p:Pr):Ex->Int->Int×Bool
 | .mk k _ i m l,most=>match lkI k bU with
  |none=>(0,false)
  |some need=>if(bif (l.length:Int) != need then true else decide (most<1))=true then(0,false)else if inM i (lkI k (jQ p))=false then(0,false)else iZ p l most 1 (ok0 p k i m)
def iZ(p:Pr):List Ex->Int->Int->Bool->Int×Bool
 | [],_,n,ok=>(n,ok)
 |y::r,most,n,ok=>if(!(bif ok then(dR p y (most-n)).2 else false))=true then(0,false)else iZ p r most (n+(dR p y (most-n)).1) (bif ok then(dR p y (most-n)).2 else false)
end
theorem tZ(p:Pr)(x:Ex)(most:Int):dR p x most=match lkI x.kind bU with
  |none=>(0,false)
  |some need=>if(bif (x.l.length:Int) != need then true else decide (most<1))=true then(0,false)else if inM x.index (lkI x.kind (jQ p))=false then(0,false)else iZ p x.l most 1 (ok0 p x.kind x.index x.n):=by cases x;rw[dR];rfl
theorem vk{p:Pr}{x:Ex}{most:Int}(h:lkI x.kind bU=none):dR p x most=(0,false):=by rw[tZ,h]
theorem vw{p:Pr}{x:Ex}{most need:Int}(h:lkI x.kind bU=some need)(h2:(bif (x.l.length:Int) != need then true else decide (most<1))=true):dR p x most=(0,false):=by
 rw[tZ,h];simp only[h2,if_true]
theorem DN{p:Pr}{x:Ex}{most need:Int}(h:lkI x.kind bU=some need)(h2:(bif (x.l.length:Int) != need then true else decide (most<1))=false)(h3:inM x.index (lkI x.kind (jQ p))=false):dR p x most=(0,false):=by
 rw[tZ,h];simp only[h2,h3,if_true,Bool.false_eq_true,if_false]
theorem vz{p:Pr}{x:Ex}{most need:Int}(h:lkI x.kind bU=some need)(h2:(bif (x.l.length:Int) != need then true else decide (most<1))=false)(h3:inM x.index (lkI x.kind (jQ p))=true):dR p x most=iZ p x.l most 1 (ok0 p x.kind x.index x.n):=by
 rw[tZ,h];simp only[h2,h3,Bool.false_eq_true,if_false,Bool.true_eq_false]
theorem ZB{l:List Ex}{nd most:Int}(h:(bif ((Ex.css l).length:Int) != nd then true else decide (most<1))=false):1<=most:=by
 cases hc:((Ex.css l).length:Int) != nd<;>rw[hc]at h<;>simp at h;omega
theorem Oj{p:Pr}{x:Ex}{most nd:Int}{o:Option Int}{b:Bool}(hnd:lkI x.kind bU=some nd)(hmd:lkI x.kind (jQ p)=o)(h:(bif ((Ex.css x.l).length:Int) != nd then true else decide (most<1))=false)(h2:inM x.index o=true)(h3:ok0 p x.kind x.index x.n=b):dR p x most=iZ p x.l most 1 b:=by
 rw[vz hnd (ZA h) (by rw[hmd];exact h2),h3]
theorem VQ{p:Pr}{x:Ex}{most nd:Int}{o:Option Int}(hnd:lkI x.kind bU=some nd)(hmd:lkI x.kind (jQ p)=o)(h:(bif ((Ex.css x.l).length:Int) != nd then true else decide (most<1))=false)(h2:inM x.index o=false):dR p x most=(0,false):=by
 rw[DN hnd (ZA h) (by rw[hmd];exact h2)]
theorem z7y{p:Pr}{k i m:Int}(h:(k==1)=true):ok0 p k i m=(bif decide (0<=m)then decide (m<=2147483648)else false):=by simp only[ok0,h,if_true]
theorem z7z{p:Pr}{k i m:Int}(h:(k==1)=false)(h2:(k==18)=true):ok0 p k i m=(bif decide (1<=m)then decide (m<=2147483648)else false):=by simp only[ok0,h,h2,if_true,Bool.false_eq_true,if_false]
theorem z8a{p:Pr}{k i m:Int}(h:(k==1)=false)(h2:(k==18)=false)(h3:(k==5)=true):ok0 p k i m=((p.stmts.getD i.toNat Sm.none).kind==1):=by simp only[ok0,h,h2,h3,if_true,Bool.false_eq_true,if_false]
theorem z8b{p:Pr}{k i m:Int}(h:(k==1)=false)(h2:(k==18)=false)(h3:(k==5)=false):ok0 p k i m=true:=by simp only[ok0,h,h2,h3,Bool.false_eq_true,if_false]
theorem z9p{p:Pr}{k i m:Int}(h:lkI k (jQ p)=some m)(h5:(k==5)=true)(h2:(bif decide (i<0)then true else decide (i>=m))=false):0<=i/\i<p.stmts.length:=by
 have:=z7x h h5
 cases hc:decide (i<0)<;>rw[hc]at h2<;>simp at h2 hc;omega
theorem ng{p:Pr}{y:Ex}{r:List Ex}{most n:Int}{ok:Bool}(h:(!(bif ok then(dR p y (most-n)).2 else false))=true):iZ p (y::r) most n ok=(0,false):=by rw[iZ,if_pos h]
theorem uf{p:Pr}{y:Ex}{r:List Ex}{most n:Int}{ok:Bool}(h:(!(bif ok then(dR p y (most-n)).2 else false))=false):iZ p (y::r) most n ok=iZ p r most (n+(dR p y (most-n)).1) (bif ok then(dR p y (most-n)).2 else false):=by rw[iZ,if_neg (by rw[h];decide)]
theorem z7c{b c:Bool}(h:(!(bif b then c else false))=false):b=true/\c=true:=by cases b<;>cases c<;>first |exact⟨rfl,rfl⟩ |exact Bool.noConfusion h
theorem xy(p:Pr):∀(x:Ex) (most:Int),most<=512->0<=(dR p x most).1/\(dR p x most).1<=512/\((dR p x most).2=true->1<=(dR p x most).1/\(dR p x most).1<=most):=by
 refine Ex.ind λx ih most hm=>?_
 have hL:∀(l:List Ex),(∀y∈l,y∈x.l)->∀(n:Int) (ok:Bool),1<=n->n<=most->0<=(iZ p l most n ok).1/\(iZ p l most n ok).1<=512/\((iZ p l most n ok).2=true->1<=(iZ p l most n ok).1/\(iZ p l most n ok).1<=most):=by
  intro l
  induction l with
  |nil=>intro _ n ok h1 h2;rw[iZ];exact⟨by simp only;omega,by simp only;omega,λ_=>⟨h1,h2⟩⟩
  |cons y r ihr=>
   intro hl n ok h1 h2
   cases hb:!(bif ok then(dR p y (most-n)).2 else false)with
   |true=>rw[ng hb];exact⟨Int.le_refl _,by decide,λh=>Bool.noConfusion h⟩
   |false=>
    rw[uf hb]
    obtain⟨a,b⟩:=z7c hb
    have:=ih y (hl y (by simp)) (most-n) (by omega)
    have h3:=this.2.2 b
    exact ihr (λz hz=>hl z (by simp[hz])) _ _ (by omega) (by omega)
 cases h:lkI x.kind bU with
 |none=>rw[vk h];exact⟨Int.le_refl _,by decide,λh=>Bool.noConfusion h⟩
 |some need=>
  cases h2:(bif (x.l.length:Int) != need then true else decide (most<1))with
  |true=>rw[vw h h2];exact⟨Int.le_refl _,by decide,λh=>Bool.noConfusion h⟩
  |false=>
   cases h3:inM x.index (lkI x.kind (jQ p))with
   |false=>rw[DN h h2 h3];exact⟨Int.le_refl _,by decide,λh=>Bool.noConfusion h⟩
   |true=>
    rw[vz h h2 h3]
    have:1<=most:=by
     cases hc:(x.l.length:Int) != need<;>rw[hc]at h2<;>simp at h2;omega
    exact hL x.l (λ_ h=>h) 1 _ (Int.le_refl _) this
def kL(k:Int):Int:=
 if k==1 || k==3 || k==4 || k==5 then 0
 else if k==6 || k==7 || k==8 || k==9 || k==10 || k==13 || k==14 || k==18 then 1
 else if k==11 || k==12 || k==15 || k==16 || k==17 then 2
 else if k==19 then 4 else -1
def wJ(p:Pr)(x:Ex):Bool:=
 if((x.l.length:Int) != kL x.kind)=true then false
 else if x.kind==1 then(bif decide (x.n>=0)then decide (x.n<=2147483648)else false)
 else if x.kind==18 then(bif decide (x.n>=1)then decide (x.n<=2147483648)else false)
 else if x.kind==3 then(bif decide (x.index>=0)then decide (x.index<p.params.length)else false)
 else if x.kind==4 then(bif decide (x.index>=0)then decide (x.index<p.states.length)else false)
 else if x.kind==8 then(bif decide (x.index>=0)then decide (x.index<p.lines.length)else false)
 else if x.kind==9 then(bif decide (x.index>=0)then decide (x.index<p.tables.length)else false)
 else if x.kind==5 then(bif (bif decide (x.index>=0)then decide (x.index<p.stmts.length)else false)then(p.stmts.getD x.index.toNat Sm.none).kind==1 else false)
 else true
mutual
def nG(p:Pr):Ex->Int->Int
 | .mk k nm i m l,most=>if(bif decide (most<1)then true else !wJ p (.mk k nm i m l))=true then -1 else kM p l most 1
def kM(p:Pr):List Ex->Int->Int->Int
 | [],_,n=>n
 |y::r,most,n=>if nG p y (most-n)<0 then -1 else kM p r most (n+nG p y (most-n))
end
theorem oM(p:Pr)(x:Ex)(most:Int):nG p x most=if(bif decide (most<1)then true else !wJ p x)=true then -1 else kM p x.l most 1:=by cases x;rw[nG];rfl
theorem zn(p:Pr):∀(x:Ex) (most:Int),nG p x most = -1\/(1<=nG p x most/\nG p x most<=most):=by
 refine Ex.ind λx ih most=>?_
 have hL:∀(l:List Ex),(∀y∈l,y∈x.l)->∀(n:Int),1<=n->n<=most->kM p l most n = -1\/(1<=kM p l most n/\kM p l most n<=most):=by
  intro l
  induction l with
  |nil=>intro _ n h1 h2;rw[kM];exact .inr ⟨h1,h2⟩
  |cons y r ihr=>
   intro hl n h1 h2
   rw[kM]
   have:=ih y (hl y (by simp)) (most-n)
   split
   ·exact .inl rfl
   ·exact ihr (λz hz=>hl z (by simp[hz])) _ (by omega) (by omega)
 rw[oM]
 split
 ·exact .inl rfl
 ·rename_i h
  refine hL x.l (λ_ h=>h) 1 (Int.le_refl _) ?_
  cases hc:decide (most<1)with
  |true=>rw[hc]at h;exact absurd rfl h
  |false=>simpa using hc
theorem BF(k:Int):lkI k bU=if kL k<0 then none else some (kL k):=by
 by_cases hk:1<=k/\k<=19
 ·rcases Nam.kinds_cases hk with h |h |h |h |h |h |h |h |h |h |h |h |h |h |h |h |h |h |h<;>subst h<;>rfl
 ·have h1:∀n:Int,1<=n->n<=19->(k==n)=false:=λn a b=>by
   simp only[beq_eq_false_iff_ne];omega
  simp[kL,lkI,bU,h1]
theorem own_fits{p:Pr}{x:Ex}{most:Int}(hm:1<=most):(∃n,lkI x.kind bU=some n/\(bif (x.l.length:Int) != n then true else decide (most<1))=false/\inM x.index (lkI x.kind (jQ p))=true/\ok0 p x.kind x.index x.n=true)↔wJ p x=true:=by
 have hm':decide (most<1)=false:=by simp;omega
 rw[hm',BF]
 by_cases hk:1<=x.kind/\x.kind<=19
 ·rcases Nam.kinds_cases hk with h |h |h |h |h |h |h |h |h |h |h |h |h |h |h |h |h |h |h<;>rw[wJ,h]<;>simp[kL,inM,jQ,lkI,ok0]<;>(try omega)
 ·have h1:∀n:Int,1<=n->n<=19->(x.kind==n)=false:=λn a b=>by
   simp only[beq_eq_false_iff_ne];omega
  have:kL x.kind = -1:=by simp[kL,h1]
  rw[wJ,this]
  simp<;>omega
theorem vC(p:Pr):∀(x:Ex) (most:Int),((dR p x most).2=true->nG p x most=(dR p x most).1)/\((dR p x most).2=false->nG p x most = -1):=by
 refine Ex.ind λx ih most=>?_
 have hL:∀(l:List Ex),(∀y∈l,y∈x.l)->∀(n:Int),((iZ p l most n true).2=true->kM p l most n=(iZ p l most n true).1)/\((iZ p l most n true).2=false->kM p l most n = -1):=by
  intro l
  induction l with
  |nil=>intro _ n;rw[iZ,kM];exact⟨λ_=>rfl,λh=>Bool.noConfusion h⟩
  |cons y r ihr=>
   intro hl n
   have:=ih y (hl y (by simp)) (most-n)
   have hr:=xy
   rw[kM]
   cases hb:(dR p y (most-n)).2 with
   |false=>
    rw[ng (by rw[hb];rfl),this.2 hb]
    exact⟨λh=>Bool.noConfusion h,λ_=>rfl⟩
   |true=>
    rw[uf (by rw[hb];rfl),this.1 hb,hb]
    have hc:=zn p y (most-n)
    rw[this.1 hb]at hc
    split
    ·rename_i h;exfalso
     have hq:∀z:Ex,∀m,(dR p z m).2=true->1<=(dR p z m).1:=by
      refine Ex.ind λz ihz m hz=>?_
      have hLL:∀(l:List Ex),(∀y∈l,y∈z.l)->∀(n:Int) (ok:Bool),1<=n->(iZ p l m n ok).2=true->1<=(iZ p l m n ok).1:=by
       intro l
       induction l with
       |nil=>intro _ n ok h1 h2;rw[iZ];exact h1
       |cons y r ihr=>
        intro hl n ok h1 h2
        cases hb:!(bif ok then(dR p y (m-n)).2 else false)with
        |true=>rw[ng hb]at h2;exact Bool.noConfusion h2
        |false=>
         rw[uf hb]at h2 ⊢
         have:=ihz y (hl y (by simp)) (m-n) (z7c hb).2
         exact ihr (λz hz=>hl z (by simp[hz])) _ _ (by omega) h2
      rw[tZ]at hz ⊢
      split
      ·rename_i hh;rw[hh]at hz;exact Bool.noConfusion hz
      ·rename_i hh;rw[hh]at hz
       simp only at hz
       split
       ·rename_i h3;rw[if_pos h3]at hz;exact Bool.noConfusion hz
       ·rename_i h3;rw[if_neg h3]at hz
        split
        ·rename_i h4;rw[if_pos h4]at hz;exact Bool.noConfusion hz
        ·rename_i h4;rw[if_neg h4]at hz
         exact hLL z.l (λ_ h=>h) 1 _ (Int.le_refl _) hz
     have:=hq y _ hb
     omega
    ·exact ihr (λz hz=>hl z (by simp[hz])) _
 rw[oM]
 by_cases hm:most<1
 ·have hf:dR p x most=(0,false):=by
   cases h:lkI x.kind bU with
   |none=>exact vk h
   |some n=>exact vw h (by rw[decide_eq_true hm];cases ((x.l.length:Int) != n)<;>rfl)
  rw[hf,decide_eq_true hm]
  exact⟨λh=>Bool.noConfusion h,λ_=>rfl⟩
 ·have hm':1<=most:=by omega
  rw[decide_eq_false hm]
  cases ho:wJ p x with
  |true=>
   obtain⟨n,h1,h2,h3,h4⟩:=(own_fits hm').2 ho
   rw[vz h1 h2 h3,h4]
   exact hL x.l (λ_ h=>h) 1
  |false=>
   have hn:¬∃n,lkI x.kind bU=some n/\(bif (x.l.length:Int) != n then true else decide (most<1))=false/\inM x.index (lkI x.kind (jQ p))=true/\ok0 p x.kind x.index x.n=true:=by
    rw[own_fits hm',ho];exact Bool.noConfusion
   refine⟨λh=>?_,λ_=>rfl⟩
   exfalso
   cases h1:lkI x.kind bU with
   |none=>rw[vk h1]at h;exact Bool.noConfusion h
   |some n=>
    cases h2:(bif (x.l.length:Int) != n then true else decide (most<1))with
    |true=>rw[vw h1 h2]at h;exact Bool.noConfusion h
    |false=>
     cases h3:inM x.index (lkI x.kind (jQ p))with
     |false=>rw[DN h1 h2 h3]at h;exact Bool.noConfusion h
     |true=>
      rw[vz h1 h2 h3]at h
      have h4:ok0 p x.kind x.index x.n=false:=by
       cases h4:ok0 p x.kind x.index x.n with
       |false=>rfl
       |true=>exact absurd ⟨n,h1,h2,h3,h4⟩ hn
      rw[h4]at h
      cases hl:x.l with
      |nil=>rw[hl,iZ]at h;exact Bool.noConfusion h
      |cons y r=>rw[hl,ng rfl]at h;exact Bool.noConfusion h
theorem ZC{p:Pr}(ht:p.tables.all kz=true):∀(x:Ex) (most:Int),(dR p x most).2=true->wfX p p.stmts.length x=true:=by
 refine Ex.ind λx ih most h=>?_
 have hm:1<=most:=by
  rcases zn p x most with q |q
  ·have:=(vC p x most).1 h
   rw[oM]at q this
   split at q
   ·rename_i hq
    cases hc:decide (most<1)with
    |false=>simpa using hc
    |true=>
     have hf:dR p x most=(0,false):=by
      cases h:lkI x.kind bU with
      |none=>exact vk h
      |some n=>exact vw h (by rw[hc];cases ((x.l.length:Int) != n)<;>rfl)
     rw[hf]at h;exact Bool.noConfusion h
   ·rename_i hq
    cases hc:decide (most<1)with
    |false=>simpa using hc
    |true=>rw[hc]at hq;exact absurd rfl hq
  ·omega
 have ho:wJ p x=true:=by
  cases ho:wJ p x with
  |true=>rfl
  |false=>
   have h1:=(vC p x most).1 h
   have h2:nG p x most = -1:=by rw[oM,ho];cases decide (most<1)<;>rfl
   have:=xy p x
   have h3:=zn p x most
   exfalso
   cases h1':lkI x.kind bU with
   |none=>rw[vk h1']at h;exact Bool.noConfusion h
   |some n=>
    cases h2':(bif (x.l.length:Int) != n then true else decide (most<1))with
    |true=>rw[vw h1' h2']at h;exact Bool.noConfusion h
    |false=>
     cases h3':inM x.index (lkI x.kind (jQ p))with
     |false=>rw[DN h1' h2' h3']at h;exact Bool.noConfusion h
     |true=>
      cases h4:ok0 p x.kind x.index x.n with
      |true=>have:=(own_fits hm).1 ⟨n,h1',h2',h3',h4⟩;rw[ho]at this;exact Bool.noConfusion this
      |false=>
       rw[vz h1' h2' h3',h4]at h
       cases hl:x.l with
       |nil=>rw[hl,iZ]at h;exact Bool.noConfusion h
       |cons y r=>rw[hl,ng rfl]at h;exact Bool.noConfusion h
 obtain⟨n,h1,h2,h3,h4⟩:=(own_fits hm).2 ho
 rw[vz h1 h2 h3,h4]at h
 have hL:∀(l:List Ex),(∀y∈l,y∈x.l)->∀(n:Int) (ok:Bool),(iZ p l most n ok).2=true->wfL p p.stmts.length l=true:=by
  intro l
  induction l with
  |nil=>intro _ n ok _;rfl
  |cons y r ihr=>
   intro hl n ok h
   cases hb:!(bif ok then(dR p y (most-n)).2 else false)with
   |true=>rw[ng hb]at h;exact Bool.noConfusion h
   |false=>
    rw[uf hb]at h
    simp only[wfL,Bool.and_eq_true]
    exact⟨ih y (hl y (by simp)) _ (z7c hb).2,ihr (λz hz=>hl z (by simp[hz])) _ _ h⟩
 rw[Lj,hL x.l (λ_ h=>h) _ _ h,Bool.and_true]
 rw[BF]at h1
 have hne:∀i:Int,0<=i->i<p.tables.length->(aO p i==[])=false:=by
  intro i h0 h1
  have hm:p.tables.getD i.toNat Tb.none∈p.tables:=by
   have:i.toNat<p.tables.length:=by omega
   rw[List.getD_eq_getElem?_getD,List.getElem?_eq_getElem this];exact List.getElem_mem this
  have hq:=List.all_eq_true.1 ht _ hm
  simp only[kz,Bool.not_eq_true',Bool.or_eq_false_iff,decide_eq_false_iff_not]at hq
  rw[beq_eq_false_iff_ne];intro h0;rw[aO]at h0;rw[h0]at hq;simp at hq
 by_cases hk:1<=x.kind/\x.kind<=19
 ·rw[wJ]at ho
  rcases Nam.kinds_cases hk with h |h |h |h |h |h |h |h |h |h |h |h |h |h |h |h |h |h |h<;>rw[h]at ho ⊢ <;> simp[kL,Ref15.parts,uw]at ho ⊢ <;> first
   |exact ho
   |omega
   |exact⟨ho.1.1,ho.1.2⟩
   |exact⟨ho.2.1.1,ho.2.1.2⟩
   |exact ho.2.1
   |exact⟨ho.2.1,ho.2.2.1⟩
   |exact⟨ho.1,ho.2.1⟩
   |exact⟨ho.1,ho.2,beq_eq_false_iff_ne.1 (hne x.index ho.2.1 ho.2.2)⟩
 ·have h1':∀n:Int,1<=n->n<=19->(x.kind==n)=false:=λn a b=>by
   simp only[beq_eq_false_iff_ne];omega
  have:kL x.kind = -1:=by simp[kL,h1']
  rw[this]at h1;cases h1
end Go.Fw.Rg
namespace Go.Fw.Rg
open Go.Fw Go.Fw.Ref15
variable [af] {k i m : Int} {p : Pr} {n : Nat}
def z9v:Except Int Sp->D
 | .ok s=>.tuple [.i s.1,.i s.2,.i 0]
 | .error e=>.tuple [.i 0,.i 0,.i e]
theorem z3w(h:uw p n k i m=true)(hk:(k==4)=true):0<=i/\i<p.states.length:=by
 have:k=4:=by simpa using hk
 subst this
 have h:(decide (0<=i)&&decide (i<p.states.length))=true:=h
 simpa using h
theorem XO(h:uw p n k i m=true)(hk:(k==5)=true):0<=i/\i<n:=by
 have:k=5:=by simpa using hk
 subst this
 have h:(decide (0<=i)&&decide (i<n))=true:=h
 simpa using h
theorem z3x(h:uw p n k i m=true)(hk:(k==8)=true):0<=i/\i<p.lines.length:=by
 have:k=8:=by simpa using hk
 subst this
 have h:(decide (0<=i)&&decide (i<p.lines.length))=true:=h
 simpa using h
theorem z3y(h:uw p n k i m=true)(hk:(k==9)=true):0<=i/\i<p.tables.length/\aO p i ≠ []:=by
 have:k=9:=by simpa using hk
 subst this
 have h:(decide (0<=i)&&decide (i<p.tables.length) && !(aO p i==[]))=true:=h
 simp only[Bool.and_eq_true,decide_eq_true_eq,Bool.not_eq_true',beq_eq_false_iff_ne]at h
 exact⟨h.1.1,h.1.2,h.2⟩
theorem ZE(h:uw p n k i m=true)(hk:(k==18)=true):1<=m:=by
 have:k=18:=by simpa using hk
 subst this
 have h:(decide (1<=m)&&decide (m<=2147483648))=true:=h
 simp only[Bool.and_eq_true,decide_eq_true_eq]at h;exact h.1
theorem z3z{found l:List Sp}(c:Int)(hk:(k==c)=true):opM p found k i m l=opM p found c i m l:=by
 have:k=c:=by simpa using hk
 rw[this]
theorem ZF{c:Prop}[Decidable c]{a b:Except Int Sp}{e:Int}{P:Prop}(h:(if c then a else b) = .error e)(ha:a = .error e->P)(hb:b = .error e->P):P:=by
 split at h
 ·exact ha h
 ·exact hb h
theorem ZG{found:List Sp}:∀(x:Ex) (e:Int),dG p found x = .error e->e=160\/e=161:=by
 have hO:∀(k i m:Int) (l:List Sp) (e:Int),opM p found k i m l = .error e->e=160\/e=161:=by
  intro k i m l e h
  unfold opM at h
  repeat' (refine ZF h ?_ ?_<;>(clear h;intro h))
  all_goals first
   |(cases h;done)
   |(cases h;exact .inl rfl)
   |(cases h;exact .inr rfl)
 refine Ex.ind λx ih e h=>?_
 have hL:∀(l:List Ex),(∀y∈l,y∈x.l)->∀e,cO p found l = .error e->e=160\/e=161:=by
  intro l
  induction l with
  |nil=>intro _ e h;rw[cO]at h;cases h
  |cons y r ihr=>
   intro hl e h
   rw[cO]at h
   cases hy:dG p found y with
   |error e'=>rw[hy]at h;cases h;exact ih y (hl y (by simp)) _ hy
   |ok s=>
    rw[hy]at h
    simp only at h
    cases hr:cO p found r with
    |error e'=>rw[hr]at h;cases h;exact ihr (λz hz=>hl z (by simp[hz])) _ hr
    |ok t=>rw[hr]at h;cases h
 rw[jl]at h
 cases hl:cO p found x.l with
 |error e'=>rw[hl]at h;cases h;exact hL _ (λ_ h=>h) _ hl
 |ok s=>rw[hl]at h;exact hO _ _ _ _ _ h
end Go.Fw.Rg
namespace Go.Fw.Rg
open Go.Fw Go.Fw.Ref15
variable [af]
def aJ(p:Pr):List Sp×Int:=if(resE p != 0)=true then([],resE p)else match bK p p.stmts []with
 | .ok F=>(F,0)
 | .error e=>([],e)
def DR(p:Pr)(x:Ex):Bool:=(dR p x 512).2
def fP(p:Pr)(x:Ex):Except Int Sp:=if((aJ p).2 != 0)=true then .error (aJ p).2 else if DR p x then dG p (aJ p).1 x else .error 150
theorem pq{p:Pr}{F:List Sp}(h:resE p=0)(h2:bK p p.stmts [] = .ok F):aJ p=(F,0):=by
 have h:¬((resE p != 0)=true):=by rw[h];decide
 rw[aJ,if_neg h,h2]
theorem zo{p:Pr}{e:Int}(h:resE p=0)(h2:bK p p.stmts [] = .error e):aJ p=([],e):=by
 have h:¬((resE p != 0)=true):=by rw[h];decide
 rw[aJ,if_neg h,h2]
theorem pF{p:Pr}(h:(resE p != 0)=true):aJ p=([],resE p):=by rw[aJ,if_pos h]
theorem XP{p:Pr}:∀(r:List Sm) (fs:List Sp) (e:Int),bK p r fs = .error e->e=160\/e=161
 | [],fs,e,h=>by rw[bK]at h;cases h
 |s::r,fs,e,h=>by
  rw[bK]at h
  cases hf:dG p fs s.x with
  |error e'=>rw[hf]at h;cases h;exact ZG _ _ hf
  |ok f=>
   rw[hf]at h
   simp only at h
   split at h
   ·exact XP r _ e h
   ·cases h;exact .inr rfl
theorem RQ{p:Pr}{e:Int}(h:bK p p.stmts [] = .error e):(e != 0)=true:=by
 rcases XP _ _ _ h with r |r<;>subst r<;>rfl
structure BOk(p:Pr)(F:List Sp):Prop where
 res:Res p
 run:bK p p.stmts [] = .ok F
 len:F.length=p.stmts.length
 ins:InS F
variable {p : Pr} {F : List Sp} {x : Ex}
theorem RS(hR:Rng p):∀(r:List Sm) (i:Nat) (fs F:List Sp),tK p i r=true->fs.length=i->InS fs->bK p r fs = .ok F->F.length=i+r.length/\InS F
 | [],i,fs,F,_,hl,hi,h=>by rw[bK]at h;cases h;exact⟨by simp[hl],hi⟩
 |s::r,i,fs,F,hw,hl,hi,h=>by
  rw[bK]at h
  cases hf:dG p fs s.x with
  |error e'=>rw[hf]at h;cases h
  |ok f=>
   rw[hf]at h
   simp only at h
   split at h
   ·have hq:=xq hR hi _ _ (by rw[hl];exact Ri hw) hf
    have:=RS hR r (i+1) (fs++[f]) F (oK hw) (by simp[hl]) (Dv hi hq) h
    exact⟨by simp only[List.length_cons];omega,this.2⟩
   ·cases h
theorem z4a(h:resE p=0)(h2:bK p p.stmts [] = .ok F):BOk p F:=by
 have hr:=xx h
 have:=RS hr.rng p.stmts 0 [] F hr.wf rfl (λs hs=>by simp at hs) h2
 exact⟨hr,h2,by simpa using this.1,this.2⟩
theorem lh(h:(aJ p).2=0):BOk p (aJ p).1/\resE p=0:=by
 cases hz:resE p != 0 with
 |true=>rw[pF hz]at h;have h:resE p=0:=h;rw[h]at hz;exact absurd hz (by decide)
 |false=>
  have hz:resE p=0:=by simpa using hz
  cases hs:bK p p.stmts []with
  |error e=>rw[zo hz hs]at h;have h:e=0:=h;have:=RQ hs;rw[h]at this;exact absurd this (by decide)
  |ok F=>rw[pq hz hs];exact⟨z4a hz hs,hz⟩
theorem Jg(p:Pr)(x:Ex):decide (nG p x 512>0)=DR p x:=by
 have h:=vC p x 512
 have hr:=xy p x 512 (by decide)
 cases hb:DR p x with
 |true=>have hb':(dR p x 512).2=true:=hb;rw[h.1 hb'];have:=hr.2.2 hb';exact decide_eq_true (by omega)
 |false=>have hb':(dR p x 512).2=false:=hb;rw[h.2 hb'];rfl
theorem z4b(h:BOk p F)(hx:DR p x=true):wfX p F.length x=true:=by
 rw[h.len];exact ZC h.res.tb x 512 hx
theorem ZH(h:((aJ p).2 != 0)=true):fP p x = .error (aJ p).2:=by rw[fP,if_pos h]
theorem RU(h:(aJ p).2=0)(hx:DR p x=false):fP p x = .error 150:=by
 rw[fP,if_neg (by rw[h];decide),hx];rfl
theorem RV(h:(aJ p).2=0)(hx:DR p x=true):fP p x=dG p (aJ p).1 x:=by
 rw[fP,if_neg (by rw[h];decide),hx];rfl
theorem stmF_ok':∀(r:List Sm) (fs F:List Sp),bK p r fs = .ok F->gI p r fs=F
 | [],fs,F,h=>by rw[bK]at h;cases h;rfl
 |s::r,fs,F,h=>by
  rw[bK]at h
  rw[gI]
  cases hf:dG p fs s.x with
  |error e'=>rw[hf]at h;cases h
  |ok f=>
   rw[hf]at h
   simp only at h ⊢
   split at h
   ·rename_i hw;rw[if_pos hw];exact stmF_ok' r _ F h
   ·cases h
theorem ZI(h:bK p p.stmts [] = .ok F):gI p p.stmts []=F:=stmF_ok' _ _ _ h
theorem RX{p:Pr}(h:p.params.length<=4/\p.states.length<=4/\p.lines.length<=4/\p.tables.length<=4/\p.stmts.length<=4/\(p.stmts.all λs=>Nat.ble (Ref15.nodes s.x) 100)=true/\(p.tables.all λt=>Nat.ble t.values.length 100)=true):iY p:=by
 obtain⟨h1,h2,h3,h4,h5,h6,h7⟩:=h
 refine⟨⟨by omega,by omega,by omega,by omega,by omega⟩,λs hs=>?_,λt ht=>?_⟩
 ·have:=Nat.le_of_ble_eq_true (List.all_eq_true.1 h6 s hs);omega
 ·have:=Nat.le_of_ble_eq_true (List.all_eq_true.1 h7 t ht);omega
def LM(s' s:Sp):Prop:=s.1<=s'.1/\s'.1<=s'.2/\s'.2<=s.2
def Uz(l' l:List Sp):Prop:=∀i:Nat,LM (l'.getD i (0,0)) (l.getD i (0,0))
theorem kN{s:Sp}(h:s.1<=s.2):LM s s:=⟨Int.le_refl _,h,Int.le_refl _⟩
theorem VR:Uz [] []:=λi=>by simp[LM]
theorem RY{a b:Sp}{l m:List Sp}(h:LM a b)(h2:Uz l m):Uz (a::l) (b::m):=λi=>by
 cases i with
 |zero=>exact h
 |succ i=>simpa using h2 i
theorem qW{a b x y:Int}(h1:a<=x)(h2:x<=b):(a * y<=x * y/\x * y<=b * y)\/(b * y<=x * y/\x * y<=a * y):=by
 by_cases hy:0<=y
 ·exact .inl ⟨Int.mul_le_mul_of_nonneg_right h1 hy,Int.mul_le_mul_of_nonneg_right h2 hy⟩
 ·exact .inr ⟨Int.mul_le_mul_of_nonpos_right h2 (by omega),Int.mul_le_mul_of_nonpos_right h1 (by omega)⟩
theorem ZJ{a1 a2 b1 b2 x y L H:Int}(h1:a1<=x)(h2:x<=a2)(h3:b1<=y)(h4:y<=b2)(c1:L<=a1 * b1/\a1 * b1<=H)(c2:L<=a1 * b2/\a1 * b2<=H)(c3:L<=a2 * b1/\a2 * b1<=H)(c4:L<=a2 * b2/\a2 * b2<=H):L<=x * y/\x * y<=H:=by
 have e1:L<=x * b1/\x * b1<=H:=by
  rcases qW (y:=b1) h1 h2 with h |h<;>omega
 have e2:L<=x * b2/\x * b2<=H:=by
  rcases qW (y:=b2) h1 h2 with h |h<;>omega
 rcases qW (y:=x) h3 h4 with h |h<;>rw[Int.mul_comm b1,Int.mul_comm b2,Int.mul_comm y]at h<;>omega
theorem Si(a b c d:Int):Le a b c d<=a/\Le a b c d<=b/\Le a b c d<=c/\Le a b c d<=d:=by
 simp only[Le,mm2];(repeat' split)<;>omega
theorem Sj(a b c d:Int):a<=Lh a b c d/\b<=Lh a b c d/\c<=Lh a b c d/\d<=Lh a b c d:=by
 simp only[Lh,mm2];(repeat' split)<;>omega
theorem LP{a b c d L:Int}(h1:L<=a)(h2:L<=b)(h3:L<=c)(h4:L<=d):L<=Le a b c d:=by
 simp only[Le,mm2];(repeat' split)<;>omega
theorem LQ{a b c d H:Int}(h1:a<=H)(h2:b<=H)(h3:c<=H)(h4:d<=H):Lh a b c d<=H:=by
 simp only[Lh,mm2];(repeat' split)<;>omega
theorem VS{a b a' b' s:Sp}(h:prodM a b = .ok s)(ha:LM a' a)(hb:LM b' b):∃s',prodM a' b' = .ok s'/\LM s' s:=by
 obtain⟨rfl,w1,w2,w3,w4⟩:=Lr h
 obtain⟨n1,n2,n3,n4⟩:=Si (a.1 * b.1) (a.1 * b.2) (a.2 * b.1) (a.2 * b.2)
 obtain⟨m1,m2,m3,m4⟩:=Sj (a.1 * b.1) (a.1 * b.2) (a.2 * b.1) (a.2 * b.2)
 obtain⟨p1,p2,p3⟩:=ha
 obtain⟨q1,q2,q3⟩:=hb
 have hin:∀x y:Int,a.1<=x->x<=a.2->b.1<=y->y<=b.2->Le (a.1 * b.1) (a.1 * b.2) (a.2 * b.1) (a.2 * b.2)<=x * y/\x * y<=Lh (a.1 * b.1) (a.1 * b.2) (a.2 * b.1) (a.2 * b.2):=λx y g1 g2 g3 g4=>ZJ g1 g2 g3 g4 ⟨n1,m1⟩ ⟨n2,m2⟩ ⟨n3,m3⟩ ⟨n4,m4⟩
 have k1:=hin a'.1 b'.1 (by omega) (by omega) (by omega) (by omega)
 have k2:=hin a'.1 b'.2 (by omega) (by omega) (by omega) (by omega)
 have k3:=hin a'.2 b'.1 (by omega) (by omega) (by omega) (by omega)
 have k4:=hin a'.2 b'.2 (by omega) (by omega) (by omega) (by omega)
 have lo:-4611686018427387904<=Le (a.1 * b.1) (a.1 * b.2) (a.2 * b.1) (a.2 * b.2):=by
  have:=bV.1 w1;have:=bV.1 w2;have:=bV.1 w3;have:=bV.1 w4
  exact LP (by omega) (by omega) (by omega) (by omega)
 have hi:Lh (a.1 * b.1) (a.1 * b.2) (a.2 * b.1) (a.2 * b.2)<=4611686018427387904:=by
  have:=bV.1 w1;have:=bV.1 w2;have:=bV.1 w3;have:=bV.1 w4
  exact LQ (by omega) (by omega) (by omega) (by omega)
 refine⟨(Le (a'.1 * b'.1) (a'.1 * b'.2) (a'.2 * b'.1) (a'.2 * b'.2),Lh (a'.1 * b'.1) (a'.1 * b'.2) (a'.2 * b'.1) (a'.2 * b'.2)),?_,?_,?_,?_⟩
 ·rw[prodM,bV.2 (show _<=a'.1 * b'.1/\_ by omega),bV.2 (show _<=a'.1 * b'.2/\_ by omega),bV.2 (show _<=a'.2 * b'.1/\_ by omega),bV.2 (show _<=a'.2 * b'.2/\_ by omega)];rfl
 ·exact LP k1.1 k2.1 k3.1 k4.1
 ·exact Int.le_trans (Si _ _ _ _).1 (Sj _ _ _ _).1
 ·exact LQ k1.2 k2.2 k3.2 k4.2
theorem Sl{a b c d a' b' c' d':Int}{s:Sp}(h:two (a+b) (c+d) = .ok s)(h1:a<=a')(h2:b<=b')(h3:c'<=c)(h4:d'<=d)(h5:a'+b'<=c'+d'):∃s',two (a'+b') (c'+d') = .ok s'/\LM s' s:=by
 obtain⟨rfl,w1,w2⟩:=I7 h
 have w1:=bV.1 w1;have w2:=bV.1 w2
 refine⟨(a'+b',c'+d'),?_,by simp only;omega,by simp only;omega,by simp only;omega⟩
 rw[two,bV.2 (show _<=a'+b'/\_ by omega),bV.2 (show _<=c'+d'/\_ by omega)];rfl
theorem zq{a b:Int}(h:a<=b):pU a<=pU b:=by
 simp only[pU];(repeat' split)<;>omega
theorem lm{t:Bool}{a b a' b':Int}(h1:a<=a')(h2:b<=b'):mm2 t a b<=mm2 t a' b':=by
 cases t<;>simp only[mm2]<;>(repeat' split)<;>omega
theorem ZK{a a':Sp}(h:LM a' a):LM (QZ a') (QZ a):=by
 obtain⟨h1,h2,h3⟩:=h
 simp only[QZ,mm2]
 (repeat' split)<;>simp only[LM]<;>omega
structure Nar(p' p:Pr):Prop where
 par:∀i:Nat,(p.params.getD i Bd.none).lo<=(p'.params.getD i Bd.none).lo/\(p'.params.getD i Bd.none).lo<=(p'.params.getD i Bd.none).hi/\(p'.params.getD i Bd.none).hi<=(p.params.getD i Bd.none).hi
 sta:p'.states=p.states
 lin:p'.lines=p.lines
 tab:p'.tables=p.tables
theorem VT{p:Pr}(hR:Rng p):Nar p p:=by
 refine⟨λi=>?_,rfl,rfl,rfl⟩
 rw[List.getD_eq_getElem?_getD]
 cases h:p.params[i]? with
 |none=>exact⟨Int.le_refl _,Int.le_refl _,Int.le_refl _⟩
 |some b=>have:=hR.par b (List.mem_of_getElem? h);exact⟨Int.le_refl _,this.2.1,Int.le_refl _⟩
theorem z4c(m:Int)(l:List Int):minL m l<=maxL m l:=Int.le_trans (I4 l m).1 (I5 l m).1
theorem ZL{p p':Pr}{found found' l l':List Sp}{k i m:Int}{s:Sp}{n:Nat}(hR:Rng p)(hp:Nar p' p)(hF:Uz found' found)(hl:Uz l' l)(hw:uw p n k i m=true)(h:opM p found k i m l = .ok s):∃s',opM p' found' k i m l' = .ok s'/\LM s' s:=by
 have h0:=hl 0;have h1:=hl 1;have h2:=hl 2;have h3:=hl 3
 rcases kinds hw with r |r |r |r |r |r |r |r |r |r |r |r |r |r |r |r |r |r<;>subst r
 ·cases (show(Except.ok (m,m):Except Int Sp) = .ok s from h);exact⟨_,rfl,kN (Int.le_refl _)⟩
 ·cases (show(Except.ok ((jD p i).lo,(jD p i).hi):Except Int Sp) = .ok s from h);exact⟨_,rfl,hp.par i.toNat⟩
 ·cases (show(Except.ok ((bT p i).lo,(bT p i).hi):Except Int Sp) = .ok s from h)
  refine⟨((bT p i).lo,(bT p i).hi),?_,kN ?_⟩
  ·show(Except.ok ((bT p' i).lo,(bT p' i).hi):Except Int Sp)=_
   rw[bT,hp.sta]
  ·have hq:=z3w hw rfl
   exact(hR.sta _ (getD_mem' Bd.none hq.1 hq.2)).2.1
 ·cases (show(Except.ok (found.getD i.toNat (0,0)):Except Int Sp) = .ok s from h);exact⟨_,rfl,hF i.toNat⟩
 ·have h:aheadM (l.getD 0 (0,0)) = .ok s:=h
  have hs:=tJ h
  refine⟨s,?_,by subst hs;exact kN (by decide)⟩
  show aheadM (l'.getD 0 (0,0)) = .ok s
  subst hs
  rw[aheadM]at h ⊢
  split at h
  ·cases h
  ·rename_i hq
   simp only[Bool.or_eq_true,decide_eq_true_eq,not_or]at hq
   obtain⟨g1,g2,g3⟩:=h0
   rw[if_neg]
   simp only[Bool.or_eq_true,decide_eq_true_eq,not_or];omega
 ·have h:aheadM (l.getD 0 (0,0)) = .ok s:=h
  have hs:=tJ h
  refine⟨s,?_,by subst hs;exact kN (by decide)⟩
  show aheadM (l'.getD 0 (0,0)) = .ok s
  subst hs
  rw[aheadM]at h ⊢
  split at h
  ·cases h
  ·rename_i hq
   simp only[Bool.or_eq_true,decide_eq_true_eq,not_or]at hq
   obtain⟨g1,g2,g3⟩:=h0
   rw[if_neg]
   simp only[Bool.or_eq_true,decide_eq_true_eq,not_or];omega
 ·cases (show(Except.ok (mm2 false (bW p i).lo 0,mm2 true (bW p i).hi 0):Except Int Sp) = .ok s from h)
  refine⟨(mm2 false (bW p i).lo 0,mm2 true (bW p i).hi 0),?_,kN ?_⟩
  ·show(Except.ok (mm2 false (bW p' i).lo 0,mm2 true (bW p' i).hi 0):Except Int Sp)=_
   rw[bW,hp.lin]
  ·simp only[mm2];(repeat' split)<;>omega
 ·cases (show(Except.ok (minL ((aO p i).getD 0 0) (aO p i),maxL ((aO p i).getD 0 0) (aO p i)):Except Int Sp) = .ok s from h)
  refine⟨(minL ((aO p i).getD 0 0) (aO p i),maxL ((aO p i).getD 0 0) (aO p i)),?_,kN (z4c _ _)⟩
  show(Except.ok (minL ((aO p' i).getD 0 0) (aO p' i),maxL ((aO p' i).getD 0 0) (aO p' i)):Except Int Sp)=_
  rw[aO,hp.tab]
 ·cases (show(Except.ok (pU (l.getD 0 (0,0)).1,pU (l.getD 0 (0,0)).2):Except Int Sp) = .ok s from h)
  exact⟨_,rfl,zq h0.1,zq h0.2.1,zq h0.2.2⟩
 ·cases (show(Except.ok (mm2 false (l.getD 0 (0,0)).1 (l.getD 1 (0,0)).1,mm2 false (l.getD 0 (0,0)).2 (l.getD 1 (0,0)).2):Except Int Sp) = .ok s from h)
  exact⟨_,rfl,lm (t:=false) h0.1 h1.1,lm (t:=false) h0.2.1 h1.2.1,lm (t:=false) h0.2.2 h1.2.2⟩
 ·cases (show(Except.ok (mm2 true (l.getD 0 (0,0)).1 (l.getD 1 (0,0)).1,mm2 true (l.getD 0 (0,0)).2 (l.getD 1 (0,0)).2):Except Int Sp) = .ok s from h)
  exact⟨_,rfl,lm (t:=true) h0.1 h1.1,lm (t:=true) h0.2.1 h1.2.1,lm (t:=true) h0.2.2 h1.2.2⟩
 ·cases (show(Except.ok (QZ (l.getD 0 (0,0))):Except Int Sp) = .ok s from h)
  exact⟨_,rfl,ZK h0⟩
 ·cases (show(Except.ok (-(l.getD 0 (0,0)).2,-(l.getD 0 (0,0)).1):Except Int Sp) = .ok s from h)
  obtain⟨g1,g2,g3⟩:=h0
  exact⟨_,rfl,by simp only[LM];omega⟩
 ·obtain⟨g1,g2,g3⟩:=h0;obtain⟨k1,k2,k3⟩:=h1
  exact Sl (show two ((l.getD 0 (0,0)).1+(l.getD 1 (0,0)).1) ((l.getD 0 (0,0)).2+(l.getD 1 (0,0)).2) = .ok s from h) g1 k1 g3 k3 (by omega)
 ·obtain⟨g1,g2,g3⟩:=h0;obtain⟨k1,k2,k3⟩:=h1
  exact Sl (show two ((l.getD 0 (0,0)).1 + -(l.getD 1 (0,0)).2) ((l.getD 0 (0,0)).2 + -(l.getD 1 (0,0)).1) = .ok s from h) g1 (by omega) g3 (by omega) (by omega)
 ·exact VS (show prodM (l.getD 0 (0,0)) (l.getD 1 (0,0)) = .ok s from h) h0 h1
 ·cases (show(Except.ok (oJ (l.getD 0 (0,0)).1 m,oJ (l.getD 0 (0,0)).2 m):Except Int Sp) = .ok s from h)
  have hm:=ZE hw rfl
  obtain⟨g1,g2,g3⟩:=h0
  exact⟨_,rfl,Int.ediv_le_ediv (by omega) g1,Int.ediv_le_ediv (by omega) g2,Int.ediv_le_ediv (by omega) g3⟩
 ·cases (show(Except.ok (mm2 false (l.getD 2 (0,0)).1 (l.getD 3 (0,0)).1,mm2 true (l.getD 2 (0,0)).2 (l.getD 3 (0,0)).2):Except Int Sp) = .ok s from h)
  obtain⟨g1,g2,g3⟩:=h2
  refine⟨_,rfl,lm (t:=false) g1 h3.1,?_,lm (t:=true) g3 h3.2.2⟩
  simp only[mm2];(repeat' split)<;>omega
mutual
theorem F6{p p':Pr}{found found':List Sp}(hR:Rng p)(hp:Nar p' p)(hF:Uz found' found):∀(x:Ex) (s:Sp),wfX p found.length x=true->dG p found x = .ok s->∃s',dG p' found' x = .ok s'/\LM s' s
 | .mk k nm i m l,s,hw,h=>by
  obtain⟨_,g2,g3⟩:=bP hw
  rw[jl]at h
  rw[jl]
  simp only[Ex.l,Ex.kind,Ex.index,Ex.n]at h g2 g3 ⊢
  cases hl:cO p found l with
  |error e=>rw[hl]at h;cases h
  |ok t=>
   rw[hl]at h
   obtain⟨t',ht,hs⟩:=F7 hR hp hF l t g3 hl
   rw[ht]
   exact ZL hR hp hF hs g2 h
theorem F7{p p':Pr}{found found':List Sp}(hR:Rng p)(hp:Nar p' p)(hF:Uz found' found):∀(l:List Ex) (t:List Sp),wfL p found.length l=true->cO p found l = .ok t->∃t',cO p' found' l = .ok t'/\Uz t' t
 | [],t,_,h=>by rw[cO]at h;cases h;exact⟨[],rfl,VR⟩
 |x::r,t,hw,h=>by
  simp only[wfL,Bool.and_eq_true]at hw
  rw[cO]at h
  cases hx:dG p found x with
  |error e=>rw[hx]at h;cases h
  |ok s=>
   rw[hx]at h
   simp only at h
   cases hr:cO p found r with
   |error e=>rw[hr]at h;cases h
   |ok u=>
    rw[hr]at h
    cases h
    obtain⟨s',hs,hi⟩:=F6 hR hp hF x s hw.1 hx
    obtain⟨u',hu,hj⟩:=F7 hR hp hF r u hw.2 hr
    exact⟨s'::u',by rw[cO,hs,hu],RY hi hj⟩
end
theorem F8{p:Pr}{found:List Sp}(hR:Rng p)(hF:Uz found found){x:Ex}{s:Sp}(hw:wfX p found.length x=true)(h:dG p found x = .ok s):s.1<=s.2:=by
 obtain⟨s',hs,hi⟩:=F6 hR (VT hR) hF x s hw h
 rw[h]at hs;cases hs;exact hi.2.1
structure FOk(found:List Sp):Prop where
 ins:InS found
 ord:∀s∈found,s.1<=s.2
theorem FOk.sub{found:List Sp}(h:FOk found):Uz found found:=λi=>by
 rw[List.getD_eq_getElem?_getD]
 cases hq:found[i]? with
 |none=>exact⟨Int.le_refl _,Int.le_refl _,Int.le_refl _⟩
 |some s=>exact kN (h.ord s (List.mem_of_getElem? hq))
theorem BG{p:Pr}{found:List Sp}:∀{l:List Ex} {t:List Sp},cO p found l = .ok t->∀y∈l,∃s,dG p found y = .ok s
 |x::r,t,h,y,hy=>by
  rw[cO]at h
  cases hx:dG p found x with
  |error e=>rw[hx]at h;cases h
  |ok s=>
   rw[hx]at h
   simp only at h
   cases hr:cO p found r with
   |error e=>rw[hr]at h;cases h
   |ok u=>
    rcases List.mem_cons.1 hy with rfl |hy
    ·exact⟨s,hx⟩
    ·exact BG hr y hy
theorem Sr{p:Pr}(hR:Rng p):∀(r:List Sm) (i:Nat) (fs F:List Sp),tK p i r=true->fs.length=i->FOk fs->bK p r fs = .ok F->FOk F
 | [],i,fs,F,_,hl,hi,h=>by rw[bK]at h;cases h;exact hi
 |s::r,i,fs,F,hw,hl,hi,h=>by
  rw[bK]at h
  cases hf:dG p fs s.x with
  |error e'=>rw[hf]at h;cases h
  |ok f=>
   rw[hf]at h
   simp only at h
   have hx:wfX p fs.length s.x=true:=by rw[hl];exact Ri hw
   split at h
   ·refine Sr hR r (i+1) (fs++[f]) F (oK hw) (by simp[hl]) ⟨Dv hi.ins (xq hR hi.ins _ _ hx hf),λs hs=>?_⟩ h
    rcases List.mem_append.1 hs with q |q
    ·exact hi.ord s q
    ·rw[List.mem_singleton.1 q];exact F8 hR hi.sub hx hf
   ·cases h
theorem BOk.fok{p:Pr}{F:List Sp}(h:BOk p F):FOk F:=Sr h.res.rng p.stmts 0 [] F h.res.wf rfl ⟨λs hs=>by simp at hs,λs hs=>by simp at hs⟩ h.run
theorem Jh{p:Pr}:∀(r:List Sm) (fs F:List Sp),bK p r fs = .ok F->∃t,F=fs++t
 | [],fs,F,h=>by rw[bK]at h;cases h;exact⟨[],by simp⟩
 |s::r,fs,F,h=>by
  rw[bK]at h
  cases hf:dG p fs s.x with
  |error e'=>rw[hf]at h;cases h
  |ok f=>
   rw[hf]at h
   simp only at h
   split at h
   ·obtain⟨t,rfl⟩:=Jh r _ F h;exact⟨f::t,by simp⟩
   ·cases h
theorem F9{p:Pr}{F:List Sp}(h:bK p p.stmts [] = .ok F):∀i,i<=p.stmts.length->bK p (p.stmts.drop i) (F.take i) = .ok F/\(F.take i).length=i
 | 0,_=>by simpa using h
 |i+1,hi=>by
  obtain⟨h1,h2⟩:=F9 h i (by omega)
  have hd:p.stmts.drop i=p.stmts[i]::p.stmts.drop (i+1):=List.drop_eq_getElem_cons (by omega)
  rw[hd,bK]at h1
  cases hf:dG p (F.take i) p.stmts[i].x with
  |error e'=>rw[hf]at h1;cases h1
  |ok f=>
   rw[hf]at h1
   simp only at h1
   split at h1
   ·obtain⟨t,ht⟩:=Jh _ _ _ h1
    have e:F.take (i+1)=F.take i++[f]:=by
     have:F.take (i+1)=(F.take i++[f]++t).take (i+1):=by rw[<-ht]
     rw[this,List.take_append_of_le_length (by simp[h2])]
     exact List.take_of_length_le (by simp[h2])
    rw[e];exact⟨h1,by simp[h2]⟩
   ·cases h1
theorem Gf{p:Pr}:∀(r:List Sm) (k i:Nat),tK p k r=true->tK p (k+i) (r.drop i)=true
 |r,k,0,h=>by simpa using h
 | [],k,i+1,_=>by simp[tK]
 |s::r,k,i+1,h=>by
  have:=Gf r (k+1) i (oK h)
  rw[show k+1+i=k+(i+1)by omega]at this
  simpa using this
structure z9w(p:Pr)(F:List Sp)(i:Nat)(s:Sm):Prop where
 lt:i<F.length
 run:dG p (F.take i) s.x = .ok (F.getD i (0,0))
 win:within p s (F.getD i (0,0))=true
 wf:wfS p i s=true
 len:(F.take i).length=i
theorem z8c{p:Pr}{F:List Sp}{i:Nat}{s:Sm}{r:List Sm}(h:BOk p F)(hd:p.stmts.drop i=s::r):z9w p F i s:=by
 have hi:i<p.stmts.length:=by
  by_cases hq:i<p.stmts.length
  ·exact hq
  ·rw[List.drop_eq_nil_iff.2 (by omega)]at hd;cases hd
 obtain⟨h1,h2⟩:=F9 h.run i (by omega)
 have hw:=Gf p.stmts 0 i h.res.wf
 rw[hd,Nat.zero_add]at hw
 rw[hd,bK]at h1
 cases hf:dG p (F.take i) s.x with
 |error e'=>rw[hf]at h1;cases h1
 |ok f=>
  rw[hf]at h1
  simp only at h1
  split at h1
  ·rename_i hwi
   obtain⟨t,ht⟩:=Jh _ _ _ h1
   have hl:i<F.length:=by rw[h.len];exact hi
   have e:F.getD i (0,0)=f:=by
    rw[List.getD_eq_getElem?_getD]
    have:F[i]? = some f:=by
     rw[ht,List.append_assoc,List.getElem?_append_right (by omega),h2];simp
    rw[this];rfl
   refine⟨hl,by rw[e];exact hf,by rw[e];exact hwi,?_,h2⟩
   simp only[tK,Bool.and_eq_true]at hw;exact hw.1
  ·cases h1
theorem BH{s:Str}:∀(l:List Sm) (i:Int),0<=i->0<=aB s l i->i<=aB s l i/\((l.getD (aB s l i-i).toNat Sm.none).kind==1)=true
 | [],i,_,h=>by simp[aB]at h
 |x::r,i,hi,h=>by
  simp only[aB]at h ⊢
  split
  ·rename_i hq
   simp only[Bool.and_eq_true]at hq
   refine⟨Int.le_refl _,?_⟩
   rw[show(i-i).toNat=0 by omega];exact hq.1
  ·rename_i hq
   rw[if_neg hq]at h
   obtain⟨a,b⟩:=BH r (i+1) (by omega) h
   refine⟨by omega,?_⟩
   rw[show(aB s r (i+1)-i).toNat=(aB s r (i+1)-(i+1)).toNat+1 by omega];exact b
end Go.Fw.Rg
