/- SyntaxBack: what is written are tokens; what is read can be written. -/
import Derived.Test.YtmfehangcmbidaaGreatDoorZPQ
import Derived.Test.YtmfehangcmbidaaGreatDoorZSD10
import Derived.Test.YtmfehangcmbidaaGreatDoorZPX
set_option linter.unusedSectionVars false
set_option linter.unusedSimpArgs false
set_option linter.unusedVariables false
namespace Go.Fw.Sy
open Go.Fw Go.Fw.Lx
variable [ae]
theorem Val.all{l:List Tk}(h:Val l):l.all valid=true:=List.all_eq_true.2 h
theorem NC(l m:List Pr):JP l m=true↔l=m.map bareP:=by
 have:=qB (f:=λq=>lS q.1 q.2) (λx y=>O8 x y) l (m.map bareP)
 rw[<-this]
 have e:∀(l m:List Pr),(l.zip m).all (λq=>lS q.1 (bareP q.2))=(l.zip (m.map bareP)).all (λq=>lS q.1 q.2):=by
  intro l
  induction l with
  |nil=>intro m;rfl
  |cons x l ih=>
   intro m
   cases m with
   |nil=>rfl
   |cons y m=>simp only[List.map_cons,List.zip_cons_cons,List.all_cons,ih]
 simp only[JP,lenE,List.length_map,e]
theorem Pm(k:Int):jJ (if k==3 || k==4 || k==5 then 2 else k)=jJ k/\Ah (if k==3 || k==4 || k==5 then 2 else k)=Ah k/\((if k==3 || k==4 || k==5 then 2 else k)==(1:Int))=(k==1):=by
 cases h:k==3 || k==4 || k==5 with
 |false=>exact⟨rfl,rfl,rfl⟩
 |true=>
  simp only[Bool.or_eq_true,beq_iff_eq]at h
  rcases h with(rfl |rfl) |rfl<;>exact⟨rfl,rfl,rfl⟩
theorem Pn(x:Ex):level (bareX x).kind=level x.kind:=by
 obtain⟨k,nm,i,n,l⟩:=x
 rw[bareX]
 show level (if k==3 || k==4 || k==5 then 2 else k)=level k
 cases h:k==3 || k==4 || k==5 with
 |false=>rfl
 |true=>
  simp only[Bool.or_eq_true,beq_iff_eq]at h
  rcases h with(rfl |rfl) |rfl<;>rfl
mutual
theorem xC:∀x:Ex,aZ (bareX x)=aZ x
 | .mk k nm i n l=>by
  obtain⟨h1,h2,h3⟩:=Pm k
  rw[bareX,aZ,aZ,h1,h2,h3]
  cases jJ k with
  |some f=>simp only;rw[Ib l]
  |none=>
   simp only
   cases Ah k with
   |some f=>simp only;rw[Ic l]
   |none=>rfl
theorem Ib:∀(l:List Ex) (hs:List Str) (lv:List Int),opsT (bareL l) hs lv=opsT l hs lv
 | [],hs,lv=>by rw[bareL]
 |x::l,[],lv=>by rw[bareL,opsT,opsT]
 |x::l,h::hs,lv=>by rw[bareL,opsT,opsT,Pn,xC x,Ib l]
theorem Ic:∀(l:List Ex) (m i:Nat),Fv (bareL l) m i=Fv l m i
 | [],m,i=>by rw[bareL]
 |x::l,0,i=>by rw[bareL,Fv,Fv]
 |x::l,m+1,i=>by rw[bareL,Fv,Fv,xC x,Ic l]
end
theorem UC(s:Sm):iV (bareS s)=iV s:=by
 unfold iV;rw[Ar,Ar];simp only[bareS,xC]
theorem ND{α β γ:Type}{f:α->β}{g:β->List γ}{h:α->List γ}(e:∀x,g (f x)=h x)(l:List α):(l.map f).flatMap g=l.flatMap h:=by
 induction l with
 |nil=>rfl
 |cons x l ih=>rw[List.map_cons,List.flatMap_cons,List.flatMap_cons,ih,e]
theorem UD(p:Pr):gW (bareP p)=gW p:=by
 unfold gW;simp only[bareP];rw[ND UC]
theorem Xl(l:List Pr):allT (l.map bareP)=allT l:=ND UD l
mutual
theorem Dn:∀x:Ex,bareX (bareX x)=bareX x
 | .mk k nm i n l=>by
  rw[bareX,bareX,Dp l]
  congr 1
  cases h:k==3 || k==4 || k==5 with
  |false=>rw[if_neg (c:=false=true) Bool.noConfusion,h];rfl
  |true=>rfl
theorem Dp:∀l:List Ex,bareL (bareL l)=bareL l
 | []=>rfl
 |x::l=>by rw[bareL,bareL,Dn x,Dp l]
end
theorem Po(p:Pr):bareP (bareP p)=bareP p:=by
 simp only[bareP,List.map_map,Function.comp_def,bareS,Dn]
theorem JV(l:List Pr):pW l=Au\/(pW l = .tuple [.str (textS (allT l)),.i 0]/\Val (allT l)/\(jV (allT l)).1=some (l.map bareP)):=by
 unfold pW
 cases h1:(allT l).all valid with
 |false=>exact .inl rfl
 |true=>
  rw[if_pos rfl]
  cases h2:(jV (allT l)).1 with
  |none=>exact .inl rfl
  |some ps=>
   simp only
   cases h3:JP ps l with
   |false=>exact .inl rfl
   |true=>
    refine .inr ⟨rfl,List.all_eq_true.1 h1,?_⟩
    rw[(NC ps l).1 h3]
theorem JW{l:List Pr}(hv:Val (allT l))(hr:(jV (allT l)).1=some (l.map bareP)):pW (l.map bareP) = .tuple [.str (textS (allT l)),.i 0]:=by
 unfold pW
 rw[Xl,hv.all,if_pos rfl,hr]
 simp only
 rw[if_pos]
 rw[NC,List.map_map]
 exact(List.map_congr_left λp _=>(Po p)).symm
theorem JX{l:List Pr}(hv:Val (allT l))(hr:(jV (allT l)).1=some (l.map bareP))(hb:decide (((textS (allT l)).length:Int)>65536)=false):xX (textS (allT l)) = .tuple [prs (l.map bareP),.i 0,.i 0]:=by
 obtain⟨h1,h2⟩:=Xc hv.all
 obtain⟨h3,h4⟩:=Xb h2
 cases hX:jV (place 0 (pairs (allT l)))with
 |mk o r=>
  rw[hX,hr]at h3
  obtain rfl:=h3
  exact Pg hb h1 hX
def tsz(l:List Tk):Nat:=(l.map λt=>(word t).length+1).sum
theorem dI:tsz []=0:=rfl
theorem cu(t:Tk)(l:List Tk):tsz (t::l)=(word t).length+1+tsz l:=by simp[tsz]
theorem iL(a b:List Tk):tsz (a++b)=tsz a+tsz b:=by simp[tsz]
theorem z05(l:List Tk):l.length<=tsz l:=by
 induction l with
 |nil=>exact Nat.le_refl _
 |cons t l ih=>rw[cu,List.length_cons];omega
theorem lT{α:Type}{g:α->List Tk}{w:α->Nat}:∀{l:List α},(∀x∈l,tsz (g x)<=w x)->tsz (l.flatMap g)<=(l.map w).sum
 | [],_=>Nat.le_refl _
 |x::l,h=>by
  rw[List.flatMap_cons,iL,List.map_cons,List.sum_cons]
  have:=h x (by simp)
  have:=lT (l:=l) λy hy=>h y (by simp[hy])
  omega
theorem UE(s:Str):(word (wd s)).length=s.length:=rfl
theorem NE(s:Str):(word (sg s)).length=s.length:=rfl
mutual
def wX:Ex->Nat
 | .mk _ nm _ n l=>nm.length+tsz (gm n)+40+wL l
def wL:List Ex->Nat
 | []=>0
 |x::r=>wX x+wL r
end
def hw(hs:List Str):Nat:=(hs.map λh=>h.length+1).sum
theorem Yp(h:Str):tsz (kF h)<=h.length+1:=by
 unfold kF
 repeat' split
 ·simp[cu,dI,UE]
 ·simp[dI]
 ·simp[cu,dI,NE]
theorem z5q{k:Int}{f:Form}(h:jJ k=some f):hw f.1<=20/\f.2.2.length<=1:=by
 unfold jJ forms at h
 simp only[G8]at h
 repeat' (split at h)
 all_goals first |(cases h;exact⟨by decide,by decide⟩) |cases h
theorem z8d{k:Int}{f:Str×Int×Bool}(h:Ah k=some f):f.1.length<=4:=by
 unfold Ah Dc at h
 simp only[z3l]at h
 repeat' (split at h)
 all_goals first |(cases h;decide) |cases h
theorem z5r{x:Ex}(v:Int)(h:tsz (aZ x)+4<=wX x):tsz (if level x.kind<v then sg nN::(aZ x++[sg uj])else aZ x)<=wX x:=by
 split
 ·rw[cu,iL,cu,dI,NE,NE];simp only[List.length_cons,List.length_nil];omega
 ·omega
mutual
theorem UF:∀x:Ex,tsz (aZ x)+4<=wX x
 | .mk k nm i n l=>by
  rw[aZ,wX]
  cases h1:jJ k with
  |some f=>
   obtain⟨a,b⟩:=z5q h1
   have c:=z5s l f.1 f.2.1
   simp only[iL]
   have d:tsz (if f.2.2==[]then []else sg f.2.2::gm n)<=2+tsz (gm n):=by
    split
    ·rw[dI];omega
    ·rw[cu,NE];omega
   omega
  |none=>
   simp only
   cases h2:Ah k with
   |some f=>
    have a:=z8d h2
    have b:=z5t l f.2.1.toNat 0
    simp only[cu,iL,dI,UE,NE]
    have d:tsz (if f.2.2 then [wd nm,sg aU]else [])<=nm.length+3:=by
     split
     ·simp only[cu,dI,UE,NE,List.length_cons,List.length_nil];omega
     ·rw[dI];omega
    simp only[List.length_cons,List.length_nil];omega
   |none=>
    simp only
    split
    ·omega
    ·simp only[cu,dI,UE];omega
theorem z5s:∀(l:List Ex) (hs:List Str) (lv:List Int),tsz (opsT l hs lv)<=wL l+hw hs
 | [],hs,lv=>by
  rw[opsT,wL]
  have:=lT (g:=kF) (w:=λh=>h.length+1) (l:=hs) λh _=>Yp h
  unfold hw;omega
 |x::l,[],lv=>by rw[opsT,dI];omega
 |x::l,h::hs,lv=>by
  rw[opsT,wL,iL,iL]
  have a:=Yp h
  have b:=z5r (lv.headD 0) (UF x)
  have c:=z5s l hs lv.tail
  have d:hw (h::hs)=h.length+1+hw hs:=by simp[hw]
  omega
theorem z5t:∀(l:List Ex) (m i:Nat),tsz (Fv l m i)<=wL l
 | [],m,i=>by rw[Fv,dI];omega
 |x::l,0,i=>by rw[Fv,dI];omega
 |x::l,m+1,i=>by
  rw[Fv,wL,iL,iL]
  have a:=UF x
  have b:=z5t l m (i+1)
  have d:tsz (if 0<i then [sg aU]else [])<=2:=by
   split
   ·simp[cu,dI,NE]
   ·rw[dI];omega
  omega
end
def bw(b:Bd):Nat:=b.name.length+(tsz (gm b.lo)+(tsz (gm b.hi)+60))
def lw(b:Ln):Nat:=b.name.length+(tsz (gm b.size)+(tsz (gm b.lo)+(tsz (gm b.hi)+60)))
def vw(v:Int):Nat:=tsz (gm v)+2
def tbw(t:Tb):Nat:=t.name.length+((t.values.map vw).sum+60)
def sw(s:Sm):Nat:=s.name.length+(wX s.x+60)
def wP(p:Pr):Nat:=p.name.length+(tsz (gm p.latency)+(tsz (gm p.tail)+((p.params.map bw).sum+((p.states.map bw).sum+((p.lines.map lw).sum+((p.tables.map tbw).sum+((p.stmts.map sw).sum+100)))))))
theorem NF(lo hi:Int):tsz (fD lo hi)=tsz (gm lo)+tsz (gm hi)+10:=by
 simp only[fD,cu,iL,dI,UE,NE,List.length_cons,List.length_nil];omega
theorem z9k{w:Str}(hw:w.length<=5)(b:Bd):tsz (bdT w b)<=bw b:=by
 simp only[bdT,cu,UE,NF,bw];omega
theorem z9u(b:Ln):tsz (lnT b)<=lw b:=by
 simp only[lnT,cu,iL,UE,NF,lw,List.length_cons,List.length_nil];omega
theorem Yq:∀(i:Nat) (vs:List Int),tsz (xe i vs)<=(vs.map vw).sum
 |_,[]=>Nat.le_refl _
 |i,v::vs=>by
  rw[xe,iL,iL,List.map_cons,List.sum_cons]
  have:=Yq (i+1) vs
  have d:tsz (if 0<i then [sg aU]else [])<=2:=by
   split
   ·simp[cu,dI,NE]
   ·rw[dI];omega
  unfold vw;unfold vw at this;omega
theorem z9v(t:Tb):tsz (tbT t)<=tbw t:=by
 have:=Yq 0 t.values
 simp only[tbT,cu,iL,dI,UE,NE,tbw,List.length_cons,List.length_nil];omega
theorem z5u(s:Sm):tsz (iV s)<=sw s:=by
 have:=UF s.x
 unfold iV
 rw[Ar]
 simp only[iL,cu,dI,NE,sw]
 repeat' split
 all_goals simp only[cu,dI,NE,UE,List.length_cons,List.length_nil]
 all_goals omega
theorem z5v(p:Pr):tsz (gW p)<=wP p:=by
 have a:=lT (l:=p.params) λb _=>z9k (w:=rP) (by decide) b
 have b:=lT (l:=p.states) λb _=>z9k (w:=pU) (by decide) b
 have c:=lT (l:=p.lines) λb _=>z9u b
 have d:=lT (l:=p.tables) λb _=>z9v b
 have e:=lT (l:=p.stmts) λb _=>z5u b
 have f:tsz (if p.tail == -1 then [wd fC]else gm p.tail)<=8+tsz (gm p.tail):=by
  split
  ·simp only[cu,dI,UE,List.length_cons,List.length_nil];omega
  ·omega
 simp only[gW,cu,iL,dI,UE,NE,wP,List.length_cons,List.length_nil]at *
 omega
theorem z8e(l:List Pr):tsz (allT l)<=(l.map wP).sum:=lT λp _=>z5v p
theorem z5w(l:List Pr):(textS (allT l)).length<=(l.map wP).sum/\(allT l).length<=(l.map wP).sum:=by
 have h1:=z8e l
 have h2:=Xd (l:=allT l)
 have h3:=z05 (allT l)
 unfold tsz at h1 h3
 exact⟨by omega,by omega⟩
mutual
theorem JY:∀x:Ex,Ref15.nodes x<=wX x
 | .mk k nm i n l=>by rw[Ref15.nodes,wX];have:=NG l;omega
theorem NG:∀l:List Ex,Ref15.nodesL l<=wL l
 | []=>by rw[Ref15.nodesL];exact Nat.zero_le _
 |x::l=>by rw[Ref15.nodesL,wL];have:=JY x;have:=NG l;omega
end
mutual
theorem UG:∀x:Ex,wX (bareX x)=wX x
 | .mk k nm i n l=>by rw[bareX,wX,wX,UH l]
theorem UH:∀l:List Ex,wL (bareL l)=wL l
 | []=>rfl
 |x::l=>by rw[bareL,wL,wL,UG x,UH l]
end
theorem z06(p:Pr):wP (bareP p)=wP p:=by
 have e:(p.stmts.map bareS).map sw=p.stmts.map sw:=by
  rw[List.map_map];exact List.map_congr_left λs _=>by simp only[Function.comp_def,sw,bareS,UG]
 simp only[wP,bareP,e]
theorem AP{α:Type}{w:α->Nat}:∀{l:List α} {x:α},x∈l->w x<=(l.map w).sum
 | [],_,h=>by simp at h
 |y::r,x,h=>by
  simp only[List.map_cons,List.sum_cons]
  rcases List.mem_cons.1 h with rfl |h
  ·omega
  ·have:=AP (w:=w) h;omega
theorem EQ{α:Type}{w:α->Nat}:∀{l:List α},(∀x∈l,1<=w x)->l.length<=(l.map w).sum
 | [],_=>Nat.le_refl _
 |y::r,h=>by
  simp only[List.map_cons,List.sum_cons,List.length_cons]
  have:=h y (by simp)
  have:=EQ (l:=r) λx hx=>h x (by simp[hx])
  omega
structure Wd(l:List Pr):Prop where
 n:(allT l).length<=1073741823
 j:(textS (allT l)).length<=140737488355328
 s:∀p∈l,p.stmts.length<=1073741823
 x:∀p∈l,∀s∈p.stmts,Ref15.nodes s.x<=1073741824
 l:l.length<=1073741823
theorem z8f{l:List Pr}(h:(l.map wP).sum<=1073741823):Wd l:=by
 obtain⟨h1,h2⟩:=z5w l
 have hp:∀p∈l,wP p<=1073741823:=λp hp=>by have:=AP (w:=wP) hp;omega
 refine⟨by omega,by omega,λp hq=>?_,λp hq s hs=>?_,?_⟩
 ·have:=hp p hq
  have:=EQ (w:=sw) (l:=p.stmts) λs _=>by unfold sw;omega
  unfold wP at *;omega
 ·have:=hp p hq
  have a:=AP (w:=sw) hs
  have:=JY s.x
  have b:sw s=s.name.length+(wX s.x+60):=rfl
  unfold wP at *;omega
 ·have:=EQ (w:=wP) (l:=l) λp _=>by unfold wP;omega
  omega
inductive z9w(l:List Pr):Prop
 |no (h:pW l = .tuple [.str [],.i 140])
 |yes (t:Str) (h:pW l = .tuple [.str t,.i 0]) (hp:decide ((t.length:Int)>65536)=false->xX t = .tuple [prs (l.map bareP),.i 0,.i 0]) (ha:pW (l.map bareP) = .tuple [.str t,.i 0])
theorem z9x(l:List Pr):z9w l:=by
 rcases JV l with h |⟨h1,h2,h3⟩
 ·exact .no h
 ·exact .yes _ h1 (λhb=>JX h2 h3 hb) (JW h2 h3)
end Go.Fw.Sy
namespace Go.Fw.Nam
variable [ae]
open Ref15
theorem z07{p:Pr}{n:Str}{e:En}(h:lk n (decl p)=some e):named e.kind=true:=by
 rw[z04]at h
 split at h
 ·cases h;rfl
 split at h
 ·cases h;rfl
 split at h
 ·cases h;rfl
 split at h
 ·cases h;rfl
 split at h
 ·cases h;rfl
 ·cases h
theorem AQ{l:List Pe}{s:Sm}{i:Nat}{d:List (Int×Int)}{o:Bool}(h:jw l s i d o=0):visB l (i:Int) s.x=true:=by
 cases hv:visB l (i:Int) s.x with
 |true=>rfl
 |false=>rw[Ny hv]at h;exact absurd h (by decide)
theorem z08{l:List Pe}{s:Sm}{i:Nat}{d:List (Int×Int)}{o:Bool}(h:jw l s i d o=0):visB l (i:Int) s.x=true/\o=false/\(z0w s.kind=true->∃e,target l s=some e):=by
 have hv:=AQ h
 refine⟨hv,?_,?_⟩
 ·cases o with
  |false=>rfl
  |true=>
   simp only[jw,hv,Bool.not_true,Bool.false_eq_true,if_false]at h
   split at h
   ·split at h
    ·exact absurd h (by decide)
    ·simp at h
   ·exact absurd h (by decide)
 ·intro hs
  simp only[jw,hv,hs,Bool.not_true,Bool.false_eq_true,if_false,if_true]at h
  cases ht:target l s with
  |some e=>exact⟨e,rfl⟩
  |none=>rw[ht]at h;simp at h
theorem Yr{l:List Pe}:∀(r:List Sm) (i:Nat) (d:List (Int×Int)) (o:Bool) (t:List Sm),rf l r i d o = .ok t ->
  (r = []->o=true)/\(r ≠ []->o=false)/\∀(j:Nat) s,r[j]? = some s->visB l ((i+j:Nat):Int) s.x=true/\(z0w s.kind=true->∃e,target l s=some e)/\(s.kind==4)=decide (j+1=r.length)
 | [],i,d,o,t,h=>by
  simp only[rf]at h
  cases o with
  |true=>exact⟨λ_=>rfl,λh=>absurd rfl h,by simp⟩
  |false=>simp at h
 |s::r,i,d,o,t,h=>by
  simp only[rf]at h
  split at h
  ·cases h
  ·rename_i h0
   have h0:jw l s i d o=0:=by simpa using h0
   obtain⟨a,b,c⟩:=z08 h0
   cases hr:rf l r (i+1) (qZ l s d) (s.kind==4)with
   |error e=>rw[hr]at h;cases h
   |ok t'=>
    obtain⟨q1,q2,q3⟩:=Yr r _ _ _ _ hr
    refine⟨λh=>by simp at h,λ_=>b,?_⟩
    intro j u hu
    cases j with
    |zero=>
     simp only[List.getElem?_cons_zero,Option.some.injEq]at hu
     subst hu
     refine⟨by simpa using a,c,?_⟩
     cases r with
     |nil=>rw[q1 rfl];simp
     |cons y r'=>rw[q2 (by simp)];simp
    |succ j=>
     have:=q3 j u (by simpa using hu)
     rw[show i+1+j=i+(j+1)by omega]at this
     refine⟨this.1,this.2.1,?_⟩
     rw[this.2.2]
     simp only[List.length_cons]
     congr 1
     simp
theorem NH(l:List Pe):∀m:List Ex,(xA l m).length=m.length
 | []=>rfl
 |x::r=>by simp only[xA,List.length_cons,NH l r]
theorem JZ{k k':Int}(h:named k=true)(h':named k'=true)(ha:arr k=arr k'):parts k=parts k':=by
 simp only[named,Bool.or_eq_true,beq_iff_eq]at h h'
 have e1:parts k=if arr k then 1 else 0:=by rcases h with((((h |h) |h) |h) |h) |h<;>subst h<;>rfl
 have e2:parts k'=if arr k' then 1 else 0:=by rcases h' with((((h |h) |h) |h) |h) |h<;>subst h<;>rfl
 rw[e1,e2,ha]
theorem UI{l:List Pe}(hk:∀n e,lk n l=some e->named e.kind=true){i k:Int}{n:Str}(h:vok l i k n=true) :
  vok l i (iK l k n) n=true/\iK l (iK l k n) n=iK l k n/\H7 l (iK l k n) n=H7 l k n/\parts (iK l k n)=parts k/\named (iK l k n)=named k/\(named k=false->iK l k n=k):=by
 simp only[vok,jg]at h
 cases hn:named k with
 |false=>simp only[vok,iK,H7,jg,hn,Bool.false_eq_true,if_false,Bool.not_false,Bool.true_or,implies_true,and_self]
 |true=>
  rw[hn]at h
  cases hl:lk n l with
  |none=>rw[hl]at h;simp at h
  |some e=>
   rw[hl]at h
   simp only[Bool.not_true,Bool.false_or,eok,Bool.and_eq_true,Bool.or_eq_true,Bool.not_eq_true',beq_iff_eq]at h
   have he:=hk _ _ hl
   have hp:arr e.kind=arr k:=by rcases h.2 with h |⟨a,b⟩<;>first |rw[h] |rw[a,b]
   have hv:iK l k n=e.kind:=by simp only[iK,jg,hn,hl,if_true]
   refine⟨?_,?_,?_,?_,?_,λh=>by simp at h⟩
   ·rw[hv];simp only[vok,jg,he,hl,eok,h.1,Bool.not_true,Bool.false_or,Bool.true_and,beq_self_eq_true,Bool.true_or]
   ·rw[hv];simp only[iK,jg,he,hl,if_true]
   ·rw[hv];simp only[H7,jg,he,hn,hl,if_true]
   ·rw[hv];exact JZ he hn hp
   ·rw[hv];exact he
structure z09(l:List Pe)(i:Int)(x y:Ex):Prop where
 vis:Nam.vis l x=Nam.vis l y
 visB:Nam.visB l i x=true
 formed:every dR x=every dR y
 ranged:every eU x=every eU y
 nodes:Ref15.nodes x=Ref15.nodes y
variable {l : List Pe} {g : Sm → Sm}
theorem UJ(hk:∀n e,lk n l=some e->named e.kind=true)(i:Int)(x:Ex)(h:visB l i x=true):z09 l i (vis l x) x:=by
 revert h
 refine Ex.ind (P:=λx=>visB l i x=true->z09 l i (vis l x) x) (λx ih h=>?_) x
 rw[tZ,Bool.and_eq_true]at h
 obtain⟨h1,h2⟩:=h
 obtain⟨v1,v2,v3,v4,v5,v6⟩:=UI hk h1
 have xk:(vis l x).kind=iK l x.kind x.name:=by rw[vK];rfl
 have xn:(vis l x).name=x.name:=by rw[vK];rfl
 have xm:(vis l x).n=x.n:=by rw[vK];rfl
 have xl:(vis l x).l=xA l x.l:=by rw[vK];rfl
 have key:xA l (xA l x.l)=xA l x.l/\oI l i (xA l x.l)=true/\jd dR (xA l x.l)=jd dR x.l/\jd eU (xA l x.l)=jd eU x.l/\nodesL (xA l x.l)=nodesL x.l:=by
  clear xk xn xm xl v1 v2 v3 v4 v5 v6 h1
  generalize x.l=m at ih h2
  induction m with
  |nil=>exact⟨rfl,AC,rfl,rfl,rfl⟩
  |cons y r ih2=>
   simp only[oI,Bool.and_eq_true]at h2
   have a:=ih y (by simp) h2.1
   obtain⟨b1,b2,b3,b4,b5⟩:=ih2 (λz hz=>ih z (List.mem_cons_of_mem _ hz)) h2.2
   exact⟨by simp only[xA,a.vis,b1],by simp only[xA,oI,a.visB,b2];rfl,by simp only[xA,jd,a.formed,b3],by simp only[xA,jd,a.ranged,b4],by simp only[xA,nodesL,a.nodes,b5]⟩
 obtain⟨k1,k2,k3,k4,k5⟩:=key
 have hf:dR (vis l x)=dR x:=by
  simp only[dR,xk,xn,xm,xl,NH,jg,v4,v5]
  cases hn:named x.kind with
  |false=>rw[v6 hn]
  |true=>
   have hv:named (iK l x.kind x.name)=true:=v5.trans hn
   have n1:(iK l x.kind x.name==1)=false/\(iK l x.kind x.name==18)=false:=by
    simp only[named,Bool.or_eq_true,beq_iff_eq]at hv;constructor<;>(rw[beq_eq_false_iff_ne];omega)
   have n2:(x.kind==1)=false/\(x.kind==18)=false:=by
    simp only[named,Bool.or_eq_true,beq_iff_eq]at hn;constructor<;>(rw[beq_eq_false_iff_ne];omega)
   rw[n1.1,n1.2,n2.1,n2.2]
 have hr:eU (vis l x)=eU x:=by
  simp only[eU,xk,xm]
  cases hn:named x.kind with
  |false=>rw[v6 hn]
  |true=>
   have hv:named (iK l x.kind x.name)=true:=v5.trans hn
   have n1:(iK l x.kind x.name != 18)=true:=by
    simp only[named,Bool.or_eq_true,beq_iff_eq]at hv;rw[bne_iff_ne];omega
   have n2:(x.kind != 18)=true:=by
    simp only[named,Bool.or_eq_true,beq_iff_eq]at hn;rw[bne_iff_ne];omega
   rw[n1,n2]
 refine⟨?_,?_,?_,?_,?_⟩
 ·rw[vK l (vis l x),xk,xn,xm,xl,v2,v3,k1];exact(vK l x).symm
 ·rw[tZ,xk,xn,xl,v1,k2];rfl
 ·rw[jD,jD,hf,xl,k3]
 ·rw[jD,jD,hr,xl,k4]
 ·rw[jC,jC,xl,k5]
def Ie(l:List Pe)(g:Sm->Sm):Prop:=∀s,(g s).kind=s.kind/\(g s).name=s.name/\∀i,visB l i s.x=true->z09 l i (g s).x s.x
theorem ER(hg:Ie l g)(s:Sm):target l (g s)=target l s:=by
 simp only[target,(hg s).1,(hg s).2.1]
theorem z5x(hg:Ie l g){s:Sm}{i:Nat}{d:List (Int×Int)}{o:Bool}(h:jw l s i d o=0):jw l (g s) i d o=0:=by
 have hv:=AQ h
 have hw:=((hg s).2.2 _ hv).visB
 rw[<-h]
 simp only[jw,hv,hw,(hg s).1,ER hg]
theorem z5y(hg:Ie l g):∀(r:List Sm) (i:Nat) (d:List (Int×Int)) (o:Bool) (t:List Sm),rf l r i d o = .ok t->rf l (r.map g) i d o = .ok t
 | [],i,d,o,t,h=>h
 |s::r,i,d,o,t,h=>by
  simp only[rf,List.map_cons]at h ⊢
  split at h
  ·cases h
  ·rename_i h0
   have h0:jw l s i d o=0:=by simpa using h0
   have hd:qZ l (g s) d=qZ l s d:=by simp only[qZ,(hg s).1,ER hg]
   have ho:outS l (g s)=outS l s:=by simp only[outS,Fz,(hg s).1,(hg s).2.1,ER hg,((hg s).2.2 _ (AQ h0)).vis]
   rw[z5x hg h0,hd,(hg s).1,ho]
   cases hr:rf l r (i+1) (qZ l s d) (s.kind==4)with
   |error e=>rw[hr]at h;cases h
   |ok t'=>
    rw[hr]at h;cases h
    rw[z5y hg r _ _ _ _ hr];rfl
theorem Xm{α:Type}{f h:α->Bool}:∀{l:List α},(∀x∈l,f x=h x)->l.all f=l.all h
 | [],_=>rfl
 |x::r,e=>by simp only[List.all_cons];rw[e x (by simp),Xm (λy hy=>e y (List.mem_cons_of_mem _ hy))]
theorem Yt(hg:∀s,(g s).kind=s.kind/\(g s).name=s.name):∀(l:List Sm) (i:Nat),xY (l.map g) i=xY l i
 | [],_=>rfl
 |s::r,i=>by simp only[List.map_cons,xY,(hg s).1,(hg s).2,Yt hg r (i+1)]
theorem ES{p:Pr}(h:(resolveC p).2=0)(g:Sm->Sm)(hg:Ie (decl p) g):resolveC { p with stmts:=p.stmts.map g }=((resolveC p).1,0):=by
 obtain⟨g1,g2,g3,g4,g5,g6,e⟩:=resolved_form h
 have hv:∀s∈p.stmts,∃i,visB (decl p) i s.x=true:=by
  intro s hs
  obtain⟨j,hj⟩:=List.mem_iff_getElem?.1 hs
  exact⟨_,((Yr _ _ _ _ _ g6).2.2 j s hj).1⟩
 have hd:decl { p with stmts:=p.stmts.map g }=decl p:=by
  show T4 p++xY (p.stmts.map g) 0=_
  rw[Yt (λs=>⟨(hg s).1,(hg s).2.1⟩)];rfl
 have f1:formed { p with stmts:=p.stmts.map g }=true:=by
  rw[<-g1]
  simp only[formed,List.all_map]
  refine Xm λs hs=>?_
  obtain⟨i,hi⟩:=hv s hs
  show(SA (g s)&&every dR (g s).x)=_
  rw[((hg s).2.2 i hi).formed]
  simp only[SA,(hg s).1,(hg s).2.1]
 have f2:limited { p with stmts:=p.stmts.map g }=true:=by
  rw[<-g2]
  have h1:VV { p with stmts:=p.stmts.map g }=VV p:=by simp only[VV,most,List.length_map];rfl
  have h2:(p.stmts.map g).all sm1=p.stmts.all sm1:=by
   rw[List.all_map]
   refine Xm λs hs=>?_
   obtain⟨i,hi⟩:=hv s hs
   simp only[Function.comp,sm1,((hg s).2.2 i hi).nodes]
  simp only[limited,h1,h2]
 have f3:ranged { p with stmts:=p.stmts.map g }=true:=by
  rw[<-g5]
  have h2:(p.stmts.map g).all sm2=p.stmts.all sm2:=by
   rw[List.all_map]
   refine Xm λs hs=>?_
   obtain⟨i,hi⟩:=hv s hs
   simp only[Function.comp,sm2,((hg s).2.2 i hi).ranged]
  have h3:allB { p with stmts:=p.stmts.map g }=allB p:=rfl
  simp only[ranged,h2,h3]
 have r1:=z5y hg p.stmts 0 [] false _ g6
 rw[e]
 unfold resolveC
 rw[hd,f1,f2,f3,g4]
 rw[show({ p with stmts:=p.stmts.map g }:Pr).name=p.name from rfl,g3]
 simp only[Bool.not_true,Bool.false_eq_true,if_false]
 rw[r1];rfl
abbrev bK(k:Int):Int:=if k==3 || k==4 || k==5 then 2 else k
theorem qC(x:Ex):Sy.bareX x = .mk (bK x.kind) x.name 0 x.n (Sy.bareL x.l):=by cases x;rw[Sy.bareX];rfl
theorem UK(l:List Ex):(Sy.bareL l).length=l.length:=by rw[Sy.bareL_eq,List.length_map]
theorem ET(k:Int):bK k=k\/(bK k=2/\named k=true/\arr k=false/\parts k=parts 2/\(k==1)=false/\(k==18)=false):=by
 cases h:k==3 || k==4 || k==5 with
 |false=>exact .inl (by simp only[bK,h];rfl)
 |true=>
  simp only[Bool.or_eq_true,beq_iff_eq]at h
  refine .inr ?_
  rcases h with(rfl |rfl) |rfl<;>exact⟨rfl,rfl,rfl,rfl,rfl,rfl⟩
theorem Xn{l:List Pe}{i k:Int}{n:Str}(h:vok l i k n=true):vok l i (bK k) n=true/\iK l (bK k) n=iK l k n/\H7 l (bK k) n=H7 l k n:=by
 rcases ET k with e |⟨e,h1,h2,-⟩
 ·rw[e];exact⟨h,rfl,rfl⟩
 ·rw[e]
  have w2:iK l 2 n=iK l k n:=by simp only[iK,jg,h1,show named 2=true from rfl,if_true]
  have w3:H7 l 2 n=H7 l k n:=by simp only[H7,jg,h1,show named 2=true from rfl,if_true]
  refine⟨?_,w2,w3⟩
  simp only[vok,jg,h1,show named 2=true from rfl]at h ⊢
  cases hl:lk n l with
  |none=>rw[hl]at h;simp at h
  |some e=>
   rw[hl]at h
   simp only[Bool.not_true,Bool.false_or,eok,Bool.and_eq_true,Bool.or_eq_true,Bool.not_eq_true',beq_iff_eq]at h ⊢
   refine⟨h.1,.inr ⟨?_,by decide⟩⟩
   rcases h.2 with h3 |h3
   ·rw[h3];exact h2
   ·exact h3.1
structure z5z(l:List Pe)(i:Int)(x y:Ex):Prop where
 vis:Nam.vis l x=Nam.vis l y
 visB:Nam.visB l i x=true
 formed:every dR x=every dR y
 ranged:every eU x=every eU y
 nodes:Ref15.nodes x=Ref15.nodes y
theorem z8g{l:List Pe}(i:Int)(x:Ex)(h:visB l i x=true):z5z l i (Sy.bareX x) x:=by
 revert h
 refine Ex.ind (P:=λx=>visB l i x=true->z5z l i (Sy.bareX x) x) (λx ih h=>?_) x
 rw[tZ,Bool.and_eq_true]at h
 obtain⟨h1,h2⟩:=h
 obtain⟨v1,v2,v3⟩:=Xn h1
 have xk:(Sy.bareX x).kind=bK x.kind:=by rw[qC];rfl
 have xn:(Sy.bareX x).name=x.name:=by rw[qC];rfl
 have xm:(Sy.bareX x).n=x.n:=by rw[qC];rfl
 have xl:(Sy.bareX x).l=Sy.bareL x.l:=by rw[qC];rfl
 have key:xA l (Sy.bareL x.l)=xA l x.l/\oI l i (Sy.bareL x.l)=true/\jd dR (Sy.bareL x.l)=jd dR x.l/\jd eU (Sy.bareL x.l)=jd eU x.l/\nodesL (Sy.bareL x.l)=nodesL x.l:=by
  clear xk xn xm xl v1 v2 v3 h1
  generalize x.l=m at ih h2
  induction m with
  |nil=>exact⟨rfl,AC,rfl,rfl,rfl⟩
  |cons y r ih2=>
   simp only[oI,Bool.and_eq_true]at h2
   have a:=ih y (by simp) h2.1
   obtain⟨b1,b2,b3,b4,b5⟩:=ih2 (λz hz=>ih z (List.mem_cons_of_mem _ hz)) h2.2
   exact⟨by simp only[Sy.bareL,xA,a.vis,b1],by simp only[Sy.bareL,oI,a.visB,b2];rfl,by simp only[Sy.bareL,jd,a.formed,b3],by simp only[Sy.bareL,jd,a.ranged,b4],by simp only[Sy.bareL,nodesL,a.nodes,b5]⟩
 obtain⟨k1,k2,k3,k4,k5⟩:=key
 have hf:dR (Sy.bareX x)=dR x:=by
  simp only[dR,xk,xn,xm,xl,UK,jg]
  rcases ET x.kind with e |⟨e,n1,n2,n3,n4,n5⟩
  ·rw[e]
  ·rw[e,n1,n3,n4,n5];rfl
 have hr:eU (Sy.bareX x)=eU x:=by
  simp only[eU,xk,xm]
  rcases ET x.kind with e |⟨e,n1,n2,n3,n4,n5⟩
  ·rw[e]
  ·rw[e,show(x.kind != 18)=true by simp[bne,n5]];rfl
 refine⟨?_,?_,?_,?_,?_⟩
 ·rw[vK l (Sy.bareX x),xk,xn,xm,xl,v2,v3,k1];exact(vK l x).symm
 ·rw[tZ,xk,xn,xl,v1,k2];rfl
 ·rw[jD,jD,hf,xl,k3]
 ·rw[jD,jD,hr,xl,k4]
 ·rw[jC,jC,xl,k5]
theorem UL{p:Pr}:Ie (decl p) (λs=>Sy.bareS (outS (decl p) s)):=λs=>⟨rfl,rfl,λi hi=>by
 have a:=UJ (λn e he=>z07 he) i s.x hi
 have b:=z8g i (vis (decl p) s.x) a.visB
 exact⟨b.vis.trans a.vis,b.visB,b.formed.trans a.formed,b.ranged.trans a.ranged,b.nodes.trans a.nodes⟩⟩
theorem again_bare{p:Pr}(h:(resolveC p).2=0):resolveC (Sy.bareP (resolveC p).1)=((resolveC p).1,0):=by
 have e:=(resolved_form h).2.2.2.2.2.2
 have:=ES h _ UL
 rw[<-this]
 congr 1
 rw[e]
 simp only[Sy.bareP,List.map_map];rfl
end Go.Fw.Nam
namespace Go.Fw.Sy
open Go.Fw Go.Fw.Ref15
variable [ae]
theorem EU(x:Ex):dG x x=true:=by
 refine Ex.ind (P:=λx=>dG x x=true) (λx ih=>?_) x
 rw[kQ,pM rfl]
 simp only[bne_self_eq_false,Bool.or_self,Bool.false_eq_true,if_false,List.all_eq_true]
 intro q hq
 obtain⟨y,z⟩:=q
 have h:=List.of_mem_zip hq
 have e:y=z:=by
  have:∀(l:List Ex) (y z:Ex),(y,z)∈l.zip l->y=z:=by
   intro l
   induction l with
   |nil=>intro y z h;simp at h
   |cons a r ih2=>
    intro y z h
    simp only[List.zip_cons_cons,List.mem_cons,Prod.mk.injEq]at h
    rcases h with⟨rfl,rfl⟩ |h
    ·rfl
    ·exact ih2 y z h
  exact this _ _ _ hq
 subst e
 exact ih y h.1
theorem qJ{α:Type}{f:α×α->Bool}(h:∀x,f (x,x)=true):∀l:List α,(l.zip l).all f=true
 | []=>rfl
 |x::r=>by simp only[List.zip_cons_cons,List.all_cons,h,qJ h r,Bool.and_self]
theorem z1a(b:Bd):rJ (b,b)=true:=by simp[rJ,Go.Fw.sameL,sameS]
theorem z1b(b:Ln):lM (b,b)=true:=by simp[lM,Go.Fw.sameL,sameS]
theorem z1c(b:Tb):rM (b,b)=true:=by
 simp only[rM,bne_self_eq_false,Bool.or_self,Bool.not_false,Bool.true_and]
 exact qJ (λx=>by simp) _
theorem AU(l:List Bd):dK l l=true:=by
 simp only[dK,bne_self_eq_false,Bool.not_false,Bool.true_and]
 exact qJ z1a l
theorem Pq(p:Pr):jc p p=true:=by
 simp only[jc,heads,bne_self_eq_false,AU,Bool.not_true,Bool.or_self,Bool.not_false,Bool.true_and]
 rw[qJ z1b,qJ z1c];rfl
theorem same_refl(p:Pr):Same p p=true:=by
 simp only[Same,Pq,bne_self_eq_false,Bool.not_true,Bool.or_self,Bool.not_false,Bool.true_and]
 exact qJ (λs=>by simp[LX,EU]) _
theorem Dq{α:Type}{w:α->Nat}{c:Nat}:∀{l:List α},(∀x∈l,c<=w x)->c * l.length<=(l.map w).sum
 | [],_=>by simp
 |x::l,h=>by
  rw[List.map_cons,List.sum_cons,List.length_cons,Nat.mul_add]
  have:=h x (by simp)
  have:=Dq (l:=l) λy hy=>h y (by simp[hy])
  omega
open Go.Fw.Nam
mutual
theorem Yu(l:List Pe):∀x:Ex,wX (vis l x)=wX x
 | .mk k n i m ys=>by rw[vis,wX,wX,Yv l ys]
theorem Yv(l:List Pe):∀x:List Ex,wL (xA l x)=wL x
 | []=>rfl
 |y::r=>by rw[xA,wL,wL,Yu l y,Yv l r]
end
theorem z6a{p:Pr}(h:(Nam.resolveC p).2=0):wP (Nam.resolveC p).1=wP p:=by
 have e:=(Nam.resolved_form h).2.2.2.2.2.2
 have e2:(p.stmts.map (Nam.outS (Nam.decl p))).map sw=p.stmts.map sw:=by
  rw[List.map_map];exact List.map_congr_left λs _=>by simp only[Function.comp_def,sw,Nam.outS,Yu]
 rw[e]
 simp only[wP,e2]
structure Nd(p:Pr):Prop where
 s:p.Small
 n:∀s∈p.stmts,Ref15.nodes s.x<=1073741824
 v:∀t∈p.tables,t.values.length<=1073741824
theorem Xo(l:List Int):l.length<=(l.map vw).sum:=EQ λv _=>by unfold vw;omega
theorem z6b{p:Pr}(h:wP p<=104857600):Nd p:=by
 have a:=Dq (w:=bw) (c:=60) (l:=p.params) λb _=>by unfold bw;omega
 have b:=Dq (w:=bw) (c:=60) (l:=p.states) λb _=>by unfold bw;omega
 have c:=Dq (w:=lw) (c:=60) (l:=p.lines) λb _=>by unfold lw;omega
 have d:=Dq (w:=tbw) (c:=60) (l:=p.tables) λb _=>by unfold tbw;omega
 have e:=Dq (w:=sw) (c:=60) (l:=p.stmts) λb _=>by unfold sw;omega
 have hW:wP p=p.name.length+(tsz (gm p.latency)+(tsz (gm p.tail)+((p.params.map bw).sum+((p.states.map bw).sum+((p.lines.map lw).sum+((p.tables.map tbw).sum+((p.stmts.map sw).sum+100))))))):=rfl
 refine⟨⟨by omega,by omega,by omega,by omega,by omega⟩,λs hs=>?_,λt ht=>?_⟩
 ·have:=AP (w:=sw) hs
  have:=JY s.x
  have:sw s=s.name.length+(wX s.x+60):=rfl
  omega
 ·have:=AP (w:=tbw) ht
  have:=Xo t.values
  have:tbw t=t.name.length+((t.values.map vw).sum+60):=rfl
  omega
theorem Pv{f g:Int}{n:Bool}{q:Prop}(hb:(bif f != 0 then true else g != 0)=true)(h:(bif bif f != 0 then true else g != 0 then true else n)=false):q:=by
 rw[hb]at h;cases h
end Go.Fw.Sy
