/- SyntaxBack: how long it is what is written. -/
import Derived.Test.YtmfehangcmbidaaGreatDoorZSP19
import Derived.Test.YtmfehangcmbidaaGreatDoorZSD10
set_option linter.unusedSectionVars false
set_option linter.unusedSimpArgs false
set_option linter.unusedVariables false
namespace Go.Fw.Sy
open Go.Fw Go.Fw.Lx
variable [ae]
def tsz(l:List Tk):Nat:=(l.map λt=>(word t).length+1).sum
theorem dD:tsz []=0:=rfl
theorem bI(t:Tk)(l:List Tk):tsz (t::l)=(word t).length+1+tsz l:=by simp[tsz]
theorem iL(a b:List Tk):tsz (a++b)=tsz a+tsz b:=by simp[tsz]
theorem z1w(l:List Tk):l.length<=tsz l:=by
 induction l with
 |nil=>exact Nat.le_refl _
 |cons t l ih=>rw[bI,List.length_cons];omega
theorem lG{α:Type}{g:α->List Tk}{w:α->Nat}:∀{l:List α},(∀x∈l,tsz (g x)<=w x)->tsz (l.flatMap g)<=(l.map w).sum
 | [],_=>Nat.le_refl _
 |x::l,h=>by
  rw[List.flatMap_cons,iL,List.map_cons,List.sum_cons]
  have:=h x (by simp)
  have:=lG (l:=l) λy hy=>h y (by simp[hy])
  omega
theorem Uk(s:Str):(word (wd s)).length=s.length:=rfl
theorem JC(s:Str):(word (sg s)).length=s.length:=rfl
mutual
def wX:Ex->Nat
 | .mk _ nm _ n l=>nm.length+tsz (dQ n)+40+wL l
def wL:List Ex->Nat
 | []=>0
 |x::r=>wX x+wL r
end
def hw(hs:List Str):Nat:=(hs.map λh=>h.length+1).sum
theorem Yk(h:Str):tsz (iT h)<=h.length+1:=by
 unfold iT
 repeat' split
 ·simp[bI,dD,Uk]
 ·simp[dD]
 ·simp[bI,dD,JC]
theorem z7b{k:Int}{f:Form}(h:dL k=some f):hw f.1<=20/\f.2.2.length<=1:=by
 unfold dL forms at h
 simp only[gZ]at h
 repeat' (split at h)
 all_goals first |(cases h;exact⟨by decide,by decide⟩) |cases h
theorem z9t{k:Int}{f:Str×Int×Bool}(h:lY k=some f):f.1.length<=4:=by
 unfold lY kW at h
 simp only[zN]at h
 repeat' (split at h)
 all_goals first |(cases h;decide) |cases h
theorem z7c{x:Ex}(v:Int)(h:tsz (aj x)+4<=wX x):tsz (if level x.kind<v then sg sPar::(aj x++[sg sKet])else aj x)<=wX x:=by
 split
 ·rw[bI,iL,bI,dD,JC,JC];simp only[List.length_cons,List.length_nil];omega
 ·omega
mutual
theorem Ul:∀x:Ex,tsz (aj x)+4<=wX x
 | .mk k nm i n l=>by
  rw[aj,wX]
  cases h1:dL k with
  |some f=>
   obtain⟨a,b⟩:=z7b h1
   have c:=z7d l f.1 f.2.1
   simp only[iL]
   have d:tsz (if f.2.2==[]then []else sg f.2.2::dQ n)<=2+tsz (dQ n):=by
    split
    ·rw[dD];omega
    ·rw[bI,JC];omega
   omega
  |none=>
   simp only
   cases h2:lY k with
   |some f=>
    have a:=z9t h2
    have b:=z7e l f.2.1.toNat 0
    simp only[bI,iL,dD,Uk,JC]
    have d:tsz (if f.2.2 then [wd nm,sg sComma]else [])<=nm.length+3:=by
     split
     ·simp only[bI,dD,Uk,JC,List.length_cons,List.length_nil];omega
     ·rw[dD];omega
    simp only[List.length_cons,List.length_nil];omega
   |none=>
    simp only
    split
    ·omega
    ·simp only[bI,dD,Uk];omega
theorem z7d:∀(l:List Ex) (hs:List Str) (lv:List Int),tsz (opsT l hs lv)<=wL l+hw hs
 | [],hs,lv=>by
  rw[opsT,wL]
  have:=lG (g:=iT) (w:=λh=>h.length+1) (l:=hs) λh _=>Yk h
  unfold hw;omega
 |x::l,[],lv=>by rw[opsT,dD];omega
 |x::l,h::hs,lv=>by
  rw[opsT,wL,iL,iL]
  have a:=Yk h
  have b:=z7c (lv.headD 0) (Ul x)
  have c:=z7d l hs lv.tail
  have d:hw (h::hs)=h.length+1+hw hs:=by simp[hw]
  omega
theorem z7e:∀(l:List Ex) (m i:Nat),tsz (qg l m i)<=wL l
 | [],m,i=>by rw[qg,dD];omega
 |x::l,0,i=>by rw[qg,dD];omega
 |x::l,m+1,i=>by
  rw[qg,wL,iL,iL]
  have a:=Ul x
  have b:=z7e l m (i+1)
  have d:tsz (if 0<i then [sg sComma]else [])<=2:=by
   split
   ·simp[bI,dD,JC]
   ·rw[dD];omega
  omega
end
def bw(b:Bd):Nat:=b.name.length+(tsz (dQ b.lo)+(tsz (dQ b.hi)+60))
def lw(b:Ln):Nat:=b.name.length+(tsz (dQ b.size)+(tsz (dQ b.lo)+(tsz (dQ b.hi)+60)))
def vw(v:Int):Nat:=tsz (dQ v)+2
def tbw(t:Tb):Nat:=t.name.length+((t.values.map vw).sum+60)
def sw(s:Sm):Nat:=s.name.length+(wX s.x+60)
def wP(p:Pr):Nat:=p.name.length+(tsz (dQ p.latency)+(tsz (dQ p.tail)+((p.params.map bw).sum+((p.states.map bw).sum+((p.lines.map lw).sum+((p.tables.map tbw).sum+((p.stmts.map sw).sum+100)))))))
theorem MO(lo hi:Int):tsz (bV lo hi)=tsz (dQ lo)+tsz (dQ hi)+10:=by
 simp only[bV,bI,iL,dD,Uk,JC,List.length_cons,List.length_nil];omega
theorem zai{w:Str}(hw:w.length<=5)(b:Bd):tsz (bdT w b)<=bw b:=by
 simp only[bdT,bI,Uk,MO,bw];omega
theorem zaw(b:Ln):tsz (lnT b)<=lw b:=by
 simp only[lnT,bI,iL,Uk,MO,lw,List.length_cons,List.length_nil];omega
theorem Yl:∀(i:Nat) (vs:List Int),tsz (kw i vs)<=(vs.map vw).sum
 |_,[]=>Nat.le_refl _
 |i,v::vs=>by
  rw[kw,iL,iL,List.map_cons,List.sum_cons]
  have:=Yl (i+1) vs
  have d:tsz (if 0<i then [sg sComma]else [])<=2:=by
   split
   ·simp[bI,dD,JC]
   ·rw[dD];omega
  unfold vw;unfold vw at this;omega
theorem zax(t:Tb):tsz (tbT t)<=tbw t:=by
 have:=Yl 0 t.values
 simp only[tbT,bI,iL,dD,Uk,JC,tbw,List.length_cons,List.length_nil];omega
theorem z7f(s:Sm):tsz (fA s)<=sw s:=by
 have:=Ul s.x
 unfold fA
 rw[kS]
 simp only[iL,bI,dD,JC,sw]
 repeat' split
 all_goals simp only[bI,dD,JC,Uk,List.length_cons,List.length_nil]
 all_goals omega
theorem z7g(p:Pr):tsz (fB p)<=wP p:=by
 have a:=lG (l:=p.params) λb _=>zai (w:=lu) (by decide) b
 have b:=lG (l:=p.states) λb _=>zai (w:=kL) (by decide) b
 have c:=lG (l:=p.lines) λb _=>zaw b
 have d:=lG (l:=p.tables) λb _=>zax b
 have e:=lG (l:=p.stmts) λb _=>z7f b
 have f:tsz (if p.tail == -1 then [wd di]else dQ p.tail)<=8+tsz (dQ p.tail):=by
  split
  ·simp only[bI,dD,Uk,List.length_cons,List.length_nil];omega
  ·omega
 simp only[fB,bI,iL,dD,Uk,JC,wP,List.length_cons,List.length_nil]at *
 omega
theorem z9u(l:List Pr):tsz (allT l)<=(l.map wP).sum:=lG λp _=>z7g p
theorem Ym{s:Str}(h:CV s):s.length<=32:=CU (Uy h)
theorem JD{n:Int}(h:qU n):tsz (dQ n)<=54:=by
 rw[kC h,bI,dD]
 have:=Uj (z8b h)
 omega
theorem Hl{n:Int}(h:kY n):tsz (dQ n)<=56:=by
 rcases Int.lt_or_le n 0 with hn |hn
 ·rw[Ez h hn,bI,bI,dD]
  have:=Uj (z8b ⟨by omega,by have:=h.1;omega⟩:valid (nu (-n))=true)
  rw[JC];simp only[List.length_cons,List.length_nil];omega
 ·have:=JD ⟨hn,h.2⟩;omega
theorem ve:tsz (dQ 0)<=54:=JD ⟨by omega,by omega⟩
mutual
theorem G.w:∀{k:Nat} {x:Ex},G k x->wX x<=200 * nd x
 |_,_,.num h=>by have:=JD h;simp only[wX,wL,nd,ndL,List.length_nil];omega
 |_,_,.name h=>by have:=Ym h;have:=ve;simp only[wX,wL,nd,ndL];omega
 |_,_,.neg h=>by have:=h.w2;have:=ve;simp only[wX,wL,nd,ndL,List.length_nil];omega
 |_,_,.one hf h=>by have:=h.w;have:=ve;simp only[wX,wL,nd,ndL,List.length_nil];omega
 |_,_,.named hf hs h=>by have:=Ym hs;have:=h.w;have:=ve;simp only[wX,wL,nd,ndL];omega
 |_,_,.two hf h h2=>by have:=h.w;have:=h2.w;have:=ve;simp only[wX,wL,nd,ndL,List.length_nil];omega
 |_,_,.mul h h2=>by have:=h.w2;have:=h2.w2;have:=ve;simp only[wX,wL,nd,ndL,List.length_nil];omega
 |_,_,.div h hn h0=>by have:=h.w2;have:=JD hn;simp only[wX,wL,nd,ndL,List.length_nil];omega
 |_,_,.add h h2=>by have:=h.w2;have:=h2.w2;have:=ve;simp only[wX,wL,nd,ndL,List.length_nil];omega
 |_,_,.sub h h2=>by have:=h.w2;have:=h2.w2;have:=ve;simp only[wX,wL,nd,ndL,List.length_nil];omega
 |_,_,.ife a b c d=>by have:=a.w2;have:=b.w2;have:=c.w;have:=d.w;have:=ve;simp only[wX,wL,nd,ndL,List.length_nil];omega
theorem F.w2:∀{k:Nat} {v:Int} {x:Ex},F k v x->wX x<=200 * nd x
 |_,_,_,.bare hv h=>h.w
 |_,_,_,.par hv h=>h.w
end
theorem Xl{α:Type}{w v:α->Nat}{c:Nat}:∀{l:List α},(∀x∈l,w x<=c * v x)->(l.map w).sum<=c * (l.map v).sum
 | [],_=>by simp
 |x::l,h=>by
  rw[List.map_cons,List.sum_cons,List.map_cons,List.sum_cons,Nat.mul_add]
  have:=h x (by simp)
  have:=Xl (l:=l) λy hy=>h y (by simp[hy])
  omega
theorem Ap{α:Type}{w:α->Nat}{c:Nat}:∀{l:List α},(∀x∈l,w x<=c)->(l.map w).sum<=c * l.length
 | [],_=>by simp
 |x::l,h=>by
  rw[List.map_cons,List.sum_cons,List.length_cons,Nat.mul_add]
  have:=h x (by simp)
  have:=Ap (l:=l) λy hy=>h y (by simp[hy])
  omega
theorem EC.w{p:Pr}(h:EC p):wP p<=300 * (szP p+1):=by
 have a:(p.params.map bw).sum<=300 * p.params.length:=Ap λb hb=>by
  have hb:=h.params b hb
  have:=Ym hb.n;have:=Hl hb.lo;have:=Hl hb.hi;unfold bw;omega
 have b:(p.states.map bw).sum<=300 * p.states.length:=Ap λb hb=>by
  have hb:=h.states b hb
  have:=Ym hb.n;have:=Hl hb.lo;have:=Hl hb.hi;unfold bw;omega
 have c:(p.lines.map lw).sum<=300 * p.lines.length:=Ap λb hb=>by
  have hb:=h.lines b hb
  have:=Ym hb.n;have:=JD hb.s;have:=Hl hb.lo;have:=Hl hb.hi;unfold lw;omega
 have d:(p.tables.map tbw).sum<=300 * (p.tables.map λt=>t.values.length).sum:=Xl λt ht=>by
  have ht:=h.tables t ht
  have e:=Ym ht.n
  have f:(t.values.map vw).sum<=60 * t.values.length:=Ap λv hv=>by have:=Hl (ht.v v hv);unfold vw;omega
  have g:0<t.values.length:=List.length_pos_iff.2 ht.ne
  unfold tbw;omega
 have e:(p.stmts.map sw).sum<=300 * (p.stmts.map λs=>nd s.x).sum:=Xl λs hs=>by
  have hs:=h.stmts s hs
  have a:=hs.x.w
  have b:=z6w s.x
  have c:s.name.length<=32:=by
   rcases hs.k with⟨_,hn⟩ |⟨_,hn⟩
   ·exact Ym hn
   ·rw[hn];exact Nat.zero_le _
  unfold sw;omega
 have f:=Ym h.n
 have g:=JD h.lat
 have i:tsz (dQ p.tail)<=56:=by
  rcases h.tl with h |h
  ·rw[h];exact Hl ⟨by omega,by omega⟩
  ·have:=JD h;omega
 unfold wP szP;omega
theorem z7h{l r:List Tk}{x:List Pr}(hv:Val l)(e:readM l=(some x,r)):(x.map wP).sum<=300 * l.length:=by
 obtain⟨h1,h2⟩:=Yh hv e
 have:=Xl (w:=wP) (v:=λp=>szP p+1) (c:=300) (l:=x) λp hp=>(h1 p hp).w
 omega
theorem z7i(l:List Pr):(textS (allT l)).length<=(l.map wP).sum/\(allT l).length<=(l.map wP).sum:=by
 have h1:=z9u l
 have h2:=WO (l:=allT l)
 have h3:=z1w (allT l)
 unfold tsz at h1 h3
 exact⟨by omega,by omega⟩
end Go.Fw.Sy
