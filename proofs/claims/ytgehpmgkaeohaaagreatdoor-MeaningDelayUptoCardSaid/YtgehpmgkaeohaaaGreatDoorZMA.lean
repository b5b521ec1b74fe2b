/- A part of the proof. -/
import Derived.Test.YtgehpmgkaeohaaaGreatDoorZTC
set_option linter.all false
namespace Go.Fw.Mn
open Go.Fw Go.Fw.Ref15 Go.Fw.Rg Go.Fw.Tl
variable [ae]
structure Fr where
 params:List Int
 inp:List Int
 side:List Int
 vals:List Int
 lines:List (List Int)
 lets:List Int
def at0(l:List Int)(i:Int):Int:=l.getD i.toNat 0
def gm(n lo hi:Int):Int:=mm2 true lo (mm2 false n hi)
abbrev Dc(F:Fr)(i:Int):List Int:=F.lines.getD i.toNat []
def lfM(F:Fr)(k i v:Int):Int:=
 if k==3 then at0 F.params i
 else if k==4 then at0 F.vals i
 else if k==5 then at0 F.lets i
 else if k==6 then at0 F.inp v
 else if k==7 then at0 F.side v
 else at0 (Dc F i) (gm v 0 ((Dc F i).length-1))
def opE(p:Pr)(Lf:Int->Int->Int->Int)(k i m:Int)(l:List Int):Int:=
 if k==1 then m
 else if k==9 then at0 (aI p i) (gm (l.getD 0 0) 0 ((aI p i).length-1))
 else if k==10 then gm (l.getD 0 0) (-2147483648) 2147483647
 else if k==11 then mm2 false (l.getD 0 0) (l.getD 1 0)
 else if k==12 then mm2 true (l.getD 0 0) (l.getD 1 0)
 else if k==13 then mm2 true (l.getD 0 0) (-(l.getD 0 0))
 else if k==14 then -(l.getD 0 0)
 else if k==15 then l.getD 0 0+l.getD 1 0
 else if k==16 then l.getD 0 0-l.getD 1 0
 else if k==17 then l.getD 0 0 * l.getD 1 0
 else if k==18 then ji (l.getD 0 0) m
 else if k==19 then(if l.getD 0 0<l.getD 1 0 then l.getD 2 0 else l.getD 3 0)
 else Lf k i (l.getD 0 0)
mutual
def nM(p:Pr)(Lf:Int->Int->Int->Int):Ex->Int
 | .mk k _ i m l=>opE p Lf k i m (valXs p Lf l)
def valXs(p:Pr)(Lf:Int->Int->Int->Int):List Ex->List Int
 | []=>[]
 |x::r=>nM p Lf x::valXs p Lf r
end
theorem MR(p:Pr)(Lf:Int->Int->Int->Int)(x:Ex):nM p Lf x=opE p Lf x.kind x.index x.n (valXs p Lf x.l):=by cases x;rfl
theorem BB(p:Pr)(Lf:Int->Int->Int->Int):∀l:List Ex,valXs p Lf l=l.map (nM p Lf)
 | []=>rfl
 |x::r=>by rw[valXs,BB p Lf r];rfl
structure zc1(p:Pr)(found:List Sp)(Lf:Int->Int->Int->Int):Prop where
 par:∀(i v:Int),0<=i->i<p.params.length->(jk p i).lo<=Lf 3 i v/\Lf 3 i v<=(jk p i).hi
 sta:∀(i v:Int),0<=i->i<p.states.length->(bH p i).lo<=Lf 4 i v/\Lf 4 i v<=(bH p i).hi
 let_:∀(i v:Int),0<=i->i<found.length->(found.getD i.toNat (0,0)).1<=Lf 5 i v/\Lf 5 i v<=(found.getD i.toNat (0,0)).2
 inn:∀(i v:Int),-2147483648<=Lf 6 i v/\Lf 6 i v<=2147483647
 sid:∀(i v:Int),-2147483648<=Lf 7 i v/\Lf 7 i v<=2147483647
 tap:∀(i v:Int),0<=i->i<p.lines.length->mm2 false (bW p i).lo 0<=Lf 8 i v/\Lf 8 i v<=mm2 true (bW p i).hi 0
theorem zc2{p:Pr}{found l:List Sp}{Lf:Int->Int->Int->Int}{vs:List Int}{k i m:Int}{s:Sp}(hR:Rng p)(hF:FOk found)(hL:zc1 p found Lf)(hv:InV vs l)(hw:tX p found.length k i m=true)(h:opM p found k i m l = .ok s) :
  s.1<=opE p Lf k i m vs/\opE p Lf k i m vs<=s.2:=by
 have hpt:=V7 (k:=k) hR (Ph hR) hF.sub (z6y hv) hw h
 have g0:(vs.map λv=>((v,v):Sp)).getD 0 (0,0)=(vs.getD 0 0,vs.getD 0 0):=by cases vs<;>rfl
 have g1:(vs.map λv=>((v,v):Sp)).getD 1 (0,0)=(vs.getD 1 0,vs.getD 1 0):=by
  simp
 obtain⟨s',hs,i1,_,i2⟩:=hpt
 have v2:=hv 2;have v3:=hv 3
 rcases kinds hw with r |r |r |r |r |r |r |r |r |r |r |r |r |r |r |r |r |r<;>subst r
 ·cases (show(Except.ok (m,m):Except Int Sp) = .ok s from h);exact⟨Int.le_refl _,Int.le_refl _⟩
 ·cases (show(Except.ok ((jk p i).lo,(jk p i).hi):Except Int Sp) = .ok s from h)
  have hq:=z18 hw rfl
  exact hL.par i _ hq.1 hq.2
 ·cases (show(Except.ok ((bH p i).lo,(bH p i).hi):Except Int Sp) = .ok s from h)
  have hq:=VT hw rfl
  exact hL.sta i _ hq.1 hq.2
 ·cases (show(Except.ok (found.getD i.toNat (0,0)):Except Int Sp) = .ok s from h)
  have hq:=O7 hw rfl
  exact hL.let_ i _ hq.1 (by omega)
 ·have hs:=nK (show aheadM (l.getD 0 (0,0)) = .ok s from h)
  subst hs
  exact hL.inn i _
 ·have hs:=nK (show aheadM (l.getD 0 (0,0)) = .ok s from h)
  subst hs
  exact hL.sid i _
 ·cases (show(Except.ok (mm2 false (bW p i).lo 0,mm2 true (bW p i).hi 0):Except Int Sp) = .ok s from h)
  have hq:=z19 hw rfl
  exact hL.tap i _ hq.1 hq.2
 ·cases (show(Except.ok (minL ((aI p i).getD 0 0) (aI p i),maxL ((aI p i).getD 0 0) (aI p i)):Except Int Sp) = .ok s from h)
  have hne:=VU hw rfl
  have hm:at0 (aI p i) (gm (vs.getD 0 0) 0 ((aI p i).length-1))∈aI p i:=by
   have:(gm (vs.getD 0 0) 0 ((aI p i).length-1)).toNat<(aI p i).length:=by
    grind[gm,mm2]
   rw[at0,List.getD_eq_getElem?_getD,List.getElem?_eq_getElem this];simp
  exact⟨Zh hm,Zi hm⟩
 ·have e:(Except.ok (oK ((vs.map λv=>((v,v):Sp)).getD 0 (0,0)).1,oK ((vs.map λv=>((v,v):Sp)).getD 0 (0,0)).2):Except Int Sp) = .ok s':=hs
  rw[g0]at e;cases e
  show s.1<=gm (vs.getD 0 0) (-2147483648) 2147483647/\gm (vs.getD 0 0) (-2147483648) 2147483647<=s.2
  grind[gm,oK,mm2]
 ·have e:(Except.ok (mm2 false ((vs.map λv=>((v,v):Sp)).getD 0 (0,0)).1 ((vs.map λv=>((v,v):Sp)).getD 1 (0,0)).1,mm2 false ((vs.map λv=>((v,v):Sp)).getD 0 (0,0)).2 ((vs.map λv=>((v,v):Sp)).getD 1 (0,0)).2):Except Int Sp) = .ok s':=hs
  rw[g0,g1]at e;cases e;exact⟨i1,i2⟩
 ·have e:(Except.ok (mm2 true ((vs.map λv=>((v,v):Sp)).getD 0 (0,0)).1 ((vs.map λv=>((v,v):Sp)).getD 1 (0,0)).1,mm2 true ((vs.map λv=>((v,v):Sp)).getD 0 (0,0)).2 ((vs.map λv=>((v,v):Sp)).getD 1 (0,0)).2):Except Int Sp) = .ok s':=hs
  rw[g0,g1]at e;cases e;exact⟨i1,i2⟩
 ·have e:(Except.ok (Tu ((vs.map λv=>((v,v):Sp)).getD 0 (0,0))):Except Int Sp) = .ok s':=hs
  rw[g0]at e;cases e
  show s.1<=mm2 true (vs.getD 0 0) (-(vs.getD 0 0))/\mm2 true (vs.getD 0 0) (-(vs.getD 0 0))<=s.2
  grind[Tu,mm2]
 ·have e:(Except.ok (-((vs.map λv=>((v,v):Sp)).getD 0 (0,0)).2,-((vs.map λv=>((v,v):Sp)).getD 0 (0,0)).1):Except Int Sp) = .ok s':=hs
  rw[g0]at e;cases e;exact⟨i1,i2⟩
 ·have e:two (((vs.map λv=>((v,v):Sp)).getD 0 (0,0)).1+((vs.map λv=>((v,v):Sp)).getD 1 (0,0)).1) (((vs.map λv=>((v,v):Sp)).getD 0 (0,0)).2+((vs.map λv=>((v,v):Sp)).getD 1 (0,0)).2) = .ok s':=hs
  rw[g0,g1]at e
  obtain⟨rfl,_⟩:=Be e;exact⟨i1,i2⟩
 ·have e:two (((vs.map λv=>((v,v):Sp)).getD 0 (0,0)).1 + -((vs.map λv=>((v,v):Sp)).getD 1 (0,0)).2) (((vs.map λv=>((v,v):Sp)).getD 0 (0,0)).2 + -((vs.map λv=>((v,v):Sp)).getD 1 (0,0)).1) = .ok s':=hs
  rw[g0,g1]at e
  obtain⟨rfl,_⟩:=Be e
  show s.1<=vs.getD 0 0-vs.getD 1 0/\vs.getD 0 0-vs.getD 1 0<=s.2
  omega
 ·have e:prodM ((vs.map λv=>((v,v):Sp)).getD 0 (0,0)) ((vs.map λv=>((v,v):Sp)).getD 1 (0,0)) = .ok s':=hs
  rw[g0,g1]at e
  obtain⟨rfl,_⟩:=F7 e
  have m1:KA (vs.getD 0 0 * vs.getD 1 0) (vs.getD 0 0 * vs.getD 1 0) (vs.getD 0 0 * vs.getD 1 0) (vs.getD 0 0 * vs.getD 1 0)=vs.getD 0 0 * vs.getD 1 0:=by simp[KA,mm2]
  have m2:KC (vs.getD 0 0 * vs.getD 1 0) (vs.getD 0 0 * vs.getD 1 0) (vs.getD 0 0 * vs.getD 1 0) (vs.getD 0 0 * vs.getD 1 0)=vs.getD 0 0 * vs.getD 1 0:=by simp[KC,mm2]
  simp only[m1,m2]at i1 i2
  exact⟨i1,i2⟩
 ·have e:(Except.ok (ji ((vs.map λv=>((v,v):Sp)).getD 0 (0,0)).1 m,ji ((vs.map λv=>((v,v):Sp)).getD 0 (0,0)).2 m):Except Int Sp) = .ok s':=hs
  rw[g0]at e;cases e;exact⟨i1,i2⟩
 ·cases (show(Except.ok (mm2 false (l.getD 2 (0,0)).1 (l.getD 3 (0,0)).1,mm2 true (l.getD 2 (0,0)).2 (l.getD 3 (0,0)).2):Except Int Sp) = .ok s from h)
  show mm2 false (l.getD 2 (0,0)).1 (l.getD 3 (0,0)).1<=(if vs.getD 0 0<vs.getD 1 0 then vs.getD 2 0 else vs.getD 3 0)/\(if vs.getD 0 0<vs.getD 1 0 then vs.getD 2 0 else vs.getD 3 0)<=mm2 true (l.getD 2 (0,0)).2 (l.getD 3 (0,0)).2
  grind[mm2]
mutual
theorem Gx{p:Pr}{found:List Sp}{Lf:Int->Int->Int->Int}(hR:Rng p)(hF:FOk found)(hL:zc1 p found Lf):∀(x:Ex) (s:Sp),wfX p found.length x=true->dD p found x = .ok s->s.1<=nM p Lf x/\nM p Lf x<=s.2
 | .mk k nm i m l,s,hw,h=>by
  obtain⟨_,g2,g3⟩:=bZ hw
  rw[gV]at h
  rw[MR]
  simp only[Ex.l,Ex.kind,Ex.index,Ex.n]at h g2 g3 ⊢
  cases hl:dh p found l with
  |error e=>rw[hl]at h;cases h
  |ok t=>
   rw[hl]at h
   exact zc2 hR hF hL (PI hR hF hL l t g3 hl) g2 h
theorem PI{p:Pr}{found:List Sp}{Lf:Int->Int->Int->Int}(hR:Rng p)(hF:FOk found)(hL:zc1 p found Lf):∀(l:List Ex) (t:List Sp),wfL p found.length l=true->dh p found l = .ok t->InV (valXs p Lf l) t
 | [],t,_,h=>by rw[dh]at h;cases h;exact z6x
 |x::r,t,hw,h=>by
  simp only[wfL,Bool.and_eq_true]at hw
  rw[dh]at h
  cases hx:dD p found x with
  |error e=>rw[hx]at h;cases h
  |ok s=>
   rw[hx]at h
   simp only at h
   cases hr:dh p found r with
   |error e=>rw[hr]at h;cases h
   |ok u=>
    rw[hr]at h
    cases h
    rw[valXs]
    exact Zg (Gx hR hF hL x s hw.1 hx) (PI hR hF hL r u hw.2 hr)
end
abbrev lC(l:List Int):List D:=[.sl 1 (l.map aC)]
abbrev Fr.cs(F:Fr)(p:Pr):List D:=[.sl 1 (F.lets.map aC),.str p.name,.i p.latency,.i p.tail,.sl 3 (p.params.map Bd.cs),.sl 3 (p.states.map Bd.cs),.sl 4 (p.lines.map Ln.cs),.sl 2 (p.tables.map Tb.cs),.sl 8 (p.stmts.map Sm.cs),
 .sl 1 (F.params.map aC),.sl 1 (F.inp.map aC),.sl 1 (F.side.map aC),.sl 1 (F.vals.map aC),.sl 1 (F.lines.map lC)]
structure zc3(p:Pr)(found:List Sp)(F:Fr):Prop where
 rng:Rng p
 fok:FOk found
 lf:zc1 p found (lfM F)
 par:F.params.length=p.params.length
 val:F.vals.length=p.states.length
 lin:F.lines.length=p.lines.length
 lne:∀l∈F.lines,0<l.length/\l.length<=1073741824
 let_:F.lets.length=found.length
 tab:∀t∈p.tables,t.values.length<=1073741824
structure XOk(p:Pr)(found:List Sp)(F:Fr)(x:Ex):Prop where
 wf:wfX p found.length x=true
 fnd:∃s,dD p found x = .ok s
 ahd:∀y∈au x,looks y=true->∀z,y.l = [z]->0<=nM p (lfM F) z/\nM p (lfM F) z<F.inp.length/\nM p (lfM F) z<F.side.length
variable {found : List Sp} {p : Pr}
theorem Jr:∀{l:List Ex} {t:List Sp},dh p found l = .ok t->∀y∈l,∃s,dD p found y = .ok s
 |x::r,t,h,y,hy=>by
  rw[dh]at h
  cases hx:dD p found x with
  |error e=>simp_all
  |ok s=>
   cases hr:dh p found r with
   |error e=>simp_all
   |ok u=>
    rcases List.mem_cons.1 hy with rfl |hy
    ·simp_all
    ·exact Jr hr y hy
theorem XOk.part{F:Fr}{x y:Ex}(h:XOk p found F x)(hy:y∈x.l):XOk p found F y:=by
 obtain⟨g1,g2,g3⟩:=bZ h.wf
 obtain⟨s,hs⟩:=h.fnd
 refine⟨mZ g3 y hy,?_,λz hz=>h.ahd z (z7m hy hz)⟩
 grind[gV,Jr]
theorem XOk.inW{F:Fr}{x:Ex}(hF:zc3 p found F)(h:XOk p found F x):inW (nM p (lfM F) x)=true:=by
 obtain⟨s,hs⟩:=h.fnd
 have h1:=Gx hF.rng hF.fok hF.lf x s h.wf hs
 have h2:=vC hF.rng hF.fok.ins x s h.wf hs
 grind[dI]
theorem z7o{Lf:Int->Int->Int->Int}(l:List Ex):(valXs p Lf l).length=l.length:=by rw[BB];simp
theorem zk{l:List Int}{v:Int}(h:0<l.length):0<=gm v 0 (l.length-1)/\gm v 0 (l.length-1)<l.length:=by
 grind[gm,mm2]
theorem Zu{l:List Int}(h:l.length<=1073741824):IntKind.i64.wrap (((l.map aC).length:Int)-1)=(l.length:Int)-1:=by
 grind[bC]
end Go.Fw.Mn
namespace Go.Fw.Mn
open Go.Fw Go.Fw.Ref15 Go.Fw.Rg Go.Fw.Tl
variable [ae] {Lf : Int → Int → Int → Int} {p : Pr} {x a b c d : Ex}
theorem yj{sl:List Int}(h:sl.length=1):∃a,sl = [a]:=by
 match sl,h with
 | [a],_=>simp
theorem Js{sl:List Int}(h:sl.length=2):∃a b,sl = [a,b]:=by
 match sl,h with
 | [a,b],_=>simp
theorem zc4{l:List Ex}(h:l.length=4):∃a b c d,l = [a,b,c,d]:=by
 match l,h with
 | [a,b,c,d],_=>simp
theorem wrap_in{v:Int}(h:inW v=true):IntKind.i64.wrap v=v:=by
 grind[dI,bC]
theorem zc5{x:Ex}{k:Int}{l:List Int}(hk:x.kind=k)(hl:valXs p Lf x.l=l):nM p Lf x=opE p Lf k x.index x.n l:=by rw[MR,hk,hl]
theorem zc6{found:List Sp}{F:Fr}{x:Ex}(h:XOk p found F x)(hk:(x.kind==19)=true):∃a b c d,x.l = [a,b,c,d]/\nM p (lfM F) x=if nM p (lfM F) a<nM p (lfM F) b then nM p (lfM F) c else nM p (lfM F) d:=by
 obtain⟨g1,_,_⟩:=bZ h.wf
 rw[eq_of_beq hk]at g1
 obtain⟨a,b,c,d,e⟩:=zc4 (l:=x.l) (by have g1:(x.l.length:Int)=4:=g1;omega)
 exact⟨a,b,c,d,e,(zc5 (eq_of_beq hk) (congrArg (valXs p (lfM F)) e)).trans rfl⟩
theorem zc7(h:x.l = [a,b,c,d]):(0<=(0:Int)/\(Ex.css x.l)[(0:Int).toNat]? = some (Ex.cs a))/\(0<=(1:Int)/\(Ex.css x.l)[(1:Int).toNat]? = some (Ex.cs b))/\(0<=(2:Int)/\(Ex.css x.l)[(2:Int).toNat]? = some (Ex.cs c))/\(0<=(3:Int)/\(Ex.css x.l)[(3:Int).toNat]? = some (Ex.cs d)):=by
 rw[h];simp[Ex.css_eq]
theorem zh6(h:nM p Lf x=if nM p Lf a<nM p Lf b then nM p Lf c else nM p Lf d)(hc:decide (nM p Lf a<nM p Lf b)=true):nM p Lf c=nM p Lf x:=by simp_all
theorem zh7(h:nM p Lf x=if nM p Lf a<nM p Lf b then nM p Lf c else nM p Lf d)(hc:decide (nM p Lf a<nM p Lf b)=false):nM p Lf d=nM p Lf x:=by grind
theorem WI{a:List Int}{x:Ex}{r:List Ex}{t:List Int}(h:a++valXs p Lf (x::r)=t):(a++[nM p Lf x])++valXs p Lf r=t:=by grind[valXs]
theorem Zv{a:List Int}{t:List Int}(h:a++valXs p Lf []=t):a=t:=by grind[valXs]
end Go.Fw.Mn
namespace Go.Fw
variable [ae]
theorem PK{T:Tbl}{rs:List ResultVar}{K0 K K1:Heap}{out:gG}{env:Env}(env':Env)(K':Heap)(h1:Ak env K env' K')(h2:Go.Fw.finR T rs K0 out K1 env' K'):Go.Fw.finR T rs K0 out K1 env K\/∃env' K',z3x env K env' K'/\Go.Fw.finR T rs K0 out K1 env' K':=.inr ⟨env',K',by grind[qO],h2⟩
end Go.Fw
namespace Go.Fw.Mn
open Go.Fw Go.Fw.Ref15 Go.Fw.Rg Go.Fw.Tl
variable [ae]
structure St where
 vals:List Int
 lines:List (List Int)
abbrev St.d(s:St):D:=.agg [.sl 1 (s.vals.map aC),.sl 1 (s.lines.map lC)]
structure St.Sm(s:St):Prop where
 vals:s.vals.length<=1073741824
 lines:s.lines.length<=1073741824
 line:∀l∈s.lines,l.length<=1073741824
variable {f : Int → Bool} {b : Bool}
def jA(f:Int->Bool):List Int->Int->Int
 | [],_=>-1
 |x::r,i=>bif f x then i else jA f r (i+1)
theorem BC{x:Int}{r l:List Int}{i:Int}(h:jA f l 0=jA f (x::r) i)(hb:f x=false):jA f l 0=jA f r (i+1):=by grind[jA]
theorem EG{x:Int}{r l:List Int}{i:Int}(h:jA f l 0=jA f (x::r) i)(hb:f x=true):jA f l 0=i:=by grind[jA]
theorem xy:∀(l:List Int) (i:Int),0<=i->decide (jA f l i>=0)=l.any f
 | [],i,_=>rfl
 |x::r,i,hi=>by
  rw[jA,List.any_cons]
  cases f x with
  |true=>simp[hi]
  |false=>simpa using xy r (i+1) (by omega)
def Zw(x:Int):Bool:=bif decide (x < -2147483648)then true else decide (x>2147483647)
def z2u(y:Ln)(v:Int):Bool:=bif v != 0 then(bif decide (v<y.lo)then true else decide (v>y.hi))else false
def iL(l:List Int)(n:Int):Bool:=bif (l.length:Int)==n then !(l.any Zw)else false
def zfi(q:Int×Bd):Bool:=bif decide (q.1<q.2.lo)then true else decide (q.1>q.2.hi)
def WJ(z:List (Int×Bd)):Bool:=!(z.any zfi)
def iR(l:List Int)(bs:List Bd):Bool:=bif (l.length:Int) != (bs.length:Int)then false else WJ (l.zip bs)
def z7p(q:List Int×Ln):Bool:=bif (q.1.length:Int) != q.2.size then true else q.1.any (z2u q.2)
def linZ(z:List (List Int×Ln)):Bool:=!(z.any z7p)
def jS(p:Pr)(s:St):Bool:=bif (bif !(iR s.vals p.states)then true else(s.lines.length:Int) != (p.lines.length:Int))then false else linZ (s.lines.zip p.lines)
theorem Zx{x:Int×Bd}{r:List (Int×Bd)}(h:b=WJ (x::r))(hb:zfi x=false):b=WJ r:=by rw[h,WJ,List.any_cons,hb];rfl
theorem z7q{x:Int×Bd}{r:List (Int×Bd)}(h:b=WJ (x::r))(hb:zfi x=true):false=b:=by rw[h,WJ,List.any_cons,hb];rfl
theorem Zy{x:List Int×Ln}{r:List (List Int×Ln)}(h:b=linZ (x::r))(hb:z7p x=false):b=linZ r:=by rw[h,linZ,List.any_cons,hb];rfl
theorem z7r{x:List Int×Ln}{r:List (List Int×Ln)}(h:b=linZ (x::r))(hb:z7p x=true):false=b:=by rw[h,linZ,List.any_cons,hb];rfl
theorem zc8{l:List Int}{bs:List Bd}(h:((l.length:Int) != (bs.length:Int))=true):false=iR l bs:=by rw[iR,h];rfl
theorem WL{l:List Int}{bs:List Bd}(h:l.length=bs.length):iR l bs=WJ (l.zip bs):=by
 grind[iR]
theorem lne{n m:Nat}(h:((n:Int) != (m:Int))=false):n=m:=by simp at h;omega
theorem zc9{α β:Type}{l:List α}{m:List β}(h:l.length=m.length):(l.zip m).length=l.length:=by simp[h]
theorem zda{p:Pr}{s:St}(h:(bif !(iR s.vals p.states)then true else(s.lines.length:Int) != (p.lines.length:Int))=true):false=jS p s:=by rw[jS,h];rfl
theorem z7s{p:Pr}{s:St}(h:(bif !(iR s.vals p.states)then true else(s.lines.length:Int) != (p.lines.length:Int))=false):s.lines.length=p.lines.length/\jS p s=linZ (s.lines.zip p.lines):=by
 refine⟨?_,by rw[jS,h];rfl⟩
 grind
def lK(p:Pr):St:=⟨p.states.map λb=>gm 0 b.lo b.hi,p.lines.map λl=>List.replicate l.size.toNat 0⟩
theorem Zz{ls:List (List Int)}{k:Nat}:List.map lC ls++chunks 1 1 [D.sl 1 (List.replicate k [D.val (Value.int .i64 0)])]=List.map lC (ls++[List.replicate k 0]):=by
 simp[chunks]
theorem WM{τ:List (Nat×Nat)}{i j v s n m:Nat}(h:i=rn τ j)(h2:n=m):AV.own i v s 0 n=AV.ren τ (AV.own j v s 0 m):=by
 grind[AV.ren]
theorem PL{v s:Nat}{k' l m:List (List D)}(h:l=m):Block.arr v s (List.take 0 k'++l)=Block.arr v s m:=by
 rw[h];rfl
theorem z7t{p:Pr}{vs:List Int}{ls:List (List Int)}(h1:(lK p).vals=vs++([]:List Bd).map (λb=>gm 0 b.lo b.hi))(h2:(lK p).lines=ls++([]:List Ln).map (λl=>List.replicate l.size.toNat 0)):(lK p).d = .agg [.sl 1 (vs.map aC),.sl 1 (ls.map lC)]:=by
 simp_all
structure Ss where
 lets:List Int
 vals:List Int
 out:Int
 pu:List (Sm×Int)
variable {l : List Int}
abbrev Fr.at(A:Fr)(q:Ss):Fr:=⟨A.params,A.inp,A.side,q.vals,A.lines,q.lets⟩
def nN(p:Pr)(A:Fr)(q:Ss)(s:Sm):Int:=nM p (lfM (A.at q)) s.x
def uu(p:Pr)(A:Fr)(q:Ss)(s:Sm):Ss:=
 ⟨q.lets++[nN p A q s],if s.kind==2 then q.vals.set s.index.toNat (nN p A q s)else q.vals,if s.kind==4 then nN p A q s else q.out,if s.kind==3 then q.pu++[(s,nN p A q s)]else q.pu⟩
def xA(ls:List (List Int))(x:Sm×Int):List (List Int):=ls.set x.1.index.toNat (x.2::(ls.getD x.1.index.toNat []).dropLast)
def zdb(p:Pr)(A:Fr):Ss:=p.stmts.foldl (uu p A) ⟨[],A.vals,0,[]⟩
def stepM(p:Pr)(A:Fr):Int×St:=((zdb p A).out,⟨(zdb p A).vals,(zdb p A).pu.foldl xA A.lines⟩)
abbrev FA(p:Pr)(F:Fr)(v l t:Nat):List AV:=[.gs t 1 (F.lets.map aC),.data (.str p.name),.data (.i p.latency),.data (.i p.tail),.data (.sl 3 (p.params.map Bd.cs)),.data (.sl 3 (p.states.map Bd.cs)),.data (.sl 4 (p.lines.map Ln.cs)),.data (.sl 2 (p.tables.map Tb.cs)),.data (.sl 8 (p.stmts.map Sm.cs)),
 .data (.sl 1 (F.params.map aC)),.data (.sl 1 (F.inp.map aC)),.data (.sl 1 (F.side.map aC)),.own v 1 1 0 F.vals.length,.own l 1 1 0 F.lines.length]
abbrev pC(f:Nat)(b:Nat)(x:Sm×Int):List D:=[.fn f [.val (.pointer (some ⟨b,0,none⟩)),.ptr x.1.cs,.ptr [.i x.2]]]
theorem zdc{i:Int}(h0:0<=i)(h1:i<l.length):(l.map aC)[0+i.toNat]? = some (aC (l.getD i.toNat 0)):=by
 simp_all
theorem WN{l:List (List Int)}{i:Int}(h0:0<=i)(h1:i<l.length):(l.map lC)[0+i.toNat]? = some (lC (l.getD i.toNat [])):=by
 simp_all
theorem z7u{i n:Int}:(l.map aC).set (0+i.toNat) (aC n)=(l.set i.toNat n).map aC:=by simp
theorem z7v{f b z:Nat}{pu:List (Sm×Int)}{s:Sm}{n:Int}(hz:z=1):List.map (pC f b) pu++chunks z 1 [D.fn f [D.val (.pointer (some ⟨b,0,none⟩)),.ptr s.cs,.ptr [.i n]]]=List.map (pC f b) (pu++[(s,n)]):=by
 subst hz;rw[List.map_append];rfl
theorem zdd(h:0<l.length/\l.length<=1073741824):cut none (some (IntKind.i64.wrap (((l.map aC).length:Int)-1))) (l.map aC)=l.dropLast.map aC:=by
 rw[Zu h.2,show(l.length:Int)-1=((l.length-1:Nat):Int)from by omega]
 simp only[cut,Int.toNat_natCast]
 rw[List.dropLast_eq_take,List.map_take]
theorem z7w{ls:List (List Int)}{s:Sm}{n:Int}{z:Nat}(hz:z=1)(h:0<(ls.getD s.index.toNat []).length/\(ls.getD s.index.toNat []).length<=1073741824) :
  Block.arr 1 1 ((List.map lC ls).set (0+s.index.toNat) (zar 1 (lC (ls.getD s.index.toNat [])) 0 [D.sl z (chunks z 1 [D.i n]++cut none (some (IntKind.i64.wrap (((ls.getD s.index.toNat []).map aC).length-1:Int))) ((ls.getD s.index.toNat []).map aC))]))=Block.arr 1 1 ((xA ls (s,n)).map lC):=by
 subst hz
 rw[zdd h,xA,Nat.zero_add]
 rw[List.map_set]
 rfl
abbrev ss0(A:Fr):Ss:=⟨[],A.vals,0,[]⟩
def qF(p:Pr)(A:Fr)(i:Nat):Ss:=(p.stmts.take i).foldl (uu p A) (ss0 A)
theorem zde(p:Pr)(A:Fr):ss0 A=qF p A 0:=by simp[qF]
theorem z2v{p:Pr}{A:Fr}{i:Nat}{s:Sm}{r:List Sm}(h:p.stmts.drop i=s::r):uu p A (qF p A i) s=qF p A (i+1):=by
 have hs:p.stmts[i]? = some s:=by
  have:=congrArg (λl=>l[0]?) h
  simpa using this
 rw[qF,qF,List.take_add_one,hs,List.foldl_append];rfl
theorem z2w{p:Pr}{A:Fr}{i:Nat}(h:p.stmts.length<=i):qF p A i=zdb p A:=by rw[qF,List.take_of_length_le h];rfl
structure yt(p:Pr)(A:Fr):Prop where
 len:p.stmts.length<=1073741823
 val:A.vals.length<=1073741824
 lin:A.lines.length<=1073741824
 fr:∀(i:Nat) s,p.stmts[i]? = some s->∃found,zc3 p found (A.at (qF p A i))/\XOk p found (A.at (qF p A i)) s.x
 knd:∀s∈p.stmts,s.kind=1\/s.kind=2\/s.kind=3\/s.kind=4
 set:∀s∈p.stmts,s.kind=2->0<=s.index/\s.index<A.vals.length
 psh:∀s∈p.stmts,s.kind=3->0<=s.index/\s.index<A.lines.length
 lne:∀l∈A.lines,0<l.length/\l.length<=1073741824
 nod:∀s∈p.stmts,Ref15.nodes s.x<=1073741824
variable {A : Fr} {p : Pr}
theorem vN{p:Pr}{A:Fr}:∀(l:List Sm) (q:Ss),(l.foldl (uu p A) q).vals.length=q.vals.length/\(l.foldl (uu p A) q).lets.length=q.lets.length+l.length/\(l.foldl (uu p A) q).pu.length<=q.pu.length+l.length
 | [],q=>⟨rfl,rfl,Nat.le_refl _⟩
 |s::r,q=>by
  obtain⟨h1,h2,h3⟩:=vN (p:=p) (A:=A) r (uu p A q s)
  refine⟨h1.trans ?_,h2.trans ?_,Nat.le_trans h3 ?_⟩
  ·simp[uu];split<;>simp
  ·simp[uu];omega
  ·simp[uu];split
   ·simp;omega
   ·omega
theorem Jt{i:Nat}:(qF p A i).vals.length=A.vals.length:=(vN _ _).1
theorem WO{i:Nat}(h:i<=p.stmts.length):(qF p A i).lets.length=i:=by
 have:=(vN (p:=p) (A:=A) (p.stmts.take i) (ss0 A)).2.1
 grind[qF]
theorem z7x{i:Nat}(h:i<=p.stmts.length):(qF p A i).pu.length<=i:=by
 have:=(vN (p:=p) (A:=A) (p.stmts.take i) (ss0 A)).2.2
 rw[List.length_take]at this
 have e:(ss0 A).pu.length=0:=rfl
 exact Nat.le_trans this (by omega)
theorem z2x(P:Sm->Prop):∀(l:List Sm) (q:Ss),(∀x∈q.pu,P x.1)->(∀s∈l,s.kind=3->P s)->∀x∈(l.foldl (uu p A) q).pu,P x.1
 | [],q,h,_=>h
 |s::r,q,h,hl=>by
  refine z2x P r _ (λx hx=>?_) λt ht=>hl t (by simp[ht])
  simp[uu]at hx
  grind
def zdf(A:Fr)(ls:List (List Int)):Prop:=ls.length=A.lines.length/\∀l∈ls,0<l.length/\l.length<=1073741824
theorem z2y{ls:List (List Int)}{i:Int}(h:zdf A ls)(h0:0<=i)(h1:i<A.lines.length):0<(ls.getD i.toNat []).length/\(ls.getD i.toNat []).length<=1073741824:=by
 have hi:i.toNat<ls.length:=by rw[h.1];omega
 refine h.2 _ ?_
 simp_all
theorem WP{ls:List (List Int)}{x:Sm×Int}(h:zdf A ls)(h0:0<=x.1.index)(h1:x.1.index<A.lines.length):zdf A (xA ls x):=by
 have hg:=z2y h h0 h1
 refine⟨by rw[xA,List.length_set];exact h.1,λl hl=>?_⟩
 rcases List.mem_or_eq_of_mem_set hl with hl |rfl
 ·exact h.2 l hl
 simp_all
theorem zdg(h:yt p A):∀x∈(zdb p A).pu,0<=x.1.index/\x.1.index<A.lines.length:=
 z2x (λs=>0<=s.index/\s.index<A.lines.length) p.stmts (ss0 A) (λx hx=>by simp at hx) h.psh
theorem zdh{q:Ss}{i j:Nat}{x:Sm×Int}{r:List (Sm×Int)}(h:yt p A)(hq:q=qF p A i)(hd:p.stmts.drop i = [])(hx:q.pu.drop j=x::r):0<=x.1.index/\x.1.index<A.lines.length:=by
 have hn:p.stmts.length<=i:=List.drop_eq_nil_iff.1 hd
 rw[z2w hn]at hq
 refine zdg h x ?_
 grind[List.mem_of_mem_drop]
section
variable {p : Pr} {A : Fr} {q : Ss} {s : Sm}
theorem PN:(uu p A q s).lets=q.lets++[nN p A q s]:=rfl
theorem zdi(h:s.kind=2):(uu p A q s).vals=q.vals.set s.index.toNat (nN p A q s):=by grind[uu]
theorem zdj(h:s.kind≠2):(uu p A q s).vals=q.vals:=by grind[uu]
theorem ZA:(uu p A q s).vals.length=q.vals.length:=by rw[uu];simp only;split<;>simp
theorem zdk(h:s.kind=1):uu p A q s=⟨q.lets++[nN p A q s],q.vals,q.out,q.pu⟩:=by grind[uu]
theorem zdl(h:s.kind=2):uu p A q s=⟨q.lets++[nN p A q s],q.vals.set s.index.toNat (nN p A q s),q.out,q.pu⟩:=by grind[uu]
theorem zdm(h:s.kind=3):uu p A q s=⟨q.lets++[nN p A q s],q.vals,q.out,q.pu++[(s,nN p A q s)]⟩:=by grind[uu]
theorem zdn(h:s.kind=4):uu p A q s=⟨q.lets++[nN p A q s],q.vals,nN p A q s,q.pu⟩:=by grind[uu]
theorem step_next{i:Nat}{r:List Sm}(h:q=qF p A i)(hd:p.stmts.drop i=s::r):uu p A q s=qF p A (i+1):=by
 grind[z2v]
theorem step_ret{i:Nat}{ls:List (List Int)}(h:q=qF p A i)(hd:p.stmts.drop i = [])(h2:q.pu.foldl xA A.lines=ls) :
  D.tuple [.i (stepM p A).1,(stepM p A).2.d,.i 0] = .tuple [.i q.out,.agg [.sl 1 (q.vals.map aC),.sl 1 (ls.map lC)],.i 0]:=by
 have hn:=List.drop_eq_nil_iff.1 hd
 rw[z2w hn]at h
 subst h;subst h2;rfl
end
theorem z7y{p:Pr}(n:Int)(x:Ex):n<=V9 p n x/\(looks x=true->hiM p (x.l.getD 0 Ex.none)<=V9 p n x):=by
 unfold V9
 split
 ·exact⟨(ug _ _).1,λ_=>(ug _ _).2.1⟩
 ·rename_i h;exact⟨Int.le_refl _,λq=>absurd q h⟩
theorem WQ{p:Pr}:∀(l:List Ex) (n:Int),n<=l.foldl (V9 p) n/\∀x∈l,looks x=true->hiM p (x.l.getD 0 Ex.none)<=l.foldl (V9 p) n
 | [],n=>⟨Int.le_refl _,λx hx=>by simp at hx⟩
 |y::r,n=>by
  obtain⟨h1,h2⟩:=WQ r (V9 p n y)
  obtain⟨g1,g2⟩:=z7y (p:=p) n y
  rw[List.foldl_cons]
  refine⟨Int.le_trans g1 h1,λx hx hk=>?_⟩
  rcases List.mem_cons.1 hx with rfl |hx
  ·exact Int.le_trans (g2 hk) h1
  ·exact h2 x hx hk
theorem WR{p:Pr}:∀(l:List Sm) (n:Int),n<=l.foldl (za0 p) n/\∀s∈l,∀x∈au s.x,looks x=true->hiM p (x.l.getD 0 Ex.none)<=l.foldl (za0 p) n
 | [],n=>⟨Int.le_refl _,λx hx=>by simp at hx⟩
 |y::r,n=>by
  obtain⟨h1,h2⟩:=WR r (za0 p n y)
  obtain⟨g1,g2⟩:=WQ (p:=p) (au y.x) n
  rw[List.foldl_cons]
  refine⟨Int.le_trans g1 h1,λs hs x hx hk=>?_⟩
  rcases List.mem_cons.1 hs with rfl |hs
  ·exact Int.le_trans (g2 x hx hk) h1
  ·exact h2 s hs x hx hk
theorem z7z{p:Pr}{s:Sm}(hs:s∈p.stmts){x:Ex}(hx:x∈au s.x)(hk:looks x=true):hiM p (x.l.getD 0 Ex.none)<=XX p:=(WR p.stmts 0).2 s hs x hx hk
theorem PO{a b:Bool}:(bif a then true else b)=(a || b):=by cases a<;>rfl
theorem WS{a b:Bool}:(bif a then b else false)=(a&&b):=by cases a<;>rfl
theorem WT{α β:Type}{l:List α}{m:List β}(a:α)(b:β){i:Nat}(h1:i<l.length)(h2:i<m.length):(l.getD i a,m.getD i b)∈l.zip m:=by
 rw[List.mem_iff_getElem?]
 refine⟨i,?_⟩
 grind
theorem Ju{l:List Int}{bs:List Bd}(h:iR l bs=true):l.length=bs.length/\∀i,i<l.length->(bs.getD i Bd.none).lo<=l.getD i 0/\l.getD i 0<=(bs.getD i Bd.none).hi:=by
 unfold iR at h
 cases q:((l.length:Int) != (bs.length:Int))with
 |true=>simp_all
 |false=>
  rw[q]at h
  have hl:=lne q
  refine⟨hl,λi hi=>?_⟩
  have h:WJ (l.zip bs)=true:=h
  simp only[WJ,Bool.not_eq_true',List.any_eq_false]at h
  have:=h _ (WT 0 Bd.none hi (by omega))
  simp only[zfi,PO,Bool.or_eq_true,decide_eq_true_eq]at this
  omega
theorem EH{l:List Int}{n:Int}(h:iL l n=true):(l.length:Int)=n/\∀v∈l,-2147483648<=v/\v<=2147483647:=by
 unfold iL at h
 rw[WS,Bool.and_eq_true]at h
 refine⟨eq_of_beq h.1,λv hv=>?_⟩
 have h:=h.2
 simp at h
 have:=h v hv
 simp[Zw]at this
 omega
structure Rz(p:Pr)(A:Fr):Prop where
 par:A.params.length=p.params.length
 parV:∀i,i<A.params.length->(p.params.getD i Bd.none).lo<=A.params.getD i 0/\A.params.getD i 0<=(p.params.getD i Bd.none).hi
 inp:(A.inp.length:Int)=p.latency+1
 inpV:∀v∈A.inp,-2147483648<=v/\v<=2147483647
 sid:(A.side.length:Int)=p.latency+1
 sidV:∀v∈A.side,-2147483648<=v/\v<=2147483647
 val:A.vals.length=p.states.length
 valV:∀i,i<A.vals.length->(p.states.getD i Bd.none).lo<=A.vals.getD i 0/\A.vals.getD i 0<=(p.states.getD i Bd.none).hi
 lin:A.lines.length=p.lines.length
 linN:∀i,i<A.lines.length->((A.lines.getD i []).length:Int)=(p.lines.getD i Ln.none).size
 linV:∀i,i<A.lines.length->∀v∈A.lines.getD i [],v=0\/((p.lines.getD i Ln.none).lo<=v/\v<=(p.lines.getD i Ln.none).hi)
def XZ(p:Pr)(A:Fr):Bool:=bif (bif !(iR A.params p.params)then true else !(iL A.inp (IntKind.i64.wrap (p.latency+1))))then true else !(iL A.side (IntKind.i64.wrap (p.latency+1)))
theorem ZB{p:Pr}{s:St}(h:jS p s=true):iR s.vals p.states=true/\s.lines.length=p.lines.length/\∀i,i<s.lines.length->((s.lines.getD i []).length:Int)=(p.lines.getD i Ln.none).size/\∀v∈s.lines.getD i [],v=0\/((p.lines.getD i Ln.none).lo<=v/\v<=(p.lines.getD i Ln.none).hi):=by
 unfold jS at h
 cases q:(bif !(iR s.vals p.states)then true else(s.lines.length:Int) != (p.lines.length:Int))with
 |true=>simp_all
 |false=>
  rw[q]at h
  rw[PO]at q
  simp only[Bool.or_eq_false_iff,Bool.not_eq_false']at q
  have hl:=lne q.2
  refine⟨q.1,hl,λi hi=>?_⟩
  have h:linZ (s.lines.zip p.lines)=true:=h
  simp only[linZ,Bool.not_eq_true',List.any_eq_false]at h
  have:=h _ (WT [] Ln.none hi (by omega))
  simp only[z7p,PO,Bool.or_eq_true,not_or,bne_iff_ne,Decidable.not_not,List.any_eq_true,not_exists,not_and]at this
  refine⟨this.1,λv hv=>?_⟩
  have:=this.2 v hv
  simp only[z2u,WS,PO,Bool.and_eq_true,bne_iff_ne,Bool.or_eq_true,decide_eq_true_eq]at this
  omega
theorem ZC{p:Pr}{A:Fr}(hl:0<=p.latency/\p.latency<=4096)(h1:XZ p A=false)(h2:jS p ⟨A.vals,A.lines⟩=true):Rz p A:=by
 unfold XZ at h1
 simp at h1
 rw[bC (by omega) (by omega)]at h1
 obtain⟨a1,a2⟩:=Ju h1.1.1
 obtain⟨b1,b2⟩:=EH h1.1.2
 obtain⟨c1,c2⟩:=EH h1.2
 obtain⟨d1,d2,d3⟩:=ZB h2
 obtain⟨e1,e2⟩:=Ju d1
 exact⟨a1,a2,b1,b2,c1,c2,e1,e2,d2,λi hi=>(d3 i hi).1,λi hi=>(d3 i hi).2⟩
theorem ZE{P:Int->Prop}{l:List Int}(h:∀v∈l,P v)(h0:P 0)(i:Nat):P (l.getD i 0):=by
 rw[List.getD_eq_getElem?_getD]
 cases q:l[i]? with
 |none=>exact h0
 |some v=>exact h v (List.mem_of_getElem? q)
structure AtS(p:Pr)(F:List Sp)(i:Nat)(q:Ss):Prop where
 vlen:q.vals.length=p.states.length
 vin:∀j,j<p.states.length->(p.states.getD j Bd.none).lo<=q.vals.getD j 0/\q.vals.getD j 0<=(p.states.getD j Bd.none).hi
 llen:q.lets.length=i
 lin:∀j,j<i->(F.getD j (0,0)).1<=q.lets.getD j 0/\q.lets.getD j 0<=(F.getD j (0,0)).2
variable {p : Pr} {F : List Sp} {i : Nat} {s : Sm} {A : Fr}
theorem zdo{lo hi v:Int}(h:v=0\/(lo<=v/\v<=hi)):mm2 false lo 0<=v/\v<=mm2 true hi 0:=by
 grind[mm2]
theorem AtS.lf{q:Ss}(h:AtS p F i q)(ha:Rz p A)(hi:i<=F.length):zc1 p (F.take i) (lfM (A.at q)) where
 par j v h0 h1:=ha.parV j.toNat (by have:=ha.par;omega)
 sta j v h0 h1:=h.vin j.toNat (by omega)
 let_ j v h0 h1:=by
  have h1:j.toNat<i:=by rw[List.length_take]at h1;omega
  have:=h.lin j.toNat h1
  have e:(F.take i).getD j.toNat (0,0)=F.getD j.toNat (0,0):=by
   rw[List.getD_eq_getElem?_getD,List.getD_eq_getElem?_getD,List.getElem?_take_of_lt h1]
  rw[e];exact this
 inn j v:=ZE (P:=λv=>-2147483648<=v/\v<=2147483647) ha.inpV (by decide) v.toNat
 sid j v:=ZE (P:=λv=>-2147483648<=v/\v<=2147483647) ha.sidV (by decide) v.toNat
 tap j v h0 h1:=zdo (ZE (P:=λv=>v=0\/((bW p j).lo<=v/\v<=(bW p j).hi)) (ha.linV j.toNat (by have:=ha.lin;omega)) (.inl rfl) _)
theorem Gy(h:FOk F)(i:Nat):FOk (F.take i):=⟨λs hs=>h.ins s (List.mem_of_mem_take hs),λs hs=>h.ord s (List.mem_of_mem_take hs)⟩
theorem Gz(a:zaz p F i s):wfX p i s.x=true:=by
 have:=a.wf;simp[wfS]at this;exact this.1
theorem ZF(a:zaz p F i s)(hk:s.kind=2):0<=s.index/\s.index<p.states.length:=by
 have:=a.wf;simp[wfS]at this;simp_all
theorem ZG(a:zaz p F i s)(hk:s.kind=3):0<=s.index/\s.index<p.lines.length:=by
 have:=a.wf;simp[wfS]at this;simp_all
theorem z8a{q:Ss}(hB:BOk p F)(ha:Rz p A)(h:AtS p F i q)(a:zaz p F i s):(F.getD i (0,0)).1<=nN p A q s/\nN p A q s<=(F.getD i (0,0)).2:=
 Gx hB.res.rng (Gy hB.fok i) (h.lf ha (Nat.le_of_lt a.lt)) s.x _ (by rw[a.len];exact(Gz a)) a.run
theorem zdp{f:Sp}(h:within p s f=true){v:Int}(hv:f.1<=v/\v<=f.2):(dU p s).1<=v/\v<=(dU p s).2:=by
 simp[within]at h;omega
theorem at_set{q:Ss}(hB:BOk p F)(ha:Rz p A)(h:AtS p F i q)(a:zaz p F i s):AtS p F (i+1) (uu p A q s):=by
 have hv:=z8a hB ha h a
 refine⟨ZA.trans h.vlen,λj hj=>?_,?_,λj hj=>?_⟩
 ·by_cases hk:s.kind=2
  ·rw[zdi hk]
   by_cases hj2:s.index.toNat=j
   ·have:=zdp a.win hv
    simp only[dU,hk]at this
    subst hj2
    have e:(q.vals.set s.index.toNat (nN p A q s)).getD s.index.toNat 0=nN p A q s:=by
     rw[List.getD_eq_getElem?_getD,List.getElem?_set_self (by rw[h.vlen];exact hj)];rfl
    rw[e];exact this
   ·have e:(q.vals.set s.index.toNat (nN p A q s)).getD j 0=q.vals.getD j 0:=by
     rw[List.getD_eq_getElem?_getD,List.getElem?_set_ne hj2,<-List.getD_eq_getElem?_getD]
    rw[e];exact h.vin j hj
  ·rw[zdj hk];exact h.vin j hj
 ·rw[PN,List.length_append,h.llen];rfl
 ·rw[PN]
  by_cases hj2:j=i
  ·subst hj2
   have e:(q.lets++[nN p A q s]).getD j 0=nN p A q s:=by
    rw[List.getD_eq_getElem?_getD,List.getElem?_append_right (by rw[h.llen];exact Nat.le_refl _),h.llen];simp
   rw[e];exact hv
  ·have e:(q.lets++[nN p A q s]).getD j 0=q.lets.getD j 0:=by
    rw[List.getD_eq_getElem?_getD,List.getElem?_append_left (by rw[h.llen];omega),<-List.getD_eq_getElem?_getD]
   rw[e];exact h.lin j (by omega)
theorem z2z(hB:BOk p F)(ha:Rz p A):∀i,i<=p.stmts.length->AtS p F i (qF p A i)
 | 0,_=>by
  exact⟨ha.val,λj hj=>ha.valV j (by rw[ha.val];exact hj),rfl,λj hj=>absurd hj (Nat.not_lt_zero j)⟩
 |i+1,hi=>by
  obtain⟨s,hs⟩:=qE (show i<p.stmts.length from hi)
  obtain⟨r,hr⟩:=drop_at hs
  rw[<-z2v hr]
  exact at_set hB ha (z2z hB ha i (by omega)) (Rx hB hr)
theorem look_in(hB:BOk p F)(hs:p.stmts[i]? = some s){y z:Ex}(hy:y∈au s.x)(hk:looks y=true)(hz:y.l = [z]) :
  ∃t,dD p (F.take i) z = .ok t/\wfX p i z=true/\0<=t.1/\t.2<=XX p:=by
 obtain⟨r,hr⟩:=drop_at hs
 have a:=Rx hB hr
 have hwy:=Gv s.x (Gz a) y hy
 have hwz:wfX p i z=true:=mZ (bZ hwy).2.2 z (by rw[hz];simp)
 have hi:i<p.stmts.length:=(List.getElem?_eq_some_iff.1 hs).1
 obtain⟨_,t,h1,_,h3,_,_⟩:=look_ok hB hi (by rw[zh hs];exact hy) hk
 have e:y.l.getD 0 Ex.none=z:=by rw[hz];rfl
 rw[e]at h1 h3
 have hf:dD p (F.take i) z = .ok t:=by
  rw[<-h3]
  refine Jo (n:=i) (λj hj=>?_) z hwz
  rw[List.getD_eq_getElem?_getD,List.getD_eq_getElem?_getD,List.getElem?_take_of_lt hj]
 refine⟨t,hf,hwz,?_,?_⟩
 ·obtain⟨u,hu⟩:=EE s.x _ a.run y hy
  rw[gV,hz,dh,hf,dh]at hu
  have hah:aheadM t = .ok u:=by
   rcases MO hk with e |e<;>(rw[e]at hu;simpa[opM]using hu)
  unfold aheadM at hah
  split at hah
  ·cases hah
  ·rename_i hq
   simp only[Bool.or_eq_true,decide_eq_true_eq,not_or]at hq
   omega
 ·have:=z7z (List.mem_of_getElem? hs) hy hk
  rw[e,hiM,h1]at this;exact this
theorem RD(hB:BOk p F)(hl:XX p<=p.latency)(ha:Rz p A):yt p A:=by
 have li:=hB.res.li
 rw[limited_eq]at li
 simp only[Bool.and_eq_true]at li
 obtain⟨l1,l2,l3,l4,l5⟩:=li
 simp only[few,Bool.not_eq_true',Bool.or_eq_false_iff,decide_eq_false_iff_not]at l1
 have lnd:∀s∈p.stmts,Ref15.nodes s.x<=512:=λs hs=>by
  grind[List.all_eq_true,Ee,Bool.not_eq_true']
 have lln:∀l∈A.lines,0<l.length/\l.length<=1073741824:=λl hl=>by
  obtain⟨i,hi,e⟩:=List.mem_iff_getElem.1 hl
  have h1:=ha.linN i hi
  have hi2:i<p.lines.length:=by rw[<-ha.lin];exact hi
  have h2:=List.all_eq_true.1 l2 (p.lines.getD i Ln.none) (by simp_all)
  grind[AL,Bool.not_eq_true']
 have tt:∀t∈p.tables,t.values.length<=1073741824:=λt ht=>by
  grind[List.all_eq_true,lq]
 have hv:=ha.val
 have hn:=ha.lin
 refine⟨by omega,by omega,by omega,λi s hs=>?_,λs hs=>?_,λs hs hk=>?_,λs hs hk=>?_,lln,λs hs=>by grind⟩
 ·obtain⟨r,hr⟩:=drop_at hs
  have a:=Rx hB hr
  have hi:i<p.stmts.length:=(List.getElem?_eq_some_iff.1 hs).1
  have q:=z2z (A:=A) hB ha i (by omega)
  have hlf:=q.lf ha (Nat.le_of_lt a.lt)
  refine⟨F.take i,⟨hB.res.rng,Gy hB.fok i,hlf,ha.par,Jt.trans ha.val,ha.lin,lln,by rw[a.len];exact q.llen,tt⟩,⟨by rw[a.len];exact(Gz a),⟨_,a.run⟩,λy hy hk z hz=>?_⟩⟩
  obtain⟨t,h1,h2,h3,h4⟩:=look_in hB hs hy hk hz
  have hin:=Gx hB.res.rng (Gy hB.fok i) hlf z t (by rw[a.len];exact h2) h1
  have e1:=ha.inp;have e2:=ha.sid
  grind
 ·have:=List.all_eq_true.1 hB.res.fo s hs
  grind[stmtOk]
 ·obtain⟨i,hs⟩:=List.getElem?_of_mem hs
  obtain⟨r,hr⟩:=drop_at hs
  have:=ZF (Rx hB hr) hk;omega
 ·obtain⟨i,hs⟩:=List.getElem?_of_mem hs
  obtain⟨r,hr⟩:=drop_at hs
  have:=ZG (Rx hB hr) hk;omega
theorem chkZ(h:jo p=0):BOk p (aN p).1/\XX p<=p.latency:=by
 unfold jo at h
 split at h
 ·rename_i q;rw[h]at q;exact absurd q (by decide)
 ·rename_i q
  have hb:(aN p).2=0:=by simpa using q
  refine⟨(mr hb).1,?_⟩
  split at h
  ·exact absurd h (by decide)
  ·omega
theorem z8b(h:Res p):0<=p.latency/\p.latency<=4096:=by
 have li:=h.li
 rw[limited_eq]at li
 simp[memOk]at li;omega
theorem RF(h:jo p=0)(h1:XZ p A=false)(h2:jS p ⟨A.vals,A.lines⟩=true):yt p A:=by
 obtain⟨hB,hl⟩:=chkZ h
 exact RD hB hl (ZC (z8b hB.res) h1 h2)
abbrev noS:St:=⟨[],[]⟩
def BD(p:Pr):St×Int:=if(jo p != 0)=true then(noS,jo p)else(lK p,0)
def GG(p:Pr)(A:Fr):Int×St×Int:=
 if(jo p != 0)=true then(0,noS,jo p)
 else if XZ p A=true then(0,noS,1)
 else if jS p ⟨A.vals,A.lines⟩=false then(0,noS,180)
 else((stepM p A).1,(stepM p A).2,0)
theorem ZH{p:Pr}(h:Res p):p.states.length<=1073741824/\p.lines.length<=1073741824/\∀x∈p.lines,1<=x.size/\x.size<=65536:=by
 have li:=h.li
 rw[limited_eq]at li
 grind[few,AL]
end Go.Fw.Mn
