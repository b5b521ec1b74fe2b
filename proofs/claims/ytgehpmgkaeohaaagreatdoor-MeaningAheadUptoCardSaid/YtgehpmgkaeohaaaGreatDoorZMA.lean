/- A part of the proof. -/
import Derived.Test.YtgehpmgkaeohaaaGreatDoorZTC
set_option linter.all false
namespace Go.Fw.Mn
open Go.Fw Go.Fw.Ref15 Go.Fw.Rg Go.Fw.Tl
variable [ae]
structure Fr where
 params:List Int
 inp:List Int
 side:List Int
 vals:List Int
 lines:List (List Int)
 lets:List Int
def at0(l:List Int)(i:Int):Int:=l.getD i.toNat 0
def iF(n lo hi:Int):Int:=mm2 true lo (mm2 false n hi)
abbrev Dx(F:Fr)(i:Int):List Int:=F.lines.getD i.toNat []
def lfM(F:Fr)(k i v:Int):Int:=
 if k==3 then at0 F.params i
 else if k==4 then at0 F.vals i
 else if k==5 then at0 F.lets i
 else if k==6 then at0 F.inp v
 else if k==7 then at0 F.side v
 else at0 (Dx F i) (iF v 0 ((Dx F i).length-1))
def opE(p:Pr)(Lf:Int->Int->Int->Int)(k i m:Int)(l:List Int):Int:=
 if k==1 then m
 else if k==9 then at0 (aJ p i) (iF (l.getD 0 0) 0 ((aJ p i).length-1))
 else if k==10 then iF (l.getD 0 0) (-2147483648) 2147483647
 else if k==11 then mm2 false (l.getD 0 0) (l.getD 1 0)
 else if k==12 then mm2 true (l.getD 0 0) (l.getD 1 0)
 else if k==13 then mm2 true (l.getD 0 0) (-(l.getD 0 0))
 else if k==14 then -(l.getD 0 0)
 else if k==15 then l.getD 0 0+l.getD 1 0
 else if k==16 then l.getD 0 0-l.getD 1 0
 else if k==17 then l.getD 0 0 * l.getD 1 0
 else if k==18 then ji (l.getD 0 0) m
 else if k==19 then(if l.getD 0 0<l.getD 1 0 then l.getD 2 0 else l.getD 3 0)
 else Lf k i (l.getD 0 0)
mutual
def nP(p:Pr)(Lf:Int->Int->Int->Int):Ex->Int
 | .mk k _ i m l=>opE p Lf k i m (valXs p Lf l)
def valXs(p:Pr)(Lf:Int->Int->Int->Int):List Ex->List Int
 | []=>[]
 |x::r=>nP p Lf x::valXs p Lf r
end
theorem NC(p:Pr)(Lf:Int->Int->Int->Int)(x:Ex):nP p Lf x=opE p Lf x.kind x.index x.n (valXs p Lf x.l):=by cases x;rfl
theorem BQ(p:Pr)(Lf:Int->Int->Int->Int):∀l:List Ex,valXs p Lf l=l.map (nP p Lf)
 | []=>rfl
 |x::r=>by rw[valXs,BQ p Lf r];rfl
structure zet(p:Pr)(found:List Sp)(Lf:Int->Int->Int->Int):Prop where
 par:∀(i v:Int),0<=i->i<p.params.length->(jk p i).lo<=Lf 3 i v/\Lf 3 i v<=(jk p i).hi
 sta:∀(i v:Int),0<=i->i<p.states.length->(bH p i).lo<=Lf 4 i v/\Lf 4 i v<=(bH p i).hi
 let_:∀(i v:Int),0<=i->i<found.length->(found.getD i.toNat (0,0)).1<=Lf 5 i v/\Lf 5 i v<=(found.getD i.toNat (0,0)).2
 inn:∀(i v:Int),-2147483648<=Lf 6 i v/\Lf 6 i v<=2147483647
 sid:∀(i v:Int),-2147483648<=Lf 7 i v/\Lf 7 i v<=2147483647
 tap:∀(i v:Int),0<=i->i<p.lines.length->mm2 false (bW p i).lo 0<=Lf 8 i v/\Lf 8 i v<=mm2 true (bW p i).hi 0
theorem zeu{p:Pr}{found l:List Sp}{Lf:Int->Int->Int->Int}{vs:List Int}{k i m:Int}{s:Sp}(hR:Rng p)(hF:FOk found)(hL:zet p found Lf)(hv:InV vs l)(hw:uk p found.length k i m=true)(h:opM p found k i m l = .ok s) :
  s.1<=opE p Lf k i m vs/\opE p Lf k i m vs<=s.2:=by
 have hpt:=WO (k:=k) hR (PZ hR) hF.sub (z9a hv) hw h
 have g0:(vs.map λv=>((v,v):Sp)).getD 0 (0,0)=(vs.getD 0 0,vs.getD 0 0):=by cases vs<;>rfl
 have g1:(vs.map λv=>((v,v):Sp)).getD 1 (0,0)=(vs.getD 1 0,vs.getD 1 0):=by
  simp
 obtain⟨s',hs,i1,_,i2⟩:=hpt
 have v2:=hv 2;have v3:=hv 3
 rcases kinds hw with r |r |r |r |r |r |r |r |r |r |r |r |r |r |r |r |r |r<;>subst r
 ·cases (show(Except.ok (m,m):Except Int Sp) = .ok s from h);exact⟨Int.le_refl _,Int.le_refl _⟩
 ·cases (show(Except.ok ((jk p i).lo,(jk p i).hi):Except Int Sp) = .ok s from h)
  have hq:=z3z hw rfl
  exact hL.par i _ hq.1 hq.2
 ·cases (show(Except.ok ((bH p i).lo,(bH p i).hi):Except Int Sp) = .ok s from h)
  have hq:=WB hw rfl
  exact hL.sta i _ hq.1 hq.2
 ·cases (show(Except.ok (found.getD i.toNat (0,0)):Except Int Sp) = .ok s from h)
  have hq:=PV hw rfl
  exact hL.let_ i _ hq.1 (by omega)
 ·have hs:=nO (show aheadM (l.getD 0 (0,0)) = .ok s from h)
  subst hs
  exact hL.inn i _
 ·have hs:=nO (show aheadM (l.getD 0 (0,0)) = .ok s from h)
  subst hs
  exact hL.sid i _
 ·cases (show(Except.ok (mm2 false (bW p i).lo 0,mm2 true (bW p i).hi 0):Except Int Sp) = .ok s from h)
  have hq:=z4a hw rfl
  exact hL.tap i _ hq.1 hq.2
 ·cases (show(Except.ok (minL ((aJ p i).getD 0 0) (aJ p i),maxL ((aJ p i).getD 0 0) (aJ p i)):Except Int Sp) = .ok s from h)
  have hne:=WC hw rfl
  have hm:at0 (aJ p i) (iF (vs.getD 0 0) 0 ((aJ p i).length-1))∈aJ p i:=by
   have:(iF (vs.getD 0 0) 0 ((aJ p i).length-1)).toNat<(aJ p i).length:=by
    grind[iF,mm2]
   rw[at0,List.getD_eq_getElem?_getD,List.getElem?_eq_getElem this];simp
  exact⟨Z5 hm,Z7 hm⟩
 ·have e:(Except.ok (oN ((vs.map λv=>((v,v):Sp)).getD 0 (0,0)).1,oN ((vs.map λv=>((v,v):Sp)).getD 0 (0,0)).2):Except Int Sp) = .ok s':=hs
  rw[g0]at e;cases e
  show s.1<=iF (vs.getD 0 0) (-2147483648) 2147483647/\iF (vs.getD 0 0) (-2147483648) 2147483647<=s.2
  grind[iF,oN,mm2]
 ·have e:(Except.ok (mm2 false ((vs.map λv=>((v,v):Sp)).getD 0 (0,0)).1 ((vs.map λv=>((v,v):Sp)).getD 1 (0,0)).1,mm2 false ((vs.map λv=>((v,v):Sp)).getD 0 (0,0)).2 ((vs.map λv=>((v,v):Sp)).getD 1 (0,0)).2):Except Int Sp) = .ok s':=hs
  rw[g0,g1]at e;cases e;exact⟨i1,i2⟩
 ·have e:(Except.ok (mm2 true ((vs.map λv=>((v,v):Sp)).getD 0 (0,0)).1 ((vs.map λv=>((v,v):Sp)).getD 1 (0,0)).1,mm2 true ((vs.map λv=>((v,v):Sp)).getD 0 (0,0)).2 ((vs.map λv=>((v,v):Sp)).getD 1 (0,0)).2):Except Int Sp) = .ok s':=hs
  rw[g0,g1]at e;cases e;exact⟨i1,i2⟩
 ·have e:(Except.ok (Ue ((vs.map λv=>((v,v):Sp)).getD 0 (0,0))):Except Int Sp) = .ok s':=hs
  rw[g0]at e;cases e
  show s.1<=mm2 true (vs.getD 0 0) (-(vs.getD 0 0))/\mm2 true (vs.getD 0 0) (-(vs.getD 0 0))<=s.2
  grind[Ue,mm2]
 ·have e:(Except.ok (-((vs.map λv=>((v,v):Sp)).getD 0 (0,0)).2,-((vs.map λv=>((v,v):Sp)).getD 0 (0,0)).1):Except Int Sp) = .ok s':=hs
  rw[g0]at e;cases e;exact⟨i1,i2⟩
 ·have e:two (((vs.map λv=>((v,v):Sp)).getD 0 (0,0)).1+((vs.map λv=>((v,v):Sp)).getD 1 (0,0)).1) (((vs.map λv=>((v,v):Sp)).getD 0 (0,0)).2+((vs.map λv=>((v,v):Sp)).getD 1 (0,0)).2) = .ok s':=hs
  rw[g0,g1]at e
  obtain⟨rfl,_⟩:=BF e;exact⟨i1,i2⟩
 ·have e:two (((vs.map λv=>((v,v):Sp)).getD 0 (0,0)).1 + -((vs.map λv=>((v,v):Sp)).getD 1 (0,0)).2) (((vs.map λv=>((v,v):Sp)).getD 0 (0,0)).2 + -((vs.map λv=>((v,v):Sp)).getD 1 (0,0)).1) = .ok s':=hs
  rw[g0,g1]at e
  obtain⟨rfl,_⟩:=BF e
  show s.1<=vs.getD 0 0-vs.getD 1 0/\vs.getD 0 0-vs.getD 1 0<=s.2
  omega
 ·have e:prodM ((vs.map λv=>((v,v):Sp)).getD 0 (0,0)) ((vs.map λv=>((v,v):Sp)).getD 1 (0,0)) = .ok s':=hs
  rw[g0,g1]at e
  obtain⟨rfl,_⟩:=Gw e
  have m1:Ld (vs.getD 0 0 * vs.getD 1 0) (vs.getD 0 0 * vs.getD 1 0) (vs.getD 0 0 * vs.getD 1 0) (vs.getD 0 0 * vs.getD 1 0)=vs.getD 0 0 * vs.getD 1 0:=by simp[Ld,mm2]
  have m2:Lh (vs.getD 0 0 * vs.getD 1 0) (vs.getD 0 0 * vs.getD 1 0) (vs.getD 0 0 * vs.getD 1 0) (vs.getD 0 0 * vs.getD 1 0)=vs.getD 0 0 * vs.getD 1 0:=by simp[Lh,mm2]
  simp only[m1,m2]at i1 i2
  exact⟨i1,i2⟩
 ·have e:(Except.ok (ji ((vs.map λv=>((v,v):Sp)).getD 0 (0,0)).1 m,ji ((vs.map λv=>((v,v):Sp)).getD 0 (0,0)).2 m):Except Int Sp) = .ok s':=hs
  rw[g0]at e;cases e;exact⟨i1,i2⟩
 ·cases (show(Except.ok (mm2 false (l.getD 2 (0,0)).1 (l.getD 3 (0,0)).1,mm2 true (l.getD 2 (0,0)).2 (l.getD 3 (0,0)).2):Except Int Sp) = .ok s from h)
  show mm2 false (l.getD 2 (0,0)).1 (l.getD 3 (0,0)).1<=(if vs.getD 0 0<vs.getD 1 0 then vs.getD 2 0 else vs.getD 3 0)/\(if vs.getD 0 0<vs.getD 1 0 then vs.getD 2 0 else vs.getD 3 0)<=mm2 true (l.getD 2 (0,0)).2 (l.getD 3 (0,0)).2
  grind[mm2]
mutual
theorem G5{p:Pr}{found:List Sp}{Lf:Int->Int->Int->Int}(hR:Rng p)(hF:FOk found)(hL:zet p found Lf):∀(x:Ex) (s:Sp),wfX p found.length x=true->dF p found x = .ok s->s.1<=nP p Lf x/\nP p Lf x<=s.2
 | .mk k nm i m l,s,hw,h=>by
  obtain⟨_,g2,g3⟩:=bZ hw
  rw[gV]at h
  rw[NC]
  simp only[Ex.l,Ex.kind,Ex.index,Ex.n]at h g2 g3 ⊢
  cases hl:dw p found l with
  |error e=>rw[hl]at h;cases h
  |ok t=>
   rw[hl]at h
   exact zeu hR hF hL (Qk hR hF hL l t g3 hl) g2 h
theorem Qk{p:Pr}{found:List Sp}{Lf:Int->Int->Int->Int}(hR:Rng p)(hF:FOk found)(hL:zet p found Lf):∀(l:List Ex) (t:List Sp),wfL p found.length l=true->dw p found l = .ok t->InV (valXs p Lf l) t
 | [],t,_,h=>by rw[dw]at h;cases h;exact z88
 |x::r,t,hw,h=>by
  simp only[wfL,Bool.and_eq_true]at hw
  rw[dw]at h
  cases hx:dF p found x with
  |error e=>rw[hx]at h;cases h
  |ok s=>
   rw[hx]at h
   simp only at h
   cases hr:dw p found r with
   |error e=>rw[hr]at h;cases h
   |ok u=>
    rw[hr]at h
    cases h
    rw[valXs]
    exact Z4 (G5 hR hF hL x s hw.1 hx) (Qk hR hF hL r u hw.2 hr)
end
abbrev lC(l:List Int):List D:=[.sl 1 (l.map aC)]
abbrev Fr.cs(F:Fr)(p:Pr):List D:=[.sl 1 (F.lets.map aC),.str p.name,.i p.latency,.i p.tail,.sl 3 (p.params.map Bd.cs),.sl 3 (p.states.map Bd.cs),.sl 4 (p.lines.map Ln.cs),.sl 2 (p.tables.map Tb.cs),.sl 8 (p.stmts.map Sm.cs),
 .sl 1 (F.params.map aC),.sl 1 (F.inp.map aC),.sl 1 (F.side.map aC),.sl 1 (F.vals.map aC),.sl 1 (F.lines.map lC)]
structure zev(p:Pr)(found:List Sp)(F:Fr):Prop where
 rng:Rng p
 fok:FOk found
 lf:zet p found (lfM F)
 par:F.params.length=p.params.length
 val:F.vals.length=p.states.length
 lin:F.lines.length=p.lines.length
 lne:∀l∈F.lines,0<l.length/\l.length<=1073741824
 let_:F.lets.length=found.length
 tab:∀t∈p.tables,t.values.length<=1073741824
structure XOk(p:Pr)(found:List Sp)(F:Fr)(x:Ex):Prop where
 wf:wfX p found.length x=true
 fnd:∃s,dF p found x = .ok s
 ahd:∀y∈ax x,looks y=true->∀z,y.l = [z]->0<=nP p (lfM F) z/\nP p (lfM F) z<F.inp.length/\nP p (lfM F) z<F.side.length
variable {found : List Sp} {p : Pr}
theorem JJ:∀{l:List Ex} {t:List Sp},dw p found l = .ok t->∀y∈l,∃s,dF p found y = .ok s
 |x::r,t,h,y,hy=>by
  rw[dw]at h
  cases hx:dF p found x with
  |error e=>simp_all
  |ok s=>
   cases hr:dw p found r with
   |error e=>simp_all
   |ok u=>
    rcases List.mem_cons.1 hy with rfl |hy
    ·simp_all
    ·exact JJ hr y hy
theorem XOk.part{F:Fr}{x y:Ex}(h:XOk p found F x)(hy:y∈x.l):XOk p found F y:=by
 obtain⟨g1,g2,g3⟩:=bZ h.wf
 obtain⟨s,hs⟩:=h.fnd
 refine⟨ng g3 y hy,?_,λz hz=>h.ahd z (z9o hy hz)⟩
 grind[gV,JJ]
theorem XOk.inW{F:Fr}{x:Ex}(hF:zev p found F)(h:XOk p found F x):inW (nP p (lfM F) x)=true:=by
 obtain⟨s,hs⟩:=h.fnd
 have h1:=G5 hF.rng hF.fok hF.lf x s h.wf hs
 have h2:=vS hF.rng hF.fok.ins x s h.wf hs
 grind[dK]
theorem z9q{Lf:Int->Int->Int->Int}(l:List Ex):(valXs p Lf l).length=l.length:=by rw[BQ];simp
theorem zI{l:List Int}{v:Int}(h:0<l.length):0<=iF v 0 (l.length-1)/\iF v 0 (l.length-1)<l.length:=by
 grind[iF,mm2]
theorem Xk{l:List Int}(h:l.length<=1073741824):IntKind.i64.wrap (((l.map aC).length:Int)-1)=(l.length:Int)-1:=by
 grind[bM]
end Go.Fw.Mn
namespace Go.Fw.Mn
open Go.Fw Go.Fw.Ref15 Go.Fw.Rg Go.Fw.Tl
variable [ae] {Lf : Int → Int → Int → Int} {p : Pr} {x a b c d : Ex}
theorem yJ{sl:List Int}(h:sl.length=1):∃a,sl = [a]:=by
 match sl,h with
 | [a],_=>simp
theorem JK{sl:List Int}(h:sl.length=2):∃a b,sl = [a,b]:=by
 match sl,h with
 | [a,b],_=>simp
theorem zew{l:List Ex}(h:l.length=4):∃a b c d,l = [a,b,c,d]:=by
 match l,h with
 | [a,b,c,d],_=>simp
theorem wrap_in{v:Int}(h:inW v=true):IntKind.i64.wrap v=v:=by
 grind[dK,bM]
theorem zex{x:Ex}{k:Int}{l:List Int}(hk:x.kind=k)(hl:valXs p Lf x.l=l):nP p Lf x=opE p Lf k x.index x.n l:=by rw[NC,hk,hl]
theorem zey{found:List Sp}{F:Fr}{x:Ex}(h:XOk p found F x)(hk:(x.kind==19)=true):∃a b c d,x.l = [a,b,c,d]/\nP p (lfM F) x=if nP p (lfM F) a<nP p (lfM F) b then nP p (lfM F) c else nP p (lfM F) d:=by
 obtain⟨g1,_,_⟩:=bZ h.wf
 rw[eq_of_beq hk]at g1
 obtain⟨a,b,c,d,e⟩:=zew (l:=x.l) (by have g1:(x.l.length:Int)=4:=g1;omega)
 exact⟨a,b,c,d,e,(zex (eq_of_beq hk) (congrArg (valXs p (lfM F)) e)).trans rfl⟩
theorem zez(h:x.l = [a,b,c,d]):(0<=(0:Int)/\(Ex.css x.l)[(0:Int).toNat]? = some (Ex.cs a))/\(0<=(1:Int)/\(Ex.css x.l)[(1:Int).toNat]? = some (Ex.cs b))/\(0<=(2:Int)/\(Ex.css x.l)[(2:Int).toNat]? = some (Ex.cs c))/\(0<=(3:Int)/\(Ex.css x.l)[(3:Int).toNat]? = some (Ex.cs d)):=by
 rw[h];simp[Ex.css_eq]
theorem zj9(h:nP p Lf x=if nP p Lf a<nP p Lf b then nP p Lf c else nP p Lf d)(hc:decide (nP p Lf a<nP p Lf b)=true):nP p Lf c=nP p Lf x:=by simp_all
theorem zka(h:nP p Lf x=if nP p Lf a<nP p Lf b then nP p Lf c else nP p Lf d)(hc:decide (nP p Lf a<nP p Lf b)=false):nP p Lf d=nP p Lf x:=by grind
theorem Xl{a:List Int}{x:Ex}{r:List Ex}{t:List Int}(h:a++valXs p Lf (x::r)=t):(a++[nP p Lf x])++valXs p Lf r=t:=by grind[valXs]
theorem z0i{a:List Int}{t:List Int}(h:a++valXs p Lf []=t):a=t:=by grind[valXs]
end Go.Fw.Mn
namespace Go.Fw
variable [ae]
theorem Ql{T:Tbl}{rs:List ResultVar}{K0 K K1:Heap}{out:gG}{env:Env}(env':Env)(K':Heap)(h1:AX env K env' K')(h2:Go.Fw.finR T rs K0 out K1 env' K'):Go.Fw.finR T rs K0 out K1 env K\/∃env' K',z6b env K env' K'/\Go.Fw.finR T rs K0 out K1 env' K':=.inr ⟨env',K',by grind[qQ],h2⟩
end Go.Fw
namespace Go.Fw.Mn
open Go.Fw Go.Fw.Ref15 Go.Fw.Rg Go.Fw.Tl
variable [ae]
structure St where
 vals:List Int
 lines:List (List Int)
abbrev St.d(s:St):D:=.agg [.sl 1 (s.vals.map aC),.sl 1 (s.lines.map lC)]
structure St.Sm(s:St):Prop where
 vals:s.vals.length<=1073741824
 lines:s.lines.length<=1073741824
 line:∀l∈s.lines,l.length<=1073741824
variable {f : Int → Bool} {b : Bool}
def jA(f:Int->Bool):List Int->Int->Int
 | [],_=>-1
 |x::r,i=>bif f x then i else jA f r (i+1)
theorem BR{x:Int}{r l:List Int}{i:Int}(h:jA f l 0=jA f (x::r) i)(hb:f x=false):jA f l 0=jA f r (i+1):=by grind[jA]
theorem EU{x:Int}{r l:List Int}{i:Int}(h:jA f l 0=jA f (x::r) i)(hb:f x=true):jA f l 0=i:=by grind[jA]
theorem xQ:∀(l:List Int) (i:Int),0<=i->decide (jA f l i>=0)=l.any f
 | [],i,_=>rfl
 |x::r,i,hi=>by
  rw[jA,List.any_cons]
  cases f x with
  |true=>simp[hi]
  |false=>simpa using xQ r (i+1) (by omega)
def z9r(x:Int):Bool:=bif decide (x < -2147483648)then true else decide (x>2147483647)
def z9s(y:Ln)(v:Int):Bool:=bif v != 0 then(bif decide (v<y.lo)then true else decide (v>y.hi))else false
def rq(l:List Int)(n:Int):Bool:=bif (l.length:Int)==n then !(l.any z9r)else false
def zhi(q:Int×Bd):Bool:=bif decide (q.1<q.2.lo)then true else decide (q.1>q.2.hi)
def Xm(z:List (Int×Bd)):Bool:=!(z.any zhi)
def jC(l:List Int)(bs:List Bd):Bool:=bif (l.length:Int) != (bs.length:Int)then false else Xm (l.zip bs)
def zcr(q:List Int×Ln):Bool:=bif (q.1.length:Int) != q.2.size then true else q.1.any (z9s q.2)
def Xn(z:List (List Int×Ln)):Bool:=!(z.any zcr)
def lK(p:Pr)(s:St):Bool:=bif (bif !(jC s.vals p.states)then true else(s.lines.length:Int) != (p.lines.length:Int))then false else Xn (s.lines.zip p.lines)
theorem z0j{x:Int×Bd}{r:List (Int×Bd)}(h:b=Xm (x::r))(hb:zhi x=false):b=Xm r:=by rw[h,Xm,List.any_cons,hb];rfl
theorem z9t{x:Int×Bd}{r:List (Int×Bd)}(h:b=Xm (x::r))(hb:zhi x=true):false=b:=by rw[h,Xm,List.any_cons,hb];rfl
theorem z0k{x:List Int×Ln}{r:List (List Int×Ln)}(h:b=Xn (x::r))(hb:zcr x=false):b=Xn r:=by rw[h,Xn,List.any_cons,hb];rfl
theorem z9u{x:List Int×Ln}{r:List (List Int×Ln)}(h:b=Xn (x::r))(hb:zcr x=true):false=b:=by rw[h,Xn,List.any_cons,hb];rfl
theorem ze0{l:List Int}{bs:List Bd}(h:((l.length:Int) != (bs.length:Int))=true):false=jC l bs:=by rw[jC,h];rfl
theorem Xo{l:List Int}{bs:List Bd}(h:l.length=bs.length):jC l bs=Xm (l.zip bs):=by
 grind[jC]
theorem lne{n m:Nat}(h:((n:Int) != (m:Int))=false):n=m:=by simp at h;omega
theorem ze1{α β:Type}{l:List α}{m:List β}(h:l.length=m.length):(l.zip m).length=l.length:=by simp[h]
theorem ze2{p:Pr}{s:St}(h:(bif !(jC s.vals p.states)then true else(s.lines.length:Int) != (p.lines.length:Int))=true):false=lK p s:=by rw[lK,h];rfl
theorem z9v{p:Pr}{s:St}(h:(bif !(jC s.vals p.states)then true else(s.lines.length:Int) != (p.lines.length:Int))=false):s.lines.length=p.lines.length/\lK p s=Xn (s.lines.zip p.lines):=by
 refine⟨?_,by rw[lK,h];rfl⟩
 grind
def lL(p:Pr):St:=⟨p.states.map λb=>iF 0 b.lo b.hi,p.lines.map λl=>List.replicate l.size.toNat 0⟩
theorem z0l{ls:List (List Int)}{k:Nat}:List.map lC ls++chunks 1 1 [D.sl 1 (List.replicate k [D.val (Value.int .i64 0)])]=List.map lC (ls++[List.replicate k 0]):=by
 simp[chunks]
theorem Xp{τ:List (Nat×Nat)}{i j v s n m:Nat}(h:i=rn τ j)(h2:n=m):AV.own i v s 0 n=AV.ren τ (AV.own j v s 0 m):=by
 grind[AV.ren]
theorem Qm{v s:Nat}{k' l m:List (List D)}(h:l=m):Block.arr v s (List.take 0 k'++l)=Block.arr v s m:=by
 rw[h];rfl
theorem z9w{p:Pr}{vs:List Int}{ls:List (List Int)}(h1:(lL p).vals=vs++([]:List Bd).map (λb=>iF 0 b.lo b.hi))(h2:(lL p).lines=ls++([]:List Ln).map (λl=>List.replicate l.size.toNat 0)):(lL p).d = .agg [.sl 1 (vs.map aC),.sl 1 (ls.map lC)]:=by
 simp_all
structure Ss where
 lets:List Int
 vals:List Int
 out:Int
 pu:List (Sm×Int)
variable {l : List Int}
abbrev Fr.at(A:Fr)(q:Ss):Fr:=⟨A.params,A.inp,A.side,q.vals,A.lines,q.lets⟩
def nD(p:Pr)(A:Fr)(q:Ss)(s:Sm):Int:=nP p (lfM (A.at q)) s.x
def pJ(p:Pr)(A:Fr)(q:Ss)(s:Sm):Ss:=
 ⟨q.lets++[nD p A q s],if s.kind==2 then q.vals.set s.index.toNat (nD p A q s)else q.vals,if s.kind==4 then nD p A q s else q.out,if s.kind==3 then q.pu++[(s,nD p A q s)]else q.pu⟩
def ny(ls:List (List Int))(x:Sm×Int):List (List Int):=ls.set x.1.index.toNat (x.2::(ls.getD x.1.index.toNat []).dropLast)
def z0m(p:Pr)(A:Fr):Ss:=p.stmts.foldl (pJ p A) ⟨[],A.vals,0,[]⟩
def stepM(p:Pr)(A:Fr):Int×St:=((z0m p A).out,⟨(z0m p A).vals,(z0m p A).pu.foldl ny A.lines⟩)
abbrev FA(p:Pr)(F:Fr)(v l t:Nat):List AV:=[.gs t 1 (F.lets.map aC),.data (.str p.name),.data (.i p.latency),.data (.i p.tail),.data (.sl 3 (p.params.map Bd.cs)),.data (.sl 3 (p.states.map Bd.cs)),.data (.sl 4 (p.lines.map Ln.cs)),.data (.sl 2 (p.tables.map Tb.cs)),.data (.sl 8 (p.stmts.map Sm.cs)),
 .data (.sl 1 (F.params.map aC)),.data (.sl 1 (F.inp.map aC)),.data (.sl 1 (F.side.map aC)),.own v 1 1 0 F.vals.length,.own l 1 1 0 F.lines.length]
abbrev pC(f:Nat)(b:Nat)(x:Sm×Int):List D:=[.fn f [.val (.pointer (some ⟨b,0,none⟩)),.ptr x.1.cs,.ptr [.i x.2]]]
theorem ze3{i:Int}(h0:0<=i)(h1:i<l.length):(l.map aC)[0+i.toNat]? = some (aC (l.getD i.toNat 0)):=by
 simp_all
theorem Xq{l:List (List Int)}{i:Int}(h0:0<=i)(h1:i<l.length):(l.map lC)[0+i.toNat]? = some (lC (l.getD i.toNat [])):=by
 simp_all
theorem z9x{i n:Int}:(l.map aC).set (0+i.toNat) (aC n)=(l.set i.toNat n).map aC:=by simp
theorem z9y{f b z:Nat}{pu:List (Sm×Int)}{s:Sm}{n:Int}(hz:z=1):List.map (pC f b) pu++chunks z 1 [D.fn f [D.val (.pointer (some ⟨b,0,none⟩)),.ptr s.cs,.ptr [.i n]]]=List.map (pC f b) (pu++[(s,n)]):=by
 subst hz;rw[List.map_append];rfl
theorem z9z(h:0<l.length/\l.length<=1073741824):cut none (some (IntKind.i64.wrap (((l.map aC).length:Int)-1))) (l.map aC)=l.dropLast.map aC:=by
 rw[Xk h.2,show(l.length:Int)-1=((l.length-1:Nat):Int)from by omega]
 simp only[cut,Int.toNat_natCast]
 rw[List.dropLast_eq_take,List.map_take]
theorem z90{ls:List (List Int)}{s:Sm}{n:Int}{z:Nat}(hz:z=1)(h:0<(ls.getD s.index.toNat []).length/\(ls.getD s.index.toNat []).length<=1073741824) :
  Block.arr 1 1 ((List.map lC ls).set (0+s.index.toNat) (zch 1 (lC (ls.getD s.index.toNat [])) 0 [D.sl z (chunks z 1 [D.i n]++cut none (some (IntKind.i64.wrap (((ls.getD s.index.toNat []).map aC).length-1:Int))) ((ls.getD s.index.toNat []).map aC))]))=Block.arr 1 1 ((ny ls (s,n)).map lC):=by
 subst hz
 rw[z9z h,ny,Nat.zero_add]
 rw[List.map_set]
 rfl
abbrev ss0(A:Fr):Ss:=⟨[],A.vals,0,[]⟩
def qH(p:Pr)(A:Fr)(i:Nat):Ss:=(p.stmts.take i).foldl (pJ p A) (ss0 A)
theorem ze4(p:Pr)(A:Fr):ss0 A=qH p A 0:=by simp[qH]
theorem z4u{p:Pr}{A:Fr}{i:Nat}{s:Sm}{r:List Sm}(h:p.stmts.drop i=s::r):pJ p A (qH p A i) s=qH p A (i+1):=by
 have hs:p.stmts[i]? = some s:=by
  have:=congrArg (λl=>l[0]?) h
  simpa using this
 rw[qH,qH,List.take_add_one,hs,List.foldl_append];rfl
theorem z4v{p:Pr}{A:Fr}{i:Nat}(h:p.stmts.length<=i):qH p A i=z0m p A:=by rw[qH,List.take_of_length_le h];rfl
structure sN(p:Pr)(A:Fr):Prop where
 len:p.stmts.length<=1073741823
 val:A.vals.length<=1073741824
 lin:A.lines.length<=1073741824
 fr:∀(i:Nat) s,p.stmts[i]? = some s->∃found,zev p found (A.at (qH p A i))/\XOk p found (A.at (qH p A i)) s.x
 knd:∀s∈p.stmts,s.kind=1\/s.kind=2\/s.kind=3\/s.kind=4
 set:∀s∈p.stmts,s.kind=2->0<=s.index/\s.index<A.vals.length
 psh:∀s∈p.stmts,s.kind=3->0<=s.index/\s.index<A.lines.length
 lne:∀l∈A.lines,0<l.length/\l.length<=1073741824
 nod:∀s∈p.stmts,Ref15.nodes s.x<=1073741824
variable {A : Fr} {p : Pr}
theorem ry{p:Pr}{A:Fr}:∀(l:List Sm) (q:Ss),(l.foldl (pJ p A) q).vals.length=q.vals.length/\(l.foldl (pJ p A) q).lets.length=q.lets.length+l.length/\(l.foldl (pJ p A) q).pu.length<=q.pu.length+l.length
 | [],q=>⟨rfl,rfl,Nat.le_refl _⟩
 |s::r,q=>by
  obtain⟨h1,h2,h3⟩:=ry (p:=p) (A:=A) r (pJ p A q s)
  refine⟨h1.trans ?_,h2.trans ?_,Nat.le_trans h3 ?_⟩
  ·simp[pJ];split<;>simp
  ·simp[pJ];omega
  ·simp[pJ];split
   ·simp;omega
   ·omega
theorem JL{i:Nat}:(qH p A i).vals.length=A.vals.length:=(ry _ _).1
theorem Xr{i:Nat}(h:i<=p.stmts.length):(qH p A i).lets.length=i:=by
 have:=(ry (p:=p) (A:=A) (p.stmts.take i) (ss0 A)).2.1
 grind[qH]
theorem z92{i:Nat}(h:i<=p.stmts.length):(qH p A i).pu.length<=i:=by
 have:=(ry (p:=p) (A:=A) (p.stmts.take i) (ss0 A)).2.2
 rw[List.length_take]at this
 have e:(ss0 A).pu.length=0:=rfl
 exact Nat.le_trans this (by omega)
theorem z4w(P:Sm->Prop):∀(l:List Sm) (q:Ss),(∀x∈q.pu,P x.1)->(∀s∈l,s.kind=3->P s)->∀x∈(l.foldl (pJ p A) q).pu,P x.1
 | [],q,h,_=>h
 |s::r,q,h,hl=>by
  refine z4w P r _ (λx hx=>?_) λt ht=>hl t (by simp[ht])
  simp[pJ]at hx
  grind
def ze5(A:Fr)(ls:List (List Int)):Prop:=ls.length=A.lines.length/\∀l∈ls,0<l.length/\l.length<=1073741824
theorem z4x{ls:List (List Int)}{i:Int}(h:ze5 A ls)(h0:0<=i)(h1:i<A.lines.length):0<(ls.getD i.toNat []).length/\(ls.getD i.toNat []).length<=1073741824:=by
 have hi:i.toNat<ls.length:=by rw[h.1];omega
 refine h.2 _ ?_
 simp_all
theorem Xt{ls:List (List Int)}{x:Sm×Int}(h:ze5 A ls)(h0:0<=x.1.index)(h1:x.1.index<A.lines.length):ze5 A (ny ls x):=by
 have hg:=z4x h h0 h1
 refine⟨by rw[ny,List.length_set];exact h.1,λl hl=>?_⟩
 rcases List.mem_or_eq_of_mem_set hl with hl |rfl
 ·exact h.2 l hl
 simp_all
theorem ze6(h:sN p A):∀x∈(z0m p A).pu,0<=x.1.index/\x.1.index<A.lines.length:=
 z4w (λs=>0<=s.index/\s.index<A.lines.length) p.stmts (ss0 A) (λx hx=>by simp at hx) h.psh
theorem ze7{q:Ss}{i j:Nat}{x:Sm×Int}{r:List (Sm×Int)}(h:sN p A)(hq:q=qH p A i)(hd:p.stmts.drop i = [])(hx:q.pu.drop j=x::r):0<=x.1.index/\x.1.index<A.lines.length:=by
 have hn:p.stmts.length<=i:=List.drop_eq_nil_iff.1 hd
 rw[z4v hn]at hq
 refine ze6 h x ?_
 grind[List.mem_of_mem_drop]
section
variable {p : Pr} {A : Fr} {q : Ss} {s : Sm}
theorem Qn:(pJ p A q s).lets=q.lets++[nD p A q s]:=rfl
theorem z4y(h:s.kind=2):(pJ p A q s).vals=q.vals.set s.index.toNat (nD p A q s):=by grind[pJ]
theorem z4z(h:s.kind≠2):(pJ p A q s).vals=q.vals:=by grind[pJ]
theorem z0n:(pJ p A q s).vals.length=q.vals.length:=by rw[pJ];simp only;split<;>simp
theorem zfa(h:s.kind=1):pJ p A q s=⟨q.lets++[nD p A q s],q.vals,q.out,q.pu⟩:=by grind[pJ]
theorem zfb(h:s.kind=2):pJ p A q s=⟨q.lets++[nD p A q s],q.vals.set s.index.toNat (nD p A q s),q.out,q.pu⟩:=by grind[pJ]
theorem zfc(h:s.kind=3):pJ p A q s=⟨q.lets++[nD p A q s],q.vals,q.out,q.pu++[(s,nD p A q s)]⟩:=by grind[pJ]
theorem zfd(h:s.kind=4):pJ p A q s=⟨q.lets++[nD p A q s],q.vals,nD p A q s,q.pu⟩:=by grind[pJ]
theorem step_next{i:Nat}{r:List Sm}(h:q=qH p A i)(hd:p.stmts.drop i=s::r):pJ p A q s=qH p A (i+1):=by
 grind[z4u]
theorem step_ret{i:Nat}{ls:List (List Int)}(h:q=qH p A i)(hd:p.stmts.drop i = [])(h2:q.pu.foldl ny A.lines=ls) :
  D.tuple [.i (stepM p A).1,(stepM p A).2.d,.i 0] = .tuple [.i q.out,.agg [.sl 1 (q.vals.map aC),.sl 1 (ls.map lC)],.i 0]:=by
 have hn:=List.drop_eq_nil_iff.1 hd
 rw[z4v hn]at h
 subst h;subst h2;rfl
end
theorem z94{p:Pr}(n:Int)(x:Ex):n<=WQ p n x/\(looks x=true->hiM p (x.l.getD 0 Ex.none)<=WQ p n x):=by
 unfold WQ
 split
 ·exact⟨(ut _ _).1,λ_=>(ut _ _).2.1⟩
 ·rename_i h;exact⟨Int.le_refl _,λq=>absurd q h⟩
theorem Xu{p:Pr}:∀(l:List Ex) (n:Int),n<=l.foldl (WQ p) n/\∀x∈l,looks x=true->hiM p (x.l.getD 0 Ex.none)<=l.foldl (WQ p) n
 | [],n=>⟨Int.le_refl _,λx hx=>by simp at hx⟩
 |y::r,n=>by
  obtain⟨h1,h2⟩:=Xu r (WQ p n y)
  obtain⟨g1,g2⟩:=z94 (p:=p) n y
  rw[List.foldl_cons]
  refine⟨Int.le_trans g1 h1,λx hx hk=>?_⟩
  rcases List.mem_cons.1 hx with rfl |hx
  ·exact Int.le_trans (g2 hk) h1
  ·exact h2 x hx hk
theorem Xv{p:Pr}:∀(l:List Sm) (n:Int),n<=l.foldl (zcq p) n/\∀s∈l,∀x∈ax s.x,looks x=true->hiM p (x.l.getD 0 Ex.none)<=l.foldl (zcq p) n
 | [],n=>⟨Int.le_refl _,λx hx=>by simp at hx⟩
 |y::r,n=>by
  obtain⟨h1,h2⟩:=Xv r (zcq p n y)
  obtain⟨g1,g2⟩:=Xu (p:=p) (ax y.x) n
  rw[List.foldl_cons]
  refine⟨Int.le_trans g1 h1,λs hs x hx hk=>?_⟩
  rcases List.mem_cons.1 hs with rfl |hs
  ·exact Int.le_trans (g2 x hx hk) h1
  ·exact h2 s hs x hx hk
theorem z95{p:Pr}{s:Sm}(hs:s∈p.stmts){x:Ex}(hx:x∈ax s.x)(hk:looks x=true):hiM p (x.l.getD 0 Ex.none)<=YH p:=(Xv p.stmts 0).2 s hs x hx hk
theorem Qo{a b:Bool}:(bif a then true else b)=(a || b):=by cases a<;>rfl
theorem Xw{a b:Bool}:(bif a then b else false)=(a&&b):=by cases a<;>rfl
theorem Xx{α β:Type}{l:List α}{m:List β}(a:α)(b:β){i:Nat}(h1:i<l.length)(h2:i<m.length):(l.getD i a,m.getD i b)∈l.zip m:=by
 rw[List.mem_iff_getElem?]
 refine⟨i,?_⟩
 grind
theorem JM{l:List Int}{bs:List Bd}(h:jC l bs=true):l.length=bs.length/\∀i,i<l.length->(bs.getD i Bd.none).lo<=l.getD i 0/\l.getD i 0<=(bs.getD i Bd.none).hi:=by
 unfold jC at h
 cases q:((l.length:Int) != (bs.length:Int))with
 |true=>simp_all
 |false=>
  rw[q]at h
  have hl:=lne q
  refine⟨hl,λi hi=>?_⟩
  have h:Xm (l.zip bs)=true:=h
  simp only[Xm,Bool.not_eq_true',List.any_eq_false]at h
  have:=h _ (Xx 0 Bd.none hi (by omega))
  simp only[zhi,Qo,Bool.or_eq_true,decide_eq_true_eq]at this
  omega
theorem EW{l:List Int}{n:Int}(h:rq l n=true):(l.length:Int)=n/\∀v∈l,-2147483648<=v/\v<=2147483647:=by
 unfold rq at h
 rw[Xw,Bool.and_eq_true]at h
 refine⟨eq_of_beq h.1,λv hv=>?_⟩
 have h:=h.2
 simp at h
 have:=h v hv
 simp[z9r]at this
 omega
structure ND(p:Pr)(A:Fr):Prop where
 par:A.params.length=p.params.length
 parV:∀i,i<A.params.length->(p.params.getD i Bd.none).lo<=A.params.getD i 0/\A.params.getD i 0<=(p.params.getD i Bd.none).hi
 inp:(A.inp.length:Int)=p.latency+1
 inpV:∀v∈A.inp,-2147483648<=v/\v<=2147483647
 sid:(A.side.length:Int)=p.latency+1
 sidV:∀v∈A.side,-2147483648<=v/\v<=2147483647
 val:A.vals.length=p.states.length
 valV:∀i,i<A.vals.length->(p.states.getD i Bd.none).lo<=A.vals.getD i 0/\A.vals.getD i 0<=(p.states.getD i Bd.none).hi
 lin:A.lines.length=p.lines.length
 linN:∀i,i<A.lines.length->((A.lines.getD i []).length:Int)=(p.lines.getD i Ln.none).size
 linV:∀i,i<A.lines.length->∀v∈A.lines.getD i [],v=0\/((p.lines.getD i Ln.none).lo<=v/\v<=(p.lines.getD i Ln.none).hi)
def YJ(p:Pr)(A:Fr):Bool:=bif (bif !(jC A.params p.params)then true else !(rq A.inp (IntKind.i64.wrap (p.latency+1))))then true else !(rq A.side (IntKind.i64.wrap (p.latency+1)))
theorem z0o{p:Pr}{s:St}(h:lK p s=true):jC s.vals p.states=true/\s.lines.length=p.lines.length/\∀i,i<s.lines.length->((s.lines.getD i []).length:Int)=(p.lines.getD i Ln.none).size/\∀v∈s.lines.getD i [],v=0\/((p.lines.getD i Ln.none).lo<=v/\v<=(p.lines.getD i Ln.none).hi):=by
 unfold lK at h
 cases q:(bif !(jC s.vals p.states)then true else(s.lines.length:Int) != (p.lines.length:Int))with
 |true=>simp_all
 |false=>
  rw[q]at h
  rw[Qo]at q
  simp only[Bool.or_eq_false_iff,Bool.not_eq_false']at q
  have hl:=lne q.2
  refine⟨q.1,hl,λi hi=>?_⟩
  have h:Xn (s.lines.zip p.lines)=true:=h
  simp only[Xn,Bool.not_eq_true',List.any_eq_false]at h
  have:=h _ (Xx [] Ln.none hi (by omega))
  simp only[zcr,Qo,Bool.or_eq_true,not_or,bne_iff_ne,Decidable.not_not,List.any_eq_true,not_exists,not_and]at this
  refine⟨this.1,λv hv=>?_⟩
  have:=this.2 v hv
  simp only[z9s,Xw,Qo,Bool.and_eq_true,bne_iff_ne,Bool.or_eq_true,decide_eq_true_eq]at this
  omega
theorem Qp{p:Pr}{A:Fr}(hl:0<=p.latency/\p.latency<=4096)(h1:YJ p A=false)(h2:lK p ⟨A.vals,A.lines⟩=true):ND p A:=by
 unfold YJ at h1
 simp at h1
 rw[bM (by omega) (by omega)]at h1
 obtain⟨a1,a2⟩:=JM h1.1.1
 obtain⟨b1,b2⟩:=EW h1.1.2
 obtain⟨c1,c2⟩:=EW h1.2
 obtain⟨d1,d2,d3⟩:=z0o h2
 obtain⟨e1,e2⟩:=JM d1
 exact⟨a1,a2,b1,b2,c1,c2,e1,e2,d2,λi hi=>(d3 i hi).1,λi hi=>(d3 i hi).2⟩
theorem z96{P:Int->Prop}{l:List Int}(h:∀v∈l,P v)(h0:P 0)(i:Nat):P (l.getD i 0):=by
 rw[List.getD_eq_getElem?_getD]
 cases q:l[i]? with
 |none=>exact h0
 |some v=>exact h v (List.mem_of_getElem? q)
structure AtS(p:Pr)(F:List Sp)(i:Nat)(q:Ss):Prop where
 vlen:q.vals.length=p.states.length
 vin:∀j,j<p.states.length->(p.states.getD j Bd.none).lo<=q.vals.getD j 0/\q.vals.getD j 0<=(p.states.getD j Bd.none).hi
 llen:q.lets.length=i
 lin:∀j,j<i->(F.getD j (0,0)).1<=q.lets.getD j 0/\q.lets.getD j 0<=(F.getD j (0,0)).2
variable {p : Pr} {F : List Sp} {i : Nat} {s : Sm} {A : Fr}
theorem zfe{lo hi v:Int}(h:v=0\/(lo<=v/\v<=hi)):mm2 false lo 0<=v/\v<=mm2 true hi 0:=by
 grind[mm2]
theorem AtS.lf{q:Ss}(h:AtS p F i q)(ha:ND p A)(hi:i<=F.length):zet p (F.take i) (lfM (A.at q)) where
 par j v h0 h1:=ha.parV j.toNat (by have:=ha.par;omega)
 sta j v h0 h1:=h.vin j.toNat (by omega)
 let_ j v h0 h1:=by
  have h1:j.toNat<i:=by rw[List.length_take]at h1;omega
  have:=h.lin j.toNat h1
  have e:(F.take i).getD j.toNat (0,0)=F.getD j.toNat (0,0):=by
   rw[List.getD_eq_getElem?_getD,List.getD_eq_getElem?_getD,List.getElem?_take_of_lt h1]
  rw[e];exact this
 inn j v:=z96 (P:=λv=>-2147483648<=v/\v<=2147483647) ha.inpV (by decide) v.toNat
 sid j v:=z96 (P:=λv=>-2147483648<=v/\v<=2147483647) ha.sidV (by decide) v.toNat
 tap j v h0 h1:=zfe (z96 (P:=λv=>v=0\/((bW p j).lo<=v/\v<=(bW p j).hi)) (ha.linV j.toNat (by have:=ha.lin;omega)) (.inl rfl) _)
theorem G6(h:FOk F)(i:Nat):FOk (F.take i):=⟨λs hs=>h.ins s (List.mem_of_mem_take hs),λs hs=>h.ord s (List.mem_of_mem_take hs)⟩
theorem G7(a:zcp p F i s):wfX p i s.x=true:=by
 have:=a.wf;simp[wfS]at this;exact this.1
theorem z0p(a:zcp p F i s)(hk:s.kind=2):0<=s.index/\s.index<p.states.length:=by
 have:=a.wf;simp[wfS]at this;simp_all
theorem z0q(a:zcp p F i s)(hk:s.kind=3):0<=s.index/\s.index<p.lines.length:=by
 have:=a.wf;simp[wfS]at this;simp_all
theorem z97{q:Ss}(hB:BOk p F)(ha:ND p A)(h:AtS p F i q)(a:zcp p F i s):(F.getD i (0,0)).1<=nD p A q s/\nD p A q s<=(F.getD i (0,0)).2:=
 G5 hB.res.rng (G6 hB.fok i) (h.lf ha (Nat.le_of_lt a.lt)) s.x _ (by rw[a.len];exact(G7 a)) a.run
theorem zff{f:Sp}(h:within p s f=true){v:Int}(hv:f.1<=v/\v<=f.2):(dV p s).1<=v/\v<=(dV p s).2:=by
 simp[within]at h;omega
theorem at_set{q:Ss}(hB:BOk p F)(ha:ND p A)(h:AtS p F i q)(a:zcp p F i s):AtS p F (i+1) (pJ p A q s):=by
 have hv:=z97 hB ha h a
 refine⟨z0n.trans h.vlen,λj hj=>?_,?_,λj hj=>?_⟩
 ·by_cases hk:s.kind=2
  ·rw[z4y hk]
   by_cases hj2:s.index.toNat=j
   ·have:=zff a.win hv
    simp only[dV,hk]at this
    subst hj2
    have e:(q.vals.set s.index.toNat (nD p A q s)).getD s.index.toNat 0=nD p A q s:=by
     rw[List.getD_eq_getElem?_getD,List.getElem?_set_self (by rw[h.vlen];exact hj)];rfl
    rw[e];exact this
   ·have e:(q.vals.set s.index.toNat (nD p A q s)).getD j 0=q.vals.getD j 0:=by
     rw[List.getD_eq_getElem?_getD,List.getElem?_set_ne hj2,<-List.getD_eq_getElem?_getD]
    rw[e];exact h.vin j hj
  ·rw[z4z hk];exact h.vin j hj
 ·rw[Qn,List.length_append,h.llen];rfl
 ·rw[Qn]
  by_cases hj2:j=i
  ·subst hj2
   have e:(q.lets++[nD p A q s]).getD j 0=nD p A q s:=by
    rw[List.getD_eq_getElem?_getD,List.getElem?_append_right (by rw[h.llen];exact Nat.le_refl _),h.llen];simp
   rw[e];exact hv
  ·have e:(q.lets++[nD p A q s]).getD j 0=q.lets.getD j 0:=by
    rw[List.getD_eq_getElem?_getD,List.getElem?_append_left (by rw[h.llen];omega),<-List.getD_eq_getElem?_getD]
   rw[e];exact h.lin j (by omega)
theorem z5a(hB:BOk p F)(ha:ND p A):∀i,i<=p.stmts.length->AtS p F i (qH p A i)
 | 0,_=>by
  exact⟨ha.val,λj hj=>ha.valV j (by rw[ha.val];exact hj),rfl,λj hj=>absurd hj (Nat.not_lt_zero j)⟩
 |i+1,hi=>by
  obtain⟨s,hs⟩:=qG (show i<p.stmts.length from hi)
  obtain⟨r,hr⟩:=drop_at hs
  rw[<-z4u hr]
  exact at_set hB ha (z5a hB ha i (by omega)) (SS hB hr)
theorem look_in(hB:BOk p F)(hs:p.stmts[i]? = some s){y z:Ex}(hy:y∈ax s.x)(hk:looks y=true)(hz:y.l = [z]) :
  ∃t,dF p (F.take i) z = .ok t/\wfX p i z=true/\0<=t.1/\t.2<=YH p:=by
 obtain⟨r,hr⟩:=drop_at hs
 have a:=SS hB hr
 have hwy:=GY s.x (G7 a) y hy
 have hwz:wfX p i z=true:=ng (bZ hwy).2.2 z (by rw[hz];simp)
 have hi:i<p.stmts.length:=(List.getElem?_eq_some_iff.1 hs).1
 obtain⟨_,t,h1,_,h3,_,_⟩:=look_ok hB hi (by rw[zG hs];exact hy) hk
 have e:y.l.getD 0 Ex.none=z:=by rw[hz];rfl
 rw[e]at h1 h3
 have hf:dF p (F.take i) z = .ok t:=by
  rw[<-h3]
  refine JG (n:=i) (λj hj=>?_) z hwz
  rw[List.getD_eq_getElem?_getD,List.getD_eq_getElem?_getD,List.getElem?_take_of_lt hj]
 refine⟨t,hf,hwz,?_,?_⟩
 ·obtain⟨u,hu⟩:=ES s.x _ a.run y hy
  rw[gV,hz,dw,hf,dw]at hu
  have hah:aheadM t = .ok u:=by
   rcases Nv hk with e |e<;>(rw[e]at hu;simpa[opM]using hu)
  unfold aheadM at hah
  split at hah
  ·cases hah
  ·rename_i hq
   simp only[Bool.or_eq_true,decide_eq_true_eq,not_or]at hq
   omega
 ·have:=z95 (List.mem_of_getElem? hs) hy hk
  rw[e,hiM,h1]at this;exact this
theorem SX(hB:BOk p F)(hl:YH p<=p.latency)(ha:ND p A):sN p A:=by
 have li:=hB.res.li
 rw[limited_eq]at li
 simp only[Bool.and_eq_true]at li
 obtain⟨l1,l2,l3,l4,l5⟩:=li
 simp only[few,Bool.not_eq_true',Bool.or_eq_false_iff,decide_eq_false_iff_not]at l1
 have lnd:∀s∈p.stmts,Ref15.nodes s.x<=512:=λs hs=>by
  grind[List.all_eq_true,Ey,Bool.not_eq_true']
 have lln:∀l∈A.lines,0<l.length/\l.length<=1073741824:=λl hl=>by
  obtain⟨i,hi,e⟩:=List.mem_iff_getElem.1 hl
  have h1:=ha.linN i hi
  have hi2:i<p.lines.length:=by rw[<-ha.lin];exact hi
  have h2:=List.all_eq_true.1 l2 (p.lines.getD i Ln.none) (by simp_all)
  grind[Bi,Bool.not_eq_true']
 have tt:∀t∈p.tables,t.values.length<=1073741824:=λt ht=>by
  grind[List.all_eq_true,lu]
 have hv:=ha.val
 have hn:=ha.lin
 refine⟨by omega,by omega,by omega,λi s hs=>?_,λs hs=>?_,λs hs hk=>?_,λs hs hk=>?_,lln,λs hs=>by grind⟩
 ·obtain⟨r,hr⟩:=drop_at hs
  have a:=SS hB hr
  have hi:i<p.stmts.length:=(List.getElem?_eq_some_iff.1 hs).1
  have q:=z5a (A:=A) hB ha i (by omega)
  have hlf:=q.lf ha (Nat.le_of_lt a.lt)
  refine⟨F.take i,⟨hB.res.rng,G6 hB.fok i,hlf,ha.par,JL.trans ha.val,ha.lin,lln,by rw[a.len];exact q.llen,tt⟩,⟨by rw[a.len];exact(G7 a),⟨_,a.run⟩,λy hy hk z hz=>?_⟩⟩
  obtain⟨t,h1,h2,h3,h4⟩:=look_in hB hs hy hk hz
  have hin:=G5 hB.res.rng (G6 hB.fok i) hlf z t (by rw[a.len];exact h2) h1
  have e1:=ha.inp;have e2:=ha.sid
  grind
 ·have:=List.all_eq_true.1 hB.res.fo s hs
  grind[stmtOk]
 ·obtain⟨i,hs⟩:=List.getElem?_of_mem hs
  obtain⟨r,hr⟩:=drop_at hs
  have:=z0p (SS hB hr) hk;omega
 ·obtain⟨i,hs⟩:=List.getElem?_of_mem hs
  obtain⟨r,hr⟩:=drop_at hs
  have:=z0q (SS hB hr) hk;omega
theorem chkZ(h:jy p=0):BOk p (aN p).1/\YH p<=p.latency:=by
 unfold jy at h
 split at h
 ·rename_i q;rw[h]at q;exact absurd q (by decide)
 ·rename_i q
  have hb:(aN p).2=0:=by simpa using q
  refine⟨(mD hb).1,?_⟩
  split at h
  ·exact absurd h (by decide)
  ·omega
theorem Xy(h:Res p):0<=p.latency/\p.latency<=4096:=by
 have li:=h.li
 rw[limited_eq]at li
 simp[memOk]at li;omega
theorem EX(h:jy p=0)(h1:YJ p A=false)(h2:lK p ⟨A.vals,A.lines⟩=true):sN p A:=by
 obtain⟨hB,hl⟩:=chkZ h
 exact SX hB hl (Qp (Xy hB.res) h1 h2)
abbrev noS:St:=⟨[],[]⟩
def JO(p:Pr):St×Int:=if(jy p != 0)=true then(noS,jy p)else(lL p,0)
def yY(p:Pr)(A:Fr):Int×St×Int:=
 if(jy p != 0)=true then(0,noS,jy p)
 else if YJ p A=true then(0,noS,1)
 else if lK p ⟨A.vals,A.lines⟩=false then(0,noS,180)
 else((stepM p A).1,(stepM p A).2,0)
theorem z0r{p:Pr}(h:Res p):p.states.length<=1073741824/\p.lines.length<=1073741824/\∀x∈p.lines,1<=x.size/\x.size<=65536:=by
 have li:=h.li
 rw[limited_eq]at li
 grind[few,Bi]
theorem z0s{p:Pr}{A:Fr}(h:(yY p A).2.2=0):jy p=0/\YJ p A=false/\lK p ⟨A.vals,A.lines⟩=true/\yY p A=((stepM p A).1,(stepM p A).2,0):=by
 unfold yY at h ⊢
 grind
end Go.Fw.Mn
