/- A part of the proof. -/
import Derived.KernelRfl
import Derived.Test.YtgehpmgkaeohaaaGreatDoorZDB
set_option linter.all false
namespace Go.Fw.Rg
open Go.Fw Go.Fw.Ref15
variable [ae]
abbrev Sp:=Int×Int
abbrev Sp.cs(s:Sp):List D:=[.i s.1,.i s.2]
abbrev Sp.d(s:Sp):D:=.agg [.i s.1,.i s.2]
def inW(n:Int):Bool:=decide (-4611686018427387904<=n)&&decide (n<=4611686018427387904)
def okW(n:Int):Except Int Int:=if inW n then .ok n else .error 160
def oN(x:Int):Int:=if x < -2147483648 then -2147483648 else if x>2147483647 then 2147483647 else x
def ji(a n:Int):Int:=a / n
def Ue(a:Sp):Sp:=if a.1>=0 then a else if a.2<=0 then(-a.2,-a.1)else(0,mm2 true (-a.1) a.2)
def Ld(a b c d:Int):Int:=mm2 false (mm2 false (mm2 false a b) c) d
def Lh(a b c d:Int):Int:=mm2 true (mm2 true (mm2 true a b) c) d
def two(lo hi:Int):Except Int Sp:=if inW lo&&inW hi then .ok (lo,hi)else .error 160
def prodM(a b:Sp):Except Int Sp:=
 if inW (a.1 * b.1)&&inW (a.1 * b.2)&&inW (a.2 * b.1)&&inW (a.2 * b.2)then .ok (Ld (a.1 * b.1) (a.1 * b.2) (a.2 * b.1) (a.2 * b.2),Lh (a.1 * b.1) (a.1 * b.2) (a.2 * b.1) (a.2 * b.2))else .error 160
def aheadM(s:Sp):Except Int Sp:=if(decide (s.1<0) || decide (s.2>4096))=true then .error 161 else .ok (-2147483648,2147483647)
def minL:Int->List Int->Int
 |m,[]=>m
 |m,v::r=>minL (mm2 false m v) r
def maxL:Int->List Int->Int
 |m,[]=>m
 |m,v::r=>maxL (mm2 true m v) r
abbrev Bd.none:Bd:=⟨[],0,0⟩
abbrev Ln.none:Ln:=⟨[],0,0,0⟩
abbrev Tb.none:Tb:=⟨[],[]⟩
abbrev Sm.none:Sm:=⟨0,[],0,Ex.none⟩
abbrev jk(p:Pr)(i:Int):Bd:=p.params.getD i.toNat Bd.none
abbrev bH(p:Pr)(i:Int):Bd:=p.states.getD i.toNat Bd.none
abbrev bW(p:Pr)(i:Int):Ln:=p.lines.getD i.toNat Ln.none
abbrev aJ(p:Pr)(i:Int):List Int:=(p.tables.getD i.toNat Tb.none).values
def opM(p:Pr)(found:List Sp)(k i m:Int)(l:List Sp):Except Int Sp:=
 if k==1 then .ok (m,m)
 else if k==3 then .ok ((jk p i).lo,(jk p i).hi)
 else if k==4 then .ok ((bH p i).lo,(bH p i).hi)
 else if k==5 then .ok (found.getD i.toNat (0,0))
 else if k==6 || k==7 then aheadM (l.getD 0 (0,0))
 else if k==8 then .ok (mm2 false (bW p i).lo 0,mm2 true (bW p i).hi 0)
 else if k==9 then .ok (minL ((aJ p i).getD 0 0) (aJ p i),maxL ((aJ p i).getD 0 0) (aJ p i))
 else if k==10 then .ok (oN (l.getD 0 (0,0)).1,oN (l.getD 0 (0,0)).2)
 else if k==11 then .ok (mm2 false (l.getD 0 (0,0)).1 (l.getD 1 (0,0)).1,mm2 false (l.getD 0 (0,0)).2 (l.getD 1 (0,0)).2)
 else if k==12 then .ok (mm2 true (l.getD 0 (0,0)).1 (l.getD 1 (0,0)).1,mm2 true (l.getD 0 (0,0)).2 (l.getD 1 (0,0)).2)
 else if k==13 then .ok (Ue (l.getD 0 (0,0)))
 else if k==14 then .ok (-(l.getD 0 (0,0)).2,-(l.getD 0 (0,0)).1)
 else if k==15 then two ((l.getD 0 (0,0)).1+(l.getD 1 (0,0)).1) ((l.getD 0 (0,0)).2+(l.getD 1 (0,0)).2)
 else if k==16 then two ((l.getD 0 (0,0)).1 + -(l.getD 1 (0,0)).2) ((l.getD 0 (0,0)).2 + -(l.getD 1 (0,0)).1)
 else if k==17 then prodM (l.getD 0 (0,0)) (l.getD 1 (0,0))
 else if k==18 then .ok (ji (l.getD 0 (0,0)).1 m,ji (l.getD 0 (0,0)).2 m)
 else .ok (mm2 false (l.getD 2 (0,0)).1 (l.getD 3 (0,0)).1,mm2 true (l.getD 2 (0,0)).2 (l.getD 3 (0,0)).2)
mutual
def dF(p:Pr)(found:List Sp):Ex->Except Int Sp
 | .mk k _ i m l=>match dw p found l with
  | .error e=>.error e
  | .ok s=>opM p found k i m s
def dw(p:Pr)(found:List Sp):List Ex->Except Int (List Sp)
 | []=>.ok []
 |x::r=>match dF p found x with
  | .error e=>.error e
  | .ok s=>match dw p found r with
   | .error e=>.error e
   | .ok t=>.ok (s::t)
end
theorem gV(p:Pr)(found:List Sp)(x:Ex):dF p found x=match dw p found x.l with | .error e=>.error e | .ok s=>opM p found x.kind x.index x.n s:=by cases x;rfl
def pre(a:List Sp):Except Int (List Sp)->Except Int (List Sp)
 | .error e=>.error e
 | .ok t=>.ok (a++t)
theorem pre_nil(r:Except Int (List Sp)):pre [] r=r:=by cases r<;>rfl
theorem zdz{p:Pr}{found a:List Sp}{x:Ex}{r:List Ex}{s:Sp}(h:dF p found x = .ok s):pre a (dw p found (x::r))=pre (a++[s]) (dw p found r):=by
 grind[dw,pre]
theorem z8a{p:Pr}{found a:List Sp}{x:Ex}{r:List Ex}{e:Int}(h:dF p found x = .error e):pre a (dw p found (x::r)) = .error e:=by
 rw[dw,h];rfl
def uk(p:Pr)(n:Nat)(k i m:Int):Bool:=
 if k==1 then decide (0<=m)&&decide (m<=2147483648)
 else if k==3 then decide (0<=i)&&decide (i<p.params.length)
 else if k==4 then decide (0<=i)&&decide (i<p.states.length)
 else if k==5 then decide (0<=i)&&decide (i<n)
 else if k==8 then decide (0<=i)&&decide (i<p.lines.length)
 else if k==9 then decide (0<=i)&&decide (i<p.tables.length) && !(aJ p i==[])
 else if k==18 then decide (1<=m)&&decide (m<=2147483648)
 else k==6 || k==7 || k==10 || k==11 || k==12 || k==13 || k==14 || k==15 || k==16 || k==17 || k==19
mutual
def wfX(p:Pr)(n:Nat):Ex->Bool
 | .mk k _ i m l=>((l.length:Int)==Ref15.parts k&&uk p n k i m)&&wfL p n l
def wfL(p:Pr)(n:Nat):List Ex->Bool
 | []=>true
 |x::r=>wfX p n x&&wfL p n r
end
theorem PD(p:Pr)(n:Nat)(x:Ex):wfX p n x=(((x.l.length:Int)==Ref15.parts x.kind&&uk p n x.kind x.index x.n)&&wfL p n x.l):=by cases x;rfl
theorem ng{p:Pr}{n:Nat}:∀{l:List Ex},wfL p n l=true->∀y∈l,wfX p n y=true
 |x::r,h,y,hy=>by
  simp[wfL]at h
  rcases List.mem_cons.1 hy with rfl |hy
  ·exact h.1
  ·exact ng h.2 y hy
theorem Jm{p:Pr}{found:List Sp}:∀{l:List Ex} {s:List Sp},dw p found l = .ok s->s.length=l.length
 | [],s,h=>by grind[dw]
 |x::r,s,h=>by
  simp[dw]at h
  cases hx:dF p found x with
  |error e=>simp_all
  |ok t=>
   rw[hx]at h
   cases hr:dw p found r with
   |error e=>simp_all
   |ok u=>
    rw[hr]at h
    cases h
    simp[Jm hr]
def InS(l:List Sp):Prop:=∀s∈l,inW s.1=true/\inW s.2=true
structure Rng(p:Pr):Prop where
 par:∀b∈p.params,-2147483648<=b.lo/\b.lo<=b.hi/\b.hi<=2147483647
 sta:∀b∈p.states,-2147483648<=b.lo/\b.lo<=b.hi/\b.hi<=2147483647
 lin:∀b∈p.lines,-2147483648<=b.lo/\b.lo<=b.hi/\b.hi<=2147483647
 tab:∀t∈p.tables,∀v∈t.values,-2147483648<=v/\v<=2147483647
theorem dK{n:Int}:inW n=true ↔ -4611686018427387904<=n/\n<=4611686018427387904:=by simp[inW]
def dV(p:Pr)(s:Sm):Sp:=if s.kind==2 then((bH p s.index).lo,(bH p s.index).hi)else if s.kind==3 then((bW p s.index).lo,(bW p s.index).hi)else if s.kind==4 then(-2147483648,2147483647)else(-4611686018427387904,4611686018427387904)
def within(p:Pr)(s:Sm)(f:Sp):Bool:=decide (f.1>=(dV p s).1)&&decide (f.2<=(dV p s).2)
def bQ(p:Pr):List Sm->List Sp->Except Int (List Sp)
 | [],found=>.ok found
 |s::r,found=>match dF p found s.x with
  | .error e=>.error e
  | .ok f=>if within p s f then bQ p r (found++[f])else .error 161
end Go.Fw.Rg
namespace Go.Fw.Rg
open Go.Fw Go.Fw.Ref15
variable [ae] {a b : Int}
def zh0(a b:Int):Bool:=bif (bif (bif decide (a>0)then decide (b>0)else false)then decide (a>IntKind.i64.wrap (4611686018427387904-b))else false)then true else(bif (bif decide (a<0)then decide (b<0)else false)then decide (a<IntKind.i64.wrap (-4611686018427387904-b))else false)
theorem PE(p q:Bool):(bif p then true else q)=(p || q):=by cases p<;>rfl
theorem VW(ha:inW a=true)(hb:inW b=true):zh0 a b = !inW (a+b):=by
 have ha:=dK.1 ha
 have hb:=dK.1 hb
 have key:∀x y:Int,(0<b->x=4611686018427387904-b)->(b<0->y = -4611686018427387904-b) ->
   (bif (bif (bif decide (a>0)then decide (b>0)else false)then decide (a>x)else false)then true else(bif (bif decide (a<0)then decide (b<0)else false)then decide (a<y)else false)) = !inW (a+b):=by
  intro x y hx hy
  rw[Bool.eq_iff_iff]
  simp[inW]
  omega
 exact key _ _ (λh=>bM (by omega) (by omega)) (λh=>bM (by omega) (by omega))
theorem qV{n:Int}(h:inW n=true):IntKind.i64.wrap n=n:=by
 grind[dK,bM]
theorem gp{n:Int}(h:inW n=true):IntKind.i64.wrap (0-n) = -n:=by
 grind[dK,bM]
theorem BC{n:Int}(h:inW n=true):inW (-n)=true:=by
 grind[dK]
def SH(n:Int)(f:Bool):Bool:=bif (bif !f then true else decide (n>4611686018427387904))then true else decide (n < -4611686018427387904)
def z3u(a b:Int):Bool:=bif a==0 then true else b==0
def zd0(a b:Int):Bool:=bif (IntKind.i64.wrap ((IntKind.i64.wrap (a * b)).tdiv b)==a)then decide (mm2 true a (IntKind.i64.wrap (0-a))<=IntKind.i64.wrap ((4611686018427387904:Int).tdiv (mm2 true b (IntKind.i64.wrap (0-b)))))else false
theorem MQ(a:Int):mm2 true a (-a)=(a.natAbs:Int):=by
 grind[mm2]
theorem VX{n:Nat}(h:n<=4611686018427387904):IntKind.i64.wrap (n:Int)=(n:Int):=bM (by omega) (by omega)
theorem z8b(ha:inW a=true)(hb:inW b=true)(h0:b≠0):zd0 a b=inW (a * b):=by
 have hv:0<b.natAbs:=Int.natAbs_pos.2 h0
 have hq:((4611686018427387904:Int).tdiv (b.natAbs:Int))=((4611686018427387904 / b.natAbs:Nat):Int):=by
  rfl
 have hle:4611686018427387904 / b.natAbs<=4611686018427387904:=Nat.div_le_self _ _
 have hex:(mm2 true a (IntKind.i64.wrap (0-a))<=IntKind.i64.wrap ((4611686018427387904:Int).tdiv (mm2 true b (IntKind.i64.wrap (0-b)))))↔inW (a * b)=true:=by
  rw[gp ha,gp hb,MQ,MQ,hq,VX hle,Int.ofNat_le,Nat.le_div_iff_mul_le hv,dK,<-Int.natAbs_mul]
  omega
 unfold zd0
 cases hw:inW (a * b)with
 |true=>
  grind[qV,Int.mul_tdiv_cancel]
 |false=>
  simp_all
theorem PG(ha:inW a=true)(hb:inW b=true)(h0:b≠0):SH (IntKind.i64.wrap (a * b)) (zd0 a b) = !inW (a * b):=by
 rw[z8b ha hb h0]
 grind[inW,qV,SH]
theorem z8c(h:z3u a b=true):a * b=0:=by
 simp[z3u]at h
 grind
theorem z8d(h:z3u a b=false):b≠0:=by
 grind[z3u]
theorem BD{a n:Int}(hn:1<=n)(h:inW a=true):inW (a / n)=true:=by
 have h:=dK.1 h
 refine dK.2 ⟨?_,?_⟩
 ·rw[Int.le_ediv_iff_mul_le (by omega)]
  omega
 ·have:a / n<=4611686018427387904 / n:=Int.ediv_le_ediv (by omega) h.2
  have h2:(4611686018427387904:Int) / n<=4611686018427387904:=Int.ediv_le_self _ (by omega)
  omega
theorem ZH{a n:Int}(hn:1<=n)(hn2:n<=2147483648)(h:inW a=true)(h0:a<0):IntKind.i64.wrap (0-IntKind.i64.wrap ((IntKind.i64.wrap (IntKind.i64.wrap (IntKind.i64.wrap (0-a)+n)-1)).tdiv n))=ji a n:=by
 have hw:=dK.1 h
 rw[gp h,bM (n:=-a+n) (by omega) (by omega),bM (n:=-a+n-1) (by omega) (by omega),Int.tdiv_eq_ediv_of_nonneg (by omega)]
 have e:(-a+n-1) / n = -(a / n):=by
  have h1:=Int.mul_ediv_add_emod a n
  have h2:=Int.emod_nonneg a (show n≠0 by omega)
  have h3:=Int.emod_lt_of_pos a (show 0<n by omega)
  have h4:-a+n-1=(n-1-a % n)+n * (-(a / n)):=by
   grind
  rw[h4,Int.add_mul_ediv_left _ _ (by omega),Int.ediv_eq_zero_of_lt (by omega) (by omega),Int.zero_add]
 have hd:=BD hn h
 rw[e,qV (BC hd),gp (BC hd),Int.neg_neg];rfl
theorem ZI{a n:Int}(hn:1<=n)(h:inW a=true)(h0:¬a<0):IntKind.i64.wrap (a.tdiv n)=ji a n:=by
 have hd:=BD hn h
 rw[Int.tdiv_eq_ediv_of_nonneg (by omega),qV hd];rfl
theorem Jn{a n:Int}(hn:1<=n)(h:inW a=true):IntKind.i64.wrap (a.tdiv n)=if a.tmod n<0 then ji a n+1 else ji a n:=by
 have hd:=dK.1 (BD hn h)
 have h2:=Int.emod_nonneg a (show n≠0 by omega)
 have h3:=Int.emod_lt_of_pos a (show 0<n by omega)
 rw[Int.tdiv_eq_ediv,Int.tmod_eq_emod]
 by_cases hc:0<=a\/n ∣ a
 ·rw[if_pos hc,if_pos hc,Int.add_zero,bM (by omega) (by omega),if_neg (by omega)];rfl
 ·rw[if_neg hc,if_neg hc,Int.sign_eq_one_of_pos (by omega),if_pos (by omega),bM (by omega) (by omega)];rfl
end Go.Fw.Rg
namespace Go.Fw
theorem bK[ae](T:Tbl)(A:FuncId->List D->lY->Prop)(B:FuncId->List AV->Heap->gG->Heap->Prop){kp:Nat}{Q:List Rec->Prop}{l:List Oper}{ms:List Nat}{tr:List Rec}{env:Env}{K:Heap}(bs:List Bool)(_:l.length=bs.length)(h:(ms.map λm=>m.testBit kp)=bs)(h2:zX T A B Q l bs tr env K):Ll (kT T A B kp Q l ms tr env K):=
 rest_step T A B bs h h2
end Go.Fw
namespace Go.Fw.Rg
open Go.Fw Go.Fw.Ref15
variable [ae] {q : List D → Prop} {r : Except Int Sp} {t : TypeId} {a b : Nat}
theorem fA{α:Type}{f:α->List D}(d:α){k:Bool}{l:List α}{n:Int}(h1:k=true)(h2:a=b)(h3:0<=n)(h4:n<l.length)(h:q (f (l.getD n.toNat d))) :
  (k=true/\a=b)/\∃c,(0<=n/\(l.map f)[n.toNat]? = some c)/\q c:=by
 simp_all
theorem z8e{k:Bool}{n:Int}{es:List (List D)}(h1:k=true)(h2:a=b)(h3:decide (0<=n/\n.toNat<es.length)=true)(h:q (es.getD n.toNat [])):(k=true/\a=b)/\∃c,(0<=n/\es[n.toNat]? = some c)/\q c:=by
 simp_all
theorem yV{k:Bool}{n:Int}{es:List (List D)}(h:q (es.getD n.toNat []))(h1:k=true:=by exact rfl)(h2:a=b:=by exact rfl)(h3:decide (0<=n/\n.toNat<es.length)=true:=by exact rfl):(k=true/\a=b)/\∃c,(0<=n/\es[n.toNat]? = some c)/\q c:=z8e h1 h2 h3 h
def VY(t:TypeId):Except Int Sp->lY
 | .ok s=>.ret s.d
 | .error e=>.pan (.iface t (.i e))
def zh1(t:TypeId):Except Int Int->lY
 | .ok n=>.ret (.i n)
 | .error e=>.pan (.iface t (.i e))
theorem PH{A M:lY->Prop}{V:Prop}(hA:A (VY t r))(h1:∀s,r = .ok s->M (.ret (.agg [.i s.1,.i s.2])))(h2:∀e,r = .error e->M (.pan (.iface t (.i e)))):(∃out,A out/\M out)\/V:=by
 refine .inl ⟨_,hA,?_⟩
 cases r with
 |ok s=>exact h1 s rfl
 |error e=>exact h2 e rfl
theorem jT{A M:lY->Prop}{V:Prop}{r:Except Int Int}(hA:A (zh1 t r))(h1:∀n,r = .ok n->M (.ret (.i n)))(h2:∀e,r = .error e->M (.pan (.iface t (.i e)))):(∃out,A out/\M out)\/V:=by
 refine .inl ⟨_,hA,?_⟩
 cases r with
 |ok s=>exact h1 s rfl
 |error e=>exact h2 e rfl
theorem Gt{T:Tbl}{rs:List ResultVar}{K0 K K1:Heap}{env:Env}{q:Prop}(s:Sp)(hs:r = .ok s)(h:finR T rs K0 (.ret (.data (.agg [.i s.1,.i s.2]))) K1 env K):finR T rs K0 (VY t r).toA K1 env K\/q:=by
 subst hs;exact .inl h
theorem ni{K0 K K1:Heap}{x:AV}(e:Int)(hs:r = .error e)(h:fin K0 K x (.data (.iface t (.i e))) K1):Dc K0 K x K1 (VY t r).toA:=by
 subst hs;unfold Dc;exact h
theorem EH{a n:Int}(h:okW a = .ok n):n=a/\inW a=true:=by
 unfold okW at h
 grind
theorem MR{a e:Int}(h:okW a = .error e):e=160/\inW a=false:=by
 unfold okW at h
 grind
theorem z3v{a b x y:Int}(h1:okW a = .ok x)(h2:okW b = .ok y):two a b = .ok (x,y):=by
 obtain⟨rfl,g1⟩:=EH h1
 obtain⟨rfl,g2⟩:=EH h2
 grind[two]
theorem z3w{a b e:Int}(h1:okW a = .error e):two a b = .error e:=by
 obtain⟨rfl,g1⟩:=MR h1
 rw[two,g1];rfl
theorem z3x{a b e:Int}(h2:okW b = .error e):two a b = .error e:=by
 obtain⟨rfl,g2⟩:=MR h2
 rw[two,g2,Bool.and_false];rfl
theorem z8f{a b:Sp}{x y z w:Int}(h1:okW (a.1 * b.1) = .ok x)(h2:okW (a.1 * b.2) = .ok y)(h3:okW (a.2 * b.1) = .ok z)(h4:okW (a.2 * b.2) = .ok w):prodM a b = .ok (Ld x y z w,Lh x y z w):=by
 obtain⟨rfl,g1⟩:=EH h1
 obtain⟨rfl,g2⟩:=EH h2
 obtain⟨rfl,g3⟩:=EH h3
 obtain⟨rfl,g4⟩:=EH h4
 grind[prodM]
theorem zB{a b:Sp}{e:Int}(h:okW (a.1 * b.1) = .error e\/okW (a.1 * b.2) = .error e\/okW (a.2 * b.1) = .error e\/okW (a.2 * b.2) = .error e):prodM a b = .error e:=by
 rcases h with h |h |h |h<;>obtain⟨rfl,g⟩:=MR h<;>rw[prodM,g]<;>simp
variable [ae] {p : Pr} {found sl : List Sp} {l : List Ex}
theorem kinds{k:Int}{n:Nat}{i m:Int}(h:uk p n k i m=true):k=1\/k=3\/k=4\/k=5\/k=6\/k=7\/k=8\/k=9\/k=10\/k=11\/k=12\/k=13\/k=14\/k=15\/k=16\/k=17\/k=18\/k=19:=by
 have key:¬(k=1\/k=3\/k=4\/k=5\/k=6\/k=7\/k=8\/k=9\/k=10\/k=11\/k=12\/k=13\/k=14\/k=15\/k=16\/k=17\/k=18\/k=19)->False:=by
  grind[uk]
 grind
theorem getD_in{l:List Sp}(h:InS l)(n:Nat):inW (l.getD n (0,0)).1=true/\inW (l.getD n (0,0)).2=true:=by
 rw[List.getD_eq_getElem?_getD]
 cases hn:l[n]? with
 |none=>exact⟨by decide,by decide⟩
 |some s=>exact h s (List.mem_of_getElem? hn)
theorem getD_mem'{α:Type}{l:List α}{n:Int}(d:α)(h0:0<=n)(h1:n<l.length):l.getD n.toNat d∈l:=by
 simp_all
theorem qA{b:Bool}{x y:Int}(hx:inW x=true)(hy:inW y=true):inW (mm2 b x y)=true:=by
 cases b<;>simp[mm2]<;>split<;>assumption
theorem qW{x:Int}(h1:-2147483648<=x)(h2:x<=2147483648):inW x=true:=dK.2 (by omega)
theorem z8g(x:Int):-2147483648<=oN x/\oN x<=2147483647:=by
 grind[oN]
theorem Gu:∀(l:List Int) (m:Int),minL m l<=m/\(∀v∈l,minL m l<=v)/\(minL m l=m\/minL m l∈l)
 | [],m=>⟨Int.le_refl _,by simp,.inl rfl⟩
 |v::r,m=>by
  obtain⟨h1,h2,h3⟩:=Gu r (mm2 false m v)
  have e:minL m (v::r)=minL (mm2 false m v) r:=rfl
  have hm:mm2 false m v<=m/\mm2 false m v<=v/\(mm2 false m v=m\/mm2 false m v=v):=by grind[mm2]
  grind
theorem Gv:∀(l:List Int) (m:Int),m<=maxL m l/\(∀v∈l,v<=maxL m l)/\(maxL m l=m\/maxL m l∈l)
 | [],m=>⟨Int.le_refl _,by simp,.inl rfl⟩
 |v::r,m=>by
  obtain⟨h1,h2,h3⟩:=Gv r (mm2 true m v)
  have e:maxL m (v::r)=maxL (mm2 true m v) r:=rfl
  have hm:m<=mm2 true m v/\v<=mm2 true m v/\(mm2 true m v=m\/mm2 true m v=v):=by grind[mm2]
  grind
theorem nO{a s:Sp}(h:aheadM a = .ok s):s=(-2147483648,2147483647):=by
 grind[aheadM]
theorem BF{a b:Int}{s:Sp}(h:two a b = .ok s):s=(a,b)/\inW a=true/\inW b=true:=by
 unfold two at h
 grind
theorem Gw{a b s:Sp}(h:prodM a b = .ok s):s=(Ld (a.1 * b.1) (a.1 * b.2) (a.2 * b.1) (a.2 * b.2),Lh (a.1 * b.1) (a.1 * b.2) (a.2 * b.1) (a.2 * b.2))/\inW (a.1 * b.1)=true/\inW (a.1 * b.2)=true/\inW (a.2 * b.1)=true/\inW (a.2 * b.2)=true:=by
 unfold prodM at h
 grind
theorem in2{x y:Int}(h1:inW x=true)(h2:inW y=true):inW ((x,y):Sp).1=true/\inW ((x,y):Sp).2=true:=⟨h1,h2⟩
theorem zd1{found l:List Sp}{k i m:Int}{s:Sp}(hR:Rng p)(hF:InS found)(hs:InS l)(hw:uk p found.length k i m=true)(h:opM p found k i m l = .ok s):inW s.1=true/\inW s.2=true:=by
 have g:=getD_in hs
 rcases kinds hw with rfl |rfl |rfl |rfl |rfl |rfl |rfl |rfl |rfl |rfl |rfl |rfl |rfl |rfl |rfl |rfl |rfl |rfl
 ·have hw:(decide (0<=m)&&decide (m<=2147483648))=true:=hw
  simp at hw
  have h:Except.ok (m,m)=Except.ok s:=h
  grind[in2,qW]
 ·have hw:(decide (0<=i)&&decide (i<p.params.length))=true:=hw
  simp at hw
  cases h
  have:-2147483648<=(jk p i).lo/\(jk p i).lo<=(jk p i).hi/\(jk p i).hi<=2147483647:=hR.par _ (getD_mem' Bd.none hw.1 hw.2)
  grind[in2,qW]
 ·have hw:(decide (0<=i)&&decide (i<p.states.length))=true:=hw
  simp only[Bool.and_eq_true,decide_eq_true_eq]at hw
  cases h
  have:-2147483648<=(bH p i).lo/\(bH p i).lo<=(bH p i).hi/\(bH p i).hi<=2147483647:=hR.sta _ (getD_mem' Bd.none hw.1 hw.2)
  grind[in2,qW]
 ·have h:Except.ok (found.getD i.toNat (0,0))=Except.ok s:=h
  grind[getD_in]
 ·obtain rfl:=nO (show aheadM (l.getD 0 (0,0)) = .ok s from h)
  exact in2 (by decide) (by decide)
 ·obtain rfl:=nO (show aheadM (l.getD 0 (0,0)) = .ok s from h)
  exact in2 (by decide) (by decide)
 ·have hw:(decide (0<=i)&&decide (i<p.lines.length))=true:=hw
  simp at hw
  cases h
  have:-2147483648<=(bW p i).lo/\(bW p i).lo<=(bW p i).hi/\(bW p i).hi<=2147483647:=hR.lin _ (getD_mem' Ln.none hw.1 hw.2)
  grind[in2,qA,qW]
 ·have hw:(decide (0<=i)&&decide (i<p.tables.length) && !(aJ p i==[]))=true:=hw
  simp at hw
  cases h
  have ht:=hR.tab _ (getD_mem' Tb.none hw.1.1 hw.1.2)
  have h1:=Gu (aJ p i) ((aJ p i).getD 0 0)
  have h2:=Gv (aJ p i) ((aJ p i).getD 0 0)
  grind[inW,minL,qW,maxL]
 ·have h:Except.ok (oN (l.getD 0 (0,0)).1,oN (l.getD 0 (0,0)).2)=Except.ok s:=h
  grind[z8g,in2,qW]
 ·have h:Except.ok (mm2 false (l.getD 0 (0,0)).1 (l.getD 1 (0,0)).1,mm2 false (l.getD 0 (0,0)).2 (l.getD 1 (0,0)).2)=Except.ok s:=h
  grind[in2,qA]
 ·have h:Except.ok (mm2 true (l.getD 0 (0,0)).1 (l.getD 1 (0,0)).1,mm2 true (l.getD 0 (0,0)).2 (l.getD 1 (0,0)).2)=Except.ok s:=h
  grind[in2,qA]
 ·cases h
  unfold Ue
  repeat' split
  ·exact g 0
  ·grind[in2,BC]
  ·exact in2 (by decide) (qA (BC (g 0).1) (g 0).2)
 ·have h:Except.ok (-(l.getD 0 (0,0)).2,-(l.getD 0 (0,0)).1)=Except.ok s:=h
  grind[in2,BC]
 ·obtain⟨rfl,h1,h2⟩:=BF (show two ((l.getD 0 (0,0)).1+(l.getD 1 (0,0)).1) ((l.getD 0 (0,0)).2+(l.getD 1 (0,0)).2) = .ok s from h)
  simp_all
 ·obtain⟨rfl,h1,h2⟩:=BF (show two ((l.getD 0 (0,0)).1 + -(l.getD 1 (0,0)).2) ((l.getD 0 (0,0)).2 + -(l.getD 1 (0,0)).1) = .ok s from h)
  simp_all
 ·obtain⟨rfl,h1,h2,h3,h4⟩:=Gw (show prodM (l.getD 0 (0,0)) (l.getD 1 (0,0)) = .ok s from h)
  exact in2 (qA (qA (qA h1 h2) h3) h4) (qA (qA (qA h1 h2) h3) h4)
 ·have hw:(decide (1<=m)&&decide (m<=2147483648))=true:=hw
  simp only[Bool.and_eq_true,decide_eq_true_eq]at hw
  cases h
  exact in2 (BD hw.1 (g 0).1) (BD hw.1 (g 0).2)
 ·have h:Except.ok (mm2 false (l.getD 2 (0,0)).1 (l.getD 3 (0,0)).1,mm2 true (l.getD 2 (0,0)).2 (l.getD 3 (0,0)).2)=Except.ok s:=h
  grind[in2,qA]
theorem findL_in'{found:List Sp}:∀{l:List Ex} {t:List Sp},(∀x∈l,∀s:Sp,wfX p found.length x=true->dF p found x = .ok s->inW s.1=true/\inW s.2=true)->wfL p found.length l=true->dw p found l = .ok t->InS t
 | [],t,_,_,h=>by cases h;intro s hs;simp at hs
 |x::r,t,ih,hw,h=>by
  simp[wfL]at hw
  simp[dw]at h
  cases hx:dF p found x with
  |error e=>simp_all
  |ok s=>
   rw[hx]at h
   cases hr:dw p found r with
   |error e=>simp_all
   |ok u=>
    rw[hr]at h
    cases h
    intro y hy
    rcases List.mem_cons.1 hy with rfl |hy<;>try grind
    exact findL_in' (λx hx=>ih x (by simp[hx])) hw.2 hr y hy
theorem bZ{n:Nat}{x:Ex}(h:wfX p n x=true):(x.l.length:Int)=Ref15.parts x.kind/\uk p n x.kind x.index x.n=true/\wfL p n x.l=true:=by
 rw[PD]at h
 simp_all
theorem vS{found:List Sp}(hR:Rng p)(hF:InS found):∀(x:Ex) (s:Sp),wfX p found.length x=true->dF p found x = .ok s->inW s.1=true/\inW s.2=true:=by
 refine Ex.ind λx ih s hw h=>?_
 obtain⟨_,h2,h3⟩:=bZ hw
 rw[gV]at h
 cases hl:dw p found x.l with
 |error e=>simp_all
 |ok t=>
  rw[hl]at h
  exact zd1 hR hF (findL_in' ih h3 hl) h2 h
theorem ZJ{found:List Sp}(hR:Rng p)(hF:InS found){t:List Sp}(hw:wfL p found.length l=true)(h:dw p found l = .ok t):InS t:=
 findL_in' (λx _ s=>vS hR hF x s) hw h
theorem qB:∀{l:List Ex} {y:Ex},y∈l->Ref15.nodes y<=Ref15.nodesL l
 |x::r,y,h=>by
  simp[Ref15.nodesL]
  rcases List.mem_cons.1 h with rfl |h
  ·omega
  ·have:=qB h;omega
theorem zC{x:Ex}(h:pre sl (dw p found [])=dw p found x.l):dF p found x=opM p found x.kind x.index x.n sl/\dw p found x.l = .ok sl:=by
 grind[dw,pre,gV]
theorem ZK{x y:Ex}{r:List Ex}{e:Int}(h:pre sl (dw p found (y::r))=dw p found x.l)(hy:dF p found y = .error e):dF p found x = .error e:=by
 rw[z8a hy]at h
 rw[gV,<-h]
theorem VZ{x y:Ex}{r:List Ex}{s:Sp}(h:pre sl (dw p found (y::r))=dw p found x.l)(hy:dF p found y = .ok s):pre (sl++[s]) (dw p found r)=dw p found x.l:=by
 grind[zdz]
theorem BG{sl:List Sp}(h:sl.length=1):∃a,sl = [a]:=by
 match sl,h with
 | [a],_=>simp
theorem V3{sl:List Sp}(h:sl.length=2):∃a b,sl = [a,b]:=by
 match sl,h with
 | [a,b],_=>simp
theorem zh2{sl:List Sp}(h:sl.length=4):∃a b c d,sl = [a,b,c,d]:=by
 match sl,h with
 | [a,b,c,d],_=>simp
end Go.Fw.Rg
namespace Go.Fw.Rg
open Go.Fw Go.Fw.Ref15
variable [ae]
def wfS(p:Pr)(i:Nat)(s:Sm):Bool:=wfX p i s.x&&((!(s.kind==2) || (decide (0<=s.index)&&decide (s.index<p.states.length)))&&(!(s.kind==3) || (decide (0<=s.index)&&decide (s.index<p.lines.length))))
def vT(p:Pr):Nat->List Sm->Bool
 |_,[]=>true
 |i,s::r=>wfS p i s&&vT p (i+1) r
theorem qC{p:Pr}{i:Nat}{s:Sm}{r:List Sm}(h:vT p i (s::r)=true):vT p (i+1) r=true:=by
 simp[vT]at h;exact h.2
theorem V4{p:Pr}{i:Nat}{s:Sm}{r:List Sm}(h:vT p i (s::r)=true):wfX p i s.x=true:=by
 simp[vT,wfS]at h;exact h.1.1
theorem PI{p:Pr}{i:Nat}{s:Sm}{r:List Sm}(h:vT p i (s::r)=true)(h2:(s.kind==2)=true):0<=s.index/\s.index<p.states.length:=by
 simp[vT,wfS,h2]at h;exact h.1.2.1
theorem PK{p:Pr}{i:Nat}{s:Sm}{r:List Sm}(h:vT p i (s::r)=true)(h2:(s.kind==3)=true):0<=s.index/\s.index<p.lines.length:=by
 simp[vT,wfS,h2]at h;exact h.1.2.2
theorem z8h(f B:Sp):sameL [.i (mm2 false f.1 B.1),.i (mm2 true f.2 B.2)] [.i B.1,.i B.2]=(decide (f.1>=B.1)&&decide (f.2<=B.2)):=by
 rw[Bool.eq_iff_iff]
 simp[sameL,sameS,mm2]
 omega
theorem V5{p:Pr}{s:Sm}{f B:Sp}{b:Bool}(hB:dV p s=B)(h:(!(sameL [.i (mm2 false f.1 B.1),.i (mm2 true f.2 B.2)] [.i B.1,.i B.2]))=b):within p s f = !b:=by
 rw[z8h]at h
 rw[within,hB,<-h,Bool.not_not]
theorem jZ{p:Pr}{s:Sm}{f B:Sp}(hB:dV p s=B)(h:(!(sameL [.i (mm2 false f.1 B.1),.i (mm2 true f.2 B.2)] [.i B.1,.i B.2]))=true):within p s f=false:=V5 hB h
theorem mi{p:Pr}{s:Sm}{f B:Sp}(hB:dV p s=B)(h:(!(sameL [.i (mm2 false f.1 B.1),.i (mm2 true f.2 B.2)] [.i B.1,.i B.2]))=false):within p s f=true:=V5 hB h
theorem zd2{p:Pr}{s:Sm}(h:(s.kind==2)=true):dV p s=((bH p s.index).lo,(bH p s.index).hi):=by rw[dV,h];rfl
theorem zd3{p:Pr}{s:Sm}(h:(s.kind==2)=false)(h3:(s.kind==3)=true):dV p s=((bW p s.index).lo,(bW p s.index).hi):=by grind[dV]
theorem zd4{p:Pr}{s:Sm}(h:(s.kind==2)=false)(h3:(s.kind==3)=false)(h4:(s.kind==4)=true):dV p s=(-2147483648,2147483647):=by grind[dV]
theorem zd5{p:Pr}{s:Sm}(h:(s.kind==2)=false)(h3:(s.kind==3)=false)(h4:(s.kind==4)=false):dV p s=(-4611686018427387904,4611686018427387904):=by grind[dV]
def ig(p:Pr):List Sm->List Sp->List Sp
 | [],found=>found
 |s::r,found=>match dF p found s.x with
  | .error _=>found
  | .ok f=>if within p s f then ig p r (found++[f])else found
theorem ZL{p:Pr}{s:Sm}{r:List Sm}{F:List Sp}{f:Sp}(h:dF p F s.x = .ok f)(hw:within p s f=true):bQ p (s::r) F=bQ p r (F++[f])/\ig p (s::r) F=ig p r (F++[f]):=by
 constructor
 ·rw[bQ];simp_all
 ·rw[ig];simp_all
theorem ZM{p:Pr}{s:Sm}{r:List Sm}{F:List Sp}{e:Int}(h:dF p F s.x = .error e):bQ p (s::r) F = .error e/\ig p (s::r) F=F:=by
 grind[bQ,ig]
theorem ZN{p:Pr}{s:Sm}{r:List Sm}{F:List Sp}{f:Sp}(h:dF p F s.x = .ok f)(hw:within p s f=false):bQ p (s::r) F = .error 161/\ig p (s::r) F=F:=by
 grind[bQ,ig]
theorem Jo{A M:lY->Prop}{t:TypeId}{r:Except Int Sp}(hA:A (VY t r))(h1:∀s,r = .ok s->M (.ret (.agg [.i s.1,.i s.2])))(h2:∀e,r = .error e->M (.pan (.iface t (.i e)))):∃out,A out/\M out:=by
 refine⟨_,hA,?_⟩
 cases r with
 |ok s=>exact h1 s rfl
 |error e=>exact h2 e rfl
theorem Gx{l:List Sp}{s:Sp}(h:InS l)(hs:inW s.1=true/\inW s.2=true):InS (l++[s]):=by
 intro y hy
 rcases List.mem_append.1 hy with hy |hy
 ·exact h y hy
 simp_all
structure StI(p:Pr)(R:Except Int (List Sp))(FF:List Sp)(i:Nat)(r:List Sm)(fs:List Sp):Prop where
 eq:bQ p r fs=R
 eqF:ig p r fs=FF
 len:fs.length=i
 ins:InS fs
 wf:vT p i r=true
variable {p : Pr} {s : Sm} {r : List Sm} {R : Except Int (List Sp)} {i : Nat} {FF : List Sp} {fs : List Sp}
theorem Jp(h1:bQ p p.stmts []=R)(h2:ig p p.stmts []=FF)(hw:vT p 0 p.stmts=true):StI p R FF 0 p.stmts []:=⟨h1,h2,rfl,λs hs=>by simp at hs,hw⟩
theorem Gy(h:StI p R FF i (s::r) fs):wfX p fs.length s.x=true:=by rw[h.len];exact V4 h.wf
theorem mr{f:Sp}(hR:Rng p)(h:StI p R FF i (s::r) fs)(q:dF p fs s.x = .ok f)(hw:within p s f=true):StI p R FF (i+1) r (fs++[f]):=by
 obtain⟨h1,h2⟩:=ZL (r:=r) q hw
 exact⟨by rw[<-h1];exact h.eq,by rw[<-h2];exact h.eqF,by rw[List.length_append,h.len];rfl,Gx h.ins (vS hR h.ins _ _ (Gy h) q),qC h.wf⟩
theorem V6(h:StI p R FF i [] fs):R = .ok fs/\FF=fs:=⟨h.eq.symm,h.eqF.symm⟩
theorem Gz{e:Int}(h:StI p R FF i (s::r) fs)(q:dF p fs s.x = .error e):R = .error e/\FF=fs:=by
 obtain⟨h1,h2⟩:=ZM (r:=r) q
 exact⟨h.eq.symm.trans h1,h.eqF.symm.trans h2⟩
theorem iL{f:Sp}(h:StI p R FF i (s::r) fs)(q:dF p fs s.x = .ok f)(hw:within p s f=false):R = .error 161/\FF=fs:=by
 obtain⟨h1,h2⟩:=ZN (r:=r) q hw
 exact⟨h.eq.symm.trans h1,h.eqF.symm.trans h2⟩
theorem Jq{F:List Sp}{e:Int}(h:(Except.ok F:Except Int (List Sp)) = .error e):False:=by cases h
theorem V7{a b:Int}(h:(Except.error a:Except Int (List Sp)) = .error b):a=b:=by cases h;rfl
def lenE{α:Type}(f:α×α->Bool)(l m:List α):Bool:=!((l.length:Int) != (m.length:Int))&&(l.zip m).all f
def z8i(v:Int×Int):Bool:=!(v.1 != v.2)
def intsE(l m:List Int):Bool:=lenE z8i l m
def exE(q:Ex×Ex):Bool:=iK q.1 q.2
def zd6(l m:List Ex):Bool:=lenE exE l m
def tbE(q:Tb×Tb):Bool:=q.1.name==q.2.name&&intsE q.1.values q.2.values
def smE(q:Sm×Sm):Bool:=((q.1.kind==q.2.kind&&q.1.name==q.2.name)&&q.1.index==q.2.index)&&iK q.1.x q.2.x
def V8(a b:Pr):Bool:=(a.name==b.name&&a.latency==b.latency)&&a.tail==b.tail
def sJ(a b:Pr):Bool:=((((V8 a b&&kM a.params b.params)&&kM a.states b.states)&&lenE Bl a.lines b.lines)&&lenE tbE a.tables b.tables)&&lenE smE a.stmts b.stmts
theorem GG(a b:Ex):(a.kind==b.kind&&a.name==b.name&&a.index==b.index&&a.n==b.n&&zd6 a.l b.l)=iK a b:=by
 rw[MO,zd6,lenE]
 by_cases hl:a.l.length=b.l.length
 ·rw[Bj hl]
  have e:((a.l.length:Int) != (b.l.length:Int))=false:=by simp[hl]
  rw[e]
  by_cases h1:a.kind=b.kind<;>by_cases h2:a.name=b.name<;>by_cases h3:a.index=b.index<;>by_cases h4:a.n=b.n<;>simp[h2]<;>rfl
 grind
theorem ZO(l m:List Bd):kM l m=lenE EC l m:=rfl
theorem V9{α:Type}{f:α×α->Bool}(h:∀x y,f (x,y)=true↔x=y):∀l m:List α,l.length=m.length->((l.zip m).all f=true↔l=m)
 | [],[],_=>by simp
 |x::r,y::s,hl=>by
  have:=V9 h r s (by simpa using hl)
  simp_all
 | [],_::_,hl=>by simp at hl
 |_::_,[],hl=>by simp at hl
theorem lenE_iff{α:Type}{f:α×α->Bool}(h:∀x y,f (x,y)=true↔x=y)(l m:List α):lenE f l m=true↔l=m:=by
 unfold lenE
 by_cases hl:l.length=m.length
 ·grind[V9]
 grind
theorem intE_iff(x y:Int):z8i (x,y)=true↔x=y:=by simp[z8i]
theorem z8j(x y:Bd):EC (x,y)=true↔x=y:=by
 obtain⟨a,b,c⟩:=x
 obtain⟨d,e,f⟩:=y
 simp[EC,Go.Fw.sameL,Go.Fw.sameS]
theorem z8k(x y:Ln):Bl (x,y)=true↔x=y:=by
 obtain⟨a,b,c,d⟩:=x
 obtain⟨e,f,g,h⟩:=y
 simp[Bl,Go.Fw.sameL,Go.Fw.sameS]
theorem z8l(x y:Tb):tbE (x,y)=true↔x=y:=by
 obtain⟨a,b⟩:=x
 obtain⟨c,d⟩:=y
 simp[tbE,intsE,lenE_iff intE_iff]
theorem z8m:∀x y:Ex,iK x y=true↔x=y:=by
 refine Ex.ind λx ih y=>?_
 obtain⟨k,n,i,m,l⟩:=x
 obtain⟨k',n',i',m',l'⟩:=y
 have ih:∀z∈l,∀y,iK z y=true↔z=y:=ih
 have key:∀l l':List Ex,l.length=l'.length->(∀z∈l,∀y,iK z y=true↔z=y)->((l.zip l').all (λq=>iK q.1 q.2)=true↔l=l'):=by
  intro l
  induction l with
  |nil=>intro l' hl _;cases l' with
   |nil=>simp
   |cons _ _=>simp at hl
  |cons x r ir=>
   intro l' hl hz
   cases l' with
   |nil=>simp at hl
   |cons y s=>
    simp_all
 show(if(k != k' || n != n' || i != i' || m != m' || (l.length:Int) != (l'.length:Int))=true then false else Ref15.sameL l l')=true↔_
 by_cases hl:l.length=l'.length
 ·grind[Bj]
 grind
theorem z8n(x y:Sm):smE (x,y)=true↔x=y:=by
 obtain⟨a,b,c,d⟩:=x
 obtain⟨e,f,g,h⟩:=y
 simp[smE,z8m,and_assoc]
theorem iW(a b:Pr):sJ a b=true↔a=b:=by
 obtain⟨a1,a2,a3,a4,a5,a6,a7,a8⟩:=a
 obtain⟨b1,b2,b3,b4,b5,b6,b7,b8⟩:=b
 simp[sJ,V8,ZO,lenE_iff z8j,lenE_iff z8k,lenE_iff z8l,lenE_iff z8n,Pr.mk.injEq,and_assoc]
end Go.Fw.Rg
