/- The functions of package ranges and of its reference, as plain functions. -/
import Derived.KernelRfl
import Derived.Test.YtogfjinopifenaaGreatDoorZDB
set_option linter.unusedSectionVars false
set_option linter.unusedSimpArgs false
set_option linter.unusedVariables false
namespace Go.Fw.Rg
open Go.Fw Go.Fw.Ref15
variable [GlobInt]
abbrev Sp:=Int×Int
abbrev Sp.cs(s:Sp):List D:=[.i s.1,.i s.2]
abbrev Sp.d(s:Sp):D:=.agg [.i s.1,.i s.2]
def inW(n:Int):Bool:=decide (-4611686018427387904<=n)&&decide (n<=4611686018427387904)
def okW(n:Int):Except Int Int:=if inW n then .ok n else .error 160
def clipM(x:Int):Int:=if x < -2147483648 then -2147483648 else if x>2147483647 then 2147483647 else x
def floorM(a n:Int):Int:=a / n
def absM(a:Sp):Sp:=if a.1>=0 then a else if a.2<=0 then(-a.2,-a.1)else(0,mm2 true (-a.1) a.2)
def min4(a b c d:Int):Int:=mm2 false (mm2 false (mm2 false a b) c) d
def max4(a b c d:Int):Int:=mm2 true (mm2 true (mm2 true a b) c) d
def two(lo hi:Int):Except Int Sp:=if inW lo&&inW hi then .ok (lo,hi)else .error 160
def prodM(a b:Sp):Except Int Sp:=
 if inW (a.1 * b.1)&&inW (a.1 * b.2)&&inW (a.2 * b.1)&&inW (a.2 * b.2)then .ok (min4 (a.1 * b.1) (a.1 * b.2) (a.2 * b.1) (a.2 * b.2),max4 (a.1 * b.1) (a.1 * b.2) (a.2 * b.1) (a.2 * b.2))else .error 160
def aheadM(s:Sp):Except Int Sp:=if(decide (s.1<0) || decide (s.2>4096))=true then .error 161 else .ok (-2147483648,2147483647)
def minL:Int->List Int->Int
 |m,[]=>m
 |m,v::r=>minL (mm2 false m v) r
def maxL:Int->List Int->Int
 |m,[]=>m
 |m,v::r=>maxL (mm2 true m v) r
abbrev Bd.none:Bd:=⟨[],0,0⟩
abbrev Ln.none:Ln:=⟨[],0,0,0⟩
abbrev Tb.none:Tb:=⟨[],[]⟩
abbrev Sm.none:Sm:=⟨0,[],0,Ex.none⟩
abbrev paramAt(p:Pr)(i:Int):Bd:=p.params.getD i.toNat Bd.none
abbrev stateAt(p:Pr)(i:Int):Bd:=p.states.getD i.toNat Bd.none
abbrev lineAt(p:Pr)(i:Int):Ln:=p.lines.getD i.toNat Ln.none
abbrev tableAt(p:Pr)(i:Int):List Int:=(p.tables.getD i.toNat Tb.none).values
def opM(p:Pr)(found:List Sp)(k i m:Int)(l:List Sp):Except Int Sp:=
 if k==1 then .ok (m,m)
 else if k==3 then .ok ((paramAt p i).lo,(paramAt p i).hi)
 else if k==4 then .ok ((stateAt p i).lo,(stateAt p i).hi)
 else if k==5 then .ok (found.getD i.toNat (0,0))
 else if k==6 || k==7 then aheadM (l.getD 0 (0,0))
 else if k==8 then .ok (mm2 false (lineAt p i).lo 0,mm2 true (lineAt p i).hi 0)
 else if k==9 then .ok (minL ((tableAt p i).getD 0 0) (tableAt p i),maxL ((tableAt p i).getD 0 0) (tableAt p i))
 else if k==10 then .ok (clipM (l.getD 0 (0,0)).1,clipM (l.getD 0 (0,0)).2)
 else if k==11 then .ok (mm2 false (l.getD 0 (0,0)).1 (l.getD 1 (0,0)).1,mm2 false (l.getD 0 (0,0)).2 (l.getD 1 (0,0)).2)
 else if k==12 then .ok (mm2 true (l.getD 0 (0,0)).1 (l.getD 1 (0,0)).1,mm2 true (l.getD 0 (0,0)).2 (l.getD 1 (0,0)).2)
 else if k==13 then .ok (absM (l.getD 0 (0,0)))
 else if k==14 then .ok (-(l.getD 0 (0,0)).2,-(l.getD 0 (0,0)).1)
 else if k==15 then two ((l.getD 0 (0,0)).1+(l.getD 1 (0,0)).1) ((l.getD 0 (0,0)).2+(l.getD 1 (0,0)).2)
 else if k==16 then two ((l.getD 0 (0,0)).1 + -(l.getD 1 (0,0)).2) ((l.getD 0 (0,0)).2 + -(l.getD 1 (0,0)).1)
 else if k==17 then prodM (l.getD 0 (0,0)) (l.getD 1 (0,0))
 else if k==18 then .ok (floorM (l.getD 0 (0,0)).1 m,floorM (l.getD 0 (0,0)).2 m)
 else .ok (mm2 false (l.getD 2 (0,0)).1 (l.getD 3 (0,0)).1,mm2 true (l.getD 2 (0,0)).2 (l.getD 3 (0,0)).2)
mutual
def findM(p:Pr)(found:List Sp):Ex->Except Int Sp
 | .mk k _ i m l=>match findL p found l with
  | .error e=>.error e
  | .ok s=>opM p found k i m s
def findL(p:Pr)(found:List Sp):List Ex->Except Int (List Sp)
 | []=>.ok []
 |x::r=>match findM p found x with
  | .error e=>.error e
  | .ok s=>match findL p found r with
   | .error e=>.error e
   | .ok t=>.ok (s::t)
end
theorem findM_eq(p:Pr)(found:List Sp)(x:Ex):findM p found x=match findL p found x.l with | .error e=>.error e | .ok s=>opM p found x.kind x.index x.n s:=by cases x;rfl
def pre(a:List Sp):Except Int (List Sp)->Except Int (List Sp)
 | .error e=>.error e
 | .ok t=>.ok (a++t)
theorem pre_nil(r:Except Int (List Sp)):pre [] r=r:=by cases r<;>rfl
theorem pre_ok{p:Pr}{found a:List Sp}{x:Ex}{r:List Ex}{s:Sp}(h:findM p found x = .ok s):pre a (findL p found (x::r))=pre (a++[s]) (findL p found r):=by
 grind[findL,pre]
theorem pre_bad{p:Pr}{found a:List Sp}{x:Ex}{r:List Ex}{e:Int}(h:findM p found x = .error e):pre a (findL p found (x::r)) = .error e:=by
 rw[findL,h];rfl
def ownW(p:Pr)(n:Nat)(k i m:Int):Bool:=
 if k==1 then decide (0<=m)&&decide (m<=2147483648)
 else if k==3 then decide (0<=i)&&decide (i<p.params.length)
 else if k==4 then decide (0<=i)&&decide (i<p.states.length)
 else if k==5 then decide (0<=i)&&decide (i<n)
 else if k==8 then decide (0<=i)&&decide (i<p.lines.length)
 else if k==9 then decide (0<=i)&&decide (i<p.tables.length) && !(tableAt p i==[])
 else if k==18 then decide (1<=m)&&decide (m<=2147483648)
 else k==6 || k==7 || k==10 || k==11 || k==12 || k==13 || k==14 || k==15 || k==16 || k==17 || k==19
mutual
def wfX(p:Pr)(n:Nat):Ex->Bool
 | .mk k _ i m l=>((l.length:Int)==Ref15.parts k&&ownW p n k i m)&&wfL p n l
def wfL(p:Pr)(n:Nat):List Ex->Bool
 | []=>true
 |x::r=>wfX p n x&&wfL p n r
end
theorem wfX_eq(p:Pr)(n:Nat)(x:Ex):wfX p n x=(((x.l.length:Int)==Ref15.parts x.kind&&ownW p n x.kind x.index x.n)&&wfL p n x.l):=by cases x;rfl
theorem wfL_mem{p:Pr}{n:Nat}:∀{l:List Ex},wfL p n l=true->∀y∈l,wfX p n y=true
 |x::r,h,y,hy=>by
  simp[wfL]at h
  rcases List.mem_cons.1 hy with rfl |hy
  ·exact h.1
  ·exact wfL_mem h.2 y hy
theorem findL_len{p:Pr}{found:List Sp}:∀{l:List Ex} {s:List Sp},findL p found l = .ok s->s.length=l.length
 | [],s,h=>by grind[findL]
 |x::r,s,h=>by
  simp[findL]at h
  cases hx:findM p found x with
  |error e=>simp_all
  |ok t=>
   rw[hx]at h
   cases hr:findL p found r with
   |error e=>simp_all
   |ok u=>
    rw[hr]at h
    cases h
    simp[findL_len hr]
def InS(l:List Sp):Prop:=∀s∈l,inW s.1=true/\inW s.2=true
structure Rng(p:Pr):Prop where
 par:∀b∈p.params,-2147483648<=b.lo/\b.lo<=b.hi/\b.hi<=2147483647
 sta:∀b∈p.states,-2147483648<=b.lo/\b.lo<=b.hi/\b.hi<=2147483647
 lin:∀b∈p.lines,-2147483648<=b.lo/\b.lo<=b.hi/\b.hi<=2147483647
 tab:∀t∈p.tables,∀v∈t.values,-2147483648<=v/\v<=2147483647
theorem inW_iff{n:Int}:inW n=true ↔ -4611686018427387904<=n/\n<=4611686018427387904:=by simp[inW]
def boundsM(p:Pr)(s:Sm):Sp:=if s.kind==2 then((stateAt p s.index).lo,(stateAt p s.index).hi)else if s.kind==3 then((lineAt p s.index).lo,(lineAt p s.index).hi)else if s.kind==4 then(-2147483648,2147483647)else(-4611686018427387904,4611686018427387904)
def within(p:Pr)(s:Sm)(f:Sp):Bool:=decide (f.1>=(boundsM p s).1)&&decide (f.2<=(boundsM p s).2)
def stmtsM(p:Pr):List Sm->List Sp->Except Int (List Sp)
 | [],found=>.ok found
 |s::r,found=>match findM p found s.x with
  | .error e=>.error e
  | .ok f=>if within p s f then stmtsM p r (found++[f])else .error 161
end Go.Fw.Rg
namespace Go.Fw.Rg
open Go.Fw Go.Fw.Ref15
variable [GlobInt] {a b : Int}
def addC(a b:Int):Bool:=bif (bif (bif decide (a>0)then decide (b>0)else false)then decide (a>IntKind.i64.wrap (4611686018427387904-b))else false)then true else(bif (bif decide (a<0)then decide (b<0)else false)then decide (a<IntKind.i64.wrap (-4611686018427387904-b))else false)
theorem bif_and(p q:Bool):(bif p then q else false)=(p&&q):=by cases p<;>rfl
theorem bif_or(p q:Bool):(bif p then true else q)=(p || q):=by cases p<;>rfl
theorem addC_eq(ha:inW a=true)(hb:inW b=true):addC a b = !inW (a+b):=by
 have ha:=inW_iff.1 ha
 have hb:=inW_iff.1 hb
 have key:∀x y:Int,(0<b->x=4611686018427387904-b)->(b<0->y = -4611686018427387904-b) ->
   (bif (bif (bif decide (a>0)then decide (b>0)else false)then decide (a>x)else false)then true else(bif (bif decide (a<0)then decide (b<0)else false)then decide (a<y)else false)) = !inW (a+b):=by
  intro x y hx hy
  rw[Bool.eq_iff_iff]
  simp[inW]
  omega
 exact key _ _ (λh=>wrap_ok (by omega) (by omega)) (λh=>wrap_ok (by omega) (by omega))
theorem inW_wrap{n:Int}(h:inW n=true):IntKind.i64.wrap n=n:=by
 grind[inW_iff,wrap_ok]
theorem neg_wrap{n:Int}(h:inW n=true):IntKind.i64.wrap (0-n) = -n:=by
 grind[inW_iff,wrap_ok]
theorem neg_in{n:Int}(h:inW n=true):inW (-n)=true:=by
 grind[inW_iff]
def wideE(n:Int)(f:Bool):Bool:=bif (bif !f then true else decide (n>4611686018427387904))then true else decide (n < -4611686018427387904)
def mulZ(a b:Int):Bool:=bif a==0 then true else b==0
def mulF(a b:Int):Bool:=bif (IntKind.i64.wrap ((IntKind.i64.wrap (a * b)).tdiv b)==a)then decide (mm2 true a (IntKind.i64.wrap (0-a))<=IntKind.i64.wrap ((4611686018427387904:Int).tdiv (mm2 true b (IntKind.i64.wrap (0-b)))))else false
theorem mm2_abs(a:Int):mm2 true a (-a)=(a.natAbs:Int):=by
 grind[mm2]
theorem wrap_nat2{n:Nat}(h:n<=4611686018427387904):IntKind.i64.wrap (n:Int)=(n:Int):=wrap_ok (by omega) (by omega)
theorem mulF_eq(ha:inW a=true)(hb:inW b=true)(h0:b≠0):mulF a b=inW (a * b):=by
 have hv:0<b.natAbs:=Int.natAbs_pos.2 h0
 have hq:((4611686018427387904:Int).tdiv (b.natAbs:Int))=((4611686018427387904 / b.natAbs:Nat):Int):=by
  rfl
 have hle:4611686018427387904 / b.natAbs<=4611686018427387904:=Nat.div_le_self _ _
 have hex:(mm2 true a (IntKind.i64.wrap (0-a))<=IntKind.i64.wrap ((4611686018427387904:Int).tdiv (mm2 true b (IntKind.i64.wrap (0-b)))))↔inW (a * b)=true:=by
  rw[neg_wrap ha,neg_wrap hb,mm2_abs,mm2_abs,hq,wrap_nat2 hle,Int.ofNat_le,Nat.le_div_iff_mul_le hv,inW_iff,<-Int.natAbs_mul]
  omega
 unfold mulF
 cases hw:inW (a * b)with
 |true=>
  grind[inW_wrap,Int.mul_tdiv_cancel]
 |false=>
  simp_all
theorem wide_mul(ha:inW a=true)(hb:inW b=true)(h0:b≠0):wideE (IntKind.i64.wrap (a * b)) (mulF a b) = !inW (a * b):=by
 rw[mulF_eq ha hb h0]
 grind[inW,inW_wrap,wideE]
theorem mulZ_in(h:mulZ a b=true):a * b=0:=by
 simp[mulZ]at h
 grind
theorem mulZ_no(h:mulZ a b=false):b≠0:=by
 grind[mulZ]
theorem div_le{a n:Int}(hn:1<=n)(h:inW a=true):inW (a / n)=true:=by
 have h:=inW_iff.1 h
 refine inW_iff.2 ⟨?_,?_⟩
 ·rw[Int.le_ediv_iff_mul_le (by omega)]
  omega
 ·have:a / n<=4611686018427387904 / n:=Int.ediv_le_ediv (by omega) h.2
  have h2:(4611686018427387904:Int) / n<=4611686018427387904:=Int.ediv_le_self _ (by omega)
  omega
theorem down_neg{a n:Int}(hn:1<=n)(hn2:n<=2147483648)(h:inW a=true)(h0:a<0):IntKind.i64.wrap (0-IntKind.i64.wrap ((IntKind.i64.wrap (IntKind.i64.wrap (IntKind.i64.wrap (0-a)+n)-1)).tdiv n))=floorM a n:=by
 have hw:=inW_iff.1 h
 rw[neg_wrap h,wrap_ok (n:=-a+n) (by omega) (by omega),wrap_ok (n:=-a+n-1) (by omega) (by omega),Int.tdiv_eq_ediv_of_nonneg (by omega)]
 have e:(-a+n-1) / n = -(a / n):=by
  have h1:=Int.mul_ediv_add_emod a n
  have h2:=Int.emod_nonneg a (show n≠0 by omega)
  have h3:=Int.emod_lt_of_pos a (show 0<n by omega)
  have h4:-a+n-1=(n-1-a % n)+n * (-(a / n)):=by
   grind
  rw[h4,Int.add_mul_ediv_left _ _ (by omega),Int.ediv_eq_zero_of_lt (by omega) (by omega),Int.zero_add]
 have hd:=div_le hn h
 rw[e,inW_wrap (neg_in hd),neg_wrap (neg_in hd),Int.neg_neg];rfl
theorem down_pos{a n:Int}(hn:1<=n)(h:inW a=true)(h0:¬a<0):IntKind.i64.wrap (a.tdiv n)=floorM a n:=by
 have hd:=div_le hn h
 rw[Int.tdiv_eq_ediv_of_nonneg (by omega),inW_wrap hd];rfl
theorem floor_ref{a n:Int}(hn:1<=n)(h:inW a=true):IntKind.i64.wrap (a.tdiv n)=if a.tmod n<0 then floorM a n+1 else floorM a n:=by
 have hd:=inW_iff.1 (div_le hn h)
 have h2:=Int.emod_nonneg a (show n≠0 by omega)
 have h3:=Int.emod_lt_of_pos a (show 0<n by omega)
 rw[Int.tdiv_eq_ediv,Int.tmod_eq_emod]
 by_cases hc:0<=a\/n ∣ a
 ·rw[if_pos hc,if_pos hc,Int.add_zero,wrap_ok (by omega) (by omega),if_neg (by omega)];rfl
 ·rw[if_neg hc,if_neg hc,Int.sign_eq_one_of_pos (by omega),if_pos (by omega),wrap_ok (by omega) (by omega)];rfl
theorem clip_ref(x:Int):mm2 true (-2147483648) (mm2 false x 2147483647)=clipM x:=by
 grind[mm2,clipM]
end Go.Fw.Rg
namespace Go.Fw
theorem rest_stepL[GlobInt](T:Tbl)(A:FuncId->List D->DOut->Prop)(B:FuncId->List AV->Heap->AOut->Heap->Prop){kp:Nat}{Q:List Rec->Prop}{l:List Oper}{ms:List Nat}{tr:List Rec}{env:Env}{K:Heap}(bs:List Bool)(_:l.length=bs.length)(h:(ms.map λm=>m.testBit kp)=bs)(h2:vRest2 T A B Q l bs tr env K):RestI (vRest T A B kp Q l ms tr env K):=
 rest_step T A B bs h h2
end Go.Fw
namespace Go.Fw.Rg
open Go.Fw Go.Fw.Ref15
variable [GlobInt] {r : Except Int Sp} {t : TypeId}
theorem idx_int{α:Type}{f:α->List D}(d:α){k:Bool}{a b:Nat}{l:List α}{n:Int}{q:List D->Prop}(h1:k=true)(h2:a=b)(h3:0<=n)(h4:n<l.length)(h:q (f (l.getD n.toNat d))) :
  (k=true/\a=b)/\∃c,(0<=n/\(l.map f)[n.toNat]? = some c)/\q c:=by
 simp_all
theorem idx_lit{k:Bool}{a b:Nat}{n:Int}{es:List (List D)}{q:List D->Prop}(h1:k=true)(h2:a=b)(h3:decide (0<=n/\n.toNat<es.length)=true)(h:q (es.getD n.toNat [])):(k=true/\a=b)/\∃c,(0<=n/\es[n.toNat]? = some c)/\q c:=by
 simp_all
def outR(t:TypeId):Except Int Sp->DOut
 | .ok s=>.ret s.d
 | .error e=>.pan (.iface t (.i e))
def outI(t:TypeId):Except Int Int->DOut
 | .ok n=>.ret (.i n)
 | .error e=>.pan (.iface t (.i e))
theorem exc_step{A M:DOut->Prop}{V:Prop}(hA:A (outR t r))(h1:∀s,r = .ok s->M (.ret (.agg [.i s.1,.i s.2])))(h2:∀e,r = .error e->M (.pan (.iface t (.i e)))):(∃out,A out/\M out)\/V:=by
 refine .inl ⟨_,hA,?_⟩
 cases r with
 |ok s=>exact h1 s rfl
 |error e=>exact h2 e rfl
theorem exc_stepI{A M:DOut->Prop}{V:Prop}{r:Except Int Int}(hA:A (outI t r))(h1:∀n,r = .ok n->M (.ret (.i n)))(h2:∀e,r = .error e->M (.pan (.iface t (.i e)))):(∃out,A out/\M out)\/V:=by
 refine .inl ⟨_,hA,?_⟩
 cases r with
 |ok s=>exact h1 s rfl
 |error e=>exact h2 e rfl
theorem ret_exc{T:Tbl}{rs:List ResultVar}{K0 K K1:Heap}{env:Env}{q:Prop}(s:Sp)(hs:r = .ok s)(h:finR T rs K0 (.ret (.data (.agg [.i s.1,.i s.2]))) K1 env K):finR T rs K0 (outR t r).toA K1 env K\/q:=by
 subst hs;exact .inl h
theorem pan_exc{K0 K K1:Heap}{x:AV}(e:Int)(hs:r = .error e)(h:fin K0 K x (.data (.iface t (.i e))) K1):panR K0 K x K1 (outR t r).toA:=by
 subst hs;unfold panR;exact h
theorem okW_ok{a n:Int}(h:okW a = .ok n):n=a/\inW a=true:=by
 unfold okW at h
 grind
theorem okW_bad{a e:Int}(h:okW a = .error e):e=160/\inW a=false:=by
 unfold okW at h
 grind
theorem two_ok{a b x y:Int}(h1:okW a = .ok x)(h2:okW b = .ok y):two a b = .ok (x,y):=by
 obtain⟨rfl,g1⟩:=okW_ok h1
 obtain⟨rfl,g2⟩:=okW_ok h2
 grind[two]
theorem two_b1{a b e:Int}(h1:okW a = .error e):two a b = .error e:=by
 obtain⟨rfl,g1⟩:=okW_bad h1
 rw[two,g1];rfl
theorem two_b2{a b e:Int}(h2:okW b = .error e):two a b = .error e:=by
 obtain⟨rfl,g2⟩:=okW_bad h2
 rw[two,g2,Bool.and_false];rfl
theorem prod_ok{a b:Sp}{x y z w:Int}(h1:okW (a.1 * b.1) = .ok x)(h2:okW (a.1 * b.2) = .ok y)(h3:okW (a.2 * b.1) = .ok z)(h4:okW (a.2 * b.2) = .ok w):prodM a b = .ok (min4 x y z w,max4 x y z w):=by
 obtain⟨rfl,g1⟩:=okW_ok h1
 obtain⟨rfl,g2⟩:=okW_ok h2
 obtain⟨rfl,g3⟩:=okW_ok h3
 obtain⟨rfl,g4⟩:=okW_ok h4
 grind[prodM]
theorem prod_bad{a b:Sp}{e:Int}(h:okW (a.1 * b.1) = .error e\/okW (a.1 * b.2) = .error e\/okW (a.2 * b.1) = .error e\/okW (a.2 * b.2) = .error e):prodM a b = .error e:=by
 rcases h with h |h |h |h<;>obtain⟨rfl,g⟩:=okW_bad h<;>rw[prodM,g]<;>simp
variable [GlobInt] {p : Pr} {found sl : List Sp} {l : List Ex}
theorem kinds{k:Int}{n:Nat}{i m:Int}(h:ownW p n k i m=true):k=1\/k=3\/k=4\/k=5\/k=6\/k=7\/k=8\/k=9\/k=10\/k=11\/k=12\/k=13\/k=14\/k=15\/k=16\/k=17\/k=18\/k=19:=by
 have key:¬(k=1\/k=3\/k=4\/k=5\/k=6\/k=7\/k=8\/k=9\/k=10\/k=11\/k=12\/k=13\/k=14\/k=15\/k=16\/k=17\/k=18\/k=19)->False:=by
  grind[ownW]
 grind
theorem getD_in{l:List Sp}(h:InS l)(n:Nat):inW (l.getD n (0,0)).1=true/\inW (l.getD n (0,0)).2=true:=by
 rw[List.getD_eq_getElem?_getD]
 cases hn:l[n]? with
 |none=>exact⟨by decide,by decide⟩
 |some s=>exact h s (List.mem_of_getElem? hn)
theorem getD_mem'{α:Type}{l:List α}{n:Int}(d:α)(h0:0<=n)(h1:n<l.length):l.getD n.toNat d∈l:=by
 simp_all
theorem mm2_in{b:Bool}{x y:Int}(hx:inW x=true)(hy:inW y=true):inW (mm2 b x y)=true:=by
 cases b<;>simp[mm2]<;>split<;>assumption
theorem small_in{x:Int}(h1:-2147483648<=x)(h2:x<=2147483648):inW x=true:=inW_iff.2 (by omega)
theorem clip_in(x:Int):-2147483648<=clipM x/\clipM x<=2147483647:=by
 grind[clipM]
theorem minL_le:∀(l:List Int) (m:Int),minL m l<=m/\(∀v∈l,minL m l<=v)/\(minL m l=m\/minL m l∈l)
 | [],m=>⟨Int.le_refl _,by simp,.inl rfl⟩
 |v::r,m=>by
  obtain⟨h1,h2,h3⟩:=minL_le r (mm2 false m v)
  have e:minL m (v::r)=minL (mm2 false m v) r:=rfl
  have hm:mm2 false m v<=m/\mm2 false m v<=v/\(mm2 false m v=m\/mm2 false m v=v):=by grind[mm2]
  grind
theorem maxL_le:∀(l:List Int) (m:Int),m<=maxL m l/\(∀v∈l,v<=maxL m l)/\(maxL m l=m\/maxL m l∈l)
 | [],m=>⟨Int.le_refl _,by simp,.inl rfl⟩
 |v::r,m=>by
  obtain⟨h1,h2,h3⟩:=maxL_le r (mm2 true m v)
  have e:maxL m (v::r)=maxL (mm2 true m v) r:=rfl
  have hm:m<=mm2 true m v/\v<=mm2 true m v/\(mm2 true m v=m\/mm2 true m v=v):=by grind[mm2]
  grind
theorem ahead_res{a s:Sp}(h:aheadM a = .ok s):s=(-2147483648,2147483647):=by
 grind[aheadM]
theorem two_res{a b:Int}{s:Sp}(h:two a b = .ok s):s=(a,b)/\inW a=true/\inW b=true:=by
 unfold two at h
 grind
theorem prod_res{a b s:Sp}(h:prodM a b = .ok s):s=(min4 (a.1 * b.1) (a.1 * b.2) (a.2 * b.1) (a.2 * b.2),max4 (a.1 * b.1) (a.1 * b.2) (a.2 * b.1) (a.2 * b.2))/\inW (a.1 * b.1)=true/\inW (a.1 * b.2)=true/\inW (a.2 * b.1)=true/\inW (a.2 * b.2)=true:=by
 unfold prodM at h
 grind
theorem in2{x y:Int}(h1:inW x=true)(h2:inW y=true):inW ((x,y):Sp).1=true/\inW ((x,y):Sp).2=true:=⟨h1,h2⟩
theorem opM_in{found l:List Sp}{k i m:Int}{s:Sp}(hR:Rng p)(hF:InS found)(hs:InS l)(hw:ownW p found.length k i m=true)(h:opM p found k i m l = .ok s):inW s.1=true/\inW s.2=true:=by
 have g:=getD_in hs
 rcases kinds hw with rfl |rfl |rfl |rfl |rfl |rfl |rfl |rfl |rfl |rfl |rfl |rfl |rfl |rfl |rfl |rfl |rfl |rfl
 ·have hw:(decide (0<=m)&&decide (m<=2147483648))=true:=hw
  simp at hw
  have h:Except.ok (m,m)=Except.ok s:=h
  grind[in2,small_in]
 ·have hw:(decide (0<=i)&&decide (i<p.params.length))=true:=hw
  simp at hw
  cases h
  have:-2147483648<=(paramAt p i).lo/\(paramAt p i).lo<=(paramAt p i).hi/\(paramAt p i).hi<=2147483647:=hR.par _ (getD_mem' Bd.none hw.1 hw.2)
  grind[in2,small_in]
 ·have hw:(decide (0<=i)&&decide (i<p.states.length))=true:=hw
  simp only[Bool.and_eq_true,decide_eq_true_eq]at hw
  cases h
  have:-2147483648<=(stateAt p i).lo/\(stateAt p i).lo<=(stateAt p i).hi/\(stateAt p i).hi<=2147483647:=hR.sta _ (getD_mem' Bd.none hw.1 hw.2)
  grind[in2,small_in]
 ·have h:Except.ok (found.getD i.toNat (0,0))=Except.ok s:=h
  grind[getD_in]
 ·obtain rfl:=ahead_res (show aheadM (l.getD 0 (0,0)) = .ok s from h)
  exact in2 (by decide) (by decide)
 ·obtain rfl:=ahead_res (show aheadM (l.getD 0 (0,0)) = .ok s from h)
  exact in2 (by decide) (by decide)
 ·have hw:(decide (0<=i)&&decide (i<p.lines.length))=true:=hw
  simp at hw
  cases h
  have:-2147483648<=(lineAt p i).lo/\(lineAt p i).lo<=(lineAt p i).hi/\(lineAt p i).hi<=2147483647:=hR.lin _ (getD_mem' Ln.none hw.1 hw.2)
  grind[in2,mm2_in,small_in]
 ·have hw:(decide (0<=i)&&decide (i<p.tables.length) && !(tableAt p i==[]))=true:=hw
  simp at hw
  cases h
  have ht:=hR.tab _ (getD_mem' Tb.none hw.1.1 hw.1.2)
  have h1:=minL_le (tableAt p i) ((tableAt p i).getD 0 0)
  have h2:=maxL_le (tableAt p i) ((tableAt p i).getD 0 0)
  grind[inW,minL,small_in,maxL]
 ·have h:Except.ok (clipM (l.getD 0 (0,0)).1,clipM (l.getD 0 (0,0)).2)=Except.ok s:=h
  grind[clip_in,in2,small_in]
 ·have h:Except.ok (mm2 false (l.getD 0 (0,0)).1 (l.getD 1 (0,0)).1,mm2 false (l.getD 0 (0,0)).2 (l.getD 1 (0,0)).2)=Except.ok s:=h
  grind[in2,mm2_in]
 ·have h:Except.ok (mm2 true (l.getD 0 (0,0)).1 (l.getD 1 (0,0)).1,mm2 true (l.getD 0 (0,0)).2 (l.getD 1 (0,0)).2)=Except.ok s:=h
  grind[in2,mm2_in]
 ·cases h
  unfold absM
  repeat' split
  ·exact g 0
  ·grind[in2,neg_in]
  ·exact in2 (by decide) (mm2_in (neg_in (g 0).1) (g 0).2)
 ·have h:Except.ok (-(l.getD 0 (0,0)).2,-(l.getD 0 (0,0)).1)=Except.ok s:=h
  grind[in2,neg_in]
 ·obtain⟨rfl,h1,h2⟩:=two_res (show two ((l.getD 0 (0,0)).1+(l.getD 1 (0,0)).1) ((l.getD 0 (0,0)).2+(l.getD 1 (0,0)).2) = .ok s from h)
  simp_all
 ·obtain⟨rfl,h1,h2⟩:=two_res (show two ((l.getD 0 (0,0)).1 + -(l.getD 1 (0,0)).2) ((l.getD 0 (0,0)).2 + -(l.getD 1 (0,0)).1) = .ok s from h)
  simp_all
 ·obtain⟨rfl,h1,h2,h3,h4⟩:=prod_res (show prodM (l.getD 0 (0,0)) (l.getD 1 (0,0)) = .ok s from h)
  exact in2 (mm2_in (mm2_in (mm2_in h1 h2) h3) h4) (mm2_in (mm2_in (mm2_in h1 h2) h3) h4)
 ·have hw:(decide (1<=m)&&decide (m<=2147483648))=true:=hw
  simp only[Bool.and_eq_true,decide_eq_true_eq]at hw
  cases h
  exact in2 (div_le hw.1 (g 0).1) (div_le hw.1 (g 0).2)
 ·have h:Except.ok (mm2 false (l.getD 2 (0,0)).1 (l.getD 3 (0,0)).1,mm2 true (l.getD 2 (0,0)).2 (l.getD 3 (0,0)).2)=Except.ok s:=h
  grind[in2,mm2_in]
theorem findL_in'{found:List Sp}:∀{l:List Ex} {t:List Sp},(∀x∈l,∀s:Sp,wfX p found.length x=true->findM p found x = .ok s->inW s.1=true/\inW s.2=true)->wfL p found.length l=true->findL p found l = .ok t->InS t
 | [],t,_,_,h=>by cases h;intro s hs;simp at hs
 |x::r,t,ih,hw,h=>by
  simp[wfL]at hw
  simp[findL]at h
  cases hx:findM p found x with
  |error e=>simp_all
  |ok s=>
   rw[hx]at h
   cases hr:findL p found r with
   |error e=>simp_all
   |ok u=>
    rw[hr]at h
    cases h
    intro y hy
    rcases List.mem_cons.1 hy with rfl |hy<;>try grind
    exact findL_in' (λx hx=>ih x (by simp[hx])) hw.2 hr y hy
theorem wfX_parts{n:Nat}{x:Ex}(h:wfX p n x=true):(x.l.length:Int)=Ref15.parts x.kind/\ownW p n x.kind x.index x.n=true/\wfL p n x.l=true:=by
 rw[wfX_eq]at h
 simp_all
theorem findM_in{found:List Sp}(hR:Rng p)(hF:InS found):∀(x:Ex) (s:Sp),wfX p found.length x=true->findM p found x = .ok s->inW s.1=true/\inW s.2=true:=by
 refine Ex.ind λx ih s hw h=>?_
 obtain⟨_,h2,h3⟩:=wfX_parts hw
 rw[findM_eq]at h
 cases hl:findL p found x.l with
 |error e=>simp_all
 |ok t=>
  rw[hl]at h
  exact opM_in hR hF (findL_in' ih h3 hl) h2 h
theorem findL_in{found:List Sp}(hR:Rng p)(hF:InS found){t:List Sp}(hw:wfL p found.length l=true)(h:findL p found l = .ok t):InS t:=
 findL_in' (λx _ s=>findM_in hR hF x s) hw h
theorem nodes_mem:∀{l:List Ex} {y:Ex},y∈l->Ref15.nodes y<=Ref15.nodesL l
 |x::r,y,h=>by
  simp[Ref15.nodesL]
  rcases List.mem_cons.1 h with rfl |h
  ·omega
  ·have:=nodes_mem h;omega
theorem find_end{x:Ex}(h:pre sl (findL p found [])=findL p found x.l):findM p found x=opM p found x.kind x.index x.n sl/\findL p found x.l = .ok sl:=by
 grind[findL,pre,findM_eq]
theorem find_bad{x y:Ex}{r:List Ex}{e:Int}(h:pre sl (findL p found (y::r))=findL p found x.l)(hy:findM p found y = .error e):findM p found x = .error e:=by
 rw[pre_bad hy]at h
 rw[findM_eq,<-h]
theorem find_next{x y:Ex}{r:List Ex}{s:Sp}(h:pre sl (findL p found (y::r))=findL p found x.l)(hy:findM p found y = .ok s):pre (sl++[s]) (findL p found r)=findL p found x.l:=by
 grind[pre_ok]
theorem len_1{sl:List Sp}(h:sl.length=1):∃a,sl = [a]:=by
 match sl,h with
 | [a],_=>simp
theorem len_2{sl:List Sp}(h:sl.length=2):∃a b,sl = [a,b]:=by
 match sl,h with
 | [a,b],_=>simp
theorem len_4{sl:List Sp}(h:sl.length=4):∃a b c d,sl = [a,b,c,d]:=by
 match sl,h with
 | [a,b,c,d],_=>simp
end Go.Fw.Rg
namespace Go.Fw.Rg
open Go.Fw Go.Fw.Ref15
variable [GlobInt]
def wfS(p:Pr)(i:Nat)(s:Sm):Bool:=wfX p i s.x&&((!(s.kind==2) || (decide (0<=s.index)&&decide (s.index<p.states.length)))&&(!(s.kind==3) || (decide (0<=s.index)&&decide (s.index<p.lines.length))))
def wfSL(p:Pr):Nat->List Sm->Bool
 |_,[]=>true
 |i,s::r=>wfS p i s&&wfSL p (i+1) r
theorem wfSL_next{p:Pr}{i:Nat}{s:Sm}{r:List Sm}(h:wfSL p i (s::r)=true):wfSL p (i+1) r=true:=by
 simp[wfSL]at h;exact h.2
theorem wfSL_x{p:Pr}{i:Nat}{s:Sm}{r:List Sm}(h:wfSL p i (s::r)=true):wfX p i s.x=true:=by
 simp[wfSL,wfS]at h;exact h.1.1
theorem wfSL_2{p:Pr}{i:Nat}{s:Sm}{r:List Sm}(h:wfSL p i (s::r)=true)(h2:(s.kind==2)=true):0<=s.index/\s.index<p.states.length:=by
 simp[wfSL,wfS,h2]at h;exact h.1.2.1
theorem wfSL_3{p:Pr}{i:Nat}{s:Sm}{r:List Sm}(h:wfSL p i (s::r)=true)(h2:(s.kind==3)=true):0<=s.index/\s.index<p.lines.length:=by
 simp[wfSL,wfS,h2]at h;exact h.1.2.2
theorem hull_eq(f B:Sp):sameL [.i (mm2 false f.1 B.1),.i (mm2 true f.2 B.2)] [.i B.1,.i B.2]=(decide (f.1>=B.1)&&decide (f.2<=B.2)):=by
 rw[Bool.eq_iff_iff]
 simp[sameL,sameS,mm2]
 omega
theorem hull_in{p:Pr}{s:Sm}{f B:Sp}{b:Bool}(hB:boundsM p s=B)(h:(!(sameL [.i (mm2 false f.1 B.1),.i (mm2 true f.2 B.2)] [.i B.1,.i B.2]))=b):within p s f = !b:=by
 rw[hull_eq]at h
 rw[within,hB,<-h,Bool.not_not]
theorem hull_no{p:Pr}{s:Sm}{f B:Sp}(hB:boundsM p s=B)(h:(!(sameL [.i (mm2 false f.1 B.1),.i (mm2 true f.2 B.2)] [.i B.1,.i B.2]))=true):within p s f=false:=hull_in hB h
theorem hull_yes{p:Pr}{s:Sm}{f B:Sp}(hB:boundsM p s=B)(h:(!(sameL [.i (mm2 false f.1 B.1),.i (mm2 true f.2 B.2)] [.i B.1,.i B.2]))=false):within p s f=true:=hull_in hB h
theorem bnd2{p:Pr}{s:Sm}(h:(s.kind==2)=true):boundsM p s=((stateAt p s.index).lo,(stateAt p s.index).hi):=by rw[boundsM,h];rfl
theorem bnd3{p:Pr}{s:Sm}(h:(s.kind==2)=false)(h3:(s.kind==3)=true):boundsM p s=((lineAt p s.index).lo,(lineAt p s.index).hi):=by grind[boundsM]
theorem bnd4{p:Pr}{s:Sm}(h:(s.kind==2)=false)(h3:(s.kind==3)=false)(h4:(s.kind==4)=true):boundsM p s=(-2147483648,2147483647):=by grind[boundsM]
theorem bnd0{p:Pr}{s:Sm}(h:(s.kind==2)=false)(h3:(s.kind==3)=false)(h4:(s.kind==4)=false):boundsM p s=(-4611686018427387904,4611686018427387904):=by grind[boundsM]
def stmtsF(p:Pr):List Sm->List Sp->List Sp
 | [],found=>found
 |s::r,found=>match findM p found s.x with
  | .error _=>found
  | .ok f=>if within p s f then stmtsF p r (found++[f])else found
theorem stm_next{p:Pr}{s:Sm}{r:List Sm}{F:List Sp}{f:Sp}(h:findM p F s.x = .ok f)(hw:within p s f=true):stmtsM p (s::r) F=stmtsM p r (F++[f])/\stmtsF p (s::r) F=stmtsF p r (F++[f]):=by
 constructor
 ·rw[stmtsM];simp_all
 ·rw[stmtsF];simp_all
theorem stm_bad1{p:Pr}{s:Sm}{r:List Sm}{F:List Sp}{e:Int}(h:findM p F s.x = .error e):stmtsM p (s::r) F = .error e/\stmtsF p (s::r) F=F:=by
 grind[stmtsM,stmtsF]
theorem stm_bad2{p:Pr}{s:Sm}{r:List Sm}{F:List Sp}{f:Sp}(h:findM p F s.x = .ok f)(hw:within p s f=false):stmtsM p (s::r) F = .error 161/\stmtsF p (s::r) F=F:=by
 grind[stmtsM,stmtsF]
theorem exc_stepR{A M:DOut->Prop}{t:TypeId}{r:Except Int Sp}(hA:A (outR t r))(h1:∀s,r = .ok s->M (.ret (.agg [.i s.1,.i s.2])))(h2:∀e,r = .error e->M (.pan (.iface t (.i e)))):∃out,A out/\M out:=by
 refine⟨_,hA,?_⟩
 cases r with
 |ok s=>exact h1 s rfl
 |error e=>exact h2 e rfl
theorem inS_snoc{l:List Sp}{s:Sp}(h:InS l)(hs:inW s.1=true/\inW s.2=true):InS (l++[s]):=by
 intro y hy
 rcases List.mem_append.1 hy with hy |hy
 ·exact h y hy
 simp_all
structure StI(p:Pr)(R:Except Int (List Sp))(FF:List Sp)(i:Nat)(r:List Sm)(fs:List Sp):Prop where
 eq:stmtsM p r fs=R
 eqF:stmtsF p r fs=FF
 len:fs.length=i
 ins:InS fs
 wf:wfSL p i r=true
variable {p : Pr} {s : Sm} {r : List Sm} {R : Except Int (List Sp)} {i : Nat} {FF : List Sp} {fs : List Sp}
theorem stI_start(h1:stmtsM p p.stmts []=R)(h2:stmtsF p p.stmts []=FF)(hw:wfSL p 0 p.stmts=true):StI p R FF 0 p.stmts []:=⟨h1,h2,rfl,λs hs=>by simp at hs,hw⟩
theorem stI_find(h:StI p R FF i (s::r) fs):wfX p fs.length s.x=true:=by rw[h.len];exact wfSL_x h.wf
theorem stI_next{f:Sp}(hR:Rng p)(h:StI p R FF i (s::r) fs)(q:findM p fs s.x = .ok f)(hw:within p s f=true):StI p R FF (i+1) r (fs++[f]):=by
 obtain⟨h1,h2⟩:=stm_next (r:=r) q hw
 exact⟨by rw[<-h1];exact h.eq,by rw[<-h2];exact h.eqF,by rw[List.length_append,h.len];rfl,inS_snoc h.ins (findM_in hR h.ins _ _ (stI_find h) q),wfSL_next h.wf⟩
theorem stI_end(h:StI p R FF i [] fs):R = .ok fs/\FF=fs:=⟨h.eq.symm,h.eqF.symm⟩
theorem stI_bad1{e:Int}(h:StI p R FF i (s::r) fs)(q:findM p fs s.x = .error e):R = .error e/\FF=fs:=by
 obtain⟨h1,h2⟩:=stm_bad1 (r:=r) q
 exact⟨h.eq.symm.trans h1,h.eqF.symm.trans h2⟩
theorem stI_bad2{f:Sp}(h:StI p R FF i (s::r) fs)(q:findM p fs s.x = .ok f)(hw:within p s f=false):R = .error 161/\FF=fs:=by
 obtain⟨h1,h2⟩:=stm_bad2 (r:=r) q hw
 exact⟨h.eq.symm.trans h1,h.eqF.symm.trans h2⟩
theorem ok_ne{F:List Sp}{e:Int}(h:(Except.ok F:Except Int (List Sp)) = .error e):False:=by cases h
theorem er_eq{a b:Int}(h:(Except.error a:Except Int (List Sp)) = .error b):a=b:=by cases h;rfl
def lenE{α:Type}(f:α×α->Bool)(l m:List α):Bool:=!((l.length:Int) != (m.length:Int))&&(l.zip m).all f
def intE(v:Int×Int):Bool:=!(v.1 != v.2)
def intsE(l m:List Int):Bool:=lenE intE l m
def exE(q:Ex×Ex):Bool:=SameExpr q.1 q.2
def exsE(l m:List Ex):Bool:=lenE exE l m
def tbE(q:Tb×Tb):Bool:=q.1.name==q.2.name&&intsE q.1.values q.2.values
def smE(q:Sm×Sm):Bool:=((q.1.kind==q.2.kind&&q.1.name==q.2.name)&&q.1.index==q.2.index)&&SameExpr q.1.x q.2.x
def plainE(a b:Pr):Bool:=(a.name==b.name&&a.latency==b.latency)&&a.tail==b.tail
def samePr(a b:Pr):Bool:=((((plainE a b&&sameBounds a.params b.params)&&sameBounds a.states b.states)&&lenE lnSame a.lines b.lines)&&lenE tbE a.tables b.tables)&&lenE smE a.stmts b.stmts
theorem sameExpr_walk(a b:Ex):(a.kind==b.kind&&a.name==b.name&&a.index==b.index&&a.n==b.n&&exsE a.l b.l)=SameExpr a b:=by
 rw[SameExpr_eq,exsE,lenE]
 by_cases hl:a.l.length=b.l.length
 ·rw[sameL_zip hl]
  have e:((a.l.length:Int) != (b.l.length:Int))=false:=by simp[hl]
  rw[e]
  by_cases h1:a.kind=b.kind<;>by_cases h2:a.name=b.name<;>by_cases h3:a.index=b.index<;>by_cases h4:a.n=b.n<;>simp[h2]<;>rfl
 grind
theorem bds_lenE(l m:List Bd):sameBounds l m=lenE bdSame l m:=rfl
theorem zip_iff{α:Type}{f:α×α->Bool}(h:∀x y,f (x,y)=true↔x=y):∀l m:List α,l.length=m.length->((l.zip m).all f=true↔l=m)
 | [],[],_=>by simp
 |x::r,y::s,hl=>by
  have:=zip_iff h r s (by simpa using hl)
  simp_all
 | [],_::_,hl=>by simp at hl
 |_::_,[],hl=>by simp at hl
theorem lenE_iff{α:Type}{f:α×α->Bool}(h:∀x y,f (x,y)=true↔x=y)(l m:List α):lenE f l m=true↔l=m:=by
 unfold lenE
 by_cases hl:l.length=m.length
 ·grind[zip_iff]
 grind
theorem intE_iff(x y:Int):intE (x,y)=true↔x=y:=by simp[intE]
theorem bdE_iff(x y:Bd):bdSame (x,y)=true↔x=y:=by
 obtain⟨a,b,c⟩:=x
 obtain⟨d,e,f⟩:=y
 simp[bdSame,Go.Fw.sameL,Go.Fw.sameS]
theorem lnE_iff(x y:Ln):lnSame (x,y)=true↔x=y:=by
 obtain⟨a,b,c,d⟩:=x
 obtain⟨e,f,g,h⟩:=y
 simp[lnSame,Go.Fw.sameL,Go.Fw.sameS]
theorem tbE_iff(x y:Tb):tbE (x,y)=true↔x=y:=by
 obtain⟨a,b⟩:=x
 obtain⟨c,d⟩:=y
 simp[tbE,intsE,lenE_iff intE_iff]
theorem exE_iff:∀x y:Ex,SameExpr x y=true↔x=y:=by
 refine Ex.ind λx ih y=>?_
 obtain⟨k,n,i,m,l⟩:=x
 obtain⟨k',n',i',m',l'⟩:=y
 have ih:∀z∈l,∀y,SameExpr z y=true↔z=y:=ih
 have key:∀l l':List Ex,l.length=l'.length->(∀z∈l,∀y,SameExpr z y=true↔z=y)->((l.zip l').all (λq=>SameExpr q.1 q.2)=true↔l=l'):=by
  intro l
  induction l with
  |nil=>intro l' hl _;cases l' with
   |nil=>simp
   |cons _ _=>simp at hl
  |cons x r ir=>
   intro l' hl hz
   cases l' with
   |nil=>simp at hl
   |cons y s=>
    simp_all
 show(if(k != k' || n != n' || i != i' || m != m' || (l.length:Int) != (l'.length:Int))=true then false else Ref15.sameL l l')=true↔_
 by_cases hl:l.length=l'.length
 ·grind[sameL_zip]
 grind
theorem smE_iff(x y:Sm):smE (x,y)=true↔x=y:=by
 obtain⟨a,b,c,d⟩:=x
 obtain⟨e,f,g,h⟩:=y
 simp[smE,exE_iff,and_assoc]
def early1(a b:Pr):Bool:=bif (bif (bif (bif a.name != b.name then true else a.latency != b.latency)then true else a.tail != b.tail)then true else !(sameBounds a.params b.params))then true else !(sameBounds a.states b.states)
def early2(a b:Pr):Bool:=bif (bif ((a.lines.map Ln.cs).length:Int) != ((b.lines.map Ln.cs).length:Int)then true else((a.tables.map Tb.cs).length:Int) != ((b.tables.map Tb.cs).length:Int))then true else((a.stmts.map Sm.cs).length:Int) != ((b.stmts.map Sm.cs).length:Int)
theorem same_e1{a b:Pr}(h:early1 a b=true):samePr a b=false:=by
 simp[early1]at h
 grind[samePr,plainE]
theorem same_e2{a b:Pr}(h:early2 a b=true):samePr a b=false:=by
 simp[early2]at h
 grind[samePr,lenE]
theorem same_rest{a b:Pr}(h1:early1 a b=false)(h2:early2 a b=false):samePr a b=((a.lines.zip b.lines).all lnSame&&((a.tables.zip b.tables).all tbE&&(a.stmts.zip b.stmts).all smE))/\a.lines.length=b.lines.length/\a.tables.length=b.tables.length/\a.stmts.length=b.stmts.length:=by
 simp[early1]at h1
 simp[early2]at h2
 obtain⟨⟨⟨⟨e1,e2⟩,e3⟩,e4⟩,e5⟩:=h1
 obtain⟨⟨e6,e7⟩,e8⟩:=h2
 refine⟨?_,by omega,by omega,by omega⟩
 simp[samePr,plainE,lenE,e1,e2,e3,e4,e5,e6,e7,e8,bne_self_eq_false,Bool.not_false,Bool.true_and,beq_self_eq_true,Bool.and_assoc]
theorem smE_walk(q:Sm×Sm):(bif (bif (bif q.1.kind != q.2.kind then true else q.1.name != q.2.name)then true else q.1.index != q.2.index)then true else !(SameExpr q.1.x q.2.x)) = !smE q:=by
 grind[smE]
theorem tbE_walk(q:Tb×Tb):(bif q.1.name != q.2.name then true else !(intsE q.1.values q.2.values)) = !tbE q:=by
 grind[tbE]
theorem ln_no{q:Ln×Ln}(h:(!(Go.Fw.sameL q.1.cs q.2.cs))=true):lnSame q=false:=by
 show Go.Fw.sameL q.1.cs q.2.cs=false
 simp_all
theorem ln_yes{q:Ln×Ln}(h:(!(Go.Fw.sameL q.1.cs q.2.cs))=false):lnSame q=true:=by
 show Go.Fw.sameL q.1.cs q.2.cs=true
 simp_all
theorem all_no{α:Type}{f:α->Bool}{x:α}{r:List α}{b:Bool}(h:b=(x::r).all f)(hx:f x=false):b=false:=by simp_all
theorem all_yes{α:Type}{f:α->Bool}{x:α}{r:List α}{b:Bool}(h:b=(x::r).all f)(hx:f x=true):b=r.all f:=by simp_all
theorem samePr_iff(a b:Pr):samePr a b=true↔a=b:=by
 obtain⟨a1,a2,a3,a4,a5,a6,a7,a8⟩:=a
 obtain⟨b1,b2,b3,b4,b5,b6,b7,b8⟩:=b
 simp[samePr,plainE,bds_lenE,lenE_iff bdE_iff,lenE_iff lnE_iff,lenE_iff tbE_iff,lenE_iff smE_iff,Pr.mk.injEq,and_assoc]
end Go.Fw.Rg
