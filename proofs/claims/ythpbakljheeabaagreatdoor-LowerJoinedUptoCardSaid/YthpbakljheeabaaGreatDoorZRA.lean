/- The functions of package ranges and of its reference, as plain functions. -/
import Derived.KernelRfl
import Derived.Test.YthpbakljheeabaaGreatDoorZDB
set_option linter.unusedSectionVars false
set_option linter.unusedSimpArgs false
set_option linter.unusedVariables false
namespace Go.Fw.Rg
open Go.Fw Go.Fw.Ref15
variable [af]
abbrev Sp:=Int×Int
abbrev Sp.cs(s:Sp):List D:=[.i s.1,.i s.2]
abbrev Sp.d(s:Sp):D:=.agg [.i s.1,.i s.2]
def inW(n:Int):Bool:=decide (-4611686018427387904<=n)&&decide (n<=4611686018427387904)
def okW(n:Int):Except Int Int:=if inW n then .ok n else .error 160
def qg(x:Int):Int:=if x < -2147483648 then -2147483648 else if x>2147483647 then 2147483647 else x
def oQ(a n:Int):Int:=a / n
def Ru(a:Sp):Sp:=if a.1>=0 then a else if a.2<=0 then(-a.2,-a.1)else(0,mm2 true (-a.1) a.2)
def Lt(a b c d:Int):Int:=mm2 false (mm2 false (mm2 false a b) c) d
def Lu(a b c d:Int):Int:=mm2 true (mm2 true (mm2 true a b) c) d
def two(lo hi:Int):Except Int Sp:=if inW lo&&inW hi then .ok (lo,hi)else .error 160
def prodM(a b:Sp):Except Int Sp:=
 if inW (a.1 * b.1)&&inW (a.1 * b.2)&&inW (a.2 * b.1)&&inW (a.2 * b.2)then .ok (Lt (a.1 * b.1) (a.1 * b.2) (a.2 * b.1) (a.2 * b.2),Lu (a.1 * b.1) (a.1 * b.2) (a.2 * b.1) (a.2 * b.2))else .error 160
def aheadM(s:Sp):Except Int Sp:=if(decide (s.1<0) || decide (s.2>4096))=true then .error 161 else .ok (-2147483648,2147483647)
def minL:Int->List Int->Int
 |m,[]=>m
 |m,v::r=>minL (mm2 false m v) r
def maxL:Int->List Int->Int
 |m,[]=>m
 |m,v::r=>maxL (mm2 true m v) r
abbrev Bd.none:Bd:=⟨[],0,0⟩
abbrev Ln.none:Ln:=⟨[],0,0,0⟩
abbrev Tb.none:Tb:=⟨[],[]⟩
abbrev Sm.none:Sm:=⟨0,[],0,Ex.none⟩
abbrev jJ(p:Pr)(i:Int):Bd:=p.params.getD i.toNat Bd.none
abbrev bU(p:Pr)(i:Int):Bd:=p.states.getD i.toNat Bd.none
abbrev bY(p:Pr)(i:Int):Ln:=p.lines.getD i.toNat Ln.none
abbrev aO(p:Pr)(i:Int):List Int:=(p.tables.getD i.toNat Tb.none).values
def opM(p:Pr)(found:List Sp)(k i m:Int)(l:List Sp):Except Int Sp:=
 if k==1 then .ok (m,m)
 else if k==3 then .ok ((jJ p i).lo,(jJ p i).hi)
 else if k==4 then .ok ((bU p i).lo,(bU p i).hi)
 else if k==5 then .ok (found.getD i.toNat (0,0))
 else if k==6 || k==7 then aheadM (l.getD 0 (0,0))
 else if k==8 then .ok (mm2 false (bY p i).lo 0,mm2 true (bY p i).hi 0)
 else if k==9 then .ok (minL ((aO p i).getD 0 0) (aO p i),maxL ((aO p i).getD 0 0) (aO p i))
 else if k==10 then .ok (qg (l.getD 0 (0,0)).1,qg (l.getD 0 (0,0)).2)
 else if k==11 then .ok (mm2 false (l.getD 0 (0,0)).1 (l.getD 1 (0,0)).1,mm2 false (l.getD 0 (0,0)).2 (l.getD 1 (0,0)).2)
 else if k==12 then .ok (mm2 true (l.getD 0 (0,0)).1 (l.getD 1 (0,0)).1,mm2 true (l.getD 0 (0,0)).2 (l.getD 1 (0,0)).2)
 else if k==13 then .ok (Ru (l.getD 0 (0,0)))
 else if k==14 then .ok (-(l.getD 0 (0,0)).2,-(l.getD 0 (0,0)).1)
 else if k==15 then two ((l.getD 0 (0,0)).1+(l.getD 1 (0,0)).1) ((l.getD 0 (0,0)).2+(l.getD 1 (0,0)).2)
 else if k==16 then two ((l.getD 0 (0,0)).1 + -(l.getD 1 (0,0)).2) ((l.getD 0 (0,0)).2 + -(l.getD 1 (0,0)).1)
 else if k==17 then prodM (l.getD 0 (0,0)) (l.getD 1 (0,0))
 else if k==18 then .ok (oQ (l.getD 0 (0,0)).1 m,oQ (l.getD 0 (0,0)).2 m)
 else .ok (mm2 false (l.getD 2 (0,0)).1 (l.getD 3 (0,0)).1,mm2 true (l.getD 2 (0,0)).2 (l.getD 3 (0,0)).2)
mutual
def dH(p:Pr)(found:List Sp):Ex->Except Int Sp
 | .mk k _ i m l=>match cZ p found l with
  | .error e=>.error e
  | .ok s=>opM p found k i m s
def cZ(p:Pr)(found:List Sp):List Ex->Except Int (List Sp)
 | []=>.ok []
 |x::r=>match dH p found x with
  | .error e=>.error e
  | .ok s=>match cZ p found r with
   | .error e=>.error e
   | .ok t=>.ok (s::t)
end
theorem jv(p:Pr)(found:List Sp)(x:Ex):dH p found x=match cZ p found x.l with | .error e=>.error e | .ok s=>opM p found x.kind x.index x.n s:=by cases x;rw[dH];rfl
def pre(a:List Sp):Except Int (List Sp)->Except Int (List Sp)
 | .error e=>.error e
 | .ok t=>.ok (a++t)
theorem pre_nil(r:Except Int (List Sp)):pre [] r=r:=by cases r<;>rfl
theorem z4e{p:Pr}{found a:List Sp}{x:Ex}{r:List Ex}{s:Sp}(h:dH p found x = .ok s):pre a (cZ p found (x::r))=pre (a++[s]) (cZ p found r):=by
 rw[cZ,h]
 simp only
 cases cZ p found r with
 |error e=>rfl
 |ok t=>simp only[pre,List.append_assoc];rfl
theorem ZG{p:Pr}{found a:List Sp}{x:Ex}{r:List Ex}{e:Int}(h:dH p found x = .error e):pre a (cZ p found (x::r)) = .error e:=by
 rw[cZ,h];rfl
def uG(p:Pr)(n:Nat)(k i m:Int):Bool:=
 if k==1 then decide (0<=m)&&decide (m<=2147483648)
 else if k==3 then decide (0<=i)&&decide (i<p.params.length)
 else if k==4 then decide (0<=i)&&decide (i<p.states.length)
 else if k==5 then decide (0<=i)&&decide (i<n)
 else if k==8 then decide (0<=i)&&decide (i<p.lines.length)
 else if k==9 then decide (0<=i)&&decide (i<p.tables.length) && !(aO p i==[])
 else if k==18 then decide (1<=m)&&decide (m<=2147483648)
 else k==6 || k==7 || k==10 || k==11 || k==12 || k==13 || k==14 || k==15 || k==16 || k==17 || k==19
mutual
def wfX(p:Pr)(n:Nat):Ex->Bool
 | .mk k _ i m l=>((l.length:Int)==Ref15.parts k&&uG p n k i m)&&wfL p n l
def wfL(p:Pr)(n:Nat):List Ex->Bool
 | []=>true
 |x::r=>wfX p n x&&wfL p n r
end
theorem LC(p:Pr)(n:Nat)(x:Ex):wfX p n x=(((x.l.length:Int)==Ref15.parts x.kind&&uG p n x.kind x.index x.n)&&wfL p n x.l):=by cases x;rw[wfX];rfl
theorem iC{p:Pr}{n:Nat}:∀{l:List Ex},wfL p n l=true->∀y∈l,wfX p n y=true
 |x::r,h,y,hy=>by
  simp only[wfL,Bool.and_eq_true]at h
  rcases List.mem_cons.1 hy with rfl |hy
  ·exact h.1
  ·exact iC h.2 y hy
theorem FX{p:Pr}{found:List Sp}:∀{l:List Ex} {s:List Sp},cZ p found l = .ok s->s.length=l.length
 | [],s,h=>by simp only[cZ]at h;cases h;rfl
 |x::r,s,h=>by
  simp only[cZ]at h
  cases hx:dH p found x with
  |error e=>rw[hx]at h;cases h
  |ok t=>
   rw[hx]at h
   simp only at h
   cases hr:cZ p found r with
   |error e=>rw[hr]at h;cases h
   |ok u=>
    rw[hr]at h
    cases h
    simp[FX hr]
def InS(l:List Sp):Prop:=∀s∈l,inW s.1=true/\inW s.2=true
structure Rng(p:Pr):Prop where
 par:∀b∈p.params,-2147483648<=b.lo/\b.lo<=b.hi/\b.hi<=2147483647
 sta:∀b∈p.states,-2147483648<=b.lo/\b.lo<=b.hi/\b.hi<=2147483647
 lin:∀b∈p.lines,-2147483648<=b.lo/\b.lo<=b.hi/\b.hi<=2147483647
 tab:∀t∈p.tables,∀v∈t.values,-2147483648<=v/\v<=2147483647
theorem bW{n:Int}:inW n=true ↔ -4611686018427387904<=n/\n<=4611686018427387904:=by simp[inW]
def jl(p:Pr)(s:Sm):Sp:=if s.kind==2 then((bU p s.index).lo,(bU p s.index).hi)else if s.kind==3 then((bY p s.index).lo,(bY p s.index).hi)else if s.kind==4 then(-2147483648,2147483647)else(-4611686018427387904,4611686018427387904)
def within(p:Pr)(s:Sm)(f:Sp):Bool:=decide (f.1>=(jl p s).1)&&decide (f.2<=(jl p s).2)
def bM(p:Pr):List Sm->List Sp->Except Int (List Sp)
 | [],found=>.ok found
 |s::r,found=>match dH p found s.x with
  | .error e=>.error e
  | .ok f=>if within p s f then bM p r (found++[f])else .error 161
end Go.Fw.Rg
namespace Go.Fw.Rg
open Go.Fw Go.Fw.Ref15
variable [af] {a b : Int}
def z8i(a b:Int):Bool:=bif (bif (bif decide (a>0)then decide (b>0)else false)then decide (a>IntKind.i64.wrap (4611686018427387904-b))else false)then true else(bif (bif decide (a<0)then decide (b<0)else false)then decide (a<IntKind.i64.wrap (-4611686018427387904-b))else false)
theorem ZH(p q:Bool):(bif p then q else false)=(p&&q):=by cases p<;>rfl
theorem FY(p q:Bool):(bif p then true else q)=(p || q):=by cases p<;>rfl
theorem Rw(ha:inW a=true)(hb:inW b=true):z8i a b = !inW (a+b):=by
 have ha:=bW.1 ha
 have hb:=bW.1 hb
 have key:∀x y:Int,(0<b->x=4611686018427387904-b)->(b<0->y = -4611686018427387904-b) ->
   (bif (bif (bif decide (a>0)then decide (b>0)else false)then decide (a>x)else false)then true else(bif (bif decide (a<0)then decide (b<0)else false)then decide (a<y)else false)) = !inW (a+b):=by
  intro x y hx hy
  rw[Bool.eq_iff_iff]
  simp only[ZH,FY,Bool.and_eq_true,Bool.or_eq_true,decide_eq_true_eq,Bool.not_eq_true',inW,Bool.and_eq_false_iff,decide_eq_false_iff_not]
  omega
 exact key _ _ (λh=>bI (by omega) (by omega)) (λh=>bI (by omega) (by omega))
theorem nG{n:Int}(h:inW n=true):IntKind.i64.wrap n=n:=by
 have h:=bW.1 h
 exact bI (by omega) (by omega)
theorem gY{n:Int}(h:inW n=true):IntKind.i64.wrap (0-n) = -n:=by
 have h:=bW.1 h
 rw[bI (by omega) (by omega)];omega
theorem tY{n:Int}(h:inW n=true):inW (-n)=true:=by
 have h:=bW.1 h
 exact bW.2 (by omega)
def Ov(n:Int)(f:Bool):Bool:=bif (bif !f then true else decide (n>4611686018427387904))then true else decide (n < -4611686018427387904)
def X6(a b:Int):Bool:=bif a==0 then true else b==0
def z4f(a b:Int):Bool:=bif (IntKind.i64.wrap ((IntKind.i64.wrap (a * b)).tdiv b)==a)then decide (mm2 true a (IntKind.i64.wrap (0-a))<=IntKind.i64.wrap ((4611686018427387904:Int).tdiv (mm2 true b (IntKind.i64.wrap (0-b)))))else false
theorem Ja(a:Int):mm2 true a (-a)=(a.natAbs:Int):=by
 simp only[mm2];split<;>omega
theorem Rx{n:Nat}(h:n<=4611686018427387904):IntKind.i64.wrap (n:Int)=(n:Int):=bI (by omega) (by omega)
theorem ZI(ha:inW a=true)(hb:inW b=true)(h0:b≠0):z4f a b=inW (a * b):=by
 have ha':=bW.1 ha
 have hb':=bW.1 hb
 have hv:0<b.natAbs:=Int.natAbs_pos.2 h0
 have hq:((4611686018427387904:Int).tdiv (b.natAbs:Int))=((4611686018427387904 / b.natAbs:Nat):Int):=by
  rw[Int.tdiv_eq_ediv_of_nonneg (by omega)];rfl
 have hle:4611686018427387904 / b.natAbs<=4611686018427387904:=Nat.div_le_self _ _
 have hex:(mm2 true a (IntKind.i64.wrap (0-a))<=IntKind.i64.wrap ((4611686018427387904:Int).tdiv (mm2 true b (IntKind.i64.wrap (0-b)))))↔inW (a * b)=true:=by
  rw[gY ha,gY hb,Ja,Ja,hq,Rx hle,Int.ofNat_le,Nat.le_div_iff_mul_le hv,bW,<-Int.natAbs_mul]
  omega
 unfold z4f
 cases hw:inW (a * b)with
 |true=>
  have e:IntKind.i64.wrap ((IntKind.i64.wrap (a * b)).tdiv b)=a:=by
   rw[nG hw,Int.mul_tdiv_cancel _ h0,nG ha]
  rw[e,decide_eq_true (hex.2 hw)];simp
 |false=>
  have:decide (mm2 true a (IntKind.i64.wrap (0-a))<=IntKind.i64.wrap ((4611686018427387904:Int).tdiv (mm2 true b (IntKind.i64.wrap (0-b)))))=false:=by
   apply decide_eq_false
   intro h
   rw[hex.1 h]at hw;cases hw
  rw[this]
  cases (IntKind.i64.wrap ((IntKind.i64.wrap (a * b)).tdiv b)==a)<;>rfl
theorem LD(ha:inW a=true)(hb:inW b=true)(h0:b≠0):Ov (IntKind.i64.wrap (a * b)) (z4f a b) = !inW (a * b):=by
 rw[ZI ha hb h0]
 cases hw:inW (a * b)with
 |true=>
  rw[nG hw]
  have hw:=bW.1 hw
  have e1:decide (a * b>4611686018427387904)=false:=decide_eq_false (by omega)
  have e2:decide (a * b < -4611686018427387904)=false:=decide_eq_false (by omega)
  simp only[Ov,e1,e2];rfl
 |false=>rfl
theorem ZJ(h:X6 a b=true):a * b=0:=by
 simp only[X6,FY,Bool.or_eq_true,beq_iff_eq]at h
 rcases h with rfl |rfl<;>simp
theorem ZK(h:X6 a b=false):b≠0:=by
 simp only[X6,FY,Bool.or_eq_false_iff,beq_eq_false_iff_ne]at h
 exact h.2
theorem LG{a n:Int}(hn:1<=n)(h:inW a=true):inW (a / n)=true:=by
 have h:=bW.1 h
 refine bW.2 ⟨?_,?_⟩
 ·rw[Int.le_ediv_iff_mul_le (by omega)]
  have:(4611686018427387904:Int) * 1<=4611686018427387904 * n:=Int.mul_le_mul_of_nonneg_left hn (by omega)
  omega
 ·have:a / n<=4611686018427387904 / n:=Int.ediv_le_ediv (by omega) h.2
  have h2:(4611686018427387904:Int) / n<=4611686018427387904:=Int.ediv_le_self _ (by omega)
  omega
theorem VQ{a n:Int}(hn:1<=n)(hn2:n<=2147483648)(h:inW a=true)(h0:a<0):IntKind.i64.wrap (0-IntKind.i64.wrap ((IntKind.i64.wrap (IntKind.i64.wrap (IntKind.i64.wrap (0-a)+n)-1)).tdiv n))=oQ a n:=by
 have hw:=bW.1 h
 rw[gY h,bI (n:=-a+n) (by omega) (by omega),bI (n:=-a+n-1) (by omega) (by omega),Int.tdiv_eq_ediv_of_nonneg (by omega)]
 have e:(-a+n-1) / n = -(a / n):=by
  have h1:=Int.mul_ediv_add_emod a n
  have h2:=Int.emod_nonneg a (show n≠0 by omega)
  have h3:=Int.emod_lt_of_pos a (show 0<n by omega)
  have h4:-a+n-1=(n-1-a % n)+n * (-(a / n)):=by
   rw[Int.mul_neg];omega
  rw[h4,Int.add_mul_ediv_left _ _ (by omega),Int.ediv_eq_zero_of_lt (by omega) (by omega),Int.zero_add]
 have hd:=LG hn h
 rw[e,nG (tY hd),gY (tY hd),Int.neg_neg];rfl
theorem VR{a n:Int}(hn:1<=n)(h:inW a=true)(h0:¬a<0):IntKind.i64.wrap (a.tdiv n)=oQ a n:=by
 have hd:=LG hn h
 rw[Int.tdiv_eq_ediv_of_nonneg (by omega),nG hd];rfl
end Go.Fw.Rg
namespace Go.Fw
theorem gJ[af](T:Tbl)(A:FuncId->List D->mQ->Prop)(B:FuncId->List AV->Heap->jY->Heap->Prop){kp:Nat}{Q:List Rec->Prop}{l:List Oper}{ms:List Nat}{tr:List Rec}{env:Env}{K:Heap}(bs:List Bool)(_:l.length=bs.length)(h:(ms.map λm=>m.testBit kp)=bs)(h2:wB T A B Q l bs tr env K):Nr (jI T A B kp Q l ms tr env K):=
 rest_step T A B bs h h2
theorem gi_step[af]{g:Bool}{p:Prop}(h:g=true)(hp:p):nO g p:=nO.mk h hp
end Go.Fw
namespace Go.Fw.Rg
open Go.Fw Go.Fw.Ref15
variable [af] {r : Except Int Sp} {t : TypeId}
theorem kP{α:Type}{f:α->List D}(d:α){k:Bool}{a b:Nat}{l:List α}{n:Int}{q:List D->Prop}(h1:k=true)(h2:a=b)(h3:0<=n)(h4:n<l.length)(h:q (f (l.getD n.toNat d))) :
  (k=true/\a=b)/\∃c,(0<=n/\(l.map f)[n.toNat]? = some c)/\q c:=by
 have h5:n.toNat<l.length:=by omega
 refine⟨⟨h1,h2⟩,_,⟨h3,?_⟩,h⟩
 rw[List.getElem?_map,List.getElem?_eq_getElem h5,List.getD_eq_getElem?_getD,List.getElem?_eq_getElem h5];rfl
theorem jK{k:Bool}{a b:Nat}{n:Int}{es:List (List D)}{q:List D->Prop}(h1:k=true)(h2:a=b)(h3:decide (0<=n/\n.toNat<es.length)=true)(h:q (es.getD n.toNat [])):(k=true/\a=b)/\∃c,(0<=n/\es[n.toNat]? = some c)/\q c:=by
 have h3:=of_decide_eq_true h3
 refine⟨⟨h1,h2⟩,_,⟨h3.1,?_⟩,h⟩
 rw[List.getD_eq_getElem?_getD,List.getElem?_eq_getElem h3.2];rfl
def Ry(t:TypeId):Except Int Sp->mQ
 | .ok s=>.ret s.d
 | .error e=>.pan (.iface t (.i e))
def z8j(t:TypeId):Except Int Int->mQ
 | .ok n=>.ret (.i n)
 | .error e=>.pan (.iface t (.i e))
theorem LH{A M:mQ->Prop}{V:Prop}(hA:A (Ry t r))(h1:∀s,r = .ok s->M (.ret (.agg [.i s.1,.i s.2])))(h2:∀e,r = .error e->M (.pan (.iface t (.i e)))):(∃out,A out/\M out)\/V:=by
 refine .inl ⟨_,hA,?_⟩
 cases r with
 |ok s=>exact h1 s rfl
 |error e=>exact h2 e rfl
theorem jD{A M:mQ->Prop}{V:Prop}{r:Except Int Int}(hA:A (z8j t r))(h1:∀n,r = .ok n->M (.ret (.i n)))(h2:∀e,r = .error e->M (.pan (.iface t (.i e)))):(∃out,A out/\M out)\/V:=by
 refine .inl ⟨_,hA,?_⟩
 cases r with
 |ok s=>exact h1 s rfl
 |error e=>exact h2 e rfl
theorem DF{T:Tbl}{rs:List ResultVar}{K0 K K1:Heap}{env:Env}{q:Prop}(s:Sp)(hs:r = .ok s)(h:H7 T rs K0 (.ret (.data (.agg [.i s.1,.i s.2]))) K1 env K):H7 T rs K0 (Ry t r).toA K1 env K\/q:=by
 subst hs;exact .inl h
theorem lV{K0 K K1:Heap}{x:AV}(e:Int)(hs:r = .error e)(h:fin K0 K x (.data (.iface t (.i e))) K1):UN K0 K x K1 (Ry t r).toA:=by
 subst hs;unfold UN;exact h
theorem BI{a n:Int}(h:okW a = .ok n):n=a/\inW a=true:=by
 unfold okW at h
 split at h
 ·rename_i hw;cases h;exact⟨rfl,hw⟩
 ·cases h
theorem Jb{a e:Int}(h:okW a = .error e):e=160/\inW a=false:=by
 unfold okW at h
 split at h
 ·cases h
 ·rename_i hw;cases h;exact⟨rfl,by simpa using hw⟩
theorem X7{a b x y:Int}(h1:okW a = .ok x)(h2:okW b = .ok y):two a b = .ok (x,y):=by
 obtain⟨rfl,g1⟩:=BI h1
 obtain⟨rfl,g2⟩:=BI h2
 rw[two,g1,g2];rfl
theorem X8{a b e:Int}(h1:okW a = .error e):two a b = .error e:=by
 obtain⟨rfl,g1⟩:=Jb h1
 rw[two,g1];rfl
theorem X9{a b e:Int}(h2:okW b = .error e):two a b = .error e:=by
 obtain⟨rfl,g2⟩:=Jb h2
 rw[two,g2,Bool.and_false];rfl
theorem ZL{a b:Sp}{x y z w:Int}(h1:okW (a.1 * b.1) = .ok x)(h2:okW (a.1 * b.2) = .ok y)(h3:okW (a.2 * b.1) = .ok z)(h4:okW (a.2 * b.2) = .ok w):prodM a b = .ok (Lt x y z w,Lu x y z w):=by
 obtain⟨rfl,g1⟩:=BI h1
 obtain⟨rfl,g2⟩:=BI h2
 obtain⟨rfl,g3⟩:=BI h3
 obtain⟨rfl,g4⟩:=BI h4
 rw[prodM,g1,g2,g3,g4];rfl
theorem xG{a b:Sp}{e:Int}(h:okW (a.1 * b.1) = .error e\/okW (a.1 * b.2) = .error e\/okW (a.2 * b.1) = .error e\/okW (a.2 * b.2) = .error e):prodM a b = .error e:=by
 rcases h with h |h |h |h<;>obtain⟨rfl,g⟩:=Jb h<;>rw[prodM,g]<;>simp
variable [af] {p : Pr} {found sl : List Sp} {l : List Ex}
theorem kinds{k:Int}{n:Nat}{i m:Int}(h:uG p n k i m=true):k=1\/k=3\/k=4\/k=5\/k=6\/k=7\/k=8\/k=9\/k=10\/k=11\/k=12\/k=13\/k=14\/k=15\/k=16\/k=17\/k=18\/k=19:=by
 have h1:∀n:Int,¬k=n->(k==n)=false:=λn hn=>by simpa using hn
 have key:¬(k=1\/k=3\/k=4\/k=5\/k=6\/k=7\/k=8\/k=9\/k=10\/k=11\/k=12\/k=13\/k=14\/k=15\/k=16\/k=17\/k=18\/k=19)->False:=by
  intro hn
  unfold uG at h
  rw[h1 1 (by omega),h1 3 (by omega),h1 4 (by omega),h1 5 (by omega),h1 6 (by omega),h1 7 (by omega),h1 8 (by omega),h1 9 (by omega),h1 10 (by omega),h1 11 (by omega),h1 12 (by omega),h1 13 (by omega),h1 14 (by omega),h1 15 (by omega),h1 16 (by omega),h1 17 (by omega),h1 18 (by omega),h1 19 (by omega)]at h
  cases h
 exact Decidable.byContradiction key
theorem getD_in{l:List Sp}(h:InS l)(n:Nat):inW (l.getD n (0,0)).1=true/\inW (l.getD n (0,0)).2=true:=by
 rw[List.getD_eq_getElem?_getD]
 cases hn:l[n]? with
 |none=>exact⟨by decide,by decide⟩
 |some s=>exact h s (List.mem_of_getElem? hn)
theorem getD_mem'{α:Type}{l:List α}{n:Int}(d:α)(h0:0<=n)(h1:n<l.length):l.getD n.toNat d∈l:=by
 have h:n.toNat<l.length:=by omega
 rw[List.getD_eq_getElem?_getD,List.getElem?_eq_getElem h]
 exact List.getElem_mem h
theorem kQ{b:Bool}{x y:Int}(hx:inW x=true)(hy:inW y=true):inW (mm2 b x y)=true:=by
 cases b<;>simp only[mm2]<;>split<;>assumption
theorem fF{x:Int}(h1:-2147483648<=x)(h2:x<=2147483648):inW x=true:=bW.2 (by omega)
theorem Rz(x:Int):-2147483648<=qg x/\qg x<=2147483647:=by
 unfold qg;repeat' split
 all_goals omega
theorem Jc:∀(l:List Int) (m:Int),minL m l<=m/\(∀v∈l,minL m l<=v)/\(minL m l=m\/minL m l∈l)
 | [],m=>⟨Int.le_refl _,by simp,.inl rfl⟩
 |v::r,m=>by
  obtain⟨h1,h2,h3⟩:=Jc r (mm2 false m v)
  have e:minL m (v::r)=minL (mm2 false m v) r:=rfl
  have hm:mm2 false m v<=m/\mm2 false m v<=v/\(mm2 false m v=m\/mm2 false m v=v):=by simp only[mm2];split<;>omega
  rw[e]
  refine⟨by omega,λw hw=>?_,?_⟩
  ·rcases List.mem_cons.1 hw with rfl |hw
   ·omega
   ·exact h2 w hw
  ·rcases h3 with h3 |h3
   ·rcases hm.2.2 with h |h
    ·left;omega
    ·right;rw[h3,h];simp
   ·right;simp[h3]
theorem Jd:∀(l:List Int) (m:Int),m<=maxL m l/\(∀v∈l,v<=maxL m l)/\(maxL m l=m\/maxL m l∈l)
 | [],m=>⟨Int.le_refl _,by simp,.inl rfl⟩
 |v::r,m=>by
  obtain⟨h1,h2,h3⟩:=Jd r (mm2 true m v)
  have e:maxL m (v::r)=maxL (mm2 true m v) r:=rfl
  have hm:m<=mm2 true m v/\v<=mm2 true m v/\(mm2 true m v=m\/mm2 true m v=v):=by simp only[mm2];split<;>omega
  rw[e]
  refine⟨by omega,λw hw=>?_,?_⟩
  ·rcases List.mem_cons.1 hw with rfl |hw
   ·omega
   ·exact h2 w hw
  ·rcases h3 with h3 |h3
   ·rcases hm.2.2 with h |h
    ·left;omega
    ·right;rw[h3,h];simp
   ·right;simp[h3]
theorem tZ{a s:Sp}(h:aheadM a = .ok s):s=(-2147483648,2147483647):=by
 unfold aheadM at h
 split at h
 ·cases h
 ·cases h;rfl
theorem Je{a b:Int}{s:Sp}(h:two a b = .ok s):s=(a,b)/\inW a=true/\inW b=true:=by
 unfold two at h
 split at h
 ·rename_i hw
  simp only[Bool.and_eq_true]at hw
  cases h
  exact⟨rfl,hw.1,hw.2⟩
 ·cases h
theorem LJ{a b s:Sp}(h:prodM a b = .ok s):s=(Lt (a.1 * b.1) (a.1 * b.2) (a.2 * b.1) (a.2 * b.2),Lu (a.1 * b.1) (a.1 * b.2) (a.2 * b.1) (a.2 * b.2))/\inW (a.1 * b.1)=true/\inW (a.1 * b.2)=true/\inW (a.2 * b.1)=true/\inW (a.2 * b.2)=true:=by
 unfold prodM at h
 split at h
 ·rename_i hw
  simp only[Bool.and_eq_true]at hw
  cases h
  exact⟨rfl,hw.1.1.1,hw.1.1.2,hw.1.2,hw.2⟩
 ·cases h
theorem in2{x y:Int}(h1:inW x=true)(h2:inW y=true):inW ((x,y):Sp).1=true/\inW ((x,y):Sp).2=true:=⟨h1,h2⟩
theorem z4g{found l:List Sp}{k i m:Int}{s:Sp}(hR:Rng p)(hF:InS found)(hs:InS l)(hw:uG p found.length k i m=true)(h:opM p found k i m l = .ok s):inW s.1=true/\inW s.2=true:=by
 have g:=getD_in hs
 rcases kinds hw with rfl |rfl |rfl |rfl |rfl |rfl |rfl |rfl |rfl |rfl |rfl |rfl |rfl |rfl |rfl |rfl |rfl |rfl
 ·have hw:(decide (0<=m)&&decide (m<=2147483648))=true:=hw
  simp at hw
  have h:Except.ok (m,m)=Except.ok s:=h
  cases h
  exact in2 (fF (by omega) (by omega)) (fF (by omega) (by omega))
 ·have hw:(decide (0<=i)&&decide (i<p.params.length))=true:=hw
  simp only[Bool.and_eq_true,decide_eq_true_eq]at hw
  have h:Except.ok ((jJ p i).lo,(jJ p i).hi)=Except.ok s:=h
  cases h
  have:-2147483648<=(jJ p i).lo/\(jJ p i).lo<=(jJ p i).hi/\(jJ p i).hi<=2147483647:=hR.par _ (getD_mem' Bd.none hw.1 hw.2)
  exact in2 (fF (by omega) (by omega)) (fF (by omega) (by omega))
 ·have hw:(decide (0<=i)&&decide (i<p.states.length))=true:=hw
  simp only[Bool.and_eq_true,decide_eq_true_eq]at hw
  have h:Except.ok ((bU p i).lo,(bU p i).hi)=Except.ok s:=h
  cases h
  have:-2147483648<=(bU p i).lo/\(bU p i).lo<=(bU p i).hi/\(bU p i).hi<=2147483647:=hR.sta _ (getD_mem' Bd.none hw.1 hw.2)
  exact in2 (fF (by omega) (by omega)) (fF (by omega) (by omega))
 ·have h:Except.ok (found.getD i.toNat (0,0))=Except.ok s:=h
  cases h
  exact getD_in hF _
 ·obtain rfl:=tZ (show aheadM (l.getD 0 (0,0)) = .ok s from h)
  exact in2 (by decide) (by decide)
 ·obtain rfl:=tZ (show aheadM (l.getD 0 (0,0)) = .ok s from h)
  exact in2 (by decide) (by decide)
 ·have hw:(decide (0<=i)&&decide (i<p.lines.length))=true:=hw
  simp only[Bool.and_eq_true,decide_eq_true_eq]at hw
  have h:Except.ok (mm2 false (bY p i).lo 0,mm2 true (bY p i).hi 0)=Except.ok s:=h
  cases h
  have:-2147483648<=(bY p i).lo/\(bY p i).lo<=(bY p i).hi/\(bY p i).hi<=2147483647:=hR.lin _ (getD_mem' Ln.none hw.1 hw.2)
  exact in2 (kQ (fF (by omega) (by omega)) (by decide)) (kQ (fF (by omega) (by omega)) (by decide))
 ·have hw:(decide (0<=i)&&decide (i<p.tables.length) && !(aO p i==[]))=true:=hw
  simp only[Bool.and_eq_true,decide_eq_true_eq]at hw
  have h:Except.ok (minL ((aO p i).getD 0 0) (aO p i),maxL ((aO p i).getD 0 0) (aO p i))=Except.ok s:=h
  cases h
  have ht:=hR.tab _ (getD_mem' Tb.none hw.1.1 hw.1.2)
  have h0:-2147483648<=(aO p i).getD 0 0/\(aO p i).getD 0 0<=2147483647:=by
   rw[List.getD_eq_getElem?_getD]
   cases hn:(aO p i)[0]? with
   |none=>exact⟨by decide,by decide⟩
   |some v=>exact ht v (List.mem_of_getElem? hn)
  have h1:=Jc (aO p i) ((aO p i).getD 0 0)
  have h2:=Jd (aO p i) ((aO p i).getD 0 0)
  constructor
  ·rcases h1.2.2 with h |h
   ·show inW (minL _ _)=true
    rw[h];exact fF (by omega) (by omega)
   ·have:=ht _ h
    exact fF (by omega) (by omega)
  ·rcases h2.2.2 with h |h
   ·show inW (maxL _ _)=true
    rw[h];exact fF (by omega) (by omega)
   ·have:=ht _ h
    exact fF (by omega) (by omega)
 ·have h:Except.ok (qg (l.getD 0 (0,0)).1,qg (l.getD 0 (0,0)).2)=Except.ok s:=h
  cases h
  have h1:=Rz (l.getD 0 (0,0)).1
  have h2:=Rz (l.getD 0 (0,0)).2
  exact in2 (fF (by omega) (by omega)) (fF (by omega) (by omega))
 ·have h:Except.ok (mm2 false (l.getD 0 (0,0)).1 (l.getD 1 (0,0)).1,mm2 false (l.getD 0 (0,0)).2 (l.getD 1 (0,0)).2)=Except.ok s:=h
  cases h
  exact in2 (kQ (g 0).1 (g 1).1) (kQ (g 0).2 (g 1).2)
 ·have h:Except.ok (mm2 true (l.getD 0 (0,0)).1 (l.getD 1 (0,0)).1,mm2 true (l.getD 0 (0,0)).2 (l.getD 1 (0,0)).2)=Except.ok s:=h
  cases h
  exact in2 (kQ (g 0).1 (g 1).1) (kQ (g 0).2 (g 1).2)
 ·have h:Except.ok (Ru (l.getD 0 (0,0)))=Except.ok s:=h
  cases h
  unfold Ru
  repeat' split
  ·exact g 0
  ·exact in2 (tY (g 0).2) (tY (g 0).1)
  ·exact in2 (by decide) (kQ (tY (g 0).1) (g 0).2)
 ·have h:Except.ok (-(l.getD 0 (0,0)).2,-(l.getD 0 (0,0)).1)=Except.ok s:=h
  cases h
  exact in2 (tY (g 0).2) (tY (g 0).1)
 ·obtain⟨rfl,h1,h2⟩:=Je (show two ((l.getD 0 (0,0)).1+(l.getD 1 (0,0)).1) ((l.getD 0 (0,0)).2+(l.getD 1 (0,0)).2) = .ok s from h)
  exact⟨h1,h2⟩
 ·obtain⟨rfl,h1,h2⟩:=Je (show two ((l.getD 0 (0,0)).1 + -(l.getD 1 (0,0)).2) ((l.getD 0 (0,0)).2 + -(l.getD 1 (0,0)).1) = .ok s from h)
  exact⟨h1,h2⟩
 ·obtain⟨rfl,h1,h2,h3,h4⟩:=LJ (show prodM (l.getD 0 (0,0)) (l.getD 1 (0,0)) = .ok s from h)
  exact in2 (kQ (kQ (kQ h1 h2) h3) h4) (kQ (kQ (kQ h1 h2) h3) h4)
 ·have hw:(decide (1<=m)&&decide (m<=2147483648))=true:=hw
  simp only[Bool.and_eq_true,decide_eq_true_eq]at hw
  have h:Except.ok (oQ (l.getD 0 (0,0)).1 m,oQ (l.getD 0 (0,0)).2 m)=Except.ok s:=h
  cases h
  exact in2 (LG hw.1 (g 0).1) (LG hw.1 (g 0).2)
 ·have h:Except.ok (mm2 false (l.getD 2 (0,0)).1 (l.getD 3 (0,0)).1,mm2 true (l.getD 2 (0,0)).2 (l.getD 3 (0,0)).2)=Except.ok s:=h
  cases h
  exact in2 (kQ (g 2).1 (g 3).1) (kQ (g 2).2 (g 3).2)
theorem findL_in'{found:List Sp}:∀{l:List Ex} {t:List Sp},(∀x∈l,∀s:Sp,wfX p found.length x=true->dH p found x = .ok s->inW s.1=true/\inW s.2=true)->wfL p found.length l=true->cZ p found l = .ok t->InS t
 | [],t,_,_,h=>by simp only[cZ]at h;cases h;intro s hs;simp at hs
 |x::r,t,ih,hw,h=>by
  simp only[wfL,Bool.and_eq_true]at hw
  simp only[cZ]at h
  cases hx:dH p found x with
  |error e=>rw[hx]at h;cases h
  |ok s=>
   rw[hx]at h
   simp only at h
   cases hr:cZ p found r with
   |error e=>rw[hr]at h;cases h
   |ok u=>
    rw[hr]at h
    cases h
    intro y hy
    rcases List.mem_cons.1 hy with rfl |hy
    ·exact ih x (by simp) _ hw.1 hx
    ·exact findL_in' (λx hx=>ih x (by simp[hx])) hw.2 hr y hy
theorem bQ{n:Nat}{x:Ex}(h:wfX p n x=true):(x.l.length:Int)=Ref15.parts x.kind/\uG p n x.kind x.index x.n=true/\wfL p n x.l=true:=by
 rw[LC]at h
 simp only[Bool.and_eq_true,beq_iff_eq]at h
 exact⟨h.1.1,h.1.2,h.2⟩
theorem xH{found:List Sp}(hR:Rng p)(hF:InS found):∀(x:Ex) (s:Sp),wfX p found.length x=true->dH p found x = .ok s->inW s.1=true/\inW s.2=true:=by
 refine Ex.ind λx ih s hw h=>?_
 obtain⟨_,h2,h3⟩:=bQ hw
 rw[jv]at h
 cases hl:cZ p found x.l with
 |error e=>rw[hl]at h;cases h
 |ok t=>
  rw[hl]at h
  exact z4g hR hF (findL_in' ih h3 hl) h2 h
theorem VS{found:List Sp}(hR:Rng p)(hF:InS found){t:List Sp}(hw:wfL p found.length l=true)(h:cZ p found l = .ok t):InS t:=
 findL_in' (λx _ s=>xH hR hF x s) hw h
theorem mD:∀{l:List Ex} {y:Ex},y∈l->Ref15.nodes y<=Ref15.nodesL l
 |x::r,y,h=>by
  simp only[Ref15.nodesL]
  rcases List.mem_cons.1 h with rfl |h
  ·omega
  ·have:=mD h;omega
theorem xI{x:Ex}(h:pre sl (cZ p found [])=cZ p found x.l):dH p found x=opM p found x.kind x.index x.n sl/\cZ p found x.l = .ok sl:=by
 have e:cZ p found x.l = .ok sl:=by rw[<-h];simp[cZ,pre]
 exact⟨by rw[jv,e],e⟩
theorem VT{x y:Ex}{r:List Ex}{e:Int}(h:pre sl (cZ p found (y::r))=cZ p found x.l)(hy:dH p found y = .error e):dH p found x = .error e:=by
 rw[ZG hy]at h
 rw[jv,<-h]
theorem RD{x y:Ex}{r:List Ex}{s:Sp}(h:pre sl (cZ p found (y::r))=cZ p found x.l)(hy:dH p found y = .ok s):pre (sl++[s]) (cZ p found r)=cZ p found x.l:=by
 rw[<-h,z4e hy]
theorem zy{sl:List Sp}(h:sl.length=1):∃a,sl = [a]:=by
 match sl,h with
 | [a],_=>exact⟨a,rfl⟩
theorem RF{sl:List Sp}(h:sl.length=2):∃a b,sl = [a,b]:=by
 match sl,h with
 | [a,b],_=>exact⟨a,b,rfl⟩
theorem z8k{sl:List Sp}(h:sl.length=4):∃a b c d,sl = [a,b,c,d]:=by
 match sl,h with
 | [a,b,c,d],_=>exact⟨a,b,c,d,rfl⟩
end Go.Fw.Rg
namespace Go.Fw.Rg
open Go.Fw Go.Fw.Ref15
variable [af]
def wfS(p:Pr)(i:Nat)(s:Sm):Bool:=wfX p i s.x&&((!(s.kind==2) || (decide (0<=s.index)&&decide (s.index<p.states.length)))&&(!(s.kind==3) || (decide (0<=s.index)&&decide (s.index<p.lines.length))))
def uf(p:Pr):Nat->List Sm->Bool
 |_,[]=>true
 |i,s::r=>wfS p i s&&uf p (i+1) r
theorem oU{p:Pr}{i:Nat}{s:Sm}{r:List Sm}(h:uf p i (s::r)=true):uf p (i+1) r=true:=by
 simp only[uf,Bool.and_eq_true]at h;exact h.2
theorem RG{p:Pr}{i:Nat}{s:Sm}{r:List Sm}(h:uf p i (s::r)=true):wfX p i s.x=true:=by
 simp only[uf,wfS,Bool.and_eq_true]at h;exact h.1.1
theorem LK{p:Pr}{i:Nat}{s:Sm}{r:List Sm}(h:uf p i (s::r)=true)(h2:(s.kind==2)=true):0<=s.index/\s.index<p.states.length:=by
 simp only[uf,wfS,Bool.and_eq_true,h2,Bool.not_true,Bool.false_or,decide_eq_true_eq]at h;exact h.1.2.1
theorem LM{p:Pr}{i:Nat}{s:Sm}{r:List Sm}(h:uf p i (s::r)=true)(h2:(s.kind==3)=true):0<=s.index/\s.index<p.lines.length:=by
 simp only[uf,wfS,Bool.and_eq_true,h2,Bool.not_true,Bool.false_or,decide_eq_true_eq]at h;exact h.1.2.2
theorem ZM(f B:Sp):sameL [.i (mm2 false f.1 B.1),.i (mm2 true f.2 B.2)] [.i B.1,.i B.2]=(decide (f.1>=B.1)&&decide (f.2<=B.2)):=by
 rw[Bool.eq_iff_iff]
 simp only[sameL,sameS,Bool.and_true,Bool.and_eq_true,beq_iff_eq,decide_eq_true_eq,mm2]
 constructor
 ·rintro⟨h1,h2⟩
  split at h1<;>split at h2<;>omega
 ·rintro⟨h1,h2⟩
  split<;>split<;>omega
theorem RH{p:Pr}{s:Sm}{f B:Sp}{b:Bool}(hB:jl p s=B)(h:(!(sameL [.i (mm2 false f.1 B.1),.i (mm2 true f.2 B.2)] [.i B.1,.i B.2]))=b):within p s f = !b:=by
 rw[ZM]at h
 rw[within,hB,<-h,Bool.not_not]
theorem jO{p:Pr}{s:Sm}{f B:Sp}(hB:jl p s=B)(h:(!(sameL [.i (mm2 false f.1 B.1),.i (mm2 true f.2 B.2)] [.i B.1,.i B.2]))=true):within p s f=false:=RH hB h
theorem lw{p:Pr}{s:Sm}{f B:Sp}(hB:jl p s=B)(h:(!(sameL [.i (mm2 false f.1 B.1),.i (mm2 true f.2 B.2)] [.i B.1,.i B.2]))=false):within p s f=true:=RH hB h
theorem z4h{p:Pr}{s:Sm}(h:(s.kind==2)=true):jl p s=((bU p s.index).lo,(bU p s.index).hi):=by rw[jl,h];rfl
theorem z4i{p:Pr}{s:Sm}(h:(s.kind==2)=false)(h3:(s.kind==3)=true):jl p s=((bY p s.index).lo,(bY p s.index).hi):=by rw[jl,h,h3];rfl
theorem z4j{p:Pr}{s:Sm}(h:(s.kind==2)=false)(h3:(s.kind==3)=false)(h4:(s.kind==4)=true):jl p s=(-2147483648,2147483647):=by rw[jl,h,h3,h4];rfl
theorem z4k{p:Pr}{s:Sm}(h:(s.kind==2)=false)(h3:(s.kind==3)=false)(h4:(s.kind==4)=false):jl p s=(-4611686018427387904,4611686018427387904):=by rw[jl,h,h3,h4];rfl
def gK(p:Pr):List Sm->List Sp->List Sp
 | [],found=>found
 |s::r,found=>match dH p found s.x with
  | .error _=>found
  | .ok f=>if within p s f then gK p r (found++[f])else found
theorem VU{p:Pr}{s:Sm}{r:List Sm}{F:List Sp}{f:Sp}(h:dH p F s.x = .ok f)(hw:within p s f=true):bM p (s::r) F=bM p r (F++[f])/\gK p (s::r) F=gK p r (F++[f]):=by
 constructor
 ·rw[bM,h];simp only[hw,if_true]
 ·rw[gK,h];simp only[hw,if_true]
theorem VV{p:Pr}{s:Sm}{r:List Sm}{F:List Sp}{e:Int}(h:dH p F s.x = .error e):bM p (s::r) F = .error e/\gK p (s::r) F=F:=by
 constructor
 ·rw[bM,h]
 ·rw[gK,h]
theorem VW{p:Pr}{s:Sm}{r:List Sm}{F:List Sp}{f:Sp}(h:dH p F s.x = .ok f)(hw:within p s f=false):bM p (s::r) F = .error 161/\gK p (s::r) F=F:=by
 constructor
 ·rw[bM,h];simp only[hw];rfl
 ·rw[gK,h];simp only[hw];rfl
theorem FZ{A M:mQ->Prop}{t:TypeId}{r:Except Int Sp}(hA:A (Ry t r))(h1:∀s,r = .ok s->M (.ret (.agg [.i s.1,.i s.2])))(h2:∀e,r = .error e->M (.pan (.iface t (.i e)))):∃out,A out/\M out:=by
 refine⟨_,hA,?_⟩
 cases r with
 |ok s=>exact h1 s rfl
 |error e=>exact h2 e rfl
theorem DI{l:List Sp}{s:Sp}(h:InS l)(hs:inW s.1=true/\inW s.2=true):InS (l++[s]):=by
 intro y hy
 rcases List.mem_append.1 hy with hy |hy
 ·exact h y hy
 ·rw[List.mem_singleton.1 hy];exact hs
structure StI(p:Pr)(R:Except Int (List Sp))(FF:List Sp)(i:Nat)(r:List Sm)(fs:List Sp):Prop where
 eq:bM p r fs=R
 eqF:gK p r fs=FF
 len:fs.length=i
 ins:InS fs
 wf:uf p i r=true
variable {p : Pr} {s : Sm} {r : List Sm} {R : Except Int (List Sp)} {i : Nat} {FF : List Sp} {fs : List Sp}
theorem F5(h1:bM p p.stmts []=R)(h2:gK p p.stmts []=FF)(hw:uf p 0 p.stmts=true):StI p R FF 0 p.stmts []:=⟨h1,h2,rfl,λs hs=>by simp at hs,hw⟩
theorem DJ(h:StI p R FF i (s::r) fs):wfX p fs.length s.x=true:=by rw[h.len];exact RG h.wf
theorem lC{f:Sp}(hR:Rng p)(h:StI p R FF i (s::r) fs)(q:dH p fs s.x = .ok f)(hw:within p s f=true):StI p R FF (i+1) r (fs++[f]):=by
 obtain⟨h1,h2⟩:=VU (r:=r) q hw
 exact⟨by rw[<-h1];exact h.eq,by rw[<-h2];exact h.eqF,by rw[List.length_append,h.len];rfl,DI h.ins (xH hR h.ins _ _ (DJ h) q),oU h.wf⟩
theorem RI(h:StI p R FF i [] fs):R = .ok fs/\FF=fs:=⟨h.eq.symm,h.eqF.symm⟩
theorem DK{e:Int}(h:StI p R FF i (s::r) fs)(q:dH p fs s.x = .error e):R = .error e/\FF=fs:=by
 obtain⟨h1,h2⟩:=VV (r:=r) q
 exact⟨h.eq.symm.trans h1,h.eqF.symm.trans h2⟩
theorem gZ{f:Sp}(h:StI p R FF i (s::r) fs)(q:dH p fs s.x = .ok f)(hw:within p s f=false):R = .error 161/\FF=fs:=by
 obtain⟨h1,h2⟩:=VW (r:=r) q hw
 exact⟨h.eq.symm.trans h1,h.eqF.symm.trans h2⟩
theorem F6{F:List Sp}{e:Int}(h:(Except.ok F:Except Int (List Sp)) = .error e):False:=by cases h
theorem RJ{a b:Int}(h:(Except.error a:Except Int (List Sp)) = .error b):a=b:=by cases h;rfl
def BJ{α:Type}(f:α×α->Bool)(l m:List α):Bool:=!((l.length:Int) != (m.length:Int))&&(l.zip m).all f
def z4l(v:Int×Int):Bool:=!(v.1 != v.2)
def RN(l m:List Int):Bool:=BJ z4l l m
def exE(q:Ex×Ex):Bool:=gI q.1 q.2
def z4m(l m:List Ex):Bool:=BJ exE l m
def tbE(q:Tb×Tb):Bool:=q.1.name==q.2.name&&RN q.1.values q.2.values
def smE(q:Sm×Sm):Bool:=((q.1.kind==q.2.kind&&q.1.name==q.2.name)&&q.1.index==q.2.index)&&gI q.1.x q.2.x
def RQ(a b:Pr):Bool:=(a.name==b.name&&a.latency==b.latency)&&a.tail==b.tail
def qG(a b:Pr):Bool:=((((RQ a b&&jZ a.params b.params)&&jZ a.states b.states)&&BJ zi a.lines b.lines)&&BJ tbE a.tables b.tables)&&BJ smE a.stmts b.stmts
theorem DL(a b:Ex):(a.kind==b.kind&&a.name==b.name&&a.index==b.index&&a.n==b.n&&z4m a.l b.l)=gI a b:=by
 rw[zg,z4m,BJ]
 by_cases hl:a.l.length=b.l.length
 ·rw[zh hl]
  have e:((a.l.length:Int) != (b.l.length:Int))=false:=by simp[hl]
  rw[e]
  by_cases h1:a.kind=b.kind<;>by_cases h2:a.name=b.name<;>by_cases h3:a.index=b.index<;>by_cases h4:a.n=b.n<;>simp[h1,h2,h3,h4]<;>rfl
 ·have e:((a.l.length:Int) != (b.l.length:Int))=true:=by simp;omega
  rw[e];simp
theorem VX(l m:List Bd):jZ l m=BJ BG l m:=rfl
theorem RS{α:Type}{f:α×α->Bool}(h:∀x y,f (x,y)=true↔x=y):∀l m:List α,l.length=m.length->((l.zip m).all f=true↔l=m)
 | [],[],_=>by simp
 |x::r,y::s,hl=>by
  have:=RS h r s (by simpa using hl)
  simp only[List.zip_cons_cons,List.all_cons,Bool.and_eq_true,h x y,this,List.cons.injEq]
 | [],_::_,hl=>by simp at hl
 |_::_,[],hl=>by simp at hl
theorem ug{α:Type}{f:α×α->Bool}(h:∀x y,f (x,y)=true↔x=y)(l m:List α):BJ f l m=true↔l=m:=by
 unfold BJ
 by_cases hl:l.length=m.length
 ·have e:(!((l.length:Int) != (m.length:Int)))=true:=by simp[hl]
  rw[e,Bool.true_and]
  exact RS h l m hl
 ·have e:(!((l.length:Int) != (m.length:Int)))=false:=by simp;omega
  rw[e,Bool.false_and]
  constructor
  ·intro h;cases h
  ·intro h;exact absurd (congrArg List.length h) hl
theorem VY(x y:Int):z4l (x,y)=true↔x=y:=by simp[z4l]
theorem ZN(x y:Bd):BG (x,y)=true↔x=y:=by
 obtain⟨a,b,c⟩:=x
 obtain⟨d,e,f⟩:=y
 simp[BG,Go.Fw.sameL,Go.Fw.sameS]
theorem ZO(x y:Ln):zi (x,y)=true↔x=y:=by
 obtain⟨a,b,c,d⟩:=x
 obtain⟨e,f,g,h⟩:=y
 simp[zi,Go.Fw.sameL,Go.Fw.sameS]
theorem ZP(x y:Tb):tbE (x,y)=true↔x=y:=by
 obtain⟨a,b⟩:=x
 obtain⟨c,d⟩:=y
 simp only[tbE,RN,Bool.and_eq_true,beq_iff_eq,ug VY,Tb.mk.injEq]
theorem ZQ:∀x y:Ex,gI x y=true↔x=y:=by
 refine Ex.ind λx ih y=>?_
 obtain⟨k,n,i,m,l⟩:=x
 obtain⟨k',n',i',m',l'⟩:=y
 have ih:∀z∈l,∀y,gI z y=true↔z=y:=ih
 rw[zg]
 have key:∀l l':List Ex,l.length=l'.length->(∀z∈l,∀y,gI z y=true↔z=y)->((l.zip l').all (λq=>gI q.1 q.2)=true↔l=l'):=by
  intro l
  induction l with
  |nil=>intro l' hl _;cases l' with
   |nil=>simp
   |cons _ _=>simp at hl
  |cons x r ir=>
   intro l' hl hz
   cases l' with
   |nil=>simp at hl
   |cons y s=>
    have:=ir s (by simpa using hl) (λz hz'=>hz z (by simp[hz']))
    simp only[List.zip_cons_cons,List.all_cons,Bool.and_eq_true,hz x (by simp) y,this,List.cons.injEq]
 show(if(k != k' || n != n' || i != i' || m != m' || (l.length:Int) != (l'.length:Int))=true then false else Ref15.sameL l l')=true↔_
 by_cases hl:l.length=l'.length
 ·have:=key l l' hl ih
  rw[zh hl]
  rw[Ex.mk.injEq,<-this]
  by_cases h1:k=k'<;>by_cases h2:n=n'<;>by_cases h3:i=i'<;>by_cases h4:m=m'<;>simp[h1,h2,h3,h4,hl]
 ·have e:((l.length:Int) != (l'.length:Int))=true:=by simp;omega
  rw[e,Bool.or_true,if_pos rfl]
  constructor
  ·intro h;cases h
  ·intro h
   injection h with _ _ _ _ h
   exact absurd (congrArg List.length h) hl
theorem ZR(x y:Sm):smE (x,y)=true↔x=y:=by
 obtain⟨a,b,c,d⟩:=x
 obtain⟨e,f,g,h⟩:=y
 simp only[smE,Bool.and_eq_true,beq_iff_eq,ZQ,Sm.mk.injEq,and_assoc]
theorem iH(a b:Pr):qG a b=true↔a=b:=by
 obtain⟨a1,a2,a3,a4,a5,a6,a7,a8⟩:=a
 obtain⟨b1,b2,b3,b4,b5,b6,b7,b8⟩:=b
 simp only[qG,RQ,VX,Bool.and_eq_true,beq_iff_eq,ug ZN,ug ZO,ug ZP,ug ZR,Pr.mk.injEq,and_assoc]
end Go.Fw.Rg
