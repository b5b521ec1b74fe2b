/- The functions of package ranges and of its reference, as plain functions. -/
import Derived.KernelRfl
import Derived.Test.YthpbakljheeabaaGreatDoorZDB
set_option linter.unusedSectionVars false
set_option linter.unusedSimpArgs false
set_option linter.unusedVariables false
namespace Go.Fw.Rg
open Go.Fw Go.Fw.Ref15
variable [ah]
abbrev Sp:=Int×Int
abbrev Sp.cs(s:Sp):List D:=[.i s.1,.i s.2]
abbrev Sp.d(s:Sp):D:=.agg [.i s.1,.i s.2]
def inW(n:Int):Bool:=decide (-4611686018427387904<=n)&&decide (n<=4611686018427387904)
def okW(n:Int):Except Int Int:=if inW n then .ok n else .error 160
def qw(x:Int):Int:=if x < -2147483648 then -2147483648 else if x>2147483647 then 2147483647 else x
def o9(a n:Int):Int:=a / n
def RX(a:Sp):Sp:=if a.1>=0 then a else if a.2<=0 then(-a.2,-a.1)else(0,mm2 true (-a.1) a.2)
def MB(a b c d:Int):Int:=mm2 false (mm2 false (mm2 false a b) c) d
def MC(a b c d:Int):Int:=mm2 true (mm2 true (mm2 true a b) c) d
def two(lo hi:Int):Except Int Sp:=if inW lo&&inW hi then .ok (lo,hi)else .error 160
def prodM(a b:Sp):Except Int Sp:=
 if inW (a.1 * b.1)&&inW (a.1 * b.2)&&inW (a.2 * b.1)&&inW (a.2 * b.2)then .ok (MB (a.1 * b.1) (a.1 * b.2) (a.2 * b.1) (a.2 * b.2),MC (a.1 * b.1) (a.1 * b.2) (a.2 * b.1) (a.2 * b.2))else .error 160
def aheadM(s:Sp):Except Int Sp:=if(decide (s.1<0) || decide (s.2>4096))=true then .error 161 else .ok (-2147483648,2147483647)
def minL:Int->List Int->Int
 |m,[]=>m
 |m,v::r=>minL (mm2 false m v) r
def maxL:Int->List Int->Int
 |m,[]=>m
 |m,v::r=>maxL (mm2 true m v) r
abbrev Bd.none:Bd:=⟨[],0,0⟩
abbrev Ln.none:Ln:=⟨[],0,0,0⟩
abbrev Tb.none:Tb:=⟨[],[]⟩
abbrev Sm.none:Sm:=⟨0,[],0,Ex.none⟩
abbrev jS(p:Pr)(i:Int):Bd:=p.params.getD i.toNat Bd.none
abbrev bU(p:Pr)(i:Int):Bd:=p.states.getD i.toNat Bd.none
abbrev cu(p:Pr)(i:Int):Ln:=p.lines.getD i.toNat Ln.none
abbrev aO(p:Pr)(i:Int):List Int:=(p.tables.getD i.toNat Tb.none).values
def opM(p:Pr)(found:List Sp)(k i m:Int)(l:List Sp):Except Int Sp:=
 if k==1 then .ok (m,m)
 else if k==3 then .ok ((jS p i).lo,(jS p i).hi)
 else if k==4 then .ok ((bU p i).lo,(bU p i).hi)
 else if k==5 then .ok (found.getD i.toNat (0,0))
 else if k==6 || k==7 then aheadM (l.getD 0 (0,0))
 else if k==8 then .ok (mm2 false (cu p i).lo 0,mm2 true (cu p i).hi 0)
 else if k==9 then .ok (minL ((aO p i).getD 0 0) (aO p i),maxL ((aO p i).getD 0 0) (aO p i))
 else if k==10 then .ok (qw (l.getD 0 (0,0)).1,qw (l.getD 0 (0,0)).2)
 else if k==11 then .ok (mm2 false (l.getD 0 (0,0)).1 (l.getD 1 (0,0)).1,mm2 false (l.getD 0 (0,0)).2 (l.getD 1 (0,0)).2)
 else if k==12 then .ok (mm2 true (l.getD 0 (0,0)).1 (l.getD 1 (0,0)).1,mm2 true (l.getD 0 (0,0)).2 (l.getD 1 (0,0)).2)
 else if k==13 then .ok (RX (l.getD 0 (0,0)))
 else if k==14 then .ok (-(l.getD 0 (0,0)).2,-(l.getD 0 (0,0)).1)
 else if k==15 then two ((l.getD 0 (0,0)).1+(l.getD 1 (0,0)).1) ((l.getD 0 (0,0)).2+(l.getD 1 (0,0)).2)
 else if k==16 then two ((l.getD 0 (0,0)).1 + -(l.getD 1 (0,0)).2) ((l.getD 0 (0,0)).2 + -(l.getD 1 (0,0)).1)
 else if k==17 then prodM (l.getD 0 (0,0)) (l.getD 1 (0,0))
 else if k==18 then .ok (o9 (l.getD 0 (0,0)).1 m,o9 (l.getD 0 (0,0)).2 m)
 else .ok (mm2 false (l.getD 2 (0,0)).1 (l.getD 3 (0,0)).1,mm2 true (l.getD 2 (0,0)).2 (l.getD 3 (0,0)).2)
mutual
def dN(p:Pr)(found:List Sp):Ex->Except Int Sp
 | .mk k _ i m l=>match di p found l with
  | .error e=>.error e
  | .ok s=>opM p found k i m s
def di(p:Pr)(found:List Sp):List Ex->Except Int (List Sp)
 | []=>.ok []
 |x::r=>match dN p found x with
  | .error e=>.error e
  | .ok s=>match di p found r with
   | .error e=>.error e
   | .ok t=>.ok (s::t)
end
theorem jD(p:Pr)(found:List Sp)(x:Ex):dN p found x=match di p found x.l with | .error e=>.error e | .ok s=>opM p found x.kind x.index x.n s:=by cases x;rw[dN];rfl
def pre(a:List Sp):Except Int (List Sp)->Except Int (List Sp)
 | .error e=>.error e
 | .ok t=>.ok (a++t)
theorem pre_nil(r:Except Int (List Sp)):pre [] r=r:=by cases r<;>rfl
theorem z4k{p:Pr}{found a:List Sp}{x:Ex}{r:List Ex}{s:Sp}(h:dN p found x = .ok s):pre a (di p found (x::r))=pre (a++[s]) (di p found r):=by
 rw[di,h]
 simp only
 cases di p found r with
 |error e=>rfl
 |ok t=>simp only[pre,List.append_assoc];rfl
theorem ZV{p:Pr}{found a:List Sp}{x:Ex}{r:List Ex}{e:Int}(h:dN p found x = .error e):pre a (di p found (x::r)) = .error e:=by
 rw[di,h];rfl
def qN(p:Pr)(n:Nat)(k i m:Int):Bool:=
 if k==1 then decide (0<=m)&&decide (m<=2147483648)
 else if k==3 then decide (0<=i)&&decide (i<p.params.length)
 else if k==4 then decide (0<=i)&&decide (i<p.states.length)
 else if k==5 then decide (0<=i)&&decide (i<n)
 else if k==8 then decide (0<=i)&&decide (i<p.lines.length)
 else if k==9 then decide (0<=i)&&decide (i<p.tables.length) && !(aO p i==[])
 else if k==18 then decide (1<=m)&&decide (m<=2147483648)
 else k==6 || k==7 || k==10 || k==11 || k==12 || k==13 || k==14 || k==15 || k==16 || k==17 || k==19
mutual
def wfX(p:Pr)(n:Nat):Ex->Bool
 | .mk k _ i m l=>((l.length:Int)==Ref15.parts k&&qN p n k i m)&&wfL p n l
def wfL(p:Pr)(n:Nat):List Ex->Bool
 | []=>true
 |x::r=>wfX p n x&&wfL p n r
end
theorem MF(p:Pr)(n:Nat)(x:Ex):wfX p n x=(((x.l.length:Int)==Ref15.parts x.kind&&qN p n x.kind x.index x.n)&&wfL p n x.l):=by cases x;rw[wfX];rfl
theorem gY{p:Pr}{n:Nat}:∀{l:List Ex},wfL p n l=true->∀y∈l,wfX p n y=true
 |x::r,h,y,hy=>by
  simp only[wfL,Bool.and_eq_true]at h
  rcases List.mem_cons.1 hy with rfl |hy
  ·exact h.1
  ·exact gY h.2 y hy
theorem Gt{p:Pr}{found:List Sp}:∀{l:List Ex} {s:List Sp},di p found l = .ok s->s.length=l.length
 | [],s,h=>by simp only[di]at h;cases h;rfl
 |x::r,s,h=>by
  simp only[di]at h
  cases hx:dN p found x with
  |error e=>rw[hx]at h;cases h
  |ok t=>
   rw[hx]at h
   simp only at h
   cases hr:di p found r with
   |error e=>rw[hr]at h;cases h
   |ok u=>
    rw[hr]at h
    cases h
    simp[Gt hr]
def InS(l:List Sp):Prop:=∀s∈l,inW s.1=true/\inW s.2=true
structure Rng(p:Pr):Prop where
 par:∀b∈p.params,-2147483648<=b.lo/\b.lo<=b.hi/\b.hi<=2147483647
 sta:∀b∈p.states,-2147483648<=b.lo/\b.lo<=b.hi/\b.hi<=2147483647
 lin:∀b∈p.lines,-2147483648<=b.lo/\b.lo<=b.hi/\b.hi<=2147483647
 tab:∀t∈p.tables,∀v∈t.values,-2147483648<=v/\v<=2147483647
theorem bZ{n:Int}:inW n=true ↔ -4611686018427387904<=n/\n<=4611686018427387904:=by simp[inW]
def jv(p:Pr)(s:Sm):Sp:=if s.kind==2 then((bU p s.index).lo,(bU p s.index).hi)else if s.kind==3 then((cu p s.index).lo,(cu p s.index).hi)else if s.kind==4 then(-2147483648,2147483647)else(-4611686018427387904,4611686018427387904)
def within(p:Pr)(s:Sm)(f:Sp):Bool:=decide (f.1>=(jv p s).1)&&decide (f.2<=(jv p s).2)
def bM(p:Pr):List Sm->List Sp->Except Int (List Sp)
 | [],found=>.ok found
 |s::r,found=>match dN p found s.x with
  | .error e=>.error e
  | .ok f=>if within p s f then bM p r (found++[f])else .error 161
end Go.Fw.Rg
namespace Go.Fw.Rg
open Go.Fw Go.Fw.Ref15
variable [ah] {a b : Int}
def z8c(a b:Int):Bool:=bif (bif (bif decide (a>0)then decide (b>0)else false)then decide (a>IntKind.i64.wrap (4611686018427387904-b))else false)then true else(bif (bif decide (a<0)then decide (b<0)else false)then decide (a<IntKind.i64.wrap (-4611686018427387904-b))else false)
theorem ZW(p q:Bool):(bif p then q else false)=(p&&q):=by cases p<;>rfl
theorem Gu(p q:Bool):(bif p then true else q)=(p || q):=by cases p<;>rfl
theorem RY(ha:inW a=true)(hb:inW b=true):z8c a b = !inW (a+b):=by
 have ha:=bZ.1 ha
 have hb:=bZ.1 hb
 have key:∀x y:Int,(0<b->x=4611686018427387904-b)->(b<0->y = -4611686018427387904-b) ->
   (bif (bif (bif decide (a>0)then decide (b>0)else false)then decide (a>x)else false)then true else(bif (bif decide (a<0)then decide (b<0)else false)then decide (a<y)else false)) = !inW (a+b):=by
  intro x y hx hy
  rw[Bool.eq_iff_iff]
  simp only[ZW,Gu,Bool.and_eq_true,Bool.or_eq_true,decide_eq_true_eq,Bool.not_eq_true',inW,Bool.and_eq_false_iff,decide_eq_false_iff_not]
  omega
 exact key _ _ (λh=>bJ (by omega) (by omega)) (λh=>bJ (by omega) (by omega))
theorem nN{n:Int}(h:inW n=true):IntKind.i64.wrap n=n:=by
 have h:=bZ.1 h
 exact bJ (by omega) (by omega)
theorem iq{n:Int}(h:inW n=true):IntKind.i64.wrap (0-n) = -n:=by
 have h:=bZ.1 h
 rw[bJ (by omega) (by omega)];omega
theorem uo{n:Int}(h:inW n=true):inW (-n)=true:=by
 have h:=bZ.1 h
 exact bZ.2 (by omega)
def OU(n:Int)(f:Bool):Bool:=bif (bif !f then true else decide (n>4611686018427387904))then true else decide (n < -4611686018427387904)
def Yn(a b:Int):Bool:=bif a==0 then true else b==0
def z4l(a b:Int):Bool:=bif (IntKind.i64.wrap ((IntKind.i64.wrap (a * b)).tdiv b)==a)then decide (mm2 true a (IntKind.i64.wrap (0-a))<=IntKind.i64.wrap ((4611686018427387904:Int).tdiv (mm2 true b (IntKind.i64.wrap (0-b)))))else false
theorem Jv(a:Int):mm2 true a (-a)=(a.natAbs:Int):=by
 simp only[mm2];split<;>omega
theorem Si{n:Nat}(h:n<=4611686018427387904):IntKind.i64.wrap (n:Int)=(n:Int):=bJ (by omega) (by omega)
theorem ZX(ha:inW a=true)(hb:inW b=true)(h0:b≠0):z4l a b=inW (a * b):=by
 have ha':=bZ.1 ha
 have hb':=bZ.1 hb
 have hv:0<b.natAbs:=Int.natAbs_pos.2 h0
 have hq:((4611686018427387904:Int).tdiv (b.natAbs:Int))=((4611686018427387904 / b.natAbs:Nat):Int):=by
  rw[Int.tdiv_eq_ediv_of_nonneg (by omega)];rfl
 have hle:4611686018427387904 / b.natAbs<=4611686018427387904:=Nat.div_le_self _ _
 have hex:(mm2 true a (IntKind.i64.wrap (0-a))<=IntKind.i64.wrap ((4611686018427387904:Int).tdiv (mm2 true b (IntKind.i64.wrap (0-b)))))↔inW (a * b)=true:=by
  rw[iq ha,iq hb,Jv,Jv,hq,Si hle,Int.ofNat_le,Nat.le_div_iff_mul_le hv,bZ,<-Int.natAbs_mul]
  omega
 unfold z4l
 cases hw:inW (a * b)with
 |true=>
  have e:IntKind.i64.wrap ((IntKind.i64.wrap (a * b)).tdiv b)=a:=by
   rw[nN hw,Int.mul_tdiv_cancel _ h0,nN ha]
  rw[e,decide_eq_true (hex.2 hw)];simp
 |false=>
  have:decide (mm2 true a (IntKind.i64.wrap (0-a))<=IntKind.i64.wrap ((4611686018427387904:Int).tdiv (mm2 true b (IntKind.i64.wrap (0-b)))))=false:=by
   apply decide_eq_false
   intro h
   rw[hex.1 h]at hw;cases hw
  rw[this]
  cases (IntKind.i64.wrap ((IntKind.i64.wrap (a * b)).tdiv b)==a)<;>rfl
theorem MG(ha:inW a=true)(hb:inW b=true)(h0:b≠0):OU (IntKind.i64.wrap (a * b)) (z4l a b) = !inW (a * b):=by
 rw[ZX ha hb h0]
 cases hw:inW (a * b)with
 |true=>
  rw[nN hw]
  have hw:=bZ.1 hw
  have e1:decide (a * b>4611686018427387904)=false:=decide_eq_false (by omega)
  have e2:decide (a * b < -4611686018427387904)=false:=decide_eq_false (by omega)
  simp only[OU,e1,e2];rfl
 |false=>rfl
theorem ZY(h:Yn a b=true):a * b=0:=by
 simp only[Yn,Gu,Bool.or_eq_true,beq_iff_eq]at h
 rcases h with rfl |rfl<;>simp
theorem ZZ(h:Yn a b=false):b≠0:=by
 simp only[Yn,Gu,Bool.or_eq_false_iff,beq_eq_false_iff_ne]at h
 exact h.2
theorem MH{a n:Int}(hn:1<=n)(h:inW a=true):inW (a / n)=true:=by
 have h:=bZ.1 h
 refine bZ.2 ⟨?_,?_⟩
 ·rw[Int.le_ediv_iff_mul_le (by omega)]
  have:(4611686018427387904:Int) * 1<=4611686018427387904 * n:=Int.mul_le_mul_of_nonneg_left hn (by omega)
  omega
 ·have:a / n<=4611686018427387904 / n:=Int.ediv_le_ediv (by omega) h.2
  have h2:(4611686018427387904:Int) / n<=4611686018427387904:=Int.ediv_le_self _ (by omega)
  omega
theorem Wp{a n:Int}(hn:1<=n)(hn2:n<=2147483648)(h:inW a=true)(h0:a<0):IntKind.i64.wrap (0-IntKind.i64.wrap ((IntKind.i64.wrap (IntKind.i64.wrap (IntKind.i64.wrap (0-a)+n)-1)).tdiv n))=o9 a n:=by
 have hw:=bZ.1 h
 rw[iq h,bJ (n:=-a+n) (by omega) (by omega),bJ (n:=-a+n-1) (by omega) (by omega),Int.tdiv_eq_ediv_of_nonneg (by omega)]
 have e:(-a+n-1) / n = -(a / n):=by
  have h1:=Int.mul_ediv_add_emod a n
  have h2:=Int.emod_nonneg a (show n≠0 by omega)
  have h3:=Int.emod_lt_of_pos a (show 0<n by omega)
  have h4:-a+n-1=(n-1-a % n)+n * (-(a / n)):=by
   rw[Int.mul_neg];omega
  rw[h4,Int.add_mul_ediv_left _ _ (by omega),Int.ediv_eq_zero_of_lt (by omega) (by omega),Int.zero_add]
 have hd:=MH hn h
 rw[e,nN (uo hd),iq (uo hd),Int.neg_neg];rfl
theorem Wq{a n:Int}(hn:1<=n)(h:inW a=true)(h0:¬a<0):IntKind.i64.wrap (a.tdiv n)=o9 a n:=by
 have hd:=MH hn h
 rw[Int.tdiv_eq_ediv_of_nonneg (by omega),nN hd];rfl
end Go.Fw.Rg
namespace Go.Fw
theorem gW[ah](T:Tbl)(A:FuncId->List D->mD->Prop)(B:FuncId->List AV->Heap->jV->Heap->Prop){kp:Nat}{Q:List Rec->Prop}{l:List Oper}{ms:List Nat}{tr:List Rec}{env:Env}{K:Heap}(bs:List Bool)(_:l.length=bs.length)(h:(ms.map λm=>m.testBit kp)=bs)(h2:wU T A B Q l bs tr env K):NR (jQ T A B kp Q l ms tr env K):=
 rest_step T A B bs h h2
theorem gi_step[ah]{g:Bool}{p:Prop}(h:g=true)(hp:p):nV g p:=nV.mk h hp
end Go.Fw
namespace Go.Fw.Rg
open Go.Fw Go.Fw.Ref15
variable [ah] {r : Except Int Sp} {t : TypeId}
theorem kT{α:Type}{f:α->List D}(d:α){k:Bool}{a b:Nat}{l:List α}{n:Int}{q:List D->Prop}(h1:k=true)(h2:a=b)(h3:0<=n)(h4:n<l.length)(h:q (f (l.getD n.toNat d))) :
  (k=true/\a=b)/\∃c,(0<=n/\(l.map f)[n.toNat]? = some c)/\q c:=by
 have h5:n.toNat<l.length:=by omega
 refine⟨⟨h1,h2⟩,_,⟨h3,?_⟩,h⟩
 rw[List.getElem?_map,List.getElem?_eq_getElem h5,List.getD_eq_getElem?_getD,List.getElem?_eq_getElem h5];rfl
theorem jT{k:Bool}{a b:Nat}{n:Int}{es:List (List D)}{q:List D->Prop}(h1:k=true)(h2:a=b)(h3:decide (0<=n/\n.toNat<es.length)=true)(h:q (es.getD n.toNat [])):(k=true/\a=b)/\∃c,(0<=n/\es[n.toNat]? = some c)/\q c:=by
 have h3:=of_decide_eq_true h3
 refine⟨⟨h1,h2⟩,_,⟨h3.1,?_⟩,h⟩
 rw[List.getD_eq_getElem?_getD,List.getElem?_eq_getElem h3.2];rfl
def Sj(t:TypeId):Except Int Sp->mD
 | .ok s=>.ret s.d
 | .error e=>.pan (.iface t (.i e))
def z8d(t:TypeId):Except Int Int->mD
 | .ok n=>.ret (.i n)
 | .error e=>.pan (.iface t (.i e))
theorem MI{A M:mD->Prop}{V:Prop}(hA:A (Sj t r))(h1:∀s,r = .ok s->M (.ret (.agg [.i s.1,.i s.2])))(h2:∀e,r = .error e->M (.pan (.iface t (.i e)))):(∃out,A out/\M out)\/V:=by
 refine .inl ⟨_,hA,?_⟩
 cases r with
 |ok s=>exact h1 s rfl
 |error e=>exact h2 e rfl
theorem jL{A M:mD->Prop}{V:Prop}{r:Except Int Int}(hA:A (z8d t r))(h1:∀n,r = .ok n->M (.ret (.i n)))(h2:∀e,r = .error e->M (.pan (.iface t (.i e)))):(∃out,A out/\M out)\/V:=by
 refine .inl ⟨_,hA,?_⟩
 cases r with
 |ok s=>exact h1 s rfl
 |error e=>exact h2 e rfl
theorem D7{T:Tbl}{rs:List ResultVar}{K0 K K1:Heap}{env:Env}{q:Prop}(s:Sp)(hs:r = .ok s)(h:FP T rs K0 (.ret (.data (.agg [.i s.1,.i s.2]))) K1 env K):FP T rs K0 (Sj t r).toA K1 env K\/q:=by
 subst hs;exact .inl h
theorem mf{K0 K K1:Heap}{x:AV}(e:Int)(hs:r = .error e)(h:fin K0 K x (.data (.iface t (.i e))) K1):Vb K0 K x K1 (Sj t r).toA:=by
 subst hs;unfold Vb;exact h
theorem BZ{a n:Int}(h:okW a = .ok n):n=a/\inW a=true:=by
 unfold okW at h
 split at h
 ·rename_i hw;cases h;exact⟨rfl,hw⟩
 ·cases h
theorem Jw{a e:Int}(h:okW a = .error e):e=160/\inW a=false:=by
 unfold okW at h
 split at h
 ·cases h
 ·rename_i hw;cases h;exact⟨rfl,by simpa using hw⟩
theorem Yo{a b x y:Int}(h1:okW a = .ok x)(h2:okW b = .ok y):two a b = .ok (x,y):=by
 obtain⟨rfl,g1⟩:=BZ h1
 obtain⟨rfl,g2⟩:=BZ h2
 rw[two,g1,g2];rfl
theorem Yp{a b e:Int}(h1:okW a = .error e):two a b = .error e:=by
 obtain⟨rfl,g1⟩:=Jw h1
 rw[two,g1];rfl
theorem Yq{a b e:Int}(h2:okW b = .error e):two a b = .error e:=by
 obtain⟨rfl,g2⟩:=Jw h2
 rw[two,g2,Bool.and_false];rfl
theorem Z4{a b:Sp}{x y z w:Int}(h1:okW (a.1 * b.1) = .ok x)(h2:okW (a.1 * b.2) = .ok y)(h3:okW (a.2 * b.1) = .ok z)(h4:okW (a.2 * b.2) = .ok w):prodM a b = .ok (MB x y z w,MC x y z w):=by
 obtain⟨rfl,g1⟩:=BZ h1
 obtain⟨rfl,g2⟩:=BZ h2
 obtain⟨rfl,g3⟩:=BZ h3
 obtain⟨rfl,g4⟩:=BZ h4
 rw[prodM,g1,g2,g3,g4];rfl
theorem xU{a b:Sp}{e:Int}(h:okW (a.1 * b.1) = .error e\/okW (a.1 * b.2) = .error e\/okW (a.2 * b.1) = .error e\/okW (a.2 * b.2) = .error e):prodM a b = .error e:=by
 rcases h with h |h |h |h<;>obtain⟨rfl,g⟩:=Jw h<;>rw[prodM,g]<;>simp
variable [ah] {p : Pr} {found sl : List Sp} {l : List Ex}
theorem kinds{k:Int}{n:Nat}{i m:Int}(h:qN p n k i m=true):k=1\/k=3\/k=4\/k=5\/k=6\/k=7\/k=8\/k=9\/k=10\/k=11\/k=12\/k=13\/k=14\/k=15\/k=16\/k=17\/k=18\/k=19:=by
 have h1:∀n:Int,¬k=n->(k==n)=false:=λn hn=>by simpa using hn
 have key:¬(k=1\/k=3\/k=4\/k=5\/k=6\/k=7\/k=8\/k=9\/k=10\/k=11\/k=12\/k=13\/k=14\/k=15\/k=16\/k=17\/k=18\/k=19)->False:=by
  intro hn
  unfold qN at h
  rw[h1 1 (by omega),h1 3 (by omega),h1 4 (by omega),h1 5 (by omega),h1 6 (by omega),h1 7 (by omega),h1 8 (by omega),h1 9 (by omega),h1 10 (by omega),h1 11 (by omega),h1 12 (by omega),h1 13 (by omega),h1 14 (by omega),h1 15 (by omega),h1 16 (by omega),h1 17 (by omega),h1 18 (by omega),h1 19 (by omega)]at h
  cases h
 exact Decidable.byContradiction key
theorem getD_in{l:List Sp}(h:InS l)(n:Nat):inW (l.getD n (0,0)).1=true/\inW (l.getD n (0,0)).2=true:=by
 rw[List.getD_eq_getElem?_getD]
 cases hn:l[n]? with
 |none=>exact⟨by decide,by decide⟩
 |some s=>exact h s (List.mem_of_getElem? hn)
theorem getD_mem'{α:Type}{l:List α}{n:Int}(d:α)(h0:0<=n)(h1:n<l.length):l.getD n.toNat d∈l:=by
 have h:n.toNat<l.length:=by omega
 rw[List.getD_eq_getElem?_getD,List.getElem?_eq_getElem h]
 exact List.getElem_mem h
theorem kU{b:Bool}{x y:Int}(hx:inW x=true)(hy:inW y=true):inW (mm2 b x y)=true:=by
 cases b<;>simp only[mm2]<;>split<;>assumption
theorem fM{x:Int}(h1:-2147483648<=x)(h2:x<=2147483648):inW x=true:=bZ.2 (by omega)
theorem Sl(x:Int):-2147483648<=qw x/\qw x<=2147483647:=by
 unfold qw;repeat' split
 all_goals omega
theorem Jy:∀(l:List Int) (m:Int),minL m l<=m/\(∀v∈l,minL m l<=v)/\(minL m l=m\/minL m l∈l)
 | [],m=>⟨Int.le_refl _,by simp,.inl rfl⟩
 |v::r,m=>by
  obtain⟨h1,h2,h3⟩:=Jy r (mm2 false m v)
  have e:minL m (v::r)=minL (mm2 false m v) r:=rfl
  have hm:mm2 false m v<=m/\mm2 false m v<=v/\(mm2 false m v=m\/mm2 false m v=v):=by simp only[mm2];split<;>omega
  rw[e]
  refine⟨by omega,λw hw=>?_,?_⟩
  ·rcases List.mem_cons.1 hw with rfl |hw
   ·omega
   ·exact h2 w hw
  ·rcases h3 with h3 |h3
   ·rcases hm.2.2 with h |h
    ·left;omega
    ·right;rw[h3,h];simp
   ·right;simp[h3]
theorem Jz:∀(l:List Int) (m:Int),m<=maxL m l/\(∀v∈l,v<=maxL m l)/\(maxL m l=m\/maxL m l∈l)
 | [],m=>⟨Int.le_refl _,by simp,.inl rfl⟩
 |v::r,m=>by
  obtain⟨h1,h2,h3⟩:=Jz r (mm2 true m v)
  have e:maxL m (v::r)=maxL (mm2 true m v) r:=rfl
  have hm:m<=mm2 true m v/\v<=mm2 true m v/\(mm2 true m v=m\/mm2 true m v=v):=by simp only[mm2];split<;>omega
  rw[e]
  refine⟨by omega,λw hw=>?_,?_⟩
  ·rcases List.mem_cons.1 hw with rfl |hw
   ·omega
   ·exact h2 w hw
  ·rcases h3 with h3 |h3
   ·rcases hm.2.2 with h |h
    ·left;omega
    ·right;rw[h3,h];simp
   ·right;simp[h3]
theorem uq{a s:Sp}(h:aheadM a = .ok s):s=(-2147483648,2147483647):=by
 unfold aheadM at h
 split at h
 ·cases h
 ·cases h;rfl
theorem JA{a b:Int}{s:Sp}(h:two a b = .ok s):s=(a,b)/\inW a=true/\inW b=true:=by
 unfold two at h
 split at h
 ·rename_i hw
  simp only[Bool.and_eq_true]at hw
  cases h
  exact⟨rfl,hw.1,hw.2⟩
 ·cases h
theorem MJ{a b s:Sp}(h:prodM a b = .ok s):s=(MB (a.1 * b.1) (a.1 * b.2) (a.2 * b.1) (a.2 * b.2),MC (a.1 * b.1) (a.1 * b.2) (a.2 * b.1) (a.2 * b.2))/\inW (a.1 * b.1)=true/\inW (a.1 * b.2)=true/\inW (a.2 * b.1)=true/\inW (a.2 * b.2)=true:=by
 unfold prodM at h
 split at h
 ·rename_i hw
  simp only[Bool.and_eq_true]at hw
  cases h
  exact⟨rfl,hw.1.1.1,hw.1.1.2,hw.1.2,hw.2⟩
 ·cases h
theorem in2{x y:Int}(h1:inW x=true)(h2:inW y=true):inW ((x,y):Sp).1=true/\inW ((x,y):Sp).2=true:=⟨h1,h2⟩
theorem z4m{found l:List Sp}{k i m:Int}{s:Sp}(hR:Rng p)(hF:InS found)(hs:InS l)(hw:qN p found.length k i m=true)(h:opM p found k i m l = .ok s):inW s.1=true/\inW s.2=true:=by
 have g:=getD_in hs
 rcases kinds hw with rfl |rfl |rfl |rfl |rfl |rfl |rfl |rfl |rfl |rfl |rfl |rfl |rfl |rfl |rfl |rfl |rfl |rfl
 ·have hw:(decide (0<=m)&&decide (m<=2147483648))=true:=hw
  simp at hw
  have h:Except.ok (m,m)=Except.ok s:=h
  cases h
  exact in2 (fM (by omega) (by omega)) (fM (by omega) (by omega))
 ·have hw:(decide (0<=i)&&decide (i<p.params.length))=true:=hw
  simp only[Bool.and_eq_true,decide_eq_true_eq]at hw
  have h:Except.ok ((jS p i).lo,(jS p i).hi)=Except.ok s:=h
  cases h
  have:-2147483648<=(jS p i).lo/\(jS p i).lo<=(jS p i).hi/\(jS p i).hi<=2147483647:=hR.par _ (getD_mem' Bd.none hw.1 hw.2)
  exact in2 (fM (by omega) (by omega)) (fM (by omega) (by omega))
 ·have hw:(decide (0<=i)&&decide (i<p.states.length))=true:=hw
  simp only[Bool.and_eq_true,decide_eq_true_eq]at hw
  have h:Except.ok ((bU p i).lo,(bU p i).hi)=Except.ok s:=h
  cases h
  have:-2147483648<=(bU p i).lo/\(bU p i).lo<=(bU p i).hi/\(bU p i).hi<=2147483647:=hR.sta _ (getD_mem' Bd.none hw.1 hw.2)
  exact in2 (fM (by omega) (by omega)) (fM (by omega) (by omega))
 ·have h:Except.ok (found.getD i.toNat (0,0))=Except.ok s:=h
  cases h
  exact getD_in hF _
 ·obtain rfl:=uq (show aheadM (l.getD 0 (0,0)) = .ok s from h)
  exact in2 (by decide) (by decide)
 ·obtain rfl:=uq (show aheadM (l.getD 0 (0,0)) = .ok s from h)
  exact in2 (by decide) (by decide)
 ·have hw:(decide (0<=i)&&decide (i<p.lines.length))=true:=hw
  simp only[Bool.and_eq_true,decide_eq_true_eq]at hw
  have h:Except.ok (mm2 false (cu p i).lo 0,mm2 true (cu p i).hi 0)=Except.ok s:=h
  cases h
  have:-2147483648<=(cu p i).lo/\(cu p i).lo<=(cu p i).hi/\(cu p i).hi<=2147483647:=hR.lin _ (getD_mem' Ln.none hw.1 hw.2)
  exact in2 (kU (fM (by omega) (by omega)) (by decide)) (kU (fM (by omega) (by omega)) (by decide))
 ·have hw:(decide (0<=i)&&decide (i<p.tables.length) && !(aO p i==[]))=true:=hw
  simp only[Bool.and_eq_true,decide_eq_true_eq]at hw
  have h:Except.ok (minL ((aO p i).getD 0 0) (aO p i),maxL ((aO p i).getD 0 0) (aO p i))=Except.ok s:=h
  cases h
  have ht:=hR.tab _ (getD_mem' Tb.none hw.1.1 hw.1.2)
  have h0:-2147483648<=(aO p i).getD 0 0/\(aO p i).getD 0 0<=2147483647:=by
   rw[List.getD_eq_getElem?_getD]
   cases hn:(aO p i)[0]? with
   |none=>exact⟨by decide,by decide⟩
   |some v=>exact ht v (List.mem_of_getElem? hn)
  have h1:=Jy (aO p i) ((aO p i).getD 0 0)
  have h2:=Jz (aO p i) ((aO p i).getD 0 0)
  constructor
  ·rcases h1.2.2 with h |h
   ·show inW (minL _ _)=true
    rw[h];exact fM (by omega) (by omega)
   ·have:=ht _ h
    exact fM (by omega) (by omega)
  ·rcases h2.2.2 with h |h
   ·show inW (maxL _ _)=true
    rw[h];exact fM (by omega) (by omega)
   ·have:=ht _ h
    exact fM (by omega) (by omega)
 ·have h:Except.ok (qw (l.getD 0 (0,0)).1,qw (l.getD 0 (0,0)).2)=Except.ok s:=h
  cases h
  have h1:=Sl (l.getD 0 (0,0)).1
  have h2:=Sl (l.getD 0 (0,0)).2
  exact in2 (fM (by omega) (by omega)) (fM (by omega) (by omega))
 ·have h:Except.ok (mm2 false (l.getD 0 (0,0)).1 (l.getD 1 (0,0)).1,mm2 false (l.getD 0 (0,0)).2 (l.getD 1 (0,0)).2)=Except.ok s:=h
  cases h
  exact in2 (kU (g 0).1 (g 1).1) (kU (g 0).2 (g 1).2)
 ·have h:Except.ok (mm2 true (l.getD 0 (0,0)).1 (l.getD 1 (0,0)).1,mm2 true (l.getD 0 (0,0)).2 (l.getD 1 (0,0)).2)=Except.ok s:=h
  cases h
  exact in2 (kU (g 0).1 (g 1).1) (kU (g 0).2 (g 1).2)
 ·have h:Except.ok (RX (l.getD 0 (0,0)))=Except.ok s:=h
  cases h
  unfold RX
  repeat' split
  ·exact g 0
  ·exact in2 (uo (g 0).2) (uo (g 0).1)
  ·exact in2 (by decide) (kU (uo (g 0).1) (g 0).2)
 ·have h:Except.ok (-(l.getD 0 (0,0)).2,-(l.getD 0 (0,0)).1)=Except.ok s:=h
  cases h
  exact in2 (uo (g 0).2) (uo (g 0).1)
 ·obtain⟨rfl,h1,h2⟩:=JA (show two ((l.getD 0 (0,0)).1+(l.getD 1 (0,0)).1) ((l.getD 0 (0,0)).2+(l.getD 1 (0,0)).2) = .ok s from h)
  exact⟨h1,h2⟩
 ·obtain⟨rfl,h1,h2⟩:=JA (show two ((l.getD 0 (0,0)).1 + -(l.getD 1 (0,0)).2) ((l.getD 0 (0,0)).2 + -(l.getD 1 (0,0)).1) = .ok s from h)
  exact⟨h1,h2⟩
 ·obtain⟨rfl,h1,h2,h3,h4⟩:=MJ (show prodM (l.getD 0 (0,0)) (l.getD 1 (0,0)) = .ok s from h)
  exact in2 (kU (kU (kU h1 h2) h3) h4) (kU (kU (kU h1 h2) h3) h4)
 ·have hw:(decide (1<=m)&&decide (m<=2147483648))=true:=hw
  simp only[Bool.and_eq_true,decide_eq_true_eq]at hw
  have h:Except.ok (o9 (l.getD 0 (0,0)).1 m,o9 (l.getD 0 (0,0)).2 m)=Except.ok s:=h
  cases h
  exact in2 (MH hw.1 (g 0).1) (MH hw.1 (g 0).2)
 ·have h:Except.ok (mm2 false (l.getD 2 (0,0)).1 (l.getD 3 (0,0)).1,mm2 true (l.getD 2 (0,0)).2 (l.getD 3 (0,0)).2)=Except.ok s:=h
  cases h
  exact in2 (kU (g 2).1 (g 3).1) (kU (g 2).2 (g 3).2)
theorem findL_in'{found:List Sp}:∀{l:List Ex} {t:List Sp},(∀x∈l,∀s:Sp,wfX p found.length x=true->dN p found x = .ok s->inW s.1=true/\inW s.2=true)->wfL p found.length l=true->di p found l = .ok t->InS t
 | [],t,_,_,h=>by simp only[di]at h;cases h;intro s hs;simp at hs
 |x::r,t,ih,hw,h=>by
  simp only[wfL,Bool.and_eq_true]at hw
  simp only[di]at h
  cases hx:dN p found x with
  |error e=>rw[hx]at h;cases h
  |ok s=>
   rw[hx]at h
   simp only at h
   cases hr:di p found r with
   |error e=>rw[hr]at h;cases h
   |ok u=>
    rw[hr]at h
    cases h
    intro y hy
    rcases List.mem_cons.1 hy with rfl |hy
    ·exact ih x (by simp) _ hw.1 hx
    ·exact findL_in' (λx hx=>ih x (by simp[hx])) hw.2 hr y hy
theorem bG{n:Nat}{x:Ex}(h:wfX p n x=true):(x.l.length:Int)=Ref15.parts x.kind/\qN p n x.kind x.index x.n=true/\wfL p n x.l=true:=by
 rw[MF]at h
 simp only[Bool.and_eq_true,beq_iff_eq]at h
 exact⟨h.1.1,h.1.2,h.2⟩
theorem xW{found:List Sp}(hR:Rng p)(hF:InS found):∀(x:Ex) (s:Sp),wfX p found.length x=true->dN p found x = .ok s->inW s.1=true/\inW s.2=true:=by
 refine Ex.ind λx ih s hw h=>?_
 obtain⟨_,h2,h3⟩:=bG hw
 rw[jD]at h
 cases hl:di p found x.l with
 |error e=>rw[hl]at h;cases h
 |ok t=>
  rw[hl]at h
  exact z4m hR hF (findL_in' ih h3 hl) h2 h
theorem Ws{found:List Sp}(hR:Rng p)(hF:InS found){t:List Sp}(hw:wfL p found.length l=true)(h:di p found l = .ok t):InS t:=
 findL_in' (λx _ s=>xW hR hF x s) hw h
theorem mP:∀{l:List Ex} {y:Ex},y∈l->Ref15.nodes y<=Ref15.nodesL l
 |x::r,y,h=>by
  simp only[Ref15.nodesL]
  rcases List.mem_cons.1 h with rfl |h
  ·omega
  ·have:=mP h;omega
theorem xX{x:Ex}(h:pre sl (di p found [])=di p found x.l):dN p found x=opM p found x.kind x.index x.n sl/\di p found x.l = .ok sl:=by
 have e:di p found x.l = .ok sl:=by rw[<-h];simp[di,pre]
 exact⟨by rw[jD,e],e⟩
theorem Wu{x y:Ex}{r:List Ex}{e:Int}(h:pre sl (di p found (y::r))=di p found x.l)(hy:dN p found y = .error e):dN p found x = .error e:=by
 rw[ZV hy]at h
 rw[jD,<-h]
theorem Sr{x y:Ex}{r:List Ex}{s:Sp}(h:pre sl (di p found (y::r))=di p found x.l)(hy:dN p found y = .ok s):pre (sl++[s]) (di p found r)=di p found x.l:=by
 rw[<-h,z4k hy]
theorem zM{sl:List Sp}(h:sl.length=1):∃a,sl = [a]:=by
 match sl,h with
 | [a],_=>exact⟨a,rfl⟩
theorem Su{sl:List Sp}(h:sl.length=2):∃a b,sl = [a,b]:=by
 match sl,h with
 | [a,b],_=>exact⟨a,b,rfl⟩
theorem z8e{sl:List Sp}(h:sl.length=4):∃a b c d,sl = [a,b,c,d]:=by
 match sl,h with
 | [a,b,c,d],_=>exact⟨a,b,c,d,rfl⟩
end Go.Fw.Rg
namespace Go.Fw.Rg
open Go.Fw Go.Fw.Ref15
variable [ah]
def wfS(p:Pr)(i:Nat)(s:Sm):Bool:=wfX p i s.x&&((!(s.kind==2) || (decide (0<=s.index)&&decide (s.index<p.states.length)))&&(!(s.kind==3) || (decide (0<=s.index)&&decide (s.index<p.lines.length))))
def ut(p:Pr):Nat->List Sm->Bool
 |_,[]=>true
 |i,s::r=>wfS p i s&&ut p (i+1) r
theorem pg{p:Pr}{i:Nat}{s:Sm}{r:List Sm}(h:ut p i (s::r)=true):ut p (i+1) r=true:=by
 simp only[ut,Bool.and_eq_true]at h;exact h.2
theorem SA{p:Pr}{i:Nat}{s:Sm}{r:List Sm}(h:ut p i (s::r)=true):wfX p i s.x=true:=by
 simp only[ut,wfS,Bool.and_eq_true]at h;exact h.1.1
theorem MK{p:Pr}{i:Nat}{s:Sm}{r:List Sm}(h:ut p i (s::r)=true)(h2:(s.kind==2)=true):0<=s.index/\s.index<p.states.length:=by
 simp only[ut,wfS,Bool.and_eq_true,h2,Bool.not_true,Bool.false_or,decide_eq_true_eq]at h;exact h.1.2.1
theorem ML{p:Pr}{i:Nat}{s:Sm}{r:List Sm}(h:ut p i (s::r)=true)(h2:(s.kind==3)=true):0<=s.index/\s.index<p.lines.length:=by
 simp only[ut,wfS,Bool.and_eq_true,h2,Bool.not_true,Bool.false_or,decide_eq_true_eq]at h;exact h.1.2.2
theorem Z5(f B:Sp):sameL [.i (mm2 false f.1 B.1),.i (mm2 true f.2 B.2)] [.i B.1,.i B.2]=(decide (f.1>=B.1)&&decide (f.2<=B.2)):=by
 rw[Bool.eq_iff_iff]
 simp only[sameL,sameS,Bool.and_true,Bool.and_eq_true,beq_iff_eq,decide_eq_true_eq,mm2]
 constructor
 ·rintro⟨h1,h2⟩
  split at h1<;>split at h2<;>omega
 ·rintro⟨h1,h2⟩
  split<;>split<;>omega
theorem SB{p:Pr}{s:Sm}{f B:Sp}{b:Bool}(hB:jv p s=B)(h:(!(sameL [.i (mm2 false f.1 B.1),.i (mm2 true f.2 B.2)] [.i B.1,.i B.2]))=b):within p s f = !b:=by
 rw[Z5]at h
 rw[within,hB,<-h,Bool.not_not]
theorem jU{p:Pr}{s:Sm}{f B:Sp}(hB:jv p s=B)(h:(!(sameL [.i (mm2 false f.1 B.1),.i (mm2 true f.2 B.2)] [.i B.1,.i B.2]))=true):within p s f=false:=SB hB h
theorem lH{p:Pr}{s:Sm}{f B:Sp}(hB:jv p s=B)(h:(!(sameL [.i (mm2 false f.1 B.1),.i (mm2 true f.2 B.2)] [.i B.1,.i B.2]))=false):within p s f=true:=SB hB h
theorem z4n{p:Pr}{s:Sm}(h:(s.kind==2)=true):jv p s=((bU p s.index).lo,(bU p s.index).hi):=by rw[jv,h];rfl
theorem z4o{p:Pr}{s:Sm}(h:(s.kind==2)=false)(h3:(s.kind==3)=true):jv p s=((cu p s.index).lo,(cu p s.index).hi):=by rw[jv,h,h3];rfl
theorem z4p{p:Pr}{s:Sm}(h:(s.kind==2)=false)(h3:(s.kind==3)=false)(h4:(s.kind==4)=true):jv p s=(-2147483648,2147483647):=by rw[jv,h,h3,h4];rfl
theorem z4q{p:Pr}{s:Sm}(h:(s.kind==2)=false)(h3:(s.kind==3)=false)(h4:(s.kind==4)=false):jv p s=(-4611686018427387904,4611686018427387904):=by rw[jv,h,h3,h4];rfl
def gX(p:Pr):List Sm->List Sp->List Sp
 | [],found=>found
 |s::r,found=>match dN p found s.x with
  | .error _=>found
  | .ok f=>if within p s f then gX p r (found++[f])else found
theorem Wv{p:Pr}{s:Sm}{r:List Sm}{F:List Sp}{f:Sp}(h:dN p F s.x = .ok f)(hw:within p s f=true):bM p (s::r) F=bM p r (F++[f])/\gX p (s::r) F=gX p r (F++[f]):=by
 constructor
 ·rw[bM,h];simp only[hw,if_true]
 ·rw[gX,h];simp only[hw,if_true]
theorem Wx{p:Pr}{s:Sm}{r:List Sm}{F:List Sp}{e:Int}(h:dN p F s.x = .error e):bM p (s::r) F = .error e/\gX p (s::r) F=F:=by
 constructor
 ·rw[bM,h]
 ·rw[gX,h]
theorem Wy{p:Pr}{s:Sm}{r:List Sm}{F:List Sp}{f:Sp}(h:dN p F s.x = .ok f)(hw:within p s f=false):bM p (s::r) F = .error 161/\gX p (s::r) F=F:=by
 constructor
 ·rw[bM,h];simp only[hw];rfl
 ·rw[gX,h];simp only[hw];rfl
theorem Gv{A M:mD->Prop}{t:TypeId}{r:Except Int Sp}(hA:A (Sj t r))(h1:∀s,r = .ok s->M (.ret (.agg [.i s.1,.i s.2])))(h2:∀e,r = .error e->M (.pan (.iface t (.i e)))):∃out,A out/\M out:=by
 refine⟨_,hA,?_⟩
 cases r with
 |ok s=>exact h1 s rfl
 |error e=>exact h2 e rfl
theorem D8{l:List Sp}{s:Sp}(h:InS l)(hs:inW s.1=true/\inW s.2=true):InS (l++[s]):=by
 intro y hy
 rcases List.mem_append.1 hy with hy |hy
 ·exact h y hy
 ·rw[List.mem_singleton.1 hy];exact hs
structure StI(p:Pr)(R:Except Int (List Sp))(FF:List Sp)(i:Nat)(r:List Sm)(fs:List Sp):Prop where
 eq:bM p r fs=R
 eqF:gX p r fs=FF
 len:fs.length=i
 ins:InS fs
 wf:ut p i r=true
variable {p : Pr} {s : Sm} {r : List Sm} {R : Except Int (List Sp)} {i : Nat} {FF : List Sp} {fs : List Sp}
theorem Gw(h1:bM p p.stmts []=R)(h2:gX p p.stmts []=FF)(hw:ut p 0 p.stmts=true):StI p R FF 0 p.stmts []:=⟨h1,h2,rfl,λs hs=>by simp at hs,hw⟩
theorem D9(h:StI p R FF i (s::r) fs):wfX p fs.length s.x=true:=by rw[h.len];exact SA h.wf
theorem lI{f:Sp}(hR:Rng p)(h:StI p R FF i (s::r) fs)(q:dN p fs s.x = .ok f)(hw:within p s f=true):StI p R FF (i+1) r (fs++[f]):=by
 obtain⟨h1,h2⟩:=Wv (r:=r) q hw
 exact⟨by rw[<-h1];exact h.eq,by rw[<-h2];exact h.eqF,by rw[List.length_append,h.len];rfl,D8 h.ins (xW hR h.ins _ _ (D9 h) q),pg h.wf⟩
theorem SC(h:StI p R FF i [] fs):R = .ok fs/\FF=fs:=⟨h.eq.symm,h.eqF.symm⟩
theorem Ea{e:Int}(h:StI p R FF i (s::r) fs)(q:dN p fs s.x = .error e):R = .error e/\FF=fs:=by
 obtain⟨h1,h2⟩:=Wx (r:=r) q
 exact⟨h.eq.symm.trans h1,h.eqF.symm.trans h2⟩
theorem iw{f:Sp}(h:StI p R FF i (s::r) fs)(q:dN p fs s.x = .ok f)(hw:within p s f=false):R = .error 161/\FF=fs:=by
 obtain⟨h1,h2⟩:=Wy (r:=r) q hw
 exact⟨h.eq.symm.trans h1,h.eqF.symm.trans h2⟩
theorem Gx{F:List Sp}{e:Int}(h:(Except.ok F:Except Int (List Sp)) = .error e):False:=by cases h
theorem SE{a b:Int}(h:(Except.error a:Except Int (List Sp)) = .error b):a=b:=by cases h;rfl
def Cb{α:Type}(f:α×α->Bool)(l m:List α):Bool:=!((l.length:Int) != (m.length:Int))&&(l.zip m).all f
def z4r(v:Int×Int):Bool:=!(v.1 != v.2)
def SG(l m:List Int):Bool:=Cb z4r l m
def exE(q:Ex×Ex):Bool:=gV q.1 q.2
def z4s(l m:List Ex):Bool:=Cb exE l m
def tbE(q:Tb×Tb):Bool:=q.1.name==q.2.name&&SG q.1.values q.2.values
def smE(q:Sm×Sm):Bool:=((q.1.kind==q.2.kind&&q.1.name==q.2.name)&&q.1.index==q.2.index)&&gV q.1.x q.2.x
def SH(a b:Pr):Bool:=(a.name==b.name&&a.latency==b.latency)&&a.tail==b.tail
def qO(a b:Pr):Bool:=((((SH a b&&dM a.params b.params)&&dM a.states b.states)&&Cb lC a.lines b.lines)&&Cb tbE a.tables b.tables)&&Cb smE a.stmts b.stmts
theorem Eb(a b:Ex):(a.kind==b.kind&&a.name==b.name&&a.index==b.index&&a.n==b.n&&z4s a.l b.l)=gV a b:=by
 rw[zy,z4s,Cb]
 by_cases hl:a.l.length=b.l.length
 ·rw[zA hl]
  have e:((a.l.length:Int) != (b.l.length:Int))=false:=by simp[hl]
  rw[e]
  by_cases h1:a.kind=b.kind<;>by_cases h2:a.name=b.name<;>by_cases h3:a.index=b.index<;>by_cases h4:a.n=b.n<;>simp[h1,h2,h3,h4]<;>rfl
 ·have e:((a.l.length:Int) != (b.l.length:Int))=true:=by simp;omega
  rw[e];simp
theorem WA(l m:List Bd):dM l m=Cb qL l m:=rfl
theorem SI{α:Type}{f:α×α->Bool}(h:∀x y,f (x,y)=true↔x=y):∀l m:List α,l.length=m.length->((l.zip m).all f=true↔l=m)
 | [],[],_=>by simp
 |x::r,y::s,hl=>by
  have:=SI h r s (by simpa using hl)
  simp only[List.zip_cons_cons,List.all_cons,Bool.and_eq_true,h x y,this,List.cons.injEq]
 | [],_::_,hl=>by simp at hl
 |_::_,[],hl=>by simp at hl
theorem uu{α:Type}{f:α×α->Bool}(h:∀x y,f (x,y)=true↔x=y)(l m:List α):Cb f l m=true↔l=m:=by
 unfold Cb
 by_cases hl:l.length=m.length
 ·have e:(!((l.length:Int) != (m.length:Int)))=true:=by simp[hl]
  rw[e,Bool.true_and]
  exact SI h l m hl
 ·have e:(!((l.length:Int) != (m.length:Int)))=false:=by simp;omega
  rw[e,Bool.false_and]
  constructor
  ·intro h;cases h
  ·intro h;exact absurd (congrArg List.length h) hl
theorem WB(x y:Int):z4r (x,y)=true↔x=y:=by simp[z4r]
theorem Z7(x y:Bd):qL (x,y)=true↔x=y:=by
 obtain⟨a,b,c⟩:=x
 obtain⟨d,e,f⟩:=y
 simp[qL,Go.Fw.sameL,Go.Fw.sameS]
theorem Z8(x y:Ln):lC (x,y)=true↔x=y:=by
 obtain⟨a,b,c,d⟩:=x
 obtain⟨e,f,g,h⟩:=y
 simp[lC,Go.Fw.sameL,Go.Fw.sameS]
theorem Z9(x y:Tb):tbE (x,y)=true↔x=y:=by
 obtain⟨a,b⟩:=x
 obtain⟨c,d⟩:=y
 simp only[tbE,SG,Bool.and_eq_true,beq_iff_eq,uu WB,Tb.mk.injEq]
theorem z0a:∀x y:Ex,gV x y=true↔x=y:=by
 refine Ex.ind λx ih y=>?_
 obtain⟨k,n,i,m,l⟩:=x
 obtain⟨k',n',i',m',l'⟩:=y
 have ih:∀z∈l,∀y,gV z y=true↔z=y:=ih
 rw[zy]
 have key:∀l l':List Ex,l.length=l'.length->(∀z∈l,∀y,gV z y=true↔z=y)->((l.zip l').all (λq=>gV q.1 q.2)=true↔l=l'):=by
  intro l
  induction l with
  |nil=>intro l' hl _;cases l' with
   |nil=>simp
   |cons _ _=>simp at hl
  |cons x r ir=>
   intro l' hl hz
   cases l' with
   |nil=>simp at hl
   |cons y s=>
    have:=ir s (by simpa using hl) (λz hz'=>hz z (by simp[hz']))
    simp only[List.zip_cons_cons,List.all_cons,Bool.and_eq_true,hz x (by simp) y,this,List.cons.injEq]
 show(if(k != k' || n != n' || i != i' || m != m' || (l.length:Int) != (l'.length:Int))=true then false else Ref15.sameL l l')=true↔_
 by_cases hl:l.length=l'.length
 ·have:=key l l' hl ih
  rw[zA hl]
  rw[Ex.mk.injEq,<-this]
  by_cases h1:k=k'<;>by_cases h2:n=n'<;>by_cases h3:i=i'<;>by_cases h4:m=m'<;>simp[h1,h2,h3,h4,hl]
 ·have e:((l.length:Int) != (l'.length:Int))=true:=by simp;omega
  rw[e,Bool.or_true,if_pos rfl]
  constructor
  ·intro h;cases h
  ·intro h
   injection h with _ _ _ _ h
   exact absurd (congrArg List.length h) hl
theorem z0b(x y:Sm):smE (x,y)=true↔x=y:=by
 obtain⟨a,b,c,d⟩:=x
 obtain⟨e,f,g,h⟩:=y
 simp only[smE,Bool.and_eq_true,beq_iff_eq,z0a,Sm.mk.injEq,and_assoc]
theorem iO(a b:Pr):qO a b=true↔a=b:=by
 obtain⟨a1,a2,a3,a4,a5,a6,a7,a8⟩:=a
 obtain⟨b1,b2,b3,b4,b5,b6,b7,b8⟩:=b
 simp only[qO,SH,WA,Bool.and_eq_true,beq_iff_eq,uu Z7,uu Z8,uu Z9,uu z0b,Pr.mk.injEq,and_assoc]
end Go.Fw.Rg
