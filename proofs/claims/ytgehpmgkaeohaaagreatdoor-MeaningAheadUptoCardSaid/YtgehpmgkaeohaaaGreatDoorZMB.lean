/- A part of the proof. -/
import Derived.Test.YtgehpmgkaeohaaaGreatDoorZMA
import Derived.Test.YtgehpmgkaeohaaaGreatDoorZSY
set_option linter.all false
namespace Go.Fw.Mn
open Go.Fw Go.Fw.Ref15 Go.Fw.Rg Go.Fw.Tl
variable [ae]
def wG(s t:St):Bool:=Rg.intsE s.vals t.vals&&Rg.lenE (λq=>Rg.intsE q.1 q.2) s.lines t.lines
end Go.Fw.Mn
namespace Go.Fw.Mn
open Go.Fw Go.Fw.Ref15 Go.Fw.Rg Go.Fw.Tl
variable [ae] {i : Nat} {r : List (List Int)} {p : Pr} {s : St}
theorem z5s{α:Type}{P:α->Bool}{k:Nat}{l r:List α}(h:(l.take k).all P=(r.take (k-i)).all P)(hr:r = []\/k-i=0):(l.take k).all P=true:=by
 grind
theorem zgt{α:Type}{P:α->Bool}{k:Nat}{l r:List α}{x:α}(h:(l.take k).all P=((x::r).take (k-i)).all P)(hi:i<k)(hx:P x=false):(l.take k).all P=false:=by
 obtain⟨j,hj⟩:∃j,k-i=j+1:=⟨k-i-1,by omega⟩
 simp_all
theorem XZ{α:Type}{P:α->Bool}{k:Nat}{l r:List α}{x:α}(h:(l.take k).all P=((x::r).take (k-i)).all P)(hi:i<k)(hx:P x=true):(l.take k).all P=(r.take (k-(i+1))).all P:=by
 rw[h,show k-i=(k-(i+1))+1 by omega,List.take_succ_cons,List.all_cons,hx];rfl
def uA(l:Ln):Bool:=!decide (l.size>40)
def uB(l:List Int):Bool:=!decide ((l.length:Int)>100)
def fewPrM(p:Pr):Bool:=bif (p.lines.take 20).all uA then(bif Sy.fewP p then decide (p.latency<=20)else false)else false
def fewStM(s:St):Bool:=bif (s.lines.take 20).all uB then(bif decide ((s.vals.length:Int)<=30)then decide ((s.lines.length:Int)<=20)else false)else false
def zhn(p:Pr)(A:Fr):Bool:=bif (bif (bif (bif fewPrM p then fewStM ⟨A.vals,A.lines⟩else false)then decide ((A.params.length:Int)<=40)else false)then decide ((A.inp.length:Int)<=60)else false)then decide ((A.side.length:Int)<=60)else false
theorem zbg(h:(p.lines.take 20).all uA=false):fewPrM p=false:=by rw[fewPrM,h];rfl
theorem z1k(h:(p.lines.take 20).all uA=true):fewPrM p=bif Sy.fewP p then decide (p.latency<=20)else false:=by rw[fewPrM,h];rfl
theorem zbh(h:(s.lines.take 20).all uB=false):fewStM s=false:=by rw[fewStM,h];rfl
theorem z1l(h:(s.lines.take 20).all uB=true):fewStM s=bif decide ((s.vals.length:Int)<=30)then decide ((s.lines.length:Int)<=20)else false:=by rw[fewStM,h];rfl
theorem zgu{s t:St}(h:(bif !(Rg.intsE s.vals t.vals)then true else((s.lines.map lC).length:Int) != ((t.lines.map lC).length:Int))=true):false=wG s t:=by
 rw[wG]
 cases q:Rg.intsE s.vals t.vals with
 |false=>rfl
 |true=>
  grind[Rg.lenE]
theorem zbi{s t:St}(h:(bif !(Rg.intsE s.vals t.vals)then true else((s.lines.map lC).length:Int) != ((t.lines.map lC).length:Int))=false):s.lines.length=t.lines.length/\wG s t=(s.lines.zip t.lines).all λq=>Rg.intsE q.1 q.2:=by
 cases q:Rg.intsE s.vals t.vals with
 |false=>simp_all
 |true=>
  grind[wG,Rg.lenE]
theorem z1m{x:List Int×List Int}{r:List (List Int×List Int)}{b:Bool}(h:b=(x::r).all λq=>Rg.intsE q.1 q.2)(hb:(!(Rg.intsE x.1 x.2))=false):b=r.all λq=>Rg.intsE q.1 q.2:=by
 simp_all
theorem zbj{x:List Int×List Int}{r:List (List Int×List Int)}{b:Bool}(h:b=(x::r).all λq=>Rg.intsE q.1 q.2)(hb:(!(Rg.intsE x.1 x.2))=true):false=b:=by
 simp_all
theorem X0(h:(s.lines.take 20).all uB=(r.take (20-i)).all uB)(hr:r = []\/20-i=0):(bif decide (((s.vals.map aC).length:Int)<=30)then decide (((s.lines.map lC).length:Int)<=20)else false)=fewStM s:=by
 rw[z1l (z5s h hr),List.length_map,List.length_map]
theorem zgv{x:List Int}(h:(s.lines.take 20).all uB=((x::r).take (20-i)).all uB)(hi:decide ((i:Int)<20)=true)(hx:decide (((x.map aC).length:Int)>100)=true):false=fewStM s:=by
 rw[List.length_map]at hx
 exact(zbh (zgt h (by have:=of_decide_eq_true hi;omega) (by rw[uB,hx];rfl))).symm
theorem z1o{x:List Int}(h:(s.lines.take 20).all uB=((x::r).take (20-i)).all uB)(hi:decide ((i:Int)<20)=true)(hx:decide (((x.map aC).length:Int)>100)=false):(s.lines.take 20).all uB=(r.take (20-(i+1))).all uB:=by
 rw[List.length_map]at hx
 exact XZ h (by grind) (by rw[uB,hx];rfl)
theorem X3{r:List Ln}(h:(p.lines.take 20).all uA=(r.take (20-i)).all uA)(hr:r = []\/20-i=0):(bif Sy.fewP p then decide (p.latency<=20)else false)=fewPrM p:=by
 rw[z1k (z5s h hr)]
theorem zgw{x:Ln}{r:List Ln}(h:(p.lines.take 20).all uA=((x::r).take (20-i)).all uA)(hi:decide ((i:Int)<20)=true)(hx:decide (x.size>40)=true):false=fewPrM p:=by
 exact(zbg (zgt h (by have:=of_decide_eq_true hi;omega) (by rw[uA,hx];rfl))).symm
theorem z1p{x:Ln}{r:List Ln}(h:(p.lines.take 20).all uA=((x::r).take (20-i)).all uA)(hi:decide ((i:Int)<20)=true)(hx:decide (x.size>40)=false):(p.lines.take 20).all uA=(r.take (20-(i+1))).all uA:=by
 exact XZ h (by grind) (by rw[uA,hx];rfl)
theorem to0(h:decide ((i:Int)<20)=false):20-i=0:=by grind
theorem zA8{l:List Int}(h:i<l.length):0<=(i:Int)/\(l.map aC)[(i:Int).toNat]? = some (aC (l.getD i 0)):=by
 simp_all
end Go.Fw.Mn
namespace Go.Fw.Mn
open Go.Fw Go.Fw.Ref15 Go.Fw.Rg Go.Fw.Tl
variable [ae]
theorem zAh{p:Pr}{L L':Int->Int->Int->Int}(l:List Ex)(h:∀x∈l,nP p L x=nP p L' x):valXs p L l=valXs p L' l:=by
 grind[BQ,List.map_congr_left]
theorem zAo{p:Pr}{L L':Int->Int->Int->Int}{k i m:Int}{l:List Int}(h:L k i (l.getD 0 0)=L' k i (l.getD 0 0)):opE p L k i m l=opE p L' k i m l:=by
 unfold opE;rw[h]
theorem zAi{p:Pr}{L L':Int->Int->Int->Int}:∀x:Ex,(∀y∈ax x,L y.kind y.index ((valXs p L y.l).getD 0 0)=L' y.kind y.index ((valXs p L y.l).getD 0 0))->nP p L x=nP p L' x:=by
 refine Ex.ind λx ih h=>?_
 grind[zAh,z9o,NC,zAo,z9p]
abbrev zAf(A:Fr)(I S:List Int):Fr:=⟨A.params,I,S,A.vals,A.lines,A.lets⟩
structure zAs(n:Int)(A:Fr)(I S:List Int):Prop where
 li:I.length=A.inp.length
 ls:S.length=A.side.length
 ei:∀j:Nat,(j:Int)<=n->I.getD j 0=A.inp.getD j 0
 es:∀j:Nat,(j:Int)<=n->S.getD j 0=A.side.getD j 0
 vi:∀v∈I,-2147483648<=v/\v<=2147483647
 vs:∀v∈S,-2147483648<=v/\v<=2147483647
variable {p : Pr} {I S : List Int} {A : Fr} {n : Int} {F : List Sp}
theorem zAp{i:Nat}{v w:Int}(h:zAs n A I S)(hi:n<i)(hv:-2147483648<=v/\v<=2147483647)(hw:-2147483648<=w/\w<=2147483647):zAs n A (I.set i v) (S.set i w) where
 li:=by rw[List.length_set];exact h.li
 ls:=by rw[List.length_set];exact h.ls
 ei j hj:=by
  rw[List.getD_eq_getElem?_getD,List.getElem?_set_ne (by omega)];exact h.ei j hj
 es j hj:=by
  rw[List.getD_eq_getElem?_getD,List.getElem?_set_ne (by omega)];exact h.es j hj
 vi u hu:=by
  rcases List.mem_or_eq_of_mem_set hu with hu |rfl
  ·exact h.vi u hu
  ·exact hv
 vs u hu:=by
  rcases List.mem_or_eq_of_mem_set hu with hu |rfl
  ·exact h.vs u hu
  ·exact hw
theorem zA1(ha:ND p A):zAs n A A.inp A.side:=⟨rfl,rfl,λ_ _=>rfl,λ_ _=>rfl,ha.inpV,ha.sidV⟩
theorem zAq(ha:ND p A)(h:zAs n A I S):ND p (zAf A I S):=
 ⟨ha.par,ha.parV,by rw[h.li];exact ha.inp,h.vi,by rw[h.ls];exact ha.sid,h.vs,ha.val,ha.valV,ha.lin,ha.linN,ha.linV⟩
theorem zAj{i:Nat}{s:Sm}{q:Ss}(hB:BOk p F)(ha:ND p A)(h:AtS p F i q)(hs:p.stmts[i]? = some s)(hI:zAs (YH p) A I S) :
  nD p A q s=nD p (zAf A I S) q s:=by
 obtain⟨r,hr⟩:=drop_at hs
 have a:=SS hB hr
 refine zAi s.x λy hy=>?_
 cases hk:looks y with
 |false=>
  grind[looks,lfM]
 |true=>
  have hwy:=GY s.x (G7 a) y hy
  obtain⟨g1,_,_⟩:=bZ hwy
  obtain⟨z,hz⟩:∃z,y.l = [z]:=by
   have:y.l.length=1:=by
    grind[Nv,Ref15.parts]
   match hy2:y.l,this with
   | [z],_=>simp
  obtain⟨t,h1,h2,h3,h4⟩:=look_in hB hs hy hk hz
  have hin:=G5 hB.res.rng (G6 hB.fok i) (h.lf ha (Nat.le_of_lt a.lt)) z t (by rw[a.len];exact h2) h1
  rw[hz]
  show lfM (A.at q) y.kind y.index (nP p (lfM (A.at q)) z)=lfM ((zAf A I S).at q) y.kind y.index (nP p (lfM (A.at q)) z)
  generalize nP p (lfM (A.at q)) z=v at hin ⊢
  rcases Nv hk with e |e<;>rw[e]
  ·exact(hI.ei v.toNat (by omega)).symm
  ·exact(hI.es v.toNat (by omega)).symm
theorem zAd(hB:BOk p F)(ha:ND p A)(hI:zAs (YH p) A I S):∀i,i<=p.stmts.length->qH p A i=qH p (zAf A I S) i
 | 0,_=>by rfl
 |i+1,hi=>by
  obtain⟨s,hs⟩:=qG (show i<p.stmts.length from hi)
  obtain⟨r,hr⟩:=drop_at hs
  have e:=zAd hB ha hI i (by omega)
  rw[<-z4u hr,<-z4u hr]
  have hv:=zAj hB ha (z5a hB ha i (by omega)) hs hI
  grind[pJ]
theorem zAk(hB:BOk p F)(ha:ND p A)(hI:zAs (YH p) A I S):stepM p (zAf A I S)=stepM p A:=by
 have e:=zAd hB ha hI p.stmts.length (Nat.le_refl _)
 rw[z4v (Nat.le_refl _),z4v (Nat.le_refl _)]at e
 grind[stepM]
theorem zAr{l:List Int}{bs:List Bd}(h:l.length=bs.length)(hv:∀i,i<l.length->(bs.getD i Bd.none).lo<=l.getD i 0/\l.getD i 0<=(bs.getD i Bd.none).hi):jC l bs=true:=by
 rw[jC,show((l.length:Int) != (bs.length:Int))=false from by simp[h]]
 show Xm (l.zip bs)=true
 rw[Xm,Bool.not_eq_true',List.any_eq_false]
 intro x hx
 obtain⟨i,hi⟩:=List.mem_iff_getElem?.1 hx
 rw[List.getElem?_zip_eq_some]at hi
 have h1:=(List.getElem?_eq_some_iff.1 hi.1).1
 have:=hv i h1
 rw[List.getD_eq_getElem?_getD,List.getD_eq_getElem?_getD,hi.1,hi.2]at this
 simp at this
 simp[zhi]
 omega
theorem zAa{l:List Int}(h:(l.length:Int)=n)(hv:∀v∈l,-2147483648<=v/\v<=2147483647):rq l n=true:=by
 rw[rq,show((l.length:Int)==n)=true from by simp[h]]
 show(!(l.any z9r))=true
 rw[Bool.not_eq_true',List.any_eq_false]
 intro v hx
 have:=hv v hx
 simp[z9r]
 omega
theorem zA2(hl:0<=p.latency/\p.latency<=4096)(ha:ND p A):YJ p A=false:=by
 rw[YJ,bM (by omega) (by omega),zAr ha.par ha.parV,zAa ha.inp ha.inpV,zAa ha.sid ha.sidV];rfl
theorem zAe(h:(yY p A).2.2=0)(hI:zAs (YH p) A I S):yY p (zAf A I S)=yY p A/\0<=YH p/\YH p<=p.latency/\oQ p=(YH p,0):=by
 obtain⟨h0,h1,h2,h3⟩:=z0s h
 obtain⟨hB,hl⟩:=chkZ h0
 have hR:=Xy hB.res
 have ha:=Qp hR h1 h2
 refine⟨?_,(zA7 hB).1,hl,?_⟩
 ·have e1:=zA2 hR (zAq ha hI)
  rw[h3,yY,if_neg (by rw[h0];decide),if_neg (by rw[e1];decide),if_neg (by show ¬lK p ⟨A.vals,A.lines⟩=false;rw[h2];decide),zAk hB ha hI]
 ·rw[oQ,if_neg (by rw[z0f hB];decide)]
theorem zAg(h:(yY p A).2.2=0):zAs (YH p) A A.inp A.side:=by
 obtain⟨h0,h1,h2,h3⟩:=z0s h
 exact zA1 (Qp (Xy (chkZ h0).1.res) h1 h2)
structure AhI(n:Int)(A:Fr)(s:Nat×List Int×List Int):Prop where
 lt:n<s.1
 le:s.1<=1073741825
 ok:zAs n A s.2.1 s.2.2
variable {i : Nat} {l : List Int} {n : Int} {A : Fr}
theorem zAb{I S o:List Int}(h:(bif bif bif decide ((i:Int)>=0)then decide ((i:Int)<((I.length:Nat):Int))else false then decide ((i:Int)<((S.length:Nat):Int))else false then decide ((i:Int)<(((o.map aC).length:Nat):Int))else false)=true):i<I.length/\i<S.length/\i<o.length:=by
 simp_all
theorem zAy{v:Int}(h:(bif decide (v >= -2147483648)then decide (v<=2147483647)else false)=true):-2147483648<=v/\v<=2147483647:=by
 simp_all
theorem zAt(hn:0<=n/\n<=4096)(h:zAs n A A.inp A.side):AhI n A ((n+1).toNat,A.inp,A.side):=⟨by omega,by omega,h⟩
theorem zA3{s:Nat×List Int×List Int}(h:AhI n A s)(hl:A.inp.length<=1073741824)(hi:s.1<s.2.1.length):AhI n A (s.1+1,s.2):=by
 have h1:=h.lt;have h2:=h.ok.li
 exact⟨by omega,by omega,h.ok⟩
theorem zA9{s:Nat×List Int×List Int}{v:Int}(h:AhI n A s)(hl:A.inp.length<=1073741824)(hi:s.1<s.2.1.length)(hv:-2147483648<=v/\v<=2147483647):AhI n A (s.1+1,s.2.1.set s.1 v,s.2.2.set s.1 (-1-v)):=by
 have h1:=h.lt;have h2:=h.ok.li
 exact⟨by omega,by omega,zAp h.ok h.lt hv (by omega)⟩
theorem zBa(h:i<l.length):(l.map aC)[0+(i:Int).toNat]? = some (aC (l.getD i 0)):=by
 simp_all
theorem zAz:Block.arr 1 1 ((l.map aC).set (0+(i:Int).toNat) (aC n))=Block.arr 1 1 ((l.set i n).map aC):=by simp
theorem zBb{v:Int}(h:-2147483648<=v/\v<=2147483647):Block.arr 1 1 ((l.map aC).set (0+(i:Int).toNat) (aC (IntKind.i64.wrap (-1-v))))=Block.arr 1 1 ((l.set i (-1-v)).map aC):=by grind[bM,zAz]
theorem zBe(h:i<=1073741825):AV.data (D.i (IntKind.i64.wrap ((i:Int)+1)))=AV.data (D.i ((i+1:Nat):Int)):=by
 grind[bM]
theorem zAu{i v s o k:Nat}{x:Int}:AV.own i v s o l.length=AV.own i v s o (l.set k x).length:=by simp
theorem zBc{I S:List Int}(h:zAs n A I S)(hi:i<I.length):A.inp.length-(i+1)<A.inp.length-i:=by
 have:=h.li;omega
def zj1:Str:=[112,114,111,99,101,115,115,111,114,32,112,32,108,97,116,101,110,99,121,32,48,32,116,97,105,108,32,102,111,114,101,118,101,114,32,123,32]
def zg3:Str:=[32,125]
abbrev X4(b:Str):Str:=zj1++b++zg3
def prB(b:Str):Pr:=match Lx.lexR Lx.pStep (X4 b) 0 with
 | .error _=>Pr.none
 | .ok l=>match(Sy.readM l).1 with
  |some [p]=>p
  |_=>Pr.none
def CE(b:Str):Pr:=(Nam.resolveC (prB b)).1
def readB(b:Str):Bool:=Nat.ble (X4 b).length 1000&&match Lx.lexR Lx.pStep (X4 b) 0 with
 | .error _=>false
 | .ok l=>Nat.ble l.length 1000&&match(Sy.readM l).1 with
  |some [_]=>true
  |_=>false
def QK(p:Pr):Bool:=Nat.ble p.params.length 100&&(Nat.ble p.states.length 100&&(Nat.ble p.lines.length 100&&(Nat.ble p.tables.length 100&&(Nat.ble p.stmts.length 100&&((p.stmts.all λs=>Nat.ble (Ref15.nodes s.x) 100)&&p.tables.all λt=>Nat.ble t.values.length 100)))))
theorem yg{p:Pr}(h:QK p=true):iE p:=by
 simp only[QK,Bool.and_eq_true,Nat.ble_eq,List.all_eq_true]at h
 obtain⟨h1,h2,h3,h4,h5,h6,h7⟩:=h
 exact⟨⟨by omega,by omega,by omega,by omega,by omega⟩,λs hs=>by have:=h6 s hs;omega,λt ht=>by have:=h7 t ht;omega⟩
def okB(b:Str):Bool:=readB b&&(QK (prB b)&&(QK (CE b)&&(Nam.resolveC (prB b)).2==0))
theorem zg4{b:Str}(h:readB b=true):(X4 b).length<=1000/\(∀l,Lx.lexR Lx.pStep (X4 b) 0 = .ok l->l.length<=1073741823)/\Sy.parseD (X4 b) = .tuple [.sl 8 [(prB b).cs],.i 0,.i 0]:=by
 simp only[readB,Bool.and_eq_true,Nat.ble_eq]at h
 obtain⟨h0,h⟩:=h
 refine⟨h0,λl e=>?_,?_⟩
 ·rw[e]at h
  simp only[Bool.and_eq_true,Nat.ble_eq]at h
  omega
 rw[Sy.parseD,if_neg (by rw[decide_eq_true_eq];omega)]
 unfold prB
 cases hl:Lx.lexR Lx.pStep (X4 b) 0 with
 |error a=>rw[hl]at h;cases h
 |ok l=>
  rw[hl]at h
  simp only[Bool.and_eq_true]at h ⊢
  have h:=h.2
  cases hr:(Sy.readM l).1 with
  |none=>rw[hr]at h;cases h
  |some ps=>
   rw[hr]at h
   match ps,h,hr with
   | [p],_,hr=>rw[Sy.readD_some hr];rfl
   | [],h,_=>cases h
   |_::_::_,h,_=>cases h
abbrev zcu(n:Int)(s:St):Fr:=⟨[],[n],[0],s.vals,s.lines,[]⟩
def stB(s:St):Bool:=Nat.ble s.vals.length 100&&(Nat.ble s.lines.length 100&&s.lines.all λl=>Nat.ble l.length 100)
theorem X5{s:St}(h:stB s=true):s.Sm:=by
 simp only[stB,Bool.and_eq_true,Nat.ble_eq,List.all_eq_true]at h
 exact⟨by omega,by omega,λl hl=>by have:=h.2.2 l hl;omega⟩
def DJ(b:Str)(s:St):St:=if(Nat.beq s.vals.length 0&&Nat.beq s.lines.length 0)=true then lL (CE b)else s
def NV(b:Str)(n:Int)(s:St)(o:Int)(x:St):Bool:=okB b&&((jy (CE b)==0)&&(!(YJ (CE b) (zcu n (DJ b s)))&&(lK (CE b) (DJ b s)&&(stB (DJ b s)&&(((stepM (CE b) (zcu n (DJ b s))).1==o)&&wG (stepM (CE b) (zcu n (DJ b s))).2 x)))))
def zj2:Str:=[111,117,116,32,105,110,40,48,41,59]
def zj3:Str:=[115,116,97,116,101,32,115,32,102,114,111,109,32,48,32,116,111,32,57,59,32,115,101,116,32,115,32,61,32,109,105,110,40,115,32,43,32,49,44,32,57,41,59,32,111,117,116,32,115,32,42,32,50,59]
def zj4:Str:=[111,117,116,32,45,55,32,47,32,50,59]
def zj5:Str:=[116,97,98,108,101,32,116,32,61,32,53,44,32,54,59,32,111,117,116,32,108,111,111,107,40,116,44,32,105,110,40,48,41,41,59]
def zj6:Str:=[108,105,110,101,32,100,32,50,32,102,114,111,109,32,45,57,32,116,111,32,57,59,32,112,117,115,104,32,100,32,61,32,109,97,120,40,45,57,44,32,109,105,110,40,105,110,40,48,41,44,32,57,41,41,59,32,111,117,116,32,116,97,112,40,100,44,32,49,41,59]
def z1s:Str:=[115,116,97,116,101,32,115,32,102,114,111,109,32,50,32,116,111,32,53,59,32,111,117,116,32,115,59]
theorem at1:NV zj2 7 noS 7 noS=true:=by kernel_rfl
theorem at2:NV zj3 0 ⟨[3],[]⟩ 8 ⟨[4],[]⟩=true:=by kernel_rfl
theorem at3:NV zj4 0 noS (-4) noS=true:=by kernel_rfl
theorem at4:NV zj5 100 noS 6 noS=true:=by kernel_rfl
theorem at5:NV zj6 5 ⟨[],[[3,4]]⟩ 4 ⟨[],[[5,3]]⟩=true:=by kernel_rfl
theorem at6:okB z1s=true:=by kernel_rfl
theorem zkf:jy (CE z1s)=0:=by kernel_rfl
theorem zkg:lL (CE z1s)=⟨[2],[]⟩:=by kernel_rfl
theorem zkh:(yY (CE z1s) (zcu 0 ⟨[6],[]⟩))=(0,noS,180):=by kernel_rfl
theorem zki:(yY (CE z1s) ⟨[],[0,0],[0],[2],[],[]⟩)=(0,noS,1):=by kernel_rfl
end Go.Fw.Mn
