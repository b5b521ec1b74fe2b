/- A part of the proof. -/
import Derived.Test.YtgehpmgkaeohaaaGreatDoorZMA
import Derived.Test.YtgehpmgkaeohaaaGreatDoorZSY
set_option linter.all false
namespace Go.Fw.Mn
open Go.Fw Go.Fw.Ref15 Go.Fw.Rg Go.Fw.Tl
variable [ae]
def wG(s t:St):Bool:=Rg.intsE s.vals t.vals&&Rg.lenE (λq=>Rg.intsE q.1 q.2) s.lines t.lines
def setB(p:Pr)(k i:Int):Bool:=p.stmts.any λs=>bif s.kind==k then s.index==i else false
theorem z1h{p:Pr}(h:Res p){i j:Nat}{s t:Sm}(hi:p.stmts[i]? = some s)(hj:p.stmts[j]? = some t)(hij:i<j)(hs:s.kind=3)(ht:t.kind=3):s.index≠t.index:=by
 obtain⟨a1,a2,a3⟩:=uu p.stmts 0 false h.ru i s hi
 obtain⟨b1,b2,b3⟩:=uu p.stmts 0 false h.ru j t hj
 intro e
 have hn:s.name=t.name:=by
  rw[cu,if_pos (by rw[hs];rfl)]at a1
  rw[cu,if_pos (by rw[ht];rfl)]at b1
  exact Nam.find_inj (l:=Ref15.lines p) 0 (Int.le_refl _) (show find (Ref15.lines p) s.name=find (Ref15.lines p) t.name by rw[a1,b1,e]) (by grind[find])
 rw[again,List.any_eq_false]at b3
 have:=b3 s (List.mem_of_getElem? (i:=i) (by simp_all))
 simp_all
theorem XW{p:Pr}{A:Fr}:∀(l:List Sm) (q:Ss),(l.foldl (pJ p A) q).pu.map Prod.fst=q.pu.map Prod.fst++l.filter λs=>s.kind==3
 | [],q=>by simp
 |s::r,q=>by
  rw[List.foldl_cons,XW r]
  grind[ze9,ze8]
theorem NT{p:Pr}{A:Fr}:(z0m p A).pu.map Prod.fst=p.stmts.filter λs=>s.kind==3:=by
 have:=XW (p:=p) (A:=A) p.stmts (ss0 A)
 exact this
theorem ziq{p:Pr}{A:Fr}(h:Res p)(hS:sN p A):(z0m p A).pu.Pairwise λa b=>a.1.index.toNat≠b.1.index.toNat:=by
 have h1:(p.stmts.filter λs=>s.kind==3).Pairwise λa b=>a.index.toNat≠b.index.toNat:=by
  rw[List.pairwise_filter,List.pairwise_iff_getElem]
  intro i j hi hj hij h3 h4 e
  have h3:=eq_of_beq h3
  have h4:=eq_of_beq h4
  have q1:=hS.psh _ (List.getElem_mem hi) h3
  have q2:=hS.psh _ (List.getElem_mem hj) h4
  exact z1h h (List.getElem?_eq_getElem hi) (List.getElem?_eq_getElem hj) hij h3 h4 (by omega)
 rw[<-NT (p:=p) (A:=A),List.pairwise_map]at h1
 exact h1
theorem getD_set_ne{α:Type}{l:List α}{i k:Nat}{a d:α}(h:i≠k):(l.set i a).getD k d=l.getD k d:=by
 simp_all
theorem QI:∀(L:List (Sm×Int)) (ls:List (List Int)),(L.foldl ny ls).length=ls.length
 | [],_=>rfl
 |y::r,ls=>by rw[List.foldl_cons,QI r,ny,List.length_set]
theorem Hw:∀(L:List (Sm×Int)) (ls:List (List Int)) (k:Nat),(∀x∈L,x.1.index.toNat≠k)->(L.foldl ny ls).getD k []=ls.getD k []
 | [],_,_,_=>rfl
 |y::r,ls,k,h=>by
  rw[List.foldl_cons,Hw r _ k λx hx=>h x (by simp[hx]),ny,getD_set_ne (h y (by simp))]
theorem push_in:∀(L:List (Sm×Int)) (ls:List (List Int)) (x:Sm×Int),L.Pairwise (λa b=>a.1.index.toNat≠b.1.index.toNat)->x∈L->x.1.index.toNat<ls.length->(L.foldl ny ls).getD x.1.index.toNat []=x.2::(ls.getD x.1.index.toNat []).dropLast
 |y::r,ls,x,hp,hx,hl=>by
  rw[List.foldl_cons]
  obtain⟨h1,h2⟩:=List.pairwise_cons.1 hp
  rcases List.mem_cons.1 hx with rfl |hx
  ·grind[Hw,ny]
  ·rw[push_in r _ x h2 hx (by grind[ny]),ny,getD_set_ne (h1 x hx)]
theorem XX{p:Pr}{A:Fr}{i:Nat}:∀(l:List Sm) (q:Ss),(∀s∈l,s.kind=2->s.index.toNat≠i)->(l.foldl (pJ p A) q).vals.getD i 0=q.vals.getD i 0
 | [],_,_=>rfl
 |s::r,q,h=>by
  rw[List.foldl_cons,XX r _ λt ht=>h t (by simp[ht])]
  grind[z4y,z4z]
structure yL(p:Pr)(A:Fr)(x:St):Prop where
 v1:x.vals.length=A.vals.length
 l1:x.lines.length=A.lines.length
 v2:A.vals.length=p.states.length
 l2:A.lines.length=p.lines.length
 vk:∀i:Nat,i<A.vals.length->setB p 2 i=false->x.vals.getD i 0=A.vals.getD i 0
 lk:∀i:Nat,i<A.lines.length->setB p 3 i=false->x.lines.getD i []=A.lines.getD i []
 lp:∀i:Nat,i<A.lines.length->setB p 3 i=true->∃v,x.lines.getD i []=v::(A.lines.getD i []).dropLast
 le:∀i:Nat,i<A.lines.length->0<(A.lines.getD i []).length/\(A.lines.getD i []).length<=1073741824
variable {p : Pr}
theorem XY{k i:Int}(h:setB p k i=false):∀s∈p.stmts,s.kind=k->s.index≠i:=λs hs hk e=>by
 grind[setB]
theorem z1i{k i:Int}(h:setB p k i=true):∃s∈p.stmts,s.kind=k/\s.index=i:=by
 rw[setB]at h
 simp_all
theorem z1j{A:Fr}:(z0m p A).vals.length=A.vals.length:=(ry p.stmts (ss0 A)).1
theorem zbf{A:Fr}(hR:Res p)(ha:ND p A)(hS:sN p A):yL p A (stepM p A).2 where
 v1:=z1j
 l1:=QI _ _
 v2:=ha.val
 l2:=ha.lin
 vk i hi h:=XX p.stmts (ss0 A) λs hs hk=>by
  have:=XY h s hs hk
  have:=hS.set s hs hk
  omega
 lk i hi h:=Hw _ _ i λx hx=>by
  have hm:x.1∈p.stmts.filter λs=>s.kind==3:=by rw[<-NT (A:=A)];grind
  obtain⟨h1,h2⟩:=List.mem_filter.1 hm
  have:=XY h _ h1 (eq_of_beq h2)
  have:=hS.psh _ h1 (eq_of_beq h2)
  omega
 lp i hi h:=by
  obtain⟨s,hs,hk,rfl⟩:∃s∈p.stmts,s.kind=3/\s.index.toNat=i:=by
   grind[z1i]
  have hm:s∈(z0m p A).pu.map Prod.fst:=by rw[NT];exact List.mem_filter.2 ⟨hs,by rw[hk];rfl⟩
  obtain⟨x,hx,rfl⟩:=List.mem_map.1 hm
  exact⟨x.2,push_in _ _ x (ziq hR hS) hx hi⟩
 le i hi:=by
  rw[List.getD_eq_getElem?_getD,List.getElem?_eq_getElem hi]
  exact hS.lne _ (List.getElem_mem hi)
end Go.Fw.Mn
namespace Go.Fw.Mn
open Go.Fw Go.Fw.Ref15 Go.Fw.Rg Go.Fw.Tl
variable [ae] {i : Nat} {r : List (List Int)} {p : Pr} {l : List Int} {s : St} {A : Fr} {x : St}
theorem z5s{α:Type}{P:α->Bool}{k:Nat}{l r:List α}(h:(l.take k).all P=(r.take (k-i)).all P)(hr:r = []\/k-i=0):(l.take k).all P=true:=by
 grind
theorem zgt{α:Type}{P:α->Bool}{k:Nat}{l r:List α}{x:α}(h:(l.take k).all P=((x::r).take (k-i)).all P)(hi:i<k)(hx:P x=false):(l.take k).all P=false:=by
 obtain⟨j,hj⟩:∃j,k-i=j+1:=⟨k-i-1,by omega⟩
 simp_all
theorem XZ{α:Type}{P:α->Bool}{k:Nat}{l r:List α}{x:α}(h:(l.take k).all P=((x::r).take (k-i)).all P)(hi:i<k)(hx:P x=true):(l.take k).all P=(r.take (k-(i+1))).all P:=by
 rw[h,show k-i=(k-(i+1))+1 by omega,List.take_succ_cons,List.all_cons,hx];rfl
def uA(l:Ln):Bool:=!decide (l.size>40)
def uB(l:List Int):Bool:=!decide ((l.length:Int)>100)
def fewPrM(p:Pr):Bool:=bif (p.lines.take 20).all uA then(bif Sy.fewP p then decide (p.latency<=20)else false)else false
def fewStM(s:St):Bool:=bif (s.lines.take 20).all uB then(bif decide ((s.vals.length:Int)<=30)then decide ((s.lines.length:Int)<=20)else false)else false
def zhn(p:Pr)(A:Fr):Bool:=bif (bif (bif (bif fewPrM p then fewStM ⟨A.vals,A.lines⟩else false)then decide ((A.params.length:Int)<=40)else false)then decide ((A.inp.length:Int)<=60)else false)then decide ((A.side.length:Int)<=60)else false
theorem zbg(h:(p.lines.take 20).all uA=false):fewPrM p=false:=by rw[fewPrM,h];rfl
theorem z1k(h:(p.lines.take 20).all uA=true):fewPrM p=bif Sy.fewP p then decide (p.latency<=20)else false:=by rw[fewPrM,h];rfl
theorem zbh(h:(s.lines.take 20).all uB=false):fewStM s=false:=by rw[fewStM,h];rfl
theorem z1l(h:(s.lines.take 20).all uB=true):fewStM s=bif decide ((s.vals.length:Int)<=30)then decide ((s.lines.length:Int)<=20)else false:=by rw[fewStM,h];rfl
theorem zgu{s t:St}(h:(bif !(Rg.intsE s.vals t.vals)then true else((s.lines.map lC).length:Int) != ((t.lines.map lC).length:Int))=true):false=wG s t:=by
 rw[wG]
 cases q:Rg.intsE s.vals t.vals with
 |false=>rfl
 |true=>
  grind[Rg.lenE]
theorem zbi{s t:St}(h:(bif !(Rg.intsE s.vals t.vals)then true else((s.lines.map lC).length:Int) != ((t.lines.map lC).length:Int))=false):s.lines.length=t.lines.length/\wG s t=(s.lines.zip t.lines).all λq=>Rg.intsE q.1 q.2:=by
 cases q:Rg.intsE s.vals t.vals with
 |false=>simp_all
 |true=>
  grind[wG,Rg.lenE]
theorem z1m{x:List Int×List Int}{r:List (List Int×List Int)}{b:Bool}(h:b=(x::r).all λq=>Rg.intsE q.1 q.2)(hb:(!(Rg.intsE x.1 x.2))=false):b=r.all λq=>Rg.intsE q.1 q.2:=by
 simp_all
theorem zbj{x:List Int×List Int}{r:List (List Int×List Int)}{b:Bool}(h:b=(x::r).all λq=>Rg.intsE q.1 q.2)(hb:(!(Rg.intsE x.1 x.2))=true):false=b:=by
 simp_all
theorem X0(h:(s.lines.take 20).all uB=(r.take (20-i)).all uB)(hr:r = []\/20-i=0):(bif decide (((s.vals.map aC).length:Int)<=30)then decide (((s.lines.map lC).length:Int)<=20)else false)=fewStM s:=by
 rw[z1l (z5s h hr),List.length_map,List.length_map]
theorem zgv{x:List Int}(h:(s.lines.take 20).all uB=((x::r).take (20-i)).all uB)(hi:decide ((i:Int)<20)=true)(hx:decide (((x.map aC).length:Int)>100)=true):false=fewStM s:=by
 rw[List.length_map]at hx
 exact(zbh (zgt h (by have:=of_decide_eq_true hi;omega) (by rw[uB,hx];rfl))).symm
theorem z1o{x:List Int}(h:(s.lines.take 20).all uB=((x::r).take (20-i)).all uB)(hi:decide ((i:Int)<20)=true)(hx:decide (((x.map aC).length:Int)>100)=false):(s.lines.take 20).all uB=(r.take (20-(i+1))).all uB:=by
 rw[List.length_map]at hx
 exact XZ h (by grind) (by rw[uB,hx];rfl)
theorem X3{r:List Ln}(h:(p.lines.take 20).all uA=(r.take (20-i)).all uA)(hr:r = []\/20-i=0):(bif Sy.fewP p then decide (p.latency<=20)else false)=fewPrM p:=by
 rw[z1k (z5s h hr)]
theorem zgw{x:Ln}{r:List Ln}(h:(p.lines.take 20).all uA=((x::r).take (20-i)).all uA)(hi:decide ((i:Int)<20)=true)(hx:decide (x.size>40)=true):false=fewPrM p:=by
 exact(zbg (zgt h (by have:=of_decide_eq_true hi;omega) (by rw[uA,hx];rfl))).symm
theorem z1p{x:Ln}{r:List Ln}(h:(p.lines.take 20).all uA=((x::r).take (20-i)).all uA)(hi:decide ((i:Int)<20)=true)(hx:decide (x.size>40)=false):(p.lines.take 20).all uA=(r.take (20-(i+1))).all uA:=by
 exact XZ h (by grind) (by rw[uA,hx];rfl)
theorem to0(h:decide ((i:Int)<20)=false):20-i=0:=by grind
theorem z1q{s:Sm}{r:List Sm}{k i:Int}(h:setB p k i=(s::r).any λs=>bif s.kind==k then s.index==i else false)(hb:(bif s.kind==k then s.index==i else false)=false):setB p k i=r.any λs=>bif s.kind==k then s.index==i else false:=by
 simp_all
theorem zbk{s:Sm}{r:List Sm}{k i:Int}(h:setB p k i=(s::r).any λs=>bif s.kind==k then s.index==i else false)(hb:(bif s.kind==k then s.index==i else false)=true):true=setB p k i:=by
 simp_all
theorem zgx{l:List (List Int)}(h:i<l.length):0<=(i:Int)/\(l.map lC)[(i:Int).toNat]? = some (lC (l.getD i [])):=by
 simp_all
theorem zgy(h:i<l.length):0<=(i:Int)/\(l.map aC)[(i:Int).toNat]? = some (aC (l.getD i 0)):=by
 simp_all
theorem QJ{α:Type}{l r:List α}{x:α}(d:α)(h:l.drop i=x::r):l.getD i d=x:=by
 have:=congrArg (λl=>l[0]?) h
 grind
theorem z1r(hK:yL p A x)(h:(bif bif bif (((x.vals.map aC).length:Nat):Int) != (((A.vals.map aC).length:Nat):Int)then true else(((x.lines.map lC).length:Nat):Int) != (((A.lines.map lC).length:Nat):Int)then true else(((A.vals.map aC).length:Nat):Int) != (((p.states.map Bd.cs).length:Nat):Int)then true else(((A.lines.map lC).length:Nat):Int) != (((p.lines.map Ln.cs).length:Nat):Int))=true):False:=by
 simp at h
 rw[hK.v1,hK.l1,hK.v2,hK.l2]at h
 simp at h
theorem J7(hK:yL p A x)(hd:A.lines.drop i=l::r)(hi:i<A.lines.length):(x.lines.getD i []).length=l.length/\0<l.length/\l.length<=1073741824:=by
 have hb:=hK.le i hi
 have e:=QJ [] hd
 rw[e]at hb
 refine⟨?_,hb⟩
 cases q:setB p 3 i with
 |false=>rw[hK.lk i hi q,e]
 |true=>
  obtain⟨v,hv⟩:=hK.lp i hi q
  grind
theorem zgz{l m:List Int}(hm:m.length=l.length/\0<l.length/\l.length<=1073741824)(h:(bif (((l.map aC).length:Nat):Int) != (((m.map aC).length:Nat):Int)then true else(((l.map aC).length:Nat):Int)==0)=true):False:=by
 simp_all
theorem NU{l m:List Int}(hm:m.length=l.length/\0<l.length/\l.length<=1073741824):0<=IntKind.i64.wrap ((((l.map aC).length:Nat):Int)-1)/\IntKind.i64.wrap ((((l.map aC).length:Nat):Int)-1)<=(((l.map aC).length:Nat):Int)/\1<=(((m.map aC).length:Nat):Int):=by
 grind[Xk]
theorem zbl(m:List Int):cut (some 1) none (m.map aC)=m.tail.map aC:=by
 simp only[cut,Option.getD_some,Option.getD_none,List.map_tail]
 cases m with
 |nil=>rfl
 |cons a r=>simp
theorem zg0(hK:yL p A x)(hd:A.lines.drop i=l::r)(hi:i<A.lines.length)(h:setB p 3 i=true):(x.lines.getD i []).tail=l.dropLast:=by
 obtain⟨v,hv⟩:=hK.lp i hi h
 grind[QJ]
theorem zg1(hK:yL p A x)(hd:A.lines.drop i=l::r)(hi:i<A.lines.length)(h:setB p 3 i=false)(hb:(!(Rg.intsE l (x.lines.getD i [])))=true):False:=by
 rw[hK.lk i hi h,QJ [] hd,show Rg.intsE l l=true from(Rg.lenE_iff Rg.intE_iff l l).2 rfl]at hb
 simp_all
theorem zg2{v:Int}{r:List Int}(hK:yL p A x)(hd:A.vals.drop i=v::r)(hi:i<A.vals.length)(h:(bif !(setB p 2 i)then x.vals.getD i 0 != v else false)=true):False:=by
 cases q:setB p 2 i with
 |true=>simp_all
 |false=>
  rw[hK.vk i hi q,QJ 0 hd]at h
  simp at h
end Go.Fw.Mn
namespace Go.Fw.Mn
open Go.Fw Go.Fw.Ref15 Go.Fw.Rg Go.Fw.Tl
variable [ae]
def zj1:Str:=[112,114,111,99,101,115,115,111,114,32,112,32,108,97,116,101,110,99,121,32,48,32,116,97,105,108,32,102,111,114,101,118,101,114,32,123,32]
def zg3:Str:=[32,125]
abbrev X4(b:Str):Str:=zj1++b++zg3
def prB(b:Str):Pr:=match Lx.lexR Lx.pStep (X4 b) 0 with
 | .error _=>Pr.none
 | .ok l=>match(Sy.readM l).1 with
  |some [p]=>p
  |_=>Pr.none
def CE(b:Str):Pr:=(Nam.resolveC (prB b)).1
def readB(b:Str):Bool:=Nat.ble (X4 b).length 1000&&match Lx.lexR Lx.pStep (X4 b) 0 with
 | .error _=>false
 | .ok l=>Nat.ble l.length 1000&&match(Sy.readM l).1 with
  |some [_]=>true
  |_=>false
def QK(p:Pr):Bool:=Nat.ble p.params.length 100&&(Nat.ble p.states.length 100&&(Nat.ble p.lines.length 100&&(Nat.ble p.tables.length 100&&(Nat.ble p.stmts.length 100&&((p.stmts.all λs=>Nat.ble (Ref15.nodes s.x) 100)&&p.tables.all λt=>Nat.ble t.values.length 100)))))
theorem yg{p:Pr}(h:QK p=true):iE p:=by
 simp only[QK,Bool.and_eq_true,Nat.ble_eq,List.all_eq_true]at h
 obtain⟨h1,h2,h3,h4,h5,h6,h7⟩:=h
 exact⟨⟨by omega,by omega,by omega,by omega,by omega⟩,λs hs=>by have:=h6 s hs;omega,λt ht=>by have:=h7 t ht;omega⟩
def okB(b:Str):Bool:=readB b&&(QK (prB b)&&(QK (CE b)&&(Nam.resolveC (prB b)).2==0))
theorem zg4{b:Str}(h:readB b=true):(X4 b).length<=1000/\(∀l,Lx.lexR Lx.pStep (X4 b) 0 = .ok l->l.length<=1073741823)/\Sy.parseD (X4 b) = .tuple [.sl 8 [(prB b).cs],.i 0,.i 0]:=by
 simp only[readB,Bool.and_eq_true,Nat.ble_eq]at h
 obtain⟨h0,h⟩:=h
 refine⟨h0,λl e=>?_,?_⟩
 ·rw[e]at h
  simp only[Bool.and_eq_true,Nat.ble_eq]at h
  omega
 rw[Sy.parseD,if_neg (by rw[decide_eq_true_eq];omega)]
 unfold prB
 cases hl:Lx.lexR Lx.pStep (X4 b) 0 with
 |error a=>rw[hl]at h;cases h
 |ok l=>
  rw[hl]at h
  simp only[Bool.and_eq_true]at h ⊢
  have h:=h.2
  cases hr:(Sy.readM l).1 with
  |none=>rw[hr]at h;cases h
  |some ps=>
   rw[hr]at h
   match ps,h,hr with
   | [p],_,hr=>rw[Sy.readD_some hr];rfl
   | [],h,_=>cases h
   |_::_::_,h,_=>cases h
abbrev zcu(n:Int)(s:St):Fr:=⟨[],[n],[0],s.vals,s.lines,[]⟩
def stB(s:St):Bool:=Nat.ble s.vals.length 100&&(Nat.ble s.lines.length 100&&s.lines.all λl=>Nat.ble l.length 100)
theorem X5{s:St}(h:stB s=true):s.Sm:=by
 simp only[stB,Bool.and_eq_true,Nat.ble_eq,List.all_eq_true]at h
 exact⟨by omega,by omega,λl hl=>by have:=h.2.2 l hl;omega⟩
def DJ(b:Str)(s:St):St:=if(Nat.beq s.vals.length 0&&Nat.beq s.lines.length 0)=true then lL (CE b)else s
def NV(b:Str)(n:Int)(s:St)(o:Int)(x:St):Bool:=okB b&&((jy (CE b)==0)&&(!(YJ (CE b) (zcu n (DJ b s)))&&(lK (CE b) (DJ b s)&&(stB (DJ b s)&&(((stepM (CE b) (zcu n (DJ b s))).1==o)&&wG (stepM (CE b) (zcu n (DJ b s))).2 x)))))
def zj2:Str:=[111,117,116,32,105,110,40,48,41,59]
def zj3:Str:=[115,116,97,116,101,32,115,32,102,114,111,109,32,48,32,116,111,32,57,59,32,115,101,116,32,115,32,61,32,109,105,110,40,115,32,43,32,49,44,32,57,41,59,32,111,117,116,32,115,32,42,32,50,59]
def zj4:Str:=[111,117,116,32,45,55,32,47,32,50,59]
def zj5:Str:=[116,97,98,108,101,32,116,32,61,32,53,44,32,54,59,32,111,117,116,32,108,111,111,107,40,116,44,32,105,110,40,48,41,41,59]
def zj6:Str:=[108,105,110,101,32,100,32,50,32,102,114,111,109,32,45,57,32,116,111,32,57,59,32,112,117,115,104,32,100,32,61,32,109,97,120,40,45,57,44,32,109,105,110,40,105,110,40,48,41,44,32,57,41,41,59,32,111,117,116,32,116,97,112,40,100,44,32,49,41,59]
def z1s:Str:=[115,116,97,116,101,32,115,32,102,114,111,109,32,50,32,116,111,32,53,59,32,111,117,116,32,115,59]
theorem at1:NV zj2 7 noS 7 noS=true:=by kernel_rfl
theorem at2:NV zj3 0 ⟨[3],[]⟩ 8 ⟨[4],[]⟩=true:=by kernel_rfl
theorem at3:NV zj4 0 noS (-4) noS=true:=by kernel_rfl
theorem at4:NV zj5 100 noS 6 noS=true:=by kernel_rfl
theorem at5:NV zj6 5 ⟨[],[[3,4]]⟩ 4 ⟨[],[[5,3]]⟩=true:=by kernel_rfl
theorem at6:okB z1s=true:=by kernel_rfl
theorem zkf:jy (CE z1s)=0:=by kernel_rfl
theorem zkg:lL (CE z1s)=⟨[2],[]⟩:=by kernel_rfl
theorem zkh:(yY (CE z1s) (zcu 0 ⟨[6],[]⟩))=(0,noS,180):=by kernel_rfl
theorem zki:(yY (CE z1s) ⟨[],[0,0],[0],[2],[],[]⟩)=(0,noS,1):=by kernel_rfl
end Go.Fw.Mn
