/- A part of the proof. -/
import Derived.Test.YtaipffoajgkljaaGreatDoorZMA
import Derived.Test.YtaipffoajgkljaaGreatDoorZGC
set_option linter.all false
namespace Go.Fw.Mn
open Go.Fw Go.Fw.Ref15 Go.Fw.Rg Go.Fw.Tl
variable [af]
def setB(p:Pr)(k i:Int):Bool:=p.stmts.any λs=>bif s.kind==k then s.index==i else false
theorem z02{p:Pr}(h:Res p){i j:Nat}{s t:Sm}(hi:p.stmts[i]? = some s)(hj:p.stmts[j]? = some t)(hij:i<j)(hs:s.kind=3)(ht:t.kind=3):s.index≠t.index:=by
 obtain⟨a1,a2,a3⟩:=qC p.stmts 0 false h.ru i s hi
 obtain⟨b1,b2,b3⟩:=qC p.stmts 0 false h.ru j t hj
 intro e
 have hn:s.name=t.name:=by
  rw[cZ,if_pos (by rw[hs];rfl)]at a1
  rw[cZ,if_pos (by rw[ht];rfl)]at b1
  exact Nam.find_inj (l:=Ref15.lines p) 0 (Int.le_refl _) (show find (Ref15.lines p) s.name=find (Ref15.lines p) t.name by rw[a1,b1,e]) (by grind[find])
 rw[again,List.any_eq_false]at b3
 have:=b3 s (List.mem_of_getElem? (i:=i) (by simp_all))
 simp_all
theorem XK{p:Pr}{A:Fr}:∀(l:List Sm) (q:Ss),(l.foldl (pq p A) q).pu.map Prod.fst=q.pu.map Prod.fst++l.filter λs=>s.kind==3
 | [],q=>by simp
 |s::r,q=>by
  rw[List.foldl_cons,XK r]
  grind[zcy,zcx]
theorem NJ{p:Pr}{A:Fr}:(MP p A).pu.map Prod.fst=p.stmts.filter λs=>s.kind==3:=by
 have:=XK (p:=p) (A:=A) p.stmts (ss0 A)
 exact this
theorem zee{p:Pr}{A:Fr}(h:Res p)(hS:nU p A):(MP p A).pu.Pairwise λa b=>a.1.index.toNat≠b.1.index.toNat:=by
 have h1:(p.stmts.filter λs=>s.kind==3).Pairwise λa b=>a.index.toNat≠b.index.toNat:=by
  rw[List.pairwise_filter,List.pairwise_iff_getElem]
  intro i j hi hj hij h3 h4 e
  have h3:=eq_of_beq h3
  have h4:=eq_of_beq h4
  have q1:=hS.psh _ (List.getElem_mem hi) h3
  have q2:=hS.psh _ (List.getElem_mem hj) h4
  exact z02 h (List.getElem?_eq_getElem hi) (List.getElem?_eq_getElem hj) hij h3 h4 (by omega)
 rw[<-NJ (p:=p) (A:=A),List.pairwise_map]at h1
 exact h1
theorem getD_set_ne{α:Type}{l:List α}{i k:Nat}{a d:α}(h:i≠k):(l.set i a).getD k d=l.getD k d:=by
 simp_all
theorem getD_set_eq{α:Type}{l:List α}{k:Nat}{a d:α}(h:k<l.length):(l.set k a).getD k d=a:=by
 simp_all
theorem GU:∀(L:List (Sm×Int)) (ls:List (List Int)),(L.foldl pushL ls).length=ls.length
 | [],_=>rfl
 |y::r,ls=>by rw[List.foldl_cons,GU r,pushL,List.length_set]
theorem zk:∀(L:List (Sm×Int)) (ls:List (List Int)) (k:Nat),(∀x∈L,x.1.index.toNat≠k)->(L.foldl pushL ls).getD k []=ls.getD k []
 | [],_,_,_=>rfl
 |y::r,ls,k,h=>by
  rw[List.foldl_cons,zk r _ k λx hx=>h x (by simp[hx]),pushL,getD_set_ne (h y (by simp))]
theorem push_in:∀(L:List (Sm×Int)) (ls:List (List Int)) (x:Sm×Int),L.Pairwise (λa b=>a.1.index.toNat≠b.1.index.toNat)->x∈L->x.1.index.toNat<ls.length->(L.foldl pushL ls).getD x.1.index.toNat []=x.2::(ls.getD x.1.index.toNat []).dropLast
 |y::r,ls,x,hp,hx,hl=>by
  rw[List.foldl_cons]
  obtain⟨h1,h2⟩:=List.pairwise_cons.1 hp
  rcases List.mem_cons.1 hx with rfl |hx
  ·grind[zk,pushL]
  ·rw[push_in r _ x h2 hx (by grind[pushL]),pushL,getD_set_ne (h1 x hx)]
theorem XL{p:Pr}{A:Fr}{i:Nat}:∀(l:List Sm) (q:Ss),(∀s∈l,s.kind=2->s.index.toNat≠i)->(l.foldl (pq p A) q).vals.getD i 0=q.vals.getD i 0
 | [],_,_=>rfl
 |s::r,q,h=>by
  rw[List.foldl_cons,XL r _ λt ht=>h t (by simp[ht])]
  grind[Wy,Jp]
structure zef(p:Pr)(A:Fr)(x:St):Prop where
 v1:x.vals.length=A.vals.length
 l1:x.lines.length=A.lines.length
 v2:A.vals.length=p.states.length
 l2:A.lines.length=p.lines.length
 vk:∀i:Nat,i<A.vals.length->setB p 2 i=false->x.vals.getD i 0=A.vals.getD i 0
 lk:∀i:Nat,i<A.lines.length->setB p 3 i=false->x.lines.getD i []=A.lines.getD i []
 lp:∀i:Nat,i<A.lines.length->setB p 3 i=true->∃v,x.lines.getD i []=v::(A.lines.getD i []).dropLast
 le:∀i:Nat,i<A.lines.length->0<(A.lines.getD i []).length/\(A.lines.getD i []).length<=1073741824
variable {p : Pr}
theorem XM{k i:Int}(h:setB p k i=false):∀s∈p.stmts,s.kind=k->s.index≠i:=λs hs hk e=>by
 grind[setB]
theorem z03{k i:Int}(h:setB p k i=true):∃s∈p.stmts,s.kind=k/\s.index=i:=by
 rw[setB]at h
 simp_all
theorem z04{A:Fr}:(MP p A).vals.length=A.vals.length:=(qZ p.stmts (ss0 A)).1
theorem z94{A:Fr}(hR:Res p)(ha:Bz p A)(hS:nU p A):zef p A (stepM p A).2 where
 v1:=z04
 l1:=GU _ _
 v2:=ha.val
 l2:=ha.lin
 vk i hi h:=XL p.stmts (ss0 A) λs hs hk=>by
  have:=XM h s hs hk
  have:=hS.set s hs hk
  omega
 lk i hi h:=zk _ _ i λx hx=>by
  have hm:x.1∈p.stmts.filter λs=>s.kind==3:=by rw[<-NJ (A:=A)];grind
  obtain⟨h1,h2⟩:=List.mem_filter.1 hm
  have:=XM h _ h1 (eq_of_beq h2)
  have:=hS.psh _ h1 (eq_of_beq h2)
  omega
 lp i hi h:=by
  obtain⟨s,hs,hk,rfl⟩:∃s∈p.stmts,s.kind=3/\s.index.toNat=i:=by
   grind[z03]
  have hm:s∈(MP p A).pu.map Prod.fst:=by rw[NJ];exact List.mem_filter.2 ⟨hs,by rw[hk];rfl⟩
  obtain⟨x,hx,rfl⟩:=List.mem_map.1 hm
  exact⟨x.2,push_in _ _ x (zee hR hS) hx hi⟩
 le i hi:=by
  rw[List.getD_eq_getElem?_getD,List.getElem?_eq_getElem hi]
  exact hS.lne _ (List.getElem_mem hi)
end Go.Fw.Mn
namespace Go.Fw.Lw
open Go.Fw Go.Fw.Ref15 Go.Fw.Rg Go.Fw.Tl Go.Fw.Mn
variable [af]
theorem sJ{α:Type}{l:List α}{i:Int}(h0:0<=i)(h1:i<l.length)(d:α):getI l i=some (l.getD i.toNat d):=by
 have:i.toNat<l.length:=by omega
 rw[getI,if_pos h0,List.getD_eq_getElem?_getD,List.getElem?_eq_getElem this];rfl
theorem GV{v lo hi:Int}(h:lo<=v/\v<=hi):kK v lo hi=v:=by
 grind[kK]
theorem EH{v hi:Int}(h:0<=hi):kK v 0 hi=iO v 0 hi:=by
 unfold kK iO mm2
 grind
theorem GX{a b:Int}(hb:-4611686018427387904<=b/\b<=4611686018427387904)(h:-4611686018427387904<=a+b/\a+b<=4611686018427387904):yB a b=a+b:=by
 unfold yB
 have e:W (a+b)=a+b:=aO (by omega) (by omega)
 by_cases q:b>0
 ·rw[decide_eq_true q,show W (4611686018427387904-b)=4611686018427387904-b from aO (by omega) (by omega),decide_eq_false (show ¬a>4611686018427387904-b by omega),decide_eq_false (show ¬b<0 by omega),e];rfl
 ·rw[decide_eq_false q]
  by_cases r:b<0
  ·rw[decide_eq_true r,show W (-4611686018427387904-b) = -4611686018427387904-b from aO (by omega) (by omega),decide_eq_false (show ¬a < -4611686018427387904-b by omega),e];rfl
  grind
theorem z95{x y:Int}(hx:0<=x)(hy:0<y)(h:x * y<=4611686018427387904):x<=W (Int.tdiv 4611686018427387904 y):=by
 have h1:x<=4611686018427387904 / y:=Int.le_ediv_of_mul_le hy h
 have h2:(4611686018427387904:Int) / y<=4611686018427387904:=Int.ediv_le_self _ (by decide)
 rw[Int.tdiv_eq_ediv_of_nonneg (by decide),show W ((4611686018427387904:Int) / y)=4611686018427387904 / y from aO (by omega) (by omega)]
 exact h1
theorem GY{a:Int}(h:0<=a):JG a=a:=by grind[JG]
theorem GZ{a:Int}(h:a<0)(h1:-4611686018427387904<=a):JG a = -a:=by
 rw[JG,decide_eq_true h,cond_true,show W (0-a)=0-a from aO (by omega) (by omega)];omega
theorem G5{a b x y:Int}(ha:JG a=x)(hb:JG b=y)(hx:0<=x)(hy:0<y)(h:x * y<=4611686018427387904):Xq a b=x * y:=by
 have:=Int.mul_nonneg hx (Int.le_of_lt hy)
 rw[Xq,ha,hb,decide_eq_true (z95 hx hy h)]
 grind[aO]
theorem z05{a b:Int}(ha:-4611686018427387904<=a)(hb:-4611686018427387904<=b)(h:-4611686018427387904<=a * b/\a * b<=4611686018427387904):xZ a b=a * b:=by
 unfold xZ
 by_cases a0:a=0
 ·subst a0;simp
 by_cases b0:b=0
 ·subst b0;simp
 rw[show(bif a==0 then true else b==0)=false by simp[a0,b0]]
 by_cases sa:a<0
 ·by_cases sb:b<0
  ·rw[decide_eq_true sa,decide_eq_true sb,G5 (GZ sa ha) (GZ sb hb) (by omega) (by omega) (by grind),Int.neg_mul_neg];rfl
  ·rw[G5 (GZ sa ha) (GY (by omega)) (by omega) (by omega) (by grind)]
   grind[aO]
 ·by_cases sb:b<0
  ·rw[G5 (GY (by omega)) (GZ sb hb) (by omega) (by omega) (by grind)]
   grind[aO]
  ·rw[decide_eq_false sa,decide_eq_false sb,G5 (GY (by omega)) (GY (by omega)) (by omega) (by omega) h.2];rfl
theorem z96{n d:Int}(hd:1<=d/\d<=2147483648)(hn:-4611686018427387904<=n/\n<=4611686018427387904):Nh n d=iG n d:=by
 have hd0:0<d:=by omega
 unfold Nh iG
 by_cases h0:0<=n
 ·have h1:=Int.ediv_le_self d h0
  have h2:=Int.ediv_nonneg h0 (show 0<=d by omega)
  have h3:=Int.ediv_mul_le n (show d≠0 by omega)
  have h4:=Int.mul_nonneg h2 (show 0<=d by omega)
  rw[Int.tdiv_eq_ediv_of_nonneg h0,show W (n / d)=n / d from aO (by omega) (by omega),show W (n / d * d)=n / d * d from aO (by omega) (by omega),decide_eq_false (by omega)];rfl
 ·have hm:0 <= -n:=by omega
  have h1:=Int.ediv_le_self d hm
  have h2:=Int.ediv_nonneg hm (show 0<=d by omega)
  have h3:=Int.emod_add_mul_ediv (-n) d
  have h4:=Int.emod_nonneg (-n) (show d≠0 by omega)
  have h5:=Int.emod_lt_of_pos (-n) hd0
  have e:n.tdiv d = -((-n) / d):=by
   rw[<-Int.tdiv_eq_ediv_of_nonneg hm,Int.neg_tdiv,Int.neg_neg]
  have e2:-((-n) / d) * d=n+(-n) % d:=by grind
  rw[e,show W (-((-n) / d)) = -((-n) / d)from aO (by omega) (by omega),e2,show W (n+(-n) % d)=n+(-n) % d from aO (by omega) (by omega)]
  by_cases hr:(-n) % d=0
  ·exact((Int.ediv_emod_unique hd0 (a:=n) (r:=0)).2 ⟨by grind,by omega,by omega⟩).1.symm
  ·rw[show W (-((-n) / d)-1) = -((-n) / d)-1 from aO (by omega) (by omega)]
   exact((Int.ediv_emod_unique hd0 (a:=n) (r:=d-(-n) % d)).2 ⟨by grind,by omega,by omega⟩).1.symm
section
variable {c : Mac.Cd} {par inp sid : List Int} {s : Mac.Sta}
theorem xJ{x:Int×Int}{q q':PQ}{st args:List Int}{v w:Int}(hs:q.stack=st++args)(ht:tk x=(args.length:Int))(hl:st.length+args.length<=1000000)
  (ha:argO c inp sid s x args=some v) (hp:putO par x v { q with stack:=st }=some (w,q')):GG c par inp sid s x q=some (if ps x==1 then { q' with stack:=q'.stack++[kK w (-4611686018427387904) 4611686018427387904] } else q'):=by
 have e1:restN x q=st.length:=by grind[restN]
 have e2:(decide (tk x<=q.stack.length)&&decide (q.stack.length<=1000000))=true:=by
  grind
 rw[GG]
 simp_all
end
structure CE(p:Pr)(c:Mac.Cd)(F:Fr)(s:Mac.Sta):Prop where
 lat:c.latency=p.latency
 lin:c.lines=p.lines
 tab:c.tables=p.tables.map (·.values)
 reg:0<=c.regs
 sl:s.lines=F.lines
 inp:(F.inp.length:Int)=p.latency+1
 sid:(F.side.length:Int)=p.latency+1
 siz:∀i,i<F.lines.length->((F.lines.getD i []).length:Int)=(p.lines.getD i Ln.none).size
 lim:p.lines.length<=16/\p.tables.length<=16
section
variable {p : Pr} {c : Mac.Cd} {F : Fr} {s : Mac.Sta} {found : List Sp} {x y z : Ex}
theorem z97(hE:CE p c F s)(hF:z7g p found F)(v:V p found.length x)(h:XOk p found F x)(e:x.l = [y])(hk:x.kind=6\/x.kind=7\/x.kind=8\/x.kind=9\/x.kind=10\/x.kind=13\/x.kind=14\/x.kind=18) :
  RH c F.inp F.side s (yA x.kind) (x.index+x.n) (bC p (lfM F) y)=some (bC p (lfM F) x):=by
 have hy:XOk p found F y:=h.part (by rw[e];simp)
 have iy:=bT.1 (hy.inW hF)
 have hg:=(aV v.wf).2.1
 have hv:valXs p (lfM F) x.l = [bC p (lfM F) y]:=by rw[e];rfl
 have hself:x∈aA x:=by rw[iM];simp
 rcases hk with k |k |k |k |k |k |k |k
 ·have ha:=h.ahd x hself (by rw[looks,k];rfl) y e
  have i1:=hE.inp
  rw[jG k hv,k]
  show getI F.inp (kK (bC p (lfM F) y) 0 c.latency)=some (at0 F.inp (bC p (lfM F) y))
  rw[hE.lat,GV (by omega),sJ ha.1 ha.2.1 0];rfl
 ·have ha:=h.ahd x hself (by rw[looks,k];rfl) y e
  have i1:=hE.sid
  rw[jG k hv,k]
  show getI F.side (kK (bC p (lfM F) y) 0 c.latency)=some (at0 F.side (bC p (lfM F) y))
  rw[hE.lat,GV (by omega),sJ ha.1 ha.2.2 0];rfl
 ·have hq:=Jb hg (by rw[k];rfl)
  have hn:=v.num (by omega) (by omega)
  have hl:=hF.lin
  have hlim:=hE.lim
  have hne:=hF.lne (rG F x.index) (by simp_all)
  have hsz:=hE.siz x.index.toNat (by omega)
  rw[jG k hv,k,hn,Int.add_zero]
  show(match getI s.lines x.index,getI c.lines x.index with |some l,some b=>getI l (kK (bC p (lfM F) y) 0 (W (b.size-1))) |_,_=>none)=some (at0 (rG F x.index) (iO (bC p (lfM F) y) 0 ((rG F x.index).length-1)))
  rw[hE.sl,hE.lin,sJ hq.1 (by omega) [],sJ hq.1 (by omega) Ln.none]
  show getI (rG F x.index) (kK (bC p (lfM F) y) 0 (W ((p.lines.getD x.index.toNat Ln.none).size-1)))=_
  have hc:=qX (l:=rG F x.index) (v:=bC p (lfM F) y) hne.1
  rw[<-hsz,show W (((F.lines.getD x.index.toNat []).length:Int)-1)=((rG F x.index).length:Int)-1 from aO (by omega) (by grind),EH (by omega),sJ hc.1 hc.2 0];rfl
 ·have hq:=O9 hg (by rw[k];rfl)
  have hn:=v.num (by omega) (by omega)
  have hlim:=hE.lim
  have hpos:=Me hg (by rw[k];rfl)
  have htl:(aF p x.index).length<=1073741824:=by
   refine hF.tab (p.tables.getD x.index.toNat Tb.none) ?_
   simp_all
  rw[jG k hv,k,hn,Int.add_zero]
  show(match getI c.tables x.index with |some t=>getI t (kK (bC p (lfM F) y) 0 (W ((t.length:Int)-1))) |none=>none)=some (at0 (aF p x.index) (iO (bC p (lfM F) y) 0 ((aF p x.index).length-1)))
  have ht:getI c.tables x.index=some (aF p x.index):=by
   rw[hE.tab,getI,if_pos hq.1,List.getElem?_map,aF,List.getD_eq_getElem?_getD,List.getElem?_eq_getElem (by omega:x.index.toNat<p.tables.length)];rfl
  rw[ht]
  have hc:=qX (l:=aF p x.index) (v:=bC p (lfM F) y) hpos
  show getI (aF p x.index) (kK (bC p (lfM F) y) 0 (W (((aF p x.index).length:Int)-1)))=_
  rw[show W (((aF p x.index).length:Int)-1)=((aF p x.index).length:Int)-1 from aO (by omega) (by omega),EH (by omega),sJ hc.1 hc.2 0];rfl
 ·rw[jG k hv,k];rfl
 ·rw[jG k hv,k]
  show some (JG (bC p (lfM F) y))=some (mm2 true (bC p (lfM F) y) (-(bC p (lfM F) y)))
  unfold JG
  by_cases q:bC p (lfM F) y<0
  ·rw[decide_eq_true q,cond_true,show W (0-bC p (lfM F) y)=0-bC p (lfM F) y from aO (by omega) (by omega)]
   grind[mm2]
  ·grind[mm2]
 ·rw[jG k hv,k]
  show some (W (0-bC p (lfM F) y))=some (-(bC p (lfM F) y))
  rw[show W (0-bC p (lfM F) y)=0-bC p (lfM F) y from aO (by omega) (by omega)]
  simp
 ·have hq:=own_k18' hg k
  have hi:=v.idx (by rw[k];rfl) (by omega) (by omega)
  rw[jG k hv,k,hi,Int.zero_add]
  show(if x.n==0 then none else some (Nh (bC p (lfM F) y) x.n))=some (iG (bC p (lfM F) y) x.n)
  rw[if_neg (by simp;omega)]
  refine congrArg some ?_
  exact z96 hq iy
end
end Go.Fw.Lw
namespace Go.Fw.Lw
open Go.Fw Go.Fw.Ref15 Go.Fw.Rg Go.Fw.Tl Go.Fw.Mn
variable [af] {par inp sid : List Int}
theorem vX{c:Mac.Cd}{s:Mac.Sta}:∀(a b:Ins) (q t:PQ),runO c par inp sid s a q=some t->runO c par inp sid s (a++b) q=runO c par inp sid s b t
 | [],b,q,t,h=>by cases h;rfl
 |x::r,b,q,t,h=>by
  rw[runO]at h
  rw[List.cons_append,runO]
  cases hx:GG c par inp sid s x q with
  |none=>simp_all
  |some u=>rw[hx]at h;exact vX r b u t h
theorem z3j{c:Mac.Cd}{s:Mac.Sta}{x:Int×Int}{q t:PQ}(h:GG c par inp sid s x q=some t):runO c par inp sid s [x] q=some t:=by rw[runO,h];rfl
def Qb(n:Int)(a b:List Int):Prop:=b.length=a.length/\∀i:Nat,(i:Int)<n->b.getD i 0=a.getD i 0
theorem Qb.refl{n:Int}{a:List Int}:Qb n a a:=⟨rfl,λ_ _=>rfl⟩
theorem Qb.trans{n m:Int}{a b d:List Int}(h:Qb n a b)(g:Qb m b d)(hm:n<=m):Qb n a d:=⟨g.1.trans h.1,λi hi=>(g.2 i (by omega)).trans (h.2 i hi)⟩
def Does(c:Mac.Cd)(F:Fr)(s:Mac.Sta)(n0:Int)(Q:List Int->List Int->Prop)(f:GF)(k:Nat)(vs:List Int):Prop:=
 ∀n,n0<=n->n<=(f n).2/\((f n).2<=c.regs->∀q:PQ,Q q.values q.regs->q.stack.length+k<=1000000->∃rs,Qb n q.regs rs/\runO c F.params F.inp F.side s (f n).1 q=some { q with stack:=q.stack++vs,regs:=rs })
def zeg(n0:Int)(Q:List Int->List Int->Prop):Prop:=∀v a b,Q v a->Qb n0 a b->Q v b
section
variable {c : Mac.Cd} {F : Fr} {s : Mac.Sta} {n0 : Int} {Q : List Int → List Int → Prop} {f g : GF} {k m : Nat} {vs ws : List Int}
theorem Does.weak{n1:Int}{m:Nat}(h:Does c F s n0 Q f k vs)(h1:n0<=n1)(h2:k<=m):Does c F s n1 Q f m vs:=λn hn=>⟨(h n (by omega)).1,λhr q hq hl=>(h n (by omega)).2 hr q hq (by omega)⟩
theorem Does.seq(hQ:zeg n0 Q)(hf:Does c F s n0 Q f k vs)(hg:Does c F s n0 Q g m ws){j:Nat}(h1:k<=j)(h2:vs.length+m<=j):Does c F s n0 Q (gU f g) j (vs++ws):=by
 intro n hn
 obtain⟨a1,a2⟩:=hf n hn
 obtain⟨b1,b2⟩:=hg (f n).2 (by omega)
 refine⟨Int.le_trans a1 b1,λhr q hq hl=>?_⟩
 have hr:(g (f n).2).2<=c.regs:=hr
 obtain⟨rs,e1,e2⟩:=a2 (by omega) q hq (by omega)
 obtain⟨rs',e3,e4⟩:=b2 hr { q with stack:=q.stack++vs,regs:=rs } (hQ _ _ _ hq ⟨e1.1,λi hi=>e1.2 i (by omega)⟩) (by grind)
 refine⟨rs',e1.trans e3 a1,?_⟩
 show runO c F.params F.inp F.side s ((f n).1++(g (f n).2).1) q=_
 grind[vX]
theorem Does.op{op a v:Int}(hf:Does c F s n0 Q f k vs)(h2:vs.length<=k)(ht:tk (op,a)=(vs.length:Int))(hp:(ps (op,a)==1)=true)(hput:∀q,putO F.params (op,a) v q=some (v,q))(hv:inW v=true)
  (ha:argO c F.inp F.side s (op,a) vs=some v):Does c F s n0 Q (gU f (bQ op a)) k [v]:=by
 intro n hn
 obtain⟨a1,a2⟩:=hf n hn
 refine⟨a1,λhr q hq hl=>?_⟩
 obtain⟨rs,e1,e2⟩:=a2 hr q hq hl
 refine⟨rs,e1,?_⟩
 show runO c F.params F.inp F.side s ((f n).1++[(op,a)]) q=_
 rw[vX _ _ _ _ e2]
 refine z3j ?_
 rw[xJ (st:=q.stack) (args:=vs) rfl ht (by omega) ha (hput _),if_pos hp,GV (bT.1 hv)]
theorem Does.leaf{op a v w:Int}(ht:tk (op,a)=0)(hp:(ps (op,a)==1)=true)(h4:(tk (op,a)==1)=false)(h5:(tk (op,a)==2)=false)(h6:(tk (op,a)==4)=false)(hput:∀q:PQ,Q q.values q.regs->putO F.params (op,a) 0 q=some (v,q))(hv:inW v=true)(hw:v=w):Does c F s n0 Q (bQ op a) 1 [w]:=by
 subst hw
 intro n hn
 refine⟨Int.le_refl n,λhr q hq hl=>⟨q.regs,Qb.refl,?_⟩⟩
 refine z3j ?_
 have ha:argO c F.inp F.side s (op,a) []=some 0:=by
  rw[argO,if_neg (by rw[h4];decide),if_neg (by rw[h5];decide),if_neg (by rw[h6];decide)]
 rw[xJ (st:=q.stack) (args:=[]) (by simp) ht (by simp;omega) ha (hput { q with stack:=q.stack } hq),if_pos hp,GV (bT.1 hv)]
end
def Kq(p:Pr)(c:Mac.Cd)(R:List (Int×Int))(b:Nat)(n0:Int)(F:Fr)(vals regs:List Int):Prop:=
 vals=F.vals/\(regs.length:Int)=c.regs/\∀i:Int,0<=i->i<b->((p.stmts.getD i.toNat Sm.none).kind==1)=true->∃r,lkA i R=some r/\0<=r/\r<n0/\r<regs.length/\regs.getD r.toNat 0=at0 F.lets i
theorem z06{p:Pr}{c:Mac.Cd}{R:List (Int×Int)}{b:Nat}{n0:Int}{F:Fr}:zeg n0 (Kq p c R b n0 F):=by
 intro v a d h g
 refine⟨h.1,by rw[g.1];exact h.2.1,λi i0 i1 ik=>?_⟩
 obtain⟨r,h1,h2,h3,h4,h5⟩:=h.2.2 i i0 i1 ik
 exact⟨r,h1,h2,h3,by rw[g.1];exact h4,by rw[g.2 r.toNat (by omega)];exact h5⟩
theorem Qc(b:Bool)(x y:Int):mm2 b x y=mm2 b y x:=by
 cases b<;>simp[mm2]<;>(repeat' split)<;>omega
theorem XN{c:Mac.Cd}{F:Fr}{s:Mac.Sta}{n0:Int}{Q:List Int->List Int->Prop}{at_ reg w:Int}(hQ:zeg n0 Q)(hreg:0<=reg/\reg<n0)(hw:inW w=true){m:Nat}(h1m:1<=m):∀(fs:List GF) (vs:List Int) (i:Int),fs.length=vs.length ->
  (∀(j:Nat) f v,fs[j]? = some f->vs[j]? = some v->i+j≠at_->Does c F s n0 Q f m [v])->(∀(j:Nat) v,vs[j]? = some v->i+j=at_->v=w) ->
  Does c F s n0 (λv r=>Q v r/\(reg<r.length/\r.getD reg.toNat 0=w)) (chG fs at_ reg i) (m+fs.length) vs
 | [],vs,i,h,_,_=>by
  have:vs = []:=by grind
  subst this
  exact λn hn=>⟨Int.le_refl n,λhr q hq hl=>⟨q.regs,Qb.refl,by show some q=_;simp⟩⟩
 |f::r,[],i,h,_,_=>by simp at h
 |f::r,v::vs,i,hl,hf,h1=>by
  have hQ2:zeg n0 (λv r=>Q v r/\(reg<r.length/\r.getD reg.toNat 0=w)):=λu a b h g=>⟨hQ u a b h.1 g,by rw[g.1];exact h.2.1,by rw[g.2 reg.toNat (by omega)];exact h.2.2⟩
  have ih:=XN hQ hreg hw h1m (c:=c) (F:=F) (s:=s) (at_:=at_) r vs (i+1) (by simpa using hl) (λj f' v' e1 e2 hne=>hf (j+1) f' v' (by simpa using e1) (by simpa using e2) (by omega)) (λj v' e he=>h1 (j+1) v' (by simpa using e) (by omega))
  have hd:Does c F s n0 (λv r=>Q v r/\(reg<r.length/\r.getD reg.toNat 0=w)) (if i==at_ then bQ 4 reg else f) m [v]:=by
   by_cases e:i=at_
   ·rw[if_pos (by simpa using e)]
    have hv:=h1 0 v rfl (by omega)
    refine(Does.leaf (op:=4) (a:=reg) (v:=w) rfl rfl rfl rfl rfl (λq hq=>?_) hw hv.symm).weak (Int.le_refl _) h1m
    show(getI q.regs reg).map (λw=>(w,q))=some (w,q)
    grind[sJ]
   ·rw[if_neg (by simpa using e)]
    have:=hf 0 f v rfl rfl (by omega)
    exact λn hn=>⟨(this n hn).1,λhr q hq hl=>(this n hn).2 hr q hq.1 hl⟩
  have:=hd.seq hQ2 ih (j:=m+(r.length+1)) (by omega) (by grind)
  exact this
theorem z07{x y:Ex}{l:List Ex}(h:y∈l):Ref15.nodes y<=Ref15.nodesL l:=by
 induction l with
 |nil=>simp at h
 |cons a r ih=>
  rw[Ref15.nodesL]
  grind
theorem ui(x:Ex):1<=Ref15.nodes x:=by cases x;rw[Ref15.nodes];omega
theorem z98{p:Pr}{c:Mac.Cd}{F:Fr}{s:Mac.Sta}{found:List Sp}(hE:CE p c F s)(hF:z7g p found F)(hb:found.length<=p.stmts.length){R:List (Int×Int)}{n0:Int}(h0:0<=n0):∀x:Ex,V p found.length x->XOk p found F x->Does c F s n0 (Kq p c R found.length n0 F) (aN R x) (Ref15.nodes x) [bC p (lfM F) x]:=by
 refine Ex.ind λx ih=>?_
 intro v h
 obtain⟨g1,g2,g3⟩:=aV v.wf
 have hQ:zeg n0 (Kq p c R found.length n0 F):=z06
 have hi:∀y∈x.l,Does c F s n0 (Kq p c R found.length n0 F) (aN R y) (Ref15.nodes y) [bC p (lfM F) y]:=λy hy=>ih y hy (v.part hy) (h.part hy)
 have iw:∀y∈x.l,inW (bC p (lfM F) y)=true:=λy hy=>(h.part hy).inW hF
 have ix:=h.inW hF
 have hn:Ref15.nodes x=1+Ref15.nodesL x.l:=nodes_eq x
 rw[Gu,iP]
 rcases jR g1 (Int.natCast_nonneg _)with⟨hl,hk⟩ |⟨hl,hk⟩ |⟨hl,hk⟩ |⟨hl,hk⟩
 ·have e:=Xh hl
  have hv:valXs p (lfM F) x.l = []:=by rw[e];rfl
  rw[e]at hn
  rw[e,hn]
  show Does c F s n0 _ (genC R x.kind x.index x.n [] []) 1 _
  rcases hk with k |k |k |k |k
  ·have ev:bC p (lfM F) x=x.n:=by rw[jG k hv];rfl
   rw[genC,if_pos (by rw[k];rfl)]
   exact Does.leaf (v:=x.n) rfl rfl rfl rfl rfl (λq _=>rfl) (by simp_all) ev.symm
  ·rw[k]at g2;simp[oP]at g2
  ·have hq:=O8 g2 (by rw[k];rfl)
   have ev:bC p (lfM F) x=at0 F.params x.index:=by rw[jG k hv];rfl
   rw[genC,if_neg (by rw[k];decide),if_pos (by rw[k];rfl)]
   refine Does.leaf (v:=at0 F.params x.index) rfl rfl rfl rfl rfl (λq _=>?_) (by simp_all) ev.symm
   show(getI F.params x.index).map (λw=>(w,q))=_
   rw[sJ hq.1 (by rw[hF.par];exact hq.2) 0];rfl
  ·have hq:=Ja g2 (by rw[k];rfl)
   have ev:bC p (lfM F) x=at0 F.vals x.index:=by rw[jG k hv];rfl
   rw[genC,if_neg (by rw[k];decide),if_neg (by rw[k];decide),if_pos (by rw[k];rfl)]
   refine Does.leaf (v:=at0 F.vals x.index) rfl rfl rfl rfl rfl (λq hQq=>?_) (by simp_all) ev.symm
   show(getI q.values x.index).map (λw=>(w,q))=_
   rw[hQq.1,sJ hq.1 (by rw[hF.val];exact hq.2) 0];rfl
  ·have hq:=Ea g2 (by rw[k];rfl)
   have ev:bC p (lfM F) x=at0 F.lets x.index:=by rw[jG k hv];rfl
   have ho:=MK hb v.rs v.wf
   have hkk:((p.stmts.getD x.index.toNat Sm.none).kind==1)=true:=by
    rw[vI,hl]at ho
    simp_all
   rw[genC,if_neg (by rw[k];decide),if_neg (by rw[k];decide),if_neg (by rw[k];decide),if_pos (by rw[k];rfl)]
   refine Does.leaf (v:=at0 F.lets x.index) rfl rfl rfl rfl rfl (λq hQq=>?_) (by simp_all) ev.symm
   obtain⟨r,e1,e2,e3,e4,e5⟩:=hQq.2.2 x.index hq.1 hq.2 hkk
   show(getI q.regs ((lkA x.index R).getD 0)).map (λw=>(w,q))=_
   grind[getI,sJ]
 ·obtain⟨y,e⟩:=len1 hl
  have hy:y∈x.l:=by rw[e];simp
  have hg:genC R x.kind x.index x.n (x.l.map ae) (bV R x.l)=gU (fAt (bV R x.l) 0) (bQ (yA x.kind) (x.index+x.n)):=by
   rcases hk with q |q |q |q |q |q |q |q<;>rw[q]<;>rfl
  have f0:fAt (bV R x.l) 0=aN R y:=kJ R (j:=0) rfl (by rw[e];rfl)
  have ho:=z97 hE hF v h e hk
  have hc:tk (yA x.kind,x.index+x.n)=1/\(ps (yA x.kind,x.index+x.n)==1)=true/\(∀q,putO F.params (yA x.kind,x.index+x.n) (bC p (lfM F) x) q=some (bC p (lfM F) x,q)):=by
   rcases hk with q |q |q |q |q |q |q |q<;>rw[q]<;>exact⟨rfl,rfl,λ_=>rfl⟩
  rw[hg,f0]
  have hny:=z07 (x:=x) hy
  have h1:=ui y
  refine((hi y hy).weak (Int.le_refl _) (show Ref15.nodes y<=Ref15.nodes x by omega)).op (by simp_all) hc.1 hc.2.1 hc.2.2 ix ?_
  show argO c F.inp F.side s (yA x.kind,x.index+x.n) [bC p (lfM F) y]=_
  rw[argO,if_pos (by rw[hc.1];rfl)]
  simp_all
 ·obtain⟨y,z,e⟩:=len2 hl
  have hy:y∈x.l:=by rw[e];simp
  have hz:z∈x.l:=by rw[e];simp
  have f0:fAt (bV R x.l) 0=aN R y:=kJ R (j:=0) rfl (by rw[e];rfl)
  have f1:fAt (bV R x.l) 1=aN R z:=kJ R (j:=1) rfl (by rw[e];rfl)
  have py:=oZ y found.length p (eQ g3 y hy)
  have n1:=ui y;have n2:=ui z
  have hnn:Ref15.nodes x=1+(Ref15.nodes y+Ref15.nodes z):=by rw[hn,e];rfl
  have hv:valXs p (lfM F) x.l = [bC p (lfM F) y,bC p (lfM F) z]:=by rw[e];rfl
  have hm:x.l.map ae = [ae y,ae z]:=by rw[e];rfl
  have iy:=bT.1 (iw y hy);have iz:=bT.1 (iw z hz);have ix':=bT.1 ix
  have ryz:Does c F s n0 (Kq p c R found.length n0 F) (gU (aN R y) (aN R z)) (Ref15.nodes x) [bC p (lfM F) y,bC p (lfM F) z]:=(hi y hy).seq hQ (hi z hz) (by omega) (by grind)
  have rzy:Does c F s n0 (Kq p c R found.length n0 F) (gU (aN R z) (aN R y)) (Ref15.nodes x) [bC p (lfM F) z,bC p (lfM F) y]:=(hi z hz).seq hQ (hi y hy) (by omega) (by grind)
  rw[hm]
  have cmb:∀op,tk (op,0)=2->(ps (op,0)==1)=true->(∀q,putO F.params (op,0) (bC p (lfM F) x) q=some (bC p (lfM F) x,q))->S9 op (bC p (lfM F) y) (bC p (lfM F) z)=some (bC p (lfM F) x)->S9 op (bC p (lfM F) z) (bC p (lfM F) y)=some (bC p (lfM F) x) ->
    Does c F s n0 (Kq p c R found.length n0 F) (qG op [ae y,ae z] (bV R x.l)) (Ref15.nodes x) [bC p (lfM F) x]:=by
   intro op o1 o2 o3 o4 o5
   rcases Xc (b:=ae z) py with⟨q1,q2⟩ |⟨q1,q2⟩
   ·rw[qG,q2]
    show Does c F s n0 _ (gU (gU (fAt (bV R x.l) 0) (fAt (bV R x.l) 1)) (bQ op 0)) _ _
    rw[f0,f1]
    exact ryz.op (by grind) o1 o2 o3 ix (by rw[argO,if_neg (by rw[o1];decide),if_pos (by rw[o1];rfl)];exact o4)
   ·rw[qG,q2]
    show Does c F s n0 _ (gU (gU (fAt (bV R x.l) 1) (fAt (bV R x.l) 0)) (bQ op 0)) _ _
    rw[f0,f1]
    exact rzy.op (by grind) o1 o2 o3 ix (by rw[argO,if_neg (by rw[o1];decide),if_pos (by rw[o1];rfl)];exact o5)
  rcases hk with k |k |k |k |k
  ·have ev:bC p (lfM F) x=mm2 false (bC p (lfM F) y) (bC p (lfM F) z):=by rw[jG k hv];rfl
   rw[show genC R x.kind x.index x.n [ae y,ae z] (bV R x.l)=qG 13 [ae y,ae z] (bV R x.l)by rw[k];rfl]
   exact cmb 13 rfl rfl (λ_=>rfl) (by rw[ev];rfl) (by rw[ev,Qc];rfl)
  ·have ev:bC p (lfM F) x=mm2 true (bC p (lfM F) y) (bC p (lfM F) z):=by rw[jG k hv];rfl
   rw[show genC R x.kind x.index x.n [ae y,ae z] (bV R x.l)=qG 14 [ae y,ae z] (bV R x.l)by rw[k];rfl]
   exact cmb 14 rfl rfl (λ_=>rfl) (by rw[ev];rfl) (by rw[ev,Qc];rfl)
  ·have ev:bC p (lfM F) x=bC p (lfM F) y+bC p (lfM F) z:=by rw[jG k hv];rfl
   rw[show genC R x.kind x.index x.n [ae y,ae z] (bV R x.l)=qG 17 [ae y,ae z] (bV R x.l)by rw[k];rfl]
   exact cmb 17 rfl rfl (λ_=>rfl) (by show some (yB _ _)=_;grind[GX,ev]) (by show some (yB _ _)=_;grind[GX,ev,Int.add_comm])
  ·have ev:bC p (lfM F) x=bC p (lfM F) y-bC p (lfM F) z:=by rw[jG k hv];rfl
   have en:W (0-bC p (lfM F) z) = -(bC p (lfM F) z):=by rw[show W (0-bC p (lfM F) z)=0-bC p (lfM F) z from aO (by omega) (by omega)];omega
   rw[show genC R x.kind x.index x.n [ae y,ae z] (bV R x.l)=JD [ae y,ae z] (bV R x.l)by rw[k];rfl,JD,f0,f1]
   show Does c F s n0 _ (if ae z<=ae y then _ else _) _ _
   by_cases q:ae z<=ae y
   ·rw[if_pos q]
    refine ryz.op (op:=18) (a:=0) (by grind) rfl rfl (λ_=>rfl) ix ?_
    show some (yB (bC p (lfM F) y) (W (0-bC p (lfM F) z)))=_
    rw[en,GX (by omega) (by omega),ev];rfl
   ·rw[if_neg q]
    have hneg:inW (-(bC p (lfM F) z))=true:=bT.2 (by omega)
    have r1:Does c F s n0 (Kq p c R found.length n0 F) (gU (aN R z) (bQ 16 0)) (Ref15.nodes z) [-(bC p (lfM F) z)]:=(hi z hz).op (op:=16) (a:=0) (by omega) rfl rfl (λ_=>rfl) hneg (by show some (W (0-bC p (lfM F) z))=_;rw[en])
    have r2:Does c F s n0 (Kq p c R found.length n0 F) (gU (gU (aN R z) (bQ 16 0)) (aN R y)) (Ref15.nodes x) [-(bC p (lfM F) z),bC p (lfM F) y]:=r1.seq hQ (hi y hy) (by omega) (by grind)
    refine r2.op (op:=17) (a:=0) (by grind) rfl rfl (λ_=>rfl) ix ?_
    show some (yB (-(bC p (lfM F) z)) (bC p (lfM F) y))=_
    rw[GX (by omega) (by omega),ev];grind
  ·have ev:bC p (lfM F) x=bC p (lfM F) y * bC p (lfM F) z:=by rw[jG k hv];rfl
   have tw:∀a b:Int,(-4611686018427387904<=a/\a<=4611686018427387904)->(-4611686018427387904<=b/\b<=4611686018427387904)->(-4611686018427387904<=a * b/\a * b<=4611686018427387904)->S9 19 a b=some (a * b):=by
    intro a b ha hb hab
    show(if decide (-4611686018427387904<=b)&&decide (b<=4611686018427387904)then some (xZ a b)else none)=_
    rw[decide_eq_true hb.1,decide_eq_true hb.2,if_pos (show(true&&true)=true from rfl),z05 ha.1 hb.1 hab]
   rw[ev]at ix'
   rw[show genC R x.kind x.index x.n [ae y,ae z] (bV R x.l)=qG 19 [ae y,ae z] (bV R x.l)by rw[k];rfl]
   exact cmb 19 rfl rfl (λ_=>rfl) (by simp_all) (by grind)
 ·obtain⟨y0,y1,y2,y3,e⟩:=zar hl
  have p0:=oZ y0 found.length p (eQ g3 y0 (by rw[e];simp))
  have hm:x.l.map ae = [ae y0,ae y1,ae y2,ae y3]:=by rw[e];rfl
  have hv:valXs p (lfM F) x.l = [bC p (lfM F) y0,bC p (lfM F) y1,bC p (lfM F) y2,bC p (lfM F) y3]:=by rw[e];rfl
  have ev:bC p (lfM F) x=if bC p (lfM F) y0<bC p (lfM F) y1 then bC p (lfM F) y2 else bC p (lfM F) y3:=by rw[jG hk hv];rfl
  have hnn:Ref15.nodes x=1+(Ref15.nodes y0+(Ref15.nodes y1+(Ref15.nodes y2+Ref15.nodes y3))):=by rw[hn,e];rfl
  have m0:=ui y0;have m1:=ui y1;have m2:=ui y2;have m3:=ui y3
  rw[show genC R x.kind x.index x.n (x.l.map ae) (bV R x.l)=gIf (x.l.map ae) (bV R x.l)by rw[hk];rfl,hm]
  obtain⟨j,hj,e1,e2,e3⟩:=Rz (b:=ae y1) (c:=ae y2) (d:=ae y3) p0
  have hat:∀i:Nat,i<4->∃y,x.l[i]? = some y/\y∈x.l /\ [bC p (lfM F) y0,bC p (lfM F) y1,bC p (lfM F) y2,bC p (lfM F) y3][i]? = some (bC p (lfM F) y)/\Ref15.nodes y+4<=Ref15.nodes x:=by
   intro i hi
   rw[e]
   match i,hi with
   | 0,_=>grind
   | 1,_=>grind
   | 2,_=>grind
   | 3,_=>grind
  obtain⟨z,z1,z2,z3,z4⟩:=hat j hj
  have iz:=iw z z2
  have fz:fAt (bV R x.l) (bg [ae y0,ae y1,ae y2,ae y3]).2=aN R z:=kJ R e1 z1
  intro n hnn0
  have hgen:gIf [ae y0,ae y1,ae y2,ae y3] (bV R x.l) n=gU (gU (gU (aN R z) (bQ 5 n)) (chG (bV R x.l) (j:Int) n 0)) (bQ 21 0) (n+1):=by rw[gIf,fz,e1]
  have hw:∀y∈x.l,Does c F s (n+1) (Kq p c R found.length n0 F) (aN R y) (Ref15.nodes x-4) [bC p (lfM F) y]:=λy hy=>(hi y hy).weak (by omega) (by
   obtain⟨i,hi'⟩:=List.mem_iff_getElem?.1 hy
   have hi4:i<4:=by
    grind
   grind)
  have rc:=XN (c:=c) (F:=F) (s:=s) (n0:=n+1) (Q:=Kq p c R found.length n0 F) (at_:=(j:Int)) (reg:=n) (w:=bC p (lfM F) z) (m:=Ref15.nodes x-4) (λu a b g1 g2=>hQ u a b g1 ⟨g2.1,λi hi=>g2.2 i (by omega)⟩) ⟨by omega,by omega⟩ iz (by omega) (bV R x.l) [bC p (lfM F) y0,bC p (lfM F) y1,bC p (lfM F) y2,bC p (lfM F) y3] 0 (by grind[kV]) (λi f u i1 i2 hne=>by
   rw[kV,List.getElem?_map]at i1
   have hi4:i<4:=by grind
   grind) (λi u i2 hij=>by
   have:i=j:=by omega
   simp_all)
  have rF:Does c F s (n+1) (λv r=>Kq p c R found.length n0 F v r/\(n<r.length/\r.getD n.toNat 0=bC p (lfM F) z)) (gU (chG (bV R x.l) (j:Int) n 0) (bQ 21 0)) (Ref15.nodes x) [bC p (lfM F) x]:=by
   refine(rc.weak (Int.le_refl _) (show Ref15.nodes x-4+(bV R x.l).length<=Ref15.nodes x by grind[kV,List.length_map,List.length_cons,List.length_nil])).op (by grind) rfl rfl (λ_=>rfl) ix ?_
   show some (bif decide (bC p (lfM F) y0<bC p (lfM F) y1)then bC p (lfM F) y2 else bC p (lfM F) y3)=_
   simp_all
  obtain⟨a1,a2⟩:=hw z z2 (n+1) (Int.le_refl _)
  obtain⟨b1,b2⟩:=rF (aN R z (n+1)).2 a1
  rw[hgen]
  refine⟨by grind[gU,chG,bV,bQ,aN],λhr q hq hlen=>?_⟩
  have hr:(gU (chG (bV R x.l) (j:Int) n 0) (bQ 21 0) (aN R z (n+1)).2).2<=c.regs:=hr
  obtain⟨rs,d1,d2⟩:=a2 (by omega) q hq (by omega)
  -- the register
  have hnr:n.toNat<rs.length:=by
   have:=d1.1
   have:=hq.2.1
   omega
  have hst:GG c F.params F.inp F.side s (5,n) { q with stack:=q.stack++[bC p (lfM F) z],regs:=rs }=some { q with regs:=rs.set n.toNat (bC p (lfM F) z) }:=by
   rw[xJ (st:=q.stack) (args:=[bC p (lfM F) z]) (v:=bC p (lfM F) z) (w:=bC p (lfM F) z) (q':={ q with regs:=rs.set n.toNat (bC p (lfM F) z) }) rfl rfl (by grind) rfl (by
    show(if decide (0<=n)&&decide (n<rs.length)then some (bC p (lfM F) z,{ q with regs:=rs.set n.toNat (bC p (lfM F) z) })else none)=_
    grind)]
   rfl
  have hE2:Qb n q.regs (rs.set n.toNat (bC p (lfM F) z)):=⟨by rw[List.length_set];exact d1.1,λi hi=>by
   rw[List.getD_eq_getElem?_getD,List.getElem?_set_ne (by omega),<-List.getD_eq_getElem?_getD];exact d1.2 i (by omega)⟩
  obtain⟨rs',f1,f2⟩:=b2 hr { q with regs:=rs.set n.toNat (bC p (lfM F) z) } ⟨hQ _ _ _ hq ⟨hE2.1,λi hi=>hE2.2 i (by omega)⟩,by grind,by
   simp_all⟩ hlen
  refine⟨rs',hE2.trans f1 (by omega),?_⟩
  show runO c F.params F.inp F.side s (((aN R z (n+1)).1++[(5,n)]++(chG (bV R x.l) (j:Int) n 0 (aN R z (n+1)).2).1)++[(21,0)]) q=_
  rw[List.append_assoc,List.append_assoc,vX _ _ _ _ d2,List.singleton_append,runO,hst]
  exact f2
end Go.Fw.Lw
namespace Go.Fw.Lw
open Go.Fw Go.Fw.Ref15 Go.Fw.Rg Go.Fw.Tl Go.Fw.Mn
variable [af]
structure PuE(p:Pr)(m:Ss)(q:PQ):Prop where
 val:q.values=m.vals
 out:q.out=m.out
 pl:q.pushed.length=p.lines.length
 ll:q.last.length=p.lines.length
 yes:∀j:Nat,q.pushed.getD j false=true->∃x∈m.pu,x.1.index.toNat=j/\q.last.getD j 0=x.2
 no:∀x∈m.pu,q.pushed.getD x.1.index.toNat false=true
structure SE(p:Pr)(c:Mac.Cd)(A:Fr)(R:List (Int×Int))(i:Nat)(n:Int)(m:Ss)(q:PQ):Prop where
 st:q.stack = []
 lt:Kq p c R i n (A.at m) q.values q.regs
 pu:PuE p m q
variable {c : Mac.Cd} {p : Pr} {A : Fr} {s : Mac.Sta} {vals regs rs : List Int}
theorem z3k{l:List Int}{v:Int}{j:Int}(h0:0<=j)(h:j<l.length):at0 (l++[v]) j=at0 l j:=by
 rw[at0,at0,List.getD_eq_getElem?_getD,List.getElem?_append_left (by omega),<-List.getD_eq_getElem?_getD]
theorem G6{R:List (Int×Int)}{i:Nat}{n n':Int}{m m':Ss}{v:Int}(h:Kq p c R i n (A.at m) vals regs)(hr:Qb n regs rs)(hk:((p.stmts.getD i Sm.none).kind==1)=false)(hl:m'.lets=m.lets++[v])(hi:m.lets.length=i)(hn:n<=n') :
  Kq p c R (i+1) n' (A.at m') m'.vals rs:=by
 refine⟨rfl,by rw[hr.1];exact h.2.1,λj j0 j1 jk=>?_⟩
 by_cases e:j=i
 ·simp_all
 ·obtain⟨r,h1,h2,h3,h4,h5⟩:=h.2.2 j j0 (by omega) jk
  refine⟨r,h1,h2,by omega,by rw[hr.1];exact h4,?_⟩
  show rs.getD r.toNat 0=at0 m'.lets j
  rw[hr.2 r.toNat (by omega),h5,hl,z3k j0 (by omega)]
theorem z99{R:List (Int×Int)}{i:Nat}{n k:Int}{m m':Ss}{v:Int}(h:Kq p c R i n (A.at m) vals regs)(hr:Qb n regs rs)(hl:m'.lets=m.lets++[v])(hi:m.lets.length=i)(hn:0<=n/\n<=k)(hk:k<c.regs) :
  Kq p c (lW (i:Int) k R) (i+1) (k+1) (A.at m') m'.vals (rs.set k.toNat v):=by
 have hlen:=h.2.1
 have hrl:=hr.1
 refine⟨rfl,by simp_all,λj j0 j1 jk=>?_⟩
 rw[tZ]
 show ∃r:Int,_/\_/\_/\_/\(rs.set k.toNat v).getD r.toNat 0=at0 m'.lets j
 by_cases e:j=i
 ·rw[if_pos (by simpa using e)]
  refine⟨k,rfl,by omega,by omega,by simp_all,?_⟩
  rw[Mn.getD_set_eq (by omega),hl,at0,e,List.getD_eq_getElem?_getD,List.getElem?_append_right (by omega),hi];simp
 ·rw[if_neg (by simpa using e)]
  obtain⟨r,h1,h2,h3,h4,h5⟩:=h.2.2 j j0 (by omega) jk
  refine⟨r,h1,h2,by omega,by simp_all,?_⟩
  rw[Mn.getD_set_ne (by omega),hr.2 r.toNat (by omega),h5,hl,z3k j0 (by omega)]
theorem CE.at_(h:CE p c A s)(m:Ss):CE p c (A.at m) s:=⟨h.lat,h.lin,h.tab,h.reg,h.sl,h.inp,h.sid,h.siz,h.lim⟩
theorem Qd(hP:Res p)(hS:nU p A)(hE:CE p c A s)(hv:A.vals.length=p.states.length)(hl:A.lines.length=p.lines.length):∀(r:List Sm) (i:Nat) (R:List (Int×Int)) (n:Int),p.stmts.drop i=r->0<=n ->
  n<=(cmpL r i R n).2/\((cmpL r i R n).2<=c.regs->∀q,SE p c A R i n (gB p A i) q->∃q',runO c A.params A.inp A.side s (cmpL r i R n).1 q=some q'/\PuE p (MP p A) q')
 | [],i,R,n,hd,_=>⟨Int.le_refl n,λ_ q hq=>⟨q,rfl,by have:=hq.pu;grind[Wv,List.drop_eq_nil_iff]⟩⟩
 |t::r,i,R,n,hd,h0=>by
  obtain⟨hs,hd'⟩:=vO hd
  have sv:=PY hP hs
  have hi:i<p.stmts.length:=(List.getElem?_eq_some_iff.1 hs).1
  have hgd:p.stmts.getD i Sm.none=t:=by simp_all
  obtain⟨found,hF,hX⟩:=hS.fr i t hs
  have hli:(gB p A i).lets.length=i:=Jo (Nat.le_of_lt hi)
  have hfi:found.length=i:=by have:=hF.let_;simp_all
  have hx:=z98 (hE.at_ (gB p A i)) hF (by omega) h0 (R:=R) t.x (by rw[hfi];exact sv.v) hX
  rw[hfi]at hx
  obtain⟨x1,x2⟩:=hx n (Int.le_refl _)
  have hm:pq p A (gB p A i) t=gB p A (i+1):=Wu hd
  have hnd:=sv.nd
  have hreg:=hE.reg
  have hvl:(gB p A i).vals.length=A.vals.length:=Bv
  -- what one statement does
  have one:∀(I:Int×Int) (q qn:PQ) (B:Ins),(aN R t.x n).2<=c.regs->SE p c A R i n (gB p A i) q->(∀rs,Qb n q.regs rs->∃q2,GG c A.params A.inp A.side s I { q with stack:=[bC p (lfM (A.at (gB p A i))) t.x],regs:=rs }=some q2/\∃q',runO c A.params A.inp A.side s B q2=some q'/\PuE p (MP p A) q') ->
    ∃q',runO c A.params A.inp A.side s ((aN R t.x n).1++[I]++B) q=some q'/\PuE p (MP p A) q':=by
   intro I q qn B hr hq hI
   obtain⟨rs,e1,e2⟩:=x2 hr q hq.lt (by rw[hq.st];grind)
   rw[hq.st,List.nil_append]at e2
   obtain⟨q2,e3,q',e4,e5⟩:=hI rs e1
   refine⟨q',?_,e5⟩
   rw[List.append_assoc,vX _ _ _ _ e2,List.singleton_append,runO,e3]
   exact e4
  have rest:=λR' n' h=>Qd hP hS hE hv hl r (i+1) R' n' hd' h
  rcases sv.kd with hk |hk |hk |hk
  ·have e:cmpL (t::r) i R n=((aN R t.x n).1++[(5,(aN R t.x n).2)]++(cmpL r (i+1) (lW (i:Int) (aN R t.x n).2 R) ((aN R t.x n).2+1)).1,(cmpL r (i+1) (lW (i:Int) (aN R t.x n).2 R) ((aN R t.x n).2+1)).2):=by
    rw[cmpL,if_pos (by rw[hk];rfl)]
   obtain⟨a1,a2⟩:=rest (lW (i:Int) (aN R t.x n).2 R) ((aN R t.x n).2+1) (by omega)
   rw[e]
   refine⟨by omega,λhr q hq=>?_⟩
   refine one _ q q _ (by omega) hq λrs hrs=>?_
   have hrl:(aN R t.x n).2<rs.length:=by have:=hq.lt.2.1;rw[hrs.1];omega
   refine⟨{ q with stack:=[],regs:=rs.set (aN R t.x n).2.toNat (ji p A (gB p A i) t) },?_,?_⟩
   ·rw[xJ (st:=[]) (args:=[bC p (lfM (A.at (gB p A i))) t.x]) (v:=ji p A (gB p A i) t) (w:=ji p A (gB p A i) t) (q':={ q with stack:=[],regs:=rs.set (aN R t.x n).2.toNat (ji p A (gB p A i) t) }) rfl rfl (by simp) rfl (by
     show(if decide (0<=(aN R t.x n).2)&&decide ((aN R t.x n).2<rs.length)then _ else none)=_
     grind)]
    rfl
   ·refine a2 hr _ ⟨rfl,?_,?_⟩
    ·have:=z99 (m':=gB p A (i+1)) hq.lt hrs (v:=ji p A (gB p A i) t) (k:=(aN R t.x n).2) (by rw[<-hm];rfl) hli ⟨h0,x1⟩ (by omega)
     have ev:(gB p A (i+1)).vals=q.values:=by rw[<-hm,Jp (by omega),hq.pu.val]
     simp_all
    ·have hu:=hq.pu
     rw[<-hm,z7r hk]
     exact⟨hu.val,hu.out,hu.pl,hu.ll,hu.yes,hu.no⟩
  ·have e:cmpL (t::r) i R n=((aN R t.x n).1++[(6,t.index)]++(cmpL r (i+1) R (aN R t.x n).2).1,(cmpL r (i+1) R (aN R t.x n).2).2):=by
    rw[cmpL,if_neg (by rw[hk];decide),if_pos (by rw[hk];rfl)]
   obtain⟨a1,a2⟩:=rest R (aN R t.x n).2 (by omega)
   rw[e]
   refine⟨by omega,λhr q hq=>?_⟩
   have hr:(cmpL r (i+1) R (aN R t.x n).2).2<=c.regs:=hr
   have hb:=sv.k2 hk
   have hu:=hq.pu
   refine one _ q q _ (by omega) hq λrs hrs=>?_
   refine⟨{ q with stack:=[],regs:=rs,values:=q.values.set t.index.toNat (ji p A (gB p A i) t) },?_,?_⟩
   ·rw[xJ (st:=[]) (args:=[bC p (lfM (A.at (gB p A i))) t.x]) (v:=ji p A (gB p A i) t) (w:=ji p A (gB p A i) t) (q':={ q with stack:=[],regs:=rs,values:=q.values.set t.index.toNat (ji p A (gB p A i) t) }) rfl rfl (by simp) rfl (by
     show(if decide (0<=t.index)&&decide (t.index<q.values.length)then _ else none)=_
     rw[hu.val,decide_eq_true hb.1,decide_eq_true (by omega)];rfl)]
    rfl
   ·have ev:(gB p A (i+1)).vals=q.values.set t.index.toNat (ji p A (gB p A i) t):=by rw[<-hm,Wy hk,hu.val]
    refine a2 hr _ ⟨rfl,?_,?_⟩
    ·have:=G6 (m':=gB p A (i+1)) (n':=(aN R t.x n).2) (v:=ji p A (gB p A i) t) hq.lt hrs (by simp_all) (by rw[<-hm];rfl) hli x1
     simp_all
    ·refine⟨ev.symm,?_,hu.pl,hu.ll,?_,?_⟩
     ·rw[<-hm,WA hk];exact hu.out
     ·rw[<-hm,WA hk];exact hu.yes
     ·rw[<-hm,WA hk];exact hu.no
  ·have e:cmpL (t::r) i R n=((aN R t.x n).1++[(7,t.index)]++(cmpL r (i+1) R (aN R t.x n).2).1,(cmpL r (i+1) R (aN R t.x n).2).2):=by
    rw[cmpL,if_neg (by rw[hk];decide),if_neg (by rw[hk];decide),if_pos (by rw[hk];rfl)]
   obtain⟨a1,a2⟩:=rest R (aN R t.x n).2 (by omega)
   rw[e]
   refine⟨by omega,λhr q hq=>?_⟩
   have hb:=sv.k3 hk
   have hu:=hq.pu
   have hp1:=hu.pl
   have hp2:=hu.ll
   refine one _ q q _ (by omega) hq λrs hrs=>?_
   refine⟨{ q with stack:=[],regs:=rs,pushed:=q.pushed.set t.index.toNat true,last:=q.last.set t.index.toNat (ji p A (gB p A i) t) },?_,?_⟩
   ·rw[xJ (st:=[]) (args:=[bC p (lfM (A.at (gB p A i))) t.x]) (v:=ji p A (gB p A i) t) (w:=ji p A (gB p A i) t) (q':={ q with stack:=[],regs:=rs,pushed:=q.pushed.set t.index.toNat true,last:=q.last.set t.index.toNat (ji p A (gB p A i) t) }) rfl rfl (by simp) rfl (by
     show(if decide (0<=t.index)&&(decide (t.index<q.pushed.length)&&decide (t.index<q.last.length))then _ else none)=_
     simp_all)]
    rfl
   ·have ev:(gB p A (i+1)).vals=q.values:=by rw[<-hm,Jp (by omega),hu.val]
    refine a2 hr _ ⟨rfl,?_,?_⟩
    ·have:=G6 (m':=gB p A (i+1)) (n':=(aN R t.x n).2) (v:=ji p A (gB p A i) t) hq.lt hrs (by simp_all) (by rw[<-hm];rfl) hli x1
     simp_all
    ·rw[<-hm,z7s hk]
     refine⟨hu.val,hu.out,by simp_all,by simp_all,λj hj=>?_,λx hx=>?_⟩
     ·by_cases q1:t.index.toNat=j
      ·subst q1
       simp_all
      ·rw[Mn.getD_set_ne q1]at hj
       obtain⟨x,w1,w2,w3⟩:=hu.yes j hj
       grind
     ·by_cases q1:t.index.toNat=x.1.index.toNat
      ·grind
      ·rw[Mn.getD_set_ne q1]
       rcases List.mem_append.1 hx with hx |hx
       ·exact hu.no x hx
       simp_all
  ·have e:cmpL (t::r) i R n=((aN R t.x n).1++[(22,0)]++(cmpL r (i+1) R (aN R t.x n).2).1,(cmpL r (i+1) R (aN R t.x n).2).2):=by
    rw[cmpL,if_neg (by rw[hk];decide),if_neg (by rw[hk];decide),if_neg (by rw[hk];decide)]
   obtain⟨a1,a2⟩:=rest R (aN R t.x n).2 (by omega)
   rw[e]
   refine⟨by omega,λhr q hq=>?_⟩
   have hr:(cmpL r (i+1) R (aN R t.x n).2).2<=c.regs:=hr
   have hu:=hq.pu
   refine one _ q q _ (by omega) hq λrs hrs=>?_
   refine⟨{ q with stack:=[],regs:=rs,out:=ji p A (gB p A i) t },?_,?_⟩
   ·rfl
   ·have ev:(gB p A (i+1)).vals=q.values:=by rw[<-hm,Jp (by omega),hu.val]
    refine a2 hr _ ⟨rfl,?_,?_⟩
    ·have:=G6 (m':=gB p A (i+1)) (n':=(aN R t.x n).2) (v:=ji p A (gB p A i) t) hq.lt hrs (by simp_all) (by rw[<-hm];rfl) hli x1
     simp_all
    ·rw[<-hm,z7t hk]
     exact⟨hu.val,rfl,hu.pl,hu.ll,hu.yes,hu.no⟩
theorem Qe{q:PQ}{M:List (List Int)}:∀(r:List Ln) (i:Nat),i+r.length=M.length->(∀j,i<=j->j<M.length->∃l,s.lines[j]? = some l/\CG q j l=some (M.getD j []))->o9 s q r i=some (M.drop i)
 | [],i,h,_=>by grind[o9,List.drop_eq_nil_of_le]
 |y::r,i,h,hm=>by
  simp at h
  obtain⟨l,h1,h2⟩:=hm i (Nat.le_refl _) (by omega)
  have e:M.drop i=M.getD i []::M.drop (i+1):=by
   rw[List.drop_eq_getElem_cons (by omega),List.getD_eq_getElem?_getD,List.getElem?_eq_getElem (by omega)];rfl
  rw[o9,h1]
  show(match CG q i l with |none=>none |some m=>_)=_
  rw[h2]
  rw[Qe r (i+1) (by omega) λj q1 q2=>hm j (by omega) q2,e]
theorem SS(hP:Res p)(ha:Bz p A)(hS:nU p A)(hr:0<=(eF p).regs)(hlim:p.lines.length<=16/\p.tables.length<=16) :
  vP (eF p) A.params A.inp A.side ⟨A.vals,A.lines⟩=some ((stepM p A).1,⟨(stepM p A).2.vals,(stepM p A).2.lines⟩):=by
 have hE:CE p (eF p) A ⟨A.vals,A.lines⟩:=⟨rfl,rfl,rfl,hr,rfl,ha.inp,ha.sid,ha.linN,hlim⟩
 obtain⟨_,h2⟩:=Qd hP hS hE ha.val ha.lin p.stmts 0 [] 0 rfl (Int.le_refl _)
 obtain⟨q,e1,e2⟩:=h2 (Int.le_refl _) (Ew (eF p) ⟨A.vals,A.lines⟩) ⟨rfl,⟨rfl,by show((List.replicate (eF p).regs.toNat (0:Int)).length:Int)=_;grind,λj h0 h1 _=>absurd h1 (by omega)⟩,⟨rfl,rfl,by show(List.replicate p.lines.length false).length=_;simp,by show(List.replicate p.lines.length (0:Int)).length=_;simp,λj hj=>by
  have hj:(List.replicate p.lines.length false).getD j false=true:=hj
  grind,λx hx=>by cases hx⟩⟩
 have hln:o9 ⟨A.vals,A.lines⟩ q p.lines 0=some ((MP p A).pu.foldl Mn.pushL A.lines):=by
  have hlen:((MP p A).pu.foldl Mn.pushL A.lines).length=p.lines.length:=by rw[GU];exact ha.lin
  have:=Qe (s:=⟨A.vals,A.lines⟩) (q:=q) (M:=(MP p A).pu.foldl Mn.pushL A.lines) p.lines 0 (by omega) λj _ hj=>?_
  ·simp_all
  have hjl:j<A.lines.length:=by have:=ha.lin;omega
  have h1:=e2.pl
  have h2:=e2.ll
  refine⟨A.lines.getD j [],by simp_all,?_⟩
  have hp:q.pushed[j]? = some (q.pushed.getD j false):=by simp_all
  rw[CG,hp]
  cases hb:q.pushed.getD j false with
  |false=>
   rw[zk _ _ _ λx hx e=>by rw[<-e]at hb;rw[e2.no x hx]at hb;cases hb]
  |true=>
   obtain⟨x,w1,w2,w3⟩:=e2.yes j hb
   have hp:q.last[j]? = some (q.last.getD j 0):=by simp_all
   have hne:=hS.lne (A.lines.getD j []) (by simp_all)
   rw[hp]
   rw[<-List.dropLast_eq_take]
   grind[push_in,zee]
 rw[vP,show(eF p).instrs=(cmpL p.stmts 0 [] 0).1 from rfl,e1]
 show(match o9 ⟨A.vals,A.lines⟩ q p.lines 0 with |none=>none |some l=>some (q.out,(⟨q.values,l⟩:Mac.Sta)))=_
 rw[hln,e2.val,e2.out];rfl
theorem zgc(o:Int):(bif o==o then true else false)=true:=by simp
theorem zaa{p:Pr}{A:Fr}(ha:Bz p A)(hS:nU p A)(h:(⟨A.vals,A.lines⟩:Mac.Sta).Sm)(hP:Res p):(⟨(stepM p A).2.vals,(stepM p A).2.lines⟩:Mac.Sta).Sm:=by
 have hK:=z94 hP ha hS
 refine⟨by rw[hK.v1];exact h.values,by rw[hK.l1];exact h.lines,λt ht=>?_⟩
 obtain⟨i,hi⟩:=List.mem_iff_getElem?.1 ht
 have hl:i<(stepM p A).2.lines.length:=(List.getElem?_eq_some_iff.1 hi).1
 have hl':i<A.lines.length:=by rw[<-hK.l1];exact hl
 have e:t=(stepM p A).2.lines.getD i []:=by simp_all
 have hb:(A.lines.getD i []).length<=268435456:=by
  refine h.line _ ?_
  simp_all
 rw[e]
 cases hs:setB p 3 i with
 |false=>rw[hK.lk i hl' hs];exact hb
 |true=>
  obtain⟨v,hv⟩:=hK.lp i hl' hs
  simp_all
section
variable {p : Pr} {A : Fr} (ha : Bz p A) (hp : 0 ≤ p.latency ∧ p.latency ≤ 4096)
include ha
theorem zgd(hp:0<=p.latency/\p.latency<=4096)(h:(bif (bif (bif (bif (bif (bif (0:Int) != 0 then true else !true)then true else(((A.params.map aC).length:Nat):Int) != (((eF p).params.map Bd.cs).length:Nat))then true else(((A.inp.map aC).length:Nat):Int) != IntKind.i64.wrap ((eF p).latency+1))then true else(((A.side.map aC).length:Nat):Int) != IntKind.i64.wrap ((eF p).latency+1))then true else((((⟨A.vals,A.lines⟩:Mn.St).vals.map aC).length:Nat):Int) != (((eF p).states.map Bd.cs).length:Nat))then true else((((⟨A.vals,A.lines⟩:Mn.St).lines.map lC).length:Nat):Int) != (((eF p).lines.map Ln.cs).length:Nat))=true):False:=by
 have w:IntKind.i64.wrap (p.latency+1)=p.latency+1:=aO (by omega) (by omega)
 simp[eF,w,ha.par,ha.inp,ha.sid,ha.val,ha.lin]at h
variable {i : Nat} {l : List Int} {r : List (List Int)} (hd : A.lines.drop i = l :: r)
include hd
theorem zge:0<=(i:Int)/\((eF p).lines.map Ln.cs)[((i:Nat):Int).toNat]? = some (Ln.cs (p.lines.getD i Ln.none)):=by
 have hi:i<A.lines.length:=by
  have:=congrArg List.length hd
  grind
 have hl:=ha.lin
 refine⟨Int.natCast_nonneg _,?_⟩
 rw[Int.toNat_natCast,List.getElem?_map,show(eF p).lines=p.lines from rfl,List.getD_eq_getElem?_getD,List.getElem?_eq_getElem (by omega)];rfl
theorem zgf(h:((((l.map aC).length:Nat):Int) != (p.lines.getD i Ln.none).size)=true):False:=by
 have hi:i<A.lines.length:=by
  have:=congrArg List.length hd
  grind
 have e:A.lines.getD i []=l:=by
  have:=congrArg (λl=>l[0]?) hd
  grind
 have:=ha.linN i hi
 simp_all
end
end Go.Fw.Lw
