/- A part of the proof. -/
import Derived.Test.YtgehpmgkaeohaaaGreatDoorZTD1
set_option linter.all false
namespace Go.Fw.Tl
open Go.Fw Go.Fw.Ref15 Go.Fw.Rg
variable [ae]
abbrev Graph:=Nat->List (Nat×Int)
def JE(val:Nat->Int):List (Nat×Int)->Int->Int
 | [],m=>m
 |q::r,m=>JE val r (mm2 true m (val q.1+q.2))
theorem ut(a b:Int):a<=mm2 true a b/\b<=mm2 true a b/\(mm2 true a b=a\/mm2 true a b=b):=by
 grind[mm2]
theorem WX(val:Nat->Int):∀(l:List (Nat×Int)) (m:Int),m<=JE val l m
 | [],m=>Int.le_refl _
 |q::r,m=>Int.le_trans (ut m _).1 (WX val r _)
theorem WY(val:Nat->Int):∀(l:List (Nat×Int)) (m:Int),JE val l m=m\/∃q∈l,JE val l m=val q.1+q.2
 | [],m=>.inl rfl
 |q::r,m=>by
  rcases WY val r (mm2 true m (val q.1+q.2))with h |⟨t,ht,h⟩
  ·rcases(ut m (val q.1+q.2)).2.2 with e |e<;>grind[JE]
  grind[JE]
theorem EO{val val':Nat->Int}:∀{l:List (Nat×Int)} {m:Int},(∀q∈l,val q.1=val' q.1)->JE val l m=JE val' l m
 | [],_,_=>rfl
 |q::r,m,h=>by
  rw[JE,h q List.mem_cons_self]
  exact EO (l:=r) λt ht=>h t (List.mem_cons_of_mem _ ht)
inductive Age(dep:Graph):Nat->Int->Prop
 |mk (i:Nat) (val:Nat->Int) (h:∀q∈dep i,Age dep q.1 (val q.1)):Age dep i (JE val (dep i) 0)
theorem Age.inv{dep:Graph}{i:Nat}{v:Int}(h:Age dep i v):∃val:Nat->Int,(∀q∈dep i,Age dep q.1 (val q.1))/\v=JE val (dep i) 0:=by
 cases h with |mk _ val h=>grind
theorem Age.unique{dep:Graph}{i:Nat}{v:Int}(h:Age dep i v):∀{w:Int},Age dep i w->v=w:=by
 induction h with
 |mk i val h ih=>
  intro w h2
  obtain⟨val',h3,rfl⟩:=h2.inv
  exact EO λq hq=>ih q hq (h3 q hq)
theorem Age.nonneg{dep:Graph}{i:Nat}{v:Int}(h:Age dep i v):0<=v:=by
 obtain⟨val,_,rfl⟩:=h.inv;exact WX val _ 0
inductive Rc(dep:Graph):Nat->Nat->Prop
 |one {i:Nat} {q:Nat×Int} (h:q∈dep i):Rc dep i q.1
 |step {i k:Nat} {q:Nat×Int} (h:q∈dep i) (h2:Rc dep q.1 k):Rc dep i k
variable {dep : Graph} {wt : Nat → Int}
theorem Rc.trans{i k m:Nat}(h:Rc dep i k)(h2:Rc dep k m):Rc dep i m:=by
 induction h with
 |one h=>exact .step h h2
 |step h _ ih=>grind[step]
theorem Rc.snoc{i k:Nat}(h:Rc dep i k){q:Nat×Int}(hq:q∈dep k):Rc dep i q.1:=h.trans (.one hq)
theorem Age.irr{i:Nat}{v:Int}(h:Age dep i v):¬Rc dep i i:=by
 induction h with
 |mk i val h ih=>
  intro hr
  cases hr with
  |one hq=>exact ih _ hq (.one hq)
  |step hq h2=>exact ih _ hq (h2.trans (.one hq))
def sumW(wt:Nat->Int)(l:List Nat):Int:=(l.map wt).foldr (· + ·) 0
theorem fO(wt:Nat->Int)(k:Nat)(l:List Nat):sumW wt (k::l)=wt k+sumW wt l:=rfl
theorem Age.path(hw:∀i,∀q∈dep i,q.2<=wt q.1){i:Nat}{v:Int}(h:Age dep i v):∃l:List Nat,l.Nodup/\(∀k∈l,Rc dep i k)/\v<=sumW wt l:=by
 induction h with
 |mk i val h ih=>
  rcases WY val (dep i) 0 with e |⟨q,hq,e⟩
  ·exact⟨[],List.nodup_nil,λk hk=>by simp at hk,by rw[e];exact Int.le_refl _⟩
  ·obtain⟨l,hn,hr,hv⟩:=ih q hq
   refine⟨q.1::l,List.nodup_cons.2 ⟨λhm=>(h q hq).irr (hr _ hm),hn⟩,λk hk=>?_,?_⟩
   ·rcases List.mem_cons.1 hk with rfl |hk<;>try exact .one hq
    exact .step hq (hr k hk)
   grind[fO]
theorem BO(wt:Nat->Int)(f:Nat->Bool):∀l:List Nat,sumW wt l=sumW wt (l.filter f)+sumW wt (l.filter λk=>!f k)
 | []=>rfl
 |k::r=>by
  rw[fO,BO wt f r]
  cases h:f k<;>simp[h,fO]<;>omega
theorem Nk{wt:Nat->Int}{m:Nat}:∀{l:List Nat},l.Nodup->(∀k∈l,k=m)->l = []\/l = [m]
 | [],_,_=>.inl rfl
 | [k],_,h=>.inr (by simp_all)
 |k::k'::r,hn,h=>by
  simp_all
theorem xP(h0:∀k,0<=wt k):∀(m:Nat) {l:List Nat},l.Nodup->(∀k∈l,k<m)->sumW wt l<=sumW wt (List.range m)
 | 0,l,_,h=>by
  cases l with
  |nil=>simp
  |cons k r=>exact absurd (h k List.mem_cons_self) (Nat.not_lt_zero _)
 |m+1,l,hn,h=>by
  have h1:=xP h0 m (l:=l.filter λk=>decide (k<m)) (hn.filter _) (λk hk=>of_decide_eq_true (List.mem_filter.1 hk).2)
  have h2:sumW wt (l.filter λk=>!decide (k<m))<=wt m:=by
   rcases Nk (wt:=wt) (m:=m) (hn.filter _) (l:=l.filter λk=>!decide (k<m)) (λk hk=>by
    grind)with e |e
   ·rw[e];exact h0 m
   ·rw[e];show wt m+0<=wt m;omega
  have h3:sumW wt (List.range (m+1))=sumW wt (List.range m)+wt m:=by
   rw[List.range_succ]
   generalize List.range m=q
   induction q with
   |nil=>simp[sumW]
   |cons a r ih=>rw[List.cons_append,fO,fO];omega
  grind[BO]
def z4e(n:Nat)(s:AS):Nat:=(List.range n).countP λk:Nat=>!jm s (k:Int)
theorem Nl{α:Type}{k j:Int}{v:α}:∀{l:List (Int×α)},lkA j (uH k v l)=if j==k then some v else lkA j l
 | []=>by rfl
 |(a,w)::r=>by
  simp only[uH]
  by_cases h:(k==a)=true
  ·have h:=eq_of_beq h
   subst h
   simp[lkA]
   split<;>rfl
  ·simp[h,lkA,Nl (l:=r)]
   grind
theorem qF(a:List (Int×Int))(o:List (Int×Bool))(k j:Int)(b:Bool):jm ⟨a,uH k b o⟩ j=if j==k then b else jm ⟨a,o⟩ j:=by
 simp[jm,Nl]
 grind
def Np(p:Pr)(S:List (Key×Int))(i:Nat)(x:Ex):Option (Nat×Int):=
 if x.kind==5 then some (x.index.toNat,0)
 else if x.kind==4 then match lkK (2,x.index) S with
  |some b=>some (b.toNat,if b<(i:Int)then 0 else 1)
  |none=>none
 else if x.kind==8 then match lkK (3,x.index) S with
  |some b=>some (b.toNat,(bW p x.index).size)
  |none=>none
 else none
def rP(p:Pr):Graph:=λi=>(ax (bF p i)).filterMap (Np p (aW p) i)
structure GOk(p:Pr):Prop where
 len:p.stmts.length<=1048576
 idx:∀i,i<p.stmts.length->∀x∈ax (bF p i),(x.kind==5)=true->0<=x.index/\x.index<p.stmts.length
 set:∀k b,lkK k (aW p)=some b->0<=b/\b<p.stmts.length
 siz:∀i,i<p.stmts.length->∀x∈ax (bF p i),(x.kind==8)=true->(0<=(bW p x.index).size/\(bW p x.index).size<=65536)/\(decide (0<=x.index)&&decide (x.index<p.lines.length))=true
 bnd:∀i v,Age (rP p) i v->v<=4611686018427387904
theorem zeh{p:Pr}(g:GOk p){i:Nat}(hi:i<p.stmts.length){x:Ex}(hx:x∈ax (bF p i)){q:Nat×Int}(h:Np p (aW p) i x=some q):q.1<p.stmts.length:=by
 unfold Np at h
 split at h<;>try(rename_i h5;cases h;have:=g.idx i hi x hx h5;omega)
 split at h
 ·split at h
  ·rename_i b hb;cases h;have:=g.set _ _ hb;omega
  ·cases h
 ·split at h
  ·split at h
   ·rename_i b hb;cases h;have:=g.set _ _ hb;omega
   ·cases h
  ·cases h
theorem Z8{p:Pr}{i:Nat}{x:Ex}{s:AS}{age:AS->Int->AR}(h:Np p (aW p) i x=none):um p (aW p) age i x s = .ok 0 s:=by
 unfold Np at h;unfold um
 grind
theorem P6{p:Pr}(g:GOk p){i:Nat}(hi:i<p.stmts.length){x:Ex}(hx:x∈ax (bF p i)){q:Nat×Int}{s s':AS}{age:AS->Int->AR}{v:Int}(h:Np p (aW p) i x=some q)(ha:age s q.1 = .ok v s')(hv:Age (rP p) q.1 v):um p (aW p) age i x s = .ok (v+q.2) s':=by
 have h0:=hv.nonneg
 have h1:=g.bnd _ _ hv
 have hw:∀w:Int,0<=w->w<=65536->IntKind.i64.wrap (v+w)=v+w:=λw h2 h3=>bM (by omega) (by omega)
 unfold Np at h;unfold um
 split at h
 ·rename_i h5
  cases h
  have:=g.idx i hi x hx h5
  grind
 ·rename_i h5
  rw[if_neg h5]
  split at h
  ·rename_i h4
   split at h
   ·rename_i b e
    cases h
    have:=g.set _ _ e
    rw[Int.toNat_of_nonneg this.1]at ha
    by_cases hb:b<(i:Int)
    ·simp_all
    ·grind[AR.add]
   ·cases h
  ·rename_i h4
   rw[if_neg h4]
   split at h
   ·rename_i h8
    split at h
    ·rename_i b e
     cases h
     have:=g.set _ _ e
     have hs:=g.siz i hi x hx h8
     grind[AR.add]
    ·cases h
   ·cases h
theorem Nq{p:Pr}(g:GOk p){i:Nat}(hi:i<p.stmts.length){x:Ex}(hx:x∈ax (bF p i)){q:Nat×Int}{s:AS}{age:AS->Int->AR}{t:AS}(h:Np p (aW p) i x=some q)(ha:age s q.1 = .pan t):um p (aW p) age i x s = .pan t:=by
 unfold Np at h;unfold um
 split at h
 ·rename_i h5
  have:=g.idx i hi x hx h5
  grind
 ·rename_i h5
  rw[if_neg h5]
  split at h
  ·rename_i h4
   rw[if_pos h4]
   split at h<;>try(cases h;done)
   rename_i b e
   cases h
   have:=g.set _ _ e
   rw[Int.toNat_of_nonneg this.1]at ha
   simp only[e]
   split<;>rw[ha]<;>rfl
  ·rename_i h4
   rw[if_neg h4]
   split at h<;>try(cases h;done)
   rename_i h8
   rw[if_pos h8]
   split at h<;>try(cases h;done)
   rename_i b e
   cases h
   have:=g.set _ _ e
   rw[Int.toNat_of_nonneg this.1]at ha
   simp[e,(g.siz i hi x hx h8).2]
   rw[ha];rfl
open Classical in
noncomputable def vOf(dep:Graph)(k:Nat):Int:=if h:∃v,Age dep k v then h.choose else 0
theorem zei{dep:Graph}{k:Nat}{v:Int}(h:Age dep k v):vOf dep k=v:=by
 have he:∃v,Age dep k v:=⟨v,h⟩
 rw[vOf,dif_pos he]
 exact he.choose_spec.unique h
structure zej(dep:Graph)(s:AS):Prop where
 ages:∀(k:Nat) (v:Int),lkA (k:Int) s.ages=some v->Age dep k v
def z9c(s s':AS):Prop:=∀k:Int,jm s' k=jm s k
def DOk(p:Pr)(f:Nat):Prop:=∀(s:AS) (i:Nat),i<p.stmts.length->zej (rP p) s->(∀o:Nat,jm s (o:Int)=true->Rc (rP p) o i)->z4e p.stmts.length s<f ->
 (∃v s',rf p (aW p) f s i = .ok v s'/\Age (rP p) i v/\zej (rP p) s'/\z9c s s')\/((∃t,rf p (aW p) f s i = .pan t)/\¬∃v,Age (rP p) i v)
theorem WZ{n:Nat}{s s':AS}(h:z9c s s'):z4e n s'=z4e n s:=by
 unfold z4e;congr 1;funext k;rw[h]
theorem Nr{p:Pr}(g:GOk p){f:Nat}(ih:DOk p f){i:Nat}(hi:i<p.stmts.length):∀(l:List Ex) (s:AS) (m:Int),(∀x∈l,x∈ax (bF p i))->zej (rP p) s->(∀o:Nat,jm s (o:Int)=true->o=i\/Rc (rP p) o i)->z4e p.stmts.length s<f->0<=m ->
  (∃s',uq (um p (aW p) (rf p (aW p) f) i) l s m = .ok (JE (vOf (rP p)) (l.filterMap (Np p (aW p) i)) m) s'/\(∀q∈l.filterMap (Np p (aW p) i),Age (rP p) q.1 (vOf (rP p) q.1))/\zej (rP p) s'/\z9c s s') \/
  ((∃t,uq (um p (aW p) (rf p (aW p) f) i) l s m = .pan t)/\∃q∈l.filterMap (Np p (aW p) i),¬∃v,Age (rP p) q.1 v)
 | [],s,m,_,hs,_,_,_=>.inl ⟨s,rfl,λq hq=>by simp at hq,hs,λ_=>rfl⟩
 |x::r,s,m,hl,hs,ho,hf,hm=>by
  have hx:=hl x List.mem_cons_self
  have hr:∀y∈r,y∈ax (bF p i):=λy hy=>hl y (List.mem_cons_of_mem _ hy)
  cases hd:Np p (aW p) i x with
  |none=>
   have hm0:mm2 true m 0=m:=by unfold mm2;grind
   simp only[uq,Z8 hd,hm0,List.filterMap_cons,hd]
   exact Nr g ih hi r s m hr hs ho hf hm
  |some q=>
   have hq:q∈rP p i:=List.mem_filterMap.2 ⟨x,hx,hd⟩
   have hqn:=zeh g hi hx hd
   rcases ih s q.1 hqn hs (λo h=>by
    rcases ho o h with e |e<;>try exact e ▸ .one hq
    exact e.snoc hq) hf with⟨v,s',e1,e2,e3,e4⟩ |⟨⟨t,e1⟩,e2⟩
   ·have hv:=zei e2
    have hmx:=(ut m (v+q.2)).1
    simp only[uq,P6 g hi hx hd e1 e2,List.filterMap_cons,hd,JE,hv]
    rcases Nr g ih hi r s' (mm2 true m (v+q.2)) hr e3 (λo h=>ho o (by rw[<-e4];exact h)) (by grind[WZ]) (by omega)with⟨s2,a1,a2,a3,a4⟩ |⟨a1,t,a2,a3⟩
    ·refine .inl ⟨s2,a1,λt ht=>?_,a3,λk=>(a4 k).trans (e4 k)⟩
     grind
    grind
   ·refine .inr ⟨⟨t,?_⟩,q,?_,e2⟩
    ·simp[uq,Nq g hi hx hd e1]
    ·simp only[List.filterMap_cons,hd];exact List.mem_cons_self
theorem Z9{n:Nat}{s:AS}{i:Nat}(hi:i<n)(h:jm s i=false):z4e n ⟨s.ages,uH (i:Int) true s.opn⟩+1=z4e n s:=by
 unfold z4e
 have key:∀m,m<=n->((List.range m).countP λk:Nat=>!jm ⟨s.ages,uH (i:Int) true s.opn⟩ (k:Int))+(if i<m then 1 else 0)=(List.range m).countP λk:Nat=>!jm s (k:Int):=by
  intro m
  induction m with
  |zero=>simp
  |succ m ih=>
   simp only[List.range_succ,List.countP_append,List.countP_singleton,qF]
   have hs:jm (⟨s.ages,s.opn⟩:AS) (m:Int)=jm s m:=rfl
   rw[hs]
   by_cases e:m=i
   ·grind[qF]
   ·simp only[qF]at ih
    grind
 grind
theorem z4f{p:Pr}(g:GOk p):∀f,DOk p f
 | 0=>λ_ _ _ _ _ h=>absurd h (Nat.not_lt_zero _)
 |f+1=>λs i hi hs ho hf=>by
  rw[rf]
  by_cases hop:jm s (i:Int)=true
  ·rw[if_pos hop]
   exact .inr ⟨⟨_,rfl⟩,λ⟨v,hv⟩=>hv.irr (ho i hop)⟩
  ·rw[if_neg hop]
   have hop:jm s (i:Int)=false:=by simpa using hop
   cases ha:lkA (i:Int) s.ages with
   |some v=>exact .inl ⟨v,s,rfl,hs.ages i v ha,hs,λ_=>rfl⟩
   |none=>
    have hii:(decide (0<=(i:Int))&&decide ((i:Int)<p.stmts.length))=true:=by simp_all
    simp only[hii,if_true]
    have hc:=Z9 hi hop
    have hs1:zej (rP p) ⟨s.ages,uH (i:Int) true s.opn⟩:=⟨hs.ages⟩
    rcases Nr g (z4f g f) hi (ax (bF p i)) ⟨s.ages,uH (i:Int) true s.opn⟩ 0 (λ_ h=>h) hs1 (λo h=>by
     rw[qF]at h
     by_cases e:((o:Int)==(i:Int))=true
     ·grind
     simp_all) (by omega) (Int.le_refl _)with⟨s',a1,a2,a3,a4⟩ |⟨⟨t,a1⟩,q,a2,a3⟩
    ·have hAge:Age (rP p) i (JE (vOf (rP p)) (rP p i) 0):=.mk i _ a2
     refine .inl ⟨JE (vOf (rP p)) (rP p i) 0,⟨uH (i:Int) (JE (vOf (rP p)) (rP p i) 0) s'.ages,uH (i:Int) false s'.opn⟩,by rw[a1]<;>rfl,hAge,⟨λk v h=>?_⟩,λk=>?_⟩
     ·simp only[Nl]at h
      by_cases e:((k:Int)==(i:Int))=true<;>try grind
      rw[if_neg e]at h;exact a3.ages k v h
     ·have h1:=a4 k
      rw[qF]at h1 ⊢
      have h2:jm (⟨uH (i:Int) (JE (vOf (rP p)) (rP p i) 0) s'.ages,s'.opn⟩:AS) k=jm s' k:=rfl
      by_cases e:(k==(i:Int))=true<;>simp_all
    ·refine .inr ⟨⟨t,by rw[a1]⟩,λ⟨v,hv⟩=>?_⟩
     obtain⟨val,h,_⟩:=hv.inv
     exact a3 ⟨_,h q a2⟩
end Go.Fw.Tl
namespace Go.Fw.Tl
open Go.Fw Go.Fw.Ref15 Go.Fw.Rg
variable [ae] {p : Pr} {i : Nat}
theorem uu:∀(r:List Sm) (i:Nat) (out:Bool),dN p r i out = .ok r->∀(j:Nat) (s:Sm),r[j]? = some s->cu p s=s.index/\0<=s.index/\again p (i+j) s=false
 | [],_,_,_,j,s,h=>by simp at h
 |t::r,i,out,h,j,s,hj=>by
  rw[dN]at h
  split at h<;>try(cases h)
  split at h<;>try(cases h)
  split at h<;>try(cases h)
  cases hr:dN p r (i+1) (t.kind==4)with
  |error e=>simp_all
  |ok l=>
   rw[hr]at h
   simp at h
   have h1:cu p t=t.index:=congrArg Sm.index h.1
   cases j with
   |zero=>
    simp_all
   |succ j=>
    have:=uu r (i+1) _ (by rw[hr,h.2]) j s hj
    grind
theorem Ns:∀(r:List Sm) (i:Nat),vT p i r=true->∀(j:Nat) (s:Sm),r[j]? = some s->wfS p (i+j) s=true
 | [],_,_,j,s,h=>by simp at h
 |t::r,i,h,j,s,hj=>by
  cases j with
  |zero=>
   simp at hj
   subst hj
   simp[vT]at h;exact h.1
  |succ j=>
   have:=Ns r (i+1) (qC h) j s hj
   grind
theorem GY{n:Nat}:∀x:Ex,wfX p n x=true->∀y∈ax x,wfX p n y=true:=by
 refine Ex.ind λx ih=>?_
 intro h y hy
 rw[jl]at hy
 rcases List.mem_cons.1 hy with rfl |hy
 ·exact h
 ·obtain⟨z,hz,hy⟩:=kP.1 hy
  exact ih z hz (ng (bZ h).2.2 z hz) y hy
theorem zF{a b:Key}:P5 a b=true↔a=b:=by
 unfold P5
 grind
theorem W9{α:Type}{k j:Key}{v:α}:∀{l:List (Key×α)},lkK j (YI k v l)=if P5 j k then some v else lkK j l
 | []=>by rfl
 |(a,w)::r=>by
  simp[YI]
  by_cases h:P5 k a=true
  ·have h:=zF.1 h
   subst h
   simp[zF.2 rfl,lkK]
   split<;>rfl
  ·simp[h,lkK,W9 (l:=r)]
   by_cases hj:P5 j a=true
   ·have:P5 j k=false:=by
     grind[zF]
    simp_all
   simp_all
theorem P7{k:Key}{b:Int}:∀(r:List Sm) (i:Nat) (S:List (Key×Int)),lkK k (z4d r i S)=some b->lkK k S=some b\/∃(j:Nat) (s:Sm),r[j]? = some s/\b=((i+j:Nat):Int)/\sets s.kind=true/\k=(s.kind,s.index)
 | [],_,_,h=>.inl h
 |t::r,i,S,h=>by
  rcases P7 r (i+1) _ h with q |⟨j,s,h1,h2,h3,h4⟩<;>try exact .inr ⟨j+1,s,h1,by omega,h3,h4⟩
  split at q<;>try exact .inl q
  rename_i hs
  rw[W9]at q
  split at q<;>try exact .inl q
  rename_i e
  cases q
  exact .inr ⟨0,t,rfl,rfl,hs,zF.1 e⟩
theorem P8{k:Key}{b:Int}(h:lkK k (aW p)=some b):∃(j:Nat) (s:Sm),p.stmts[j]? = some s/\b=(j:Int)/\sets s.kind=true/\k=(s.kind,s.index):=by
 rcases P7 p.stmts 0 [] h with q |⟨j,s,h1,h2,h3,h4⟩<;>grind[lkK]
def wt2(p:Pr)(k:Nat):Int:=if(p.stmts.getD k Sm.none).kind==2 then 1 else 0
def lsz(p:Pr)(k:Nat):Int:=mm2 true 0 (p.lines.getD k Ln.none).size
def wt3(p:Pr)(k:Nat):Int:=if(p.stmts.getD k Sm.none).kind==3 then lsz p (p.stmts.getD k Sm.none).index.toNat else 0
def wtP(p:Pr)(k:Nat):Int:=wt2 p k+wt3 p k
theorem EP(p:Pr)(k:Nat):0<=lsz p k:=(ut _ _).1
theorem EQ(p:Pr)(k:Nat):0<=wt2 p k:=by grind[wt2]
theorem ER(p:Pr)(k:Nat):0<=wt3 p k:=by
 unfold wt3;split
 ·exact EP _ _
 ·omega
theorem bi{α:Type}{l:List α}{a d:α}(h:l[i]? = some a):l.getD i d=a:=by simp_all
theorem zek{q:Nat×Int}(h:q∈rP p i):q.2<=wtP p q.1:=by
 obtain⟨x,_,h⟩:=List.mem_filterMap.1 h
 have h2:=EQ p q.1
 have h3:=ER p q.1
 unfold Np at h
 split at h<;>try grind[wtP]
 split at h
 ·split at h
  ·rename_i b hb
   obtain⟨j,s,e1,e2,_,e4⟩:=P8 hb
   grind[wt2,bi,wtP]
  ·cases h
 ·split at h<;>try(cases h)
  split at h
  ·rename_i b hb
   obtain⟨j,s,e1,e2,_,e4⟩:=P8 hb
   have:wt3 p b.toNat=lsz p x.index.toNat:=by
    grind[wt3,bi]
   have h4:(bW p x.index).size<=lsz p x.index.toNat:=(ut _ _).2.1
   grind[wtP]
  ·cases h
theorem P9(g:Nat->Int)(f:Nat->Nat)(c:Nat->Bool):∀l:List Nat,sumW (λk=>if c k then g (f k)else 0) l=sumW g ((l.filter c).map f)
 | []=>rfl
 |k::r=>by
  rw[fO,P9 g f c r]
  cases h:c k
  ·rw[List.filter_cons_of_neg (by simp[h])];simp
  ·rw[List.filter_cons_of_pos h,List.map_cons,fO];simp
theorem JF{f:Nat->Nat}:∀{l:List Nat},l.Nodup->(∀a∈l,∀b∈l,f a=f b->a=b)->(l.map f).Nodup
 | [],_,_=>List.nodup_nil
 |k::r,h,hf=>by
  rw[List.map_cons,List.nodup_cons]
  refine⟨λhm=>?_,JF (List.nodup_cons.1 h).2 λa ha b hb=>hf a (List.mem_cons_of_mem _ ha) b (List.mem_cons_of_mem _ hb)⟩
  grind
theorem Qa{g:Nat->Int}{f:Nat->Nat}{c:Nat->Bool}{n m:Nat}(h0:∀k,0<=g k)(hi:∀a,a<n->∀b,b<n->c a=true->c b=true->f a=f b->a=b)(hm:∀a,a<n->c a=true->f a<m):sumW (λk=>if c k then g (f k)else 0) (List.range n)<=sumW g (List.range m):=by
 rw[P9]
 refine xP h0 m (JF (List.nodup_range.filter _) λa ha b hb=>?_) λk hk=>?_<;>grind
theorem Qb(f g:Nat->Int):∀l:List Nat,sumW (λk=>f k+g k) l=sumW f l+sumW g l
 | []=>rfl
 |k::r=>by rw[fO,fO,fO,Qb f g r];omega
theorem z0a:∀n:Nat,sumW (λ_=>1) (List.range n)=(n:Int):=by
 have:∀l:List Nat,sumW (λ_=>1) l=(l.length:Int):=by
  intro l
  induction l with
  |nil=>rfl
  |cons a r ih=>grind[fO]
 simp_all
theorem Qc(h:Res p){i j:Nat}{s t:Sm}(hi:p.stmts[i]? = some s)(hj:p.stmts[j]? = some t)(hs:sets s.kind=true)(hk:t.kind=s.kind)(hx:t.index=s.index):¬i<j:=by
 intro hl
 have a1:=uu p.stmts 0 false h.ru i s hi
 have a2:=uu p.stmts 0 false h.ru j t hj
 have hn:t.name=s.name:=by
  have h1:=a1.1;have h2:=a2.1
  have key:∀(l:List Str) (a b:Str),find l a=find l b->0<=find l a->a=b:=by
   have hg:∀(l:List Str) (a:Str) (i:Int),0<=i->0<=aX a l i->i<=aX a l i/\l[(aX a l i-i).toNat]? = some a:=by
    intro l a
    induction l with
    |nil=>grind[aX]
    |cons x r ih=>
     intro i hi h
     simp only[aX]at h ⊢
     split at h
     ·simp_all
     ·rename_i e
      rw[if_neg e]
      have:=ih (i+1) (by omega) h
      refine⟨by omega,?_⟩
      rw[show(aX a r (i+1)-i).toNat=(aX a r (i+1)-(i+1)).toNat+1 by omega]
      exact this.2
   grind[find]
  simp only[cu,hk]at h1 h2
  simp only[sets]at hs
  grind
 have ha:=a2.2.2
 rw[Nat.zero_add,again,List.any_eq_false]at ha
 have hm:s∈p.stmts.take j:=List.mem_of_getElem? (by rw[List.getElem?_take_of_lt hl];exact hi)
 have:=ha s hm
 have h1:(s.kind != 1)=true:=by
  cases q:s.kind==1
  ·simp[bne,q]
  ·have q:=eq_of_beq q
   rw[q]at hs;exact absurd hs (by decide)
 simp_all
theorem zjj(h:Res p):(p.params.length<=16/\p.states.length<=16/\p.lines.length<=16/\p.tables.length<=16/\p.stmts.length<=64)/\(∀l∈p.lines,1<=l.size/\l.size<=65536)/\(0<=p.latency/\p.latency<=4096)/\(-1<=p.tail/\p.tail<=1048576):=by
 have:=h.li
 simp[limited,few,memOk,Bi,Bool.and_eq_true,List.all_eq_true]at this
 grind
theorem z9d(h:Res p):0<p.stmts.length:=by
 have:=h.ru
 grind[dN]
theorem zG{s:Sm}(h:p.stmts[i]? = some s):bF p (i:Int)=s.x:=by rw[bF,Int.toNat_natCast,bi h]
theorem qG{α:Type}{l:List α}(h:i<l.length):∃a,l[i]? = some a:=⟨_,List.getElem?_eq_getElem h⟩
theorem Nu(h:Res p)(hi:i<p.stmts.length){x:Ex}(hx:x∈ax (bF p i)):wfX p i x=true:=by
 obtain⟨s,hs⟩:=qG hi
 rw[zG hs]at hx
 have:=Ns p.stmts 0 h.wf i s hs
 rw[wfS]at this
 grind[GY]
theorem z9e(h:Res p):sumW (wtP p) (List.range p.stmts.length)<=(p.states.length:Int)+sumW (lsz p) (List.range p.lines.length):=by
 have e:wtP p=λk=>wt2 p k+wt3 p k:=rfl
 rw[e,Qb]
 have inj:∀c:Int,(c==2 || c==3)=true->∀a,a<p.stmts.length->∀b,b<p.stmts.length->((p.stmts.getD a Sm.none).kind==c)=true->((p.stmts.getD b Sm.none).kind==c)=true->(p.stmts.getD a Sm.none).index.toNat=(p.stmts.getD b Sm.none).index.toNat->a=b:=by
  intro c hc a ha b hb h1 h2 h3
  obtain⟨s,hs⟩:=qG ha
  obtain⟨t,ht⟩:=qG hb
  rw[bi hs]at h1 h3
  rw[bi ht]at h2 h3
  have h1:=eq_of_beq h1
  have h2:=eq_of_beq h2
  have g1:=(uu p.stmts 0 false h.ru a s hs).2.1
  have g2:=(uu p.stmts 0 false h.ru b t ht).2.1
  have hk:∀k:Int,k=c->sets k=true:=by
   intro k e;subst e
   simp at hc
   rcases hc with rfl |rfl<;>rfl
  have q1:=Qc h hs ht (hk _ h1) (h2.trans h1.symm) (by omega)
  have q2:=Qc h ht hs (hk _ h2) (h1.trans h2.symm) (by omega)
  omega
 have wfa:∀a,a<p.stmts.length->∀s,p.stmts[a]? = some s->wfS p a s=true:=λa _ s hs=>by
  have:=Ns p.stmts 0 h.wf a s hs
  grind
 have h2:=Qa (g:=λ_=>1) (f:=λk=>(p.stmts.getD k Sm.none).index.toNat) (c:=λk=>(p.stmts.getD k Sm.none).kind==2) (n:=p.stmts.length) (m:=p.states.length) (λ_=>by decide) (inj 2 rfl) (λa ha hc=>by
  obtain⟨s,hs⟩:=qG ha
  have:=wfa a ha s hs
  rw[bi hs]at hc ⊢
  simp[wfS,hc]at this
  omega)
 have h3:=Qa (g:=lsz p) (f:=λk=>(p.stmts.getD k Sm.none).index.toNat) (c:=λk=>(p.stmts.getD k Sm.none).kind==3) (n:=p.stmts.length) (m:=p.lines.length) (EP p) (inj 3 rfl) (λa ha hc=>by
  obtain⟨s,hs⟩:=qG ha
  have:=wfa a ha s hs
  rw[bi hs]at hc ⊢
  simp[wfS,Bool.and_eq_true,hc,Bool.not_true,Bool.false_or,decide_eq_true_eq]at this
  omega)
 rw[z0a]at h2
 exact Int.add_le_add h2 h3
theorem z0b(h:p.stmts.length<=i):rP p i = []:=by
 have:bF p i=Ex.none:=by rw[bF,Int.toNat_natCast,List.getD_eq_getElem?_getD,List.getElem?_eq_none h];rfl
 rw[rP,this]
 rfl
theorem zh9(h:∀i,i<p.stmts.length->∀q∈rP p i,q.1<p.stmts.length){i k:Nat}(hr:Rc (rP p) i k):k<p.stmts.length:=by
 have one:∀{i:Nat} {q:Nat×Int},q∈rP p i->q.1<p.stmts.length:=by
  grind[z0b]
 induction hr with
 |one hq=>exact one hq
 |step _ _ ih=>exact ih
theorem dep_lt'(h:Res p):∀i,i<p.stmts.length->∀q∈rP p i,q.1<p.stmts.length:=by
 intro i hi q hq
 obtain⟨x,hx,hd⟩:=List.mem_filterMap.1 hq
 have hw:=(bZ (Nu h hi hx)).2.1
 unfold Np at hd
 split at hd
 ·grind[uk]
 grind[P8]
theorem zel(h:Res p){v:Int}(ha:Age (rP p) i v):v<=(p.states.length:Int)+sumW (lsz p) (List.range p.lines.length):=by
 obtain⟨l,h1,h2,h3⟩:=ha.path (wt:=wtP p) (λ_ q hq=>zek hq)
 have h4:=xP (wt:=wtP p) (λk=>Int.add_nonneg (EQ p k) (ER p k)) p.stmts.length h1 (λk hk=>zh9 (dep_lt' h) (h2 k hk))
 have:=z9e h
 omega
theorem Xa{f:Nat->Int}{b:Int}:∀(l:List Nat),(∀k∈l,f k<=b)->sumW f l<=b * l.length
 | [],_=>by simp[sumW]
 |k::r,h=>by
  have:=Xa r λj hj=>h j (List.mem_cons_of_mem _ hj)
  rw[fO,List.length_cons]
  grind
theorem zem(h:Res p){k:Nat}(hk:k<p.lines.length):lsz p k=(p.lines.getD k Ln.none).size/\lsz p k<=65536:=by
 obtain⟨l,hl⟩:=qG hk
 have:=(zjj h).2.1 l (List.mem_of_getElem? hl)
 grind[lsz,mm2]
theorem z9f(h:Res p):GOk p:=by
 have hl:=zjj h
 refine⟨by omega,λi hi x hx h5=>?_,λk b hb=>?_,λi hi x hx h8=>?_,λi v ha=>?_⟩
 ·have hw:=(bZ (Nu h hi hx)).2.1
  grind[uk]
 ·grind[P8,List.getElem?_eq_some_iff]
 ·have hw:=(bZ (Nu h hi hx)).2.1
  rw[eq_of_beq h8]at hw
  simp only[uk]at hw
  grind
 ·have h1:=zel h ha
  have h2:=Xa (f:=lsz p) (b:=65536) (List.range p.lines.length) (λk hk=>(zem h (List.mem_range.1 hk)).2)
  grind
variable [ae] {p : Pr} {x : Ex} {F : List Sp} {n : Nat}
theorem GZ{x y:Ex}(hw:wfX p n x=true)(hx:bJ p n x=(x,true))(hy:y∈x.l):bJ p n y=(y,true):=by
 obtain⟨g1,g2,g3⟩:=bZ hw
 rw[oI]at hx
 by_cases hN:(named x.kind&&x.kind != 8&&x.kind != 9)=true
 ·have:Ref15.parts x.kind=0:=by
   simp[named]at hN
   rcases kinds g2 with h |h |h |h |h |h |h |h |h |h |h |h |h |h |h |h |h |h<;>rw[h]at hN ⊢ <;> first |rfl |(simp at hN)
  simp_all
 ·rw[if_neg hN]at hx
  have e1:(dL p n x.l).1=x.l:=congrArg (λq=>q.1.l) hx
  grind[oO]
theorem z9g(hn:n<=p.stmts.length)(hx:bJ p n x=(x,true))(hw:wfX p n x=true):yX p x=true:=by
 obtain⟨g1,g2,g3⟩:=bZ hw
 by_cases h5:x.kind=5
 ·have h0:=PV g2 (by rw[h5];rfl)
  rw[oI,if_pos (by rw[h5];rfl),value]at hx
  simp only at hx
  have hg:given p x.name n=x.index:=by
   split at hx
   ·split at hx
    ·exact congrArg (λq=>q.1.index) hx
    ·have this:(4:Int)=x.kind:=congrArg (λq=>q.1.kind) hx
     omega
   ·have this:(3:Int)=x.kind:=congrArg (λq=>q.1.kind) hx
    omega
  rw[given]at hg
  have hkk:=(EN (p.stmts.take n) 0 (Int.le_refl _) (by rw[hg];exact h0.1)).2
  rw[hg,Int.sub_zero]at hkk
  have hst:p.stmts.getD x.index.toNat Sm.none=(p.stmts.take n).getD x.index.toNat Sm.none:=by
   grind
  rw[yX,h5,hst,hkk]
  rw[h5]at g1
  rw[g1]
  rw[if_neg (by decide),if_neg (by decide),if_neg (by decide)]
  grind
 ·rcases kinds g2 with r |r |r |r |r |r |r |r |r |r |r |r |r |r |r |r |r |r<;>first
   |exact absurd r h5
   | (rw[r]at g1 g2
      simp[uk]at g2
      simp[yX,r,lI,Ref15.parts,Bool.cond_false_right]at g1 ⊢
      simp_all)
theorem z9h{b:Nat}(hb:b<=p.stmts.length):∀x:Ex,∀most:Int,bJ p b x=(x,true)->wfX p b x=true->(Ref15.nodes x:Int)<=most->sK p x most=Ref15.nodes x:=by
 refine Ex.ind λx ih most hx hw hn=>?_
 have hN:=Ref15.nodes_eq x
 rw[vZ,z9g hb hx hw,decide_eq_false (by omega)]
 have hL:∀(l:List Ex),(∀z∈l,z∈x.l)->∀n:Int,1<=n->n+Ref15.nodesL l<=most->fD p l most n=n+Ref15.nodesL l:=by
  intro l
  induction l with
  |nil=>grind[fD,Ref15.nodesL]
  |cons z r ihr=>
   intro hl n h1 h2
   simp[Ref15.nodesL]at h2 ⊢
   have hz:=ih z (hl z (by simp)) (most-n) (GZ hw hx (hl z (by simp))) (ng (bZ hw).2.2 z (hl z (by simp))) (by omega)
   rw[fD,ihr (λw hw=>hl w (by simp[hw])) _ (by omega) (by omega)]
   omega
 simp_all
theorem z0c{b:Nat}(hb:b<=p.stmts.length)(hx:bJ p b x=(x,true))(hw:wfX p b x=true)(hn:Ref15.nodes x<=512):GX p x=true:=by
 rw[<-Nh,z9h hb x 512 hx hw (by omega)]
 grind[Ref15.nodes_eq]
theorem Qd:∀(r:List Sm) (i:Nat) (out:Bool),dN p r i out = .ok r->∀(j:Nat) (s:Sm),r[j]? = some s->bJ p (i+j) s.x=(s.x,true)
 | [],_,_,_,j,s,h=>by simp at h
 |t::r,i,out,h,j,s,hj=>by
  rw[dN]at h
  split at h<;>try(cases h)
  split at h<;>try(cases h)
  split at h<;>try(cases h)
  cases hr:dN p r (i+1) (t.kind==4)with
  |error e=>simp_all
  |ok l=>
   rw[hr]at h
   simp at h
   cases j with
   |zero=>
    grind
   |succ j=>
    have:=Qd r (i+1) _ (by rw[hr,h.2]) j s hj
    grind
theorem Xb:∀x:Ex,wfX p n x=true->bJ p n x=(x,true)->∀y∈ax x,bJ p n y=(y,true):=by
 refine Ex.ind λx ih=>?_
 intro h hr y hy
 rw[jl]at hy
 rcases List.mem_cons.1 hy with rfl |hy
 ·exact hr
 ·obtain⟨z,hz,hy⟩:=kP.1 hy
  exact ih z hz (ng (bZ h).2.2 z hz) (GZ h hr hz) y hy
theorem BP:∀x:Ex,∀y∈ax x,Ref15.nodes y<=Ref15.nodes x:=by
 refine Ex.ind λx ih=>?_
 intro y hy
 rw[jl]at hy
 rcases List.mem_cons.1 hy with rfl |hy
 ·omega
 ·obtain⟨z,hz,hy⟩:=kP.1 hy
  have:=qB hz
  grind[Ref15.nodes_eq]
theorem JG{F G:List Sp}(hF:∀j,j<n->F.getD j (0,0)=G.getD j (0,0)):∀x:Ex,wfX p n x=true->dF p F x=dF p G x:=by
 refine Ex.ind λx ih=>?_
 intro hw
 obtain⟨g1,g2,g3⟩:=bZ hw
 have hL:∀l:List Ex,(∀z∈l,z∈x.l)->dw p F l=dw p G l:=by
  intro l
  induction l with
  |nil=>intro _;rfl
  |cons z r ihr=>
   grind[dw,ng]
 rw[gV,gV,hL x.l λ_ h=>h]
 cases dw p G x.l with
 |error e=>rfl
 |ok l=>
  by_cases h5:(x.kind==5)=true
  ·have h0:=PV g2 h5
   grind[opM]
  ·simp[opM,h5]
theorem ES:∀(x:Ex) (s:Sp),dF p F x = .ok s->∀y∈ax x,∃t,dF p F y = .ok t:=by
 refine Ex.ind λx ih=>?_
 intro s h y hy
 rw[jl]at hy
 rcases List.mem_cons.1 hy with rfl |hy<;>grind[kP,gV,EM]
theorem drop_at{α:Type}{l:List α}{i:Nat}{a:α}(h:l[i]? = some a):∃r,l.drop i=a::r:=by
 exact⟨l.drop (i+1),by grind[List.drop_eq_getElem_cons]⟩
theorem Nv(h:looks x=true):x.kind=6\/x.kind=7:=by
 unfold looks at h
 simp_all
theorem look_ok(h:BOk p F){i:Nat}(hi:i<p.stmts.length)(hx:x∈ax (bF p i))(hk:looks x=true):x.l.length=1/\∃s,gz p (x.l.getD 0 Ex.none) = .ok s/\GX p (x.l.getD 0 Ex.none)=true/\dF p F (x.l.getD 0 Ex.none) = .ok s/\0<=s.2/\s.2<=4096:=by
 obtain⟨st,hs⟩:=qG hi
 rw[zG hs]at hx
 obtain⟨r,hr⟩:=drop_at hs
 have a:=SS h hr
 have hw:wfX p i st.x=true:=by have:=a.wf;simp only[wfS,Bool.and_eq_true]at this;exact this.1
 have hwx:=GY st.x hw x hx
 obtain⟨g1,g2,g3⟩:=bZ hwx
 obtain⟨t,ht⟩:=ES st.x _ a.run x hx
 have hlen:x.l.length=1:=by
  grind[Nv,Ref15.parts]
 obtain⟨y,hy⟩:∃y,x.l = [y]:=by
  cases hxl:x.l with
  |nil=>simp_all
  |cons y r=>simp_all
 have hwy:wfX p i y=true:=ng g3 y (by simp_all)
 have hry:=GZ hwx (Xb st.x hw (by have:=Qd p.stmts 0 false h.res.ru i st hs;simp_all) x hx) (show y∈x.l by simp_all)
 have hn:Ref15.nodes st.x<=512:=by
  have:=h.res.li
  rw[limited_eq]at this
  simp only[Bool.and_eq_true]at this
  have:=List.all_eq_true.1 this.2.2.2.1 st (List.mem_of_getElem? hs)
  grind[Ey,Bool.not_eq_true',decide_eq_false_iff_not]
 have hny:Ref15.nodes y<=512:=by
  have h1:=BP st.x x hx
  have h2:=qB (l:=x.l) (y:=y) (by simp_all)
  grind[Ref15.nodes_eq]
 have hfit:=z0c (Nat.le_of_lt hi) hry hwy hny
 rw[gV,hy,dw]at ht
 have hgd:x.l.getD 0 Ex.none=y:=by rw[hy];rfl
 rw[hgd]
 cases hfy:dF p (F.take i) y with
 |error e=>simp_all
 |ok s=>
  rw[hfy,dw]at ht
  simp only at ht
  have hFy:dF p F y = .ok s:=by
   rw[<-hfy]
   refine(JG (n:=i) (λj hj=>?_) y hwy).symm
   rw[List.getD_eq_getElem?_getD,List.getD_eq_getElem?_getD,List.getElem?_take_of_lt hj]
  have hord:=JB h.res.rng h.fok.sub (found:=F) (x:=y) (s:=s) (by
   have:∀(m n:Nat),m<=n->∀x:Ex,wfX p m x=true->wfX p n x=true:=by
    intro m n hmn
    refine Ex.ind λx ih=>?_
    intro hw
    rw[PD]at hw ⊢
    simp only[Bool.and_eq_true]at hw ⊢
    refine⟨⟨hw.1.1,?_⟩,Ws λz hz=>ih z hz (ng hw.2 z hz)⟩
    have:=hw.1.2
    unfold uk at this ⊢
    grind
   refine this i F.length ?_ y hwy
   rw[h.len];omega) hFy
  have hah:aheadM s = .ok t:=by
   grind[Nv,opM]
  unfold aheadM at hah
  split at hah
  ·cases hah
  ·rename_i hq
   have hb:=qY (PS h.res) h.run
   grind[WH]
theorem zA6(h:BOk p F){i:Nat}(hi:i<p.stmts.length)(hx:x∈ax (bF p i))(hk:looks x=true):0<=hiM p (x.l.getD 0 Ex.none)/\hiM p (x.l.getD 0 Ex.none)<=4096:=by
 grind[look_ok,hiM]
theorem zA0{n:Int}(h0:0<=n/\n<=4096)(h:looks x=true->0<=hiM p (x.l.getD 0 Ex.none)/\hiM p (x.l.getD 0 Ex.none)<=4096):0<=WQ p n x/\WQ p n x<=4096:=by
 unfold WQ
 split
 ·rename_i q
  have:=h q
  rcases(ut n (hiM p (x.l.getD 0 Ex.none))).2.2 with e |e<;>rw[e]<;>omega
 ·exact h0
theorem zAc{α:Type}{f:Int->α->Int}{P:Int->Prop}:∀(l:List α) (n:Int),P n->(∀n,P n->∀x∈l,P (f n x))->P (l.foldl f n)
 | [],_,h,_=>h
 |x::r,n,h,hf=>zAc r (f n x) (hf n h x List.mem_cons_self) λn hn y hy=>hf n hn y (List.mem_cons_of_mem _ hy)
theorem zA7(h:BOk p F):0<=YH p/\YH p<=4096:=by
 refine zAc (P:=λn=>0<=n/\n<=4096) p.stmts 0 ⟨Int.le_refl _,by decide⟩ λn hn s hs=>?_
 obtain⟨i,hi,e⟩:=List.mem_iff_getElem.1 hs
 have hsx:bF p (i:Int)=s.x:=zG (by simp_all)
 refine zAc (P:=λn=>0<=n/\n<=4096) (ax s.x) n hn λm hm x hx=>zA0 hm λhk=>zA6 h hi (by simp_all) hk
variable [ae] {r0 : List Ex} {x x0 : Ex} {P : Nat → Ex → Prop} {i k m : Nat}
theorem ET:∀(l m:List Ex),dR (l++m)=dR l++dR m
 | [],m=>rfl
 |y::r,m=>by rw[List.cons_append,dR,dR,ET r m,List.append_assoc]
theorem z0d{α:Type}{l r0:List α}{k:Nat}{x0:α}(hd:l.drop k=x0::r0):l=l.take k++x0::r0:=by
 grind[List.take_append_drop]
theorem zH{k m:Nat}(hd:x.l.drop k=x0::r0)(hm:m=1+(dR (x.l.take k)).length){j:Nat}{y:Ex}(h:(ax x0)[j]? = some y):(ax x)[m+j]? = some y:=by
 rw[jl,z0d hd,ET,dR,hm]
 grind
theorem SV{k m:Nat}(hd:x.l.drop k=x0::r0)(hm:m=1+(dR (x.l.take k)).length):m+(ax x0).length=1+(dR (x.l.take (k+1))).length:=by
 grind[BN]
theorem Xc{x:Ex}{k m:Nat}(hd:x.l.drop k = [])(hm:m=1+(dR (x.l.take k)).length):m=(ax x).length:=by
 grind[List.take_of_length_le,List.drop_eq_nil_iff,jl]
theorem zen(hd:x.l.drop k=x0::r0)(hm:m=i+(1+(dR (x.l.take k)).length))(h:∀j y,(ax x)[j]? = some y->P (i+j) y):∀j y,(ax x0)[j]? = some y->P (m+j) y:=by
 intro j y hj
 rw[hm,Nat.add_assoc]
 exact h _ _ (zH hd rfl hj)
theorem Qe(hd:x.l.drop k=x0::r0)(hm:m=i+(1+(dR (x.l.take k)).length)):m+(ax x0).length=i+(1+(dR (x.l.take (k+1))).length):=by
 rw[hm,Nat.add_assoc,SV hd rfl]
theorem Xd{x:Ex}(hd:x.l.drop k = [])(hm:m=i+(1+(dR (x.l.take k)).length)):m=i+(ax x).length:=by
 rw[hm,Xc hd rfl]
theorem zeo{i k m q:Nat}(hd:x.l.drop k=x0::r0)(hm:m=i+(1+(dR (x.l.take k)).length))(hq:m<=i+q):(m+(ax x0).length<=i+q)\/(∃t,q=(m-i)+t/\t<(ax x0).length):=by
 rcases Nat.lt_or_ge (i+q) (m+(ax x0).length)with h |h
 ·exact .inr ⟨q-(m-i),by omega,by omega⟩
 ·exact .inl h
theorem z9i{i k m q:Nat}(hd:x.l.drop k=x0::r0)(hm:m=i+(1+(dR (x.l.take k)).length))(h:∀j y,j<q->(ax x)[j]? = some y->P (i+j) y)(hq:m+(ax x0).length<=i+q):∀j y,(ax x0)[j]? = some y->P (m+j) y:=by
 intro j y hj
 have:=(List.getElem?_eq_some_iff.1 hj).1
 rw[hm,Nat.add_assoc]
 exact h _ _ (by omega) (zH hd rfl hj)
theorem z9j{i k m q t:Nat}(hd:x.l.drop k=x0::r0)(hm:m=i+(1+(dR (x.l.take k)).length))(h:∀j y,j<q->(ax x)[j]? = some y->P (i+j) y)(hq:q=(m-i)+t):∀j y,j<t->(ax x0)[j]? = some y->P (m+j) y:=by
 intro j y hj hy
 rw[hm,Nat.add_assoc]
 exact h _ _ (by omega) (zH hd rfl hy)
theorem zep{i k m q t:Nat}(hd:x.l.drop k=x0::r0)(hm:m=i+(1+(dR (x.l.take k)).length))(h:∀y,(ax x)[q]? = some y->P (i+q) y)(hq:q=(m-i)+t):∀y,(ax x0)[t]? = some y->P (m+t) y:=by
 intro y hy
 have e:m+t=i+q:=by omega
 have:=zH hd (m:=1+(dR (x.l.take k)).length) rfl hy
 simp_all
theorem Ny(x:Ex):(ax x)[0]? = some x:=by rw[jl];rfl
end Go.Fw.Tl
namespace Go.Fw
theorem Xe[ae]{T:Tbl}{ops:Array Oper}{env:Env}{K:Heap}{tr:List Rec}{kp:Nat}{q:Prop}(l:List (Nat×Nat))(h0:KX kp l=false)(h:chk T ops env K (rM l 0 tr)=true)(h2:yP T K tr l)(hq:q):Ou T ops env K tr kp/\q:=⟨⟨l,h0,h,h2⟩,hq⟩
theorem BrI.ff_of[ae]{c:Bool}{p q:Prop}(h:c=false)(hq:q):BrI c p q:=by subst h;exact .ff hq
theorem BrI.tt_of[ae]{c:Bool}{p q:Prop}(h:c=true)(hp:p):BrI c p q:=by subst h;exact .tt hp
end Go.Fw
namespace Go.Fw.Tl
open Go.Fw Go.Fw.Ref15 Go.Fw.Rg
variable [ae] {f : D → Prop}
theorem z4g{a b:Int}{S:List (Key×Int)}{M:List (D×D)}{g:Prop}(hM:M=S.map kkD)(h1:∀n,lkK (a,b) S=some n->f (.i n))(h2:lkK (a,b) S=none->g):rH (nV (.agg [.i a,.i b]) M) f g:=by
 have e:=WR (a,b) S
 cases hk:lkK (a,b) S with
 |none=>grind[Nam.opt_none]
 |some n=>grind[Nam.opt_some]
theorem z4h{k:Int}{S:List (Int×Int)}{M:List (D×D)}{g:Prop}(hM:M=S.map iiD)(h1:∀n,lkA k S=some n->f (.i n))(h2:lkA k S=none->g):rH (nV (.i k) M) f g:=by
 have e:=WT k S
 cases hk:lkA k S with
 |none=>grind[Nam.opt_none]
 |some n=>grind[Nam.opt_some]
theorem z4i{k:Int}{S:List (Int×Bool)}{M:List (D×D)}{g:Prop}(hM:M=S.map ibD)(h1:∀n,lkA k S=some n->f (.b n))(h2:lkA k S=none->g):rH (nV (.i k) M) f g:=by
 have e:=WV k S
 cases hk:lkA k S with
 |none=>grind[Nam.opt_none]
 |some n=>grind[Nam.opt_some]
section
variable {p : Pr} {S : List (Key × Int)} {age : AS → Int → AR} {i : Int} {x : Ex} {s s' : AS} {v b : Int} {r : AR}
theorem z4j(h5:(x.kind==5)=true)(h:um p S age i x s=r):age s x.index=r:=by rwa[um,if_pos h5]at h
theorem z4k(h5:(x.kind==5)=false)(h4:(x.kind==4)=true)(hb:lkK (2,x.index) S=some b)(hl:decide (b<i)=true)(h:um p S age i x s=r):age s b=r:=by
 rw[um]at h
 simp_all
theorem z4l(h5:(x.kind==5)=false)(h4:(x.kind==4)=true)(hb:lkK (2,x.index) S=some b)(hl:decide (b<i)=false)(h:um p S age i x s=r):(age s b).add 1=r:=by
 rw[um]at h
 grind
theorem z4m(h5:(x.kind==5)=false)(h4:(x.kind==4)=true)(hb:lkK (2,x.index) S=none)(h:um p S age i x s=r):.ok 0 s=r:=by
 rwa[um,h5,if_neg (by decide),if_pos h4,hb]at h
theorem z4n(h5:(x.kind==5)=false)(h4:(x.kind==4)=false)(h8:(x.kind==8)=true)(hb:lkK (3,x.index) S=some b)(hr:r ≠ .out)(h:um p S age i x s=r):(age s b).add (bW p x.index).size=r/\0<=x.index/\x.index<p.lines.length:=by
 rw[um]at h
 grind
theorem z4o(h5:(x.kind==5)=false)(h4:(x.kind==4)=false)(h8:(x.kind==8)=true)(hb:lkK (3,x.index) S=none)(h:um p S age i x s=r):.ok 0 s=r:=by
 rwa[um,h5,if_neg (by decide),h4,if_neg (by decide),if_pos h8,hb]at h
theorem z4p(h5:(x.kind==5)=false)(h4:(x.kind==4)=false)(h8:(x.kind==8)=false)(h:um p S age i x s=r):.ok 0 s=r:=by
 rwa[um,h5,if_neg (by decide),h4,if_neg (by decide),h8,if_neg (by decide)]at h
theorem Qg{a:AR}{w:Int}(h:a.add w = .ok v s'):∃u,a = .ok u s'/\v=IntKind.i64.wrap (u+w):=by
 cases a with
 |ok u t=>cases h;simp
 |pan t=>cases h
 |out=>cases h
theorem Xf{a:AR}{w:Int}{t:AS}(h:a.add w = .pan t):a = .pan t:=by
 cases a with
 |ok u t=>cases h
 |pan t=>cases h;rfl
 |out=>cases h
theorem JH{s t:AS}{v:Int}(h:AR.ok v s = .pan t):False:=by cases h
theorem Jq{s:AS}{v:Int}:AR.ok v s ≠ .out:=by intro h;cases h
theorem zeq{s:AS}:AR.pan s ≠ .out:=by intro h;cases h
theorem Xg{s:AS}(h:AR.ok 0 s = .ok v s'):v=0/\s'=s:=by simp_all
end
theorem Xh{p:Pr}{n:Int}(h:0<=n/\n<p.lines.length):0<=n/\(p.lines.map Ln.cs)[n.toNat]? = some (Ln.cs (bW p n)):=by
 simp_all
variable [ae] {own : Ex → AS → AR}
def atA(own:Ex->AS->AR)(l:List Ex)(s:AS)(m:Int)(j:Nat):Int×AS:=match uq own (l.take j) s m with
 | .ok v t=>(v,t)
 |_=>(0,⟨[],[]⟩)
theorem z0e(own:Ex->AS->AR)(l:List Ex)(s:AS)(m:Int):atA own l s m 0=(m,s):=rfl
theorem jK{x:Ex}{r:List Ex}{s s1:AS}{m w:Int}(h:own x s = .ok w s1)(j:Nat):atA own (x::r) s m (j+1)=atA own r s1 (mm2 true m w) j:=by
 simp[atA,uq,h]
def z9k(own:Ex->AS->AR)(l:List Ex)(s:AS)(m:Int)(j:Nat):Prop:=∃w,own (l.getD j Ex.none) (atA own l s m j).2 = .ok w (atA own l s m (j+1)).2/\(atA own l s m (j+1)).1=mm2 true (atA own l s m j).1 w
theorem fold_at:∀(l:List Ex) (s:AS) (m v:Int) (t:AS),uq own l s m = .ok v t->(∀j,j<l.length->z9k own l s m j)/\atA own l s m l.length=(v,t)
 | [],s,m,v,t,h=>by cases h;exact⟨λj hj=>absurd hj (Nat.not_lt_zero _),rfl⟩
 |x::r,s,m,v,t,h=>by
  rw[uq]at h
  cases hx:own x s with
  |ok w s1=>
   rw[hx]at h
   obtain⟨h1,h2⟩:=fold_at r s1 _ v t h
   refine⟨λj hj=>?_,by grind[jK]⟩
   cases j with
   |zero=>exact⟨w,by rw[jK hx];exact hx,by rw[jK hx,z0e,z0e]⟩
   |succ j=>
    obtain⟨w2,a1,a2⟩:=h1 j (by simpa using hj)
    exact⟨w2,by grind[jK],by grind[jK]⟩
  |pan u=>simp_all
  |out=>simp_all
theorem Qh:∀(l:List Ex) (s:AS) (m:Int) (t:AS),uq own l s m = .pan t->∃k,k<l.length/\(∀j,j<k->z9k own l s m j)/\own (l.getD k Ex.none) (atA own l s m k).2 = .pan t
 | [],s,m,t,h=>by cases h
 |x::r,s,m,t,h=>by
  rw[uq]at h
  cases hx:own x s with
  |ok w s1=>
   rw[hx]at h
   obtain⟨k,h0,h1,h2⟩:=Qh r s1 _ t h
   refine⟨k+1,by simpa using h0,λj hj=>?_,by grind[jK]⟩
   cases j with
   |zero=>exact⟨w,by rw[jK hx];exact hx,by rw[jK hx,z0e,z0e]⟩
   |succ j=>
    obtain⟨w2,a1,a2⟩:=h1 j (by omega)
    exact⟨w2,by grind[jK],by grind[jK]⟩
  |pan u=>rw[hx]at h;cases h;exact⟨0,by simp,λj hj=>absurd hj (Nat.not_lt_zero _),hx⟩
  |out=>simp_all
def lX(p:Pr)(S:List (Key×Int))(f:Nat)(s:AS)(i:Int)(j:Nat):Int×AS:=atA (um p S (rf p S f) i) (ax (bF p i)) ⟨s.ages,uH i true s.opn⟩ 0 j
def Qi(p:Pr)(S:List (Key×Int))(f:Nat)(s:AS)(i:Int)(j:Nat):Prop:=z9k (um p S (rf p S f) i) (ax (bF p i)) ⟨s.ages,uH i true s.opn⟩ 0 j
theorem Qi.ok{p:Pr}{S:List (Key×Int)}{f:Nat}{s:AS}{i:Int}{j:Nat}(h:Qi p S f s i j):∃w,um p S (rf p S f) i ((ax (bF p i)).getD j Ex.none) (lX p S f s i j).2 = .ok w (lX p S f s i (j+1)).2/\(lX p S f s i (j+1)).1=mm2 true (lX p S f s i j).1 w:=h
section
variable {p : Pr} {S : List (Key × Int)} {f : Nat} {s s' : AS} {i v n : Int} {b : Bool} {r : AR}
theorem z4q(hb:lkA i s.opn=some b)(h:b=true)(hh:rf p S (f+1) s i=r):.pan s=r:=by
 subst h
 have ho:jm s i=true:=by rw[jm,hb]
 rwa[rf,if_pos ho]at hh
theorem z4r(hb:lkA i s.opn=some b)(h:b=false):jm s i=false:=by rw[jm,hb,h]
theorem z4s(hb:lkA i s.opn=none):jm s i=false:=by rw[jm,hb]
theorem Qj(ho:jm s i=false)(ha:lkA i s.ages=some n)(hh:rf p S (f+1) s i=r):.ok n s=r:=by rwa[rf,ho,if_neg (by decide),ha]at hh
theorem z9l{s t:AS}{a b:Int}(h:AR.ok a s = .ok b t):b=a/\t=s:=by simp_all
theorem zer(ho:jm s i=false)(ha:lkA i s.ages=none)(hh:rf p S (f+1) s i = .ok v s'):(0<=i/\i<p.stmts.length)/\(∀j,j<(ax (bF p i)).length->Qi p S f s i j)/\v=(lX p S f s i (ax (bF p i)).length).1/\s'=⟨uH i (lX p S f s i (ax (bF p i)).length).1 (lX p S f s i (ax (bF p i)).length).2.ages,uH i false (lX p S f s i (ax (bF p i)).length).2.opn⟩:=by
 rw[rf,ho,if_neg (by decide),ha]at hh
 simp only at hh
 split at hh<;>try(cases hh)
 rename_i q
 simp at q
 cases hf:uq (um p S (rf p S f) i) (ax (bF p i)) ⟨s.ages,uH i true s.opn⟩ 0 with
 |ok m t=>
  rw[hf]at hh
  cases hh
  obtain⟨h1,h2⟩:=fold_at _ _ _ _ _ hf
  have h2:lX p S f s i (ax (bF p i)).length=(v,t):=h2
  exact⟨q,h1,by rw[h2],by rw[h2]⟩
 |pan t=>simp_all
 |out=>simp_all
theorem z9m(ho:jm s i=false)(ha:lkA i s.ages=none)(hh:rf p S (f+1) s i = .pan s'):(0<=i/\i<p.stmts.length)/\∃k,k<(ax (bF p i)).length/\(∀j,j<k->Qi p S f s i j)/\um p S (rf p S f) i ((ax (bF p i)).getD k Ex.none) (lX p S f s i k).2 = .pan s':=by
 rw[rf,ho,if_neg (by decide),ha]at hh
 simp only at hh
 split at hh<;>try(cases hh)
 rename_i q
 simp at q
 cases hf:uq (um p S (rf p S f) i) (ax (bF p i)) ⟨s.ages,uH i true s.opn⟩ 0 with
 |ok m t=>simp_all
 |pan t=>
  rw[hf]at hh
  cases hh
  exact⟨q,Qh _ _ _ _ hf⟩
 |out=>simp_all
end
theorem z4t{p:Pr}{n:Int}(h:0<=n/\n<p.stmts.length):0<=n/\(p.stmts.map Sm.cs)[n.toNat]? = some (Sm.cs (p.stmts.getD n.toNat Sm.none)):=by
 simp_all
theorem Nz{P:Nat->D->Prop}{x:Ex}{n:Nat}(h:∀j,j<n->P j ((ax x).getD j Ex.none).d):∀j y,j<n->(ax x)[j]? = some y->P (0+j) y.d:=by
 grind
end Go.Fw.Tl
