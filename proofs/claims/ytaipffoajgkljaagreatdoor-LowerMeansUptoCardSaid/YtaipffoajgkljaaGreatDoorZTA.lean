/- A part of the proof. -/
import Derived.Test.YtaipffoajgkljaaGreatDoorZTD1
set_option linter.all false
namespace Go.Fw.Tl
open Go.Fw Go.Fw.Ref15 Go.Fw.Rg
variable [af]
abbrev Graph:=Nat->List (Nat×Int)
def Jh(val:Nat->Int):List (Nat×Int)->Int->Int
 | [],m=>m
 |q::r,m=>Jh val r (mm2 true m (val q.1+q.2))
theorem gQ(a b:Int):a<=mm2 true a b/\b<=mm2 true a b/\(mm2 true a b=a\/mm2 true a b=b):=by
 grind[mm2]
theorem VU(val:Nat->Int):∀(l:List (Nat×Int)) (m:Int),m<=Jh val l m
 | [],m=>Int.le_refl _
 |q::r,m=>Int.le_trans (gQ m _).1 (VU val r _)
theorem VV(val:Nat->Int):∀(l:List (Nat×Int)) (m:Int),Jh val l m=m\/∃q∈l,Jh val l m=val q.1+q.2
 | [],m=>.inl rfl
 |q::r,m=>by
  rcases VV val r (mm2 true m (val q.1+q.2))with h |⟨t,ht,h⟩
  ·rcases(gQ m (val q.1+q.2)).2.2 with e |e<;>grind[Jh]
  grind[Jh]
theorem Ed{val val':Nat->Int}:∀{l:List (Nat×Int)} {m:Int},(∀q∈l,val q.1=val' q.1)->Jh val l m=Jh val' l m
 | [],_,_=>rfl
 |q::r,m,h=>by
  rw[Jh,h q List.mem_cons_self]
  exact Ed (l:=r) λt ht=>h t (List.mem_cons_of_mem _ ht)
inductive Age(dep:Graph):Nat->Int->Prop
 |mk (i:Nat) (val:Nat->Int) (h:∀q∈dep i,Age dep q.1 (val q.1)):Age dep i (Jh val (dep i) 0)
theorem Age.inv{dep:Graph}{i:Nat}{v:Int}(h:Age dep i v):∃val:Nat->Int,(∀q∈dep i,Age dep q.1 (val q.1))/\v=Jh val (dep i) 0:=by
 cases h with |mk _ val h=>grind
theorem Age.unique{dep:Graph}{i:Nat}{v:Int}(h:Age dep i v):∀{w:Int},Age dep i w->v=w:=by
 induction h with
 |mk i val h ih=>
  intro w h2
  obtain⟨val',h3,rfl⟩:=h2.inv
  exact Ed λq hq=>ih q hq (h3 q hq)
theorem Age.nonneg{dep:Graph}{i:Nat}{v:Int}(h:Age dep i v):0<=v:=by
 obtain⟨val,_,rfl⟩:=h.inv;exact VU val _ 0
inductive Rc(dep:Graph):Nat->Nat->Prop
 |one {i:Nat} {q:Nat×Int} (h:q∈dep i):Rc dep i q.1
 |step {i k:Nat} {q:Nat×Int} (h:q∈dep i) (h2:Rc dep q.1 k):Rc dep i k
variable {dep : Graph} {wt : Nat → Int}
theorem Rc.trans{i k m:Nat}(h:Rc dep i k)(h2:Rc dep k m):Rc dep i m:=by
 induction h with
 |one h=>exact .step h h2
 |step h _ ih=>grind[step]
theorem Rc.snoc{i k:Nat}(h:Rc dep i k){q:Nat×Int}(hq:q∈dep k):Rc dep i q.1:=h.trans (.one hq)
theorem Age.irr{i:Nat}{v:Int}(h:Age dep i v):¬Rc dep i i:=by
 induction h with
 |mk i val h ih=>
  intro hr
  cases hr with
  |one hq=>exact ih _ hq (.one hq)
  |step hq h2=>exact ih _ hq (h2.trans (.one hq))
def sumW(wt:Nat->Int)(l:List Nat):Int:=(l.map wt).foldr (· + ·) 0
theorem fM(wt:Nat->Int)(k:Nat)(l:List Nat):sumW wt (k::l)=wt k+sumW wt l:=rfl
theorem Age.path(hw:∀i,∀q∈dep i,q.2<=wt q.1){i:Nat}{v:Int}(h:Age dep i v):∃l:List Nat,l.Nodup/\(∀k∈l,Rc dep i k)/\v<=sumW wt l:=by
 induction h with
 |mk i val h ih=>
  rcases VV val (dep i) 0 with e |⟨q,hq,e⟩
  ·exact⟨[],List.nodup_nil,λk hk=>by simp at hk,by rw[e];exact Int.le_refl _⟩
  ·obtain⟨l,hn,hr,hv⟩:=ih q hq
   refine⟨q.1::l,List.nodup_cons.2 ⟨λhm=>(h q hq).irr (hr _ hm),hn⟩,λk hk=>?_,?_⟩
   ·rcases List.mem_cons.1 hk with rfl |hk<;>try exact .one hq
    exact .step hq (hr k hk)
   grind[fM]
theorem Bj(wt:Nat->Int)(f:Nat->Bool):∀l:List Nat,sumW wt l=sumW wt (l.filter f)+sumW wt (l.filter λk=>!f k)
 | []=>rfl
 |k::r=>by
  rw[fM,Bj wt f r]
  cases h:f k<;>simp[h,fM]<;>omega
theorem MG{wt:Nat->Int}{m:Nat}:∀{l:List Nat},l.Nodup->(∀k∈l,k=m)->l = []\/l = [m]
 | [],_,_=>.inl rfl
 | [k],_,h=>.inr (by simp_all)
 |k::k'::r,hn,h=>by
  simp_all
theorem xu(h0:∀k,0<=wt k):∀(m:Nat) {l:List Nat},l.Nodup->(∀k∈l,k<m)->sumW wt l<=sumW wt (List.range m)
 | 0,l,_,h=>by
  cases l with
  |nil=>simp
  |cons k r=>exact absurd (h k List.mem_cons_self) (Nat.not_lt_zero _)
 |m+1,l,hn,h=>by
  have h1:=xu h0 m (l:=l.filter λk=>decide (k<m)) (hn.filter _) (λk hk=>of_decide_eq_true (List.mem_filter.1 hk).2)
  have h2:sumW wt (l.filter λk=>!decide (k<m))<=wt m:=by
   rcases MG (wt:=wt) (m:=m) (hn.filter _) (l:=l.filter λk=>!decide (k<m)) (λk hk=>by
    grind)with e |e
   ·rw[e];exact h0 m
   ·rw[e];show wt m+0<=wt m;omega
  have h3:sumW wt (List.range (m+1))=sumW wt (List.range m)+wt m:=by
   rw[List.range_succ]
   generalize List.range m=q
   induction q with
   |nil=>simp[sumW]
   |cons a r ih=>rw[List.cons_append,fM,fM];omega
  grind[Bj]
def z2d(n:Nat)(s:AS):Nat:=(List.range n).countP λk:Nat=>!jE s (k:Int)
theorem tZ{α:Type}{k j:Int}{v:α}:∀{l:List (Int×α)},lkA j (lW k v l)=if j==k then some v else lkA j l
 | []=>by rfl
 |(a,w)::r=>by
  simp only[lW]
  by_cases h:(k==a)=true
  ·have h:=eq_of_beq h
   subst h
   simp[lkA]
   split<;>rfl
  ·simp[h,lkA,tZ (l:=r)]
   grind
theorem qB(a:List (Int×Int))(o:List (Int×Bool))(k j:Int)(b:Bool):jE ⟨a,lW k b o⟩ j=if j==k then b else jE ⟨a,o⟩ j:=by
 simp[jE,tZ]
 grind
def MH(p:Pr)(S:List (Key×Int))(i:Nat)(x:Ex):Option (Nat×Int):=
 if x.kind==5 then some (x.index.toNat,0)
 else if x.kind==4 then match lkK (2,x.index) S with
  |some b=>some (b.toNat,if b<(i:Int)then 0 else 1)
  |none=>none
 else if x.kind==8 then match lkK (3,x.index) S with
  |some b=>some (b.toNat,(bZ p x.index).size)
  |none=>none
 else none
def rE(p:Pr):Graph:=λi=>(aA (bH p i)).filterMap (MH p (bf p) i)
structure GOk(p:Pr):Prop where
 len:p.stmts.length<=1048576
 idx:∀i,i<p.stmts.length->∀x∈aA (bH p i),(x.kind==5)=true->0<=x.index/\x.index<p.stmts.length
 set:∀k b,lkK k (bf p)=some b->0<=b/\b<p.stmts.length
 siz:∀i,i<p.stmts.length->∀x∈aA (bH p i),(x.kind==8)=true->(0<=(bZ p x.index).size/\(bZ p x.index).size<=65536)/\(decide (0<=x.index)&&decide (x.index<p.lines.length))=true
 bnd:∀i v,Age (rE p) i v->v<=4611686018427387904
theorem zb8{p:Pr}(g:GOk p){i:Nat}(hi:i<p.stmts.length){x:Ex}(hx:x∈aA (bH p i)){q:Nat×Int}(h:MH p (bf p) i x=some q):q.1<p.stmts.length:=by
 unfold MH at h
 split at h<;>try(rename_i h5;cases h;have:=g.idx i hi x hx h5;omega)
 split at h
 ·split at h
  ·rename_i b hb;cases h;have:=g.set _ _ hb;omega
  ·cases h
 ·split at h
  ·split at h
   ·rename_i b hb;cases h;have:=g.set _ _ hb;omega
   ·cases h
  ·cases h
theorem Zd{p:Pr}{i:Nat}{x:Ex}{s:AS}{age:AS->Int->AR}(h:MH p (bf p) i x=none):tX p (bf p) age i x s = .ok 0 s:=by
 unfold MH at h;unfold tX
 grind
theorem Pn{p:Pr}(g:GOk p){i:Nat}(hi:i<p.stmts.length){x:Ex}(hx:x∈aA (bH p i)){q:Nat×Int}{s s':AS}{age:AS->Int->AR}{v:Int}(h:MH p (bf p) i x=some q)(ha:age s q.1 = .ok v s')(hv:Age (rE p) q.1 v):tX p (bf p) age i x s = .ok (v+q.2) s':=by
 have h0:=hv.nonneg
 have h1:=g.bnd _ _ hv
 have hw:∀w:Int,0<=w->w<=65536->IntKind.i64.wrap (v+w)=v+w:=λw h2 h3=>aO (by omega) (by omega)
 unfold MH at h;unfold tX
 split at h
 ·rename_i h5
  cases h
  have:=g.idx i hi x hx h5
  grind
 ·rename_i h5
  rw[if_neg h5]
  split at h
  ·rename_i h4
   split at h
   ·rename_i b e
    cases h
    have:=g.set _ _ e
    rw[Int.toNat_of_nonneg this.1]at ha
    by_cases hb:b<(i:Int)
    ·simp_all
    ·grind[AR.add]
   ·cases h
  ·rename_i h4
   rw[if_neg h4]
   split at h
   ·rename_i h8
    split at h
    ·rename_i b e
     cases h
     have:=g.set _ _ e
     have hs:=g.siz i hi x hx h8
     grind[AR.add]
    ·cases h
   ·cases h
theorem MI{p:Pr}(g:GOk p){i:Nat}(hi:i<p.stmts.length){x:Ex}(hx:x∈aA (bH p i)){q:Nat×Int}{s:AS}{age:AS->Int->AR}{t:AS}(h:MH p (bf p) i x=some q)(ha:age s q.1 = .pan t):tX p (bf p) age i x s = .pan t:=by
 unfold MH at h;unfold tX
 split at h
 ·rename_i h5
  have:=g.idx i hi x hx h5
  grind
 ·rename_i h5
  rw[if_neg h5]
  split at h
  ·rename_i h4
   rw[if_pos h4]
   split at h<;>try(cases h;done)
   rename_i b e
   cases h
   have:=g.set _ _ e
   rw[Int.toNat_of_nonneg this.1]at ha
   simp only[e]
   split<;>rw[ha]<;>rfl
  ·rename_i h4
   rw[if_neg h4]
   split at h<;>try(cases h;done)
   rename_i h8
   rw[if_pos h8]
   split at h<;>try(cases h;done)
   rename_i b e
   cases h
   have:=g.set _ _ e
   rw[Int.toNat_of_nonneg this.1]at ha
   simp[e,(g.siz i hi x hx h8).2]
   rw[ha];rfl
open Classical in
noncomputable def vOf(dep:Graph)(k:Nat):Int:=if h:∃v,Age dep k v then h.choose else 0
theorem zb9{dep:Graph}{k:Nat}{v:Int}(h:Age dep k v):vOf dep k=v:=by
 have he:∃v,Age dep k v:=⟨v,h⟩
 rw[vOf,dif_pos he]
 exact he.choose_spec.unique h
structure zca(dep:Graph)(s:AS):Prop where
 ages:∀(k:Nat) (v:Int),lkA (k:Int) s.ages=some v->Age dep k v
def z6u(s s':AS):Prop:=∀k:Int,jE s' k=jE s k
def DOk(p:Pr)(f:Nat):Prop:=∀(s:AS) (i:Nat),i<p.stmts.length->zca (rE p) s->(∀o:Nat,jE s (o:Int)=true->Rc (rE p) o i)->z2d p.stmts.length s<f ->
 (∃v s',qW p (bf p) f s i = .ok v s'/\Age (rE p) i v/\zca (rE p) s'/\z6u s s')\/((∃t,qW p (bf p) f s i = .pan t)/\¬∃v,Age (rE p) i v)
theorem VW{n:Nat}{s s':AS}(h:z6u s s'):z2d n s'=z2d n s:=by
 unfold z2d;congr 1;funext k;rw[h]
theorem MJ{p:Pr}(g:GOk p){f:Nat}(ih:DOk p f){i:Nat}(hi:i<p.stmts.length):∀(l:List Ex) (s:AS) (m:Int),(∀x∈l,x∈aA (bH p i))->zca (rE p) s->(∀o:Nat,jE s (o:Int)=true->o=i\/Rc (rE p) o i)->z2d p.stmts.length s<f->0<=m ->
  (∃s',tY (tX p (bf p) (qW p (bf p) f) i) l s m = .ok (Jh (vOf (rE p)) (l.filterMap (MH p (bf p) i)) m) s'/\(∀q∈l.filterMap (MH p (bf p) i),Age (rE p) q.1 (vOf (rE p) q.1))/\zca (rE p) s'/\z6u s s') \/
  ((∃t,tY (tX p (bf p) (qW p (bf p) f) i) l s m = .pan t)/\∃q∈l.filterMap (MH p (bf p) i),¬∃v,Age (rE p) q.1 v)
 | [],s,m,_,hs,_,_,_=>.inl ⟨s,rfl,λq hq=>by simp at hq,hs,λ_=>rfl⟩
 |x::r,s,m,hl,hs,ho,hf,hm=>by
  have hx:=hl x List.mem_cons_self
  have hr:∀y∈r,y∈aA (bH p i):=λy hy=>hl y (List.mem_cons_of_mem _ hy)
  cases hd:MH p (bf p) i x with
  |none=>
   have hm0:mm2 true m 0=m:=by unfold mm2;grind
   simp only[tY,Zd hd,hm0,List.filterMap_cons,hd]
   exact MJ g ih hi r s m hr hs ho hf hm
  |some q=>
   have hq:q∈rE p i:=List.mem_filterMap.2 ⟨x,hx,hd⟩
   have hqn:=zb8 g hi hx hd
   rcases ih s q.1 hqn hs (λo h=>by
    rcases ho o h with e |e<;>try exact e ▸ .one hq
    exact e.snoc hq) hf with⟨v,s',e1,e2,e3,e4⟩ |⟨⟨t,e1⟩,e2⟩
   ·have hv:=zb9 e2
    have hmx:=(gQ m (v+q.2)).1
    simp only[tY,Pn g hi hx hd e1 e2,List.filterMap_cons,hd,Jh,hv]
    rcases MJ g ih hi r s' (mm2 true m (v+q.2)) hr e3 (λo h=>ho o (by rw[<-e4];exact h)) (by grind[VW]) (by omega)with⟨s2,a1,a2,a3,a4⟩ |⟨a1,t,a2,a3⟩
    ·refine .inl ⟨s2,a1,λt ht=>?_,a3,λk=>(a4 k).trans (e4 k)⟩
     grind
    grind
   ·refine .inr ⟨⟨t,?_⟩,q,?_,e2⟩
    ·simp[tY,MI g hi hx hd e1]
    ·simp only[List.filterMap_cons,hd];exact List.mem_cons_self
theorem Ze{n:Nat}{s:AS}{i:Nat}(hi:i<n)(h:jE s i=false):z2d n ⟨s.ages,lW (i:Int) true s.opn⟩+1=z2d n s:=by
 unfold z2d
 have key:∀m,m<=n->((List.range m).countP λk:Nat=>!jE ⟨s.ages,lW (i:Int) true s.opn⟩ (k:Int))+(if i<m then 1 else 0)=(List.range m).countP λk:Nat=>!jE s (k:Int):=by
  intro m
  induction m with
  |zero=>simp
  |succ m ih=>
   simp only[List.range_succ,List.countP_append,List.countP_singleton,qB]
   have hs:jE (⟨s.ages,s.opn⟩:AS) (m:Int)=jE s m:=rfl
   rw[hs]
   by_cases e:m=i
   ·grind[qB]
   ·simp only[qB]at ih
    grind
 grind
theorem z2e{p:Pr}(g:GOk p):∀f,DOk p f
 | 0=>λ_ _ _ _ _ h=>absurd h (Nat.not_lt_zero _)
 |f+1=>λs i hi hs ho hf=>by
  rw[qW]
  by_cases hop:jE s (i:Int)=true
  ·rw[if_pos hop]
   exact .inr ⟨⟨_,rfl⟩,λ⟨v,hv⟩=>hv.irr (ho i hop)⟩
  ·rw[if_neg hop]
   have hop:jE s (i:Int)=false:=by simpa using hop
   cases ha:lkA (i:Int) s.ages with
   |some v=>exact .inl ⟨v,s,rfl,hs.ages i v ha,hs,λ_=>rfl⟩
   |none=>
    have hii:(decide (0<=(i:Int))&&decide ((i:Int)<p.stmts.length))=true:=by simp_all
    simp only[hii,if_true]
    have hc:=Ze hi hop
    have hs1:zca (rE p) ⟨s.ages,lW (i:Int) true s.opn⟩:=⟨hs.ages⟩
    rcases MJ g (z2e g f) hi (aA (bH p i)) ⟨s.ages,lW (i:Int) true s.opn⟩ 0 (λ_ h=>h) hs1 (λo h=>by
     rw[qB]at h
     by_cases e:((o:Int)==(i:Int))=true
     ·grind
     simp_all) (by omega) (Int.le_refl _)with⟨s',a1,a2,a3,a4⟩ |⟨⟨t,a1⟩,q,a2,a3⟩
    ·have hAge:Age (rE p) i (Jh (vOf (rE p)) (rE p i) 0):=.mk i _ a2
     refine .inl ⟨Jh (vOf (rE p)) (rE p i) 0,⟨lW (i:Int) (Jh (vOf (rE p)) (rE p i) 0) s'.ages,lW (i:Int) false s'.opn⟩,by rw[a1]<;>rfl,hAge,⟨λk v h=>?_⟩,λk=>?_⟩
     ·simp only[tZ]at h
      by_cases e:((k:Int)==(i:Int))=true<;>try grind
      rw[if_neg e]at h;exact a3.ages k v h
     ·have h1:=a4 k
      rw[qB]at h1 ⊢
      have h2:jE (⟨lW (i:Int) (Jh (vOf (rE p)) (rE p i) 0) s'.ages,s'.opn⟩:AS) k=jE s' k:=rfl
      by_cases e:(k==(i:Int))=true<;>simp_all
    ·refine .inr ⟨⟨t,by rw[a1]⟩,λ⟨v,hv⟩=>?_⟩
     obtain⟨val,h,_⟩:=hv.inv
     exact a3 ⟨_,h q a2⟩
end Go.Fw.Tl
namespace Go.Fw.Tl
open Go.Fw Go.Fw.Ref15 Go.Fw.Rg
variable [af] {p : Pr} {i : Nat}
theorem qC:∀(r:List Sm) (i:Nat) (out:Bool),di p r i out = .ok r->∀(j:Nat) (s:Sm),r[j]? = some s->cZ p s=s.index/\0<=s.index/\again p (i+j) s=false
 | [],_,_,_,j,s,h=>by simp at h
 |t::r,i,out,h,j,s,hj=>by
  rw[di]at h
  split at h<;>try(cases h)
  split at h<;>try(cases h)
  split at h<;>try(cases h)
  cases hr:di p r (i+1) (t.kind==4)with
  |error e=>simp_all
  |ok l=>
   rw[hr]at h
   simp at h
   have h1:cZ p t=t.index:=congrArg Sm.index h.1
   cases j with
   |zero=>
    simp_all
   |succ j=>
    have:=qC r (i+1) _ (by rw[hr,h.2]) j s hj
    grind
theorem Gg:∀(r:List Sm) (i:Nat),vg p i r=true->∀(j:Nat) (s:Sm),r[j]? = some s->wfS p (i+j) s=true
 | [],_,_,j,s,h=>by simp at h
 |t::r,i,h,j,s,hj=>by
  cases j with
  |zero=>
   simp at hj
   subst hj
   simp[vg]at h;exact h.1
  |succ j=>
   have:=Gg r (i+1) (qy h) j s hj
   grind
theorem Gh{n:Nat}:∀x:Ex,wfX p n x=true->∀y∈aA x,wfX p n y=true:=by
 refine Ex.ind λx ih=>?_
 intro h y hy
 rw[iM]at hy
 rcases List.mem_cons.1 hy with rfl |hy
 ·exact h
 ·obtain⟨z,hz,hy⟩:=kY.1 hy
  exact ih z hz (eQ (aV h).2.2 z hz) y hy
theorem y5{a b:Key}:Pm a b=true↔a=b:=by
 unfold Pm
 grind
theorem VX{α:Type}{k j:Key}{v:α}:∀{l:List (Key×α)},lkK j (XV k v l)=if Pm j k then some v else lkK j l
 | []=>by rfl
 |(a,w)::r=>by
  simp[XV]
  by_cases h:Pm k a=true
  ·have h:=y5.1 h
   subst h
   simp[y5.2 rfl,lkK]
   split<;>rfl
  ·simp[h,lkK,VX (l:=r)]
   by_cases hj:Pm j a=true
   ·have:Pm j k=false:=by
     grind[y5]
    simp_all
   simp_all
theorem Po{k:Key}{b:Int}:∀(r:List Sm) (i:Nat) (S:List (Key×Int)),lkK k (z2c r i S)=some b->lkK k S=some b\/∃(j:Nat) (s:Sm),r[j]? = some s/\b=((i+j:Nat):Int)/\sets s.kind=true/\k=(s.kind,s.index)
 | [],_,_,h=>.inl h
 |t::r,i,S,h=>by
  rcases Po r (i+1) _ h with q |⟨j,s,h1,h2,h3,h4⟩<;>try exact .inr ⟨j+1,s,h1,by omega,h3,h4⟩
  split at q<;>try exact .inl q
  rename_i hs
  rw[VX]at q
  split at q<;>try exact .inl q
  rename_i e
  cases q
  exact .inr ⟨0,t,rfl,rfl,hs,y5.1 e⟩
theorem Pq{k:Key}{b:Int}(h:lkK k (bf p)=some b):∃(j:Nat) (s:Sm),p.stmts[j]? = some s/\b=(j:Int)/\sets s.kind=true/\k=(s.kind,s.index):=by
 rcases Po p.stmts 0 [] h with q |⟨j,s,h1,h2,h3,h4⟩<;>grind[lkK]
def wt2(p:Pr)(k:Nat):Int:=if(p.stmts.getD k Sm.none).kind==2 then 1 else 0
def lsz(p:Pr)(k:Nat):Int:=mm2 true 0 (p.lines.getD k Ln.none).size
def wt3(p:Pr)(k:Nat):Int:=if(p.stmts.getD k Sm.none).kind==3 then lsz p (p.stmts.getD k Sm.none).index.toNat else 0
def wtP(p:Pr)(k:Nat):Int:=wt2 p k+wt3 p k
theorem Ee(p:Pr)(k:Nat):0<=lsz p k:=(gQ _ _).1
theorem Ef(p:Pr)(k:Nat):0<=wt2 p k:=by grind[wt2]
theorem Eg(p:Pr)(k:Nat):0<=wt3 p k:=by
 unfold wt3;split
 ·exact Ee _ _
 ·omega
theorem bF{α:Type}{l:List α}{a d:α}(h:l[i]? = some a):l.getD i d=a:=by simp_all
theorem zcb{q:Nat×Int}(h:q∈rE p i):q.2<=wtP p q.1:=by
 obtain⟨x,_,h⟩:=List.mem_filterMap.1 h
 have h2:=Ef p q.1
 have h3:=Eg p q.1
 unfold MH at h
 split at h<;>try grind[wtP]
 split at h
 ·split at h
  ·rename_i b hb
   obtain⟨j,s,e1,e2,_,e4⟩:=Pq hb
   grind[wt2,bF,wtP]
  ·cases h
 ·split at h<;>try(cases h)
  split at h
  ·rename_i b hb
   obtain⟨j,s,e1,e2,_,e4⟩:=Pq hb
   have:wt3 p b.toNat=lsz p x.index.toNat:=by
    grind[wt3,bF]
   have h4:(bZ p x.index).size<=lsz p x.index.toNat:=(gQ _ _).2.1
   grind[wtP]
  ·cases h
theorem Pv(g:Nat->Int)(f:Nat->Nat)(c:Nat->Bool):∀l:List Nat,sumW (λk=>if c k then g (f k)else 0) l=sumW g ((l.filter c).map f)
 | []=>rfl
 |k::r=>by
  rw[fM,Pv g f c r]
  cases h:c k
  ·rw[List.filter_cons_of_neg (by simp[h])];simp
  ·rw[List.filter_cons_of_pos h,List.map_cons,fM];simp
theorem Ji{f:Nat->Nat}:∀{l:List Nat},l.Nodup->(∀a∈l,∀b∈l,f a=f b->a=b)->(l.map f).Nodup
 | [],_,_=>List.nodup_nil
 |k::r,h,hf=>by
  rw[List.map_cons,List.nodup_cons]
  refine⟨λhm=>?_,Ji (List.nodup_cons.1 h).2 λa ha b hb=>hf a (List.mem_cons_of_mem _ ha) b (List.mem_cons_of_mem _ hb)⟩
  grind
theorem Px{g:Nat->Int}{f:Nat->Nat}{c:Nat->Bool}{n m:Nat}(h0:∀k,0<=g k)(hi:∀a,a<n->∀b,b<n->c a=true->c b=true->f a=f b->a=b)(hm:∀a,a<n->c a=true->f a<m):sumW (λk=>if c k then g (f k)else 0) (List.range n)<=sumW g (List.range m):=by
 rw[Pv]
 refine xu h0 m (Ji (List.nodup_range.filter _) λa ha b hb=>?_) λk hk=>?_<;>grind
theorem Py(f g:Nat->Int):∀l:List Nat,sumW (λk=>f k+g k) l=sumW f l+sumW g l
 | []=>rfl
 |k::r=>by rw[fM,fM,fM,Py f g r];omega
theorem Zf:∀n:Nat,sumW (λ_=>1) (List.range n)=(n:Int):=by
 have:∀l:List Nat,sumW (λ_=>1) l=(l.length:Int):=by
  intro l
  induction l with
  |nil=>rfl
  |cons a r ih=>grind[fM]
 simp_all
theorem Gi(h:Res p){i j:Nat}{s t:Sm}(hi:p.stmts[i]? = some s)(hj:p.stmts[j]? = some t)(hs:sets s.kind=true)(hk:t.kind=s.kind)(hx:t.index=s.index):¬i<j:=by
 intro hl
 have a1:=qC p.stmts 0 false h.ru i s hi
 have a2:=qC p.stmts 0 false h.ru j t hj
 have hn:t.name=s.name:=by
  have h1:=a1.1;have h2:=a2.1
  have key:∀(l:List Str) (a b:Str),find l a=find l b->0<=find l a->a=b:=by
   have hg:∀(l:List Str) (a:Str) (i:Int),0<=i->0<=bn a l i->i<=bn a l i/\l[(bn a l i-i).toNat]? = some a:=by
    intro l a
    induction l with
    |nil=>grind[bn]
    |cons x r ih=>
     intro i hi h
     simp only[bn]at h ⊢
     split at h
     ·simp_all
     ·rename_i e
      rw[if_neg e]
      have:=ih (i+1) (by omega) h
      refine⟨by omega,?_⟩
      rw[show(bn a r (i+1)-i).toNat=(bn a r (i+1)-(i+1)).toNat+1 by omega]
      exact this.2
   grind[find]
  simp only[cZ,hk]at h1 h2
  simp only[sets]at hs
  grind
 have ha:=a2.2.2
 rw[Nat.zero_add,again,List.any_eq_false]at ha
 have hm:s∈p.stmts.take j:=List.mem_of_getElem? (by rw[List.getElem?_take_of_lt hl];exact hi)
 have:=ha s hm
 have h1:(s.kind != 1)=true:=by
  cases q:s.kind==1
  ·simp[bne,q]
  ·have q:=eq_of_beq q
   rw[q]at hs;exact absurd hs (by decide)
 simp_all
theorem zej(h:Res p):(p.params.length<=16/\p.states.length<=16/\p.lines.length<=16/\p.tables.length<=16/\p.stmts.length<=64)/\(∀l∈p.lines,1<=l.size/\l.size<=65536)/\(0<=p.latency/\p.latency<=4096)/\(-1<=p.tail/\p.tail<=1048576):=by
 have:=h.li
 simp[limited,few,memOk,DU,Bool.and_eq_true,List.all_eq_true]at this
 grind
theorem VY(h:Res p):0<p.stmts.length:=by
 have:=h.ru
 grind[di]
theorem y7{s:Sm}(h:p.stmts[i]? = some s):bH p (i:Int)=s.x:=by rw[bH,Int.toNat_natCast,bF h]
theorem qE{α:Type}{l:List α}(h:i<l.length):∃a,l[i]? = some a:=⟨_,List.getElem?_eq_getElem h⟩
theorem nI(h:Res p)(hi:i<p.stmts.length){x:Ex}(hx:x∈aA (bH p i)):wfX p i x=true:=by
 obtain⟨s,hs⟩:=qE hi
 rw[y7 hs]at hx
 have:=Gg p.stmts 0 h.wf i s hs
 rw[wfS]at this
 grind[Gh]
theorem z6v(h:Res p):sumW (wtP p) (List.range p.stmts.length)<=(p.states.length:Int)+sumW (lsz p) (List.range p.lines.length):=by
 have e:wtP p=λk=>wt2 p k+wt3 p k:=rfl
 rw[e,Py]
 have inj:∀c:Int,(c==2 || c==3)=true->∀a,a<p.stmts.length->∀b,b<p.stmts.length->((p.stmts.getD a Sm.none).kind==c)=true->((p.stmts.getD b Sm.none).kind==c)=true->(p.stmts.getD a Sm.none).index.toNat=(p.stmts.getD b Sm.none).index.toNat->a=b:=by
  intro c hc a ha b hb h1 h2 h3
  obtain⟨s,hs⟩:=qE ha
  obtain⟨t,ht⟩:=qE hb
  rw[bF hs]at h1 h3
  rw[bF ht]at h2 h3
  have h1:=eq_of_beq h1
  have h2:=eq_of_beq h2
  have g1:=(qC p.stmts 0 false h.ru a s hs).2.1
  have g2:=(qC p.stmts 0 false h.ru b t ht).2.1
  have hk:∀k:Int,k=c->sets k=true:=by
   intro k e;subst e
   simp at hc
   rcases hc with rfl |rfl<;>rfl
  have q1:=Gi h hs ht (hk _ h1) (h2.trans h1.symm) (by omega)
  have q2:=Gi h ht hs (hk _ h2) (h1.trans h2.symm) (by omega)
  omega
 have wfa:∀a,a<p.stmts.length->∀s,p.stmts[a]? = some s->wfS p a s=true:=λa _ s hs=>by
  have:=Gg p.stmts 0 h.wf a s hs
  grind
 have h2:=Px (g:=λ_=>1) (f:=λk=>(p.stmts.getD k Sm.none).index.toNat) (c:=λk=>(p.stmts.getD k Sm.none).kind==2) (n:=p.stmts.length) (m:=p.states.length) (λ_=>by decide) (inj 2 rfl) (λa ha hc=>by
  obtain⟨s,hs⟩:=qE ha
  have:=wfa a ha s hs
  rw[bF hs]at hc ⊢
  simp[wfS,hc]at this
  omega)
 have h3:=Px (g:=lsz p) (f:=λk=>(p.stmts.getD k Sm.none).index.toNat) (c:=λk=>(p.stmts.getD k Sm.none).kind==3) (n:=p.stmts.length) (m:=p.lines.length) (Ee p) (inj 3 rfl) (λa ha hc=>by
  obtain⟨s,hs⟩:=qE ha
  have:=wfa a ha s hs
  rw[bF hs]at hc ⊢
  simp[wfS,Bool.and_eq_true,hc,Bool.not_true,Bool.false_or,decide_eq_true_eq]at this
  omega)
 rw[Zf]at h2
 exact Int.add_le_add h2 h3
theorem Zg(h:p.stmts.length<=i):rE p i = []:=by
 have:bH p i=Ex.none:=by rw[bH,Int.toNat_natCast,List.getD_eq_getElem?_getD,List.getElem?_eq_none h];rfl
 rw[rE,this]
 rfl
theorem ze7(h:∀i,i<p.stmts.length->∀q∈rE p i,q.1<p.stmts.length){i k:Nat}(hr:Rc (rE p) i k):k<p.stmts.length:=by
 have one:∀{i:Nat} {q:Nat×Int},q∈rE p i->q.1<p.stmts.length:=by
  grind[Zg]
 induction hr with
 |one hq=>exact one hq
 |step _ _ ih=>exact ih
theorem dep_lt'(h:Res p):∀i,i<p.stmts.length->∀q∈rE p i,q.1<p.stmts.length:=by
 intro i hi q hq
 obtain⟨x,hx,hd⟩:=List.mem_filterMap.1 hq
 have hw:=(aV (nI h hi hx)).2.1
 unfold MH at hd
 split at hd
 ·grind[oP]
 grind[Pq]
theorem zcc(h:Res p){v:Int}(ha:Age (rE p) i v):v<=(p.states.length:Int)+sumW (lsz p) (List.range p.lines.length):=by
 obtain⟨l,h1,h2,h3⟩:=ha.path (wt:=wtP p) (λ_ q hq=>zcb hq)
 have h4:=xu (wt:=wtP p) (λk=>Int.add_nonneg (Ef p k) (Eg p k)) p.stmts.length h1 (λk hk=>ze7 (dep_lt' h) (h2 k hk))
 have:=z6v h
 omega
theorem VZ{f:Nat->Int}{b:Int}:∀(l:List Nat),(∀k∈l,f k<=b)->sumW f l<=b * l.length
 | [],_=>by simp[sumW]
 |k::r,h=>by
  have:=VZ r λj hj=>h j (List.mem_cons_of_mem _ hj)
  rw[fM,List.length_cons]
  grind
theorem zcd(h:Res p){k:Nat}(hk:k<p.lines.length):lsz p k=(p.lines.getD k Ln.none).size/\lsz p k<=65536:=by
 obtain⟨l,hl⟩:=qE hk
 have:=(zej h).2.1 l (List.mem_of_getElem? hl)
 grind[lsz,mm2]
theorem z6w(h:Res p):GOk p:=by
 have hl:=zej h
 refine⟨by omega,λi hi x hx h5=>?_,λk b hb=>?_,λi hi x hx h8=>?_,λi v ha=>?_⟩
 ·have hw:=(aV (nI h hi hx)).2.1
  grind[oP]
 ·grind[Pq,List.getElem?_eq_some_iff]
 ·have hw:=(aV (nI h hi hx)).2.1
  rw[eq_of_beq h8]at hw
  simp only[oP]at hw
  grind
 ·have h1:=zcc h ha
  have h2:=VZ (f:=lsz p) (b:=65536) (List.range p.lines.length) (λk hk=>(zcd h (List.mem_range.1 hk)).2)
  grind
variable [af] {p : Pr} {n : Nat} {x : Ex}
theorem y8{x y:Ex}(hw:wfX p n x=true)(hx:bI p n x=(x,true))(hy:y∈x.l):bI p n y=(y,true):=by
 obtain⟨g1,g2,g3⟩:=aV hw
 rw[lI]at hx
 by_cases hN:(named x.kind&&x.kind != 8&&x.kind != 9)=true
 ·have:Ref15.parts x.kind=0:=by
   simp[named]at hN
   rcases kinds g2 with h |h |h |h |h |h |h |h |h |h |h |h |h |h |h |h |h |h<;>rw[h]at hN ⊢ <;> first |rfl |(simp at hN)
  simp_all
 ·rw[if_neg hN]at hx
  have e1:(dK p n x.l).1=x.l:=congrArg (λq=>q.1.l) hx
  grind[oQ]
theorem MK(hn:n<=p.stmts.length)(hx:bI p n x=(x,true))(hw:wfX p n x=true):vI p x=true:=by
 obtain⟨g1,g2,g3⟩:=aV hw
 by_cases h5:x.kind=5
 ·have h0:=Ea g2 (by rw[h5];rfl)
  rw[lI,if_pos (by rw[h5];rfl),value]at hx
  simp only at hx
  have hg:given p x.name n=x.index:=by
   split at hx
   ·split at hx
    ·exact congrArg (λq=>q.1.index) hx
    ·have this:(4:Int)=x.kind:=congrArg (λq=>q.1.kind) hx
     omega
   ·have this:(3:Int)=x.kind:=congrArg (λq=>q.1.kind) hx
    omega
  rw[given]at hg
  have hkk:=(Ec (p.stmts.take n) 0 (Int.le_refl _) (by rw[hg];exact h0.1)).2
  rw[hg,Int.sub_zero]at hkk
  have hst:p.stmts.getD x.index.toNat Sm.none=(p.stmts.take n).getD x.index.toNat Sm.none:=by
   grind
  rw[vI,h5,hst,hkk]
  rw[h5]at g1
  rw[g1]
  rw[if_neg (by decide),if_neg (by decide),if_neg (by decide)]
  grind
 ·rcases kinds g2 with r |r |r |r |r |r |r |r |r |r |r |r |r |r |r |r |r |r<;>first
   |exact absurd r h5
   | (rw[r]at g1 g2
      simp[oP]at g2
      simp[vI,r,lT,Ref15.parts,Bool.cond_false_right]at g1 ⊢
      simp_all)
theorem z6x{b:Nat}(hb:b<=p.stmts.length):∀x:Ex,∀most:Int,bI p b x=(x,true)->wfX p b x=true->(Ref15.nodes x:Int)<=most->sD p x most=Ref15.nodes x:=by
 refine Ex.ind λx ih most hx hw hn=>?_
 have hN:=Ref15.nodes_eq x
 rw[vJ,MK hb hx hw,decide_eq_false (by omega)]
 have hL:∀(l:List Ex),(∀z∈l,z∈x.l)->∀n:Int,1<=n->n+Ref15.nodesL l<=most->lU p l most n=n+Ref15.nodesL l:=by
  intro l
  induction l with
  |nil=>grind[lU,Ref15.nodesL]
  |cons z r ihr=>
   intro hl n h1 h2
   simp[Ref15.nodesL]at h2 ⊢
   have hz:=ih z (hl z (by simp)) (most-n) (y8 hw hx (hl z (by simp))) (eQ (aV hw).2.2 z (hl z (by simp))) (by omega)
   rw[lU,ihr (λw hw=>hl w (by simp[hw])) _ (by omega) (by omega)]
   omega
 simp_all
theorem Zh{b:Nat}(hb:b<=p.stmts.length)(hx:bI p b x=(x,true))(hw:wfX p b x=true)(hn:Ref15.nodes x<=512):Gf p x=true:=by
 rw[<-MB,z6x hb x 512 hx hw (by omega)]
 grind[Ref15.nodes_eq]
theorem Gj:∀(r:List Sm) (i:Nat) (out:Bool),di p r i out = .ok r->∀(j:Nat) (s:Sm),r[j]? = some s->bI p (i+j) s.x=(s.x,true)
 | [],_,_,_,j,s,h=>by simp at h
 |t::r,i,out,h,j,s,hj=>by
  rw[di]at h
  split at h<;>try(cases h)
  split at h<;>try(cases h)
  split at h<;>try(cases h)
  cases hr:di p r (i+1) (t.kind==4)with
  |error e=>simp_all
  |ok l=>
   rw[hr]at h
   simp at h
   cases j with
   |zero=>
    grind
   |succ j=>
    have:=Gj r (i+1) _ (by rw[hr,h.2]) j s hj
    grind
theorem V3:∀x:Ex,wfX p n x=true->bI p n x=(x,true)->∀y∈aA x,bI p n y=(y,true):=by
 refine Ex.ind λx ih=>?_
 intro h hr y hy
 rw[iM]at hy
 rcases List.mem_cons.1 hy with rfl |hy
 ·exact hr
 ·obtain⟨z,hz,hy⟩:=kY.1 hy
  exact ih z hz (eQ (aV h).2.2 z hz) (y8 h hr hz) y hy
theorem Bl:∀x:Ex,∀y∈aA x,Ref15.nodes y<=Ref15.nodes x:=by
 refine Ex.ind λx ih=>?_
 intro y hy
 rw[iM]at hy
 rcases List.mem_cons.1 hy with rfl |hy
 ·omega
 ·obtain⟨z,hz,hy⟩:=kY.1 hy
  have:=lN hz
  grind[Ref15.nodes_eq]
theorem Jj{F G:List Sp}(hF:∀j,j<n->F.getD j (0,0)=G.getD j (0,0)):∀x:Ex,wfX p n x=true->dE p F x=dE p G x:=by
 refine Ex.ind λx ih=>?_
 intro hw
 obtain⟨g1,g2,g3⟩:=aV hw
 have hL:∀l:List Ex,(∀z∈l,z∈x.l)->dm p F l=dm p G l:=by
  intro l
  induction l with
  |nil=>intro _;rfl
  |cons z r ihr=>
   grind[dm,eQ]
 rw[iD,iD,hL x.l λ_ h=>h]
 cases dm p G x.l with
 |error e=>rfl
 |ok l=>
  by_cases h5:(x.kind==5)=true
  ·have h0:=Ea g2 h5
   grind[opM]
  ·simp[opM,h5]
theorem Eh{F:List Sp}:∀(x:Ex) (s:Sp),dE p F x = .ok s->∀y∈aA x,∃t,dE p F y = .ok t:=by
 refine Ex.ind λx ih=>?_
 intro s h y hy
 rw[iM]at hy
 rcases List.mem_cons.1 hy with rfl |hy<;>grind[kY,iD,Eb]
theorem drop_at{α:Type}{l:List α}{i:Nat}{a:α}(h:l[i]? = some a):∃r,l.drop i=a::r:=by
 exact⟨l.drop (i+1),by grind[List.drop_eq_getElem_cons]⟩
theorem ML(h:looks x=true):x.kind=6\/x.kind=7:=by
 unfold looks at h
 simp_all
theorem look_ok{F:List Sp}(h:BOk p F){i:Nat}(hi:i<p.stmts.length)(hx:x∈aA (bH p i))(hk:looks x=true):x.l.length=1/\∃s,gK p (x.l.getD 0 Ex.none) = .ok s/\Gf p (x.l.getD 0 Ex.none)=true/\dE p F (x.l.getD 0 Ex.none) = .ok s/\0<=s.2/\s.2<=4096:=by
 obtain⟨st,hs⟩:=qE hi
 rw[y7 hs]at hx
 obtain⟨r,hr⟩:=drop_at hs
 have a:=Rn h hr
 have hw:wfX p i st.x=true:=by have:=a.wf;simp only[wfS,Bool.and_eq_true]at this;exact this.1
 have hwx:=Gh st.x hw x hx
 obtain⟨g1,g2,g3⟩:=aV hwx
 obtain⟨t,ht⟩:=Eh st.x _ a.run x hx
 have hlen:x.l.length=1:=by
  grind[ML,Ref15.parts]
 obtain⟨y,hy⟩:∃y,x.l = [y]:=by
  cases hxl:x.l with
  |nil=>simp_all
  |cons y r=>simp_all
 have hwy:wfX p i y=true:=eQ g3 y (by simp_all)
 have hry:=y8 hwx (V3 st.x hw (by have:=Gj p.stmts 0 false h.res.ru i st hs;simp_all) x hx) (show y∈x.l by simp_all)
 have hn:Ref15.nodes st.x<=512:=by
  have:=h.res.li
  rw[limited_eq]at this
  simp only[Bool.and_eq_true]at this
  have:=List.all_eq_true.1 this.2.2.2.1 st (List.mem_of_getElem? hs)
  grind[Au,Bool.not_eq_true',decide_eq_false_iff_not]
 have hny:Ref15.nodes y<=512:=by
  have h1:=Bl st.x x hx
  have h2:=lN (l:=x.l) (y:=y) (by simp_all)
  grind[Ref15.nodes_eq]
 have hfit:=Zh (Nat.le_of_lt hi) hry hwy hny
 rw[iD,hy,dm]at ht
 have hgd:x.l.getD 0 Ex.none=y:=by rw[hy];rfl
 rw[hgd]
 cases hfy:dE p (F.take i) y with
 |error e=>simp_all
 |ok s=>
  rw[hfy,dm]at ht
  simp only at ht
  have hFy:dE p F y = .ok s:=by
   rw[<-hfy]
   refine(Jj (n:=i) (λj hj=>?_) y hwy).symm
   rw[List.getD_eq_getElem?_getD,List.getD_eq_getElem?_getD,List.getElem?_take_of_lt hj]
  have hord:=Je h.res.rng h.fok.sub (found:=F) (x:=y) (s:=s) (by
   have:∀(m n:Nat),m<=n->∀x:Ex,wfX p m x=true->wfX p n x=true:=by
    intro m n hmn
    refine Ex.ind λx ih=>?_
    intro hw
    rw[OU]at hw ⊢
    simp only[Bool.and_eq_true]at hw ⊢
    refine⟨⟨hw.1.1,?_⟩,Vw λz hz=>ih z hz (eQ hw.2 z hz)⟩
    have:=hw.1.2
    unfold oP at this ⊢
    grind
   refine this i F.length ?_ y hwy
   rw[h.len];omega) hFy
  have hah:aheadM s = .ok t:=by
   grind[ML,opM]
  unfold aheadM at hah
  split at hah
  ·cases hah
  ·rename_i hq
   have hb:=qU (O5 h.res) h.run
   grind[VF]
variable [af] {r0 : List Ex} {x x0 : Ex} {P : Nat → Ex → Prop} {i k m : Nat}
theorem Ei:∀(l m:List Ex),dP (l++m)=dP l++dP m
 | [],m=>rfl
 |y::r,m=>by rw[List.cons_append,dP,dP,Ei r m,List.append_assoc]
theorem Zi{α:Type}{l r0:List α}{k:Nat}{x0:α}(hd:l.drop k=x0::r0):l=l.take k++x0::r0:=by
 grind[List.take_append_drop]
theorem y9{k m:Nat}(hd:x.l.drop k=x0::r0)(hm:m=1+(dP (x.l.take k)).length){j:Nat}{y:Ex}(h:(aA x0)[j]? = some y):(aA x)[m+j]? = some y:=by
 rw[iM,Zi hd,Ei,dP,hm]
 grind
theorem Ro{k m:Nat}(hd:x.l.drop k=x0::r0)(hm:m=1+(dP (x.l.take k)).length):m+(aA x0).length=1+(dP (x.l.take (k+1))).length:=by
 grind[Bi]
theorem V4{x:Ex}{k m:Nat}(hd:x.l.drop k = [])(hm:m=1+(dP (x.l.take k)).length):m=(aA x).length:=by
 grind[List.take_of_length_le,List.drop_eq_nil_iff,iM]
theorem zce(hd:x.l.drop k=x0::r0)(hm:m=i+(1+(dP (x.l.take k)).length))(h:∀j y,(aA x)[j]? = some y->P (i+j) y):∀j y,(aA x0)[j]? = some y->P (m+j) y:=by
 intro j y hj
 rw[hm,Nat.add_assoc]
 exact h _ _ (y9 hd rfl hj)
theorem Pz(hd:x.l.drop k=x0::r0)(hm:m=i+(1+(dP (x.l.take k)).length)):m+(aA x0).length=i+(1+(dP (x.l.take (k+1))).length):=by
 rw[hm,Nat.add_assoc,Ro hd rfl]
theorem V5{x:Ex}(hd:x.l.drop k = [])(hm:m=i+(1+(dP (x.l.take k)).length)):m=i+(aA x).length:=by
 rw[hm,V4 hd rfl]
theorem zcf{i k m q:Nat}(hd:x.l.drop k=x0::r0)(hm:m=i+(1+(dP (x.l.take k)).length))(hq:m<=i+q):(m+(aA x0).length<=i+q)\/(∃t,q=(m-i)+t/\t<(aA x0).length):=by
 rcases Nat.lt_or_ge (i+q) (m+(aA x0).length)with h |h
 ·exact .inr ⟨q-(m-i),by omega,by omega⟩
 ·exact .inl h
theorem z6y{i k m q:Nat}(hd:x.l.drop k=x0::r0)(hm:m=i+(1+(dP (x.l.take k)).length))(h:∀j y,j<q->(aA x)[j]? = some y->P (i+j) y)(hq:m+(aA x0).length<=i+q):∀j y,(aA x0)[j]? = some y->P (m+j) y:=by
 intro j y hj
 have:=(List.getElem?_eq_some_iff.1 hj).1
 rw[hm,Nat.add_assoc]
 exact h _ _ (by omega) (y9 hd rfl hj)
theorem z6z{i k m q t:Nat}(hd:x.l.drop k=x0::r0)(hm:m=i+(1+(dP (x.l.take k)).length))(h:∀j y,j<q->(aA x)[j]? = some y->P (i+j) y)(hq:q=(m-i)+t):∀j y,j<t->(aA x0)[j]? = some y->P (m+j) y:=by
 intro j y hj hy
 rw[hm,Nat.add_assoc]
 exact h _ _ (by omega) (y9 hd rfl hy)
theorem zcg{i k m q t:Nat}(hd:x.l.drop k=x0::r0)(hm:m=i+(1+(dP (x.l.take k)).length))(h:∀y,(aA x)[q]? = some y->P (i+q) y)(hq:q=(m-i)+t):∀y,(aA x0)[t]? = some y->P (m+t) y:=by
 intro y hy
 have e:m+t=i+q:=by omega
 have:=y9 hd (m:=1+(dP (x.l.take k)).length) rfl hy
 simp_all
theorem MM(x:Ex):(aA x)[0]? = some x:=by rw[iM];rfl
end Go.Fw.Tl
namespace Go.Fw
theorem V6[af]{T:Tbl}{ops:Array Oper}{env:Env}{K:Heap}{tr:List Rec}{kp:Nat}{q:Prop}(l:List (Nat×Nat))(h0:Kt kp l=false)(h:chk T ops env K (rC l 0 tr)=true)(h2:yj T K tr l)(hq:q):NP T ops env K tr kp/\q:=⟨⟨l,h0,h,h2⟩,hq⟩
theorem BrI.ff_of[af]{c:Bool}{p q:Prop}(h:c=false)(hq:q):BrI c p q:=by subst h;exact .ff hq
theorem BrI.tt_of[af]{c:Bool}{p q:Prop}(h:c=true)(hp:p):BrI c p q:=by subst h;exact .tt hp
end Go.Fw
namespace Go.Fw.Tl
open Go.Fw Go.Fw.Ref15 Go.Fw.Rg
variable [af] {f : D → Prop}
theorem z2f{a b:Int}{S:List (Key×Int)}{M:List (D×D)}{g:Prop}(hM:M=S.map kkD)(h1:∀n,lkK (a,b) S=some n->f (.i n))(h2:lkK (a,b) S=none->g):uj (pG (.agg [.i a,.i b]) M) f g:=by
 have e:=VP (a,b) S
 cases hk:lkK (a,b) S with
 |none=>grind[Nam.opt_none]
 |some n=>grind[Nam.opt_some]
theorem PD{k:Int}{S:List (Int×Int)}{M:List (D×D)}{g:Prop}(hM:M=S.map iiD)(h1:∀n,lkA k S=some n->f (.i n))(h2:lkA k S=none->g):uj (pG (.i k) M) f g:=by
 have e:=VR k S
 cases hk:lkA k S with
 |none=>grind[Nam.opt_none]
 |some n=>grind[Nam.opt_some]
theorem z2g{k:Int}{S:List (Int×Bool)}{M:List (D×D)}{g:Prop}(hM:M=S.map ibD)(h1:∀n,lkA k S=some n->f (.b n))(h2:lkA k S=none->g):uj (pG (.i k) M) f g:=by
 have e:=VS k S
 cases hk:lkA k S with
 |none=>grind[Nam.opt_none]
 |some n=>grind[Nam.opt_some]
section
variable {p : Pr} {S : List (Key × Int)} {age : AS → Int → AR} {i : Int} {x : Ex} {s s' : AS} {v b : Int} {r : AR}
theorem z2h(h5:(x.kind==5)=true)(h:tX p S age i x s=r):age s x.index=r:=by rwa[tX,if_pos h5]at h
theorem z2i(h5:(x.kind==5)=false)(h4:(x.kind==4)=true)(hb:lkK (2,x.index) S=some b)(hl:decide (b<i)=true)(h:tX p S age i x s=r):age s b=r:=by
 rw[tX]at h
 simp_all
theorem z2j(h5:(x.kind==5)=false)(h4:(x.kind==4)=true)(hb:lkK (2,x.index) S=some b)(hl:decide (b<i)=false)(h:tX p S age i x s=r):(age s b).add 1=r:=by
 rw[tX]at h
 grind
theorem z2k(h5:(x.kind==5)=false)(h4:(x.kind==4)=true)(hb:lkK (2,x.index) S=none)(h:tX p S age i x s=r):.ok 0 s=r:=by
 rwa[tX,h5,if_neg (by decide),if_pos h4,hb]at h
theorem z2l(h5:(x.kind==5)=false)(h4:(x.kind==4)=false)(h8:(x.kind==8)=true)(hb:lkK (3,x.index) S=some b)(hr:r ≠ .out)(h:tX p S age i x s=r):(age s b).add (bZ p x.index).size=r/\0<=x.index/\x.index<p.lines.length:=by
 rw[tX]at h
 grind
theorem z2m(h5:(x.kind==5)=false)(h4:(x.kind==4)=false)(h8:(x.kind==8)=true)(hb:lkK (3,x.index) S=none)(h:tX p S age i x s=r):.ok 0 s=r:=by
 rwa[tX,h5,if_neg (by decide),h4,if_neg (by decide),if_pos h8,hb]at h
theorem z2o(h5:(x.kind==5)=false)(h4:(x.kind==4)=false)(h8:(x.kind==8)=false)(h:tX p S age i x s=r):.ok 0 s=r:=by
 rwa[tX,h5,if_neg (by decide),h4,if_neg (by decide),h8,if_neg (by decide)]at h
theorem PE{a:AR}{w:Int}(h:a.add w = .ok v s'):∃u,a = .ok u s'/\v=IntKind.i64.wrap (u+w):=by
 cases a with
 |ok u t=>cases h;simp
 |pan t=>cases h
 |out=>cases h
theorem V7{a:AR}{w:Int}{t:AS}(h:a.add w = .pan t):a = .pan t:=by
 cases a with
 |ok u t=>cases h
 |pan t=>cases h;rfl
 |out=>cases h
theorem Jk{s t:AS}{v:Int}(h:AR.ok v s = .pan t):False:=by cases h
theorem IX{s:AS}{v:Int}:AR.ok v s ≠ .out:=by intro h;cases h
theorem zch{s:AS}:AR.pan s ≠ .out:=by intro h;cases h
theorem V8{s:AS}(h:AR.ok 0 s = .ok v s'):v=0/\s'=s:=by simp_all
end
theorem V9{p:Pr}{n:Int}(h:0<=n/\n<p.lines.length):0<=n/\(p.lines.map Ln.cs)[n.toNat]? = some (Ln.cs (bZ p n)):=by
 simp_all
variable [af] {own : Ex → AS → AR}
def atA(own:Ex->AS->AR)(l:List Ex)(s:AS)(m:Int)(j:Nat):Int×AS:=match tY own (l.take j) s m with
 | .ok v t=>(v,t)
 |_=>(0,⟨[],[]⟩)
theorem Zj(own:Ex->AS->AR)(l:List Ex)(s:AS)(m:Int):atA own l s m 0=(m,s):=rfl
theorem jX{x:Ex}{r:List Ex}{s s1:AS}{m w:Int}(h:own x s = .ok w s1)(j:Nat):atA own (x::r) s m (j+1)=atA own r s1 (mm2 true m w) j:=by
 simp[atA,tY,h]
def z7a(own:Ex->AS->AR)(l:List Ex)(s:AS)(m:Int)(j:Nat):Prop:=∃w,own (l.getD j Ex.none) (atA own l s m j).2 = .ok w (atA own l s m (j+1)).2/\(atA own l s m (j+1)).1=mm2 true (atA own l s m j).1 w
theorem fold_at:∀(l:List Ex) (s:AS) (m v:Int) (t:AS),tY own l s m = .ok v t->(∀j,j<l.length->z7a own l s m j)/\atA own l s m l.length=(v,t)
 | [],s,m,v,t,h=>by cases h;exact⟨λj hj=>absurd hj (Nat.not_lt_zero _),rfl⟩
 |x::r,s,m,v,t,h=>by
  rw[tY]at h
  cases hx:own x s with
  |ok w s1=>
   rw[hx]at h
   obtain⟨h1,h2⟩:=fold_at r s1 _ v t h
   refine⟨λj hj=>?_,by grind[jX]⟩
   cases j with
   |zero=>exact⟨w,by rw[jX hx];exact hx,by rw[jX hx,Zj,Zj]⟩
   |succ j=>
    obtain⟨w2,a1,a2⟩:=h1 j (by simpa using hj)
    exact⟨w2,by grind[jX],by grind[jX]⟩
  |pan u=>simp_all
  |out=>simp_all
theorem PG:∀(l:List Ex) (s:AS) (m:Int) (t:AS),tY own l s m = .pan t->∃k,k<l.length/\(∀j,j<k->z7a own l s m j)/\own (l.getD k Ex.none) (atA own l s m k).2 = .pan t
 | [],s,m,t,h=>by cases h
 |x::r,s,m,t,h=>by
  rw[tY]at h
  cases hx:own x s with
  |ok w s1=>
   rw[hx]at h
   obtain⟨k,h0,h1,h2⟩:=PG r s1 _ t h
   refine⟨k+1,by simpa using h0,λj hj=>?_,by grind[jX]⟩
   cases j with
   |zero=>exact⟨w,by rw[jX hx];exact hx,by rw[jX hx,Zj,Zj]⟩
   |succ j=>
    obtain⟨w2,a1,a2⟩:=h1 j (by omega)
    exact⟨w2,by grind[jX],by grind[jX]⟩
  |pan u=>rw[hx]at h;cases h;exact⟨0,by simp,λj hj=>absurd hj (Nat.not_lt_zero _),hx⟩
  |out=>simp_all
def l9(p:Pr)(S:List (Key×Int))(f:Nat)(s:AS)(i:Int)(j:Nat):Int×AS:=atA (tX p S (qW p S f) i) (aA (bH p i)) ⟨s.ages,lW i true s.opn⟩ 0 j
def PH(p:Pr)(S:List (Key×Int))(f:Nat)(s:AS)(i:Int)(j:Nat):Prop:=z7a (tX p S (qW p S f) i) (aA (bH p i)) ⟨s.ages,lW i true s.opn⟩ 0 j
theorem PH.ok{p:Pr}{S:List (Key×Int)}{f:Nat}{s:AS}{i:Int}{j:Nat}(h:PH p S f s i j):∃w,tX p S (qW p S f) i ((aA (bH p i)).getD j Ex.none) (l9 p S f s i j).2 = .ok w (l9 p S f s i (j+1)).2/\(l9 p S f s i (j+1)).1=mm2 true (l9 p S f s i j).1 w:=h
section
variable {p : Pr} {S : List (Key × Int)} {f : Nat} {s s' : AS} {i v n : Int} {b : Bool} {r : AR}
theorem z2p(hb:lkA i s.opn=some b)(h:b=true)(hh:qW p S (f+1) s i=r):.pan s=r:=by
 subst h
 have ho:jE s i=true:=by rw[jE,hb]
 rwa[qW,if_pos ho]at hh
theorem z2q(hb:lkA i s.opn=some b)(h:b=false):jE s i=false:=by rw[jE,hb,h]
theorem z2r(hb:lkA i s.opn=none):jE s i=false:=by rw[jE,hb]
theorem PK(ho:jE s i=false)(ha:lkA i s.ages=some n)(hh:qW p S (f+1) s i=r):.ok n s=r:=by rwa[qW,ho,if_neg (by decide),ha]at hh
theorem z7b{s t:AS}{a b:Int}(h:AR.ok a s = .ok b t):b=a/\t=s:=by simp_all
theorem zci(ho:jE s i=false)(ha:lkA i s.ages=none)(hh:qW p S (f+1) s i = .ok v s'):(0<=i/\i<p.stmts.length)/\(∀j,j<(aA (bH p i)).length->PH p S f s i j)/\v=(l9 p S f s i (aA (bH p i)).length).1/\s'=⟨lW i (l9 p S f s i (aA (bH p i)).length).1 (l9 p S f s i (aA (bH p i)).length).2.ages,lW i false (l9 p S f s i (aA (bH p i)).length).2.opn⟩:=by
 rw[qW,ho,if_neg (by decide),ha]at hh
 simp only at hh
 split at hh<;>try(cases hh)
 rename_i q
 simp at q
 cases hf:tY (tX p S (qW p S f) i) (aA (bH p i)) ⟨s.ages,lW i true s.opn⟩ 0 with
 |ok m t=>
  rw[hf]at hh
  cases hh
  obtain⟨h1,h2⟩:=fold_at _ _ _ _ _ hf
  have h2:l9 p S f s i (aA (bH p i)).length=(v,t):=h2
  exact⟨q,h1,by rw[h2],by rw[h2]⟩
 |pan t=>simp_all
 |out=>simp_all
theorem z7c(ho:jE s i=false)(ha:lkA i s.ages=none)(hh:qW p S (f+1) s i = .pan s'):(0<=i/\i<p.stmts.length)/\∃k,k<(aA (bH p i)).length/\(∀j,j<k->PH p S f s i j)/\tX p S (qW p S f) i ((aA (bH p i)).getD k Ex.none) (l9 p S f s i k).2 = .pan s':=by
 rw[qW,ho,if_neg (by decide),ha]at hh
 simp only at hh
 split at hh<;>try(cases hh)
 rename_i q
 simp at q
 cases hf:tY (tX p S (qW p S f) i) (aA (bH p i)) ⟨s.ages,lW i true s.opn⟩ 0 with
 |ok m t=>simp_all
 |pan t=>
  rw[hf]at hh
  cases hh
  exact⟨q,PG _ _ _ _ hf⟩
 |out=>simp_all
end
theorem z2s{p:Pr}{n:Int}(h:0<=n/\n<p.stmts.length):0<=n/\(p.stmts.map Sm.cs)[n.toNat]? = some (Sm.cs (p.stmts.getD n.toNat Sm.none)):=by
 simp_all
theorem MN{P:Nat->D->Prop}{x:Ex}{n:Nat}(h:∀j,j<n->P j ((aA x).getD j Ex.none).d):∀j y,j<n->(aA x)[j]? = some y->P (0+j) y.d:=by
 grind
end Go.Fw.Tl
