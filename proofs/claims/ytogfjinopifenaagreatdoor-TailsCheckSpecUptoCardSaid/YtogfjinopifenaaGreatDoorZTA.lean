/- Ages in a graph of statements: what they are, that they are determined, how great they are. -/
import Derived.Test.YtogfjinopifenaaGreatDoorZTD1
set_option linter.unusedSectionVars false
set_option linter.unusedSimpArgs false
set_option linter.unusedVariables false
namespace Go.Fw.Tl
open Go.Fw Go.Fw.Ref15 Go.Fw.Rg
variable [GlobInt]
abbrev Graph:=Nat->List (Nat×Int)
def maxD(val:Nat->Int):List (Nat×Int)->Int->Int
 | [],m=>m
 |q::r,m=>maxD val r (mm2 true m (val q.1+q.2))
theorem mm2_max(a b:Int):a<=mm2 true a b/\b<=mm2 true a b/\(mm2 true a b=a\/mm2 true a b=b):=by
 grind[mm2]
theorem maxD_ge(val:Nat->Int):∀(l:List (Nat×Int)) (m:Int),m<=maxD val l m
 | [],m=>Int.le_refl _
 |q::r,m=>Int.le_trans (mm2_max m _).1 (maxD_ge val r _)
theorem maxD_le{val:Nat->Int}:∀{l:List (Nat×Int)} {m b:Int},m<=b->(∀q∈l,val q.1+q.2<=b)->maxD val l m<=b
 | [],m,b,h,_=>h
 |q::r,m,b,h,h2=>by
  refine maxD_le (l:=r) ?_ (λt ht=>h2 t (List.mem_cons_of_mem _ ht))
  have:=h2 q List.mem_cons_self
  rcases(mm2_max m (val q.1+q.2)).2.2 with e |e<;>rw[e]<;>omega
theorem maxD_or(val:Nat->Int):∀(l:List (Nat×Int)) (m:Int),maxD val l m=m\/∃q∈l,maxD val l m=val q.1+q.2
 | [],m=>.inl rfl
 |q::r,m=>by
  rcases maxD_or val r (mm2 true m (val q.1+q.2))with h |⟨t,ht,h⟩
  ·rcases(mm2_max m (val q.1+q.2)).2.2 with e |e<;>grind[maxD]
  grind[maxD]
theorem maxD_congr{val val':Nat->Int}:∀{l:List (Nat×Int)} {m:Int},(∀q∈l,val q.1=val' q.1)->maxD val l m=maxD val' l m
 | [],_,_=>rfl
 |q::r,m,h=>by
  rw[maxD,h q List.mem_cons_self]
  exact maxD_congr (l:=r) λt ht=>h t (List.mem_cons_of_mem _ ht)
inductive Age(dep:Graph):Nat->Int->Prop
 |mk (i:Nat) (val:Nat->Int) (h:∀q∈dep i,Age dep q.1 (val q.1)):Age dep i (maxD val (dep i) 0)
theorem Age.inv{dep:Graph}{i:Nat}{v:Int}(h:Age dep i v):∃val:Nat->Int,(∀q∈dep i,Age dep q.1 (val q.1))/\v=maxD val (dep i) 0:=by
 cases h with |mk _ val h=>grind
theorem Age.unique{dep:Graph}{i:Nat}{v:Int}(h:Age dep i v):∀{w:Int},Age dep i w->v=w:=by
 induction h with
 |mk i val h ih=>
  intro w h2
  obtain⟨val',h3,rfl⟩:=h2.inv
  exact maxD_congr λq hq=>ih q hq (h3 q hq)
theorem Age.nonneg{dep:Graph}{i:Nat}{v:Int}(h:Age dep i v):0<=v:=by
 obtain⟨val,_,rfl⟩:=h.inv;exact maxD_ge val _ 0
inductive Rc(dep:Graph):Nat->Nat->Prop
 |one {i:Nat} {q:Nat×Int} (h:q∈dep i):Rc dep i q.1
 |step {i k:Nat} {q:Nat×Int} (h:q∈dep i) (h2:Rc dep q.1 k):Rc dep i k
variable {dep : Graph} {wt : Nat → Int}
theorem Rc.trans{i k m:Nat}(h:Rc dep i k)(h2:Rc dep k m):Rc dep i m:=by
 induction h with
 |one h=>exact .step h h2
 |step h _ ih=>grind[step]
theorem Rc.snoc{i k:Nat}(h:Rc dep i k){q:Nat×Int}(hq:q∈dep k):Rc dep i q.1:=h.trans (.one hq)
theorem Age.irr{i:Nat}{v:Int}(h:Age dep i v):¬Rc dep i i:=by
 induction h with
 |mk i val h ih=>
  intro hr
  cases hr with
  |one hq=>exact ih _ hq (.one hq)
  |step hq h2=>exact ih _ hq (h2.trans (.one hq))
theorem Age.down{i k:Nat}(hr:Rc dep i k):∀{v:Int},Age dep i v->∃w,Age dep k w:=by
 induction hr with
 |one hq=>intro v h;obtain⟨val,h,_⟩:=h.inv;grind
 |step hq _ ih=>intro v h;obtain⟨val,h,_⟩:=h.inv;grind
def sumW(wt:Nat->Int)(l:List Nat):Int:=(l.map wt).foldr (· + ·) 0
theorem sumW_cons(wt:Nat->Int)(k:Nat)(l:List Nat):sumW wt (k::l)=wt k+sumW wt l:=rfl
theorem Age.path(hw:∀i,∀q∈dep i,q.2<=wt q.1){i:Nat}{v:Int}(h:Age dep i v):∃l:List Nat,l.Nodup/\(∀k∈l,Rc dep i k)/\v<=sumW wt l:=by
 induction h with
 |mk i val h ih=>
  rcases maxD_or val (dep i) 0 with e |⟨q,hq,e⟩
  ·exact⟨[],List.nodup_nil,λk hk=>by simp at hk,by rw[e];exact Int.le_refl _⟩
  ·obtain⟨l,hn,hr,hv⟩:=ih q hq
   refine⟨q.1::l,List.nodup_cons.2 ⟨λhm=>(h q hq).irr (hr _ hm),hn⟩,λk hk=>?_,?_⟩
   ·rcases List.mem_cons.1 hk with rfl |hk<;>try exact .one hq
    exact .step hq (hr k hk)
   grind[sumW_cons]
theorem sumW_filter(wt:Nat->Int)(f:Nat->Bool):∀l:List Nat,sumW wt l=sumW wt (l.filter f)+sumW wt (l.filter λk=>!f k)
 | []=>rfl
 |k::r=>by
  rw[sumW_cons,sumW_filter wt f r]
  cases h:f k<;>simp[h,sumW_cons]<;>omega
theorem sumW_nil_of{wt:Nat->Int}{m:Nat}:∀{l:List Nat},l.Nodup->(∀k∈l,k=m)->l = []\/l = [m]
 | [],_,_=>.inl rfl
 | [k],_,h=>.inr (by simp_all)
 |k::k'::r,hn,h=>by
  simp_all
theorem sumW_range(h0:∀k,0<=wt k):∀(m:Nat) {l:List Nat},l.Nodup->(∀k∈l,k<m)->sumW wt l<=sumW wt (List.range m)
 | 0,l,_,h=>by
  cases l with
  |nil=>simp
  |cons k r=>exact absurd (h k List.mem_cons_self) (Nat.not_lt_zero _)
 |m+1,l,hn,h=>by
  have h1:=sumW_range h0 m (l:=l.filter λk=>decide (k<m)) (hn.filter _) (λk hk=>of_decide_eq_true (List.mem_filter.1 hk).2)
  have h2:sumW wt (l.filter λk=>!decide (k<m))<=wt m:=by
   rcases sumW_nil_of (wt:=wt) (m:=m) (hn.filter _) (l:=l.filter λk=>!decide (k<m)) (λk hk=>by
    grind)with e |e
   ·rw[e];exact h0 m
   ·rw[e];show wt m+0<=wt m;omega
  have h3:sumW wt (List.range (m+1))=sumW wt (List.range m)+wt m:=by
   rw[List.range_succ]
   generalize List.range m=q
   induction q with
   |nil=>simp[sumW]
   |cons a r ih=>rw[List.cons_append,sumW_cons,sumW_cons];omega
  grind[sumW_filter]
def opnC(n:Nat)(s:AS):Nat:=(List.range n).countP λk:Nat=>!isOpn s (k:Int)
theorem lkA_put{α:Type}{k j:Int}{v:α}:∀{l:List (Int×α)},lkA j (putA k v l)=if j==k then some v else lkA j l
 | []=>by rfl
 |(a,w)::r=>by
  simp only[putA]
  by_cases h:(k==a)=true
  ·have h:=eq_of_beq h
   subst h
   simp[lkA]
   split<;>rfl
  ·simp[h,lkA,lkA_put (l:=r)]
   grind
theorem isOpn_put(a:List (Int×Int))(o:List (Int×Bool))(k j:Int)(b:Bool):isOpn ⟨a,putA k b o⟩ j=if j==k then b else isOpn ⟨a,o⟩ j:=by
 simp[isOpn,lkA_put]
 grind
def depX(p:Pr)(S:List (Key×Int))(i:Nat)(x:Ex):Option (Nat×Int):=
 if x.kind==5 then some (x.index.toNat,0)
 else if x.kind==4 then match lkK (2,x.index) S with
  |some b=>some (b.toNat,if b<(i:Int)then 0 else 1)
  |none=>none
 else if x.kind==8 then match lkK (3,x.index) S with
  |some b=>some (b.toNat,(lineAt p x.index).size)
  |none=>none
 else none
def depG(p:Pr):Graph:=λi=>(partsX (stmtX p i)).filterMap (depX p (settersM p) i)
structure GOk(p:Pr):Prop where
 len:p.stmts.length<=1048576
 idx:∀i,i<p.stmts.length->∀x∈partsX (stmtX p i),(x.kind==5)=true->0<=x.index/\x.index<p.stmts.length
 set:∀k b,lkK k (settersM p)=some b->0<=b/\b<p.stmts.length
 siz:∀i,i<p.stmts.length->∀x∈partsX (stmtX p i),(x.kind==8)=true->(0<=(lineAt p x.index).size/\(lineAt p x.index).size<=65536)/\(decide (0<=x.index)&&decide (x.index<p.lines.length))=true
 bnd:∀i v,Age (depG p) i v->v<=4611686018427387904
theorem dep_lt{p:Pr}(g:GOk p){i:Nat}(hi:i<p.stmts.length){x:Ex}(hx:x∈partsX (stmtX p i)){q:Nat×Int}(h:depX p (settersM p) i x=some q):q.1<p.stmts.length:=by
 unfold depX at h
 split at h<;>try(rename_i h5;cases h;have:=g.idx i hi x hx h5;omega)
 split at h
 ·split at h
  ·rename_i b hb;cases h;have:=g.set _ _ hb;omega
  ·cases h
 ·split at h
  ·split at h
   ·rename_i b hb;cases h;have:=g.set _ _ hb;omega
   ·cases h
  ·cases h
theorem own_none{p:Pr}{i:Nat}{x:Ex}{s:AS}{age:AS->Int->AR}(h:depX p (settersM p) i x=none):ownM p (settersM p) age i x s = .ok 0 s:=by
 unfold depX at h;unfold ownM
 grind
theorem own_ok{p:Pr}(g:GOk p){i:Nat}(hi:i<p.stmts.length){x:Ex}(hx:x∈partsX (stmtX p i)){q:Nat×Int}{s s':AS}{age:AS->Int->AR}{v:Int}(h:depX p (settersM p) i x=some q)(ha:age s q.1 = .ok v s')(hv:Age (depG p) q.1 v):ownM p (settersM p) age i x s = .ok (v+q.2) s':=by
 have h0:=hv.nonneg
 have h1:=g.bnd _ _ hv
 have hw:∀w:Int,0<=w->w<=65536->IntKind.i64.wrap (v+w)=v+w:=λw h2 h3=>wrap_ok (by omega) (by omega)
 unfold depX at h;unfold ownM
 split at h
 ·rename_i h5
  cases h
  have:=g.idx i hi x hx h5
  grind
 ·rename_i h5
  rw[if_neg h5]
  split at h
  ·rename_i h4
   split at h
   ·rename_i b e
    cases h
    have:=g.set _ _ e
    rw[Int.toNat_of_nonneg this.1]at ha
    by_cases hb:b<(i:Int)
    ·simp_all
    ·grind[AR.add]
   ·cases h
  ·rename_i h4
   rw[if_neg h4]
   split at h
   ·rename_i h8
    split at h
    ·rename_i b e
     cases h
     have:=g.set _ _ e
     have hs:=g.siz i hi x hx h8
     grind[AR.add]
    ·cases h
   ·cases h
theorem own_pan{p:Pr}(g:GOk p){i:Nat}(hi:i<p.stmts.length){x:Ex}(hx:x∈partsX (stmtX p i)){q:Nat×Int}{s:AS}{age:AS->Int->AR}{t:AS}(h:depX p (settersM p) i x=some q)(ha:age s q.1 = .pan t):ownM p (settersM p) age i x s = .pan t:=by
 unfold depX at h;unfold ownM
 split at h
 ·rename_i h5
  have:=g.idx i hi x hx h5
  grind
 ·rename_i h5
  rw[if_neg h5]
  split at h
  ·rename_i h4
   rw[if_pos h4]
   split at h<;>try(cases h;done)
   rename_i b e
   cases h
   have:=g.set _ _ e
   rw[Int.toNat_of_nonneg this.1]at ha
   simp only[e]
   split<;>rw[ha]<;>rfl
  ·rename_i h4
   rw[if_neg h4]
   split at h<;>try(cases h;done)
   rename_i h8
   rw[if_pos h8]
   split at h<;>try(cases h;done)
   rename_i b e
   cases h
   have:=g.set _ _ e
   rw[Int.toNat_of_nonneg this.1]at ha
   simp[e,(g.siz i hi x hx h8).2]
   rw[ha];rfl
open Classical in
noncomputable def vOf(dep:Graph)(k:Nat):Int:=if h:∃v,Age dep k v then h.choose else 0
theorem vOf_eq{dep:Graph}{k:Nat}{v:Int}(h:Age dep k v):vOf dep k=v:=by
 have he:∃v,Age dep k v:=⟨v,h⟩
 rw[vOf,dif_pos he]
 exact he.choose_spec.unique h
structure DInv(dep:Graph)(s:AS):Prop where
 ages:∀(k:Nat) (v:Int),lkA (k:Int) s.ages=some v->Age dep k v
variable {p : Pr}
def SameO(s s':AS):Prop:=∀k:Int,isOpn s' k=isOpn s k
def DOk(p:Pr)(f:Nat):Prop:=∀(s:AS) (i:Nat),i<p.stmts.length->DInv (depG p) s->(∀o:Nat,isOpn s (o:Int)=true->Rc (depG p) o i)->opnC p.stmts.length s<f ->
 (∃v s',ageM p (settersM p) f s i = .ok v s'/\Age (depG p) i v/\DInv (depG p) s'/\SameO s s')\/((∃t,ageM p (settersM p) f s i = .pan t)/\¬∃v,Age (depG p) i v)
theorem opnC_same{n:Nat}{s s':AS}(h:SameO s s'):opnC n s'=opnC n s:=by
 unfold opnC;congr 1;funext k;rw[h]
theorem fold_ok(g:GOk p){f:Nat}(ih:DOk p f){i:Nat}(hi:i<p.stmts.length):∀(l:List Ex) (s:AS) (m:Int),(∀x∈l,x∈partsX (stmtX p i))->DInv (depG p) s->(∀o:Nat,isOpn s (o:Int)=true->o=i\/Rc (depG p) o i)->opnC p.stmts.length s<f->0<=m ->
  (∃s',foldA (ownM p (settersM p) (ageM p (settersM p) f) i) l s m = .ok (maxD (vOf (depG p)) (l.filterMap (depX p (settersM p) i)) m) s'/\(∀q∈l.filterMap (depX p (settersM p) i),Age (depG p) q.1 (vOf (depG p) q.1))/\DInv (depG p) s'/\SameO s s') \/
  ((∃t,foldA (ownM p (settersM p) (ageM p (settersM p) f) i) l s m = .pan t)/\∃q∈l.filterMap (depX p (settersM p) i),¬∃v,Age (depG p) q.1 v)
 | [],s,m,_,hs,_,_,_=>.inl ⟨s,rfl,λq hq=>by simp at hq,hs,λ_=>rfl⟩
 |x::r,s,m,hl,hs,ho,hf,hm=>by
  have hx:=hl x List.mem_cons_self
  have hr:∀y∈r,y∈partsX (stmtX p i):=λy hy=>hl y (List.mem_cons_of_mem _ hy)
  cases hd:depX p (settersM p) i x with
  |none=>
   have hm0:mm2 true m 0=m:=by unfold mm2;grind
   simp only[foldA,own_none hd,hm0,List.filterMap_cons,hd]
   exact fold_ok g ih hi r s m hr hs ho hf hm
  |some q=>
   have hq:q∈depG p i:=List.mem_filterMap.2 ⟨x,hx,hd⟩
   have hqn:=dep_lt g hi hx hd
   rcases ih s q.1 hqn hs (λo h=>by
    rcases ho o h with e |e<;>try exact e ▸ .one hq
    exact e.snoc hq) hf with⟨v,s',e1,e2,e3,e4⟩ |⟨⟨t,e1⟩,e2⟩
   ·have hv:=vOf_eq e2
    have hmx:=(mm2_max m (v+q.2)).1
    simp only[foldA,own_ok g hi hx hd e1 e2,List.filterMap_cons,hd,maxD,hv]
    rcases fold_ok g ih hi r s' (mm2 true m (v+q.2)) hr e3 (λo h=>ho o (by rw[<-e4];exact h)) (by grind[opnC_same]) (by omega)with⟨s2,a1,a2,a3,a4⟩ |⟨a1,t,a2,a3⟩
    ·refine .inl ⟨s2,a1,λt ht=>?_,a3,λk=>(a4 k).trans (e4 k)⟩
     grind
    grind
   ·refine .inr ⟨⟨t,?_⟩,q,?_,e2⟩
    ·simp[foldA,own_pan g hi hx hd e1]
    ·simp only[List.filterMap_cons,hd];exact List.mem_cons_self
theorem opnC_put{n:Nat}{s:AS}{i:Nat}(hi:i<n)(h:isOpn s i=false):opnC n ⟨s.ages,putA (i:Int) true s.opn⟩+1=opnC n s:=by
 unfold opnC
 have key:∀m,m<=n->((List.range m).countP λk:Nat=>!isOpn ⟨s.ages,putA (i:Int) true s.opn⟩ (k:Int))+(if i<m then 1 else 0)=(List.range m).countP λk:Nat=>!isOpn s (k:Int):=by
  intro m
  induction m with
  |zero=>simp
  |succ m ih=>
   simp only[List.range_succ,List.countP_append,List.countP_singleton,isOpn_put]
   have hs:isOpn (⟨s.ages,s.opn⟩:AS) (m:Int)=isOpn s m:=rfl
   rw[hs]
   by_cases e:m=i
   ·grind[isOpn_put]
   ·simp only[isOpn_put]at ih
    grind
 grind
theorem age_ok(g:GOk p):∀f,DOk p f
 | 0=>λ_ _ _ _ _ h=>absurd h (Nat.not_lt_zero _)
 |f+1=>λs i hi hs ho hf=>by
  rw[ageM]
  by_cases hop:isOpn s (i:Int)=true
  ·rw[if_pos hop]
   exact .inr ⟨⟨_,rfl⟩,λ⟨v,hv⟩=>hv.irr (ho i hop)⟩
  ·rw[if_neg hop]
   have hop:isOpn s (i:Int)=false:=by simpa using hop
   cases ha:lkA (i:Int) s.ages with
   |some v=>exact .inl ⟨v,s,rfl,hs.ages i v ha,hs,λ_=>rfl⟩
   |none=>
    have hii:(decide (0<=(i:Int))&&decide ((i:Int)<p.stmts.length))=true:=by simp_all
    simp only[hii,if_true]
    have hc:=opnC_put hi hop
    have hs1:DInv (depG p) ⟨s.ages,putA (i:Int) true s.opn⟩:=⟨hs.ages⟩
    rcases fold_ok g (age_ok g f) hi (partsX (stmtX p i)) ⟨s.ages,putA (i:Int) true s.opn⟩ 0 (λ_ h=>h) hs1 (λo h=>by
     rw[isOpn_put]at h
     by_cases e:((o:Int)==(i:Int))=true
     ·grind
     simp_all) (by omega) (Int.le_refl _)with⟨s',a1,a2,a3,a4⟩ |⟨⟨t,a1⟩,q,a2,a3⟩
    ·have hAge:Age (depG p) i (maxD (vOf (depG p)) (depG p i) 0):=.mk i _ a2
     refine .inl ⟨maxD (vOf (depG p)) (depG p i) 0,⟨putA (i:Int) (maxD (vOf (depG p)) (depG p i) 0) s'.ages,putA (i:Int) false s'.opn⟩,by rw[a1]<;>rfl,hAge,⟨λk v h=>?_⟩,λk=>?_⟩
     ·simp only[lkA_put]at h
      by_cases e:((k:Int)==(i:Int))=true<;>try grind
      rw[if_neg e]at h;exact a3.ages k v h
     ·have h1:=a4 k
      rw[isOpn_put]at h1 ⊢
      have h2:isOpn (⟨putA (i:Int) (maxD (vOf (depG p)) (depG p i) 0) s'.ages,s'.opn⟩:AS) k=isOpn s' k:=rfl
      by_cases e:(k==(i:Int))=true<;>simp_all
    ·refine .inr ⟨⟨t,by rw[a1]⟩,λ⟨v,hv⟩=>?_⟩
     obtain⟨val,h,_⟩:=hv.inv
     exact a3 ⟨_,h q a2⟩
theorem mem_age(g:GOk p)(hn:0<p.stmts.length){v:Int}(h:Age (depG p) (p.stmts.length-1) v):memM p=v:=by
 have hc:((p.stmts.length:Int)-1)=((p.stmts.length-1:Nat):Int):=by omega
 rcases age_ok g (p.stmts.length+1) ⟨[],[]⟩ (p.stmts.length-1) (by omega) ⟨λk v h=>by simp[lkA]at h⟩ (λo h=>by simp[isOpn,lkA]at h) (by
  have:=List.countP_le_length (p:=λk=>!isOpn ⟨[],[]⟩ (k:Nat)) (l:=List.range p.stmts.length)
  rw[List.length_range]at this
  exact Nat.lt_succ_of_le this)with⟨w,s',e1,e2,_,_⟩ |⟨_,e2⟩
 ·rw[memM,hc,e1];exact e2.unique h
 simp_all
theorem mem_none(g:GOk p)(hn:0<p.stmts.length)(h:¬∃v,Age (depG p) (p.stmts.length-1) v):memM p = -1:=by
 rcases age_ok g (p.stmts.length+1) ⟨[],[]⟩ (p.stmts.length-1) (by omega) ⟨λk v h=>by simp[lkA]at h⟩ (λo h=>by simp[isOpn,lkA]at h) (by
  have:=List.countP_le_length (p:=λk=>!isOpn ⟨[],[]⟩ (k:Nat)) (l:=List.range p.stmts.length)
  rw[List.length_range]at this
  exact Nat.lt_succ_of_le this)with⟨w,s',e1,e2,_,_⟩ |⟨⟨t,e1⟩,_⟩<;>grind[memM]
end Go.Fw.Tl
namespace Go.Fw.Tl
open Go.Fw Go.Fw.Ref15 Go.Fw.Rg
variable [GlobInt] {p : Pr} {i : Nat}
theorem resL_at:∀(r:List Sm) (i:Nat) (out:Bool),resolveL p r i out = .ok r->∀(j:Nat) (s:Sm),r[j]? = some s->smIndex p s=s.index/\0<=s.index/\again p (i+j) s=false
 | [],_,_,_,j,s,h=>by simp at h
 |t::r,i,out,h,j,s,hj=>by
  rw[resolveL]at h
  split at h<;>try(cases h)
  split at h<;>try(cases h)
  split at h<;>try(cases h)
  cases hr:resolveL p r (i+1) (t.kind==4)with
  |error e=>simp_all
  |ok l=>
   rw[hr]at h
   simp at h
   have h1:smIndex p t=t.index:=congrArg Sm.index h.1
   cases j with
   |zero=>
    simp_all
   |succ j=>
    have:=resL_at r (i+1) _ (by rw[hr,h.2]) j s hj
    grind
theorem wfSL_at:∀(r:List Sm) (i:Nat),wfSL p i r=true->∀(j:Nat) (s:Sm),r[j]? = some s->wfS p (i+j) s=true
 | [],_,_,j,s,h=>by simp at h
 |t::r,i,h,j,s,hj=>by
  cases j with
  |zero=>
   simp at hj
   subst hj
   simp[wfSL]at h;exact h.1
  |succ j=>
   have:=wfSL_at r (i+1) (wfSL_next h) j s hj
   grind
theorem parts_wf{n:Nat}:∀x:Ex,wfX p n x=true->∀y∈partsX x,wfX p n y=true:=by
 refine Ex.ind λx ih=>?_
 intro h y hy
 rw[partsX_eq]at hy
 rcases List.mem_cons.1 hy with rfl |hy
 ·exact h
 ·obtain⟨z,hz,hy⟩:=mem_partsL.1 hy
  exact ih z hz (wfL_mem (wfX_parts h).2.2 z hz) y hy
theorem keyB_iff{a b:Key}:keyB a b=true↔a=b:=by
 unfold keyB
 grind
theorem lkK_put{α:Type}{k j:Key}{v:α}:∀{l:List (Key×α)},lkK j (putK k v l)=if keyB j k then some v else lkK j l
 | []=>by rfl
 |(a,w)::r=>by
  simp[putK]
  by_cases h:keyB k a=true
  ·have h:=keyB_iff.1 h
   subst h
   simp[keyB_iff.2 rfl,lkK]
   split<;>rfl
  ·simp[h,lkK,lkK_put (l:=r)]
   by_cases hj:keyB j a=true
   ·have:keyB j k=false:=by
     grind[keyB_iff]
    simp_all
   simp_all
theorem setL_get{k:Key}{b:Int}:∀(r:List Sm) (i:Nat) (S:List (Key×Int)),lkK k (setL r i S)=some b->lkK k S=some b\/∃(j:Nat) (s:Sm),r[j]? = some s/\b=((i+j:Nat):Int)/\sets s.kind=true/\k=(s.kind,s.index)
 | [],_,_,h=>.inl h
 |t::r,i,S,h=>by
  rcases setL_get r (i+1) _ h with q |⟨j,s,h1,h2,h3,h4⟩<;>try exact .inr ⟨j+1,s,h1,by omega,h3,h4⟩
  split at q<;>try exact .inl q
  rename_i hs
  rw[lkK_put]at q
  split at q<;>try exact .inl q
  rename_i e
  cases q
  exact .inr ⟨0,t,rfl,rfl,hs,keyB_iff.1 e⟩
theorem set_at{k:Key}{b:Int}(h:lkK k (settersM p)=some b):∃(j:Nat) (s:Sm),p.stmts[j]? = some s/\b=(j:Int)/\sets s.kind=true/\k=(s.kind,s.index):=by
 rcases setL_get p.stmts 0 [] h with q |⟨j,s,h1,h2,h3,h4⟩<;>grind[lkK]
def wt2(p:Pr)(k:Nat):Int:=if(p.stmts.getD k Sm.none).kind==2 then 1 else 0
def lsz(p:Pr)(k:Nat):Int:=mm2 true 0 (p.lines.getD k Ln.none).size
def wt3(p:Pr)(k:Nat):Int:=if(p.stmts.getD k Sm.none).kind==3 then lsz p (p.stmts.getD k Sm.none).index.toNat else 0
def wtP(p:Pr)(k:Nat):Int:=wt2 p k+wt3 p k
theorem lsz_nonneg(p:Pr)(k:Nat):0<=lsz p k:=(mm2_max _ _).1
theorem wt2_nonneg(p:Pr)(k:Nat):0<=wt2 p k:=by grind[wt2]
theorem wt3_nonneg(p:Pr)(k:Nat):0<=wt3 p k:=by
 unfold wt3;split
 ·exact lsz_nonneg _ _
 ·omega
theorem getD_of{α:Type}{l:List α}{a d:α}(h:l[i]? = some a):l.getD i d=a:=by simp_all
theorem dep_wt{q:Nat×Int}(h:q∈depG p i):q.2<=wtP p q.1:=by
 obtain⟨x,_,h⟩:=List.mem_filterMap.1 h
 have h2:=wt2_nonneg p q.1
 have h3:=wt3_nonneg p q.1
 unfold depX at h
 split at h<;>try grind[wtP]
 split at h
 ·split at h
  ·rename_i b hb
   obtain⟨j,s,e1,e2,_,e4⟩:=set_at hb
   grind[wt2,getD_of,wtP]
  ·cases h
 ·split at h<;>try(cases h)
  split at h
  ·rename_i b hb
   obtain⟨j,s,e1,e2,_,e4⟩:=set_at hb
   have:wt3 p b.toNat=lsz p x.index.toNat:=by
    grind[wt3,getD_of]
   have h4:(lineAt p x.index).size<=lsz p x.index.toNat:=(mm2_max _ _).2.1
   grind[wtP]
  ·cases h
theorem sumW_map(g:Nat->Int)(f:Nat->Nat)(c:Nat->Bool):∀l:List Nat,sumW (λk=>if c k then g (f k)else 0) l=sumW g ((l.filter c).map f)
 | []=>rfl
 |k::r=>by
  rw[sumW_cons,sumW_map g f c r]
  cases h:c k
  ·rw[List.filter_cons_of_neg (by simp[h])];simp
  ·rw[List.filter_cons_of_pos h,List.map_cons,sumW_cons];simp
theorem nodup_map{f:Nat->Nat}:∀{l:List Nat},l.Nodup->(∀a∈l,∀b∈l,f a=f b->a=b)->(l.map f).Nodup
 | [],_,_=>List.nodup_nil
 |k::r,h,hf=>by
  rw[List.map_cons,List.nodup_cons]
  refine⟨λhm=>?_,nodup_map (List.nodup_cons.1 h).2 λa ha b hb=>hf a (List.mem_cons_of_mem _ ha) b (List.mem_cons_of_mem _ hb)⟩
  grind
theorem sumW_inj{g:Nat->Int}{f:Nat->Nat}{c:Nat->Bool}{n m:Nat}(h0:∀k,0<=g k)(hi:∀a,a<n->∀b,b<n->c a=true->c b=true->f a=f b->a=b)(hm:∀a,a<n->c a=true->f a<m):sumW (λk=>if c k then g (f k)else 0) (List.range n)<=sumW g (List.range m):=by
 rw[sumW_map]
 refine sumW_range h0 m (nodup_map (List.nodup_range.filter _) λa ha b hb=>?_) λk hk=>?_<;>grind
theorem sumW_add(f g:Nat->Int):∀l:List Nat,sumW (λk=>f k+g k) l=sumW f l+sumW g l
 | []=>rfl
 |k::r=>by rw[sumW_cons,sumW_cons,sumW_cons,sumW_add f g r];omega
theorem sumW_one:∀n:Nat,sumW (λ_=>1) (List.range n)=(n:Int):=by
 have:∀l:List Nat,sumW (λ_=>1) l=(l.length:Int):=by
  intro l
  induction l with
  |nil=>rfl
  |cons a r ih=>grind[sumW_cons]
 simp_all
theorem set_once(h:Res p){i j:Nat}{s t:Sm}(hi:p.stmts[i]? = some s)(hj:p.stmts[j]? = some t)(hs:sets s.kind=true)(hk:t.kind=s.kind)(hx:t.index=s.index):¬i<j:=by
 intro hl
 have a1:=resL_at p.stmts 0 false h.ru i s hi
 have a2:=resL_at p.stmts 0 false h.ru j t hj
 have hn:t.name=s.name:=by
  have h1:=a1.1;have h2:=a2.1
  have key:∀(l:List Str) (a b:Str),find l a=find l b->0<=find l a->a=b:=by
   have hg:∀(l:List Str) (a:Str) (i:Int),0<=i->0<=findFrom a l i->i<=findFrom a l i/\l[(findFrom a l i-i).toNat]? = some a:=by
    intro l a
    induction l with
    |nil=>grind[findFrom]
    |cons x r ih=>
     intro i hi h
     simp only[findFrom]at h ⊢
     split at h
     ·simp_all
     ·rename_i e
      rw[if_neg e]
      have:=ih (i+1) (by omega) h
      refine⟨by omega,?_⟩
      rw[show(findFrom a r (i+1)-i).toNat=(findFrom a r (i+1)-(i+1)).toNat+1 by omega]
      exact this.2
   grind[find]
  simp only[smIndex,hk]at h1 h2
  simp only[sets]at hs
  grind
 have ha:=a2.2.2
 rw[Nat.zero_add,again,List.any_eq_false]at ha
 have hm:s∈p.stmts.take j:=List.mem_of_getElem? (by rw[List.getElem?_take_of_lt hl];exact hi)
 have:=ha s hm
 have h1:(s.kind != 1)=true:=by
  cases q:s.kind==1
  ·simp[bne,q]
  ·have q:=eq_of_beq q
   rw[q]at hs;exact absurd hs (by decide)
 simp_all
theorem lims(h:Res p):(p.params.length<=16/\p.states.length<=16/\p.lines.length<=16/\p.tables.length<=16/\p.stmts.length<=64)/\(∀l∈p.lines,1<=l.size/\l.size<=65536)/\(0<=p.latency/\p.latency<=4096)/\(-1<=p.tail/\p.tail<=1048576):=by
 have:=h.li
 simp[limited,few,memOk,lineOk,Bool.and_eq_true,List.all_eq_true]at this
 grind
theorem res_pos(h:Res p):0<p.stmts.length:=by
 have:=h.ru
 grind[resolveL]
theorem stmtX_at{s:Sm}(h:p.stmts[i]? = some s):stmtX p (i:Int)=s.x:=by rw[stmtX,Int.toNat_natCast,getD_of h]
theorem some_at{α:Type}{l:List α}(h:i<l.length):∃a,l[i]? = some a:=⟨_,List.getElem?_eq_getElem h⟩
theorem part_wf(h:Res p)(hi:i<p.stmts.length){x:Ex}(hx:x∈partsX (stmtX p i)):wfX p i x=true:=by
 obtain⟨s,hs⟩:=some_at hi
 rw[stmtX_at hs]at hx
 have:=wfSL_at p.stmts 0 h.wf i s hs
 rw[wfS]at this
 grind[parts_wf]
theorem sum_all(h:Res p):sumW (wtP p) (List.range p.stmts.length)<=(p.states.length:Int)+sumW (lsz p) (List.range p.lines.length):=by
 have e:wtP p=λk=>wt2 p k+wt3 p k:=rfl
 rw[e,sumW_add]
 have inj:∀c:Int,(c==2 || c==3)=true->∀a,a<p.stmts.length->∀b,b<p.stmts.length->((p.stmts.getD a Sm.none).kind==c)=true->((p.stmts.getD b Sm.none).kind==c)=true->(p.stmts.getD a Sm.none).index.toNat=(p.stmts.getD b Sm.none).index.toNat->a=b:=by
  intro c hc a ha b hb h1 h2 h3
  obtain⟨s,hs⟩:=some_at ha
  obtain⟨t,ht⟩:=some_at hb
  rw[getD_of hs]at h1 h3
  rw[getD_of ht]at h2 h3
  have h1:=eq_of_beq h1
  have h2:=eq_of_beq h2
  have g1:=(resL_at p.stmts 0 false h.ru a s hs).2.1
  have g2:=(resL_at p.stmts 0 false h.ru b t ht).2.1
  have hk:∀k:Int,k=c->sets k=true:=by
   intro k e;subst e
   simp at hc
   rcases hc with rfl |rfl<;>rfl
  have q1:=set_once h hs ht (hk _ h1) (h2.trans h1.symm) (by omega)
  have q2:=set_once h ht hs (hk _ h2) (h1.trans h2.symm) (by omega)
  omega
 have wfa:∀a,a<p.stmts.length->∀s,p.stmts[a]? = some s->wfS p a s=true:=λa _ s hs=>by
  have:=wfSL_at p.stmts 0 h.wf a s hs
  grind
 have h2:=sumW_inj (g:=λ_=>1) (f:=λk=>(p.stmts.getD k Sm.none).index.toNat) (c:=λk=>(p.stmts.getD k Sm.none).kind==2) (n:=p.stmts.length) (m:=p.states.length) (λ_=>by decide) (inj 2 rfl) (λa ha hc=>by
  obtain⟨s,hs⟩:=some_at ha
  have:=wfa a ha s hs
  rw[getD_of hs]at hc ⊢
  simp[wfS,hc]at this
  omega)
 have h3:=sumW_inj (g:=lsz p) (f:=λk=>(p.stmts.getD k Sm.none).index.toNat) (c:=λk=>(p.stmts.getD k Sm.none).kind==3) (n:=p.stmts.length) (m:=p.lines.length) (lsz_nonneg p) (inj 3 rfl) (λa ha hc=>by
  obtain⟨s,hs⟩:=some_at ha
  have:=wfa a ha s hs
  rw[getD_of hs]at hc ⊢
  simp[wfS,Bool.and_eq_true,hc,Bool.not_true,Bool.false_or,decide_eq_true_eq]at this
  omega)
 rw[sumW_one]at h2
 exact Int.add_le_add h2 h3
theorem depG_out(h:p.stmts.length<=i):depG p i = []:=by
 have:stmtX p i=Ex.none:=by rw[stmtX,Int.toNat_natCast,List.getD_eq_getElem?_getD,List.getElem?_eq_none h];rfl
 rw[depG,this]
 rfl
theorem rc_lt(h:∀i,i<p.stmts.length->∀q∈depG p i,q.1<p.stmts.length){i k:Nat}(hr:Rc (depG p) i k):k<p.stmts.length:=by
 have one:∀{i:Nat} {q:Nat×Int},q∈depG p i->q.1<p.stmts.length:=by
  grind[depG_out]
 induction hr with
 |one hq=>exact one hq
 |step _ _ ih=>exact ih
theorem dep_lt'(h:Res p):∀i,i<p.stmts.length->∀q∈depG p i,q.1<p.stmts.length:=by
 intro i hi q hq
 obtain⟨x,hx,hd⟩:=List.mem_filterMap.1 hq
 have hw:=(wfX_parts (part_wf h hi hx)).2.1
 unfold depX at hd
 split at hd
 ·grind[ownW]
 grind[set_at]
theorem age_le(h:Res p){v:Int}(ha:Age (depG p) i v):v<=(p.states.length:Int)+sumW (lsz p) (List.range p.lines.length):=by
 obtain⟨l,h1,h2,h3⟩:=ha.path (wt:=wtP p) (λ_ q hq=>dep_wt hq)
 have h4:=sumW_range (wt:=wtP p) (λk=>Int.add_nonneg (wt2_nonneg p k) (wt3_nonneg p k)) p.stmts.length h1 (λk hk=>rc_lt (dep_lt' h) (h2 k hk))
 have:=sum_all h
 omega
theorem sumW_le{f:Nat->Int}{b:Int}:∀(l:List Nat),(∀k∈l,f k<=b)->sumW f l<=b * l.length
 | [],_=>by simp[sumW]
 |k::r,h=>by
  have:=sumW_le r λj hj=>h j (List.mem_cons_of_mem _ hj)
  rw[sumW_cons,List.length_cons]
  grind
theorem lsz_at(h:Res p){k:Nat}(hk:k<p.lines.length):lsz p k=(p.lines.getD k Ln.none).size/\lsz p k<=65536:=by
 obtain⟨l,hl⟩:=some_at hk
 have:=(lims h).2.1 l (List.mem_of_getElem? hl)
 grind[lsz,mm2]
theorem good_ok(h:Res p):GOk p:=by
 have hl:=lims h
 refine⟨by omega,λi hi x hx h5=>?_,λk b hb=>?_,λi hi x hx h8=>?_,λi v ha=>?_⟩
 ·have hw:=(wfX_parts (part_wf h hi hx)).2.1
  grind[ownW]
 ·grind[set_at,List.getElem?_eq_some_iff]
 ·have hw:=(wfX_parts (part_wf h hi hx)).2.1
  rw[eq_of_beq h8]at hw
  simp only[ownW]at hw
  grind
 ·have h1:=age_le h ha
  have h2:=sumW_le (f:=lsz p) (b:=65536) (List.range p.lines.length) (λk hk=>(lsz_at h (List.mem_range.1 hk)).2)
  grind
variable [GlobInt] {p : Pr} {n : Nat} {x : Ex}
theorem res_part{x y:Ex}(hw:wfX p n x=true)(hx:resolved p n x=(x,true))(hy:y∈x.l):resolved p n y=(y,true):=by
 obtain⟨g1,g2,g3⟩:=wfX_parts hw
 rw[resolved_eq]at hx
 by_cases hN:(named x.kind&&x.kind != 8&&x.kind != 9)=true
 ·have:Ref15.parts x.kind=0:=by
   simp[named]at hN
   rcases kinds g2 with h |h |h |h |h |h |h |h |h |h |h |h |h |h |h |h |h |h<;>rw[h]at hN ⊢ <;> first |rfl |(simp at hN)
  simp_all
 ·rw[if_neg hN]at hx
  have e1:(resolvedL p n x.l).1=x.l:=congrArg (λq=>q.1.l) hx
  grind[resolvedL_mem]
theorem own_gen(hn:n<=p.stmts.length)(hx:resolved p n x=(x,true))(hw:wfX p n x=true):own16 p x=true:=by
 obtain⟨g1,g2,g3⟩:=wfX_parts hw
 by_cases h5:x.kind=5
 ·have h0:=own_k5 g2 (by rw[h5];rfl)
  rw[resolved_eq,if_pos (by rw[h5];rfl),value]at hx
  simp only at hx
  have hg:given p x.name n=x.index:=by
   split at hx
   ·split at hx
    ·exact congrArg (λq=>q.1.index) hx
    ·have this:(4:Int)=x.kind:=congrArg (λq=>q.1.kind) hx
     omega
   ·have this:(3:Int)=x.kind:=congrArg (λq=>q.1.kind) hx
    omega
  rw[given]at hg
  have hkk:=(given_kind (p.stmts.take n) 0 (Int.le_refl _) (by rw[hg];exact h0.1)).2
  rw[hg,Int.sub_zero]at hkk
  have hst:p.stmts.getD x.index.toNat Sm.none=(p.stmts.take n).getD x.index.toNat Sm.none:=by
   grind
  rw[own16,h5,hst,hkk]
  rw[h5]at g1
  rw[g1]
  rw[if_neg (by decide),if_neg (by decide),if_neg (by decide)]
  grind
 ·rcases kinds g2 with r |r |r |r |r |r |r |r |r |r |r |r |r |r |r |r |r |r<;>first
   |exact absurd r h5
   | (rw[r]at g1 g2
      simp[ownW]at g2
      simp[own16,r,parts16,Ref15.parts,Bool.cond_false_right]at g1 ⊢
      simp_all)
theorem cnt_gen{b:Nat}(hb:b<=p.stmts.length):∀x:Ex,∀most:Int,resolved p b x=(x,true)->wfX p b x=true->(Ref15.nodes x:Int)<=most->countM p x most=Ref15.nodes x:=by
 refine Ex.ind λx ih most hx hw hn=>?_
 have hN:=Ref15.nodes_eq x
 rw[countM_eq,own_gen hb hx hw,decide_eq_false (by omega)]
 have hL:∀(l:List Ex),(∀z∈l,z∈x.l)->∀n:Int,1<=n->n+Ref15.nodesL l<=most->countL p l most n=n+Ref15.nodesL l:=by
  intro l
  induction l with
  |nil=>grind[countL,Ref15.nodesL]
  |cons z r ihr=>
   intro hl n h1 h2
   simp[Ref15.nodesL]at h2 ⊢
   have hz:=ih z (hl z (by simp)) (most-n) (res_part hw hx (hl z (by simp))) (wfL_mem (wfX_parts hw).2.2 z (hl z (by simp))) (by omega)
   rw[countL,ihr (λw hw=>hl w (by simp[hw])) _ (by omega) (by omega)]
   omega
 simp_all
theorem fits_gen{b:Nat}(hb:b<=p.stmts.length)(hx:resolved p b x=(x,true))(hw:wfX p b x=true)(hn:Ref15.nodes x<=512):fitsB p x=true:=by
 rw[<-fitsB_count,cnt_gen hb x 512 hx hw (by omega)]
 grind[Ref15.nodes_eq]
theorem resL_run:∀(r:List Sm) (i:Nat) (out:Bool),resolveL p r i out = .ok r->∀(j:Nat) (s:Sm),r[j]? = some s->resolved p (i+j) s.x=(s.x,true)
 | [],_,_,_,j,s,h=>by simp at h
 |t::r,i,out,h,j,s,hj=>by
  rw[resolveL]at h
  split at h<;>try(cases h)
  split at h<;>try(cases h)
  split at h<;>try(cases h)
  cases hr:resolveL p r (i+1) (t.kind==4)with
  |error e=>simp_all
  |ok l=>
   rw[hr]at h
   simp at h
   cases j with
   |zero=>
    grind
   |succ j=>
    have:=resL_run r (i+1) _ (by rw[hr,h.2]) j s hj
    grind
theorem parts_res:∀x:Ex,wfX p n x=true->resolved p n x=(x,true)->∀y∈partsX x,resolved p n y=(y,true):=by
 refine Ex.ind λx ih=>?_
 intro h hr y hy
 rw[partsX_eq]at hy
 rcases List.mem_cons.1 hy with rfl |hy
 ·exact hr
 ·obtain⟨z,hz,hy⟩:=mem_partsL.1 hy
  exact ih z hz (wfL_mem (wfX_parts h).2.2 z hz) (res_part h hr hz) y hy
theorem parts_nodes:∀x:Ex,∀y∈partsX x,Ref15.nodes y<=Ref15.nodes x:=by
 refine Ex.ind λx ih=>?_
 intro y hy
 rw[partsX_eq]at hy
 rcases List.mem_cons.1 hy with rfl |hy
 ·omega
 ·obtain⟨z,hz,hy⟩:=mem_partsL.1 hy
  have:=nodes_mem hz
  grind[Ref15.nodes_eq]
theorem findM_ext{F G:List Sp}(hF:∀j,j<n->F.getD j (0,0)=G.getD j (0,0)):∀x:Ex,wfX p n x=true->findM p F x=findM p G x:=by
 refine Ex.ind λx ih=>?_
 intro hw
 obtain⟨g1,g2,g3⟩:=wfX_parts hw
 have hL:∀l:List Ex,(∀z∈l,z∈x.l)->findL p F l=findL p G l:=by
  intro l
  induction l with
  |nil=>intro _;rfl
  |cons z r ihr=>
   grind[findL,wfL_mem]
 rw[findM_eq,findM_eq,hL x.l λ_ h=>h]
 cases findL p G x.l with
 |error e=>rfl
 |ok l=>
  by_cases h5:(x.kind==5)=true
  ·have h0:=own_k5 g2 h5
   grind[opM]
  ·simp[opM,h5]
theorem find_parts{F:List Sp}:∀(x:Ex) (s:Sp),findM p F x = .ok s->∀y∈partsX x,∃t,findM p F y = .ok t:=by
 refine Ex.ind λx ih=>?_
 intro s h y hy
 rw[partsX_eq]at hy
 rcases List.mem_cons.1 hy with rfl |hy<;>grind[mem_partsL,findM_eq,findL_each]
theorem drop_at{α:Type}{l:List α}{i:Nat}{a:α}(h:l[i]? = some a):∃r,l.drop i=a::r:=by
 exact⟨l.drop (i+1),by grind[List.drop_eq_getElem_cons]⟩
theorem looks_k(h:looks x=true):x.kind=6\/x.kind=7:=by
 unfold looks at h
 simp_all
theorem look_ok{F:List Sp}(h:BOk p F){i:Nat}(hi:i<p.stmts.length)(hx:x∈partsX (stmtX p i))(hk:looks x=true):x.l.length=1/\∃s,intervalR p (x.l.getD 0 Ex.none) = .ok s/\fitsB p (x.l.getD 0 Ex.none)=true/\findM p F (x.l.getD 0 Ex.none) = .ok s/\0<=s.2/\s.2<=4096:=by
 obtain⟨st,hs⟩:=some_at hi
 rw[stmtX_at hs]at hx
 obtain⟨r,hr⟩:=drop_at hs
 have a:=st_at h hr
 have hw:wfX p i st.x=true:=by have:=a.wf;simp only[wfS,Bool.and_eq_true]at this;exact this.1
 have hwx:=parts_wf st.x hw x hx
 obtain⟨g1,g2,g3⟩:=wfX_parts hwx
 obtain⟨t,ht⟩:=find_parts st.x _ a.run x hx
 have hlen:x.l.length=1:=by
  grind[looks_k,Ref15.parts]
 obtain⟨y,hy⟩:∃y,x.l = [y]:=by
  cases hxl:x.l with
  |nil=>simp_all
  |cons y r=>simp_all
 have hwy:wfX p i y=true:=wfL_mem g3 y (by simp_all)
 have hry:=res_part hwx (parts_res st.x hw (by have:=resL_run p.stmts 0 false h.res.ru i st hs;simp_all) x hx) (show y∈x.l by simp_all)
 have hn:Ref15.nodes st.x<=512:=by
  have:=h.res.li
  rw[limited_eq]at this
  simp only[Bool.and_eq_true]at this
  have:=List.all_eq_true.1 this.2.2.2.1 st (List.mem_of_getElem? hs)
  grind[exprOk,Bool.not_eq_true',decide_eq_false_iff_not]
 have hny:Ref15.nodes y<=512:=by
  have h1:=parts_nodes st.x x hx
  have h2:=nodes_mem (l:=x.l) (y:=y) (by simp_all)
  grind[Ref15.nodes_eq]
 have hfit:=fits_gen (Nat.le_of_lt hi) hry hwy hny
 rw[findM_eq,hy,findL]at ht
 have hgd:x.l.getD 0 Ex.none=y:=by rw[hy];rfl
 rw[hgd]
 cases hfy:findM p (F.take i) y with
 |error e=>simp_all
 |ok s=>
  rw[hfy,findL]at ht
  simp only at ht
  have hFy:findM p F y = .ok s:=by
   rw[<-hfy]
   refine(findM_ext (n:=i) (λj hj=>?_) y hwy).symm
   rw[List.getD_eq_getElem?_getD,List.getD_eq_getElem?_getD,List.getElem?_take_of_lt hj]
  have hord:=findM_ord h.res.rng h.fok.sub (found:=F) (x:=y) (s:=s) (by
   have:∀(m n:Nat),m<=n->∀x:Ex,wfX p m x=true->wfX p n x=true:=by
    intro m n hmn
    refine Ex.ind λx ih=>?_
    intro hw
    rw[wfX_eq]at hw ⊢
    simp only[Bool.and_eq_true]at hw ⊢
    refine⟨⟨hw.1.1,?_⟩,wfL_of λz hz=>ih z hz (wfL_mem hw.2 z hz)⟩
    have:=hw.1.2
    unfold ownW at this ⊢
    grind
   refine this i F.length ?_ y hwy
   rw[h.len];omega) hFy
  have hah:aheadM s = .ok t:=by
   grind[looks_k,opM]
  unfold aheadM at hah
  split at hah
  ·cases hah
  ·rename_i hq
   have hb:=boundsR_ok (res_resE h.res) h.run
   grind[intR_go]
variable [GlobInt] {r0 : List Ex} {x x0 : Ex} {P : Nat → Ex → Prop} {i k m : Nat}
theorem partsL_app:∀(l m:List Ex),partsL (l++m)=partsL l++partsL m
 | [],m=>rfl
 |y::r,m=>by rw[List.cons_append,partsL,partsL,partsL_app r m,List.append_assoc]
theorem split_at{α:Type}{l r0:List α}{k:Nat}{x0:α}(hd:l.drop k=x0::r0):l=l.take k++x0::r0:=by
 grind[List.take_append_drop]
theorem parts_at{k m:Nat}(hd:x.l.drop k=x0::r0)(hm:m=1+(partsL (x.l.take k)).length){j:Nat}{y:Ex}(h:(partsX x0)[j]? = some y):(partsX x)[m+j]? = some y:=by
 rw[partsX_eq,split_at hd,partsL_app,partsL,hm]
 grind
theorem parts_next{k m:Nat}(hd:x.l.drop k=x0::r0)(hm:m=1+(partsL (x.l.take k)).length):m+(partsX x0).length=1+(partsL (x.l.take (k+1))).length:=by
 grind[partsL_snoc]
theorem parts_end{x:Ex}{k m:Nat}(hd:x.l.drop k = [])(hm:m=1+(partsL (x.l.take k)).length):m=(partsX x).length:=by
 grind[List.take_of_length_le,List.drop_eq_nil_iff,partsX_eq]
theorem sub_ok(hd:x.l.drop k=x0::r0)(hm:m=i+(1+(partsL (x.l.take k)).length))(h:∀j y,(partsX x)[j]? = some y->P (i+j) y):∀j y,(partsX x0)[j]? = some y->P (m+j) y:=by
 intro j y hj
 rw[hm,Nat.add_assoc]
 exact h _ _ (parts_at hd rfl hj)
theorem sub_next(hd:x.l.drop k=x0::r0)(hm:m=i+(1+(partsL (x.l.take k)).length)):m+(partsX x0).length=i+(1+(partsL (x.l.take (k+1))).length):=by
 rw[hm,Nat.add_assoc,parts_next hd rfl]
theorem sub_end{x:Ex}(hd:x.l.drop k = [])(hm:m=i+(1+(partsL (x.l.take k)).length)):m=i+(partsX x).length:=by
 rw[hm,parts_end hd rfl]
theorem sub_or{i k m q:Nat}(hd:x.l.drop k=x0::r0)(hm:m=i+(1+(partsL (x.l.take k)).length))(hq:m<=i+q):(m+(partsX x0).length<=i+q)\/(∃t,q=(m-i)+t/\t<(partsX x0).length):=by
 rcases Nat.lt_or_ge (i+q) (m+(partsX x0).length)with h |h
 ·exact .inr ⟨q-(m-i),by omega,by omega⟩
 ·exact .inl h
theorem sub_okq{i k m q:Nat}(hd:x.l.drop k=x0::r0)(hm:m=i+(1+(partsL (x.l.take k)).length))(h:∀j y,j<q->(partsX x)[j]? = some y->P (i+j) y)(hq:m+(partsX x0).length<=i+q):∀j y,(partsX x0)[j]? = some y->P (m+j) y:=by
 intro j y hj
 have:=(List.getElem?_eq_some_iff.1 hj).1
 rw[hm,Nat.add_assoc]
 exact h _ _ (by omega) (parts_at hd rfl hj)
theorem sub_pan{i k m q t:Nat}(hd:x.l.drop k=x0::r0)(hm:m=i+(1+(partsL (x.l.take k)).length))(h:∀j y,j<q->(partsX x)[j]? = some y->P (i+j) y)(hq:q=(m-i)+t):∀j y,j<t->(partsX x0)[j]? = some y->P (m+j) y:=by
 intro j y hj hy
 rw[hm,Nat.add_assoc]
 exact h _ _ (by omega) (parts_at hd rfl hy)
theorem sub_at{i k m q t:Nat}(hd:x.l.drop k=x0::r0)(hm:m=i+(1+(partsL (x.l.take k)).length))(h:∀y,(partsX x)[q]? = some y->P (i+q) y)(hq:q=(m-i)+t):∀y,(partsX x0)[t]? = some y->P (m+t) y:=by
 intro y hy
 have e:m+t=i+q:=by omega
 have:=parts_at hd (m:=1+(partsL (x.l.take k)).length) rfl hy
 simp_all
theorem parts_0(x:Ex):(partsX x)[0]? = some x:=by rw[partsX_eq];rfl
end Go.Fw.Tl
namespace Go.Fw
theorem chk_softQ[GlobInt]{T:Tbl}{ops:Array Oper}{env:Env}{K:Heap}{tr:List Rec}{kp:Nat}{q:Prop}(l:List (Nat×Nat))(h0:hasQ kp l=false)(h:chk T ops env K (markS l 0 tr)=true)(h2:softL T K tr l)(hq:q):chkQ T ops env K tr kp/\q:=⟨⟨l,h0,h,h2⟩,hq⟩
theorem BrI.ff_of[GlobInt]{c:Bool}{p q:Prop}(h:c=false)(hq:q):BrI c p q:=by subst h;exact .ff hq
theorem BrI.tt_of[GlobInt]{c:Bool}{p q:Prop}(h:c=true)(hp:p):BrI c p q:=by subst h;exact .tt hp
end Go.Fw
namespace Go.Fw.Tl
open Go.Fw Go.Fw.Ref15 Go.Fw.Rg
variable [GlobInt] {f : D → Prop}
theorem opt_kk{a b:Int}{S:List (Key×Int)}{M:List (D×D)}{g:Prop}(hM:M=S.map kkD)(h1:∀n,lkK (a,b) S=some n->f (.i n))(h2:lkK (a,b) S=none->g):OptBr (mget (.agg [.i a,.i b]) M) f g:=by
 have e:=mget_kk (a,b) S
 cases hk:lkK (a,b) S with
 |none=>grind[Nam.opt_none]
 |some n=>grind[Nam.opt_some]
theorem opt_ii{k:Int}{S:List (Int×Int)}{M:List (D×D)}{g:Prop}(hM:M=S.map iiD)(h1:∀n,lkA k S=some n->f (.i n))(h2:lkA k S=none->g):OptBr (mget (.i k) M) f g:=by
 have e:=mget_ii k S
 cases hk:lkA k S with
 |none=>grind[Nam.opt_none]
 |some n=>grind[Nam.opt_some]
theorem opt_ib{k:Int}{S:List (Int×Bool)}{M:List (D×D)}{g:Prop}(hM:M=S.map ibD)(h1:∀n,lkA k S=some n->f (.b n))(h2:lkA k S=none->g):OptBr (mget (.i k) M) f g:=by
 have e:=mget_ib k S
 cases hk:lkA k S with
 |none=>grind[Nam.opt_none]
 |some n=>grind[Nam.opt_some]
section
variable {p : Pr} {S : List (Key × Int)} {age : AS → Int → AR} {i : Int} {x : Ex} {s s' : AS} {v b : Int} {r : AR}
theorem own_a5(h5:(x.kind==5)=true)(h:ownM p S age i x s=r):age s x.index=r:=by rwa[ownM,if_pos h5]at h
theorem own_a4(h5:(x.kind==5)=false)(h4:(x.kind==4)=true)(hb:lkK (2,x.index) S=some b)(hl:decide (b<i)=true)(h:ownM p S age i x s=r):age s b=r:=by
 rw[ownM]at h
 simp_all
theorem own_b4(h5:(x.kind==5)=false)(h4:(x.kind==4)=true)(hb:lkK (2,x.index) S=some b)(hl:decide (b<i)=false)(h:ownM p S age i x s=r):(age s b).add 1=r:=by
 rw[ownM]at h
 grind
theorem own_n4(h5:(x.kind==5)=false)(h4:(x.kind==4)=true)(hb:lkK (2,x.index) S=none)(h:ownM p S age i x s=r):.ok 0 s=r:=by
 rwa[ownM,h5,if_neg (by decide),if_pos h4,hb]at h
theorem own_a8(h5:(x.kind==5)=false)(h4:(x.kind==4)=false)(h8:(x.kind==8)=true)(hb:lkK (3,x.index) S=some b)(hr:r ≠ .out)(h:ownM p S age i x s=r):(age s b).add (lineAt p x.index).size=r/\0<=x.index/\x.index<p.lines.length:=by
 rw[ownM]at h
 grind
theorem own_n8(h5:(x.kind==5)=false)(h4:(x.kind==4)=false)(h8:(x.kind==8)=true)(hb:lkK (3,x.index) S=none)(h:ownM p S age i x s=r):.ok 0 s=r:=by
 rwa[ownM,h5,if_neg (by decide),h4,if_neg (by decide),if_pos h8,hb]at h
theorem own_n0(h5:(x.kind==5)=false)(h4:(x.kind==4)=false)(h8:(x.kind==8)=false)(h:ownM p S age i x s=r):.ok 0 s=r:=by
 rwa[ownM,h5,if_neg (by decide),h4,if_neg (by decide),h8,if_neg (by decide)]at h
theorem add_ok{a:AR}{w:Int}(h:a.add w = .ok v s'):∃u,a = .ok u s'/\v=IntKind.i64.wrap (u+w):=by
 cases a with
 |ok u t=>cases h;simp
 |pan t=>cases h
 |out=>cases h
theorem add_pan{a:AR}{w:Int}{t:AS}(h:a.add w = .pan t):a = .pan t:=by
 cases a with
 |ok u t=>cases h
 |pan t=>cases h;rfl
 |out=>cases h
theorem ok_pan{s t:AS}{v:Int}(h:AR.ok v s = .pan t):False:=by cases h
theorem ok_ne{s:AS}{v:Int}:AR.ok v s ≠ .out:=by intro h;cases h
theorem pan_ne{s:AS}:AR.pan s ≠ .out:=by intro h;cases h
theorem ok_inj{s:AS}(h:AR.ok 0 s = .ok v s'):v=0/\s'=s:=by simp_all
end
theorem line_at{p:Pr}{n:Int}(h:0<=n/\n<p.lines.length):0<=n/\(p.lines.map Ln.cs)[n.toNat]? = some (Ln.cs (lineAt p n)):=by
 simp_all
variable [GlobInt] {own : Ex → AS → AR}
def atA(own:Ex->AS->AR)(l:List Ex)(s:AS)(m:Int)(j:Nat):Int×AS:=match foldA own (l.take j) s m with
 | .ok v t=>(v,t)
 |_=>(0,⟨[],[]⟩)
theorem atA_0(own:Ex->AS->AR)(l:List Ex)(s:AS)(m:Int):atA own l s m 0=(m,s):=rfl
theorem atA_cons{x:Ex}{r:List Ex}{s s1:AS}{m w:Int}(h:own x s = .ok w s1)(j:Nat):atA own (x::r) s m (j+1)=atA own r s1 (mm2 true m w) j:=by
 simp[atA,foldA,h]
def RndOk(own:Ex->AS->AR)(l:List Ex)(s:AS)(m:Int)(j:Nat):Prop:=∃w,own (l.getD j Ex.none) (atA own l s m j).2 = .ok w (atA own l s m (j+1)).2/\(atA own l s m (j+1)).1=mm2 true (atA own l s m j).1 w
theorem fold_at:∀(l:List Ex) (s:AS) (m v:Int) (t:AS),foldA own l s m = .ok v t->(∀j,j<l.length->RndOk own l s m j)/\atA own l s m l.length=(v,t)
 | [],s,m,v,t,h=>by cases h;exact⟨λj hj=>absurd hj (Nat.not_lt_zero _),rfl⟩
 |x::r,s,m,v,t,h=>by
  rw[foldA]at h
  cases hx:own x s with
  |ok w s1=>
   rw[hx]at h
   obtain⟨h1,h2⟩:=fold_at r s1 _ v t h
   refine⟨λj hj=>?_,by grind[atA_cons]⟩
   cases j with
   |zero=>exact⟨w,by rw[atA_cons hx];exact hx,by rw[atA_cons hx,atA_0,atA_0]⟩
   |succ j=>
    obtain⟨w2,a1,a2⟩:=h1 j (by simpa using hj)
    exact⟨w2,by grind[atA_cons],by grind[atA_cons]⟩
  |pan u=>simp_all
  |out=>simp_all
theorem fold_pan:∀(l:List Ex) (s:AS) (m:Int) (t:AS),foldA own l s m = .pan t->∃k,k<l.length/\(∀j,j<k->RndOk own l s m j)/\own (l.getD k Ex.none) (atA own l s m k).2 = .pan t
 | [],s,m,t,h=>by cases h
 |x::r,s,m,t,h=>by
  rw[foldA]at h
  cases hx:own x s with
  |ok w s1=>
   rw[hx]at h
   obtain⟨k,h0,h1,h2⟩:=fold_pan r s1 _ t h
   refine⟨k+1,by simpa using h0,λj hj=>?_,by grind[atA_cons]⟩
   cases j with
   |zero=>exact⟨w,by rw[atA_cons hx];exact hx,by rw[atA_cons hx,atA_0,atA_0]⟩
   |succ j=>
    obtain⟨w2,a1,a2⟩:=h1 j (by omega)
    exact⟨w2,by grind[atA_cons],by grind[atA_cons]⟩
  |pan u=>rw[hx]at h;cases h;exact⟨0,by simp,λj hj=>absurd hj (Nat.not_lt_zero _),hx⟩
  |out=>simp_all
def ageAt(p:Pr)(S:List (Key×Int))(f:Nat)(s:AS)(i:Int)(j:Nat):Int×AS:=atA (ownM p S (ageM p S f) i) (partsX (stmtX p i)) ⟨s.ages,putA i true s.opn⟩ 0 j
def ageRnd(p:Pr)(S:List (Key×Int))(f:Nat)(s:AS)(i:Int)(j:Nat):Prop:=RndOk (ownM p S (ageM p S f) i) (partsX (stmtX p i)) ⟨s.ages,putA i true s.opn⟩ 0 j
theorem ageRnd.ok{p:Pr}{S:List (Key×Int)}{f:Nat}{s:AS}{i:Int}{j:Nat}(h:ageRnd p S f s i j):∃w,ownM p S (ageM p S f) i ((partsX (stmtX p i)).getD j Ex.none) (ageAt p S f s i j).2 = .ok w (ageAt p S f s i (j+1)).2/\(ageAt p S f s i (j+1)).1=mm2 true (ageAt p S f s i j).1 w:=h
section
variable {p : Pr} {S : List (Key × Int)} {f : Nat} {s s' : AS} {i v n : Int} {b : Bool} {r : AR}
theorem age_no(hb:lkA i s.opn=some b)(h:b=true)(hh:ageM p S (f+1) s i=r):.pan s=r:=by
 subst h
 have ho:isOpn s i=true:=by rw[isOpn,hb]
 rwa[ageM,if_pos ho]at hh
theorem age_o1(hb:lkA i s.opn=some b)(h:b=false):isOpn s i=false:=by rw[isOpn,hb,h]
theorem age_o2(hb:lkA i s.opn=none):isOpn s i=false:=by rw[isOpn,hb]
theorem age_memo(ho:isOpn s i=false)(ha:lkA i s.ages=some n)(hh:ageM p S (f+1) s i=r):.ok n s=r:=by rwa[ageM,ho,if_neg (by decide),ha]at hh
theorem ok_inj2{s t:AS}{a b:Int}(h:AR.ok a s = .ok b t):b=a/\t=s:=by simp_all
theorem age_go(ho:isOpn s i=false)(ha:lkA i s.ages=none)(hh:ageM p S (f+1) s i = .ok v s'):(0<=i/\i<p.stmts.length)/\(∀j,j<(partsX (stmtX p i)).length->ageRnd p S f s i j)/\v=(ageAt p S f s i (partsX (stmtX p i)).length).1/\s'=⟨putA i (ageAt p S f s i (partsX (stmtX p i)).length).1 (ageAt p S f s i (partsX (stmtX p i)).length).2.ages,putA i false (ageAt p S f s i (partsX (stmtX p i)).length).2.opn⟩:=by
 rw[ageM,ho,if_neg (by decide),ha]at hh
 simp only at hh
 split at hh<;>try(cases hh)
 rename_i q
 simp at q
 cases hf:foldA (ownM p S (ageM p S f) i) (partsX (stmtX p i)) ⟨s.ages,putA i true s.opn⟩ 0 with
 |ok m t=>
  rw[hf]at hh
  cases hh
  obtain⟨h1,h2⟩:=fold_at _ _ _ _ _ hf
  have h2:ageAt p S f s i (partsX (stmtX p i)).length=(v,t):=h2
  exact⟨q,h1,by rw[h2],by rw[h2]⟩
 |pan t=>simp_all
 |out=>simp_all
theorem age_gop(ho:isOpn s i=false)(ha:lkA i s.ages=none)(hh:ageM p S (f+1) s i = .pan s'):(0<=i/\i<p.stmts.length)/\∃k,k<(partsX (stmtX p i)).length/\(∀j,j<k->ageRnd p S f s i j)/\ownM p S (ageM p S f) i ((partsX (stmtX p i)).getD k Ex.none) (ageAt p S f s i k).2 = .pan s':=by
 rw[ageM,ho,if_neg (by decide),ha]at hh
 simp only at hh
 split at hh<;>try(cases hh)
 rename_i q
 simp at q
 cases hf:foldA (ownM p S (ageM p S f) i) (partsX (stmtX p i)) ⟨s.ages,putA i true s.opn⟩ 0 with
 |ok m t=>simp_all
 |pan t=>
  rw[hf]at hh
  cases hh
  exact⟨q,fold_pan _ _ _ _ hf⟩
 |out=>simp_all
end
theorem stm_at{p:Pr}{n:Int}(h:0<=n/\n<p.stmts.length):0<=n/\(p.stmts.map Sm.cs)[n.toNat]? = some (Sm.cs (p.stmts.getD n.toNat Sm.none)):=by
 simp_all
theorem part_yl{P:Nat->D->Prop}{x:Ex}{n:Nat}(h:∀j,j<n->P j ((partsX x).getD j Ex.none).d):∀j y,j<n->(partsX x)[j]? = some y->P (0+j) y.d:=by
 grind
end Go.Fw.Tl
