/- Ages in a graph of statements: what they are, that they are determined, how great they are. -/
import Derived.Test.YthpbakljheeabaaGreatDoorZTD1
set_option linter.unusedSectionVars false
set_option linter.unusedSimpArgs false
set_option linter.unusedVariables false
namespace Go.Fw.Tl
open Go.Fw Go.Fw.Ref15 Go.Fw.Rg
variable [af]
abbrev Graph:=Nat->List (Nat×Int)
def D6(val:Nat->Int):List (Nat×Int)->Int->Int
 | [],m=>m
 |q::r,m=>D6 val r (mm2 true m (val q.1+q.2))
theorem kV(a b:Int):a<=mm2 true a b/\b<=mm2 true a b/\(mm2 true a b=a\/mm2 true a b=b):=by
 unfold mm2;simp only;split<;>omega
theorem TK(val:Nat->Int):∀(l:List (Nat×Int)) (m:Int),m<=D6 val l m
 | [],m=>Int.le_refl _
 |q::r,m=>Int.le_trans (kV m _).1 (TK val r _)
theorem TL(val:Nat->Int):∀(l:List (Nat×Int)) (m:Int),D6 val l m=m\/∃q∈l,D6 val l m=val q.1+q.2
 | [],m=>.inl rfl
 |q::r,m=>by
  rcases TL val r (mm2 true m (val q.1+q.2))with h |⟨t,ht,h⟩
  ·rcases(kV m (val q.1+q.2)).2.2 with e |e
   ·exact .inl (by rw[D6,h,e])
   ·exact .inr ⟨q,List.mem_cons_self,by rw[D6,h,e]⟩
  ·exact .inr ⟨t,List.mem_cons_of_mem _ ht,by rw[D6,h]⟩
theorem BP{val val':Nat->Int}:∀{l:List (Nat×Int)} {m:Int},(∀q∈l,val q.1=val' q.1)->D6 val l m=D6 val' l m
 | [],_,_=>rfl
 |q::r,m,h=>by
  rw[D6,D6,h q List.mem_cons_self]
  exact BP (l:=r) λt ht=>h t (List.mem_cons_of_mem _ ht)
inductive Age(dep:Graph):Nat->Int->Prop
 |mk (i:Nat) (val:Nat->Int) (h:∀q∈dep i,Age dep q.1 (val q.1)):Age dep i (D6 val (dep i) 0)
theorem Age.inv{dep:Graph}{i:Nat}{v:Int}(h:Age dep i v):∃val:Nat->Int,(∀q∈dep i,Age dep q.1 (val q.1))/\v=D6 val (dep i) 0:=by
 cases h with |mk _ val h=>exact⟨val,h,rfl⟩
theorem Age.unique{dep:Graph}{i:Nat}{v:Int}(h:Age dep i v):∀{w:Int},Age dep i w->v=w:=by
 induction h with
 |mk i val h ih=>
  intro w h2
  obtain⟨val',h3,rfl⟩:=h2.inv
  exact BP λq hq=>ih q hq (h3 q hq)
theorem Age.nonneg{dep:Graph}{i:Nat}{v:Int}(h:Age dep i v):0<=v:=by
 obtain⟨val,_,rfl⟩:=h.inv;exact TK val _ 0
inductive Rc(dep:Graph):Nat->Nat->Prop
 |one {i:Nat} {q:Nat×Int} (h:q∈dep i):Rc dep i q.1
 |step {i k:Nat} {q:Nat×Int} (h:q∈dep i) (h2:Rc dep q.1 k):Rc dep i k
variable {dep : Graph} {wt : Nat → Int}
theorem Rc.trans{i k m:Nat}(h:Rc dep i k)(h2:Rc dep k m):Rc dep i m:=by
 induction h with
 |one h=>exact .step h h2
 |step h _ ih=>exact .step h (ih h2)
theorem Rc.snoc{i k:Nat}(h:Rc dep i k){q:Nat×Int}(hq:q∈dep k):Rc dep i q.1:=h.trans (.one hq)
theorem Age.irr{i:Nat}{v:Int}(h:Age dep i v):¬Rc dep i i:=by
 induction h with
 |mk i val h ih=>
  intro hr
  cases hr with
  |one hq=>exact ih _ hq (.one hq)
  |step hq h2=>exact ih _ hq (h2.trans (.one hq))
def sumW(wt:Nat->Int)(l:List Nat):Int:=(l.map wt).foldr (· + ·) 0
theorem dZ(wt:Nat->Int)(k:Nat)(l:List Nat):sumW wt (k::l)=wt k+sumW wt l:=rfl
theorem Age.path(hw:∀i,∀q∈dep i,q.2<=wt q.1){i:Nat}{v:Int}(h:Age dep i v):∃l:List Nat,l.Nodup/\(∀k∈l,Rc dep i k)/\v<=sumW wt l:=by
 induction h with
 |mk i val h ih=>
  rcases TL val (dep i) 0 with e |⟨q,hq,e⟩
  ·exact⟨[],List.nodup_nil,λk hk=>by simp at hk,by rw[e];exact Int.le_refl _⟩
  ·obtain⟨l,hn,hr,hv⟩:=ih q hq
   refine⟨q.1::l,List.nodup_cons.2 ⟨λhm=>(h q hq).irr (hr _ hm),hn⟩,λk hk=>?_,?_⟩
   ·rcases List.mem_cons.1 hk with rfl |hk
    ·exact .one hq
    ·exact .step hq (hr k hk)
   ·rw[e,dZ];have:=hw i q hq;omega
theorem zL(wt:Nat->Int)(f:Nat->Bool):∀l:List Nat,sumW wt l=sumW wt (l.filter f)+sumW wt (l.filter λk=>!f k)
 | []=>rfl
 |k::r=>by
  rw[dZ,zL wt f r]
  cases h:f k<;>simp only[List.filter_cons,h,Bool.not_true,Bool.not_false,if_true,Bool.false_eq_true,if_false,dZ]<;>omega
theorem JB{wt:Nat->Int}{m:Nat}:∀{l:List Nat},l.Nodup->(∀k∈l,k=m)->l = []\/l = [m]
 | [],_,_=>.inl rfl
 | [k],_,h=>.inr (by rw[h k List.mem_cons_self])
 |k::k'::r,hn,h=>by
  have h1:=h k List.mem_cons_self
  have h2:=h k' (List.mem_cons_of_mem _ List.mem_cons_self)
  subst h1
  exact absurd (h2 ▸ List.mem_cons_self) (List.nodup_cons.1 hn).1
theorem vS(h0:∀k,0<=wt k):∀(m:Nat) {l:List Nat},l.Nodup->(∀k∈l,k<m)->sumW wt l<=sumW wt (List.range m)
 | 0,l,_,h=>by
  cases l with
  |nil=>exact Int.le_refl _
  |cons k r=>exact absurd (h k List.mem_cons_self) (Nat.not_lt_zero _)
 |m+1,l,hn,h=>by
  have h1:=vS h0 m (l:=l.filter λk=>decide (k<m)) (hn.filter _) (λk hk=>of_decide_eq_true (List.mem_filter.1 hk).2)
  have h2:sumW wt (l.filter λk=>!decide (k<m))<=wt m:=by
   rcases JB (wt:=wt) (m:=m) (hn.filter _) (l:=l.filter λk=>!decide (k<m)) (λk hk=>by
    have hk:=List.mem_filter.1 hk
    have:=h k hk.1
    have:=hk.2
    simp only[Bool.not_eq_true',decide_eq_false_iff_not]at this
    omega)with e |e
   ·rw[e];exact h0 m
   ·rw[e,dZ];show wt m+0<=wt m;omega
  have h3:sumW wt (List.range (m+1))=sumW wt (List.range m)+wt m:=by
   rw[List.range_succ]
   generalize List.range m=q
   induction q with
   |nil=>simp[sumW]
   |cons a r ih=>rw[List.cons_append,dZ,dZ,ih];omega
  rw[zL wt (λk=>decide (k<m)) l,h3]
  omega
def Yk(n:Nat)(s:AS):Nat:=(List.range n).countP λk:Nat=>!iD s (k:Int)
theorem zM{α:Type}{k j:Int}{v:α}:∀{l:List (Int×α)},lkA j (mM k v l)=if j==k then some v else lkA j l
 | []=>by simp only[mM,lkA]
 |(a,w)::r=>by
  simp only[mM]
  by_cases h:(k==a)=true
  ·have h:=eq_of_beq h
   subst h
   simp only[beq_self_eq_true,if_true,lkA]
   split<;>rfl
  ·simp only[h,Bool.false_eq_true,if_false,lkA,zM (l:=r)]
   by_cases hj:(j==a)=true
   ·have hj':=eq_of_beq hj
    have:(j==k)=false:=by
     rw[hj'];rw[Bool.eq_false_iff];intro e;exact h (by rw[eq_of_beq e];exact beq_self_eq_true _)
    simp only[hj,if_true,this,Bool.false_eq_true,if_false]
   ·simp only[hj,Bool.false_eq_true,if_false]
theorem o8(a:List (Int×Int))(o:List (Int×Bool))(k j:Int)(b:Bool):iD ⟨a,mM k b o⟩ j=if j==k then b else iD ⟨a,o⟩ j:=by
 simp only[iD,zM]
 by_cases h:(j==k)=true
 ·simp only[h,if_true]
 ·simp only[h,Bool.false_eq_true,if_false]
def JC(p:Pr)(S:List (Key×Int))(i:Nat)(x:Ex):Option (Nat×Int):=
 if x.kind==5 then some (x.index.toNat,0)
 else if x.kind==4 then match lkK (2,x.index) S with
  |some b=>some (b.toNat,if b<(i:Int)then 0 else 1)
  |none=>none
 else if x.kind==8 then match lkK (3,x.index) S with
  |some b=>some (b.toNat,(bY p x.index).size)
  |none=>none
 else none
def qh(p:Pr):Graph:=λi=>(aG (bF p i)).filterMap (JC p (aW p) i)
structure GOk(p:Pr):Prop where
 len:p.stmts.length<=1048576
 idx:∀i,i<p.stmts.length->∀x∈aG (bF p i),(x.kind==5)=true->0<=x.index/\x.index<p.stmts.length
 set:∀k b,lkK k (aW p)=some b->0<=b/\b<p.stmts.length
 siz:∀i,i<p.stmts.length->∀x∈aG (bF p i),(x.kind==8)=true->(0<=(bY p x.index).size/\(bY p x.index).size<=65536)/\(decide (0<=x.index)&&decide (x.index<p.lines.length))=true
 bnd:∀i v,Age (qh p) i v->v<=4611686018427387904
theorem z5p{p:Pr}(g:GOk p){i:Nat}(hi:i<p.stmts.length){x:Ex}(hx:x∈aG (bF p i)){q:Nat×Int}(h:JC p (aW p) i x=some q):q.1<p.stmts.length:=by
 unfold JC at h
 split at h
 ·rename_i h5;cases h;have:=g.idx i hi x hx h5;simp only;omega
 ·split at h
  ·split at h
   ·rename_i b hb;cases h;have:=g.set _ _ hb;simp only;omega
   ·cases h
  ·split at h
   ·split at h
    ·rename_i b hb;cases h;have:=g.set _ _ hb;simp only;omega
    ·cases h
   ·cases h
theorem Wx{p:Pr}{i:Nat}{x:Ex}{s:AS}{age:AS->Int->AR}(h:JC p (aW p) i x=none):rD p (aW p) age i x s = .ok 0 s:=by
 unfold JC at h;unfold rD
 split at h
 ·cases h
 ·rename_i h5
  rw[if_neg h5]
  split at h
  ·rename_i h4
   rw[if_pos h4]
   split at h
   ·cases h
   ·rename_i e;rw[e]
  ·rename_i h4
   rw[if_neg h4]
   split at h
   ·rename_i h8
    rw[if_pos h8]
    split at h
    ·cases h
    ·rename_i e;rw[e]
   ·rename_i h8;rw[if_neg h8]
theorem Me{p:Pr}(g:GOk p){i:Nat}(hi:i<p.stmts.length){x:Ex}(hx:x∈aG (bF p i)){q:Nat×Int}{s s':AS}{age:AS->Int->AR}{v:Int}(h:JC p (aW p) i x=some q)(ha:age s q.1 = .ok v s')(hv:Age (qh p) q.1 v):rD p (aW p) age i x s = .ok (v+q.2) s':=by
 have h0:=hv.nonneg
 have h1:=g.bnd _ _ hv
 have hw:∀w:Int,0<=w->w<=65536->IntKind.i64.wrap (v+w)=v+w:=λw h2 h3=>bI (by omega) (by omega)
 unfold JC at h;unfold rD
 split at h
 ·rename_i h5
  cases h
  rw[if_pos h5]
  have:=g.idx i hi x hx h5
  rw[Int.toNat_of_nonneg this.1]at ha
  rw[ha,Int.add_zero]
 ·rename_i h5
  rw[if_neg h5]
  split at h
  ·rename_i h4
   rw[if_pos h4]
   split at h
   ·rename_i b e
    cases h
    have:=g.set _ _ e
    rw[Int.toNat_of_nonneg this.1]at ha
    simp only[e]
    by_cases hb:b<(i:Int)
    ·simp only[hb,if_true];rw[ha,Int.add_zero]
    ·simp only[hb,if_false];rw[ha,AR.add,hw 1 (by omega) (by omega)]
   ·cases h
  ·rename_i h4
   rw[if_neg h4]
   split at h
   ·rename_i h8
    rw[if_pos h8]
    split at h
    ·rename_i b e
     cases h
     have:=g.set _ _ e
     rw[Int.toNat_of_nonneg this.1]at ha
     have hs:=g.siz i hi x hx h8
     simp only[e,hs.2,if_true]
     rw[ha,AR.add,hw _ hs.1.1 hs.1.2]
    ·cases h
   ·cases h
theorem JD{p:Pr}(g:GOk p){i:Nat}(hi:i<p.stmts.length){x:Ex}(hx:x∈aG (bF p i)){q:Nat×Int}{s:AS}{age:AS->Int->AR}{t:AS}(h:JC p (aW p) i x=some q)(ha:age s q.1 = .pan t):rD p (aW p) age i x s = .pan t:=by
 unfold JC at h;unfold rD
 split at h
 ·rename_i h5
  cases h
  rw[if_pos h5]
  have:=g.idx i hi x hx h5
  rwa[Int.toNat_of_nonneg this.1]at ha
 ·rename_i h5
  rw[if_neg h5]
  split at h
  ·rename_i h4
   rw[if_pos h4]
   split at h
   ·rename_i b e
    cases h
    have:=g.set _ _ e
    rw[Int.toNat_of_nonneg this.1]at ha
    simp only[e]
    split<;>rw[ha]<;>rfl
   ·cases h
  ·rename_i h4
   rw[if_neg h4]
   split at h
   ·rename_i h8
    rw[if_pos h8]
    split at h
    ·rename_i b e
     cases h
     have:=g.set _ _ e
     rw[Int.toNat_of_nonneg this.1]at ha
     simp only[e,(g.siz i hi x hx h8).2,if_true]
     rw[ha];rfl
    ·cases h
   ·cases h
open Classical in
noncomputable def vOf(dep:Graph)(k:Nat):Int:=if h:∃v,Age dep k v then h.choose else 0
theorem z5q{dep:Graph}{k:Nat}{v:Int}(h:Age dep k v):vOf dep k=v:=by
 have he:∃v,Age dep k v:=⟨v,h⟩
 rw[vOf,dif_pos he]
 exact he.choose_spec.unique h
structure z5r(dep:Graph)(s:AS):Prop where
 ages:∀(k:Nat) (v:Int),lkA (k:Int) s.ages=some v->Age dep k v
def z0r(s s':AS):Prop:=∀k:Int,iD s' k=iD s k
def DOk(p:Pr)(f:Nat):Prop:=∀(s:AS) (i:Nat),i<p.stmts.length->z5r (qh p) s->(∀o:Nat,iD s (o:Int)=true->Rc (qh p) o i)->Yk p.stmts.length s<f ->
 (∃v s',pU p (aW p) f s i = .ok v s'/\Age (qh p) i v/\z5r (qh p) s'/\z0r s s')\/((∃t,pU p (aW p) f s i = .pan t)/\¬∃v,Age (qh p) i v)
theorem TM{n:Nat}{s s':AS}(h:z0r s s'):Yk n s'=Yk n s:=by
 unfold Yk;congr 1;funext k;rw[h]
theorem JE{p:Pr}(g:GOk p){f:Nat}(ih:DOk p f){i:Nat}(hi:i<p.stmts.length):∀(l:List Ex) (s:AS) (m:Int),(∀x∈l,x∈aG (bF p i))->z5r (qh p) s->(∀o:Nat,iD s (o:Int)=true->o=i\/Rc (qh p) o i)->Yk p.stmts.length s<f->0<=m ->
  (∃s',rE (rD p (aW p) (pU p (aW p) f) i) l s m = .ok (D6 (vOf (qh p)) (l.filterMap (JC p (aW p) i)) m) s'/\(∀q∈l.filterMap (JC p (aW p) i),Age (qh p) q.1 (vOf (qh p) q.1))/\z5r (qh p) s'/\z0r s s') \/
  ((∃t,rE (rD p (aW p) (pU p (aW p) f) i) l s m = .pan t)/\∃q∈l.filterMap (JC p (aW p) i),¬∃v,Age (qh p) q.1 v)
 | [],s,m,_,hs,_,_,_=>.inl ⟨s,rfl,λq hq=>by simp at hq,hs,λ_=>rfl⟩
 |x::r,s,m,hl,hs,ho,hf,hm=>by
  have hx:=hl x List.mem_cons_self
  have hr:∀y∈r,y∈aG (bF p i):=λy hy=>hl y (List.mem_cons_of_mem _ hy)
  cases hd:JC p (aW p) i x with
  |none=>
   have hm0:mm2 true m 0=m:=by unfold mm2;simp only;rw[if_neg (by omega)]
   simp only[rE,Wx hd,hm0,List.filterMap_cons,hd]
   exact JE g ih hi r s m hr hs ho hf hm
  |some q=>
   have hq:q∈qh p i:=List.mem_filterMap.2 ⟨x,hx,hd⟩
   have hqn:=z5p g hi hx hd
   rcases ih s q.1 hqn hs (λo h=>by
    rcases ho o h with e |e
    ·exact e ▸ .one hq
    ·exact e.snoc hq) hf with⟨v,s',e1,e2,e3,e4⟩ |⟨⟨t,e1⟩,e2⟩
   ·have hv:=z5q e2
    have hmx:=(kV m (v+q.2)).1
    simp only[rE,Me g hi hx hd e1 e2,List.filterMap_cons,hd,D6,hv]
    rcases JE g ih hi r s' (mm2 true m (v+q.2)) hr e3 (λo h=>ho o (by rw[<-e4];exact h)) (by rw[TM e4];exact hf) (by omega)with⟨s2,a1,a2,a3,a4⟩ |⟨a1,t,a2,a3⟩
    ·refine .inl ⟨s2,a1,λt ht=>?_,a3,λk=>(a4 k).trans (e4 k)⟩
     rcases List.mem_cons.1 ht with rfl |ht
     ·rw[hv];exact e2
     ·exact a2 t ht
    ·exact .inr ⟨a1,t,List.mem_cons_of_mem _ a2,a3⟩
   ·refine .inr ⟨⟨t,?_⟩,q,?_,e2⟩
    ·simp only[rE,JD g hi hx hd e1]
    ·simp only[List.filterMap_cons,hd];exact List.mem_cons_self
theorem Wy{n:Nat}{s:AS}{i:Nat}(hi:i<n)(h:iD s i=false):Yk n ⟨s.ages,mM (i:Int) true s.opn⟩+1=Yk n s:=by
 unfold Yk
 have key:∀m,m<=n->((List.range m).countP λk:Nat=>!iD ⟨s.ages,mM (i:Int) true s.opn⟩ (k:Int))+(if i<m then 1 else 0)=(List.range m).countP λk:Nat=>!iD s (k:Int):=by
  intro m
  induction m with
  |zero=>intro _;simp
  |succ m ih=>
   intro hm
   have ih:=ih (by omega)
   simp only[List.range_succ,List.countP_append,List.countP_singleton,o8]
   have hs:iD (⟨s.ages,s.opn⟩:AS) (m:Int)=iD s m:=rfl
   rw[hs]
   by_cases e:m=i
   ·subst e
    simp only[beq_self_eq_true,if_true,h,Bool.not_true,Bool.not_false,Bool.false_eq_true,if_false]
    rw[if_neg (by omega)]at ih
    rw[if_pos (by omega)]
    simp only[o8]at ih
    omega
   ·have:(((m:Nat):Int)==(i:Int))=false:=by rw[Bool.eq_false_iff];intro q;exact e (by have:=eq_of_beq q;omega)
    simp only[this,Bool.false_eq_true,if_false]
    simp only[o8]at ih
    have hh:(if i<m+1 then 1 else 0)=(if i<m then 1 else 0):=by
     by_cases q:i<m
     ·rw[if_pos q,if_pos (by omega)]
     ·rw[if_neg q,if_neg (by omega)]
    rw[hh]
    omega
 have:=key n (Nat.le_refl n)
 rwa[if_pos hi]at this
theorem Yl{p:Pr}(g:GOk p):∀f,DOk p f
 | 0=>λ_ _ _ _ _ h=>absurd h (Nat.not_lt_zero _)
 |f+1=>λs i hi hs ho hf=>by
  rw[pU]
  by_cases hop:iD s (i:Int)=true
  ·rw[if_pos hop]
   exact .inr ⟨⟨_,rfl⟩,λ⟨v,hv⟩=>hv.irr (ho i hop)⟩
  ·rw[if_neg hop]
   have hop:iD s (i:Int)=false:=by simpa using hop
   cases ha:lkA (i:Int) s.ages with
   |some v=>exact .inl ⟨v,s,rfl,hs.ages i v ha,hs,λ_=>rfl⟩
   |none=>
    have hii:(decide (0<=(i:Int))&&decide ((i:Int)<p.stmts.length))=true:=by simp only[Bool.and_eq_true,decide_eq_true_eq];omega
    simp only[hii,if_true]
    have hc:=Wy hi hop
    have hs1:z5r (qh p) ⟨s.ages,mM (i:Int) true s.opn⟩:=⟨hs.ages⟩
    rcases JE g (Yl g f) hi (aG (bF p i)) ⟨s.ages,mM (i:Int) true s.opn⟩ 0 (λ_ h=>h) hs1 (λo h=>by
     rw[o8]at h
     by_cases e:((o:Int)==(i:Int))=true
     ·exact .inl (by have:=eq_of_beq e;omega)
     ·rw[if_neg e]at h;exact .inr (ho o h)) (by omega) (Int.le_refl _)with⟨s',a1,a2,a3,a4⟩ |⟨⟨t,a1⟩,q,a2,a3⟩
    ·have hAge:Age (qh p) i (D6 (vOf (qh p)) (qh p i) 0):=.mk i _ a2
     refine .inl ⟨D6 (vOf (qh p)) (qh p i) 0,⟨mM (i:Int) (D6 (vOf (qh p)) (qh p i) 0) s'.ages,mM (i:Int) false s'.opn⟩,by rw[a1]<;>rfl,hAge,⟨λk v h=>?_⟩,λk=>?_⟩
     ·simp only[zM]at h
      by_cases e:((k:Int)==(i:Int))=true
      ·rw[if_pos e]at h;cases h
       have:k=i:=by have:=eq_of_beq e;omega
       rw[this];exact hAge
      ·rw[if_neg e]at h;exact a3.ages k v h
     ·have h1:=a4 k
      rw[o8]at h1 ⊢
      have h2:iD (⟨mM (i:Int) (D6 (vOf (qh p)) (qh p i) 0) s'.ages,s'.opn⟩:AS) k=iD s' k:=rfl
      have h3:iD (⟨s.ages,s.opn⟩:AS) k=iD s k:=rfl
      by_cases e:(k==(i:Int))=true
      ·rw[if_pos e,eq_of_beq e,hop]
      ·rw[if_neg e,h2,h1,if_neg e,h3]
    ·refine .inr ⟨⟨t,by rw[a1]⟩,λ⟨v,hv⟩=>?_⟩
     obtain⟨val,h,_⟩:=hv.inv
     exact a3 ⟨_,h q a2⟩
end Go.Fw.Tl
namespace Go.Fw.Tl
open Go.Fw Go.Fw.Ref15 Go.Fw.Rg
variable [af] {p : Pr} {i : Nat}
theorem zN:∀(r:List Sm) (i:Nat) (out:Bool),di p r i out = .ok r->∀(j:Nat) (s:Sm),r[j]? = some s->bZ p s=s.index/\0<=s.index/\again p (i+j) s=false
 | [],_,_,_,j,s,h=>by simp at h
 |t::r,i,out,h,j,s,hj=>by
  rw[di]at h
  split at h
  ·cases h
  ·split at h
   ·cases h
   ·rename_i h2
    split at h
    ·cases h
    ·rename_i h3
     cases hr:di p r (i+1) (t.kind==4)with
     |error e=>rw[hr]at h;cases h
     |ok l=>
      rw[hr]at h
      simp only[Except.ok.injEq,List.cons.injEq]at h
      have h1:bZ p t=t.index:=congrArg Sm.index h.1
      cases j with
      |zero=>
       simp only[List.getElem?_cons_zero,Option.some.injEq]at hj
       subst hj
       refine⟨h1,?_,by simpa using h3⟩
       rw[<-h1];simp only[decide_eq_true_eq]at h2;omega
      |succ j=>
       simp only[List.getElem?_cons_succ]at hj
       have:=zN r (i+1) _ (by rw[hr,h.2]) j s hj
       rwa[show i+1+j=i+(j+1)by omega]at this
theorem D7:∀(r:List Sm) (i:Nat),uf p i r=true->∀(j:Nat) (s:Sm),r[j]? = some s->wfS p (i+j) s=true
 | [],_,_,j,s,h=>by simp at h
 |t::r,i,h,j,s,hj=>by
  cases j with
  |zero=>
   simp only[List.getElem?_cons_zero,Option.some.injEq]at hj
   subst hj
   simp only[uf,Bool.and_eq_true]at h;exact h.1
  |succ j=>
   simp only[List.getElem?_cons_succ]at hj
   have:=D7 r (i+1) (oU h) j s hj
   rwa[show i+1+j=i+(j+1)by omega]at this
theorem MB{n:Nat}:∀x:Ex,wfX p n x=true->∀y∈aG x,wfX p n y=true:=by
 refine Ex.ind λx ih=>?_
 intro h y hy
 rw[jE]at hy
 rcases List.mem_cons.1 hy with rfl |hy
 ·exact h
 ·obtain⟨z,hz,hy⟩:=mF.1 hy
  exact ih z hz (iC (bQ h).2.2 z hz) y hy
theorem pV{a b:Key}:Md a b=true↔a=b:=by
 unfold Md
 cases h:a.1==b.1
 ·simp only[cond_false,Bool.false_eq_true,false_iff]
  intro e;rw[e]at h;simp at h
 ·simp only[cond_true,beq_iff_eq]
  exact⟨λe=>Prod.ext (eq_of_beq h) e,λe=>by rw[e]⟩
theorem TN{α:Type}{k j:Key}{v:α}:∀{l:List (Key×α)},lkK j (TC k v l)=if Md j k then some v else lkK j l
 | []=>by simp only[TC,lkK]
 |(a,w)::r=>by
  simp only[TC]
  by_cases h:Md k a=true
  ·have h:=pV.1 h
   subst h
   simp only[pV.2 rfl,if_true,lkK]
   split<;>rfl
  ·simp only[h,Bool.false_eq_true,if_false,lkK,TN (l:=r)]
   by_cases hj:Md j a=true
   ·have hj':=pV.1 hj
    have:Md j k=false:=by
     rw[Bool.eq_false_iff];intro e;exact h (pV.2 ((pV.1 e).symm.trans hj'))
    simp only[hj,if_true,this,Bool.false_eq_true,if_false]
   ·simp only[hj,Bool.false_eq_true,if_false]
theorem MC{k:Key}{b:Int}:∀(r:List Sm) (i:Nat) (S:List (Key×Int)),lkK k (Wv r i S)=some b->lkK k S=some b\/∃(j:Nat) (s:Sm),r[j]? = some s/\b=((i+j:Nat):Int)/\sets s.kind=true/\k=(s.kind,s.index)
 | [],_,_,h=>.inl h
 |t::r,i,S,h=>by
  rw[Wv]at h
  rcases MC r (i+1) _ h with q |⟨j,s,h1,h2,h3,h4⟩
  ·split at q
   ·rename_i hs
    rw[TN]at q
    split at q
    ·rename_i e
     cases q
     exact .inr ⟨0,t,rfl,rfl,hs,pV.1 e⟩
    ·exact .inl q
   ·exact .inl q
  ·exact .inr ⟨j+1,s,h1,by rw[h2];congr 1;omega,h3,h4⟩
theorem Gz{k:Key}{b:Int}(h:lkK k (aW p)=some b):∃(j:Nat) (s:Sm),p.stmts[j]? = some s/\b=(j:Int)/\sets s.kind=true/\k=(s.kind,s.index):=by
 rcases MC p.stmts 0 [] h with q |⟨j,s,h1,h2,h3,h4⟩
 ·simp[lkK]at q
 ·exact⟨j,s,h1,by rw[h2];congr 1;omega,h3,h4⟩
def wt2(p:Pr)(k:Nat):Int:=if(p.stmts.getD k Sm.none).kind==2 then 1 else 0
def lsz(p:Pr)(k:Nat):Int:=mm2 true 0 (p.lines.getD k Ln.none).size
def wt3(p:Pr)(k:Nat):Int:=if(p.stmts.getD k Sm.none).kind==3 then lsz p (p.stmts.getD k Sm.none).index.toNat else 0
def wtP(p:Pr)(k:Nat):Int:=wt2 p k+wt3 p k
theorem BQ(p:Pr)(k:Nat):0<=lsz p k:=(kV _ _).1
theorem BR(p:Pr)(k:Nat):0<=wt2 p k:=by unfold wt2;split<;>omega
theorem BU(p:Pr)(k:Nat):0<=wt3 p k:=by
 unfold wt3;split
 ·exact BQ _ _
 ·omega
theorem bg{α:Type}{l:List α}{a d:α}(h:l[i]? = some a):l.getD i d=a:=by rw[List.getD_eq_getElem?_getD,h];rfl
theorem z5s{q:Nat×Int}(h:q∈qh p i):q.2<=wtP p q.1:=by
 obtain⟨x,_,h⟩:=List.mem_filterMap.1 h
 have h2:=BR p q.1
 have h3:=BU p q.1
 unfold JC at h
 split at h
 ·cases h;unfold wtP;simp only at h2 h3 ⊢;omega
 ·split at h
  ·split at h
   ·rename_i b hb
    obtain⟨j,s,e1,e2,_,e4⟩:=Gz hb
    cases h
    have hk:s.kind=2:=(congrArg Prod.fst e4).symm
    have:wt2 p b.toNat=1:=by
     rw[wt2,e2,Int.toNat_natCast,bg e1,hk];rfl
    simp only[wtP]at h2 h3 ⊢
    split<;>omega
   ·cases h
  ·split at h
   ·split at h
    ·rename_i b hb
     obtain⟨j,s,e1,e2,_,e4⟩:=Gz hb
     cases h
     have hk:s.kind=3:=(congrArg Prod.fst e4).symm
     have hx:s.index=x.index:=(congrArg Prod.snd e4).symm
     have:wt3 p b.toNat=lsz p x.index.toNat:=by
      rw[wt3,e2,Int.toNat_natCast,bg e1,hk,hx];rfl
     have h4:(bY p x.index).size<=lsz p x.index.toNat:=(kV _ _).2.1
     simp only[wtP]at h2 h3 ⊢
     omega
    ·cases h
   ·cases h
theorem MF(g:Nat->Int)(f:Nat->Nat)(c:Nat->Bool):∀l:List Nat,sumW (λk=>if c k then g (f k)else 0) l=sumW g ((l.filter c).map f)
 | []=>rfl
 |k::r=>by
  rw[dZ,MF g f c r]
  cases h:c k
  ·rw[List.filter_cons_of_neg (by simp[h])];simp
  ·rw[List.filter_cons_of_pos h,List.map_cons,dZ];simp
theorem GG{f:Nat->Nat}:∀{l:List Nat},l.Nodup->(∀a∈l,∀b∈l,f a=f b->a=b)->(l.map f).Nodup
 | [],_,_=>List.nodup_nil
 |k::r,h,hf=>by
  rw[List.map_cons,List.nodup_cons]
  refine⟨λhm=>?_,GG (List.nodup_cons.1 h).2 λa ha b hb=>hf a (List.mem_cons_of_mem _ ha) b (List.mem_cons_of_mem _ hb)⟩
  obtain⟨b,hb,e⟩:=List.mem_map.1 hm
  have:=hf b (List.mem_cons_of_mem _ hb) k List.mem_cons_self e
  exact(List.nodup_cons.1 h).1 (this ▸ hb)
theorem MG{g:Nat->Int}{f:Nat->Nat}{c:Nat->Bool}{n m:Nat}(h0:∀k,0<=g k)(hi:∀a,a<n->∀b,b<n->c a=true->c b=true->f a=f b->a=b)(hm:∀a,a<n->c a=true->f a<m):sumW (λk=>if c k then g (f k)else 0) (List.range n)<=sumW g (List.range m):=by
 rw[MF]
 refine vS h0 m (GG (List.nodup_range.filter _) λa ha b hb=>?_) λk hk=>?_
 ·have ha:=List.mem_filter.1 ha
  have hb:=List.mem_filter.1 hb
  exact hi a (List.mem_range.1 ha.1) b (List.mem_range.1 hb.1) ha.2 hb.2
 ·obtain⟨a,ha,rfl⟩:=List.mem_map.1 hk
  have ha:=List.mem_filter.1 ha
  exact hm a (List.mem_range.1 ha.1) ha.2
theorem MH(f g:Nat->Int):∀l:List Nat,sumW (λk=>f k+g k) l=sumW f l+sumW g l
 | []=>rfl
 |k::r=>by rw[dZ,dZ,dZ,MH f g r];omega
theorem WA:∀n:Nat,sumW (λ_=>1) (List.range n)=(n:Int):=by
 have:∀l:List Nat,sumW (λ_=>1) l=(l.length:Int):=by
  intro l
  induction l with
  |nil=>rfl
  |cons a r ih=>rw[dZ,ih,List.length_cons];omega
 intro n;rw[this,List.length_range]
theorem MI(h:Res p){i j:Nat}{s t:Sm}(hi:p.stmts[i]? = some s)(hj:p.stmts[j]? = some t)(hs:sets s.kind=true)(hk:t.kind=s.kind)(hx:t.index=s.index):¬i<j:=by
 intro hl
 have a1:=zN p.stmts 0 false h.ru i s hi
 have a2:=zN p.stmts 0 false h.ru j t hj
 have hn:t.name=s.name:=by
  have h1:=a1.1;have h2:=a2.1
  have key:∀(l:List Str) (a b:Str),find l a=find l b->0<=find l a->a=b:=by
   intro l a b e h0
   have hg:∀(l:List Str) (a:Str) (i:Int),0<=i->0<=aV a l i->i<=aV a l i/\l[(aV a l i-i).toNat]? = some a:=by
    intro l a
    induction l with
    |nil=>intro i hi h;simp[aV]at h
    |cons x r ih=>
     intro i hi h
     simp only[aV]at h ⊢
     split at h
     ·rename_i e
      rw[if_pos e]
      refine⟨Int.le_refl _,?_⟩
      rw[Int.sub_self];simp only[Int.toNat_zero,List.getElem?_cons_zero]
      rw[eq_of_beq e]
     ·rename_i e
      rw[if_neg e]
      have:=ih (i+1) (by omega) h
      refine⟨by omega,?_⟩
      rw[show(aV a r (i+1)-i).toNat=(aV a r (i+1)-(i+1)).toNat+1 by omega,List.getElem?_cons_succ]
      exact this.2
   have g1:=(hg l a 0 (Int.le_refl _) h0).2
   have g2:=(hg l b 0 (Int.le_refl _) (by rw[<-find,<-e];exact h0)).2
   rw[<-find]at g1 g2
   rw[e,g2]at g1
   exact(Option.some.inj g1).symm
  simp only[bZ,hk]at h1 h2
  simp only[sets]at hs
  by_cases h3:(s.kind==3)=true
  ·rw[if_pos h3]at h1 h2
   exact key (Ref15.lines p) _ _ (by rw[h2,hx,h1]) (by rw[h2];exact a2.2.1)
  ·rw[if_neg h3]at h1 h2
   have h4:(s.kind==2)=true:=by
    cases q:s.kind==2
    ·rw[q]at hs;exact absurd hs h3
    ·rfl
   rw[if_pos h4]at h1 h2
   exact key (bounds p.states) _ _ (by rw[h2,hx,h1]) (by rw[h2];exact a2.2.1)
 have ha:=a2.2.2
 rw[Nat.zero_add,again,List.any_eq_false]at ha
 have hm:s∈p.stmts.take j:=List.mem_of_getElem? (by rw[List.getElem?_take_of_lt hl];exact hi)
 have:=ha s hm
 rw[hk,hn]at this
 have h1:(s.kind != 1)=true:=by
  cases q:s.kind==1
  ·simp[bne,q]
  ·have q:=eq_of_beq q
   rw[q]at hs;exact absurd hs (by decide)
 simp[h1]at this
theorem z81(h:Res p):(p.params.length<=16/\p.states.length<=16/\p.lines.length<=16/\p.tables.length<=16/\p.stmts.length<=64)/\(∀l∈p.lines,1<=l.size/\l.size<=65536)/\(0<=p.latency/\p.latency<=4096)/\(-1<=p.tail/\p.tail<=1048576):=by
 have:=h.li
 simp only[limited,few,memOk,BD,Bool.and_eq_true,Bool.not_eq_true',Bool.or_eq_false_iff,decide_eq_false_iff_not,decide_eq_true_eq,List.all_eq_true]at this
 obtain⟨⟨⟨⟨h1,h2⟩,_⟩,_⟩,h5⟩:=this
 exact⟨by omega,λl hl=>by have:=h2 l hl;omega,by omega,by omega⟩
theorem z0s(h:Res p):0<p.stmts.length:=by
 have:=h.ru
 cases e:p.stmts with
 |nil=>rw[e,di]at this;simp at this
 |cons s r=>simp
theorem D8{s:Sm}(h:p.stmts[i]? = some s):bF p (i:Int)=s.x:=by rw[bF,Int.toNat_natCast,bg h]
theorem o9{α:Type}{l:List α}(h:i<l.length):∃a,l[i]? = some a:=⟨_,List.getElem?_eq_getElem h⟩
theorem lW(h:Res p)(hi:i<p.stmts.length){x:Ex}(hx:x∈aG (bF p i)):wfX p i x=true:=by
 obtain⟨s,hs⟩:=o9 hi
 rw[D8 hs]at hx
 have:=D7 p.stmts 0 h.wf i s hs
 rw[Nat.zero_add,wfS,Bool.and_eq_true]at this
 exact MB s.x this.1 x hx
theorem z0t(h:Res p):sumW (wtP p) (List.range p.stmts.length)<=(p.states.length:Int)+sumW (lsz p) (List.range p.lines.length):=by
 have e:wtP p=λk=>wt2 p k+wt3 p k:=rfl
 rw[e,MH]
 have inj:∀c:Int,(c==2 || c==3)=true->∀a,a<p.stmts.length->∀b,b<p.stmts.length->((p.stmts.getD a Sm.none).kind==c)=true->((p.stmts.getD b Sm.none).kind==c)=true->(p.stmts.getD a Sm.none).index.toNat=(p.stmts.getD b Sm.none).index.toNat->a=b:=by
  intro c hc a ha b hb h1 h2 h3
  obtain⟨s,hs⟩:=o9 ha
  obtain⟨t,ht⟩:=o9 hb
  rw[bg hs]at h1 h3
  rw[bg ht]at h2 h3
  have h1:=eq_of_beq h1
  have h2:=eq_of_beq h2
  have g1:=(zN p.stmts 0 false h.ru a s hs).2.1
  have g2:=(zN p.stmts 0 false h.ru b t ht).2.1
  have hk:∀k:Int,k=c->sets k=true:=by
   intro k e;subst e
   simp only[Bool.or_eq_true,beq_iff_eq]at hc
   rcases hc with rfl |rfl<;>rfl
  have q1:=MI h hs ht (hk _ h1) (h2.trans h1.symm) (by omega)
  have q2:=MI h ht hs (hk _ h2) (h1.trans h2.symm) (by omega)
  omega
 have wfa:∀a,a<p.stmts.length->∀s,p.stmts[a]? = some s->wfS p a s=true:=λa _ s hs=>by
  have:=D7 p.stmts 0 h.wf a s hs
  rwa[Nat.zero_add]at this
 have h2:=MG (g:=λ_=>1) (f:=λk=>(p.stmts.getD k Sm.none).index.toNat) (c:=λk=>(p.stmts.getD k Sm.none).kind==2) (n:=p.stmts.length) (m:=p.states.length) (λ_=>by decide) (inj 2 rfl) (λa ha hc=>by
  obtain⟨s,hs⟩:=o9 ha
  have:=wfa a ha s hs
  rw[bg hs]at hc ⊢
  simp only[wfS,Bool.and_eq_true,hc,Bool.not_true,Bool.false_or,decide_eq_true_eq]at this
  omega)
 have h3:=MG (g:=lsz p) (f:=λk=>(p.stmts.getD k Sm.none).index.toNat) (c:=λk=>(p.stmts.getD k Sm.none).kind==3) (n:=p.stmts.length) (m:=p.lines.length) (BQ p) (inj 3 rfl) (λa ha hc=>by
  obtain⟨s,hs⟩:=o9 ha
  have:=wfa a ha s hs
  rw[bg hs]at hc ⊢
  simp only[wfS,Bool.and_eq_true,hc,Bool.not_true,Bool.false_or,decide_eq_true_eq]at this
  omega)
 rw[WA]at h2
 exact Int.add_le_add h2 h3
theorem WB(h:p.stmts.length<=i):qh p i = []:=by
 have:bF p i=Ex.none:=by rw[bF,Int.toNat_natCast,List.getD_eq_getElem?_getD,List.getElem?_eq_none h];rfl
 rw[qh,this,jE]
 rfl
theorem z88(h:∀i,i<p.stmts.length->∀q∈qh p i,q.1<p.stmts.length){i k:Nat}(hr:Rc (qh p) i k):k<p.stmts.length:=by
 have one:∀{i:Nat} {q:Nat×Int},q∈qh p i->q.1<p.stmts.length:=by
  intro i q hq
  rcases Nat.lt_or_ge i p.stmts.length with hi |hi
  ·exact h i hi q hq
  ·rw[WB hi]at hq;simp at hq
 induction hr with
 |one hq=>exact one hq
 |step _ _ ih=>exact ih
theorem dep_lt'(h:Res p):∀i,i<p.stmts.length->∀q∈qh p i,q.1<p.stmts.length:=by
 intro i hi q hq
 obtain⟨x,hx,hd⟩:=List.mem_filterMap.1 hq
 have hw:=(bQ (lW h hi hx)).2.1
 unfold JC at hd
 split at hd
 ·rename_i h5
  cases hd
  have h5:=eq_of_beq h5
  rw[h5]at hw
  simp only[uG]at hw
  simp at hw
  simp only;omega
 ·split at hd
  ·split at hd
   ·rename_i b hb;cases hd
    obtain⟨j,s,e1,e2,_,_⟩:=Gz hb
    have:=(List.getElem?_eq_some_iff.1 e1).1
    simp only;omega
   ·cases hd
  ·split at hd
   ·split at hd
    ·rename_i b hb;cases hd
     obtain⟨j,s,e1,e2,_,_⟩:=Gz hb
     have:=(List.getElem?_eq_some_iff.1 e1).1
     simp only;omega
    ·cases hd
   ·cases hd
theorem z5t(h:Res p){v:Int}(ha:Age (qh p) i v):v<=(p.states.length:Int)+sumW (lsz p) (List.range p.lines.length):=by
 obtain⟨l,h1,h2,h3⟩:=ha.path (wt:=wtP p) (λ_ q hq=>z5s hq)
 have h4:=vS (wt:=wtP p) (λk=>Int.add_nonneg (BR p k) (BU p k)) p.stmts.length h1 (λk hk=>z88 (dep_lt' h) (h2 k hk))
 have:=z0t h
 omega
theorem TP{f:Nat->Int}{b:Int}:∀(l:List Nat),(∀k∈l,f k<=b)->sumW f l<=b * l.length
 | [],_=>by simp[sumW]
 |k::r,h=>by
  have:=TP r λj hj=>h j (List.mem_cons_of_mem _ hj)
  have:=h k List.mem_cons_self
  rw[dZ,List.length_cons]
  have e:b * ((r.length+1:Nat):Int)=b * (r.length:Int)+b:=by rw[Int.natCast_add,Int.mul_add];simp
  omega
theorem z5u(h:Res p){k:Nat}(hk:k<p.lines.length):lsz p k=(p.lines.getD k Ln.none).size/\lsz p k<=65536:=by
 obtain⟨l,hl⟩:=o9 hk
 have:=(z81 h).2.1 l (List.mem_of_getElem? hl)
 rw[lsz,bg hl]
 unfold mm2;simp only;split<;>omega
theorem z0u(h:Res p):GOk p:=by
 have hl:=z81 h
 refine⟨by omega,λi hi x hx h5=>?_,λk b hb=>?_,λi hi x hx h8=>?_,λi v ha=>?_⟩
 ·have hw:=(bQ (lW h hi hx)).2.1
  rw[eq_of_beq h5]at hw
  simp only[uG]at hw
  simp at hw
  omega
 ·obtain⟨j,s,e1,e2,_,_⟩:=Gz hb
  have:=(List.getElem?_eq_some_iff.1 e1).1
  omega
 ·have hw:=(bQ (lW h hi hx)).2.1
  rw[eq_of_beq h8]at hw
  simp only[uG]at hw
  simp at hw
  obtain⟨l,hl'⟩:=o9 (l:=p.lines) (i:=x.index.toNat) (by omega)
  have:=hl.2.1 l (List.mem_of_getElem? hl')
  refine⟨by rw[bY,bg hl'];omega,?_⟩
  simp only[Bool.and_eq_true,decide_eq_true_eq];omega
 ·have h1:=z5t h ha
  have h2:=TP (f:=lsz p) (b:=65536) (List.range p.lines.length) (λk hk=>(z5u h (List.mem_range.1 hk)).2)
  rw[List.length_range]at h2
  have:=hl.1
  omega
variable [af] {p : Pr} {n : Nat} {x : Ex}
theorem xN{x y:Ex}(hw:wfX p n x=true)(hx:bz p n x=(x,true))(hy:y∈x.l):bz p n y=(y,true):=by
 obtain⟨g1,g2,g3⟩:=bQ hw
 rw[kJ]at hx
 by_cases hN:(named x.kind&&x.kind != 8&&x.kind != 9)=true
 ·exfalso
  have:Ref15.parts x.kind=0:=by
   simp only[named,Bool.and_eq_true,bne_iff_ne]at hN
   rcases kinds g2 with h |h |h |h |h |h |h |h |h |h |h |h |h |h |h |h |h |h<;>rw[h]at hN ⊢ <;> first |rfl |(exfalso;simp at hN;done)
  rw[this]at g1
  have:x.l.length=0:=by omega
  rw[List.length_eq_zero_iff]at this;rw[this]at hy;simp at hy
 ·rw[if_neg hN]at hx
  have e1:(cO p n x.l).1=x.l:=congrArg (λq=>q.1.l) hx
  have e3:(decide (iT p x>=0)&&(cO p n x.l).2)=true:=congrArg Prod.snd hx
  simp only[Bool.and_eq_true]at e3
  exact nH (Prod.ext e1 e3.2) y hy
theorem z0v(hn:n<=p.stmts.length)(hx:bz p n x=(x,true))(hw:wfX p n x=true):wW p x=true:=by
 obtain⟨g1,g2,g3⟩:=bQ hw
 by_cases h5:x.kind=5
 ·have h0:=Yb g2 (by rw[h5];rfl)
  rw[kJ,if_pos (by rw[h5];rfl),value]at hx
  simp only at hx
  have hg:given p x.name n=x.index:=by
   split at hx
   ·split at hx
    ·exact congrArg (λq=>q.1.index) hx
    ·have this:(4:Int)=x.kind:=congrArg (λq=>q.1.kind) hx
     rw[h5]at this;exact absurd this (by decide)
   ·have this:(3:Int)=x.kind:=congrArg (λq=>q.1.kind) hx
    rw[h5]at this;exact absurd this (by decide)
  rw[given]at hg
  have hkk:=(BO (p.stmts.take n) 0 (Int.le_refl _) (by rw[hg];exact h0.1)).2
  rw[hg,Int.sub_zero]at hkk
  have hst:p.stmts.getD x.index.toNat Sm.none=(p.stmts.take n).getD x.index.toNat Sm.none:=by
   simp only[List.getD_eq_getElem?_getD]
   rw[List.getElem?_take_of_lt (by omega)]
  rw[wW,h5,hst,hkk]
  rw[h5]at g1
  have g1:(x.l.length:Int)=0:=g1
  rw[g1]
  rw[if_neg (by decide),if_neg (by decide),if_neg (by decide),if_neg (by decide),if_neg (by decide),if_neg (by decide),if_neg (by decide),if_pos (by decide)]
  rw[decide_eq_true (show x.index>=0 from h0.1),decide_eq_true (by omega)];rfl
 ·rcases kinds g2 with r |r |r |r |r |r |r |r |r |r |r |r |r |r |r |r |r |r<;>first
   |exact absurd r h5
   | (rw[r]at g1 g2
      simp[uG]at g2
      simp[wW,r,kS,Ref15.parts,Bool.cond_false_right]at g1 ⊢
      try simp only[decide_eq_true_eq]
      first |omega |exact⟨g1,by omega⟩ |exact⟨g1,by omega,decide_eq_true (by omega)⟩)
theorem z0w{b:Nat}(hb:b<=p.stmts.length):∀x:Ex,∀most:Int,bz p b x=(x,true)->wfX p b x=true->(Ref15.nodes x:Int)<=most->nP p x most=Ref15.nodes x:=by
 refine Ex.ind λx ih most hx hw hn=>?_
 have hN:=Ref15.nodes_eq x
 rw[oW,z0v hb hx hw,decide_eq_false (by omega)]
 rw[if_neg (by decide)]
 have hL:∀(l:List Ex),(∀z∈l,z∈x.l)->∀n:Int,1<=n->n+Ref15.nodesL l<=most->kT p l most n=n+Ref15.nodesL l:=by
  intro l
  induction l with
  |nil=>intro _ n _ _;rw[kT];simp[Ref15.nodesL]
  |cons z r ihr=>
   intro hl n h1 h2
   simp only[Ref15.nodesL]at h2 ⊢
   have hz:=ih z (hl z (by simp)) (most-n) (xN hw hx (hl z (by simp))) (iC (bQ hw).2.2 z (hl z (by simp))) (by omega)
   rw[kT,hz,if_neg (by omega),ihr (λw hw=>hl w (by simp[hw])) _ (by omega) (by omega)]
   omega
 rw[hL x.l (λ_ h=>h) 1 (Int.le_refl _) (by omega)]
 omega
theorem WC{b:Nat}(hb:b<=p.stmts.length)(hx:bz p b x=(x,true))(hw:wfX p b x=true)(hn:Ref15.nodes x<=512):D5 p x=true:=by
 rw[<-Jn,z0w hb x 512 hx hw (by omega)]
 have:=Ref15.nodes_eq x
 exact decide_eq_true (by omega)
theorem D9:∀(r:List Sm) (i:Nat) (out:Bool),di p r i out = .ok r->∀(j:Nat) (s:Sm),r[j]? = some s->bz p (i+j) s.x=(s.x,true)
 | [],_,_,_,j,s,h=>by simp at h
 |t::r,i,out,h,j,s,hj=>by
  rw[di]at h
  split at h
  ·cases h
  ·rename_i h1
   split at h
   ·cases h
   ·split at h
    ·cases h
    ·cases hr:di p r (i+1) (t.kind==4)with
     |error e=>rw[hr]at h;cases h
     |ok l=>
      rw[hr]at h
      simp only[Except.ok.injEq,List.cons.injEq]at h
      cases j with
      |zero=>
       simp only[List.getElem?_cons_zero,Option.some.injEq]at hj
       subst hj
       have e1:(bz p i t.x).1=t.x:=congrArg Sm.x h.1
       exact Prod.ext e1 (by simpa using h1)
      |succ j=>
       simp only[List.getElem?_cons_succ]at hj
       have:=D9 r (i+1) _ (by rw[hr,h.2]) j s hj
       rwa[show i+1+j=i+(j+1)by omega]at this
theorem TQ:∀x:Ex,wfX p n x=true->bz p n x=(x,true)->∀y∈aG x,bz p n y=(y,true):=by
 refine Ex.ind λx ih=>?_
 intro h hr y hy
 rw[jE]at hy
 rcases List.mem_cons.1 hy with rfl |hy
 ·exact hr
 ·obtain⟨z,hz,hy⟩:=mF.1 hy
  exact ih z hz (iC (bQ h).2.2 z hz) (xN h hr hz) y hy
theorem zO:∀x:Ex,∀y∈aG x,Ref15.nodes y<=Ref15.nodes x:=by
 refine Ex.ind λx ih=>?_
 intro y hy
 rw[jE]at hy
 rcases List.mem_cons.1 hy with rfl |hy
 ·exact Nat.le_refl _
 ·obtain⟨z,hz,hy⟩:=mF.1 hy
  have:=ih z hz y hy
  have:=mD hz
  have:=Ref15.nodes_eq x
  omega
theorem TR{F G:List Sp}(hF:∀j,j<n->F.getD j (0,0)=G.getD j (0,0)):∀x:Ex,wfX p n x=true->dH p F x=dH p G x:=by
 refine Ex.ind λx ih=>?_
 intro hw
 obtain⟨g1,g2,g3⟩:=bQ hw
 have hL:∀l:List Ex,(∀z∈l,z∈x.l)->cZ p F l=cZ p G l:=by
  intro l
  induction l with
  |nil=>intro _;rfl
  |cons z r ihr=>
   intro hl
   rw[cZ,cZ,ih z (hl z (by simp)) (iC g3 z (hl z (by simp))),ihr λw hw=>hl w (by simp[hw])]
 rw[jv,jv,hL x.l λ_ h=>h]
 cases cZ p G x.l with
 |error e=>rfl
 |ok l=>
  simp only
  by_cases h5:(x.kind==5)=true
  ·have h0:=Yb g2 h5
   rw[z4v 5 h5,z4v (found:=G) 5 h5]
   have:=hF x.index.toNat (by omega)
   simp only[opM]
   rw[this]
  ·have h5:(x.kind==5)=false:=by simpa using h5
   simp only[opM,h5,Bool.false_eq_true,if_false]
theorem OJ{F:List Sp}:∀(x:Ex) (s:Sp),dH p F x = .ok s->∀y∈aG x,∃t,dH p F y = .ok t:=by
 refine Ex.ind λx ih=>?_
 intro s h y hy
 rw[jE]at hy
 rcases List.mem_cons.1 hy with rfl |hy
 ·exact⟨s,h⟩
 ·obtain⟨z,hz,hy⟩:=mF.1 hy
  rw[jv]at h
  cases hl:cZ p F x.l with
  |error e=>rw[hl]at h;cases h
  |ok l=>
   obtain⟨t,ht⟩:=BN hl z hz
   exact ih z hz t ht y hy
theorem drop_at{α:Type}{l:List α}{i:Nat}{a:α}(h:l[i]? = some a):∃r,l.drop i=a::r:=by
 have hi:=(List.getElem?_eq_some_iff.1 h).1
 exact⟨l.drop (i+1),by rw[List.drop_eq_getElem_cons hi,(List.getElem?_eq_some_iff.1 h).2]⟩
theorem TS(h:looks x=true):x.kind=6\/x.kind=7:=by
 unfold looks at h
 cases q:x.kind==6
 ·rw[q]at h;exact .inr (eq_of_beq h)
 ·exact .inl (eq_of_beq q)
theorem look_ok{F:List Sp}(h:BOk p F){i:Nat}(hi:i<p.stmts.length)(hx:x∈aG (bF p i))(hk:looks x=true):x.l.length=1/\∃s,fU p (x.l.getD 0 Ex.none) = .ok s/\D5 p (x.l.getD 0 Ex.none)=true/\dH p F (x.l.getD 0 Ex.none) = .ok s/\0<=s.2/\s.2<=4096:=by
 obtain⟨st,hs⟩:=o9 hi
 rw[D8 hs]at hx
 obtain⟨r,hr⟩:=drop_at hs
 have a:=z8r h hr
 have hw:wfX p i st.x=true:=by have:=a.wf;simp only[wfS,Bool.and_eq_true]at this;exact this.1
 have hwx:=MB st.x hw x hx
 obtain⟨g1,g2,g3⟩:=bQ hwx
 obtain⟨t,ht⟩:=OJ st.x _ a.run x hx
 have hlen:x.l.length=1:=by
  rcases TS hk with e |e<;>(rw[e]at g1;simp[Ref15.parts]at g1;omega)
 obtain⟨y,hy⟩:∃y,x.l = [y]:=by
  cases hxl:x.l with
  |nil=>rw[hxl]at hlen;simp at hlen
  |cons y r=>cases r with
   |nil=>exact⟨y,rfl⟩
   |cons z r=>rw[hxl]at hlen;simp at hlen
 have hwy:wfX p i y=true:=iC g3 y (by rw[hy];exact List.mem_cons_self)
 have hry:=xN hwx (TQ st.x hw (by have:=D9 p.stmts 0 false h.res.ru i st hs;rwa[Nat.zero_add]at this) x hx) (show y∈x.l by rw[hy];exact List.mem_cons_self)
 have hn:Ref15.nodes st.x<=512:=by
  have:=h.res.li
  rw[limited_eq]at this
  simp only[Bool.and_eq_true]at this
  have:=List.all_eq_true.1 this.2.2.2.1 st (List.mem_of_getElem? hs)
  simp only[zf,Bool.not_eq_true',decide_eq_false_iff_not]at this
  omega
 have hny:Ref15.nodes y<=512:=by
  have h1:=zO st.x x hx
  have h2:=mD (l:=x.l) (y:=y) (by rw[hy];exact List.mem_cons_self)
  have h3:=Ref15.nodes_eq x
  omega
 have hfit:=WC (Nat.le_of_lt hi) hry hwy hny
 rw[jv,hy,cZ]at ht
 have hgd:x.l.getD 0 Ex.none=y:=by rw[hy];rfl
 rw[hgd]
 cases hfy:dH p (F.take i) y with
 |error e=>rw[hfy]at ht;cases ht
 |ok s=>
  rw[hfy,cZ]at ht
  simp only at ht
  have hFy:dH p F y = .ok s:=by
   rw[<-hfy]
   refine(TR (n:=i) (λj hj=>?_) y hwy).symm
   rw[List.getD_eq_getElem?_getD,List.getD_eq_getElem?_getD,List.getElem?_take_of_lt hj]
  have hord:=Gm h.res.rng h.fok.sub (found:=F) (x:=y) (s:=s) (by
   have:∀(m n:Nat),m<=n->∀x:Ex,wfX p m x=true->wfX p n x=true:=by
    intro m n hmn
    refine Ex.ind λx ih=>?_
    intro hw
    rw[LC]at hw ⊢
    simp only[Bool.and_eq_true]at hw ⊢
    refine⟨⟨hw.1.1,?_⟩,Su λz hz=>ih z hz (iC hw.2 z hz)⟩
    have:=hw.1.2
    unfold uG at this ⊢
    split at this
    ·rename_i q;rw[if_pos q];exact this
    ·rename_i q1;rw[if_neg q1]
     split at this
     ·rename_i q;rw[if_pos q];exact this
     ·rename_i q2;rw[if_neg q2]
      split at this
      ·rename_i q;rw[if_pos q];exact this
      ·rename_i q3;rw[if_neg q3]
       split at this
       ·rename_i q;rw[if_pos q]
        simp only[Bool.and_eq_true,decide_eq_true_eq]at this ⊢
        omega
       ·rename_i q4;rw[if_neg q4];exact this
   refine this i F.length ?_ y hwy
   rw[h.len];omega) hFy
  have hah:aheadM s = .ok t:=by
   rcases TS hk with e |e<;>(rw[e]at ht;simpa[opM]using ht)
  unfold aheadM at hah
  split at hah
  ·cases hah
  ·rename_i hq
   simp only[Bool.or_eq_true,decide_eq_true_eq,not_or]at hq
   refine⟨hlen,s,?_,hfit,hFy,by omega,by omega⟩
   have hb:=pO (LX h.res) h.run
   rw[SK (by rw[hb]) hfit,hb];exact hFy
variable [af] {r0 : List Ex} {x x0 : Ex} {P : Nat → Ex → Prop} {i k m : Nat}
theorem BV:∀(l m:List Ex),dw (l++m)=dw l++dw m
 | [],m=>rfl
 |y::r,m=>by rw[List.cons_append,dw,dw,BV r m,List.append_assoc]
theorem WE{α:Type}{l r0:List α}{k:Nat}{x0:α}(hd:l.drop k=x0::r0):l=l.take k++x0::r0:=by
 have:=List.take_append_drop k l
 rw[hd]at this;exact this.symm
theorem take_at{α:Type}{l r0:List α}{k:Nat}{x0:α}(hd:l.drop k=x0::r0):l.take (k+1)=l.take k++[x0]:=by
 have hk:k<l.length:=by
  by_cases hq:k<l.length
  ·exact hq
  ·rw[List.drop_eq_nil_iff.2 (by omega)]at hd;cases hd
 rw[List.drop_eq_getElem_cons hk]at hd
 rw[List.take_succ_eq_append_getElem hk]
 rw[(List.cons.inj hd).1]
theorem xO{k m:Nat}(hd:x.l.drop k=x0::r0)(hm:m=1+(dw (x.l.take k)).length){j:Nat}{y:Ex}(h:(aG x0)[j]? = some y):(aG x)[m+j]? = some y:=by
 rw[jE,WE hd,BV,dw,hm]
 have hj:=(List.getElem?_eq_some_iff.1 h).1
 rw[show 1+(dw (x.l.take k)).length+j=((dw (x.l.take k)).length+j)+1 by omega,List.getElem?_cons_succ,List.getElem?_append_right (by omega),Nat.add_sub_cancel_left,List.getElem?_append_left hj]
 exact h
theorem OL{k m:Nat}(hd:x.l.drop k=x0::r0)(hm:m=1+(dw (x.l.take k)).length):m+(aG x0).length=1+(dw (x.l.take (k+1))).length:=by
 rw[take_at hd,zK,List.length_append];omega
theorem TT{x:Ex}{k m:Nat}(hd:x.l.drop k = [])(hm:m=1+(dw (x.l.take k)).length):m=(aG x).length:=by
 rw[List.take_of_length_le (List.drop_eq_nil_iff.1 hd)]at hm
 rw[jE,List.length_cons];omega
theorem z5v(hd:x.l.drop k=x0::r0)(hm:m=i+(1+(dw (x.l.take k)).length))(h:∀j y,(aG x)[j]? = some y->P (i+j) y):∀j y,(aG x0)[j]? = some y->P (m+j) y:=by
 intro j y hj
 rw[hm,Nat.add_assoc]
 exact h _ _ (xO hd rfl hj)
theorem MJ(hd:x.l.drop k=x0::r0)(hm:m=i+(1+(dw (x.l.take k)).length)):m+(aG x0).length=i+(1+(dw (x.l.take (k+1))).length):=by
 rw[hm,Nat.add_assoc,OL hd rfl]
theorem TV{x:Ex}(hd:x.l.drop k = [])(hm:m=i+(1+(dw (x.l.take k)).length)):m=i+(aG x).length:=by
 rw[hm,TT hd rfl]
theorem z5w{i k m q:Nat}(hd:x.l.drop k=x0::r0)(hm:m=i+(1+(dw (x.l.take k)).length))(hq:m<=i+q):(m+(aG x0).length<=i+q)\/(∃t,q=(m-i)+t/\t<(aG x0).length):=by
 rcases Nat.lt_or_ge (i+q) (m+(aG x0).length)with h |h
 ·exact .inr ⟨q-(m-i),by omega,by omega⟩
 ·exact .inl h
theorem z0x{i k m q:Nat}(hd:x.l.drop k=x0::r0)(hm:m=i+(1+(dw (x.l.take k)).length))(h:∀j y,j<q->(aG x)[j]? = some y->P (i+j) y)(hq:m+(aG x0).length<=i+q):∀j y,(aG x0)[j]? = some y->P (m+j) y:=by
 intro j y hj
 have:=(List.getElem?_eq_some_iff.1 hj).1
 rw[hm,Nat.add_assoc]
 exact h _ _ (by omega) (xO hd rfl hj)
theorem z0y{i k m q t:Nat}(hd:x.l.drop k=x0::r0)(hm:m=i+(1+(dw (x.l.take k)).length))(h:∀j y,j<q->(aG x)[j]? = some y->P (i+j) y)(hq:q=(m-i)+t):∀j y,j<t->(aG x0)[j]? = some y->P (m+j) y:=by
 intro j y hj hy
 rw[hm,Nat.add_assoc]
 exact h _ _ (by omega) (xO hd rfl hy)
theorem z5x{i k m q t:Nat}(hd:x.l.drop k=x0::r0)(hm:m=i+(1+(dw (x.l.take k)).length))(h:∀y,(aG x)[q]? = some y->P (i+q) y)(hq:q=(m-i)+t):∀y,(aG x0)[t]? = some y->P (m+t) y:=by
 intro y hy
 have e:m+t=i+q:=by omega
 rw[e]
 refine h _ ?_
 have:=xO hd (m:=1+(dw (x.l.take k)).length) rfl hy
 rwa[show 1+(dw (x.l.take k)).length+t=q by omega]at this
theorem JF(x:Ex):(aG x)[0]? = some x:=by rw[jE];rfl
end Go.Fw.Tl
namespace Go.Fw
theorem TW[af]{T:Tbl}{ops:Array Oper}{env:Env}{K:Heap}{tr:List Rec}{kp:Nat}{q:Prop}(l:List (Nat×Nat))(h0:EC kp l=false)(h:chk T ops env K (nZ l 0 tr)=true)(h2:wR T K tr l)(hq:q):J6 T ops env K tr kp/\q:=⟨⟨l,h0,h,h2⟩,hq⟩
theorem BrI.ff_of[af]{c:Bool}{p q:Prop}(h:c=false)(hq:q):BrI c p q:=by subst h;exact .ff hq
theorem BrI.tt_of[af]{c:Bool}{p q:Prop}(h:c=true)(hp:p):BrI c p q:=by subst h;exact .tt hp
end Go.Fw
namespace Go.Fw.Tl
open Go.Fw Go.Fw.Ref15 Go.Fw.Rg
variable [af] {f : D → Prop}
theorem Ym{a b:Int}{S:List (Key×Int)}{M:List (D×D)}{g:Prop}(hM:M=S.map kkD)(h1:∀n,lkK (a,b) S=some n->f (.i n))(h2:lkK (a,b) S=none->g):rM (nS (.agg [.i a,.i b]) M) f g:=by
 subst hM
 have e:=TD (a,b) S
 cases hk:lkK (a,b) S with
 |none=>exact Nam.opt_none (by rw[e,hk];rfl) (h2 hk)
 |some n=>exact Nam.opt_some (d:=.i n) (by rw[e,hk];rfl) (h1 n hk)
theorem MK{k:Int}{S:List (Int×Int)}{M:List (D×D)}{g:Prop}(hM:M=S.map iiD)(h1:∀n,lkA k S=some n->f (.i n))(h2:lkA k S=none->g):rM (nS (.i k) M) f g:=by
 subst hM
 have e:=TF k S
 cases hk:lkA k S with
 |none=>exact Nam.opt_none (by rw[e,hk];rfl) (h2 hk)
 |some n=>exact Nam.opt_some (d:=.i n) (by rw[e,hk];rfl) (h1 n hk)
theorem Yn{k:Int}{S:List (Int×Bool)}{M:List (D×D)}{g:Prop}(hM:M=S.map ibD)(h1:∀n,lkA k S=some n->f (.b n))(h2:lkA k S=none->g):rM (nS (.i k) M) f g:=by
 subst hM
 have e:=TG k S
 cases hk:lkA k S with
 |none=>exact Nam.opt_none (by rw[e,hk];rfl) (h2 hk)
 |some n=>exact Nam.opt_some (d:=.b n) (by rw[e,hk];rfl) (h1 n hk)
section
variable {p : Pr} {S : List (Key × Int)} {age : AS → Int → AR} {i : Int} {x : Ex} {s s' : AS} {v b : Int} {r : AR}
theorem Yo(h5:(x.kind==5)=true)(h:rD p S age i x s=r):age s x.index=r:=by rwa[rD,if_pos h5]at h
theorem Yp(h5:(x.kind==5)=false)(h4:(x.kind==4)=true)(hb:lkK (2,x.index) S=some b)(hl:decide (b<i)=true)(h:rD p S age i x s=r):age s b=r:=by
 rw[rD,h5,if_neg (by decide),if_pos h4,hb]at h
 simp only at h
 rwa[if_pos (of_decide_eq_true hl)]at h
theorem Yq(h5:(x.kind==5)=false)(h4:(x.kind==4)=true)(hb:lkK (2,x.index) S=some b)(hl:decide (b<i)=false)(h:rD p S age i x s=r):(age s b).add 1=r:=by
 rw[rD,h5,if_neg (by decide),if_pos h4,hb]at h
 simp only at h
 rwa[if_neg (of_decide_eq_false hl)]at h
theorem Yr(h5:(x.kind==5)=false)(h4:(x.kind==4)=true)(hb:lkK (2,x.index) S=none)(h:rD p S age i x s=r):.ok 0 s=r:=by
 rwa[rD,h5,if_neg (by decide),if_pos h4,hb]at h
theorem Yt(h5:(x.kind==5)=false)(h4:(x.kind==4)=false)(h8:(x.kind==8)=true)(hb:lkK (3,x.index) S=some b)(hr:r ≠ .out)(h:rD p S age i x s=r):(age s b).add (bY p x.index).size=r/\0<=x.index/\x.index<p.lines.length:=by
 rw[rD,h5,if_neg (by decide),h4,if_neg (by decide),if_pos h8,hb]at h
 simp only at h
 split at h
 ·rename_i q
  simp only[Bool.and_eq_true,decide_eq_true_eq]at q
  exact⟨h,q⟩
 ·exact absurd h.symm hr
theorem Yu(h5:(x.kind==5)=false)(h4:(x.kind==4)=false)(h8:(x.kind==8)=true)(hb:lkK (3,x.index) S=none)(h:rD p S age i x s=r):.ok 0 s=r:=by
 rwa[rD,h5,if_neg (by decide),h4,if_neg (by decide),if_pos h8,hb]at h
theorem Yv(h5:(x.kind==5)=false)(h4:(x.kind==4)=false)(h8:(x.kind==8)=false)(h:rD p S age i x s=r):.ok 0 s=r:=by
 rwa[rD,h5,if_neg (by decide),h4,if_neg (by decide),h8,if_neg (by decide)]at h
theorem ML{a:AR}{w:Int}(h:a.add w = .ok v s'):∃u,a = .ok u s'/\v=IntKind.i64.wrap (u+w):=by
 cases a with
 |ok u t=>cases h;exact⟨u,rfl,rfl⟩
 |pan t=>cases h
 |out=>cases h
theorem TY{a:AR}{w:Int}{t:AS}(h:a.add w = .pan t):a = .pan t:=by
 cases a with
 |ok u t=>cases h
 |pan t=>cases h;rfl
 |out=>cases h
theorem GH{s t:AS}{v:Int}(h:AR.ok v s = .pan t):False:=by cases h
theorem F6{s:AS}{v:Int}:AR.ok v s ≠ .out:=by intro h;cases h
theorem z5y{s:AS}:AR.pan s ≠ .out:=by intro h;cases h
theorem TZ{s:AS}(h:AR.ok 0 s = .ok v s'):v=0/\s'=s:=by cases h;exact⟨rfl,rfl⟩
end
theorem Ua{p:Pr}{n:Int}(h:0<=n/\n<p.lines.length):0<=n/\(p.lines.map Ln.cs)[n.toNat]? = some (Ln.cs (bY p n)):=by
 refine⟨h.1,?_⟩
 have hl:n.toNat<p.lines.length:=by omega
 rw[bY,List.getElem?_map,List.getD_eq_getElem?_getD,List.getElem?_eq_getElem hl];rfl
variable [af] {own : Ex → AS → AR}
def atA(own:Ex->AS->AR)(l:List Ex)(s:AS)(m:Int)(j:Nat):Int×AS:=match rE own (l.take j) s m with
 | .ok v t=>(v,t)
 |_=>(0,⟨[],[]⟩)
theorem GI(own:Ex->AS->AR)(l:List Ex)(s:AS)(m:Int):atA own l s m 0=(m,s):=rfl
theorem fG{x:Ex}{r:List Ex}{s s1:AS}{m w:Int}(h:own x s = .ok w s1)(j:Nat):atA own (x::r) s m (j+1)=atA own r s1 (mm2 true m w) j:=by
 simp only[atA,List.take_succ_cons,rE,h]
def z0z(own:Ex->AS->AR)(l:List Ex)(s:AS)(m:Int)(j:Nat):Prop:=∃w,own (l.getD j Ex.none) (atA own l s m j).2 = .ok w (atA own l s m (j+1)).2/\(atA own l s m (j+1)).1=mm2 true (atA own l s m j).1 w
theorem fold_at:∀(l:List Ex) (s:AS) (m v:Int) (t:AS),rE own l s m = .ok v t->(∀j,j<l.length->z0z own l s m j)/\atA own l s m l.length=(v,t)
 | [],s,m,v,t,h=>by cases h;exact⟨λj hj=>absurd hj (Nat.not_lt_zero _),rfl⟩
 |x::r,s,m,v,t,h=>by
  rw[rE]at h
  cases hx:own x s with
  |ok w s1=>
   rw[hx]at h
   obtain⟨h1,h2⟩:=fold_at r s1 _ v t h
   refine⟨λj hj=>?_,by rw[List.length_cons,fG hx];exact h2⟩
   cases j with
   |zero=>exact⟨w,by rw[fG hx,GI,GI];exact hx,by rw[fG hx,GI,GI]⟩
   |succ j=>
    obtain⟨w2,a1,a2⟩:=h1 j (by simpa using hj)
    exact⟨w2,by rw[fG hx,fG hx];exact a1,by rw[fG hx,fG hx];exact a2⟩
  |pan u=>rw[hx]at h;cases h
  |out=>rw[hx]at h;cases h
theorem MM:∀(l:List Ex) (s:AS) (m:Int) (t:AS),rE own l s m = .pan t->∃k,k<l.length/\(∀j,j<k->z0z own l s m j)/\own (l.getD k Ex.none) (atA own l s m k).2 = .pan t
 | [],s,m,t,h=>by cases h
 |x::r,s,m,t,h=>by
  rw[rE]at h
  cases hx:own x s with
  |ok w s1=>
   rw[hx]at h
   obtain⟨k,h0,h1,h2⟩:=MM r s1 _ t h
   refine⟨k+1,by simpa using h0,λj hj=>?_,by rw[fG hx];exact h2⟩
   cases j with
   |zero=>exact⟨w,by rw[fG hx,GI,GI];exact hx,by rw[fG hx,GI,GI]⟩
   |succ j=>
    obtain⟨w2,a1,a2⟩:=h1 j (by omega)
    exact⟨w2,by rw[fG hx,fG hx];exact a1,by rw[fG hx,fG hx];exact a2⟩
  |pan u=>rw[hx]at h;cases h;exact⟨0,by simp,λj hj=>absurd hj (Nat.not_lt_zero _),hx⟩
  |out=>rw[hx]at h;cases h
def kY(p:Pr)(S:List (Key×Int))(f:Nat)(s:AS)(i:Int)(j:Nat):Int×AS:=atA (rD p S (pU p S f) i) (aG (bF p i)) ⟨s.ages,mM i true s.opn⟩ 0 j
def MN(p:Pr)(S:List (Key×Int))(f:Nat)(s:AS)(i:Int)(j:Nat):Prop:=z0z (rD p S (pU p S f) i) (aG (bF p i)) ⟨s.ages,mM i true s.opn⟩ 0 j
theorem MN.ok{p:Pr}{S:List (Key×Int)}{f:Nat}{s:AS}{i:Int}{j:Nat}(h:MN p S f s i j):∃w,rD p S (pU p S f) i ((aG (bF p i)).getD j Ex.none) (kY p S f s i j).2 = .ok w (kY p S f s i (j+1)).2/\(kY p S f s i (j+1)).1=mm2 true (kY p S f s i j).1 w:=h
section
variable {p : Pr} {S : List (Key × Int)} {f : Nat} {s s' : AS} {i v n : Int} {b : Bool} {r : AR}
theorem Yw(hb:lkA i s.opn=some b)(h:b=true)(hh:pU p S (f+1) s i=r):.pan s=r:=by
 subst h
 have ho:iD s i=true:=by rw[iD,hb]
 rwa[pU,if_pos ho]at hh
theorem Yx(hb:lkA i s.opn=some b)(h:b=false):iD s i=false:=by rw[iD,hb,h]
theorem Yy(hb:lkA i s.opn=none):iD s i=false:=by rw[iD,hb]
theorem MO(ho:iD s i=false)(ha:lkA i s.ages=some n)(hh:pU p S (f+1) s i=r):.ok n s=r:=by rwa[pU,ho,if_neg (by decide),ha]at hh
theorem z00{s t:AS}{a b:Int}(h:AR.ok a s = .ok b t):b=a/\t=s:=by cases h;exact⟨rfl,rfl⟩
theorem z5z(ho:iD s i=false)(ha:lkA i s.ages=none)(hh:pU p S (f+1) s i = .ok v s'):(0<=i/\i<p.stmts.length)/\(∀j,j<(aG (bF p i)).length->MN p S f s i j)/\v=(kY p S f s i (aG (bF p i)).length).1/\s'=⟨mM i (kY p S f s i (aG (bF p i)).length).1 (kY p S f s i (aG (bF p i)).length).2.ages,mM i false (kY p S f s i (aG (bF p i)).length).2.opn⟩:=by
 rw[pU,ho,if_neg (by decide),ha]at hh
 simp only at hh
 split at hh
 ·rename_i q
  simp only[Bool.and_eq_true,decide_eq_true_eq]at q
  cases hf:rE (rD p S (pU p S f) i) (aG (bF p i)) ⟨s.ages,mM i true s.opn⟩ 0 with
  |ok m t=>
   rw[hf]at hh
   cases hh
   obtain⟨h1,h2⟩:=fold_at _ _ _ _ _ hf
   have h2:kY p S f s i (aG (bF p i)).length=(v,t):=h2
   exact⟨q,h1,by rw[h2],by rw[h2]⟩
  |pan t=>rw[hf]at hh;cases hh
  |out=>rw[hf]at hh;cases hh
 ·cases hh
theorem z01(ho:iD s i=false)(ha:lkA i s.ages=none)(hh:pU p S (f+1) s i = .pan s'):(0<=i/\i<p.stmts.length)/\∃k,k<(aG (bF p i)).length/\(∀j,j<k->MN p S f s i j)/\rD p S (pU p S f) i ((aG (bF p i)).getD k Ex.none) (kY p S f s i k).2 = .pan s':=by
 rw[pU,ho,if_neg (by decide),ha]at hh
 simp only at hh
 split at hh
 ·rename_i q
  simp only[Bool.and_eq_true,decide_eq_true_eq]at q
  cases hf:rE (rD p S (pU p S f) i) (aG (bF p i)) ⟨s.ages,mM i true s.opn⟩ 0 with
  |ok m t=>rw[hf]at hh;cases hh
  |pan t=>
   rw[hf]at hh
   cases hh
   exact⟨q,MM _ _ _ _ hf⟩
  |out=>rw[hf]at hh;cases hh
 ·cases hh
end
theorem Yz{p:Pr}{n:Int}(h:0<=n/\n<p.stmts.length):0<=n/\(p.stmts.map Sm.cs)[n.toNat]? = some (Sm.cs (p.stmts.getD n.toNat Sm.none)):=by
 refine⟨h.1,?_⟩
 have hl:n.toNat<p.stmts.length:=by omega
 rw[List.getElem?_map,List.getD_eq_getElem?_getD,List.getElem?_eq_getElem hl];rfl
theorem JG{P:Nat->D->Prop}{x:Ex}{n:Nat}(h:∀j,j<n->P j ((aG x).getD j Ex.none).d):∀j y,j<n->(aG x)[j]? = some y->P (0+j) y.d:=by
 intro j y hj hy
 have:=h j hj
 rwa[List.getD_eq_getElem?_getD,hy,<-Nat.zero_add j]at this
end Go.Fw.Tl
