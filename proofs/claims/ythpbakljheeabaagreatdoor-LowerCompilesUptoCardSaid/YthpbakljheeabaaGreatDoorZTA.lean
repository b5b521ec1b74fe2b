/- Ages in a graph of statements: what they are, that they are determined, how great they are. -/
import Derived.Test.YthpbakljheeabaaGreatDoorZTD1
set_option linter.unusedSectionVars false
set_option linter.unusedSimpArgs false
set_option linter.unusedVariables false
namespace Go.Fw.Tl
open Go.Fw Go.Fw.Ref15 Go.Fw.Rg
variable [ah]
abbrev Graph:=Nat->List (Nat×Int)
def Eu(val:Nat->Int):List (Nat×Int)->Int->Int
 | [],m=>m
 |q::r,m=>Eu val r (mm2 true m (val q.1+q.2))
theorem iJ(a b:Int):a<=mm2 true a b/\b<=mm2 true a b/\(mm2 true a b=a\/mm2 true a b=b):=by
 unfold mm2;simp only;split<;>omega
theorem Ui(val:Nat->Int):∀(l:List (Nat×Int)) (m:Int),m<=Eu val l m
 | [],m=>Int.le_refl _
 |q::r,m=>Int.le_trans (iJ m _).1 (Ui val r _)
theorem Uj(val:Nat->Int):∀(l:List (Nat×Int)) (m:Int),Eu val l m=m\/∃q∈l,Eu val l m=val q.1+q.2
 | [],m=>.inl rfl
 |q::r,m=>by
  rcases Uj val r (mm2 true m (val q.1+q.2))with h |⟨t,ht,h⟩
  ·rcases(iJ m (val q.1+q.2)).2.2 with e |e
   ·exact .inl (by rw[Eu,h,e])
   ·exact .inr ⟨q,List.mem_cons_self,by rw[Eu,h,e]⟩
  ·exact .inr ⟨t,List.mem_cons_of_mem _ ht,by rw[Eu,h]⟩
theorem CG{val val':Nat->Int}:∀{l:List (Nat×Int)} {m:Int},(∀q∈l,val q.1=val' q.1)->Eu val l m=Eu val' l m
 | [],_,_=>rfl
 |q::r,m,h=>by
  rw[Eu,Eu,h q List.mem_cons_self]
  exact CG (l:=r) λt ht=>h t (List.mem_cons_of_mem _ ht)
inductive Age(dep:Graph):Nat->Int->Prop
 |mk (i:Nat) (val:Nat->Int) (h:∀q∈dep i,Age dep q.1 (val q.1)):Age dep i (Eu val (dep i) 0)
theorem Age.inv{dep:Graph}{i:Nat}{v:Int}(h:Age dep i v):∃val:Nat->Int,(∀q∈dep i,Age dep q.1 (val q.1))/\v=Eu val (dep i) 0:=by
 cases h with |mk _ val h=>exact⟨val,h,rfl⟩
theorem Age.unique{dep:Graph}{i:Nat}{v:Int}(h:Age dep i v):∀{w:Int},Age dep i w->v=w:=by
 induction h with
 |mk i val h ih=>
  intro w h2
  obtain⟨val',h3,rfl⟩:=h2.inv
  exact CG λq hq=>ih q hq (h3 q hq)
theorem Age.nonneg{dep:Graph}{i:Nat}{v:Int}(h:Age dep i v):0<=v:=by
 obtain⟨val,_,rfl⟩:=h.inv;exact Ui val _ 0
inductive Rc(dep:Graph):Nat->Nat->Prop
 |one {i:Nat} {q:Nat×Int} (h:q∈dep i):Rc dep i q.1
 |step {i k:Nat} {q:Nat×Int} (h:q∈dep i) (h2:Rc dep q.1 k):Rc dep i k
variable {dep : Graph} {wt : Nat → Int}
theorem Rc.trans{i k m:Nat}(h:Rc dep i k)(h2:Rc dep k m):Rc dep i m:=by
 induction h with
 |one h=>exact .step h h2
 |step h _ ih=>exact .step h (ih h2)
theorem Rc.snoc{i k:Nat}(h:Rc dep i k){q:Nat×Int}(hq:q∈dep k):Rc dep i q.1:=h.trans (.one hq)
theorem Age.irr{i:Nat}{v:Int}(h:Age dep i v):¬Rc dep i i:=by
 induction h with
 |mk i val h ih=>
  intro hr
  cases hr with
  |one hq=>exact ih _ hq (.one hq)
  |step hq h2=>exact ih _ hq (h2.trans (.one hq))
def sumW(wt:Nat->Int)(l:List Nat):Int:=(l.map wt).foldr (· + ·) 0
theorem eP(wt:Nat->Int)(k:Nat)(l:List Nat):sumW wt (k::l)=wt k+sumW wt l:=rfl
theorem Age.path(hw:∀i,∀q∈dep i,q.2<=wt q.1){i:Nat}{v:Int}(h:Age dep i v):∃l:List Nat,l.Nodup/\(∀k∈l,Rc dep i k)/\v<=sumW wt l:=by
 induction h with
 |mk i val h ih=>
  rcases Uj val (dep i) 0 with e |⟨q,hq,e⟩
  ·exact⟨[],List.nodup_nil,λk hk=>by simp at hk,by rw[e];exact Int.le_refl _⟩
  ·obtain⟨l,hn,hr,hv⟩:=ih q hq
   refine⟨q.1::l,List.nodup_cons.2 ⟨λhm=>(h q hq).irr (hr _ hm),hn⟩,λk hk=>?_,?_⟩
   ·rcases List.mem_cons.1 hk with rfl |hk
    ·exact .one hq
    ·exact .step hq (hr k hk)
   ·rw[e,eP];have:=hw i q hq;omega
theorem zZ(wt:Nat->Int)(f:Nat->Bool):∀l:List Nat,sumW wt l=sumW wt (l.filter f)+sumW wt (l.filter λk=>!f k)
 | []=>rfl
 |k::r=>by
  rw[eP,zZ wt f r]
  cases h:f k<;>simp only[List.filter_cons,h,Bool.not_true,Bool.not_false,if_true,Bool.false_eq_true,if_false,eP]<;>omega
theorem JX{wt:Nat->Int}{m:Nat}:∀{l:List Nat},l.Nodup->(∀k∈l,k=m)->l = []\/l = [m]
 | [],_,_=>.inl rfl
 | [k],_,h=>.inr (by rw[h k List.mem_cons_self])
 |k::k'::r,hn,h=>by
  have h1:=h k List.mem_cons_self
  have h2:=h k' (List.mem_cons_of_mem _ List.mem_cons_self)
  subst h1
  exact absurd (h2 ▸ List.mem_cons_self) (List.nodup_cons.1 hn).1
theorem wB(h0:∀k,0<=wt k):∀(m:Nat) {l:List Nat},l.Nodup->(∀k∈l,k<m)->sumW wt l<=sumW wt (List.range m)
 | 0,l,_,h=>by
  cases l with
  |nil=>exact Int.le_refl _
  |cons k r=>exact absurd (h k List.mem_cons_self) (Nat.not_lt_zero _)
 |m+1,l,hn,h=>by
  have h1:=wB h0 m (l:=l.filter λk=>decide (k<m)) (hn.filter _) (λk hk=>of_decide_eq_true (List.mem_filter.1 hk).2)
  have h2:sumW wt (l.filter λk=>!decide (k<m))<=wt m:=by
   rcases JX (wt:=wt) (m:=m) (hn.filter _) (l:=l.filter λk=>!decide (k<m)) (λk hk=>by
    have hk:=List.mem_filter.1 hk
    have:=h k hk.1
    have:=hk.2
    simp only[Bool.not_eq_true',decide_eq_false_iff_not]at this
    omega)with e |e
   ·rw[e];exact h0 m
   ·rw[e,eP];show wt m+0<=wt m;omega
  have h3:sumW wt (List.range (m+1))=sumW wt (List.range m)+wt m:=by
   rw[List.range_succ]
   generalize List.range m=q
   induction q with
   |nil=>simp[sumW]
   |cons a r ih=>rw[List.cons_append,eP,eP,ih];omega
  rw[zZ wt (λk=>decide (k<m)) l,h3]
  omega
def YE(n:Nat)(s:AS):Nat:=(List.range n).countP λk:Nat=>!iI s (k:Int)
theorem wC{α:Type}{k j:Int}{v:α}:∀{l:List (Int×α)},lkA j (lL k v l)=if j==k then some v else lkA j l
 | []=>by simp only[lL,lkA]
 |(a,w)::r=>by
  simp only[lL]
  by_cases h:(k==a)=true
  ·have h:=eq_of_beq h
   subst h
   simp only[beq_self_eq_true,if_true,lkA]
   split<;>rfl
  ·simp only[h,Bool.false_eq_true,if_false,lkA,wC (l:=r)]
   by_cases hj:(j==a)=true
   ·have hj':=eq_of_beq hj
    have:(j==k)=false:=by
     rw[hj'];rw[Bool.eq_false_iff];intro e;exact h (by rw[eq_of_beq e];exact beq_self_eq_true _)
    simp only[hj,if_true,this,Bool.false_eq_true,if_false]
   ·simp only[hj,Bool.false_eq_true,if_false]
theorem pG(a:List (Int×Int))(o:List (Int×Bool))(k j:Int)(b:Bool):iI ⟨a,lL k b o⟩ j=if j==k then b else iI ⟨a,o⟩ j:=by
 simp only[iI,wC]
 by_cases h:(j==k)=true
 ·simp only[h,if_true]
 ·simp only[h,Bool.false_eq_true,if_false]
def JY(p:Pr)(S:List (Key×Int))(i:Nat)(x:Ex):Option (Nat×Int):=
 if x.kind==5 then some (x.index.toNat,0)
 else if x.kind==4 then match lkK (2,x.index) S with
  |some b=>some (b.toNat,if b<(i:Int)then 0 else 1)
  |none=>none
 else if x.kind==8 then match lkK (3,x.index) S with
  |some b=>some (b.toNat,(cu p x.index).size)
  |none=>none
 else none
def qx(p:Pr):Graph:=λi=>(aC (bH p i)).filterMap (JY p (aX p) i)
structure GOk(p:Pr):Prop where
 len:p.stmts.length<=1048576
 idx:∀i,i<p.stmts.length->∀x∈aC (bH p i),(x.kind==5)=true->0<=x.index/\x.index<p.stmts.length
 set:∀k b,lkK k (aX p)=some b->0<=b/\b<p.stmts.length
 siz:∀i,i<p.stmts.length->∀x∈aC (bH p i),(x.kind==8)=true->(0<=(cu p x.index).size/\(cu p x.index).size<=65536)/\(decide (0<=x.index)&&decide (x.index<p.lines.length))=true
 bnd:∀i v,Age (qx p) i v->v<=4611686018427387904
theorem z5w{p:Pr}(g:GOk p){i:Nat}(hi:i<p.stmts.length){x:Ex}(hx:x∈aC (bH p i)){q:Nat×Int}(h:JY p (aX p) i x=some q):q.1<p.stmts.length:=by
 unfold JY at h
 split at h
 ·rename_i h5;cases h;have:=g.idx i hi x hx h5;simp only;omega
 ·split at h
  ·split at h
   ·rename_i b hb;cases h;have:=g.set _ _ hb;simp only;omega
   ·cases h
  ·split at h
   ·split at h
    ·rename_i b hb;cases h;have:=g.set _ _ hb;simp only;omega
    ·cases h
   ·cases h
theorem WW{p:Pr}{i:Nat}{x:Ex}{s:AS}{age:AS->Int->AR}(h:JY p (aX p) i x=none):rW p (aX p) age i x s = .ok 0 s:=by
 unfold JY at h;unfold rW
 split at h
 ·cases h
 ·rename_i h5
  rw[if_neg h5]
  split at h
  ·rename_i h4
   rw[if_pos h4]
   split at h
   ·cases h
   ·rename_i e;rw[e]
  ·rename_i h4
   rw[if_neg h4]
   split at h
   ·rename_i h8
    rw[if_pos h8]
    split at h
    ·cases h
    ·rename_i e;rw[e]
   ·rename_i h8;rw[if_neg h8]
theorem Nh{p:Pr}(g:GOk p){i:Nat}(hi:i<p.stmts.length){x:Ex}(hx:x∈aC (bH p i)){q:Nat×Int}{s s':AS}{age:AS->Int->AR}{v:Int}(h:JY p (aX p) i x=some q)(ha:age s q.1 = .ok v s')(hv:Age (qx p) q.1 v):rW p (aX p) age i x s = .ok (v+q.2) s':=by
 have h0:=hv.nonneg
 have h1:=g.bnd _ _ hv
 have hw:∀w:Int,0<=w->w<=65536->IntKind.i64.wrap (v+w)=v+w:=λw h2 h3=>bJ (by omega) (by omega)
 unfold JY at h;unfold rW
 split at h
 ·rename_i h5
  cases h
  rw[if_pos h5]
  have:=g.idx i hi x hx h5
  rw[Int.toNat_of_nonneg this.1]at ha
  rw[ha,Int.add_zero]
 ·rename_i h5
  rw[if_neg h5]
  split at h
  ·rename_i h4
   rw[if_pos h4]
   split at h
   ·rename_i b e
    cases h
    have:=g.set _ _ e
    rw[Int.toNat_of_nonneg this.1]at ha
    simp only[e]
    by_cases hb:b<(i:Int)
    ·simp only[hb,if_true];rw[ha,Int.add_zero]
    ·simp only[hb,if_false];rw[ha,AR.add,hw 1 (by omega) (by omega)]
   ·cases h
  ·rename_i h4
   rw[if_neg h4]
   split at h
   ·rename_i h8
    rw[if_pos h8]
    split at h
    ·rename_i b e
     cases h
     have:=g.set _ _ e
     rw[Int.toNat_of_nonneg this.1]at ha
     have hs:=g.siz i hi x hx h8
     simp only[e,hs.2,if_true]
     rw[ha,AR.add,hw _ hs.1.1 hs.1.2]
    ·cases h
   ·cases h
theorem JZ{p:Pr}(g:GOk p){i:Nat}(hi:i<p.stmts.length){x:Ex}(hx:x∈aC (bH p i)){q:Nat×Int}{s:AS}{age:AS->Int->AR}{t:AS}(h:JY p (aX p) i x=some q)(ha:age s q.1 = .pan t):rW p (aX p) age i x s = .pan t:=by
 unfold JY at h;unfold rW
 split at h
 ·rename_i h5
  cases h
  rw[if_pos h5]
  have:=g.idx i hi x hx h5
  rwa[Int.toNat_of_nonneg this.1]at ha
 ·rename_i h5
  rw[if_neg h5]
  split at h
  ·rename_i h4
   rw[if_pos h4]
   split at h
   ·rename_i b e
    cases h
    have:=g.set _ _ e
    rw[Int.toNat_of_nonneg this.1]at ha
    simp only[e]
    split<;>rw[ha]<;>rfl
   ·cases h
  ·rename_i h4
   rw[if_neg h4]
   split at h
   ·rename_i h8
    rw[if_pos h8]
    split at h
    ·rename_i b e
     cases h
     have:=g.set _ _ e
     rw[Int.toNat_of_nonneg this.1]at ha
     simp only[e,(g.siz i hi x hx h8).2,if_true]
     rw[ha];rfl
    ·cases h
   ·cases h
open Classical in
noncomputable def vOf(dep:Graph)(k:Nat):Int:=if h:∃v,Age dep k v then h.choose else 0
theorem z5x{dep:Graph}{k:Nat}{v:Int}(h:Age dep k v):vOf dep k=v:=by
 have he:∃v,Age dep k v:=⟨v,h⟩
 rw[vOf,dif_pos he]
 exact he.choose_spec.unique h
structure z5y(dep:Graph)(s:AS):Prop where
 ages:∀(k:Nat) (v:Int),lkA (k:Int) s.ages=some v->Age dep k v
def z1a(s s':AS):Prop:=∀k:Int,iI s' k=iI s k
def DOk(p:Pr)(f:Nat):Prop:=∀(s:AS) (i:Nat),i<p.stmts.length->z5y (qx p) s->(∀o:Nat,iI s (o:Int)=true->Rc (qx p) o i)->YE p.stmts.length s<f ->
 (∃v s',qf p (aX p) f s i = .ok v s'/\Age (qx p) i v/\z5y (qx p) s'/\z1a s s')\/((∃t,qf p (aX p) f s i = .pan t)/\¬∃v,Age (qx p) i v)
theorem Uk{n:Nat}{s s':AS}(h:z1a s s'):YE n s'=YE n s:=by
 unfold YE;congr 1;funext k;rw[h]
theorem J3{p:Pr}(g:GOk p){f:Nat}(ih:DOk p f){i:Nat}(hi:i<p.stmts.length):∀(l:List Ex) (s:AS) (m:Int),(∀x∈l,x∈aC (bH p i))->z5y (qx p) s->(∀o:Nat,iI s (o:Int)=true->o=i\/Rc (qx p) o i)->YE p.stmts.length s<f->0<=m ->
  (∃s',rX (rW p (aX p) (qf p (aX p) f) i) l s m = .ok (Eu (vOf (qx p)) (l.filterMap (JY p (aX p) i)) m) s'/\(∀q∈l.filterMap (JY p (aX p) i),Age (qx p) q.1 (vOf (qx p) q.1))/\z5y (qx p) s'/\z1a s s') \/
  ((∃t,rX (rW p (aX p) (qf p (aX p) f) i) l s m = .pan t)/\∃q∈l.filterMap (JY p (aX p) i),¬∃v,Age (qx p) q.1 v)
 | [],s,m,_,hs,_,_,_=>.inl ⟨s,rfl,λq hq=>by simp at hq,hs,λ_=>rfl⟩
 |x::r,s,m,hl,hs,ho,hf,hm=>by
  have hx:=hl x List.mem_cons_self
  have hr:∀y∈r,y∈aC (bH p i):=λy hy=>hl y (List.mem_cons_of_mem _ hy)
  cases hd:JY p (aX p) i x with
  |none=>
   have hm0:mm2 true m 0=m:=by unfold mm2;simp only;rw[if_neg (by omega)]
   simp only[rX,WW hd,hm0,List.filterMap_cons,hd]
   exact J3 g ih hi r s m hr hs ho hf hm
  |some q=>
   have hq:q∈qx p i:=List.mem_filterMap.2 ⟨x,hx,hd⟩
   have hqn:=z5w g hi hx hd
   rcases ih s q.1 hqn hs (λo h=>by
    rcases ho o h with e |e
    ·exact e ▸ .one hq
    ·exact e.snoc hq) hf with⟨v,s',e1,e2,e3,e4⟩ |⟨⟨t,e1⟩,e2⟩
   ·have hv:=z5x e2
    have hmx:=(iJ m (v+q.2)).1
    simp only[rX,Nh g hi hx hd e1 e2,List.filterMap_cons,hd,Eu,hv]
    rcases J3 g ih hi r s' (mm2 true m (v+q.2)) hr e3 (λo h=>ho o (by rw[<-e4];exact h)) (by rw[Uk e4];exact hf) (by omega)with⟨s2,a1,a2,a3,a4⟩ |⟨a1,t,a2,a3⟩
    ·refine .inl ⟨s2,a1,λt ht=>?_,a3,λk=>(a4 k).trans (e4 k)⟩
     rcases List.mem_cons.1 ht with rfl |ht
     ·rw[hv];exact e2
     ·exact a2 t ht
    ·exact .inr ⟨a1,t,List.mem_cons_of_mem _ a2,a3⟩
   ·refine .inr ⟨⟨t,?_⟩,q,?_,e2⟩
    ·simp only[rX,JZ g hi hx hd e1]
    ·simp only[List.filterMap_cons,hd];exact List.mem_cons_self
theorem WX{n:Nat}{s:AS}{i:Nat}(hi:i<n)(h:iI s i=false):YE n ⟨s.ages,lL (i:Int) true s.opn⟩+1=YE n s:=by
 unfold YE
 have key:∀m,m<=n->((List.range m).countP λk:Nat=>!iI ⟨s.ages,lL (i:Int) true s.opn⟩ (k:Int))+(if i<m then 1 else 0)=(List.range m).countP λk:Nat=>!iI s (k:Int):=by
  intro m
  induction m with
  |zero=>intro _;simp
  |succ m ih=>
   intro hm
   have ih:=ih (by omega)
   simp only[List.range_succ,List.countP_append,List.countP_singleton,pG]
   have hs:iI (⟨s.ages,s.opn⟩:AS) (m:Int)=iI s m:=rfl
   rw[hs]
   by_cases e:m=i
   ·subst e
    simp only[beq_self_eq_true,if_true,h,Bool.not_true,Bool.not_false,Bool.false_eq_true,if_false]
    rw[if_neg (by omega)]at ih
    rw[if_pos (by omega)]
    simp only[pG]at ih
    omega
   ·have:(((m:Nat):Int)==(i:Int))=false:=by rw[Bool.eq_false_iff];intro q;exact e (by have:=eq_of_beq q;omega)
    simp only[this,Bool.false_eq_true,if_false]
    simp only[pG]at ih
    have hh:(if i<m+1 then 1 else 0)=(if i<m then 1 else 0):=by
     by_cases q:i<m
     ·rw[if_pos q,if_pos (by omega)]
     ·rw[if_neg q,if_neg (by omega)]
    rw[hh]
    omega
 have:=key n (Nat.le_refl n)
 rwa[if_pos hi]at this
theorem YF{p:Pr}(g:GOk p):∀f,DOk p f
 | 0=>λ_ _ _ _ _ h=>absurd h (Nat.not_lt_zero _)
 |f+1=>λs i hi hs ho hf=>by
  rw[qf]
  by_cases hop:iI s (i:Int)=true
  ·rw[if_pos hop]
   exact .inr ⟨⟨_,rfl⟩,λ⟨v,hv⟩=>hv.irr (ho i hop)⟩
  ·rw[if_neg hop]
   have hop:iI s (i:Int)=false:=by simpa using hop
   cases ha:lkA (i:Int) s.ages with
   |some v=>exact .inl ⟨v,s,rfl,hs.ages i v ha,hs,λ_=>rfl⟩
   |none=>
    have hii:(decide (0<=(i:Int))&&decide ((i:Int)<p.stmts.length))=true:=by simp only[Bool.and_eq_true,decide_eq_true_eq];omega
    simp only[hii,if_true]
    have hc:=WX hi hop
    have hs1:z5y (qx p) ⟨s.ages,lL (i:Int) true s.opn⟩:=⟨hs.ages⟩
    rcases J3 g (YF g f) hi (aC (bH p i)) ⟨s.ages,lL (i:Int) true s.opn⟩ 0 (λ_ h=>h) hs1 (λo h=>by
     rw[pG]at h
     by_cases e:((o:Int)==(i:Int))=true
     ·exact .inl (by have:=eq_of_beq e;omega)
     ·rw[if_neg e]at h;exact .inr (ho o h)) (by omega) (Int.le_refl _)with⟨s',a1,a2,a3,a4⟩ |⟨⟨t,a1⟩,q,a2,a3⟩
    ·have hAge:Age (qx p) i (Eu (vOf (qx p)) (qx p i) 0):=.mk i _ a2
     refine .inl ⟨Eu (vOf (qx p)) (qx p i) 0,⟨lL (i:Int) (Eu (vOf (qx p)) (qx p i) 0) s'.ages,lL (i:Int) false s'.opn⟩,by rw[a1]<;>rfl,hAge,⟨λk v h=>?_⟩,λk=>?_⟩
     ·simp only[wC]at h
      by_cases e:((k:Int)==(i:Int))=true
      ·rw[if_pos e]at h;cases h
       have:k=i:=by have:=eq_of_beq e;omega
       rw[this];exact hAge
      ·rw[if_neg e]at h;exact a3.ages k v h
     ·have h1:=a4 k
      rw[pG]at h1 ⊢
      have h2:iI (⟨lL (i:Int) (Eu (vOf (qx p)) (qx p i) 0) s'.ages,s'.opn⟩:AS) k=iI s' k:=rfl
      have h3:iI (⟨s.ages,s.opn⟩:AS) k=iI s k:=rfl
      by_cases e:(k==(i:Int))=true
      ·rw[if_pos e,eq_of_beq e,hop]
      ·rw[if_neg e,h2,h1,if_neg e,h3]
    ·refine .inr ⟨⟨t,by rw[a1]⟩,λ⟨v,hv⟩=>?_⟩
     obtain⟨val,h,_⟩:=hv.inv
     exact a3 ⟨_,h q a2⟩
end Go.Fw.Tl
namespace Go.Fw.Tl
open Go.Fw Go.Fw.Ref15 Go.Fw.Rg
variable [ah] {p : Pr} {i : Nat}
theorem wF:∀(r:List Sm) (i:Nat) (out:Bool),bT p r i out = .ok r->∀(j:Nat) (s:Sm),r[j]? = some s->cO p s=s.index/\0<=s.index/\again p (i+j) s=false
 | [],_,_,_,j,s,h=>by simp at h
 |t::r,i,out,h,j,s,hj=>by
  rw[bT]at h
  split at h
  ·cases h
  ·split at h
   ·cases h
   ·rename_i h2
    split at h
    ·cases h
    ·rename_i h3
     cases hr:bT p r (i+1) (t.kind==4)with
     |error e=>rw[hr]at h;cases h
     |ok l=>
      rw[hr]at h
      simp only[Except.ok.injEq,List.cons.injEq]at h
      have h1:cO p t=t.index:=congrArg Sm.index h.1
      cases j with
      |zero=>
       simp only[List.getElem?_cons_zero,Option.some.injEq]at hj
       subst hj
       refine⟨h1,?_,by simpa using h3⟩
       rw[<-h1];simp only[decide_eq_true_eq]at h2;omega
      |succ j=>
       simp only[List.getElem?_cons_succ]at hj
       have:=wF r (i+1) _ (by rw[hr,h.2]) j s hj
       rwa[show i+1+j=i+(j+1)by omega]at this
theorem Ew:∀(r:List Sm) (i:Nat),ut p i r=true->∀(j:Nat) (s:Sm),r[j]? = some s->wfS p (i+j) s=true
 | [],_,_,j,s,h=>by simp at h
 |t::r,i,h,j,s,hj=>by
  cases j with
  |zero=>
   simp only[List.getElem?_cons_zero,Option.some.injEq]at hj
   subst hj
   simp only[ut,Bool.and_eq_true]at h;exact h.1
  |succ j=>
   simp only[List.getElem?_cons_succ]at hj
   have:=Ew r (i+1) (pg h) j s hj
   rwa[show i+1+j=i+(j+1)by omega]at this
theorem Nj{n:Nat}:∀x:Ex,wfX p n x=true->∀y∈aC x,wfX p n y=true:=by
 refine Ex.ind λx ih=>?_
 intro h y hy
 rw[jM]at hy
 rcases List.mem_cons.1 hy with rfl |hy
 ·exact h
 ·obtain⟨z,hz,hy⟩:=mV.1 hy
  exact ih z hz (gY (bG h).2.2 z hz) y hy
theorem qg{a b:Key}:Nc a b=true↔a=b:=by
 unfold Nc
 cases h:a.1==b.1
 ·simp only[cond_false,Bool.false_eq_true,false_iff]
  intro e;rw[e]at h;simp at h
 ·simp only[cond_true,beq_iff_eq]
  exact⟨λe=>Prod.ext (eq_of_beq h) e,λe=>by rw[e]⟩
theorem Ul{α:Type}{k j:Key}{v:α}:∀{l:List (Key×α)},lkK j (Uc k v l)=if Nc j k then some v else lkK j l
 | []=>by simp only[Uc,lkK]
 |(a,w)::r=>by
  simp only[Uc]
  by_cases h:Nc k a=true
  ·have h:=qg.1 h
   subst h
   simp only[qg.2 rfl,if_true,lkK]
   split<;>rfl
  ·simp only[h,Bool.false_eq_true,if_false,lkK,Ul (l:=r)]
   by_cases hj:Nc j a=true
   ·have hj':=qg.1 hj
    have:Nc j k=false:=by
     rw[Bool.eq_false_iff];intro e;exact h (qg.2 ((qg.1 e).symm.trans hj'))
    simp only[hj,if_true,this,Bool.false_eq_true,if_false]
   ·simp only[hj,Bool.false_eq_true,if_false]
theorem Nk{k:Key}{b:Int}:∀(r:List Sm) (i:Nat) (S:List (Key×Int)),lkK k (WV r i S)=some b->lkK k S=some b\/∃(j:Nat) (s:Sm),r[j]? = some s/\b=((i+j:Nat):Int)/\sets s.kind=true/\k=(s.kind,s.index)
 | [],_,_,h=>.inl h
 |t::r,i,S,h=>by
  rw[WV]at h
  rcases Nk r (i+1) _ h with q |⟨j,s,h1,h2,h3,h4⟩
  ·split at q
   ·rename_i hs
    rw[Ul]at q
    split at q
    ·rename_i e
     cases q
     exact .inr ⟨0,t,rfl,rfl,hs,qg.1 e⟩
    ·exact .inl q
   ·exact .inl q
  ·exact .inr ⟨j+1,s,h1,by rw[h2];congr 1;omega,h3,h4⟩
theorem Hg{k:Key}{b:Int}(h:lkK k (aX p)=some b):∃(j:Nat) (s:Sm),p.stmts[j]? = some s/\b=(j:Int)/\sets s.kind=true/\k=(s.kind,s.index):=by
 rcases Nk p.stmts 0 [] h with q |⟨j,s,h1,h2,h3,h4⟩
 ·simp[lkK]at q
 ·exact⟨j,s,h1,by rw[h2];congr 1;omega,h3,h4⟩
def wt2(p:Pr)(k:Nat):Int:=if(p.stmts.getD k Sm.none).kind==2 then 1 else 0
def lsz(p:Pr)(k:Nat):Int:=mm2 true 0 (p.lines.getD k Ln.none).size
def wt3(p:Pr)(k:Nat):Int:=if(p.stmts.getD k Sm.none).kind==3 then lsz p (p.stmts.getD k Sm.none).index.toNat else 0
def wtP(p:Pr)(k:Nat):Int:=wt2 p k+wt3 p k
theorem CJ(p:Pr)(k:Nat):0<=lsz p k:=(iJ _ _).1
theorem CO(p:Pr)(k:Nat):0<=wt2 p k:=by unfold wt2;split<;>omega
theorem CP(p:Pr)(k:Nat):0<=wt3 p k:=by
 unfold wt3;split
 ·exact CJ _ _
 ·omega
theorem bg{α:Type}{l:List α}{a d:α}(h:l[i]? = some a):l.getD i d=a:=by rw[List.getD_eq_getElem?_getD,h];rfl
theorem z5z{q:Nat×Int}(h:q∈qx p i):q.2<=wtP p q.1:=by
 obtain⟨x,_,h⟩:=List.mem_filterMap.1 h
 have h2:=CO p q.1
 have h3:=CP p q.1
 unfold JY at h
 split at h
 ·cases h;unfold wtP;simp only at h2 h3 ⊢;omega
 ·split at h
  ·split at h
   ·rename_i b hb
    obtain⟨j,s,e1,e2,_,e4⟩:=Hg hb
    cases h
    have hk:s.kind=2:=(congrArg Prod.fst e4).symm
    have:wt2 p b.toNat=1:=by
     rw[wt2,e2,Int.toNat_natCast,bg e1,hk];rfl
    simp only[wtP]at h2 h3 ⊢
    split<;>omega
   ·cases h
  ·split at h
   ·split at h
    ·rename_i b hb
     obtain⟨j,s,e1,e2,_,e4⟩:=Hg hb
     cases h
     have hk:s.kind=3:=(congrArg Prod.fst e4).symm
     have hx:s.index=x.index:=(congrArg Prod.snd e4).symm
     have:wt3 p b.toNat=lsz p x.index.toNat:=by
      rw[wt3,e2,Int.toNat_natCast,bg e1,hk,hx];rfl
     have h4:(cu p x.index).size<=lsz p x.index.toNat:=(iJ _ _).2.1
     simp only[wtP]at h2 h3 ⊢
     omega
    ·cases h
   ·cases h
theorem Nl(g:Nat->Int)(f:Nat->Nat)(c:Nat->Bool):∀l:List Nat,sumW (λk=>if c k then g (f k)else 0) l=sumW g ((l.filter c).map f)
 | []=>rfl
 |k::r=>by
  rw[eP,Nl g f c r]
  cases h:c k
  ·rw[List.filter_cons_of_neg (by simp[h])];simp
  ·rw[List.filter_cons_of_pos h,List.map_cons,eP];simp
theorem Hl{f:Nat->Nat}:∀{l:List Nat},l.Nodup->(∀a∈l,∀b∈l,f a=f b->a=b)->(l.map f).Nodup
 | [],_,_=>List.nodup_nil
 |k::r,h,hf=>by
  rw[List.map_cons,List.nodup_cons]
  refine⟨λhm=>?_,Hl (List.nodup_cons.1 h).2 λa ha b hb=>hf a (List.mem_cons_of_mem _ ha) b (List.mem_cons_of_mem _ hb)⟩
  obtain⟨b,hb,e⟩:=List.mem_map.1 hm
  have:=hf b (List.mem_cons_of_mem _ hb) k List.mem_cons_self e
  exact(List.nodup_cons.1 h).1 (this ▸ hb)
theorem Np{g:Nat->Int}{f:Nat->Nat}{c:Nat->Bool}{n m:Nat}(h0:∀k,0<=g k)(hi:∀a,a<n->∀b,b<n->c a=true->c b=true->f a=f b->a=b)(hm:∀a,a<n->c a=true->f a<m):sumW (λk=>if c k then g (f k)else 0) (List.range n)<=sumW g (List.range m):=by
 rw[Nl]
 refine wB h0 m (Hl (List.nodup_range.filter _) λa ha b hb=>?_) λk hk=>?_
 ·have ha:=List.mem_filter.1 ha
  have hb:=List.mem_filter.1 hb
  exact hi a (List.mem_range.1 ha.1) b (List.mem_range.1 hb.1) ha.2 hb.2
 ·obtain⟨a,ha,rfl⟩:=List.mem_map.1 hk
  have ha:=List.mem_filter.1 ha
  exact hm a (List.mem_range.1 ha.1) ha.2
theorem Nq(f g:Nat->Int):∀l:List Nat,sumW (λk=>f k+g k) l=sumW f l+sumW g l
 | []=>rfl
 |k::r=>by rw[eP,eP,eP,Nq f g r];omega
theorem WY:∀n:Nat,sumW (λ_=>1) (List.range n)=(n:Int):=by
 have:∀l:List Nat,sumW (λ_=>1) l=(l.length:Int):=by
  intro l
  induction l with
  |nil=>rfl
  |cons a r ih=>rw[eP,ih,List.length_cons];omega
 intro n;rw[this,List.length_range]
theorem Ey(h:Res p){i j:Nat}{s t:Sm}(hi:p.stmts[i]? = some s)(hj:p.stmts[j]? = some t)(hs:sets s.kind=true)(hk:t.kind=s.kind)(hx:t.index=s.index):¬i<j:=by
 intro hl
 have a1:=wF p.stmts 0 false h.ru i s hi
 have a2:=wF p.stmts 0 false h.ru j t hj
 have hn:t.name=s.name:=by
  have h1:=a1.1;have h2:=a2.1
  have key:∀(l:List Str) (a b:Str),find l a=find l b->0<=find l a->a=b:=by
   intro l a b e h0
   have hg:∀(l:List Str) (a:Str) (i:Int),0<=i->0<=aW a l i->i<=aW a l i/\l[(aW a l i-i).toNat]? = some a:=by
    intro l a
    induction l with
    |nil=>intro i hi h;simp[aW]at h
    |cons x r ih=>
     intro i hi h
     simp only[aW]at h ⊢
     split at h
     ·rename_i e
      rw[if_pos e]
      refine⟨Int.le_refl _,?_⟩
      rw[Int.sub_self];simp only[Int.toNat_zero,List.getElem?_cons_zero]
      rw[eq_of_beq e]
     ·rename_i e
      rw[if_neg e]
      have:=ih (i+1) (by omega) h
      refine⟨by omega,?_⟩
      rw[show(aW a r (i+1)-i).toNat=(aW a r (i+1)-(i+1)).toNat+1 by omega,List.getElem?_cons_succ]
      exact this.2
   have g1:=(hg l a 0 (Int.le_refl _) h0).2
   have g2:=(hg l b 0 (Int.le_refl _) (by rw[<-find,<-e];exact h0)).2
   rw[<-find]at g1 g2
   rw[e,g2]at g1
   exact(Option.some.inj g1).symm
  simp only[cO,hk]at h1 h2
  simp only[sets]at hs
  by_cases h3:(s.kind==3)=true
  ·rw[if_pos h3]at h1 h2
   exact key (Ref15.lines p) _ _ (by rw[h2,hx,h1]) (by rw[h2];exact a2.2.1)
  ·rw[if_neg h3]at h1 h2
   have h4:(s.kind==2)=true:=by
    cases q:s.kind==2
    ·rw[q]at hs;exact absurd hs h3
    ·rfl
   rw[if_pos h4]at h1 h2
   exact key (bounds p.states) _ _ (by rw[h2,hx,h1]) (by rw[h2];exact a2.2.1)
 have ha:=a2.2.2
 rw[Nat.zero_add,again,List.any_eq_false]at ha
 have hm:s∈p.stmts.take j:=List.mem_of_getElem? (by rw[List.getElem?_take_of_lt hl];exact hi)
 have:=ha s hm
 rw[hk,hn]at this
 have h1:(s.kind != 1)=true:=by
  cases q:s.kind==1
  ·simp[bne,q]
  ·have q:=eq_of_beq q
   rw[q]at hs;exact absurd hs (by decide)
 simp[h1]at this
theorem z7n(h:Res p):(p.params.length<=16/\p.states.length<=16/\p.lines.length<=16/\p.tables.length<=16/\p.stmts.length<=64)/\(∀l∈p.lines,1<=l.size/\l.size<=65536)/\(0<=p.latency/\p.latency<=4096)/\(-1<=p.tail/\p.tail<=1048576):=by
 have:=h.li
 simp only[limited,few,memOk,BQ,Bool.and_eq_true,Bool.not_eq_true',Bool.or_eq_false_iff,decide_eq_false_iff_not,decide_eq_true_eq,List.all_eq_true]at this
 obtain⟨⟨⟨⟨h1,h2⟩,_⟩,_⟩,h5⟩:=this
 exact⟨by omega,λl hl=>by have:=h2 l hl;omega,by omega,by omega⟩
theorem Um(h:Res p):0<p.stmts.length:=by
 have:=h.ru
 cases e:p.stmts with
 |nil=>rw[e,bT]at this;simp at this
 |cons s r=>simp
theorem Ez{s:Sm}(h:p.stmts[i]? = some s):bH p (i:Int)=s.x:=by rw[bH,Int.toNat_natCast,bg h]
theorem pI{α:Type}{l:List α}(h:i<l.length):∃a,l[i]? = some a:=⟨_,List.getElem?_eq_getElem h⟩
theorem mg(h:Res p)(hi:i<p.stmts.length){x:Ex}(hx:x∈aC (bH p i)):wfX p i x=true:=by
 obtain⟨s,hs⟩:=pI hi
 rw[Ez hs]at hx
 have:=Ew p.stmts 0 h.wf i s hs
 rw[Nat.zero_add,wfS,Bool.and_eq_true]at this
 exact Nj s.x this.1 x hx
theorem z1b(h:Res p):sumW (wtP p) (List.range p.stmts.length)<=(p.states.length:Int)+sumW (lsz p) (List.range p.lines.length):=by
 have e:wtP p=λk=>wt2 p k+wt3 p k:=rfl
 rw[e,Nq]
 have inj:∀c:Int,(c==2 || c==3)=true->∀a,a<p.stmts.length->∀b,b<p.stmts.length->((p.stmts.getD a Sm.none).kind==c)=true->((p.stmts.getD b Sm.none).kind==c)=true->(p.stmts.getD a Sm.none).index.toNat=(p.stmts.getD b Sm.none).index.toNat->a=b:=by
  intro c hc a ha b hb h1 h2 h3
  obtain⟨s,hs⟩:=pI ha
  obtain⟨t,ht⟩:=pI hb
  rw[bg hs]at h1 h3
  rw[bg ht]at h2 h3
  have h1:=eq_of_beq h1
  have h2:=eq_of_beq h2
  have g1:=(wF p.stmts 0 false h.ru a s hs).2.1
  have g2:=(wF p.stmts 0 false h.ru b t ht).2.1
  have hk:∀k:Int,k=c->sets k=true:=by
   intro k e;subst e
   simp only[Bool.or_eq_true,beq_iff_eq]at hc
   rcases hc with rfl |rfl<;>rfl
  have q1:=Ey h hs ht (hk _ h1) (h2.trans h1.symm) (by omega)
  have q2:=Ey h ht hs (hk _ h2) (h1.trans h2.symm) (by omega)
  omega
 have wfa:∀a,a<p.stmts.length->∀s,p.stmts[a]? = some s->wfS p a s=true:=λa _ s hs=>by
  have:=Ew p.stmts 0 h.wf a s hs
  rwa[Nat.zero_add]at this
 have h2:=Np (g:=λ_=>1) (f:=λk=>(p.stmts.getD k Sm.none).index.toNat) (c:=λk=>(p.stmts.getD k Sm.none).kind==2) (n:=p.stmts.length) (m:=p.states.length) (λ_=>by decide) (inj 2 rfl) (λa ha hc=>by
  obtain⟨s,hs⟩:=pI ha
  have:=wfa a ha s hs
  rw[bg hs]at hc ⊢
  simp only[wfS,Bool.and_eq_true,hc,Bool.not_true,Bool.false_or,decide_eq_true_eq]at this
  omega)
 have h3:=Np (g:=lsz p) (f:=λk=>(p.stmts.getD k Sm.none).index.toNat) (c:=λk=>(p.stmts.getD k Sm.none).kind==3) (n:=p.stmts.length) (m:=p.lines.length) (CJ p) (inj 3 rfl) (λa ha hc=>by
  obtain⟨s,hs⟩:=pI ha
  have:=wfa a ha s hs
  rw[bg hs]at hc ⊢
  simp only[wfS,Bool.and_eq_true,hc,Bool.not_true,Bool.false_or,decide_eq_true_eq]at this
  omega)
 rw[WY]at h2
 exact Int.add_le_add h2 h3
theorem WZ(h:p.stmts.length<=i):qx p i = []:=by
 have:bH p i=Ex.none:=by rw[bH,Int.toNat_natCast,List.getD_eq_getElem?_getD,List.getElem?_eq_none h];rfl
 rw[qx,this,jM]
 rfl
theorem z8y(h:∀i,i<p.stmts.length->∀q∈qx p i,q.1<p.stmts.length){i k:Nat}(hr:Rc (qx p) i k):k<p.stmts.length:=by
 have one:∀{i:Nat} {q:Nat×Int},q∈qx p i->q.1<p.stmts.length:=by
  intro i q hq
  rcases Nat.lt_or_ge i p.stmts.length with hi |hi
  ·exact h i hi q hq
  ·rw[WZ hi]at hq;simp at hq
 induction hr with
 |one hq=>exact one hq
 |step _ _ ih=>exact ih
theorem dep_lt'(h:Res p):∀i,i<p.stmts.length->∀q∈qx p i,q.1<p.stmts.length:=by
 intro i hi q hq
 obtain⟨x,hx,hd⟩:=List.mem_filterMap.1 hq
 have hw:=(bG (mg h hi hx)).2.1
 unfold JY at hd
 split at hd
 ·rename_i h5
  cases hd
  have h5:=eq_of_beq h5
  rw[h5]at hw
  simp only[qN]at hw
  simp at hw
  simp only;omega
 ·split at hd
  ·split at hd
   ·rename_i b hb;cases hd
    obtain⟨j,s,e1,e2,_,_⟩:=Hg hb
    have:=(List.getElem?_eq_some_iff.1 e1).1
    simp only;omega
   ·cases hd
  ·split at hd
   ·split at hd
    ·rename_i b hb;cases hd
     obtain⟨j,s,e1,e2,_,_⟩:=Hg hb
     have:=(List.getElem?_eq_some_iff.1 e1).1
     simp only;omega
    ·cases hd
   ·cases hd
theorem z6a(h:Res p){v:Int}(ha:Age (qx p) i v):v<=(p.states.length:Int)+sumW (lsz p) (List.range p.lines.length):=by
 obtain⟨l,h1,h2,h3⟩:=ha.path (wt:=wtP p) (λ_ q hq=>z5z hq)
 have h4:=wB (wt:=wtP p) (λk=>Int.add_nonneg (CO p k) (CP p k)) p.stmts.length h1 (λk hk=>z8y (dep_lt' h) (h2 k hk))
 have:=z1b h
 omega
theorem Un{f:Nat->Int}{b:Int}:∀(l:List Nat),(∀k∈l,f k<=b)->sumW f l<=b * l.length
 | [],_=>by simp[sumW]
 |k::r,h=>by
  have:=Un r λj hj=>h j (List.mem_cons_of_mem _ hj)
  have:=h k List.mem_cons_self
  rw[eP,List.length_cons]
  have e:b * ((r.length+1:Nat):Int)=b * (r.length:Int)+b:=by rw[Int.natCast_add,Int.mul_add];simp
  omega
theorem z6b(h:Res p){k:Nat}(hk:k<p.lines.length):lsz p k=(p.lines.getD k Ln.none).size/\lsz p k<=65536:=by
 obtain⟨l,hl⟩:=pI hk
 have:=(z7n h).2.1 l (List.mem_of_getElem? hl)
 rw[lsz,bg hl]
 unfold mm2;simp only;split<;>omega
theorem z1c(h:Res p):GOk p:=by
 have hl:=z7n h
 refine⟨by omega,λi hi x hx h5=>?_,λk b hb=>?_,λi hi x hx h8=>?_,λi v ha=>?_⟩
 ·have hw:=(bG (mg h hi hx)).2.1
  rw[eq_of_beq h5]at hw
  simp only[qN]at hw
  simp at hw
  omega
 ·obtain⟨j,s,e1,e2,_,_⟩:=Hg hb
  have:=(List.getElem?_eq_some_iff.1 e1).1
  omega
 ·have hw:=(bG (mg h hi hx)).2.1
  rw[eq_of_beq h8]at hw
  simp only[qN]at hw
  simp at hw
  obtain⟨l,hl'⟩:=pI (l:=p.lines) (i:=x.index.toNat) (by omega)
  have:=hl.2.1 l (List.mem_of_getElem? hl')
  refine⟨by rw[cu,bg hl'];omega,?_⟩
  simp only[Bool.and_eq_true,decide_eq_true_eq];omega
 ·have h1:=z6a h ha
  have h2:=Un (f:=lsz p) (b:=65536) (List.range p.lines.length) (λk hk=>(z6b h (List.mem_range.1 hk)).2)
  rw[List.length_range]at h2
  have:=hl.1
  omega
variable [ah] {p : Pr} {n : Nat} {x : Ex}
theorem yc{x y:Ex}(hw:wfX p n x=true)(hx:bz p n x=(x,true))(hy:y∈x.l):bz p n y=(y,true):=by
 obtain⟨g1,g2,g3⟩:=bG hw
 rw[kN]at hx
 by_cases hN:(named x.kind&&x.kind != 8&&x.kind != 9)=true
 ·exfalso
  have:Ref15.parts x.kind=0:=by
   simp only[named,Bool.and_eq_true,bne_iff_ne]at hN
   rcases kinds g2 with h |h |h |h |h |h |h |h |h |h |h |h |h |h |h |h |h |h<;>rw[h]at hN ⊢ <;> first |rfl |(exfalso;simp at hN;done)
  rw[this]at g1
  have:x.l.length=0:=by omega
  rw[List.length_eq_zero_iff]at this;rw[this]at hy;simp at hy
 ·rw[if_neg hN]at hx
  have e1:(dh p n x.l).1=x.l:=congrArg (λq=>q.1.l) hx
  have e3:(decide (jb p x>=0)&&(dh p n x.l).2)=true:=congrArg Prod.snd hx
  simp only[Bool.and_eq_true]at e3
  exact nO (Prod.ext e1 e3.2) y hy
theorem Uo(hn:n<=p.stmts.length)(hx:bz p n x=(x,true))(hw:wfX p n x=true):wu p x=true:=by
 obtain⟨g1,g2,g3⟩:=bG hw
 by_cases h5:x.kind=5
 ·have h0:=Tm g2 (by rw[h5];rfl)
  rw[kN,if_pos (by rw[h5];rfl),value]at hx
  simp only at hx
  have hg:given p x.name n=x.index:=by
   split at hx
   ·split at hx
    ·exact congrArg (λq=>q.1.index) hx
    ·have this:(4:Int)=x.kind:=congrArg (λq=>q.1.kind) hx
     rw[h5]at this;exact absurd this (by decide)
   ·have this:(3:Int)=x.kind:=congrArg (λq=>q.1.kind) hx
    rw[h5]at this;exact absurd this (by decide)
  rw[given]at hg
  have hkk:=(Cj (p.stmts.take n) 0 (Int.le_refl _) (by rw[hg];exact h0.1)).2
  rw[hg,Int.sub_zero]at hkk
  have hst:p.stmts.getD x.index.toNat Sm.none=(p.stmts.take n).getD x.index.toNat Sm.none:=by
   simp only[List.getD_eq_getElem?_getD]
   rw[List.getElem?_take_of_lt (by omega)]
  rw[wu,h5,hst,hkk]
  rw[h5]at g1
  have g1:(x.l.length:Int)=0:=g1
  rw[g1]
  rw[if_neg (by decide),if_neg (by decide),if_neg (by decide),if_neg (by decide),if_neg (by decide),if_neg (by decide),if_neg (by decide),if_pos (by decide)]
  rw[decide_eq_true (show x.index>=0 from h0.1),decide_eq_true (by omega)];rfl
 ·rcases kinds g2 with r |r |r |r |r |r |r |r |r |r |r |r |r |r |r |r |r |r<;>first
   |exact absurd r h5
   | (rw[r]at g1 g2
      simp[qN]at g2
      simp[wu,r,kW,Ref15.parts,Bool.cond_false_right]at g1 ⊢
      try simp only[decide_eq_true_eq]
      first |omega |exact⟨g1,by omega⟩ |exact⟨g1,by omega,decide_eq_true (by omega)⟩)
theorem z1d{b:Nat}(hb:b<=p.stmts.length):∀x:Ex,∀most:Int,bz p b x=(x,true)->wfX p b x=true->(Ref15.nodes x:Int)<=most->nX p x most=Ref15.nodes x:=by
 refine Ex.ind λx ih most hx hw hn=>?_
 have hN:=Ref15.nodes_eq x
 rw[pF,Uo hb hx hw,decide_eq_false (by omega)]
 rw[if_neg (by decide)]
 have hL:∀(l:List Ex),(∀z∈l,z∈x.l)->∀n:Int,1<=n->n+Ref15.nodesL l<=most->kX p l most n=n+Ref15.nodesL l:=by
  intro l
  induction l with
  |nil=>intro _ n _ _;rw[kX];simp[Ref15.nodesL]
  |cons z r ihr=>
   intro hl n h1 h2
   simp only[Ref15.nodesL]at h2 ⊢
   have hz:=ih z (hl z (by simp)) (most-n) (yc hw hx (hl z (by simp))) (gY (bG hw).2.2 z (hl z (by simp))) (by omega)
   rw[kX,hz,if_neg (by omega),ihr (λw hw=>hl w (by simp[hw])) _ (by omega) (by omega)]
   omega
 rw[hL x.l (λ_ h=>h) 1 (Int.le_refl _) (by omega)]
 omega
theorem W9{b:Nat}(hb:b<=p.stmts.length)(hx:bz p b x=(x,true))(hw:wfX p b x=true)(hn:Ref15.nodes x<=512):Eo p x=true:=by
 rw[<-JJ,z1d hb x 512 hx hw (by omega)]
 have:=Ref15.nodes_eq x
 exact decide_eq_true (by omega)
theorem EC:∀(r:List Sm) (i:Nat) (out:Bool),bT p r i out = .ok r->∀(j:Nat) (s:Sm),r[j]? = some s->bz p (i+j) s.x=(s.x,true)
 | [],_,_,_,j,s,h=>by simp at h
 |t::r,i,out,h,j,s,hj=>by
  rw[bT]at h
  split at h
  ·cases h
  ·rename_i h1
   split at h
   ·cases h
   ·split at h
    ·cases h
    ·cases hr:bT p r (i+1) (t.kind==4)with
     |error e=>rw[hr]at h;cases h
     |ok l=>
      rw[hr]at h
      simp only[Except.ok.injEq,List.cons.injEq]at h
      cases j with
      |zero=>
       simp only[List.getElem?_cons_zero,Option.some.injEq]at hj
       subst hj
       have e1:(bz p i t.x).1=t.x:=congrArg Sm.x h.1
       exact Prod.ext e1 (by simpa using h1)
      |succ j=>
       simp only[List.getElem?_cons_succ]at hj
       have:=EC r (i+1) _ (by rw[hr,h.2]) j s hj
       rwa[show i+1+j=i+(j+1)by omega]at this
theorem Ur:∀x:Ex,wfX p n x=true->bz p n x=(x,true)->∀y∈aC x,bz p n y=(y,true):=by
 refine Ex.ind λx ih=>?_
 intro h hr y hy
 rw[jM]at hy
 rcases List.mem_cons.1 hy with rfl |hy
 ·exact hr
 ·obtain⟨z,hz,hy⟩:=mV.1 hy
  exact ih z hz (gY (bG h).2.2 z hz) (yc h hr hz) y hy
theorem Aa:∀x:Ex,∀y∈aC x,Ref15.nodes y<=Ref15.nodes x:=by
 refine Ex.ind λx ih=>?_
 intro y hy
 rw[jM]at hy
 rcases List.mem_cons.1 hy with rfl |hy
 ·exact Nat.le_refl _
 ·obtain⟨z,hz,hy⟩:=mV.1 hy
  have:=ih z hz y hy
  have:=mP hz
  have:=Ref15.nodes_eq x
  omega
theorem Us{F G:List Sp}(hF:∀j,j<n->F.getD j (0,0)=G.getD j (0,0)):∀x:Ex,wfX p n x=true->dN p F x=dN p G x:=by
 refine Ex.ind λx ih=>?_
 intro hw
 obtain⟨g1,g2,g3⟩:=bG hw
 have hL:∀l:List Ex,(∀z∈l,z∈x.l)->di p F l=di p G l:=by
  intro l
  induction l with
  |nil=>intro _;rfl
  |cons z r ihr=>
   intro hl
   rw[di,di,ih z (hl z (by simp)) (gY g3 z (hl z (by simp))),ihr λw hw=>hl w (by simp[hw])]
 rw[jD,jD,hL x.l λ_ h=>h]
 cases di p G x.l with
 |error e=>rfl
 |ok l=>
  simp only
  by_cases h5:(x.kind==5)=true
  ·have h0:=Tm g2 h5
   rw[z4z 5 h5,z4z (found:=G) 5 h5]
   have:=hF x.index.toNat (by omega)
   simp only[opM]
   rw[this]
  ·have h5:(x.kind==5)=false:=by simpa using h5
   simp only[opM,h5,Bool.false_eq_true,if_false]
theorem O4{F:List Sp}:∀(x:Ex) (s:Sp),dN p F x = .ok s->∀y∈aC x,∃t,dN p F y = .ok t:=by
 refine Ex.ind λx ih=>?_
 intro s h y hy
 rw[jM]at hy
 rcases List.mem_cons.1 hy with rfl |hy
 ·exact⟨s,h⟩
 ·obtain⟨z,hz,hy⟩:=mV.1 hy
  rw[jD]at h
  cases hl:di p F x.l with
  |error e=>rw[hl]at h;cases h
  |ok l=>
   obtain⟨t,ht⟩:=Ci hl z hz
   exact ih z hz t ht y hy
theorem drop_at{α:Type}{l:List α}{i:Nat}{a:α}(h:l[i]? = some a):∃r,l.drop i=a::r:=by
 have hi:=(List.getElem?_eq_some_iff.1 h).1
 exact⟨l.drop (i+1),by rw[List.drop_eq_getElem_cons hi,(List.getElem?_eq_some_iff.1 h).2]⟩
theorem Ut(h:looks x=true):x.kind=6\/x.kind=7:=by
 unfold looks at h
 cases q:x.kind==6
 ·rw[q]at h;exact .inr (eq_of_beq h)
 ·exact .inl (eq_of_beq q)
theorem look_ok{F:List Sp}(h:BOk p F){i:Nat}(hi:i<p.stmts.length)(hx:x∈aC (bH p i))(hk:looks x=true):x.l.length=1/\∃s,gu p (x.l.getD 0 Ex.none) = .ok s/\Eo p (x.l.getD 0 Ex.none)=true/\dN p F (x.l.getD 0 Ex.none) = .ok s/\0<=s.2/\s.2<=4096:=by
 obtain⟨st,hs⟩:=pI hi
 rw[Ez hs]at hx
 obtain⟨r,hr⟩:=drop_at hs
 have a:=z8l h hr
 have hw:wfX p i st.x=true:=by have:=a.wf;simp only[wfS,Bool.and_eq_true]at this;exact this.1
 have hwx:=Nj st.x hw x hx
 obtain⟨g1,g2,g3⟩:=bG hwx
 obtain⟨t,ht⟩:=O4 st.x _ a.run x hx
 have hlen:x.l.length=1:=by
  rcases Ut hk with e |e<;>(rw[e]at g1;simp[Ref15.parts]at g1;omega)
 obtain⟨y,hy⟩:∃y,x.l = [y]:=by
  cases hxl:x.l with
  |nil=>rw[hxl]at hlen;simp at hlen
  |cons y r=>cases r with
   |nil=>exact⟨y,rfl⟩
   |cons z r=>rw[hxl]at hlen;simp at hlen
 have hwy:wfX p i y=true:=gY g3 y (by rw[hy];exact List.mem_cons_self)
 have hry:=yc hwx (Ur st.x hw (by have:=EC p.stmts 0 false h.res.ru i st hs;rwa[Nat.zero_add]at this) x hx) (show y∈x.l by rw[hy];exact List.mem_cons_self)
 have hn:Ref15.nodes st.x<=512:=by
  have:=h.res.li
  rw[limited_eq]at this
  simp only[Bool.and_eq_true]at this
  have:=List.all_eq_true.1 this.2.2.2.1 st (List.mem_of_getElem? hs)
  simp only[zx,Bool.not_eq_true',decide_eq_false_iff_not]at this
  omega
 have hny:Ref15.nodes y<=512:=by
  have h1:=Aa st.x x hx
  have h2:=mP (l:=x.l) (y:=y) (by rw[hy];exact List.mem_cons_self)
  have h3:=Ref15.nodes_eq x
  omega
 have hfit:=W9 (Nat.le_of_lt hi) hry hwy hny
 rw[jD,hy,di]at ht
 have hgd:x.l.getD 0 Ex.none=y:=by rw[hy];rfl
 rw[hgd]
 cases hfy:dN p (F.take i) y with
 |error e=>rw[hfy]at ht;cases ht
 |ok s=>
  rw[hfy,di]at ht
  simp only at ht
  have hFy:dN p F y = .ok s:=by
   rw[<-hfy]
   refine(Us (n:=i) (λj hj=>?_) y hwy).symm
   rw[List.getD_eq_getElem?_getD,List.getD_eq_getElem?_getD,List.getElem?_take_of_lt hj]
  have hord:=GR h.res.rng h.fok.sub (found:=F) (x:=y) (s:=s) (by
   have:∀(m n:Nat),m<=n->∀x:Ex,wfX p m x=true->wfX p n x=true:=by
    intro m n hmn
    refine Ex.ind λx ih=>?_
    intro hw
    rw[MF]at hw ⊢
    simp only[Bool.and_eq_true]at hw ⊢
    refine⟨⟨hw.1.1,?_⟩,Tc λz hz=>ih z hz (gY hw.2 z hz)⟩
    have:=hw.1.2
    unfold qN at this ⊢
    split at this
    ·rename_i q;rw[if_pos q];exact this
    ·rename_i q1;rw[if_neg q1]
     split at this
     ·rename_i q;rw[if_pos q];exact this
     ·rename_i q2;rw[if_neg q2]
      split at this
      ·rename_i q;rw[if_pos q];exact this
      ·rename_i q3;rw[if_neg q3]
       split at this
       ·rename_i q;rw[if_pos q]
        simp only[Bool.and_eq_true,decide_eq_true_eq]at this ⊢
        omega
       ·rename_i q4;rw[if_neg q4];exact this
   refine this i F.length ?_ y hwy
   rw[h.len];omega) hFy
  have hah:aheadM s = .ok t:=by
   rcases Ut hk with e |e<;>(rw[e]at ht;simpa[opM]using ht)
  unfold aheadM at hah
  split at hah
  ·cases hah
  ·rename_i hq
   simp only[Bool.or_eq_true,decide_eq_true_eq,not_or]at hq
   refine⟨hlen,s,?_,hfit,hFy,by omega,by omega⟩
   have hb:=pY (MR h.res) h.run
   rw[Tu (by rw[hb]) hfit,hb];exact hFy
variable [ah] {r0 : List Ex} {x x0 : Ex} {P : Nat → Ex → Prop} {i k m : Nat}
theorem CQ:∀(l m:List Ex),dC (l++m)=dC l++dC m
 | [],m=>rfl
 |y::r,m=>by rw[List.cons_append,dC,dC,CQ r m,List.append_assoc]
theorem Xa{α:Type}{l r0:List α}{k:Nat}{x0:α}(hd:l.drop k=x0::r0):l=l.take k++x0::r0:=by
 have:=List.take_append_drop k l
 rw[hd]at this;exact this.symm
theorem take_at{α:Type}{l r0:List α}{k:Nat}{x0:α}(hd:l.drop k=x0::r0):l.take (k+1)=l.take k++[x0]:=by
 have hk:k<l.length:=by
  by_cases hq:k<l.length
  ·exact hq
  ·rw[List.drop_eq_nil_iff.2 (by omega)]at hd;cases hd
 rw[List.drop_eq_getElem_cons hk]at hd
 rw[List.take_succ_eq_append_getElem hk]
 rw[(List.cons.inj hd).1]
theorem yf{k m:Nat}(hd:x.l.drop k=x0::r0)(hm:m=1+(dC (x.l.take k)).length){j:Nat}{y:Ex}(h:(aC x0)[j]? = some y):(aC x)[m+j]? = some y:=by
 rw[jM,Xa hd,CQ,dC,hm]
 have hj:=(List.getElem?_eq_some_iff.1 h).1
 rw[show 1+(dC (x.l.take k)).length+j=((dC (x.l.take k)).length+j)+1 by omega,List.getElem?_cons_succ,List.getElem?_append_right (by omega),Nat.add_sub_cancel_left,List.getElem?_append_left hj]
 exact h
theorem O5{k m:Nat}(hd:x.l.drop k=x0::r0)(hm:m=1+(dC (x.l.take k)).length):m+(aC x0).length=1+(dC (x.l.take (k+1))).length:=by
 rw[take_at hd,zY,List.length_append];omega
theorem Uu{x:Ex}{k m:Nat}(hd:x.l.drop k = [])(hm:m=1+(dC (x.l.take k)).length):m=(aC x).length:=by
 rw[List.take_of_length_le (List.drop_eq_nil_iff.1 hd)]at hm
 rw[jM,List.length_cons];omega
theorem z6c(hd:x.l.drop k=x0::r0)(hm:m=i+(1+(dC (x.l.take k)).length))(h:∀j y,(aC x)[j]? = some y->P (i+j) y):∀j y,(aC x0)[j]? = some y->P (m+j) y:=by
 intro j y hj
 rw[hm,Nat.add_assoc]
 exact h _ _ (yf hd rfl hj)
theorem Nr(hd:x.l.drop k=x0::r0)(hm:m=i+(1+(dC (x.l.take k)).length)):m+(aC x0).length=i+(1+(dC (x.l.take (k+1))).length):=by
 rw[hm,Nat.add_assoc,O5 hd rfl]
theorem Uw{x:Ex}(hd:x.l.drop k = [])(hm:m=i+(1+(dC (x.l.take k)).length)):m=i+(aC x).length:=by
 rw[hm,Uu hd rfl]
theorem z6d{i k m q:Nat}(hd:x.l.drop k=x0::r0)(hm:m=i+(1+(dC (x.l.take k)).length))(hq:m<=i+q):(m+(aC x0).length<=i+q)\/(∃t,q=(m-i)+t/\t<(aC x0).length):=by
 rcases Nat.lt_or_ge (i+q) (m+(aC x0).length)with h |h
 ·exact .inr ⟨q-(m-i),by omega,by omega⟩
 ·exact .inl h
theorem z1e{i k m q:Nat}(hd:x.l.drop k=x0::r0)(hm:m=i+(1+(dC (x.l.take k)).length))(h:∀j y,j<q->(aC x)[j]? = some y->P (i+j) y)(hq:m+(aC x0).length<=i+q):∀j y,(aC x0)[j]? = some y->P (m+j) y:=by
 intro j y hj
 have:=(List.getElem?_eq_some_iff.1 hj).1
 rw[hm,Nat.add_assoc]
 exact h _ _ (by omega) (yf hd rfl hj)
theorem z1f{i k m q t:Nat}(hd:x.l.drop k=x0::r0)(hm:m=i+(1+(dC (x.l.take k)).length))(h:∀j y,j<q->(aC x)[j]? = some y->P (i+j) y)(hq:q=(m-i)+t):∀j y,j<t->(aC x0)[j]? = some y->P (m+j) y:=by
 intro j y hj hy
 rw[hm,Nat.add_assoc]
 exact h _ _ (by omega) (yf hd rfl hy)
theorem z6e{i k m q t:Nat}(hd:x.l.drop k=x0::r0)(hm:m=i+(1+(dC (x.l.take k)).length))(h:∀y,(aC x)[q]? = some y->P (i+q) y)(hq:q=(m-i)+t):∀y,(aC x0)[t]? = some y->P (m+t) y:=by
 intro y hy
 have e:m+t=i+q:=by omega
 rw[e]
 refine h _ ?_
 have:=yf hd (m:=1+(dC (x.l.take k)).length) rfl hy
 rwa[show 1+(dC (x.l.take k)).length+t=q by omega]at this
theorem J4(x:Ex):(aC x)[0]? = some x:=by rw[jM];rfl
end Go.Fw.Tl
namespace Go.Fw
theorem Ux[ah]{T:Tbl}{ops:Array Oper}{env:Env}{K:Heap}{tr:List Rec}{kp:Nat}{q:Prop}(l:List (Nat×Nat))(h0:EW kp l=false)(h:chk T ops env K (oG l 0 tr)=true)(h2:xq T K tr l)(hq:q):KL T ops env K tr kp/\q:=⟨⟨l,h0,h,h2⟩,hq⟩
theorem BrI.ff_of[ah]{c:Bool}{p q:Prop}(h:c=false)(hq:q):BrI c p q:=by subst h;exact .ff hq
theorem BrI.tt_of[ah]{c:Bool}{p q:Prop}(h:c=true)(hp:p):BrI c p q:=by subst h;exact .tt hp
end Go.Fw
namespace Go.Fw.Tl
open Go.Fw Go.Fw.Ref15 Go.Fw.Rg
variable [ah] {f : D → Prop}
theorem YG{a b:Int}{S:List (Key×Int)}{M:List (D×D)}{g:Prop}(hM:M=S.map kkD)(h1:∀n,lkK (a,b) S=some n->f (.i n))(h2:lkK (a,b) S=none->g):sF (oh (.agg [.i a,.i b]) M) f g:=by
 subst hM
 have e:=Ud (a,b) S
 cases hk:lkK (a,b) S with
 |none=>exact Nam.opt_none (by rw[e,hk];rfl) (h2 hk)
 |some n=>exact Nam.opt_some (d:=.i n) (by rw[e,hk];rfl) (h1 n hk)
theorem Ns{k:Int}{S:List (Int×Int)}{M:List (D×D)}{g:Prop}(hM:M=S.map iiD)(h1:∀n,lkA k S=some n->f (.i n))(h2:lkA k S=none->g):sF (oh (.i k) M) f g:=by
 subst hM
 have e:=Uf k S
 cases hk:lkA k S with
 |none=>exact Nam.opt_none (by rw[e,hk];rfl) (h2 hk)
 |some n=>exact Nam.opt_some (d:=.i n) (by rw[e,hk];rfl) (h1 n hk)
theorem YH{k:Int}{S:List (Int×Bool)}{M:List (D×D)}{g:Prop}(hM:M=S.map ibD)(h1:∀n,lkA k S=some n->f (.b n))(h2:lkA k S=none->g):sF (oh (.i k) M) f g:=by
 subst hM
 have e:=Ug k S
 cases hk:lkA k S with
 |none=>exact Nam.opt_none (by rw[e,hk];rfl) (h2 hk)
 |some n=>exact Nam.opt_some (d:=.b n) (by rw[e,hk];rfl) (h1 n hk)
section
variable {p : Pr} {S : List (Key × Int)} {age : AS → Int → AR} {i : Int} {x : Ex} {s s' : AS} {v b : Int} {r : AR}
theorem YI(h5:(x.kind==5)=true)(h:rW p S age i x s=r):age s x.index=r:=by rwa[rW,if_pos h5]at h
theorem YJ(h5:(x.kind==5)=false)(h4:(x.kind==4)=true)(hb:lkK (2,x.index) S=some b)(hl:decide (b<i)=true)(h:rW p S age i x s=r):age s b=r:=by
 rw[rW,h5,if_neg (by decide),if_pos h4,hb]at h
 simp only at h
 rwa[if_pos (of_decide_eq_true hl)]at h
theorem YK(h5:(x.kind==5)=false)(h4:(x.kind==4)=true)(hb:lkK (2,x.index) S=some b)(hl:decide (b<i)=false)(h:rW p S age i x s=r):(age s b).add 1=r:=by
 rw[rW,h5,if_neg (by decide),if_pos h4,hb]at h
 simp only at h
 rwa[if_neg (of_decide_eq_false hl)]at h
theorem YL(h5:(x.kind==5)=false)(h4:(x.kind==4)=true)(hb:lkK (2,x.index) S=none)(h:rW p S age i x s=r):.ok 0 s=r:=by
 rwa[rW,h5,if_neg (by decide),if_pos h4,hb]at h
theorem YM(h5:(x.kind==5)=false)(h4:(x.kind==4)=false)(h8:(x.kind==8)=true)(hb:lkK (3,x.index) S=some b)(hr:r ≠ .out)(h:rW p S age i x s=r):(age s b).add (cu p x.index).size=r/\0<=x.index/\x.index<p.lines.length:=by
 rw[rW,h5,if_neg (by decide),h4,if_neg (by decide),if_pos h8,hb]at h
 simp only at h
 split at h
 ·rename_i q
  simp only[Bool.and_eq_true,decide_eq_true_eq]at q
  exact⟨h,q⟩
 ·exact absurd h.symm hr
theorem YN(h5:(x.kind==5)=false)(h4:(x.kind==4)=false)(h8:(x.kind==8)=true)(hb:lkK (3,x.index) S=none)(h:rW p S age i x s=r):.ok 0 s=r:=by
 rwa[rW,h5,if_neg (by decide),h4,if_neg (by decide),if_pos h8,hb]at h
theorem YO(h5:(x.kind==5)=false)(h4:(x.kind==4)=false)(h8:(x.kind==8)=false)(h:rW p S age i x s=r):.ok 0 s=r:=by
 rwa[rW,h5,if_neg (by decide),h4,if_neg (by decide),h8,if_neg (by decide)]at h
theorem Nu{a:AR}{w:Int}(h:a.add w = .ok v s'):∃u,a = .ok u s'/\v=IntKind.i64.wrap (u+w):=by
 cases a with
 |ok u t=>cases h;exact⟨u,rfl,rfl⟩
 |pan t=>cases h
 |out=>cases h
theorem Uy{a:AR}{w:Int}{t:AS}(h:a.add w = .pan t):a = .pan t:=by
 cases a with
 |ok u t=>cases h
 |pan t=>cases h;rfl
 |out=>cases h
theorem Hm{s t:AS}{v:Int}(h:AR.ok v s = .pan t):False:=by cases h
theorem Gx{s:AS}{v:Int}:AR.ok v s ≠ .out:=by intro h;cases h
theorem z6f{s:AS}:AR.pan s ≠ .out:=by intro h;cases h
theorem Uz{s:AS}(h:AR.ok 0 s = .ok v s'):v=0/\s'=s:=by cases h;exact⟨rfl,rfl⟩
end
theorem UA{p:Pr}{n:Int}(h:0<=n/\n<p.lines.length):0<=n/\(p.lines.map Ln.cs)[n.toNat]? = some (Ln.cs (cu p n)):=by
 refine⟨h.1,?_⟩
 have hl:n.toNat<p.lines.length:=by omega
 rw[cu,List.getElem?_map,List.getD_eq_getElem?_getD,List.getElem?_eq_getElem hl];rfl
variable [ah] {own : Ex → AS → AR}
def atA(own:Ex->AS->AR)(l:List Ex)(s:AS)(m:Int)(j:Nat):Int×AS:=match rX own (l.take j) s m with
 | .ok v t=>(v,t)
 |_=>(0,⟨[],[]⟩)
theorem Ho(own:Ex->AS->AR)(l:List Ex)(s:AS)(m:Int):atA own l s m 0=(m,s):=rfl
theorem fO{x:Ex}{r:List Ex}{s s1:AS}{m w:Int}(h:own x s = .ok w s1)(j:Nat):atA own (x::r) s m (j+1)=atA own r s1 (mm2 true m w) j:=by
 simp only[atA,List.take_succ_cons,rX,h]
def z1g(own:Ex->AS->AR)(l:List Ex)(s:AS)(m:Int)(j:Nat):Prop:=∃w,own (l.getD j Ex.none) (atA own l s m j).2 = .ok w (atA own l s m (j+1)).2/\(atA own l s m (j+1)).1=mm2 true (atA own l s m j).1 w
theorem fold_at:∀(l:List Ex) (s:AS) (m v:Int) (t:AS),rX own l s m = .ok v t->(∀j,j<l.length->z1g own l s m j)/\atA own l s m l.length=(v,t)
 | [],s,m,v,t,h=>by cases h;exact⟨λj hj=>absurd hj (Nat.not_lt_zero _),rfl⟩
 |x::r,s,m,v,t,h=>by
  rw[rX]at h
  cases hx:own x s with
  |ok w s1=>
   rw[hx]at h
   obtain⟨h1,h2⟩:=fold_at r s1 _ v t h
   refine⟨λj hj=>?_,by rw[List.length_cons,fO hx];exact h2⟩
   cases j with
   |zero=>exact⟨w,by rw[fO hx,Ho,Ho];exact hx,by rw[fO hx,Ho,Ho]⟩
   |succ j=>
    obtain⟨w2,a1,a2⟩:=h1 j (by simpa using hj)
    exact⟨w2,by rw[fO hx,fO hx];exact a1,by rw[fO hx,fO hx];exact a2⟩
  |pan u=>rw[hx]at h;cases h
  |out=>rw[hx]at h;cases h
theorem Nv:∀(l:List Ex) (s:AS) (m:Int) (t:AS),rX own l s m = .pan t->∃k,k<l.length/\(∀j,j<k->z1g own l s m j)/\own (l.getD k Ex.none) (atA own l s m k).2 = .pan t
 | [],s,m,t,h=>by cases h
 |x::r,s,m,t,h=>by
  rw[rX]at h
  cases hx:own x s with
  |ok w s1=>
   rw[hx]at h
   obtain⟨k,h0,h1,h2⟩:=Nv r s1 _ t h
   refine⟨k+1,by simpa using h0,λj hj=>?_,by rw[fO hx];exact h2⟩
   cases j with
   |zero=>exact⟨w,by rw[fO hx,Ho,Ho];exact hx,by rw[fO hx,Ho,Ho]⟩
   |succ j=>
    obtain⟨w2,a1,a2⟩:=h1 j (by omega)
    exact⟨w2,by rw[fO hx,fO hx];exact a1,by rw[fO hx,fO hx];exact a2⟩
  |pan u=>rw[hx]at h;cases h;exact⟨0,by simp,λj hj=>absurd hj (Nat.not_lt_zero _),hx⟩
  |out=>rw[hx]at h;cases h
def lq(p:Pr)(S:List (Key×Int))(f:Nat)(s:AS)(i:Int)(j:Nat):Int×AS:=atA (rW p S (qf p S f) i) (aC (bH p i)) ⟨s.ages,lL i true s.opn⟩ 0 j
def Ny(p:Pr)(S:List (Key×Int))(f:Nat)(s:AS)(i:Int)(j:Nat):Prop:=z1g (rW p S (qf p S f) i) (aC (bH p i)) ⟨s.ages,lL i true s.opn⟩ 0 j
theorem Ny.ok{p:Pr}{S:List (Key×Int)}{f:Nat}{s:AS}{i:Int}{j:Nat}(h:Ny p S f s i j):∃w,rW p S (qf p S f) i ((aC (bH p i)).getD j Ex.none) (lq p S f s i j).2 = .ok w (lq p S f s i (j+1)).2/\(lq p S f s i (j+1)).1=mm2 true (lq p S f s i j).1 w:=h
section
variable {p : Pr} {S : List (Key × Int)} {f : Nat} {s s' : AS} {i v n : Int} {b : Bool} {r : AR}
theorem YP(hb:lkA i s.opn=some b)(h:b=true)(hh:qf p S (f+1) s i=r):.pan s=r:=by
 subst h
 have ho:iI s i=true:=by rw[iI,hb]
 rwa[qf,if_pos ho]at hh
theorem YQ(hb:lkA i s.opn=some b)(h:b=false):iI s i=false:=by rw[iI,hb,h]
theorem YR(hb:lkA i s.opn=none):iI s i=false:=by rw[iI,hb]
theorem Nz(ho:iI s i=false)(ha:lkA i s.ages=some n)(hh:qf p S (f+1) s i=r):.ok n s=r:=by rwa[qf,ho,if_neg (by decide),ha]at hh
theorem z1h{s t:AS}{a b:Int}(h:AR.ok a s = .ok b t):b=a/\t=s:=by cases h;exact⟨rfl,rfl⟩
theorem z6g(ho:iI s i=false)(ha:lkA i s.ages=none)(hh:qf p S (f+1) s i = .ok v s'):(0<=i/\i<p.stmts.length)/\(∀j,j<(aC (bH p i)).length->Ny p S f s i j)/\v=(lq p S f s i (aC (bH p i)).length).1/\s'=⟨lL i (lq p S f s i (aC (bH p i)).length).1 (lq p S f s i (aC (bH p i)).length).2.ages,lL i false (lq p S f s i (aC (bH p i)).length).2.opn⟩:=by
 rw[qf,ho,if_neg (by decide),ha]at hh
 simp only at hh
 split at hh
 ·rename_i q
  simp only[Bool.and_eq_true,decide_eq_true_eq]at q
  cases hf:rX (rW p S (qf p S f) i) (aC (bH p i)) ⟨s.ages,lL i true s.opn⟩ 0 with
  |ok m t=>
   rw[hf]at hh
   cases hh
   obtain⟨h1,h2⟩:=fold_at _ _ _ _ _ hf
   have h2:lq p S f s i (aC (bH p i)).length=(v,t):=h2
   exact⟨q,h1,by rw[h2],by rw[h2]⟩
  |pan t=>rw[hf]at hh;cases hh
  |out=>rw[hf]at hh;cases hh
 ·cases hh
theorem z1i(ho:iI s i=false)(ha:lkA i s.ages=none)(hh:qf p S (f+1) s i = .pan s'):(0<=i/\i<p.stmts.length)/\∃k,k<(aC (bH p i)).length/\(∀j,j<k->Ny p S f s i j)/\rW p S (qf p S f) i ((aC (bH p i)).getD k Ex.none) (lq p S f s i k).2 = .pan s':=by
 rw[qf,ho,if_neg (by decide),ha]at hh
 simp only at hh
 split at hh
 ·rename_i q
  simp only[Bool.and_eq_true,decide_eq_true_eq]at q
  cases hf:rX (rW p S (qf p S f) i) (aC (bH p i)) ⟨s.ages,lL i true s.opn⟩ 0 with
  |ok m t=>rw[hf]at hh;cases hh
  |pan t=>
   rw[hf]at hh
   cases hh
   exact⟨q,Nv _ _ _ _ hf⟩
  |out=>rw[hf]at hh;cases hh
 ·cases hh
end
theorem YS{p:Pr}{n:Int}(h:0<=n/\n<p.stmts.length):0<=n/\(p.stmts.map Sm.cs)[n.toNat]? = some (Sm.cs (p.stmts.getD n.toNat Sm.none)):=by
 refine⟨h.1,?_⟩
 have hl:n.toNat<p.stmts.length:=by omega
 rw[List.getElem?_map,List.getD_eq_getElem?_getD,List.getElem?_eq_getElem hl];rfl
theorem J5{P:Nat->D->Prop}{x:Ex}{n:Nat}(h:∀j,j<n->P j ((aC x).getD j Ex.none).d):∀j y,j<n->(aC x)[j]? = some y->P (0+j) y.d:=by
 intro j y hj hy
 have:=h j hj
 rwa[List.getD_eq_getElem?_getD,hy,<-Nat.zero_add j]at this
end Go.Fw.Tl
