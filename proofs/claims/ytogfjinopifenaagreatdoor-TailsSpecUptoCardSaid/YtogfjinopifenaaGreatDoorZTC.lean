/- The reference of package tails in plain words: how far a processor looks ahead; what depends on what. -/
import Derived.Test.YtogfjinopifenaaGreatDoorZTB
set_option linter.unusedSectionVars false
set_option linter.unusedSimpArgs false
set_option linter.unusedVariables false
namespace Go.Fw.Tl
open Go.Fw Go.Fw.Ref15 Go.Fw.Rg
variable [GlobInt]
mutual
def rchX(p:Pr):Ex->Int
 | .mk k nm i m l=>rchL p l (if looks (.mk k nm i m l)then mm2 true 0 (hiM p (l.getD 0 Ex.none))else 0)
def rchL(p:Pr):List Ex->Int->Int
 | [],m=>m
 |y::r,m=>rchL p r (mm2 true m (rchX p y))
end
theorem rchX_eq(p:Pr)(x:Ex):rchX p x=rchL p x.l (if looks x then mm2 true 0 (hiM p (x.l.getD 0 Ex.none))else 0):=by cases x;rfl
def latR(p:Pr):Int:=p.stmts.foldl (λn s=>mm2 true n (rchX p s.x)) 0
theorem mm_max(a b:Int):mm2 true a b=max a b:=by grind[mm2]
theorem rch_parts(p:Pr):∀(x:Ex) (n:Int),0<=n->(partsX x).foldl (latX p) n=max n (rchX p x)/\0<=rchX p x:=by
 refine Ex.ind λx ih=>?_
 intro n hn
 have hL:∀(l:List Ex),(∀y∈l,y∈x.l)->∀(n m:Int),0<=n->0<=m->(partsL l).foldl (latX p) (max n m)=max n (rchL p l m)/\0<=rchL p l m:=by
  intro l
  induction l with
  |nil=>intro _ n m hn hm;exact⟨rfl,hm⟩
  |cons y r ihr=>
   intro hl n m hn hm
   obtain⟨e1,e2⟩:=ih y (hl y (by simp)) (max n m) (by omega)
   rw[partsL,List.foldl_append,e1,rchL,mm_max,Int.max_assoc]
   exact ihr (λz hz=>hl z (by simp[hz])) n (max m (rchX p y)) hn (by omega)
 rw[partsX_eq,List.foldl_cons,rchX_eq]
 have h0:latX p n x=max n (if looks x then mm2 true 0 (hiM p (x.l.getD 0 Ex.none))else 0)/\0<=(if looks x then mm2 true 0 (hiM p (x.l.getD 0 Ex.none))else 0):=by
  grind[latX,mm_max]
 rw[h0.1]
 exact hL x.l (λ_ h=>h) n _ hn h0.2
theorem lat_ref(p:Pr):latR p=latM p:=by
 have:∀(l:List Sm) (n:Int),0<=n->l.foldl (λn s=>mm2 true n (rchX p s.x)) n=l.foldl (latS p) n:=by
  intro l
  induction l with
  |nil=>intro n _;rfl
  |cons s r ih=>
   intro n hn
   obtain⟨e1,e2⟩:=rch_parts p s.x n hn
   rw[List.foldl_cons,List.foldl_cons,latS,e1,mm_max]
   exact ih _ (by omega)
 exact this p.stmts 0 (Int.le_refl _)
def sttM(k x:Int):List Sm->Int->Int
 | [],_=>-1
 |s::r,i=>if(s.kind==k&&s.index==x)=true then i else sttM k x r (i+1)
def byM(p:Pr)(x:Ex):Int:=if x.kind==5 then x.index else if x.kind==4 then sttM 2 x.index p.stmts 0 else if x.kind==8 then sttM 3 x.index p.stmts 0 else -1
mutual
def usesM(p:Pr)(at_:Int):Ex->Bool
 | .mk k nm i m l=>if byM p (.mk k nm i m l)==at_ then true else usesL p at_ l
def usesL(p:Pr)(at_:Int):List Ex->Bool
 | []=>false
 |y::r=>if usesM p at_ y then true else usesL p at_ r
end
theorem usesM_eq(p:Pr)(at_:Int)(x:Ex):usesM p at_ x=if byM p x==at_ then true else usesL p at_ x.l:=by cases x;rfl
theorem uses_iff(p:Pr)(at_:Int):∀x:Ex,usesM p at_ x=true↔∃y∈partsX x,byM p y=at_:=by
 refine Ex.ind λx ih=>?_
 have hL:∀l:List Ex,(∀y∈l,y∈x.l)->(usesL p at_ l=true↔∃y∈partsL l,byM p y=at_):=by
  intro l
  induction l with
  |nil=>grind[usesL,partsL]
  |cons y r ihr=>
   rw[usesL,partsL]
   grind
 rw[usesM_eq,partsX_eq]
 simp_all
theorem stt_spec{k x:Int}:∀(l:List Sm) (i:Nat),(sttM k x l i = -1/\∀s∈l,¬(s.kind=k/\s.index=x))\/(∃(j:Nat) (s:Sm),l[j]? = some s/\s.kind=k/\s.index=x/\sttM k x l i=((i+j:Nat):Int))
 | [],i=>.inl ⟨rfl,by simp⟩
 |s::r,i=>by
  rw[sttM]
  by_cases h:(s.kind==k&&s.index==x)=true<;>try grind
  rw[if_neg h]
  have:=stt_spec (k:=k) (x:=x) r (i+1)
  rcases this with⟨e,h2⟩ |⟨j,t,h1,h2,h3,h4⟩
  ·simp_all
  ·exact .inr ⟨j+1,t,h1,h2,h3,h4.trans (by omega)⟩
theorem set_has{k x:Int}(hk:sets k=true):∀(r:List Sm) (i:Nat) (S:List (Key×Int)),(∃s∈r,s.kind=k/\s.index=x)\/(∃b,lkK (k,x) S=some b)->∃b,lkK (k,x) (setL r i S)=some b
 | [],i,S,h=>by
  rcases h with⟨s,hs,_⟩ |h
  ·simp at hs
  ·exact h
 |t::r,i,S,h=>by
  refine set_has hk r (i+1) _ ?_
  rcases h with⟨s,hs,h1,h2⟩ |⟨b,hb⟩
  ·rcases List.mem_cons.1 hs with rfl |hs
   ·refine .inr ⟨i,?_⟩
    rw[if_pos (by simp_all),lkK_put,if_pos (keyB_iff.2 (by rw[h1,h2]))]
   grind
  ·split
   ·rw[lkK_put];grind
   simp_all
theorem stt_eq{p:Pr}(h:Res p){k x:Int}(hk:sets k=true):sttM k x p.stmts 0=match lkK (k,x) (settersM p)with |some b=>b |none=>-1:=by
 rcases stt_spec (k:=k) (x:=x) p.stmts 0 with⟨e,h2⟩ |⟨j,s,h1,h2,h3,h4⟩
 ·have e:sttM k x p.stmts 0 = -1:=e
  rw[e]
  cases hb:lkK (k,x) (settersM p)with
  |none=>rfl
  |some b=>
   obtain⟨j,s,e1,e2,e3,e4⟩:=set_at hb
   grind
 ·obtain⟨b,hb⟩:=set_has (x:=x) hk p.stmts 0 [] (.inl ⟨s,List.mem_of_getElem? h1,h2,h3⟩)
  have hb:lkK (k,x) (settersM p)=some b:=hb
  obtain⟨j',s',e1,e2,e3,e4⟩:=set_at hb
  have e4a:=congrArg Prod.fst e4;have e4b:=congrArg Prod.snd e4
  have a:=set_once h h1 e1 (by simp_all) (by omega) (by omega)
  have b':=set_once h e1 h1 e3 (by omega) (by omega)
  grind
theorem by_dep{p:Pr}(h:Res p)(i:Nat){x:Ex}(hx:(x.kind==5)=true->0<=x.index):(byM p x = -1/\depX p (settersM p) i x=none)\/(∃(k:Nat) (w:Int),byM p x=k/\depX p (settersM p) i x=some (k,w)):=by
 unfold byM depX
 by_cases h5:(x.kind==5)=true<;>try grind
 simp only[h5]
 by_cases h4:(x.kind==4)=true
 ·simp[h4]
  rw[stt_eq h (k:=2) (x:=x.index) rfl]
  cases hb:lkK (2,x.index) (settersM p)with
  |none=>simp
  |some b=>
   obtain⟨j,s,e1,e2,_,_⟩:=set_at hb
   simp_all
 ·simp[h4]
  by_cases h8:(x.kind==8)=true
  ·rw[stt_eq h (k:=3) (x:=x.index) rfl]
   cases hb:lkK (3,x.index) (settersM p)with
   |none=>simp
   |some b=>
    obtain⟨j,s,e1,e2,_,_⟩:=set_at hb
    simp_all
  simp_all
theorem part_idx{p:Pr}(h:Res p){i:Nat}(hi:i<p.stmts.length){x:Ex}(hx:x∈partsX (stmtX p i))(h5:(x.kind==5)=true):0<=x.index:=by
 have hw:=(wfX_parts (part_wf h hi hx)).2.1
 exact(own_k5 hw h5).1
theorem uses_dep{p:Pr}(h:Res p){i:Nat}(hi:i<p.stmts.length)(k:Nat):usesM p k (stmtX p i)=true↔∃q∈depG p i,q.1=k:=by
 rw[uses_iff]
 constructor
 ·rintro⟨y,y1,y2⟩
  rcases by_dep h i (x:=y) (λh5=>part_idx h hi y1 h5)with⟨e,_⟩ |⟨k',w,e1,e2⟩
  ·omega
  ·exact⟨(k',w),List.mem_filterMap.2 ⟨y,y1,e2⟩,by omega⟩
 ·rintro⟨q,q1,q2⟩
  obtain⟨y,y1,y2⟩:=List.mem_filterMap.1 q1
  grind[by_dep,part_idx]
end Go.Fw.Tl
namespace Go.Fw.Tl
open Go.Fw Go.Fw.Ref15 Go.Fw.Rg
variable [GlobInt] {dep : Graph} {n : Nat} {ov : Nat → Bool}
abbrev Mat:=Nat->Nat->Bool
variable {W : Mat} {M : Mat}
def fwAt(m:Nat)(M:Mat)(i k:Nat):Mat:=λa b=>if a=i/\b=k then(M i k || (M i m&&M m k))else M a b
def fwRow(n m:Nat)(M:Mat)(i:Nat):Mat:=(List.range n).foldl (λM k=>fwAt m M i k) M
def fwM(n m:Nat)(M:Mat):Mat:=(List.range n).foldl (λM i=>fwRow n m M i) M
def fwAll(n:Nat)(M:Mat):Mat:=(List.range n).foldl (λM m=>fwM n m M) M
def fwS(m:Nat)(M:Mat)(S:Nat->Nat->Bool):Mat:=λi k=>M i k || (S i k&&(M i m&&M m k))
theorem fwAt_S(m:Nat)(M:Mat)(S:Nat->Nat->Bool)(i k:Nat):fwAt m (fwS m M S) i k=fwS m M (λa b=>S a b || (decide (a=i)&&decide (b=k))):=by
 funext a b
 unfold fwAt
 by_cases h:a=i/\b=k
 ·simp[fwS]
  grind
 ·rw[if_neg h]
  have:(decide (a=i)&&decide (b=k))=false:=by
   simp_all
  simp[fwS,this]
theorem fwRow_S(m:Nat)(M:Mat)(i:Nat):∀(l:List Nat) (S:Nat->Nat->Bool),l.foldl (λM k=>fwAt m M i k) (fwS m M S)=fwS m M (λa b=>S a b || (decide (a=i)&&decide (b∈l)))
 | [],S=>by simp
 |k::r,S=>by
  rw[List.foldl_cons,fwAt_S,fwRow_S m M i r]
  grind
theorem fwM_S(n m:Nat)(M:Mat):∀(l:List Nat) (S:Nat->Nat->Bool),l.foldl (λM i=>fwRow n m M i) (fwS m M S)=fwS m M (λa b=>S a b || (decide (a∈l)&&decide (b<n)))
 | [],S=>by simp
 |i::r,S=>by
  rw[List.foldl_cons,fwRow,fwRow_S,fwM_S n m M r]
  grind
theorem fw_at{n m:Nat}{i k:Nat}(hi:i<n)(hk:k<n):fwM n m M i k=(M i k || (M i m&&M m k)):=by
 have h:=fwM_S n m M (List.range n) (λ_ _=>false)
 have e:fwS m M (λ_ _=>false)=M:=by funext a b;simp[fwS]
 rw[e]at h
 rw[fwM,h]
 simp[fwS,hi,hk]
def fwTo(M:Mat)(n:Nat):Nat->Mat
 | 0=>M
 |m+1=>fwM n m (fwTo M n m)
theorem fwAll_to(M:Mat)(n:Nat):fwAll n M=fwTo M n n:=by
 have:∀m,(List.range m).foldl (λM m=>fwM n m M) M=fwTo M n m:=by
  intro m
  induction m with
  |zero=>rfl
  |succ m ih=>rw[List.range_succ,List.foldl_append,ih];rfl
 exact this n
theorem to_step{n m i k:Nat}(hi:i<n)(hk:k<n):fwTo M n (m+1) i k=(fwTo M n m i k || (fwTo M n m i m&&fwTo M n m m k)):=fw_at hi hk
theorem to_mono{n i k:Nat}(hi:i<n)(hk:k<n):∀m,M i k=true->fwTo M n m i k=true
 | 0,h=>h
 |m+1,h=>by rw[to_step hi hk,to_mono hi hk m h,Bool.true_or]
theorem to_trans{M:Mat}{n:Nat}:∀m,m<=n->∀j,j<m->∀i k,i<n->k<n->fwTo M n m i j=true->fwTo M n m j k=true->fwTo M n m i k=true
 | 0,_,j,hj,_,_,_,_,_,_=>absurd hj (Nat.not_lt_zero _)
 |m+1,hm,j,hj,i,k,hi,hk,h1,h2=>by
  have ih:=to_trans (M:=M) (n:=n) m (by omega)
  rw[to_step hi (by omega)]at h1
  rw[to_step (by omega) hk]at h2
  rw[to_step hi hk]
  grind
theorem to_rc(hd:∀i,i<n->∀q∈dep i,q.1<n)(hM:∀i k,i<n->k<n->(M i k=true↔∃q∈dep i,q.1=k)):∀m,m<=n->∀i k,i<n->k<n->fwTo M n m i k=true->Rc dep i k
 | 0,_,i,k,hi,hk,h=>by
  obtain⟨q,q1,q2⟩:=(hM i k hi hk).1 h
  exact q2 ▸ .one q1
 |m+1,hm,i,k,hi,hk,h=>by
  rw[to_step hi hk]at h
  simp at h
  rcases h with h |⟨h1,h2⟩
  ·exact to_rc hd hM m (by omega) i k hi hk h
  ·exact(to_rc hd hM m (by omega) i m hi (by omega) h1).trans (to_rc hd hM m (by omega) m k (by omega) hk h2)
theorem rc_to(hd:∀i,i<n->∀q∈dep i,q.1<n)(hM:∀i k,i<n->k<n->(M i k=true↔∃q∈dep i,q.1=k)){i k:Nat}(h:Rc dep i k):i<n->k<n/\fwTo M n n i k=true:=by
 induction h with
 |one hq=>
  intro hi
  have:=hd _ hi _ hq
  exact⟨this,to_mono hi this n ((hM _ _ hi this).2 ⟨_,hq,rfl⟩)⟩
 |step hq _ ih=>
  intro hi
  have hq1:=hd _ hi _ hq
  obtain⟨a,b⟩:=ih hq1
  exact⟨a,to_trans n (Nat.le_refl _) _ hq1 _ _ hi a (to_mono hi hq1 n ((hM _ _ hi hq1).2 ⟨_,hq,rfl⟩)) b⟩
theorem cnt_sub{f g:Nat->Bool}{x:Nat}(h1:g x=true)(h2:f x=false):∀l:List Nat,l.Nodup->(∀k∈l,f k=true->g k=true)->l.countP f+(if x∈l then 1 else 0)<=l.countP g
 | [],_,_=>by simp
 |k::r,hn,hs=>by
  obtain⟨n1,n2⟩:=List.nodup_cons.1 hn
  have ih:=cnt_sub h1 h2 r n2 λj hj=>hs j (List.mem_cons_of_mem _ hj)
  grind
def overW(n:Nat)(W:Mat)(i:Nat):Bool:=(List.range n).any (λk=>W i k&&W k k) || W i i
theorem over_age(hd:∀i,i<n->∀q∈dep i,q.1<n)(hW:∀i k,i<n->k<n->(W i k=true↔Rc dep i k)):∀(c i:Nat),i<n->((List.range n).countP λk=>W i k)=c->overW n W i=false->∃v,Age dep i v:=by
 intro c
 induction c using Nat.strongRecOn with
 |ind c ih=>
  intro i hi hc ho
  simp only[overW,Bool.or_eq_false_iff,List.any_eq_false,List.mem_range,Bool.and_eq_true,not_and]at ho
  have key:∀q∈dep i,∃v,Age dep q.1 v:=by
   intro q hq
   have hqn:=hd i hi q hq
   have w1:W i q.1=true:=(hW i q.1 hi hqn).2 (.one hq)
   have w2:W q.1 q.1=false:=by
    grind
   have sub:∀k,k<n->W q.1 k=true->W i k=true:=λk hk e=>(hW i k hi hk).2 (.step hq ((hW q.1 k hqn hk).1 e))
   refine ih _ ?_ q.1 hqn rfl ?_
   ·rw[<-hc]
    have:=cnt_sub (f:=λk=>W q.1 k) (g:=λk=>W i k) w1 w2 (List.range n) List.nodup_range (λk hk e=>sub k (List.mem_range.1 hk) e)
    grind
   ·simp only[overW,Bool.or_eq_false_iff,List.any_eq_false,List.mem_range,Bool.and_eq_true,not_and]
    simp_all
  refine⟨_,Age.mk i (vOf dep) λq hq=>?_⟩
  grind[vOf_eq]
theorem over_iff(hd:∀i,i<n->∀q∈dep i,q.1<n)(hW:∀i k,i<n->k<n->(W i k=true↔Rc dep i k)){i:Nat}(hi:i<n):overW n W i=false↔∃v,Age dep i v:=by
 constructor<;>try exact λh=>over_age hd hW _ i hi rfl h
 rintro⟨v,hv⟩
 simp only[overW,Bool.or_eq_false_iff,List.any_eq_false,List.mem_range,Bool.and_eq_true,not_and]
 refine⟨λk hk a b=>?_,?_⟩
 ·obtain⟨w,hw⟩:=Age.down ((hW i k hi hk).1 a) hv
  exact hw.irr ((hW k k hk hk).1 b)
 ·cases e:W i i with
  |false=>rfl
  |true=>exact absurd ((hW i i hi hi).1 e) hv.irr
def ageI(dep:Graph)(ov:Nat->Bool)(A:Nat->Int)(i:Nat):Nat->Int:=λj=>if j=i/\ov i=false then maxD A (dep i) 0 else A j
def ageRd(dep:Graph)(ov:Nat->Bool)(n:Nat)(A:Nat->Int):Nat->Int:=(List.range n).foldl (λA i=>ageI dep ov A i) A
def ageN(dep:Graph)(ov:Nat->Bool)(n:Nat):Nat->(Nat->Int)
 | 0=>λ_=>0
 |r+1=>ageRd dep ov n (ageN dep ov n r)
def Right(dep:Graph)(W:Mat)(n:Nat)(A:Nat->Int)(c:Nat):Prop:=∀j v,j<n->Age dep j v->((List.range n).countP λk=>W j k)<c->A j=v
theorem cnt_lt(hd:∀i,i<n->∀q∈dep i,q.1<n)(hW:∀i k,i<n->k<n->(W i k=true↔Rc dep i k)){i:Nat}{v:Int}(hi:i<n)(hv:Age dep i v){q:Nat×Int}(hq:q∈dep i):((List.range n).countP λk=>W q.1 k)<(List.range n).countP λk=>W i k:=by
 have hqn:=hd i hi q hq
 have w1:W i q.1=true:=(hW i q.1 hi hqn).2 (.one hq)
 have w2:W q.1 q.1=false:=by
  cases e:W q.1 q.1 with
  |false=>rfl
  |true=>
   obtain⟨w,hw⟩:=Age.down (.one hq) hv
   exact absurd ((hW q.1 q.1 hqn hqn).1 e) hw.irr
 have sub:∀k,k<n->W q.1 k=true->W i k=true:=λk hk e=>(hW i k hi hk).2 (.step hq ((hW q.1 k hqn hk).1 e))
 have:=cnt_sub (f:=λk=>W q.1 k) (g:=λk=>W i k) w1 w2 (List.range n) List.nodup_range (λk hk e=>sub k (List.mem_range.1 hk) e)
 grind
theorem rd_right{n c:Nat}(hd:∀i,i<n->∀q∈dep i,q.1<n)(hW:∀i k,i<n->k<n->(W i k=true↔Rc dep i k))(ho:∀i,i<n->(ov i=false↔∃v,Age dep i v)){A:Nat->Int}(hA:Right dep W n A c) :
  ∀m,m<=n->Right dep W n ((List.range m).foldl (λA i=>ageI dep ov A i) A) c/\∀j v,j<m->Age dep j v->((List.range n).countP λk=>W j k)<c+1->(List.range m).foldl (λA i=>ageI dep ov A i) A j=v
 | 0,_=>⟨hA,λj v hj=>absurd hj (Nat.not_lt_zero _)⟩
 |m+1,hm=>by
  obtain⟨h1,h2⟩:=rd_right hd hW ho hA m (by omega)
  rw[List.range_succ,List.foldl_append]
  show Right dep W n (ageI dep ov _ m) c/\_
  generalize (List.range m).foldl (λA i=>ageI dep ov A i) A=B at h1 h2
  have hm':m<n:=by omega
  -- what is written is right,if all that it depends on is
  have hw:∀v,Age dep m v->((List.range n).countP λk=>W m k)<c+1->ageI dep ov B m m=v:=by
   intro v hv hc
   have hov:ov m=false:=(ho m hm').2 ⟨v,hv⟩
   obtain⟨val,q1,q2⟩:=hv.inv
   rw[ageI,if_pos ⟨rfl,hov⟩,q2]
   exact maxD_congr λq hq=>h1 q.1 (val q.1) (hd m hm' q hq) (q1 q hq) (by have:=cnt_lt hd hW hm' hv hq;omega)
  refine⟨λj v hj hv hc=>?_,λj v hj hv hc=>?_⟩
  ·by_cases e:j=m<;>try grind
   show(if j=m/\ov m=false then _ else B j)=v
   rw[if_neg (λq=>e q.1)];exact h1 j v hj hv hc
  ·show ageI dep ov B m j=v
   by_cases e:j=m<;>try grind
   show(if j=m/\ov m=false then _ else B j)=v
   grind
theorem ages_right(hd:∀i,i<n->∀q∈dep i,q.1<n)(hW:∀i k,i<n->k<n->(W i k=true↔Rc dep i k))(ho:∀i,i<n->(ov i=false↔∃v,Age dep i v)):∀r,Right dep W n (ageN dep ov n r) r
 | 0=>λ_ _ _ _ h=>absurd h (Nat.not_lt_zero _)
 |r+1=>λj v hj hv hc=>(rd_right hd hW ho (ages_right hd hW ho r) n (Nat.le_refl _)).2 j v hj hv hc
theorem ages_all(hd:∀i,i<n->∀q∈dep i,q.1<n)(hW:∀i k,i<n->k<n->(W i k=true↔Rc dep i k))(ho:∀i,i<n->(ov i=false↔∃v,Age dep i v)){j:Nat}{v:Int}(hj:j<n)(hv:Age dep j v):ageN dep ov n n j=v:=by
 refine ages_right hd hW ho n j v hj hv ?_
 have h1:W j j=false:=by
  cases e:W j j with
  |false=>rfl
  |true=>exact absurd ((hW j j hj hj).1 e) hv.irr
 have h2:=List.countP_le_length (p:=λk=>W j k) (l:=List.range n)
 rw[List.length_range]at h2
 by_cases e:((List.range n).countP λk=>W j k)=n
 ·have:=(List.countP_eq_length (p:=λk=>W j k) (l:=List.range n)).1 (by simp_all) j (List.mem_range.2 hj)
  simp_all
 ·omega
end Go.Fw.Tl
namespace Go.Fw.Tl
open Go.Fw Go.Fw.Ref15 Go.Fw.Rg
variable [GlobInt]
def baseM(p:Pr):Mat:=λi k=>usesM p k (stmtX p i)
def reachW(p:Pr):Mat:=fwAll p.stmts.length (baseM p)
def overM(p:Pr)(i:Nat):Bool:=overW p.stmts.length (reachW p) i
theorem reach_rc{p:Pr}(h:Res p)(i k:Nat)(hi:i<p.stmts.length)(hk:k<p.stmts.length):reachW p i k=true↔Rc (depG p) i k:=by
 have hM:∀i k,i<p.stmts.length->k<p.stmts.length->(baseM p i k=true↔∃q∈depG p i,q.1=k):=λi k hi _=>uses_dep h hi k
 rw[reachW,fwAll_to]
 exact⟨to_rc (dep_lt' h) hM _ (Nat.le_refl _) i k hi hk,λr=>(rc_to (dep_lt' h) hM r hi).2⟩
theorem overM_iff{p:Pr}(h:Res p){i:Nat}(hi:i<p.stmts.length):overM p i=false↔∃v,Age (depG p) i v:=over_iff (dep_lt' h) (reach_rc h) hi
def age0(p:Pr)(at_:Int)(A:Nat->Int)(x:Ex):Int:=
 if byM p x>=0 then(A (byM p x).toNat+(if(x.kind==4&&decide (byM p x>=at_))=true then 1 else 0))+(if x.kind==8 then(lineAt p x.index).size else 0)else 0
mutual
def agX(p:Pr)(at_:Int)(A:Nat->Int):Ex->Int
 | .mk k nm i m l=>agL p at_ A l (age0 p at_ A (.mk k nm i m l))
def agL(p:Pr)(at_:Int)(A:Nat->Int):List Ex->Int->Int
 | [],m=>m
 |y::r,m=>agL p at_ A r (mm2 true m (agX p at_ A y))
end
theorem agX_eq(p:Pr)(at_:Int)(A:Nat->Int)(x:Ex):agX p at_ A x=agL p at_ A x.l (age0 p at_ A x):=by cases x;rfl
theorem maxD_app(val:Nat->Int):∀(a b:List (Nat×Int)) (m:Int),maxD val (a++b) m=maxD val b (maxD val a m)
 | [],b,m=>rfl
 |q::a,b,m=>by rw[List.cons_append,maxD,maxD,maxD_app val a b]
theorem siz_nonneg{p:Pr}(h:Res p){i:Nat}(hi:i<p.stmts.length){x:Ex}(hx:x∈partsX (stmtX p i))(h8:(x.kind==8)=true):0<=(lineAt p x.index).size:=((good_ok h).siz i hi x hx h8).1.1
theorem age0_dep{p:Pr}(h:Res p){i:Nat}(hi:i<p.stmts.length){A:Nat->Int}(hA:∀k,0<=A k){x:Ex}(hx:x∈partsX (stmtX p i)):0<=age0 p i A x/\∀m,0<=m->maxD A ([x].filterMap (depX p (settersM p) i)) m=max m (age0 p i A x):=by
 rcases by_dep h i (x:=x) (λh5=>part_idx h hi hx h5)with⟨e1,e2⟩ |⟨k,w,e1,e2⟩
 ·have:age0 p i A x=0:=by rw[age0,e1,if_neg (by decide)]
  rw[this]
  refine⟨Int.le_refl _,λm hm=>?_⟩
  simp[List.filterMap_cons,e2,List.filterMap_nil,maxD];omega
 ·have hw:age0 p i A x=A k+w/\0<=w:=by
   rw[age0,e1]
   unfold depX at e2
   unfold byM at e1
   by_cases h5:(x.kind==5)=true<;>try grind
   by_cases h4:(x.kind==4)=true
   ·rw[stt_eq h (k:=2) (x:=x.index) rfl]at e1
    grind
   ·by_cases h8:(x.kind==8)=true
    ·have hs:=siz_nonneg h hi hx h8
     grind
    simp_all
  rw[hw.1]
  have:=hA k
  refine⟨by omega,λm hm=>?_⟩
  simp[e2,List.filterMap_nil,maxD,mm_max]
theorem ag_dep{p:Pr}(h:Res p){i:Nat}(hi:i<p.stmts.length){A:Nat->Int}(hA:∀k,0<=A k):∀x:Ex,(∀y∈partsX x,y∈partsX (stmtX p i))->0<=agX p i A x/\∀m,0<=m->maxD A ((partsX x).filterMap (depX p (settersM p) i)) m=max m (agX p i A x):=by
 refine Ex.ind λx ih=>?_
 intro hx
 have hself:=age0_dep h hi hA (hx x (by rw[partsX_eq];simp))
 have hL:∀l:List Ex,(∀y∈l,y∈x.l)->∀a m:Int,0<=a->0<=m->0<=agL p i A l a/\maxD A ((partsL l).filterMap (depX p (settersM p) i)) (max m a)=max m (agL p i A l a):=by
  intro l
  induction l with
  |nil=>intro _ a m ha hm;exact⟨ha,rfl⟩
  |cons y r ihr=>
   intro hl a m ha hm
   have hy:=ih y (hl y (by simp)) λz hz=>hx z (by grind[partsX_eq,mem_partsL])
   rw[partsL,List.filterMap_append,maxD_app,hy.2 _ (by omega),agL,mm_max,Int.max_assoc]
   exact ihr (λz hz=>hl z (by simp[hz])) (max a (agX p i A y)) m (by omega) hm
 rw[agX_eq]
 have h2:=hL x.l (λ_ h=>h) (age0 p i A x) 0 hself.1 (Int.le_refl _)
 refine⟨h2.1,λm hm=>?_⟩
 have e:partsX x = [x]++partsL x.l:=by rw[partsX_eq];rfl
 rw[e,List.filterMap_append,maxD_app]
 simp_all
theorem ag_stm{p:Pr}(h:Res p){i:Nat}(hi:i<p.stmts.length){A:Nat->Int}(hA:∀k,0<=A k):agX p i A (stmtX p i)=maxD A (depG p i) 0:=by
 obtain⟨h1,h2⟩:=ag_dep h hi hA (stmtX p i) (λ_ h=>h)
 grind[depG]
def agesR(p:Pr)(r:Nat):Nat->Int:=ageN (depG p) (overM p) p.stmts.length r
theorem ageI_nonneg{dep:Graph}{ov:Nat->Bool}{A:Nat->Int}{i:Nat}(hA:∀k,0<=A k):∀k,0<=ageI dep ov A i k:=by
 intro k
 unfold ageI
 split
 ·exact maxD_ge A (dep i) 0
 ·exact hA k
def memR(p:Pr):Int:=if overM p (p.stmts.length-1)=true then -1 else agesR p p.stmts.length (p.stmts.length-1)
theorem mem_ref{p:Pr}(h:Res p):memR p=memM p:=by
 have hn:=res_pos h
 have hlt:p.stmts.length-1<p.stmts.length:=by omega
 rw[memR]
 cases ho:overM p (p.stmts.length-1)with
 |true=>
  grind[mem_none,good_ok,overM_iff]
 |false=>
  obtain⟨v,hv⟩:=(overM_iff h hlt).1 ho
  rw[mem_age (good_ok h) hn hv]
  exact ages_all (dep_lt' h) (reach_rc h) (λi hi=>overM_iff h hi) hlt hv
end Go.Fw.Tl
namespace Go.Fw.Tl
open Go.Fw Go.Fw.Ref15 Go.Fw.Rg
variable [GlobInt] {p : Pr} {x : Ex}
theorem stt_hit{k x:Int}{s:Sm}{r:List Sm}{i:Int}(h:(bif s.kind==k then s.index==x else false)=true):sttM k x (s::r) i=i:=by
 rw[sttM,if_pos (by simp_all)]
theorem stt_miss{k x:Int}{s:Sm}{r:List Sm}{i:Nat}(h:(bif s.kind==k then s.index==x else false)=false):sttM k x (s::r) (i:Int)=sttM k x r ((i+1:Nat):Int):=by
 rw[sttM,if_neg (by simp_all)];rfl
theorem by_5(h:(x.kind==5)=true):byM p x=x.index:=by rw[byM,if_pos h]
theorem by_4(h5:(x.kind==5)=false)(h:(x.kind==4)=true):byM p x=sttM 2 x.index p.stmts 0:=by rw[byM,if_neg (by rw[h5];decide),if_pos h]
theorem by_8(h5:(x.kind==5)=false)(h4:(x.kind==4)=false)(h:(x.kind==8)=true):byM p x=sttM 3 x.index p.stmts 0:=by rw[byM,if_neg (by rw[h5];decide),if_neg (by rw[h4];decide),if_pos h]
theorem by_n(h5:(x.kind==5)=false)(h4:(x.kind==4)=false)(h:(x.kind==8)=false):byM p x = -1:=by rw[byM,if_neg (by rw[h5];decide),if_neg (by rw[h4];decide),if_neg (by rw[h];decide)]
theorem uses_1{at_:Int}(h:(byM p x==at_)=true):usesM p at_ x=true:=by rw[usesM_eq,if_pos h]
theorem uses_2{at_:Int}(h:(byM p x==at_)=false):usesM p at_ x=usesL p at_ x.l:=by rw[usesM_eq,if_neg (by rw[h];decide)]
theorem uses_3{at_:Int}{y:Ex}{r:List Ex}(h:usesM p at_ y=true):usesL p at_ (y::r)=true:=by rw[usesL,if_pos h]
theorem uses_4{at_:Int}{y:Ex}{r:List Ex}(h:usesM p at_ y=false):usesL p at_ (y::r)=usesL p at_ r:=by rw[usesL,if_neg (by rw[h];decide)]
variable [GlobInt] {n : Nat} {rows : List (List D)} {W V : Mat} {q : List D → Prop} {p : Pr} {a b : Nat}
theorem mat_idx_step{a m:Nat}{k:Bool}{n:Int}{q:Prop}(h1:k=true)(h2:a=1)(h3:0<=n/\n<m)(h:q):(k=true/\a=1)/\(0<=n/\n<m)/\q:=⟨⟨h1,h2⟩,h3,h⟩
theorem mat_row_step{i:Nat}(r:List D)(h1:rows[i]? = some r)(h:q r):∃r,rows[i]? = some r/\q r:=⟨r,h1,h⟩
theorem mat_get_step{i k:Nat}{q:D->Prop}(r:List D)(c:D)(h1:rows[i]? = some r)(h2:r[k]? = some c)(h:q c):∃r,rows[i]? = some r/\∃c,r[k]? = some c/\q c:=⟨r,h1,c,h2,h⟩
theorem mat_set_step{i k a:Nat}{K S:Bool}(r:List D)(h1:K=true)(h2:a=1)(h3:S=true)(h4:rows[i]? = some r)(h5:k<r.length)(h:q r):(K=true/\a=1/\S=true)/\∃r,rows[i]? = some r/\k<r.length/\q r:=⟨⟨h1,h2,h3⟩,r,h4,h5,h⟩
theorem absorb_step{es:List (List D)}{i n len a v v' s s':Nat}{K:Bool}(r:List D)(h1:K=true)(h2:a=1)(h3:v=v')(h4:s=1)(h5:s'=1)(h6:i=rows.length)(h7:i<n)(h8:0<len)(h9:r.length=len)(h10:es.take len=r.map (λd=>[d]))(h:q r) :
  (K=true/\a=1/\v=v'/\s=1/\s'=1)/\(i=rows.length/\i<n/\0<len)/\∃r:List D,r.length=len/\es.take len=r.map (λd=>[d])/\q r:=⟨⟨h1,h2,h3,h4,h5⟩,⟨h6,h7,h8⟩,r,h9,h10,h⟩
def rowOf(n:Nat)(W:Mat)(a:Nat):List D:=(List.range n).map λb=>D.b (W a b)
def rowsOf(c n:Nat)(W:Mat):List (List D):=(List.range c).map λa=>rowOf n W a
theorem rowOf_len(n:Nat)(W:Mat)(a:Nat):(rowOf n W a).length=n:=by simp[rowOf]
theorem rowsOf_len(c n:Nat)(W:Mat):(rowsOf c n W).length=c:=by simp[rowsOf]
theorem rowOf_get{W:Mat}(h:b<n):(rowOf n W a)[b]? = some (D.b (W a b)):=by simp[rowOf,h]
theorem rowsOf_get{c n:Nat}{W:Mat}{a:Nat}(h:a<c):(rowsOf c n W)[a]? = some (rowOf n W a):=by simp[rowsOf,h]
theorem rowOf_ext{a a':Nat}(h:∀b,b<n->W a b=V a' b):rowOf n W a=rowOf n V a':=by
 refine List.map_congr_left λb hb=>?_
 rw[h b (List.mem_range.1 hb)]
theorem rowsOf_ext{c n:Nat}(h:∀a b,a<c->b<n->W a b=V a b):rowsOf c n W=rowsOf c n V:=by
 exact List.map_congr_left λa ha=>rowOf_ext λb hb=>h a b (List.mem_range.1 ha) hb
theorem rowOf_set{a k:Nat}{v:Bool}(hk:k<n)(h:∀b,b<n->V a b=if b=k then v else W a b):(rowOf n W a).set k (D.b v)=rowOf n V a:=by
 refine List.ext_getElem? λb=>?_
 rw[List.getElem?_set]
 by_cases hb:b<n
 ·rw[rowOf_get hb,rowOf_get hb,rowOf_len]
  grind
 ·rw[List.getElem?_eq_none (by rw[rowOf_len];omega),List.getElem?_eq_none (by rw[rowOf_len];omega),if_neg (by omega)]
theorem rowsOf_set{c n:Nat}{i k:Nat}{v:Bool}(hi:i<c)(hk:k<n)(h:∀a b,a<c->b<n->V a b=if a=i/\b=k then v else W a b):(rowsOf c n W).set i ((rowOf n W i).set k (D.b v))=rowsOf c n V:=by
 refine List.ext_getElem? λa=>?_
 rw[List.getElem?_set]
 by_cases ha:a<c
 ·rw[rowsOf_get ha,rowsOf_get ha,rowsOf_len]
  by_cases e:i=a<;>try grind[rowOf_set]
  rw[if_neg e]
  congr 1
  exact rowOf_ext λb hb=>by grind
 ·rw[List.getElem?_eq_none (by rw[rowsOf_len];omega),List.getElem?_eq_none (by rw[rowsOf_len];omega),if_neg (by omega)]
theorem rowsOf_snoc{c n:Nat}{r:List D}(hr:r=rowOf n V c)(h:∀a b,a<c->b<n->W a b=V a b):rowsOf c n W++[r]=rowsOf (c+1) n V:=by
 subst hr
 rw[rowsOf_ext h]
 simp[rowsOf,List.range_succ]
theorem row_rep{n c:Nat}{V:Mat}(h:∀b,b<n->V c b=false):List.replicate n (D.b false)=rowOf n V c:=by
 unfold rowOf
 rw[List.map_congr_left (g:=λ_=>D.b false) (λb hb=>by simp_all),List.map_const',List.length_range]
def W1(p:Pr)(i k:Nat):Mat:=λa b=>if a<i\/(a=i/\b<k)then baseM p a b else false
theorem W1_row{i n:Nat}(ha:a<i+1)(hb:b<n):W1 p i n a b=W1 p (i+1) 0 a b:=by
 unfold W1
 grind
theorem W1_new{i b:Nat}:W1 p i 0 i b=false:=by unfold W1;simp
theorem W1_set{i k a b:Nat}(_:a<i+1):W1 p i (k+1) a b=if a=i/\b=k then baseM p i k else W1 p i k a b:=by
 unfold W1
 grind
theorem W1_all(ha:a<n):W1 p n 0 a b=baseM p a b:=by unfold W1;simp_all
def W4(p:Pr)(n m i k:Nat):Mat:=(List.range k).foldl (λM k=>fwAt m M i k) ((List.range i).foldl (λM i=>fwRow n m M i) (fwTo (baseM p) n m))
theorem W4_0(p:Pr)(n:Nat):W4 p n 0 0 0=baseM p:=rfl
theorem W4_k(p:Pr)(n m i k:Nat):W4 p n m i (k+1)=fwAt m (W4 p n m i k) i k:=by simp[W4,List.range_succ]
theorem W4_i(p:Pr)(n m i:Nat):W4 p n m i n=W4 p n m (i+1) 0:=by simp[W4,List.range_succ,fwRow]
theorem W4_m(p:Pr)(n m:Nat):W4 p n m n 0=W4 p n (m+1) 0 0:=by rfl
theorem W4_set{n m i k a b:Nat}:W4 p n m i (k+1) a b=if a=i/\b=k then(bif W4 p n m i k i k then true else bif W4 p n m i k i m then W4 p n m i k m k else false)else W4 p n m i k a b:=by
 rw[W4_k,fwAt]
 simp
theorem W4_all(p:Pr):W4 p p.stmts.length p.stmts.length 0 0=reachW p:=by
 grind[W4,reachW,fwAll_to]
def O5(n:Nat)(W:Mat)(i k:Nat)(a:Nat):Bool:=if a<i then overW n W a else if a=i then(List.range k).any λk=>W i k&&W k k else false
def outOf(n:Nat)(O:Nat->Bool):List (List D):=(List.range n).map λa=>[D.b (O a)]
theorem outOf_len(n:Nat)(O:Nat->Bool):(outOf n O).length=n:=by simp[outOf]
theorem outOf_get{O:Nat->Bool}{a:Nat}(h:a<n):(outOf n O)[a]? = some [D.b (O a)]:=by simp[outOf,h]
theorem outOf_set{O V:Nat->Bool}{i:Nat}{v:Bool}(h:∀a,a<n->V a=if a=i then v else O a):(outOf n O).set i [D.b v]=outOf n V:=by
 refine List.ext_getElem? λa=>?_
 rw[List.getElem?_set]
 by_cases ha:a<n
 ·rw[outOf_get ha,outOf_get ha,outOf_len]
  grind
 ·rw[List.getElem?_eq_none (l:=outOf n V) (by rw[outOf_len];omega),List.getElem?_eq_none (l:=outOf n O) (by rw[outOf_len];omega)]
  split
  ·rw[if_neg (by rw[outOf_len];omega)]
  ·rfl
theorem out_rep(n:Nat)(W:Mat):List.replicate n [D.b false]=outOf n (O5 n W 0 0):=by
 unfold outOf
 rw[List.map_congr_left (g:=λ_=>[D.b false]) (λa _=>by simp[O5]),List.map_const',List.length_range]
theorem O5_k{W:Mat}{i k a:Nat}:O5 n W i (k+1) a=if a=i then(bif O5 n W i k i then true else bif W i k then W k k else false)else O5 n W i k a:=by
 unfold O5
 grind
theorem O5_i{W:Mat}{i a:Nat}:O5 n W (i+1) 0 a=if a=i then(bif O5 n W i n i then true else W i i)else O5 n W i n a:=by
 unfold O5
 by_cases h:a=i
 ·subst h
  rw[if_pos (by omega),if_pos rfl,if_neg (Nat.lt_irrefl _),if_pos rfl]
  rfl
 grind
theorem O5_all{W:Mat}{k:Nat}:outOf n (O5 n W n k)=outOf n (overW n W):=by
 refine List.map_congr_left λa ha=>?_
 rw[O5,if_pos (List.mem_range.1 ha)]
end Go.Fw.Tl
namespace Go.Fw.Tl
open Go.Fw Go.Fw.Ref15 Go.Fw.Rg
variable [GlobInt]
abbrev lA(L:List Int):Nat->Int:=λk=>L.getD k 0
abbrev aC(a:Int):List D:=[.i a]
def AgB(L:List Int):Prop:=∀k,0<=lA L k/\lA L k<=1099511627776
structure AgOk(p:Pr)(L:List Int)(x:Ex):Prop where
 dep:∀y∈partsX x,byM p y<L.length
 siz:∀y∈partsX x,(y.kind==8)=true->(0<=(lineAt p y.index).size/\(lineAt p y.index).size<=65536)/\(decide (0<=y.index)&&decide (y.index<p.lines.length))=true
theorem part_in{x y z:Ex}(hy:y∈x.l)(hz:z∈partsX y):z∈partsX x:=by
 grind[partsX_eq,mem_partsL]
theorem part_me(x:Ex):x∈partsX x:=by rw[partsX_eq];simp
theorem AgOk.part{p:Pr}{L:List Int}{x y:Ex}(h:AgOk p L x)(hy:y∈x.l):AgOk p L y:=⟨λz hz=>h.dep z (part_in hy hz),λz hz=>h.siz z (part_in hy hz)⟩
section
variable {p : Pr} {L : List Int} {x : Ex} {at_ : Int}
theorem AgOk.at0(h:decide (byM p x>=0)=true):0<=byM p x:=of_decide_eq_true h
theorem AgOk.at1(hA:AgOk p L x):byM p x<L.length:=hA.dep x (part_me x)
theorem AgOk.li0(hA:AgOk p L x)(h:(x.kind==8)=true):0<=x.index:=by
 have:=(hA.siz x (part_me x) h).2;simp_all
theorem AgOk.li1(hA:AgOk p L x)(h:(x.kind==8)=true):x.index<p.lines.length:=by
 have:=(hA.siz x (part_me x) h).2;simp_all
theorem ag_n{A:Nat->Int}(h:decide (byM p x>=0)=false):agX p at_ A x=agL p at_ A x.l 0:=by
 rw[agX_eq,age0,if_neg (of_decide_eq_false h)]
theorem ag_g{A:Nat->Int}{c4 c8:Bool}(h:decide (byM p x>=0)=true)(h4:(bif x.kind==4 then decide (byM p x>=at_)else false)=c4)(h8:(x.kind==8)=c8) :
  agX p at_ A x=agL p at_ A x.l ((A (byM p x).toNat+(bif c4 then 1 else 0))+(bif c8 then(lineAt p x.index).size else 0)):=by
 rw[agX_eq,age0]
 grind
theorem ag_ff(h:decide (byM p x>=0)=true)(h4:(bif x.kind==4 then decide (byM p x>=at_)else false)=false)(h8:(x.kind==8)=false):agX p at_ (lA L) x=agL p at_ (lA L) x.l (L.getD (byM p x).toNat 0):=by
 rw[ag_g h h4 h8];simp
theorem ag_tf(hB:AgB L)(h:decide (byM p x>=0)=true)(h4:(bif x.kind==4 then decide (byM p x>=at_)else false)=true)(h8:(x.kind==8)=false):agX p at_ (lA L) x=agL p at_ (lA L) x.l (IntKind.i64.wrap (L.getD (byM p x).toNat 0+1)):=by
 have h1:0<=L.getD (byM p x).toNat 0/\L.getD (byM p x).toNat 0<=1099511627776:=hB (byM p x).toNat
 rw[ag_g h h4 h8,wrap_ok (by omega) (by omega)];simp
theorem ag_ft(hB:AgB L)(hA:AgOk p L x)(h:decide (byM p x>=0)=true)(h4:(bif x.kind==4 then decide (byM p x>=at_)else false)=false)(h8:(x.kind==8)=true):agX p at_ (lA L) x=agL p at_ (lA L) x.l (IntKind.i64.wrap (L.getD (byM p x).toNat 0+(lineAt p x.index).size)):=by
 have h1:0<=L.getD (byM p x).toNat 0/\L.getD (byM p x).toNat 0<=1099511627776:=hB (byM p x).toNat
 have h2:=(hA.siz x (part_me x) h8).1
 rw[ag_g h h4 h8,wrap_ok (by omega) (by omega)];simp
theorem ag_tt(h4:(bif x.kind==4 then decide (byM p x>=at_)else false)=true)(h8:(x.kind==8)=true):False:=by
 simp_all
end
def ChOk(p:Pr)(x:Ex):Prop:=∀y∈partsX x,looks y=true->∃z t,y.l = [z]/\intervalR p z = .ok t/\Ref15.nodes z<=1073741824
theorem ChOk.part{p:Pr}{x y:Ex}(h:ChOk p x)(hy:y∈x.l):ChOk p y:=λz hz=>h z (part_in hy hz)
theorem ChOk.me{p:Pr}{x:Ex}(h:ChOk p x)(hk:looks x=true):∃z t,x.l = [z]/\intervalR p z = .ok t/\Ref15.nodes z<=1073741824:=h x (part_me x) hk
theorem ch_of{p:Pr}{F:List Sp}(h:BOk p F)(g:GoodP p){i:Nat}{s:Sm}{r:List Sm}(hd:p.stmts.drop i=s::r):ChOk p s.x:=by
 intro y hy hk
 obtain⟨j,hj,rfl⟩:=List.getElem_of_mem hy
 have e:(partsX s.x).getD j Ex.none=(partsX s.x)[j]:=by simp_all
 rw[<-e]at hk ⊢
 obtain⟨z,t,h1,h2,h3,_⟩:=look_at (n:=0) h g hd hj hk
 grind
theorem rc_no{p:Pr}{x:Ex}(h:looks x=false):rchX p x=rchL p x.l 0:=by rw[rchX_eq,if_neg (by rw[h];decide)]
theorem rc_yes{p:Pr}{x z:Ex}{t:Sp}(h:looks x=true)(h1:x.l = [z])(h2:intervalR p z = .ok t):rchX p x=rchL p x.l (mm2 true 0 t.2):=by
 rw[rchX_eq,hiM]
 simp_all
end Go.Fw.Tl
namespace Go.Fw.Tl
open Go.Fw Go.Fw.Ref15 Go.Fw.Rg
variable [GlobInt] {p : Pr} {r i : Nat}
def agF(p:Pr)(r i:Nat):Nat->Int:=(List.range i).foldl (λA i=>ageI (depG p) (overM p) A i) (agesR p r)
def agS(p:Pr)(r i:Nat):List Int:=(List.range p.stmts.length).map (agF p r i)
def agE(p:Pr)(r i:Nat):List (List D):=(agS p r i).map aC
theorem agF_0(p:Pr):agF p 0 0=λ_=>0:=rfl
theorem agF_s(p:Pr)(r i:Nat):agF p r (i+1)=ageI (depG p) (overM p) (agF p r i) i:=by rw[agF,List.range_succ,List.foldl_append];rfl
theorem ages_nn(p:Pr):∀r k,0<=agesR p r k
 | 0,_=>Int.le_refl _
 |r+1,k=>by
  have:∀m k,0<=agF p r m k:=by
   intro m
   induction m with
   |zero=>exact ages_nn p r
   |succ m ih=>intro k;rw[agF_s];exact ageI_nonneg ih k
  exact this p.stmts.length k
theorem agF_nn(p:Pr)(r:Nat):∀i k,0<=agF p r i k
 | 0,k=>ages_nn p r k
 |i+1,k=>by rw[agF_s];exact ageI_nonneg (agF_nn p r i) k
theorem dep_w(h:Res p){i:Nat}{q:Nat×Int}(hq:q∈depG p i):q.2<=65537:=by
 have h1:=dep_wt hq
 have hz:∀k,lsz p k<=65536:=by
  intro k
  by_cases hk:k<p.lines.length
  ·grind[lsz_at]
  ·have:p.lines.getD k Ln.none=Ln.none:=by simp_all
   rw[lsz,this];decide
 have h2:wt2 p q.1<=1:=by grind[wt2]
 have h3:wt3 p q.1<=65536:=by
  grind[wt3]
 have:wtP p q.1=wt2 p q.1+wt3 p q.1:=rfl
 omega
theorem ageI_le(h:Res p){A:Nat->Int}{B:Int}(hB:0<=B)(hA:∀k,A k<=B)(i k:Nat):ageI (depG p) (overM p) A i k<=B+65537:=by
 unfold ageI
 split
 ·exact maxD_le (by omega) λq hq=>by have:=hA q.1;have:=dep_w h hq;omega
 grind
theorem ages_le(h:Res p):∀r k,agesR p r k<=r * (64 * 65537:Nat)
 | 0,_=>by show(0:Int)<=_;omega
 |r+1,k=>by
  have h64:=(lims h).1.2.2.2.2
  have:∀m k,agF p r m k<=((r * (64 * 65537)+m * 65537:Nat):Int):=by
   intro m
   induction m with
   |zero=>intro k;have:=ages_le h r k;rw[agF];simp_all
   |succ m ih=>
    intro k
    rw[agF_s]
    have:=ageI_le h (B:=((r * (64 * 65537)+m * 65537:Nat):Int)) (by omega) ih m k
    omega
  have:=this p.stmts.length k
  show agF p r p.stmts.length k<=_
  omega
theorem agF_le(h:Res p){r:Nat}(hr:r<=64):∀i,i<=64->∀k,agF p r i k<=((64 * 64 * 65537+i * 65537:Nat):Int)
 | 0,_,k=>by have:=ages_le h r k;rw[agF];simp;omega
 |i+1,hi,k=>by
  rw[agF_s]
  have:=ageI_le h (B:=((64 * 64 * 65537+i * 65537:Nat):Int)) (by omega) (agF_le h hr i (by omega)) i k
  omega
theorem agS_len(p:Pr)(r i:Nat):(agS p r i).length=p.stmts.length:=by simp[agS]
theorem agE_len(p:Pr)(r i:Nat):(agE p r i).length=p.stmts.length:=by simp[agE,agS_len]
theorem lA_agS{r i k:Nat}(hk:k<p.stmts.length):lA (agS p r i) k=agF p r i k:=by
 simp[agS,hk]
theorem agS_B(h:Res p)(hr:r<=64)(hi:i<=64):AgB (agS p r i):=by
 intro k
 by_cases hk:k<p.stmts.length
 ·rw[lA_agS hk]
  have:=agF_le h hr i hi k
  exact⟨agF_nn p r i k,by omega⟩
 ·have:lA (agS p r i) k=0:=by simp[agS,hk]
  omega
theorem ag_okS(h:Res p){r i j:Nat}(hj:j<p.stmts.length):AgOk p (agS p r i) (stmtX p j):=by
 have g:=good_ok h
 refine⟨λy hy=>?_,λy hy h8=>g.siz j hj y hy h8⟩
 rw[agS_len]
 rcases by_dep h j (x:=y) (λh5=>part_idx h hj hy h5)with⟨e,_⟩ |⟨k,w,e,e2⟩
 ·omega
 ·have:=dep_lt g hj hy e2
  omega
theorem ag_val(h:Res p){r i j:Nat}(hj:j<p.stmts.length):agX p j (lA (agS p r i)) (stmtX p j)=maxD (agF p r i) (depG p j) 0:=by
 rw[ag_stm h hj (λk=>by
  by_cases hk:k<p.stmts.length
  ·rw[lA_agS hk];exact agF_nn p r i k
  ·have:lA (agS p r i) k=0:=by simp[agS,hk]
   omega)]
 exact maxD_congr λq hq=>lA_agS (dep_lt' h j hj q hq)
theorem agE_set(h:Res p)(hi:i<p.stmts.length)(ho:overM p i=false):(agE p r i).set i [.i (agX p i (lA (agS p r i)) (stmtX p i))]=agE p r (i+1):=by
 rw[ag_val h hi]
 refine List.ext_getElem? λk=>?_
 rw[List.getElem?_set]
 by_cases hk:k<p.stmts.length
 ·by_cases e:i=k
  ·subst e
   simp[agE,agS,hk,agF_s,ageI,ho]
  ·rw[if_neg e]
   simp[agE,agS,hk,agF_s,ageI]
   omega
 ·rw[List.getElem?_eq_none (by rw[agE_len];omega),List.getElem?_eq_none (by rw[agE_len];omega),if_neg (by omega)]
theorem agE_keep(ho:overM p i=true):agE p r i=agE p r (i+1):=by
 have:agF p r (i+1)=agF p r i:=by
  rw[agF_s];unfold ageI;simp_all
 grind[agE,agS]
theorem agE_n(p:Pr)(r:Nat):agE p r p.stmts.length=agE p (r+1) 0:=rfl
theorem agE_0(p:Pr):List.replicate p.stmts.length [D.i 0]=agE p 0 0:=by
 refine List.ext_getElem? λk=>?_
 simp[agE,agS,agF_0]
 grind
theorem agE_get{r i k:Nat}(hk:k<p.stmts.length):(agE p r i)[k]? = some [.i (agF p r i k)]:=by simp[agE,agS,hk]
theorem agE_all{r i n:Nat}(hn:n=p.stmts.length):((agE p r i).drop 0).take n=(agS p r i).map aC:=by
 rw[List.drop_zero,List.take_of_length_le (by rw[agE_len];omega)];rfl
end Go.Fw.Tl
