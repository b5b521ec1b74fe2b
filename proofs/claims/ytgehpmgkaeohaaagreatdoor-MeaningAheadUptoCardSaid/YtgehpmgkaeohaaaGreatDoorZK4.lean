/- A part of the proof. -/
import Derived.TacticsIn
import Derived.OrdersIn
import Derived.Orders
import Derived.Test.YtgehpmgkaeohaaaGreatDoorZK3
set_option linter.all false
namespace Go.Fw
variable [ae]
structure Evo(M0:Mem)(w0:World)(M:Mem)(w:World):Prop where
 os:w.os=w0.os
 tape:w.tape=w0.tape
 output:w.output=w0.output
 size:w0.heap.size<=w.heap.size
 block:∀b,b<w0.heap.size->(∀o,¬M0.R b o)->w.heap[b]? = w0.heap[b]?
 cell:∀b o u,¬M0.R b o->w0.cell? ⟨b,o,none⟩=some u->w.cell? ⟨b,o,none⟩=some u
 shape:∀b arr t,dJ w0 b arr t->∃arr',dJ w b arr' t/\arr'.size=arr.size
 own:∀b o,b<w0.heap.size->M.R b o->M0.R b o
 lent:∀id,bI id=true->Tr M0 M id
variable {env : Env} {w : World} {N : aS} {n : Nat} {a : Act} {ops : Array Oper} {K : Heap} {Q : Exit → Act → World → Prop} {M : Mem}
theorem Evo.refl(M:Mem)(w:World):Evo M w M w:=⟨rfl,rfl,rfl,Nat.le_refl _,λ_ _ _=>rfl,λ_ _ _ _ h=>h,λb arr t h=>⟨arr,h,rfl⟩,λ_ _ _ h=>h,λ_ _=>.inl rfl⟩
theorem Tr.trans{M M1 M2:Mem}{id:Nat}(h:Tr M M1 id)(h2:Tr M1 M2 id):Tr M M2 id:=by
 rcases h with h |⟨h,b,lo,h',hlo⟩ |⟨b,lo,b',lo',h,h',hlo⟩ |⟨b,v,b',v',h,h',hlo⟩ |h |⟨l,S,S',h,h'⟩ |⟨v,b',v',h,h',hlo⟩ |⟨v,v',h,h',hlo⟩
 ·unfold Tr at h2 ⊢;rwa[h]at h2
 ·rcases h2 with h2 |⟨h2,_⟩ |⟨b1,lo1,b2,lo2,h2,h3,hlo2⟩ |⟨b1,v1,b2,v2,h2,h3,hlo2⟩ |h2 |⟨l1,S1,S2,h2,h3⟩ |⟨v1,b2,v2,h2,h3,hlo2⟩ |⟨v1,v2,h2,h3,hlo2⟩
  ·exact .inr (.inl ⟨h,b,lo,h2.trans h',hlo⟩)
  ·rw[h']at h2;simp at h2
  ·rw[h']at h2;simp only[Option.some.injEq,Own.tail.injEq]at h2;obtain⟨rfl,rfl⟩:=h2
   exact .inr (.inl ⟨h,b2,lo2,h3,by omega⟩)
  ·rw[h']at h2;simp at h2
  ·exact .inr (.inr (.inr (.inr (.inl h2))))
  ·rw[h']at h2;simp at h2
  ·rw[h']at h2;simp at h2
  ·rw[h']at h2;simp at h2
 ·rcases h2 with h2 |⟨h2,_⟩ |⟨b1,lo1,b2,lo2,h2,h3,hlo2⟩ |⟨b1,v1,b2,v2,h2,h3,hlo2⟩ |h2 |⟨l1,S1,S2,h2,h3⟩ |⟨v1,b2,v2,h2,h3,hlo2⟩ |⟨v1,v2,h2,h3,hlo2⟩
  ·exact .inr (.inr (.inl ⟨b,lo,b',lo',h,h2.trans h',hlo⟩))
  ·rw[h']at h2;simp at h2
  ·rw[h']at h2;simp only[Option.some.injEq,Own.tail.injEq]at h2;obtain⟨rfl,rfl⟩:=h2
   exact .inr (.inr (.inl ⟨b,lo,b2,lo2,h,h3,by omega⟩))
  ·rw[h']at h2;simp at h2
  ·exact .inr (.inr (.inr (.inr (.inl h2))))
  ·rw[h']at h2;simp at h2
  ·rw[h']at h2;simp at h2
  ·rw[h']at h2;simp at h2
 ·rcases h2 with h2 |⟨h2,_⟩ |⟨b1,lo1,b2,lo2,h2,h3,hlo2⟩ |⟨b1,v1,b2,v2,h2,h3,hlo2⟩ |h2 |⟨l1,S1,S2,h2,h3⟩ |⟨v1,b2,v2,h2,h3,hlo2⟩ |⟨v1,v2,h2,h3,hlo2⟩
  ·exact .inr (.inr (.inr (.inl ⟨b,v,b',v',h,h2.trans h',hlo⟩)))
  ·rw[h']at h2;simp at h2
  ·rw[h']at h2;simp at h2
  ·rw[h']at h2;simp only[Option.some.injEq,Own.vb.injEq]at h2;obtain⟨rfl,rfl⟩:=h2
   exact .inr (.inr (.inr (.inl ⟨b,v,b2,v2,h,h3,by omega⟩)))
  ·exact .inr (.inr (.inr (.inr (.inl h2))))
  ·rw[h']at h2;simp at h2
  ·rw[h']at h2;simp at h2
  ·rw[h']at h2;simp at h2
 ·rcases h2 with h2 |⟨h2,_⟩ |⟨b1,lo1,b2,lo2,h2,h3,hlo2⟩ |⟨b1,v1,b2,v2,h2,h3,hlo2⟩ |h2 |⟨l1,S1,S2,h2,h3⟩ |⟨v1,b2,v2,h2,h3,hlo2⟩ |⟨v1,v2,h2,h3,hlo2⟩
  ·exact .inr (.inr (.inr (.inr (.inl (h2.trans h)))))
  ·rw[h]at h2;simp at h2
  ·rw[h]at h2;simp at h2
  ·rw[h]at h2;simp at h2
  ·exact .inr (.inr (.inr (.inr (.inl h2))))
  ·rw[h]at h2;simp at h2
  ·rw[h]at h2;simp at h2
  ·rw[h]at h2;simp at h2
 ·rcases h2 with h2 |⟨h2,_⟩ |⟨b1,lo1,b2,lo2,h2,h3,hlo2⟩ |⟨b1,v1,b2,v2,h2,h3,hlo2⟩ |h2 |⟨l1,S1,S2,h2,h3⟩ |⟨v1,b2,v2,h2,h3,hlo2⟩ |⟨v1,v2,h2,h3,hlo2⟩
  ·exact .inr (.inr (.inr (.inr (.inr (.inl ⟨l,S,S',h,h2.trans h'⟩)))))
  ·rw[h']at h2;simp at h2
  ·rw[h']at h2;simp at h2
  ·rw[h']at h2;simp at h2
  ·exact .inr (.inr (.inr (.inr (.inl h2))))
  ·exact .inr (.inr (.inr (.inr (.inr (.inl ⟨l,S,S2,h,by
    rw[h']at h2;simp only[Option.some.injEq,Own.rnd.injEq]at h2;obtain⟨rfl,rfl⟩:=h2;exact h3⟩)))))
  ·rw[h']at h2;simp at h2
  ·rw[h']at h2;simp at h2
 ·rcases h2 with h2 |⟨h2,_⟩ |⟨b1,lo1,b2,lo2,h2,h3,hlo2⟩ |⟨b1,v1,b2,v2,h2,h3,hlo2⟩ |h2 |⟨l1,S1,S2,h2,h3⟩ |⟨v1,b2,v2,h2,h3,hlo2⟩ |⟨v1,v2,h2,h3,hlo2⟩
  ·exact .inr (.inr (.inr (.inr (.inr (.inr (.inl ⟨v,b',v',h,h2.trans h',hlo⟩))))))
  ·rw[h']at h2;simp at h2
  ·rw[h']at h2;simp at h2
  ·rw[h']at h2;simp only[Option.some.injEq,Own.vb.injEq]at h2;obtain⟨rfl,rfl⟩:=h2
   exact .inr (.inr (.inr (.inr (.inr (.inr (.inl ⟨v,b2,v2,h,h3,by omega⟩))))))
  ·exact .inr (.inr (.inr (.inr (.inl h2))))
  ·rw[h']at h2;simp at h2
  ·rw[h']at h2;simp at h2
  ·rw[h']at h2;simp at h2
 ·rcases h2 with h2 |⟨h2,_⟩ |⟨b1,lo1,b2,lo2,h2,h3,hlo2⟩ |⟨b1,v1,b2,v2,h2,h3,hlo2⟩ |h2 |⟨l1,S1,S2,h2,h3⟩ |⟨v1,b2,v2,h2,h3,hlo2⟩ |⟨v1,v2,h2,h3,hlo2⟩
  ·exact .inr (.inr (.inr (.inr (.inr (.inr (.inr ⟨v,v',h,h2.trans h',hlo⟩))))))
  ·rw[h']at h2;simp at h2
  ·rw[h']at h2;simp at h2
  ·rw[h']at h2;simp at h2
  ·exact .inr (.inr (.inr (.inr (.inl h2))))
  ·rw[h']at h2;simp at h2
  ·rw[h']at h2;simp only[Option.some.injEq,Own.nb.injEq]at h2;subst h2
   exact .inr (.inr (.inr (.inr (.inr (.inr (.inl ⟨v,b2,v2,h,h3,by omega⟩))))))
  ·rw[h']at h2;simp only[Option.some.injEq,Own.nb.injEq]at h2;subst h2
   exact .inr (.inr (.inr (.inr (.inr (.inr (.inr ⟨v,v2,h,h3,by omega⟩))))))
theorem Evo.step{M0 M M':Mem}{w0 w w':World}{W nw:List Nat}(e:Evo M0 w0 M w)(s:Step M w M' w' W)(htr:∀id∈W,id ∉ nw->Tr M M' id)(hnw:∀d∈nw,bI d=false):Evo M0 w0 M' w':=by
 refine⟨s.os.trans e.os,s.tape.trans e.tape,s.output.trans e.output,Nat.le_trans e.size s.size,?_,?_,?_,?_,λid hid=>?_⟩
 rotate_right
 ·refine(e.lent id hid).trans ?_
  by_cases h:id∈W
  ·grind
  ·exact .inl (s.mem id h)
 ·intro b hb hR
  rw[s.block b (Nat.lt_of_lt_of_le hb e.size) λid _ ow o h1 h2=>hR o (e.own b o hb ⟨id,ow,h1,h2⟩),e.block b hb hR]
 ·intro b o u hR hc
  exact s.cell b o u (λid _ ow h1 h2=>hR (e.own b o (block_lt hc) ⟨id,ow,h1,h2⟩)) (e.cell b o u hR hc)
 ·intro b arr t h
  obtain⟨a1,h1,h2⟩:=e.shape b arr t h
  obtain⟨a2,h3,h4⟩:=s.shape b a1 t h1
  grind
 ·rintro b o hb ⟨id,ow,h1,h2⟩
  by_cases hid:id∈W
  ·rcases(s.own id hid ow b o h1 h2).2 with h3 |⟨id0,_,ow0,h4,h5⟩
   ·exact absurd (Nat.lt_of_lt_of_le hb e.size) (by omega)
   ·exact e.own b o hb ⟨id0,ow0,h4,h5⟩
  ·rw[s.mem id hid]at h1
   exact e.own b o hb ⟨id,ow,h1,h2⟩
theorem St.turn[Lo]{M M':Mem}{w w':World}{W nw:List Nat}{Δ:Heap}(s:St N M n env K a w)
  (hs:Step M w M' w' W) (htr:∀id∈W,id ∉ nw->Tr M M' id) (hf:∀d∈nw,bI d=false/\fU d env=false/\pK d K=false) (hδ:∀id blk,Δ.get id=some blk->eP N M' w' id blk) (hno:∀id,id∈W↔∃b,Δ.get id=some b) :
  St N M' n env (uU K Δ) a w':=by
 have htr':∀id,(id∈nw->False)->Tr M M' id:=by
  intro id hx
  by_cases h:id∈W
  ·grind
  ·exact .inl (hs.mem id h)
 have hk:=hs.keeps (N:=N)
 have hE:∀j id,(env.get j).men id=true->Tr M M' id:=λj id hi=>htr' id λhn=>by
  grind[oh]
 refine⟨s.size,s.big,s.defers.keep hk hs.shape (hE gq) (λb hb hR=>hs.block b hb λid _ ow o h1 h2=>hR o ⟨id,ow,h1,h2⟩) (λb o hb=>hs.R_old hb),λj=>(s.env j).keep hk hs.shape (hE j),?_,hs.memOk s.mem⟩
 intro id blk hget
 rw[jf]at hget
 split at hget
 ·simp_all
 ·have hid:id ∉ W:=λh=>by simp_all
  refine(s.heap id blk hget).keep s.mem hs hid λid' hi=>htr' id' λhn=>?_
  grind[qM]
abbrev FR(ρ:Option Nat):Fence:={ Fence.wide with round:=ρ }
theorem mP(ρ:Option Nat)(n:Nat):(FR ρ).room n:=λ_ h=>by simp[Fence.wide]at h
theorem z6m{P:Program}{ρ:Option Nat}{o:Oper}{next:Act->World->Prop}(hd:ρ≠none->∀c,o.op ≠ .defer c)(h:Oper.wq P o a w next Q):o.wpIn (FR ρ) 0 P a w next Q:=by
 refine⟨λ_ _=>trivial,?_⟩
 have hs:o.semAt (FR ρ).round a.eval=execOp a.eval o:=by
  cases ρ with
  |none=>rfl
  |some l=>grind[Oper.semAt_eq]
 rw[hs]
 have hdep:(FR ρ).depth.isSome=true->1<=0:=λh=>by simp[Fence.wide]at h
 rcases h with h |⟨l,f,tmps,assign,body,hr,hR⟩
 ·unfold Oper.wp at h
  generalize (execOp a.eval o).run P w=r at h ⊢
  unfold Oper.upon at h
  split at h<;>try exact h
  ·exact⟨hdep,(callsIn_wide (n:=0)).2 h⟩
  ·exact⟨hdep,λc cs _=>by obtain⟨v,w',h1,h2⟩:=h c cs;exact⟨v,w',h1,stepsIn_wide.2 h2⟩⟩
  ·exact h.elim
 ·rw[hr]
  exact⟨hdep,hR⟩
def wpL(ρ:Option Nat)(P:Program)(ops:Array Oper)(Q:Exit->Act->World->Prop):List Oper->Act->World->Prop
 | [],a,w=>Q .normal a w
 |o::rest,a,w=>if Region.wanted o (yielded ops a.tmps)then(ρ≠none->∀c,o.op ≠ .defer c)/\Oper.wq P o a w (wpL ρ P ops Q rest) Q else wpL ρ P ops Q rest (a.put o.dst undef) w
theorem Y1{ρ:Option Nat}{P:Program}:∀{l:List Oper} {a:Act} {w:World},wpL ρ P ops Q l a w->wpListIn (FR ρ) 0 P ops Q l a w:=by
 intro l
 induction l with
 |nil=>intro a w h;exact h
 |cons o r ih=>
  intro a w h
  simp[wpL]at h
  simp[wpListIn]
  split at h
  ·rename_i hw
   rw[if_pos hw]
   exact Oper.wpIn_mono (λa w=>ih) (z6m h.1 h.2)
  ·rename_i hw
   rw[if_neg hw]
   exact⟨λ_ _=>trivial,ih h⟩
def OH:List Oper->Bool
 | []=>true
 |o::r=>(match o.op with | .defer _=>false |_=>true)&&OH r
theorem Ed:∀{l:List Oper},OH l=true->∀o∈l,∀c,o.op ≠ .defer c:=by
 intro l
 induction l with
 |nil=>simp
 |cons x r ih=>
  intro h o ho c hc
  simp[OH]at h
  grind
def qg:Code->Bool
 | .region _ ops _=>OH ops.toList
 | .seq a b=>qg a&&qg b
 | .cond _ a b=>qg a&&qg b
 | .block _ c | .loop c | .scope c=>qg c
 | .rangeFunc _ _ _ _=>false
 |_=>true
def QOk[Lo](N:aS)(M0:Mem)(w0:World)(n:Nat)(Q:Post)(Q':Exit->Act->World->Prop):Prop:=
 (∀o env K M a w,Q o env K->St N M n env K a w->Evo M0 w0 M w->match o with
  | .normal=>Q' .normal a w
  | .exit i=>Q' (.exit i) a w
  | .ret=>Q' .ret a w
  | .panic x=>∀v,aF N M w x v->Q' (.panic [{ v,recovered:=false }]) a w)
def OI(n:Nat):List Oper->Bool
 | []=>true
 |o::r=>(match o.dst with |some d=>Nat.blt d n |none=>true)&&OI n r
theorem qP:∀{l:List Oper},OI n l=true->∀o∈l,∀d,o.dst=some d->d<n:=by
 intro l
 induction l with
 |nil=>simp
 |cons x r ih=>
  intro h o ho d hd
  simp[OI]at h
  rcases List.mem_cons.1 ho with rfl |ho
  ·simp_all
  grind
theorem kW:aF N M w (.data (.val undef)) undef:=.data _ _ (.val _)
theorem qh[Lo](s:St N M n env K a w){j d:Nat}{c:Bool}(hd:rJ ops j=some d)(hc:env.get d = .data (.val (.bool c))) :
  yielded ops a.tmps j=some c:=by
 have h:=s.env d
 rw[hc]at h
 have hb:=h.bool
 have hlt:a.tmps[d]? = some (.bool c):=by
  simp at hb
  grind[undef]
 grind[rJ,yielded]
theorem ve[Lo](s:St N M n env K a w){j d:Nat}{vs:Array Value}(hd:rJ ops j=some d)(hc:env.get d = .data (.val (.tuple vs))) :
  yielded ops a.tmps j=none:=by
 have h:=s.env d
 rw[hc]at h
 have hb:a.tmps.getD d undef = .tuple vs:=by generalize a.tmps.getD d undef=z at h;cases h with |data _ _ h=>cases h;rfl
 unfold rJ at hd
 unfold yielded
 split at hd
 ·simp at hb
  grind
 ·simp at hd
theorem UL{id d:Nat}{x:AV}(h:fU id env=true):fU id ((d,x)::env)=true:=by
 grind[fU]
theorem St.env_cons[Lo](s:St N M n env K a w){d:Nat}{x:AV}(hd:d=gq->yQ N M w x a.defers)(h:aF N M w x (a.tmps.getD d undef)):St N M n ((d,x)::env) K a w:=
 ⟨s.size,s.big,by
  rw[Env.get_cons];split
  ·simp_all
  ·exact s.defers,λj=>by
  rw[Env.get_cons];split
  ·simp_all
  ·exact s.env j,s.heap,s.mem⟩
section
variable {P : Program} {T : Tbl} (hT : iQ P T)
include hT
theorem UM[Lo]{ρ:Option Nat}{ops:Array Oper}{N:aS}{n:Nat}{Q:Env->Heap->Prop}{pan:Env->Next}{Q':Exit->Act->World->Prop}{M0:Mem}{w0:World}
  (hQ:∀env K M a w,Q env K->St N M n env K a w->Evo M0 w0 M w->Q' .normal a w) (hP:∀x env K M a w,pan env x K->St N M n env K a w->Evo M0 w0 M w->∀v,aF N M w x v->Q' (.panic [{ v,recovered:=false }]) a w) :
  ∀(l:List Oper) (env:Env) (K:Heap) (M:Mem) (a:Act) (w:World),(∀o∈l,∀d,o.dst=some d->d<n)->(ρ≠none->∀o∈l,∀c,o.op ≠ .defer c)->YD T (PCall P) (ak P) ops Q pan l env K->St N M n env K a w->Evo M0 w0 M w->wpL ρ P ops Q' l a w:=by
 intro l
 induction l with
 |nil=>intro env K M a w _ _ h s e;exact hQ env K M a w h s e
 |cons o rest ih=>
  intro env K M a w hdst hnd h s e
  have hd:∀d,o.dst=some d->d<n:=hdst o (by simp)
  have hrest:∀o∈rest,∀d,o.dst=some d->d<n:=λo ho=>hdst o (by simp[ho])
  have hnrest:ρ≠none->∀o∈rest,∀c,o.op ≠ .defer c:=λhr o ho=>hnd hr o (by simp[ho])
  have hno:ρ≠none->∀c,o.op ≠ .defer c:=λhr=>hnd hr o (by simp)
  have run:∀(env env2:Env),St N M n env K a w->St N M n env2 K a w->(∀id,fU id env2=true->fU id env=true)->vOp T (PCall P) (ak P) env K o (λv K=>YD T (PCall P) (ak P) ops Q pan rest (env.set o.dst v) K) (pan env2)->(ρ≠none->∀c,o.op ≠ .defer c)/\Oper.wq P o a w (wpL ρ P ops Q' rest) Q':=by
   intro env env2 s s2 hmen h
   obtain⟨pn,r,W,nw,Δ,hn,ok⟩:=Iy hT h
   refine⟨hno,?_⟩
   refine ok.eff N M a w s.mem (λj _=>s.env j) (λid _=>s.heap id) _ Q' λv M' w' hs htr hr hδ=>?_
   have e':=e.step hs htr λd hd=>(ok.fresh d hd).1
   cases pn with
   |false=>exact ih _ _ M' _ w' hrest hnrest hn ((s.turn hs htr ok.fresh hδ ok.dom).put hd hr) e'
   |true=>
    refine hP r env2 _ M' a w' hn (s2.turn hs htr (λd hd=>?_) hδ ok.dom) e' v hr
    obtain⟨q1,q2,q3⟩:=ok.fresh d hd
    grind
  simp only[YD]at h
  unfold wpL
  split at h
  ·rename_i hg
   simp only[Region.wanted,hg,if_true]
   split at h
   ·rename_i cs hcs
    unfold wU at hcs
    split at hcs<;>try(simp at hcs;done)
    rename_i c ho
    split at hcs<;>try(simp at hcs;done)
    rename_i j hcal hargs
    split at hcs
    ·rename_i f caps hj
     simp only[Option.some.injEq]at hcs
     have hargs:c.args = #[]:=by grind
     have hx:=s.env j
     rw[hj]at hx
     generalize hvj:a.tmps.getD j undef=vj at hx
     cases hx with
     |fn _ _ vs hl hh=>
      have hrun:(execOp a.eval o).run P w = .ok (.defer { target:=.fn (.func f) vs,args:=#[] }) w:=by
       have:execOp a.eval o=(do pure (.defer (<-resolve a.eval c o.type))):=by cases o;simp only at ho;subst ho;rfl
       rw[this]
       simp[resolve,hcal,Act.eval,hvj,Deferred.ofValue,hargs]
      refine⟨hno,.inl ?_⟩
      simp only[Oper.wp,hrun,Oper.upon_defer]
      have s2:St N M n ((gq,.dfr cs)::env) K { a with defers:={ target:=.fn (.func f) vs,args:=#[] }::a.defers } w:=by
       refine⟨s.size,s.big,?_,λj=>?_,s.heap,s.mem⟩
       ·rw[Env.get_cons,if_pos rfl,<-hcs]
        exact s.defers.push ⟨f,caps,vs,rfl,rfl,hl,hh⟩ rfl
       ·rw[Env.get_cons];split
        ·exact .dfr _ _
        ·exact s.env j
      exact ih _ K M _ w hrest hnrest h (s2.put hd kW) e
    ·simp at hcs
   grind
  ·rename_i j want hg
   split at h<;>try exact h.elim
   rename_i d hdj
   split at h
   ·rename_i c hc
    have hy:=qh s hdj hc
    have hrel:aF N M w (.b c) (a.tmps.getD d undef):=by have:=s.env d;rw[hc]at this;exact this
    have hdf:∀b,d=gq->yQ N M w (.b b) a.defers:=λb e=>by have:=s.defers;subst e;rw[hc]at this;exact this.view λh=>h
    simp only[Region.wanted,hg,hy]
    unfold Br at h
    by_cases hcw:c=want
    ·subst hcw
     simp only[beq_self_eq_true]at h ⊢
     rw[if_pos trivial]
     exact run _ _ (s.env_cons (hdf _) hrel) s (λ_ hi=>UL hi) h
    ·have hne:(c==want)=false:=by simpa using hcw
     rw[hne]at h
     rw[if_neg (by simpa using hcw)]
     have hnw:(!want)=c:=by cases c<;>cases want<;>simp_all
     simp only[hnw]at h
     exact ih _ K M _ w hrest hnrest h ((s.env_cons (hdf _) hrel).put hd kW) e
   ·rename_i vs hc
    have hy:=ve s hdj hc
    simp only[Region.wanted,hg,hy]
    rw[if_neg (by simp)]
    exact ih _ K M _ w hrest hnrest h (s.put hd kW) e
   ·exact h.elim
end
theorem Env.le_rel{N:aS}{M:Mem}{w:World}{env:Env}{K Z:Heap}{a:Act}(h:∀j,aF N M w (env.get j) (a.tmps.getD j undef)):∀(env':Env),env.le K Z env'->∀j x,env'.get j=x->x = .top\/(AV.le env K Z (env.get j) x/\aF N M w (env.get j) (a.tmps.getD j undef)):=by
 intro env'
 induction env' with
 |nil=>grind[Env.get]
 |cons p r ih=>
  grind[Env.le,Env.get_cons]
theorem z3e{N:aS}{M:Mem}{w:World}{g id b b':Nat}(h:eP N M w g (.adr id b))(e:M id=some (.blk b')):b=b':=by
 cases h with
 |ptr _ _ a ha=>simp_all
theorem zi{K:Heap}{id b:Nat}:∀{r:Heap},zck K r id=some b->∃g,K.get g=some (.adr id b)
 | [],h=>by simp[zck]at h
 |(j,blk)::r,h=>by
  unfold zck at h
  split at h<;>try exact zi h
  split at h
  ·grind[Nat.eq_of_beq_eq_true]
  ·exact zi h
theorem UN{K:Heap}:∀{ds:List D} {cs:List AV},leP K ds cs->ds.length=cs.length/\∀(i:Nat) c,cs[i]? = some c->∃d,ds[i]? = some d/\(c = .data d\/∃id off b,c = .ptr id off/\z6a K id=some b/\d = .val (.pointer (some ⟨b,off,none⟩)))
 | [],[],_=>⟨rfl,λi c h=>by simp at h⟩
 |d::ds,c::cs,h=>by
  obtain⟨h1,h2⟩:=h
  obtain⟨hl,hg⟩:=UN h2
  grind
 | [],_::_,h=>h.elim
 |_::_,[],h=>h.elim
theorem St.named[Lo]{N:aS}{M:Mem}{n:Nat}{env:Env}{K:Heap}{a:Act}{w:World}(s:St N M n env K a w)(g:Nat){id:Nat}{cs:List AV}(hc:K.get id=some (.cells cs)):∃b,St N M n env ((g,.adr id b)::K) a w:=by
 obtain⟨b,arr,t,e1,_,_,_⟩:=s.heap id _ hc
 refine⟨b,⟨s.size,s.big,s.defers,s.env,λi blk h=>?_,s.mem⟩⟩
 rw[Heap.get_cons]at h
 split at h
 ·simp at h
  subst h
  exact .ptr _ _ _ λb' e=>by simp_all
 ·exact s.heap i blk h
def Rq:Block->Own | .arr vr _ _=>.nb vr |_=>.nil
theorem eP.weak{N:aS}{M M':Mem}{w:World}{i:Nat}{b:Block}(h:eP N M w i b)(hi:M' i=M i)(hk:fJ w (Fb N M) w (Fb N M'))(htr:∀i,b.men i=true->Tr M M' i):eP N M' w i b:=by
 have sh:∀b arr t,dJ w b arr t->∃arr',dJ w b arr' t/\arr'.size=arr.size:=λb arr t h=>⟨arr,h,rfl⟩
 cases b with
 |cells cs=>
  obtain⟨b,arr,t,e1,e2,e3,e4⟩:=h
  exact⟨b,arr,t,hi.trans e1,e2,e3,λi c e=>(e4 i c e).keep hk sh λid' hi=>htr id' (by simp only[Block.men];exact kU e hi)⟩
 |arr sz es=>
  rcases h with⟨b,arr,t,e1,e2,e3,e4,e5⟩ |⟨e1,e2⟩
  ·exact .inl ⟨b,arr,t,hi.trans e1,e2,e3,e4,λi j e d he hd=>⟨(e5 i j e d he hd).1.keep hk,(e5 i j e d he hd).2⟩⟩
  ·exact .inr ⟨hi.trans e1,e2⟩
 |tok sz n=>
  rcases h with⟨e1,e2⟩ |⟨b,arr,t,e1,e2⟩
  ·exact .inl ⟨hi.trans e1,e2⟩
  ·exact .inr ⟨b,arr,t,hi.trans e1,e2⟩
 |map g l es=>
  obtain⟨b,mes,clock,e1,e2,e3,est,e4⟩:=h
  exact⟨b,mes,clock,hi.trans e1,e2,e3,est,λi x e=>by
   obtain⟨f0,m',f1,f2,f3⟩:=e4 i x e
   exact⟨f0,m',f1,f2.keep hk,f3.keep hk⟩⟩
 |dead=>trivial
 |adr i b=>exact aF.keep h hk sh λid' hi=>htr id' hi
 |rnd R=>
  obtain⟨l,S,e1,e2⟩:=h
  exact⟨l,S,hi.trans e1,R.keep e2 (λb o hS=>.inr ⟨_,_,hi.trans e1,o,Nat.le_refl _,hS⟩) (Nat.le_refl _) (λ_ _ _=>rfl) hk sh⟩
theorem LK{env:Env}{K Z:Heap}:∀{ys xs:List AV},zY env K Z ys xs->xs.length=ys.length/\∀(i:Nat) (y:AV),ys[i]? = some y->∃x,xs[i]? = some x/\AV.le env K Z x y:=by
 intro ys
 induction ys with
 |nil=>grind[zY]
 |cons y ys ih=>
  intro xs h
  cases xs with
  |nil=>exact h.elim
  |cons x xs=>
   obtain⟨h1,h2⟩:=h
   grind
theorem z6n{N:aS}{M M':Mem}{w:World}{id vr sz off len cap:Nat}{es r:List (List D)}{a:Option Addr}(hm:bT N M w)(hb:eP N M w id (.arr vr sz es))
  (ha:∀b v,M id=some (.vb b v)->vr<=v/\(vr=v->len<=cap/\cap<=maxLen/\(0<cap->a=some ⟨b,off * sz,none⟩)/\∃arr t,dJ w b arr t/\arr.size=(off+cap) * sz))
  (hnb:∀v,M id=some (.nb v)->vr<=v/\(vr=v->len=0/\off=0/\cap=0)) (hle:off+len<=es.length) (hr:r=(es.drop off).take len) (hk:fJ w (Fb N M) w (Fb N M')) (hfree:∀b,M id=some (.vb b vr)->∀o,¬Fb N M' b o):DRel (Fb N M') w (.sl sz r) (.slice a len cap):=by
 rcases hb with⟨b,arr,t,e1,e2,e3,e4,e5⟩ |⟨e1,e2⟩
 rotate_left
 ·obtain⟨rfl,rfl,rfl⟩:=(hnb _ e1).2 rfl
  subst e2 hr
  exact .sl0 sz a 0 (by simp[maxLen])
 obtain⟨q1,q2,q3,_⟩:=(ha b _ e1).2 rfl
 have hrl:r.length=len:=by grind
 by_cases hl0:len=0
 ·subst hl0
  have:r = []:=List.length_eq_zero_iff.1 hrl
  subst this
  exact .sl0 sz a cap q2
 ·obtain rfl:=q3 (by omega)
  have hri:∀(i:Nat) e,r[i]? = some e->es[off+i]? = some e:=by
   grind
  have hkey:∀(i j:Nat) e d,r[i]? = some e->e[j]? = some d->off * sz+i * sz+j=(off+i) * sz+j/\(off+i) * sz+j<arr.size:=by
   intro i j e d he hd
   have h1:=hri i e he
   have hlt:=(List.getElem?_eq_some_iff.1 h1).1
   have hj:j<sz:=by grind
   refine⟨by rw[Nat.add_mul],?_⟩
   refine Nat.lt_of_lt_of_le ?_ e3
   calc (off+i) * sz+j<(off+i) * sz+sz:=by omega
    _=(off+i+1) * sz:=by grind
    _<=es.length * sz:=Nat.mul_le_mul_right _ (by omega)
  refine .sl sz r b (off * sz) cap len (λi j=>arr.getD (off * sz+i * sz+j) undef) hrl.symm q1 q2 (λe he=>?_) (λi j e d he hd=>⟨hfree b e1 _,?_,?_⟩) λi j e d he hd=>?_<;>try grind
  ·have:=hkey i j e d he hd
   rw[dG e2];simp_all
  ·have:=hkey i j e d he hd
   rw[this.1];exact(e5 _ _ e d (hri i e he) hd).1.keep hk
theorem St.weak[Lo]{N:aS}{M0 M:Mem}{w0:World}{n:Nat}{env env':Env}{K K':Heap}{a:Act}{w:World}(s:St N M n env K a w)(e:Evo M0 w0 M w)(h:z6b env K env' K'):∃M',St N M' n env' K' a w/\Evo M0 w0 M' w:=by
 obtain⟨h1,h2,h3⟩:=h
 -- the names that are new
 have hnew:∀(Z K':Heap),Heap.le env K Z K'->∀i b,K'.get i=some b->(∃b',K.get i=some b'/\Block.le env K Z b' b)\/(K.get i=none/\b.isTok0=true/\bI i=false/\fU i env=false/\pK i K=false):=by
  intro Z K'
  induction K' with
  |nil=>intro _ i b hb;simp[Heap.get]at hb
  |cons p r ih=>
   grind[Heap.le,Heap.get_cons,Option.some.injEq]
 have hn:=hnew K' K' h2
 let M':Mem:=λi=>match bI i,K.get i with
  |false,none=>(match fU i env,pK i K with |false,false=>(match K'.get i with |some b=>some (Rq b) |none=>none) |_,_=>M i)
  |false,some (.arr _ _ _)=>(match K'.get i with |some _=>M i |none=>none)
  |false,some (.cells _)=>(match K'.get i with |some _=>M i |none=>none)
  |_,_=>M i
 have hM':∀i,M' i=M i\/((M' i=some .nil\/M' i=none\/∃v,M' i=some (.nb v))/\fU i env=false/\pK i K=false/\bI i=false)\/(M' i=none/\bI i=false/\K'.get i=none):=by
  intro i
  simp only[M']
  split
  ·rename_i hl h1
   split
   ·rename_i h2 h3
    refine .inr (.inl ⟨?_,h2,h3,hl⟩)
    split
    ·rename_i b _;cases b<;>first |exact .inl rfl |exact .inr (.inr ⟨_,rfl⟩)
    ·exact .inr (.inl rfl)
   ·exact .inl rfl
  ·rename_i hl h1
   split
   ·exact .inl rfl
   ·rename_i h2;exact .inr (.inr ⟨rfl,hl,h2⟩)
  ·rename_i hl h1
   split
   ·exact .inl rfl
   ·rename_i h2;exact .inr (.inr ⟨rfl,hl,h2⟩)
  ·exact .inl rfl
 have hMnew:∀i,K.get i=none->bI i=false->fU i env=false->pK i K=false->(M' i=some .nil\/M' i=none\/∃v,M' i=some (.nb v))/\(∀b,K'.get i=some b->M' i=some (Rq b)):=by
  intro i h1 hl h2 h3
  simp only[M',h1,hl,h2,h3]
  cases K'.get i with
  |none=>simp
  |some b=>cases b<;>simp[Rq]
 have hMold:∀i b b',K.get i=some b->K'.get i=some b'->M' i=M i:=by
  intro i b b' h1 h2
  simp only[M',h1,h2]
  cases bI i<;>cases b<;>rfl
 have hMfrz:∀i vr sz es,K.get i=some (.arr vr sz es)->bI i=false->K'.get i=none->M' i=none:=by
  intro i vr sz es h1 hl h2
  simp only[M',h1,hl,h2]
 have hMfrzC:∀i cs,K.get i=some (.cells cs)->bI i=false->K'.get i=none->M' i=none:=by
  intro i cs h1 hl h2
  simp only[M',h1,hl,h2]
 have hR:∀b o,M'.R b o->M.R b o:=by
  rintro b o ⟨id,ow,e1,e2⟩
  rcases hM' id with h |⟨h |h |⟨_,h⟩,_⟩ |⟨h,_⟩
  ·exact⟨id,ow,h ▸ e1,e2⟩
  ·rw[h]at e1;simp only[Option.some.injEq]at e1;subst e1;exact e2.elim
  ·rw[h]at e1;simp at e1
  ·rw[h]at e1;simp only[Option.some.injEq]at e1;subst e1;exact e2.elim
  ·rw[h]at e1;simp at e1
 have hk:fJ w (Fb N M) w (Fb N M'):=λb o u hf hc=>⟨λhf'=>hf (hf'.imp id (hR b o)),hc⟩
 have htr:∀i,(fU i env=true\/pK i K=true)->Tr M M' i:=by
  intro i hi
  rcases hM' i with h |h |h
  ·exact .inl h
  ·rcases hi with h3 |h3
   ·rw[h.2.1]at h3;simp at h3
   ·rw[h.2.2.1]at h3;simp at h3
  ·exact .inr (.inr (.inr (.inr (.inl h.1))))
 have hlent:∀i,bI i=true->M' i=M i:=by
  intro i hi
  rcases hM' i with h |h |h
  ·exact h
  ·rw[h.2.2.2]at hi;simp at hi
  ·rw[h.2.1]at hi;simp at hi
 have hptr:∀id off b,z6a K id=some b->aF N M' w (.ptr id off) (.pointer (some ⟨b,off,none⟩)):=by
  intro id off b hb
  obtain⟨g,hg⟩:=zi hb
  refine .ptr _ _ _ λb' e1=>?_
  have e2:M id=some (.blk b'):=by
   rcases hM' id with h |⟨h |h |⟨_,h⟩,_⟩ |⟨h,_⟩<;>try(rw[h]at e1;simp at e1;done)
   exact h ▸ e1
  rw[z3e (s.heap g _ hg) e2]
 have hle:∀(x y:AV) (z:Value),AV.le env K K' x y->aF N M w x z->(∀i,x.men i=true->Tr M M' i)->aF N M' w y z:=by
  intro x y z hy1 hr hm
  have hkeep:=hr.keep hk (λb arr t h=>⟨arr,h,rfl⟩) hm
  unfold AV.le at hy1
  split at hy1
  ·rename_i s1 id1 s2 es1
   obtain⟨rfl,rfl,q1,ql,q2,q3⟩:=hy1
   cases hkeep
   have:=(hMnew id1 q1 ql q2 q3).1
   refine .gs _ _ _ _ _ _ (.sl0 _ _ _ (by simp[maxLen])) (λ_=>⟨rfl,rfl⟩) λb lo e1=>?_
   rw[e1]at this;simp at this
  ·rename_i s1 id vr sz off len
   obtain⟨rfl,rfl,rfl,q1,ql,q2,q3,q4⟩:=hy1
   cases hkeep
   split at q4
   ·rename_i vr' _ _ hz
    subst q4
    have:=(hMnew id q1 ql q2 q3).2 _ hz
    refine .own _ _ _ _ _ _ _ (λb v e1=>by rw[this]at e1;simp[Rq]at e1) λv e1=>?_
    rw[this]at e1;simp only[Rq,Option.some.injEq,Own.nb.injEq]at e1;subst e1
    exact⟨Nat.le_refl _,λ_=>⟨rfl,rfl,rfl⟩⟩
   ·exact q4.elim
  ·rename_i s1 s2 r
   obtain⟨rfl,rfl⟩:=hy1
   cases hkeep
   exact .data _ _ (.sl0 _ _ _ (by simp[maxLen]))
  ·obtain⟨rfl,rfl⟩:=hy1
   cases hkeep with
   |gs _ _ _ _ _ _ hd _ _=>exact .data _ _ hd
  ·rename_i id vr sz off len sz' r
   obtain⟨rfl,hl,hz,hy1⟩:=hy1
   split at hy1
   ·rename_i vr2 sz2 es hcs
    obtain⟨⟨rfl,rfl⟩,hlen,hr0⟩:=hy1
    have hMi:=hMfrz id _ _ _ hcs hl hz
    cases hr with
    |own _ _ _ _ _ a' cap ha hnb=>
     exact .data _ _ (z6n s.mem (s.heap id _ hcs) ha hnb hlen hr0 hk (λb e1 o=>by
      rintro(hN |⟨id',ow,h2,h3⟩)
      ·exact(s.mem.dom id _ b o e1 rfl).2 hN
      ·have hne:id≠id':=by rintro rfl;rw[hMi]at h2;simp at h2
       rcases hM' id' with h |⟨h |h |⟨_,h⟩,_⟩ |⟨h,_⟩
       ·exact s.mem.disj id id' _ ow b o hne e1 (h ▸ h2) rfl h3
       ·rw[h]at h2;simp only[Option.some.injEq]at h2;subst h2;exact h3.elim
       ·rw[h]at h2;simp at h2
       ·rw[h]at h2;simp only[Option.some.injEq]at h2;subst h2;exact h3.elim
       ·rw[h]at h2;simp at h2))
   ·exact hy1.elim
  ·rename_i id off ds
   obtain⟨hl,hz,hy1⟩:=hy1
   split at hy1
   ·rename_i cs hcs
    split at hy1
    ·rename_i ds' hds
     obtain⟨rfl,hsc⟩:=hy1
     have hMi:=hMfrzC id _ hcs hl hz
     cases hr with
     |ptr _ _ a' ha=>
      obtain⟨b,arr,t,e1,e2,e3,e4⟩:=s.heap id _ hcs
      rw[ha b e1]
      obtain⟨k1,k2⟩:=fF hds
      have key:∀j d,ds[j]? = some d->off+j<arr.size/\DRel (Fb N M) w d (arr.getD (off+j) undef):=by
       intro j d hj
       obtain⟨c,q1,q2⟩:=k2 j d hj
       rw[List.getElem?_drop]at q1
       have:=(List.getElem?_eq_some_iff.1 q1).1
       exact⟨by omega,(e4 _ c q1).toD q2⟩
      refine .data _ _ (.ptr ds b off (λj=>arr.getD (off+j) undef) (λj d hj=>?_) (λj d hj=>(key j d hj).2.keep hk))
      obtain⟨h1,h2⟩:=key j d hj
      refine⟨?_,by rw[dG e2,bi undef h1],?_⟩
      ·rintro(hN |⟨id',ow,h2,h3⟩)
       ·exact(s.mem.dom id _ b (off+j) e1 (by simp[Own.has])).2 hN
       ·have hne:id≠id':=by rintro rfl;rw[hMi]at h2;simp at h2
        have hsame:=hM' id'
        rcases hsame with h |⟨h |h |⟨_,h⟩,_⟩ |⟨h,_⟩
        ·exact s.mem.disj id id' _ ow b (off+j) hne e1 (h ▸ h2) (by simp[Own.has]) h3
        ·rw[h]at h2;simp only[Option.some.injEq]at h2;subst h2;exact h3.elim
        ·rw[h]at h2;simp at h2
        ·rw[h]at h2;simp only[Option.some.injEq]at h2;subst h2;exact h3.elim
        ·rw[h]at h2;simp at h2
      ·exact gJ (x:=.data d) (.data _ _ h2) (List.all_eq_true.1 hsc d (List.mem_of_getElem? hj))
    ·exact hy1.elim
   ·exact hy1.elim
  ·rename_i id off v
   split at hy1
   ·rename_i b cs hb hcs
    obtain⟨g,hg⟩:=zi hb
    obtain⟨b0,arr,t,e1,_,_,_⟩:=s.heap id _ hcs
    obtain rfl:b=b0:=z3e (s.heap g _ hg) e1
    cases hr with
    |ptr _ _ a' ha=>rw[ha b e1,<-hy1];exact .data _ _ (.val _)
   ·exact hy1.elim
  ·rename_i v id off
   split at hy1
   ·rename_i b hb
    cases hr with
    |data _ _ hd=>
     cases hd
     rw[hy1]
     exact hptr _ _ _ hb
   ·exact hy1.elim
  ·rename_i f ds g cs
   obtain⟨rfl,hl⟩:=hy1
   obtain⟨hlen,hat⟩:=UN hl
   cases hr with
   |data _ _ hd=>
    cases hd with
    |fn _ _ vs hvs hv=>
     refine .fn _ _ vs (hvs.trans hlen) λi c hc=>?_
     obtain⟨d,hd,h⟩:=hat i c hc
     rcases h with rfl |⟨id,off,b,rfl,hb,rfl⟩
     ·exact .data _ _ ((hv i d hd).keep hk)
     ·have hx:=hv i _ hd
      generalize vs.getD i undef=u at hx
      cases hx
      exact hptr _ _ _ hb
  ·rw[<-hy1];exact hkeep
 refine⟨M',⟨s.size,s.big,?_,λj=>?_,λi b hb=>?_,?_⟩,⟨e.os,e.tape,e.output,e.size,e.block,e.cell,e.shape,λb o hb h=>e.own b o hb (hR b o h),λi hi=>by have:=e.lent i hi;unfold Tr at this ⊢;rwa[hlent i hi]⟩⟩
 ·rw[h3];exact s.defers.keep hk (λb arr t h=>⟨arr,h,rfl⟩) (λi hi=>htr i (.inl (oh hi))) (λ_ _ _=>rfl) λb o _ h=>hR b o h
 ·rcases Env.le_rel s.env env' h1 j _ rfl with h |⟨hy1,hy3⟩
  ·rw[h];exact .top _
  ·exact hle _ _ _ hy1 hy3 (λi hi=>htr i (.inl (oh hi)))
 ·rcases hn i b hb with⟨b',h,hbl⟩ |⟨h3,h4,hl,h5,h6⟩
  ·have hMi:M' i=M i:=hMold i b' b h hb
   have hold:=s.heap i b' h
   cases b with
   |cells ys=>
    cases b' with
    |cells xs=>
     obtain⟨q1,q2⟩:=LK hbl
     obtain⟨bb,arr,t,e1,e2,e3,e4⟩:=hold
     refine⟨bb,arr,t,hMi.trans e1,e2,by rw[e3,q1],λj y hy=>?_⟩
     obtain⟨x,hx,hxy⟩:=q2 j y hy
     exact hle _ _ _ hxy (e4 j x hx) λi' hi'=>htr i' (.inr (qM h (by simp only[Block.men];exact kU hx hi')))
    |_=>exact hbl.elim
   |_=>
    have hbl:b'=_:=hbl
    subst hbl
    exact hold.weak hMi hk λi' hi'=>htr i' (.inr (qM h hi'))
  ·have hMi:M' i=some (Rq b):=(hMnew i h3 hl h5 h6).2 b hb
   cases b with
   |tok sz n=>
    cases n with
    |zero=>exact .inl ⟨hMi,rfl⟩
    |succ n=>simp[Block.isTok0]at h4
   |arr vr sz es=>
    cases es with
    |nil=>exact .inr ⟨hMi,rfl⟩
    |cons x r=>simp[Block.isTok0]at h4
   |_=>simp[Block.isTok0]at h4
 ·have hD:∀id ow b o,M' id=some ow->ow.has b o->b<w.heap.size/\¬N b o:=by
   intro id ow b o e1 e2
   obtain⟨id0,ow0,e3,e4⟩:=hR b o ⟨id,ow,e1,e2⟩
   exact s.mem.dom id0 ow0 b o e3 e4
  refine⟨?_,hD,s.mem.foes,s.mem.glob⟩
  ·intro id id' ow ow' b o hne e1 e2 e3 e4
   rcases hM' id with h |⟨h |h |⟨_,h⟩,_⟩ |⟨h,_⟩<;>rcases hM' id' with h' |⟨h' |h' |⟨_,h'⟩,_⟩ |⟨h',_⟩<;>first
    |exact s.mem.disj id id' ow ow' b o hne (h ▸ e1) (h' ▸ e2) e3 e4
    |(rw[h']at e2;simp at e2;done)
    |(rw[h]at e1;simp at e1;done)
    |(rw[h']at e2;simp only[Option.some.injEq]at e2;subst e2;exact e4)
    |(rw[h]at e1;simp only[Option.some.injEq]at e1;subst e1;exact e3)
theorem vg{ρ:Option Nat}{P:Program}{id:Nat}{ops:Array Oper}{Q:Exit->Act->World->Prop}{a:Act}{w:World}(h:wpL ρ P ops Q ops.toList a w):(Code.region id ops false).wpIn (FR ρ) 0 P Q a w:=
 wpIn_region_list (Y1 h)
theorem wp_loop_ghost{ρ:Option Nat}{P:Program}{c:Code}{Q:Exit->Act->World->Prop}{S:Type}(J:S->Act->World->Prop)(μ:S->Nat)
  (round:∀s a w,J s a w->c.wpIn (FR ρ) 0 P (Exit.then (λa' w'=>∃s',μ s' < μ s/\J s' a' w') Q) a w):∀s a w,J s a w->(Code.loop c).wpIn (FR ρ) 0 P Q a w:=by
 intro s a w hJ
 classical
 let m:Act->World->Nat:=λa w=>if h:∃n,∃s,μ s=n/\J s a w then Classical.choose (show ∃n,(∃s,μ s=n/\J s a w)/\∀k,(∃s,μ s=k/\J s a w)->n<=k from by
  obtain⟨n,hn⟩:=h
  induction n using Nat.strongRecOn with
  |_ n ih=>
   by_cases hlt:∃k,k<n/\∃s,μ s=k/\J s a w
   ·obtain⟨k,hk,hs⟩:=hlt;exact ih k hk hs
   grind)else 0
 have hm:∀a w,(∃s,J s a w)->(∃s,μ s=m a w/\J s a w)/\∀s,J s a w->m a w<=μ s:=by
  intro a w ⟨s,hs⟩
  have hex:∃n,∃s,μ s=n/\J s a w:=⟨_,s,rfl,hs⟩
  grind
 refine wpIn_loop (λa w=>∃s,J s a w) m ⟨s,hJ⟩ λa w hI=>?_
 obtain⟨⟨s,hs,hJs⟩,_⟩:=hm a w hI
 refine wpIn_mono (round s a w hJs) λe a' w' h=>?_
 cases e with
 |normal=>
  obtain⟨s',h1,h2⟩:=h
  exact⟨⟨s',h2⟩,by grind⟩
 |_=>exact h
def mQ(ρ:Option Nat)(P:Program)(c:Code)(Q:Exit->Act->World->Prop)(a:Act)(w:World):Prop:=
 ∀(b:Frame) (k:List Item) (cs:List Frame),b.roundOf=ρ->(∃fn,P.funcs[b.fn]? = some fn) ->
  ∃e a' w',Q e a' w'/\ArrivesIn (Machine.fenced P (FR ρ)) P (lone (b.atR a (.code c::k)) cs w) b k cs e a' w'
section
variable {ρ : Option Nat} {P : Program} {Q : Exit → Act → World → Prop} {a : Act} {w : World}
theorem vw{c:Code}(h:c.wpIn (FR ρ) 0 P Q a w):mQ ρ P c Q a w:=λb k cs hro _=>h b k cs hro trivial (mP _ _)
theorem Rt(h:Q .normal a w):mQ ρ P .skip Q a w:=vw (wpIn_skip h)
theorem Ee{id:Nat}(h:Q (.exit id) a w):mQ ρ P (.exit id) Q a w:=vw (wpIn_exit h)
theorem Iz(h:Q .ret a w):mQ ρ P .ret Q a w:=vw (wpIn_ret h)
theorem qj{c:Code}{b:Frame}{k k1:List Item}{cs:List Frame}(hs:step P (lone (b.atR a (.code c::k)) cs w) = .next (lone (b.atR a k1) cs w))(hc:(lone (b.atR a (.code c::k)) cs w).fenced P (FR ρ))
  (h:∃e a' w',Q e a' w'/\ArrivesIn (Machine.fenced P (FR ρ)) P (lone (b.atR a k1) cs w) b k cs e a' w'):∃e a' w',Q e a' w'/\ArrivesIn (Machine.fenced P (FR ρ)) P (lone (b.atR a (.code c::k)) cs w) b k cs e a' w':=
 let⟨e,a',w',q,r⟩:=h;⟨e,a',w',q,.of_steps (.one hc hs) r⟩
theorem Am{c:Operand}{x y:Code}(hc:a.eval c = .bool true)(h:mQ ρ P x Q a w):mQ ρ P (.cond c x y) Q a w:=
 λb k cs hro hx=>qj (stepR_cond hc) (fenced_calm (n:=0) trivial (mP _ _) rfl) (h b k cs hro hx)
theorem yS{c:Operand}{x y:Code}(hc:a.eval c = .bool false)(h:mQ ρ P y Q a w):mQ ρ P (.cond c x y) Q a w:=
 λb k cs hro hx=>qj (stepR_cond hc) (fenced_calm (n:=0) trivial (mP _ _) rfl) (h b k cs hro hx)
theorem IA{x y:Code}(h:mQ ρ P x (Exit.then (mQ ρ P y Q) Q) a w):mQ ρ P (.seq x y) Q a w:=by
 intro b k cs hro hx
 refine qj stepR_seq (fenced_calm (n:=0) trivial (mP _ _) rfl) ?_
 obtain⟨e,a1,w1,hq,r⟩:=h b (.code y::k) cs hro hx
 by_cases he:e = .normal
 ·subst he
  obtain⟨e2,a2,w2,hq2,r2⟩:=hq b k cs hro hx
  exact⟨e2,a2,w2,hq2,.of_steps r r2⟩
 ·refine⟨e,a1,w1,?_,.pass (x:=.code y) rfl (λ_ _=>.inl he) r⟩
  cases e<;>first |exact absurd rfl he |exact hq
theorem LM{id:Nat}{c:Code}(h:mQ ρ P c (Exit.inBlock id Q) a w):mQ ρ P (.block id c) Q a w:=by
 intro b k cs hro hx
 refine qj stepR_block (fenced_calm (n:=0) trivial (mP _ _) rfl) ?_
 obtain⟨e,a1,w1,hq,r⟩:=h b (.inBlock id::k) cs hro hx
 cases e with
 |normal=>exact⟨.normal,a1,w1,hq,StepsIn.trans r (.one (fenced_calm (n:=0) trivial (mP _ _) rfl) stepR_inBlock)⟩
 |exit i=>
  by_cases hid:i=id
  ·subst hid
   simp[Exit.inBlock]at hq
   exact⟨.normal,a1,w1,hq,r.1 k (by simp[exitTo])⟩
  ·simp[Exit.inBlock,hid]at hq
   have e1:exitTo i (.inBlock id::k)=exitTo i k:=by
    grind[exitTo]
   exact⟨.exit i,a1,w1,hq,λk' hk=>r.1 k' (by simp_all),λh1 h2=>r.2 h1 (by simp_all)⟩
 |goto l=>
  have e1:gotoIn l (.inBlock id::k)=gotoIn l k:=by simp[gotoIn]
  exact⟨.goto l,a1,w1,hq,λk' hk=>r.1 k' (by simp_all),λh1 h2=>r.2 h1 (by simp_all)⟩
 |ret=>exact⟨_,a1,w1,hq,r⟩
 |panic ch=>exact⟨_,a1,w1,hq,r⟩
 |outgrown=>exact⟨_,a1,w1,hq,r⟩
theorem Ru{c:Code}{S:Type}(J:S->Act->World->Prop)(μ:S->Nat)
  (round:∀s a w,J s a w->mQ ρ P c (Exit.then (λa' w'=>∃s',μ s' < μ s/\J s' a' w') Q) a w):∀s a w,J s a w->mQ ρ P (.loop c) Q a w:=by
 intro s a w hJ b k cs hro hx
 refine qj stepR_loop (fenced_calm (n:=0) trivial (mP _ _) rfl) ?_
 suffices key:∀(j:Nat) s a w,μ s=j->J s a w->∃e a' w',Q e a' w'/\ArrivesIn (Machine.fenced P (FR ρ)) P (lone (b.atR a (.code c :: .inLoop c::k)) cs w) b k cs e a' w' from key _ s a w rfl hJ
 intro j
 induction j using Nat.strongRecOn with
 |_ j ih=>
  intro s a w hn hI
  obtain⟨e,a1,w1,hq,r⟩:=round s a w hI b (.inLoop c::k) cs hro hx
  by_cases he:e = .normal
  ·subst he
   obtain⟨s',hlt,hJ'⟩:=hq
   obtain⟨e2,a2,w2,hq2,r2⟩:=ih (μ s') (hn ▸ hlt) s' a1 w1 rfl hJ'
   exact⟨e2,a2,w2,hq2,.of_steps (StepsIn.trans r (.one (fenced_calm (n:=0) trivial (mP _ _) rfl) stepR_inLoop)) r2⟩
  ·refine⟨e,a1,w1,?_,.pass (x:=.inLoop c) rfl (λ_ _=>.inl he) r⟩
   cases e<;>first |exact absurd rfl he |exact hq
end
theorem UO(acc:List Nat):∀(l:List Edge) (s j:Nat),(l.foldl (λs e=>if Region.binds .any e then s ||| 2 ^ e.on ||| acc.getD e.on 0 else s) s).testBit j=true ->
  s.testBit j=true\/∃e∈l,Region.binds .any e=true/\(e.on=j\/(acc.getD e.on 0).testBit j=true):=by
 intro l
 induction l with
 |nil=>simp
 |cons e l ih=>
  grind
theorem Y2:∀(l:List Oper) (acc:List Nat),∃r,wS l acc=acc++r/\r.length=l.length:=by
 intro l
 induction l with
 |nil=>intro acc;exact⟨[],by simp[wS],rfl⟩
 |cons o l ih=>
  intro acc
  obtain⟨r,h1,h2⟩:=ih (acc++[o.after.toList.foldl (λs e=>if Region.binds .any e then s ||| 2 ^ e.on ||| acc.getD e.on 0 else s) 0])
  grind[wS]
theorem vz:∀(l:List Oper) (acc:List Nat),pR l acc.length=true->∀(k:Nat) o,l[k]? = some o->∀j,((wS l acc).getD (acc.length+k) 0).testBit j=true ->
  ∃e∈o.after.toList,Region.binds .any e=true/\e.on<acc.length+k/\(e.on=j\/((wS l acc).getD e.on 0).testBit j=true):=by
 intro l
 induction l with
 |nil=>simp
 |cons o l ih=>
  intro acc he k o' hk j hj
  simp only[pR,Bool.and_eq_true]at he
  obtain⟨he1,he2⟩:=he
  simp only[wS]at hj ⊢
  generalize hm:o.after.toList.foldl (λs e=>if Region.binds .any e then s ||| 2 ^ e.on ||| acc.getD e.on 0 else s) 0=m at hj ⊢
  cases k with
  |zero=>
   obtain⟨r,h1,_⟩:=Y2 l (acc++[m])
   rw[h1]at hj ⊢
   have:((acc++[m])++r).getD (acc.length+0) 0=m:=by simp
   rw[this,<-hm]at hj
   rcases UO acc _ _ j hj with h |⟨e,e1,e2,e3⟩
   ·simp at h
   ·have hlt:e.on<acc.length:=by
     have:=List.all_eq_true.1 he1 e e1
     simp_all
    grind
  |succ k=>
   have:=ih (acc++[m]) (by simp_all) k o' hk j (by grind)
   grind
theorem z6o{l:List Oper}{n:Nat}(h:pR l n=true){k:Nat}{o:Oper}(hk:l[k]? = some o){e:Edge}(he:e∈o.after.toList)(hb:Region.binds .any e=true):e.on<n+k:=by
 induction l generalizing n k with
 |nil=>simp at hk
 |cons x l ih=>
  simp only[pR,Bool.and_eq_true]at h
  cases k with
  |zero=>
   simp at hk;subst hk
   have:=List.all_eq_true.1 h.1 e he
   simp_all
  |succ k=>grind
def Closed(ops:Array Oper)(X:Nat->Bool):Prop:=∀(i:Nat) o,ops.toList[i]? = some o->X i=true->∀e∈o.after.toList,Region.binds .any e=true->X e.on=true
theorem Ap{ops:Array Oper}{X:Nat->Bool}(hc:Closed ops X)(he:pR ops.toList 0=true):∀(n i:Nat),i<=n->∀o,ops.toList[i]? = some o->(∀e∈o.after.toList,Region.binds .any e=true->X e.on=true)->∀j,((wS ops.toList []).getD i 0).testBit j=true->X j=true:=by
 intro n
 induction n with
 |zero=>
  intro i hi o ho hr j hj
  obtain⟨e,_,_,h3,_⟩:=vz ops.toList [] (by simpa using he) i o ho j (by simpa using hj)
  simp_all
 |succ n ih=>
  intro i hi o ho hr j hj
  obtain⟨e,h1,h2,h3,h4⟩:=vz ops.toList [] (by simpa using he) i o ho j (by simpa using hj)
  simp at h3
  have hX:=hr e h1 h2
  rcases h4 with h |h
  ·simp_all
  ·have hlt:e.on<ops.toList.length:=by
    grind
   exact ih e.on (by omega) ops.toList[e.on] (by simp) (hc e.on _ (by simp) hX) j h
theorem z6p{ops:Array Oper}(he:pR ops.toList 0=true):∀(n i:Nat),i<=n->∀o,ops.toList[i]? = some o->∀j,((wS ops.toList []).getD i 0).testBit j=true->j<i:=by
 intro n
 induction n with
 |zero=>
  intro i hi o ho j hj
  obtain⟨e,_,_,h3,_⟩:=vz ops.toList [] (by simpa using he) i o ho j (by simpa using hj)
  simp_all
 |succ n ih=>
  intro i hi o ho j hj
  obtain⟨e,h1,h2,h3,h4⟩:=vz ops.toList [] (by simpa using he) i o ho j (by simpa using hj)
  grind
def acc{S L C:Type}(wrt:S->L->Bool)(val:S->L->C)(X:Nat->Bool):(L->C)->Nat->List S->L->C
 |f,_,[]=>f
 |f,k,s::r=>acc wrt val X (λt=>if X k&&wrt s t then val s t else f t) (k+1) r
section
variable {S L C : Type} {wrt : S → L → Bool} {val : S → L → C}
theorem xq(X:Nat->Bool):∀(l r:List S) (f:L->C) (k:Nat),acc wrt val X f k (l++r)=acc wrt val X (acc wrt val X f k l) (k+l.length) r:=by
 intro l
 induction l with
 |nil=>grind[acc]
 |cons s l ih=>intro r f k;simp[acc,ih];congr 1;omega
theorem kF{X:Nat->Bool}{t:L}:∀(l:List S) (f:L->C) (k:Nat),(∀(i:Nat) s,l[i]? = some s->wrt s t=true->X (k+i)=false)->acc wrt val X f k l t=f t:=by
 intro l
 induction l with
 |nil=>intro f k _;rfl
 |cons s l ih=>
  intro f k h
  simp only[acc]
  rw[ih _ _ λi s' h1 h2=>by have:=h (i+1) s' (by simpa using h1) h2;grind]
  split<;>try rfl
  rename_i hc
  simp at hc
  have:=h 0 s (by simp) hc.2
  simp_all
theorem xu{X Y:Nat->Bool}{t:L}:∀(l:List S) (f g:L->C) (k:Nat),f t=g t->(∀(i:Nat) s,l[i]? = some s->wrt s t=true->X (k+i)=Y (k+i))->acc wrt val X f k l t=acc wrt val Y g k l t:=by
 intro l
 induction l with
 |nil=>intro f g k h _;exact h
 |cons s l ih=>
  intro f g k hfg h
  refine ih _ _ _ ?_ λi s' h1 h2=>by have:=h (i+1) s' (by simpa using h1) h2;grind
  by_cases hw:wrt s t=true
  ·have:=h 0 s (by simp) hw
   simp_all
  simp_all
theorem Aq{X:Nat->Bool}{t:L}:∀(l:List S) (f:L->C) (k:Nat),acc wrt val X f k l t=f t\/∃i s,l[i]? = some s/\X (k+i)=true/\wrt s t=true/\acc wrt val X f k l t=val s t:=by
 intro l
 induction l with
 |nil=>intro f k;exact .inl rfl
 |cons s l ih=>
  intro f k
  simp only[acc]
  rcases ih (λt=>if X k&&wrt s t then val s t else f t) (k+1)with h |⟨i,s',h1,h2,h3,h4⟩
  ·rw[h]
   split
   ·rename_i hc
    simp at hc
    exact .inr ⟨0,s,by simp,by simpa using hc.1,hc.2,rfl⟩
   simp
  ·exact .inr ⟨i+1,s',by simpa using h1,by grind,h3,h4⟩
theorem z3f{X:Nat->Bool}{f:L->C}{l:List S}{i:Nat}{t:L}(h:∀(k:Nat) s,l[k]? = some s->wrt s t=true->X k=decide (k<i)):acc wrt val X f 0 l t=acc wrt val (λ_=>true) f 0 (l.take i) t:=by
 have hl:l=l.take i++l.drop i:=(List.take_append_drop i l).symm
 rw[show acc wrt val X f 0 l t=acc wrt val X f 0 (l.take i++l.drop i) t by rw[<-hl],xq]
 rw[kF (X:=X) (t:=t)]
 ·refine xu _ _ _ _ rfl λk s h1 h2=>?_
  grind
 ·intro k s h1 h2
  rw[List.getElem?_drop]at h1
  by_cases hi:i<=l.length
  ·rw[List.length_take,Nat.min_eq_left hi,Nat.zero_add,h _ s h1 h2];simp
  grind
theorem Ef{X:Nat->Bool}{f:L->C}{l:List S}{i:Nat}{s:S}(hs:l[i]? = some s)(hX:X i=false)(t:L)(h:wrt s t=true->∀(k:Nat) s',l[k]? = some s'->wrt s' t=true->i<k->X k=false) :
  acc wrt val (λk=>X k || k==i) f 0 l t=if wrt s t then val s t else acc wrt val X f 0 l t:=by
 have hl:l=l.take i++s::l.drop (i+1):=by
  grind[List.getElem_cons_drop,List.take_append_drop]
 have hlt:=(List.getElem?_eq_some_iff.1 hs).1
 have htl:(l.take i).length=i:=by simp;omega
 rw[show acc wrt val (λk=>X k || k==i) f 0 l t=acc wrt val (λk=>X k || k==i) f 0 (l.take i++s::l.drop (i+1)) t by rw[<-hl],show acc wrt val X f 0 l t=acc wrt val X f 0 (l.take i++s::l.drop (i+1)) t by rw[<-hl]]
 rw[xq,xq,htl,Nat.zero_add]
 simp only[acc,hX,beq_self_eq_true,Bool.or_true,Bool.true_and,Bool.false_and,if_false]
 by_cases hw:wrt s t=true
 ·rw[kF]<;>grind
 ·rw[if_neg hw]
  refine xu _ _ _ _ ?_ λk s' h1 h2=>by
   grind
  rw[if_neg hw]
  refine xu _ _ _ _ rfl λk s' h1 h2=>?_
  have hk:k<i:=by grind
  have:(0+k==i)=false:=by simp;omega
  rw[this];simp
end
structure Stp where
 x:Rec
 W:List Nat
 nw:List Nat
 Δ:Heap
def UQ(ops:Array Oper)(env:Env)(o:Oper):Prop:=o.guard=none\/∃j want d,o.guard=some (j,want)/\rJ ops j=some d/\env.get d = .b want
def z3g(ops:Array Oper)(env:Env)(o:Oper):Prop:=∃j want d,o.guard=some (j,want)/\rJ ops j=some d/\(env.get d = .b (!want)\/∃vs,env.get d = .data (.val (.tuple vs)))
theorem LP(x:Rec):(mJ x).o=x.o:=by grind[mJ]
theorem LQ(x:Rec):(mJ x).K=x.K:=by grind[mJ]
theorem LU(x:Rec):(mJ x).r=x.r:=by grind[mJ]
theorem UR(x:Rec):(mJ x).run=x.run:=by grind[mJ]
theorem OJ(T:Tbl)(x:Rec):(mJ x).ws T=x.ws T:=by
 grind[mJ,Rec.ws,wids]
theorem OL(T:Tbl)(x:Rec):(mJ x).nw T=x.nw T:=by
 grind[mJ,Rec.nw,fV]
theorem Ar:∀l,ja [] l = []
 | []=>rfl
 |t::r=>by simp[ja,Env.get,AV.ids,Ar r]
theorem OM{x:Rec}(h:KW x.o=true):(mJ x).rd = []/\(mJ x).env = []:=by
 unfold KW at h
 unfold mJ
 split at h
 ·grind[Rec.rd,fP,Ar]
 ·grind[Rec.rd,fP,Ar]
 ·simp at h
theorem IB{x:Rec}(h:KW x.o=false):mJ x=x:=by
 grind[KW,mJ]
def C9(l:List (Nat×Nat))(k:Nat)(x:Rec):Rec:=match KX k l with |true=>mJ x |false=>x
theorem z3h{l:List (Nat×Nat)}{k:Nat}{x:Rec}:(C9 l k x).o=x.o:=by grind[C9,LP]
theorem zc6{l:List (Nat×Nat)}{k:Nat}{x:Rec}:(C9 l k x).K=x.K:=by grind[C9,LQ]
theorem zc7{l:List (Nat×Nat)}{k:Nat}{x:Rec}:(C9 l k x).r=x.r:=by grind[C9,LU]
theorem LV{T:Tbl}{l:List (Nat×Nat)}{k:Nat}{x:Rec}:(C9 l k x).ws T=x.ws T:=by grind[C9,OJ]
theorem z6q{T:Tbl}{l:List (Nat×Nat)}{k:Nat}{x:Rec}:(C9 l k x).nw T=x.nw T:=by grind[C9,OL]
theorem UT{l:List (Nat×Nat)}{k:Nat}{x:Rec}(h:KX k l=false):(C9 l k x).rd=x.rd:=by grind[C9]
theorem IC{l:List (Nat×Nat)}:∀{tr:List Rec} {k0 k:Nat} {x:Rec},tr[k]? = some x->(rM l k0 tr)[k]? = some (C9 l (k0+k) x)
 | [],k0,k,x,h=>by simp at h
 |y::r,k0,0,x,h=>by
  simp at h;subst h
  rfl
 |y::r,k0,k+1,x,h=>by
  have:=IC (l:=l) (tr:=r) (k0:=k0+1) (k:=k) (x:=x) (by simpa using h)
  grind[rM]
theorem IE{l:List (Nat×Nat)}:∀{tr:List Rec} {k0:Nat},(rM l k0 tr).length=tr.length
 | [],_=>rfl
 |y::r,k0=>by simp[rM,IE]
theorem Au:∀{tr:List Rec} {k0:Nat},rM [] k0 tr=tr
 | [],_=>rfl
 |y::r,k0=>by simp[rM,KX,Au]
theorem FW{k:Nat}:∀{l:List (Nat×Nat)},KX k l=true->∃q∈l,q.1=k
 | [],h=>by simp[KX]at h
 |q::r,h=>by
  simp[KX]at h
  rcases h with h |h
  ·simp_all
  ·obtain⟨q',h1,h2⟩:=FW h;grind
theorem Aw{T:Tbl}{K:Heap}{tr:List Rec}:∀{l:List (Nat×Nat)},yP T K tr l->∀q∈l,yz T K tr q
 | [],_,q,h=>by simp at h
 |a::r,hs,q,h=>by
  rcases List.mem_cons.1 h with rfl |h
  ·exact hs.1
  ·exact Aw hs.2 q h
theorem IG{T:Tbl}{env:Env}{o:Oper}{id:Nat}{c:AV}:∀{tr:List Rec} {k:Nat} {x:Rec},cellW T env o id c tr->tr[k]? = some x->nU (x.ws T) id=true->cellP T env o id c (x.K.get id)
 | [],k,x,_,h,_=>by simp at h
 |y::r,0,x,h,hk,hw=>by
  have:=h.1;simp_all
 |y::r,k+1,x,h,hk,hw=>IG h.2 (by simpa using hk) hw
theorem vC{T:Tbl}{env:Env}{o:Oper}{id:Nat}{c:AV}{b:Option Block}(h:cellP T env o id c b):∃b',b=some b'/\readA T env o [(id,b')] c:=by
 unfold cellP at h
 grind
theorem Az{id j:Nat}{b:Block}:Heap.get [(id,b)] j=if id=j then some b else none:=by rw[Heap.get_cons];rfl
theorem UU{T:Tbl}{t:TypeId}{x:AV}{id:Nat}{b:Block}{K:Heap}{P:Next}(hP:∀v K K',P v K->P v K')(h:jM T t x [(id,b)] P)(hK:K.get id=some b):jM T t x K P:=by
 cases x with
 |ptr i off=>
  simp only[jM,Az]at h ⊢
  by_cases e:id=i
  ·subst e
   rw[hK]
   simp only[if_true]at h
   split at h
   ·rename_i hb
    simp only[Option.some.injEq]at hb;subst hb
    split at h
    ·split at h
     ·exact hP _ _ _ h
     ·exact h.elim
    ·split at h
     ·exact hP _ _ _ h
     ·exact h.elim
    ·exact h.elim
   ·exact h.elim
  ·rw[if_neg e]at h;exact h.elim
 |eptr i vr sz' k off=>
  simp only[jM,Az]at h ⊢
  by_cases e:id=i
  ·subst e
   rw[hK]
   simp only[if_true]at h
   split at h
   ·rename_i hb
    simp only[Option.some.injEq]at hb;subst hb
    split at h
    ·split at h
     ·obtain⟨h1,e,h2,h3⟩:=h
      exact⟨h1,e,h2,hP _ _ _ h3⟩
     ·obtain⟨h1,h1',e,h2,h3⟩:=h
      exact⟨h1,h1',e,h2,hP _ _ _ h3⟩
    ·obtain⟨h1,e,h2,c,h3,h4⟩:=h
     exact⟨h1,e,h2,c,h3,hP _ _ _ h4⟩
    ·exact h.elim
   ·exact h.elim
  ·rw[if_neg e]at h;exact h.elim
 |data d=>
  cases d with
  |ptr cs=>
   simp only[jM]at h ⊢
   split at h
   ·exact⟨h.1,hP _ _ _ h.2⟩
   ·split at h
    ·exact hP _ _ _ h
    ·exact h.elim
   ·exact h.elim
  |_=>exact h.elim
 |_=>exact h.elim
theorem Dn{T:Tbl}{t:TypeId}{x n:AV}{id:Nat}{b:Block}{K:Heap}{P:Next}(hP:∀v K K',P v K->P v K')(h:bn T t x n [(id,b)] P)(hK:K.get id=some b):bn T t x n K P:=by
 unfold bn at h ⊢
 split at h
 ·split at h
  ·obtain⟨h1,c,h2,h3⟩:=h;exact⟨h1,c,h2,hP _ _ _ h3⟩
  ·obtain⟨h1,c,h2,h3⟩:=h;exact⟨h1,c,h2,hP _ _ _ h3⟩
  ·rename_i i vr sz off len
   rw[Az]at h
   by_cases e:id=i
   ·subst e
    rw[hK]
    simp only[if_true]at h
    split at h
    ·rename_i hb
     simp only[Option.some.injEq]at hb;subst hb
     exact⟨h.1,h.2.1,hP _ _ _ h.2.2⟩
    ·exact h.elim
   ·rw[if_neg e]at h;exact h.elim
  ·exact h.elim
 ·split at h
  ·exact⟨h.1,h.2.1,hP _ _ _ h.2.2⟩
  ·exact⟨h.1,h.2.1,hP _ _ _ h.2.2⟩
  ·split at h
   ·exact⟨h.1,hP _ _ _ h.2⟩
   ·exact⟨h.1,hP _ _ _ h.2⟩
   ·exact h.elim
  ·exact h.elim
 ·exact h.elim
theorem UV{T:Tbl}{env:Env}{o:Oper}{id:Nat}{b:Block}{K:Heap}{c:AV}(h:readA T env o [(id,b)] c)(hK:K.get id=some b):readA T env o K c:=by
 grind[readA,UU,Dn]
theorem II{T:Tbl}{t:TypeId}{x:AV}{K:Heap}{P:Next}(h:jM T t x K P):∃v,P v K/\∀P':Next,P' v K↔jM T t x K P':=by
 unfold jM at h
 split at h
 ·split at h
  ·rename_i e0
   split at h
   ·rename_i e1
    split at h
    ·rename_i e2;exact⟨_,h,λP'=>by simp only[jM,e0,e1,e2]⟩
    ·exact h.elim
   ·rename_i e1
    split at h
    ·rename_i e2;exact⟨_,h,λP'=>by simp only[jM,e0,e1,e2]⟩
    ·exact h.elim
   ·exact h.elim
  ·exact h.elim
 ·split at h
  ·rename_i e1;exact⟨_,h.2,λP'=>by simp only[jM,e1];exact⟨λq=>⟨h.1,q⟩,λq=>q.2⟩⟩
  ·rename_i e1
   split at h
   ·exact⟨_,h,λP'=>by simp only[jM,e1]⟩
   ·exact h.elim
  ·exact h.elim
 ·split at h
  ·rename_i e0
   split at h
   ·rename_i e1
    split at h
    ·rename_i e2
     obtain⟨h1,e,h2,h3⟩:=h
     exact⟨_,h3,λP'=>by simp only[jM,e0,e1,e2];exact⟨λq=>⟨h1,e,h2,q⟩,λ⟨_,e',q1,q2⟩=>by rw[h2]at q1;simp only[Option.some.injEq]at q1;subst q1;exact q2⟩⟩
    ·rename_i e2
     obtain⟨h1,h1',e,h2,h3⟩:=h
     exact⟨_,h3,λP'=>by simp only[jM,e0,e1,e2];exact⟨λq=>⟨h1,h1',e,h2,q⟩,λ⟨_,_,e',q1,q2⟩=>by rw[h2]at q1;simp only[Option.some.injEq]at q1;subst q1;exact q2⟩⟩
   ·rename_i e1
    obtain⟨h1,e,h2,c,h3,h4⟩:=h
    exact⟨_,h4,λP'=>by
     simp only[jM,e0,e1]
     exact⟨λq=>⟨h1,e,h2,c,h3,q⟩,λ⟨_,e',q1,c',q2,q3⟩=>by
      rw[h2]at q1;simp only[Option.some.injEq]at q1;subst q1
      rw[h3]at q2;simp only[Option.some.injEq]at q2;subst q2;exact q3⟩⟩
   ·exact h.elim
  ·exact h.elim
 ·exact h.elim
theorem su{T:Tbl}{t:TypeId}{x n:AV}{K:Heap}{P:Next}(h:bn T t x n K P):∃v,P v K/\∀P':Next,P' v K↔bn T t x n K P':=by
 unfold bn at h
 split at h
 ·rename_i e0
  split at h
  ·obtain⟨h1,c,h2,h3⟩:=h
   exact⟨_,h3,λP'=>by simp only[bn,e0];exact⟨λq=>⟨h1,c,h2,q⟩,λ⟨_,c',q1,q2⟩=>by have:=q1.2;rw[h2.2]at this;simp only[Option.some.injEq]at this;subst this;exact q2⟩⟩
  ·obtain⟨h1,c,h2,h3⟩:=h
   exact⟨_,h3,λP'=>by simp only[bn,e0];exact⟨λq=>⟨h1,c,h2,q⟩,λ⟨_,c',q1,q2⟩=>by have:=q1.2;rw[h2.2]at this;simp only[Option.some.injEq]at this;subst this;exact q2⟩⟩
  ·split at h
   ·rename_i e1
    exact⟨_,h.2.2,λP'=>by simp only[bn,e0,e1];exact⟨λq=>⟨h.1,h.2.1,q⟩,λq=>q.2.2⟩⟩
   ·exact h.elim
  ·exact h.elim
 ·rename_i e0
  split at h
  ·exact⟨_,h.2.2,λP'=>by simp only[bn,e0];exact⟨λq=>⟨h.1,h.2.1,q⟩,λq=>q.2.2⟩⟩
  ·exact⟨_,h.2.2,λP'=>by simp only[bn,e0];exact⟨λq=>⟨h.1,h.2.1,q⟩,λq=>q.2.2⟩⟩
  ·split at h
   ·rename_i e1;exact⟨_,h.2,λP'=>by simp only[bn,e0,e1];exact⟨λq=>⟨h.1,q⟩,λq=>q.2⟩⟩
   ·rename_i e1;exact⟨_,h.2,λP'=>by simp only[bn,e0,e1];exact⟨λq=>⟨h.1,q⟩,λq=>q.2⟩⟩
   ·exact h.elim
  ·exact h.elim
 ·exact h.elim
theorem UW{T:Tbl}{env:Env}{o:Oper}{K:Heap}{c r:AV}(h1:readA T env o K c)(h2:readA T env o K r):r=c:=by
 unfold readA at h1 h2
 split at h1<;>grind[II,su]
def z6r(T:Tbl)(env:Env)(K:Heap)(o:Oper)(v:AV):Prop:=KW o=true->readA T env o K v
structure Dp(P:Program)(T:Tbl)(ops:Array Oper)(s:Stp):Prop where
 heap:s.x.K=uU s.x.K0 s.Δ
 soft:s.x.run=true->z6r T s.x.env s.x.K0 s.x.o s.x.r
 run:(s.x.run=true/\z6l P T s.x.o s.x.env s.x.K0 false s.x.r s.W s.nw s.Δ/\UQ ops s.x.env s.x.o) \/
  (s.x.run=false/\s.x.r = .data (.val undef)/\s.W = []/\s.Δ = []/\z3g ops s.x.env s.x.o)
structure zc8(T:Tbl)(s:Stp):Prop where
 heap:s.x.K=uU s.x.K0 s.Δ
 dom:∀i b,s.Δ.get i=some b->i∈s.x.ws T
structure Y3(P:Program)(T:Tbl)(ops:Array Oper)(p:AV)(s:Stp):Prop where
 heap:s.x.K=uU s.x.K0 s.Δ
 run:s.x.run=true
 res:z6l P T s.x.o s.x.env s.x.K0 true p s.W s.nw s.Δ
 guard:UQ ops s.x.env s.x.o
structure IJ(s:Stp):Prop where
 heap:s.x.K=uU s.x.K0 s.Δ
 run:s.x.run=false
 eff:s.Δ = []
theorem Dp.weak{P:Program}{T:Tbl}{ops:Array Oper}{s:Stp}(h:Dp P T ops s):zc8 T s:=⟨h.heap,λi b hb=>by
 rcases h.run with⟨r1,r2,_⟩ |⟨_,_,_,r4,_⟩
 ·have:=r2.wids i ((r2.dom i).2 ⟨b,hb⟩)
  simp[Rec.ws,r1]
  rw[h.heap];exact this
 grind[Heap.get]⟩
theorem Y3.weak{P:Program}{T:Tbl}{ops:Array Oper}{p:AV}{s:Stp}(h:Y3 P T ops p s):zc8 T s:=⟨h.heap,λi b hb=>by
 have:=h.res.wids i ((h.res.dom i).2 ⟨b,hb⟩)
 simp[Rec.ws,h.run]
 rw[h.heap];exact this⟩
theorem IJ.weak{T:Tbl}{s:Stp}(h:IJ s):zc8 T s:=⟨h.heap,λi b hb=>by rw[h.eff]at hb;simp[Heap.get]at hb⟩
theorem OO{T:Tbl}{A:FuncId->List D->lY->Prop}{B:FuncId->List AV->Heap->gG->Heap->Prop}{env:Env}{K:Heap}{o:Oper}{next pan:Next}(h:vOp T A B env K o next pan):vOp T A B env K o (λv K'=>next v K'/\z6r T env K o v) pan:=by
 by_cases hr:KW o=true
 ·unfold KW at hr
  split at hr
  ·rename_i t a e
   unfold vOp at h ⊢
   simp[e]at h ⊢
   obtain⟨v,q1,q2⟩:=II h
   refine(q2 _).1 ⟨q1,λ_=>?_⟩
   simp[readA]
   grind
  ·rename_i t x i e
   unfold vOp at h ⊢
   simp[e]at h ⊢
   obtain⟨v,q1,q2⟩:=su h
   refine(q2 _).1 ⟨q1,λ_=>?_⟩
   simp[readA]
   grind
  ·simp at hr
 ·have e:(λv K'=>next v K'/\z6r T env K o v)=next:=by
   funext v K'
   exact propext ⟨And.left,λh=>⟨h,λq=>absurd q hr⟩⟩
  rw[e];exact h
def Chain(env:Env)(K:Heap):List Stp->Env->Heap->Prop
 | [],env',K'=>(∀j,env'.get j=env.get j)/\(∀i,K'.get i=K.get i)
 |s::r,env',K'=>(∀j,s.x.env.get j=env.get j)/\(∀i,s.x.K0.get i=K.get i)/\Chain (s.x.env.set s.x.o.dst s.x.r) s.x.K r env' K'
section
variable {P : Program} {T : Tbl} (hT : iQ P T)
include hT
theorem LW{ops:Array Oper}{kp:Nat}{Q:List Rec->Prop}:∀(l:List Oper) (ms:List Nat) (tr:List Rec) (env:Env) (K:Heap),kT T (PCall P) (ak P) kp Q l ms tr env K ->
  ∃(S:List Stp) (env':Env) (K':Heap),S.map (·.x.o)=l/\Chain env K S env' K'/\(∀(i:Nat) s,S[i]? = some s->(∃m,ms[i]? = some m/\m.testBit kp=true/\IJ s)\/Dp P T ops s)/\Q (tr.reverse++S.map (·.x)):=by
 intro l
 induction l with
 |nil=>intro ms tr env K h;simp[kT]at h;exact⟨[],env,K,rfl,⟨λ_=>rfl,λ_=>rfl⟩,by simp,by simpa using h⟩
 |cons o rest ih=>
  intro ms tr env K h
  cases ms with
  |nil=>simp[kT]at h
  |cons m ms=>
   simp[kT]at h
   split at h
   ·rename_i hm
    obtain⟨S,env',K',h1,h2,h3,h4⟩:=ih _ _ _ _ h
    refine⟨⟨⟨o,env,.data (.val undef),K,K,false⟩,[],[],[]⟩::S,env',K',by simp[h1],⟨λ_=>rfl,λ_=>rfl,h2⟩,?_,by simpa using h4⟩
    intro i s hs
    cases i with
    |zero=>simp at hs;subst hs;exact .inl ⟨m,rfl,hm,rfl,rfl,rfl⟩
    |succ i=>simp_all
   ·split at h<;>try exact h.elim
    rename_i hg _
    obtain⟨pn,r,W,nw,Δ,hn,ok⟩:=Iy hT (OO h)
    cases pn with
    |false=>
     obtain⟨S,env',K',h1,h2,h3,h4⟩:=ih _ _ _ _ hn.1
     refine⟨⟨⟨o,env,r,K,uU K Δ,true⟩,W,nw,Δ⟩::S,env',K',by simp[h1],⟨λ_=>rfl,λ_=>rfl,h2⟩,?_,by simpa using h4⟩
     intro i s hs
     cases i with
     |zero=>simp at hs;subst hs;exact .inr ⟨rfl,λ_=>hn.2,.inl ⟨rfl,ok,.inl hg⟩⟩
     |succ i=>simp_all
    |true=>exact hn.elim
def OQ(P:Program)(T:Tbl)(ops:Array Oper)(off k:Nat)(p:AV)(S:List Stp):Prop:=
 (∃s,S[k]? = some s/\Y3 P T ops p s)/\∀(i:Nat) s,S[i]? = some s->i≠k->(∃m,(wS ops.toList [])[off+i]? = some m/\m.testBit (off+k)=true/\IJ s)\/Dp P T ops s
theorem LX{ops:Array Oper}{Q:List Rec->Env->Heap->Prop}{QP:Nat->AV->Heap->List Rec->Prop}:∀(l:List Oper) (tr:List Rec) (env:Env) (K:Heap),rO T (PCall P) (ak P) ops Q QP l tr env K ->
  ∃(S:List Stp) (env':Env) (K':Heap),S.map (·.x.o)=l/\Chain env K S env' K' /\
   (((∀s∈S,Dp P T ops s)/\Q (tr.reverse++S.map (·.x)) env' K')\/∃k p s,S[k]? = some s/\OQ P T ops tr.length k p S/\QP (tr.length+k) p s.x.K (tr.reverse++S.map (·.x))):=by
 intro l
 induction l with
 |nil=>intro tr env K h;exact⟨[],env,K,rfl,⟨λ_=>rfl,λ_=>rfl⟩,.inl ⟨by simp,by grind[rO]⟩⟩
 |cons o rest ih=>
  intro tr env K h
  have more:∀(s:Stp) (env2:Env),s.x.o=o->Dp P T ops s->(∀j,s.x.env.get j=env.get j)->(∀i,s.x.K0.get i=K.get i)->rO T (PCall P) (ak P) ops Q QP rest (s.x::tr) (s.x.env.set s.x.o.dst s.x.r) s.x.K ->
    ∃(S:List Stp) (env':Env) (K':Heap),S.map (·.x.o)=o::rest/\Chain env K S env' K' /\
     (((∀s∈S,Dp P T ops s)/\Q (tr.reverse++S.map (·.x)) env' K')\/∃k p s,S[k]? = some s/\OQ P T ops tr.length k p S/\QP (tr.length+k) p s.x.K (tr.reverse++S.map (·.x))):=by
   intro s _ ho hs he hk h
   obtain⟨S,env',K',h1,h2,h3⟩:=ih _ _ _ h
   refine⟨s::S,env',K',by simp[h1,ho],⟨he,hk,h2⟩,?_⟩
   rcases h3 with⟨h3,h4⟩ |⟨k,p,s',h3,⟨h4,h5⟩,h6⟩
   ·simp_all
   ·refine .inr ⟨k+1,p,s',by simpa using h3,⟨by simpa using h4,?_⟩,?_⟩
    ·intro i s2 hi hne
     cases i with
     |zero=>simp_all
     |succ i=>
      grind
    grind
  have key:∀(env2:Env),(∀j,env2.get j=env.get j)->UQ ops env2 o->∀pan:Next,(∀p K',pan p K'->kT T (PCall P) (ak P) tr.length (QP tr.length p K') rest ((wS ops.toList []).drop (tr.length+1)) (⟨o,env2,.data (.val undef),K,K',true⟩::tr) (env2.set o.dst (.data (.val undef))) K') ->
    vOp T (PCall P) (ak P) env2 K o (λv K'=>rO T (PCall P) (ak P) ops Q QP rest (⟨o,env2,v,K,K',true⟩::tr) (env2.set o.dst v) K') pan ->
    ∃(S:List Stp) (env':Env) (K':Heap),S.map (·.x.o)=o::rest/\Chain env K S env' K' /\
     (((∀s∈S,Dp P T ops s)/\Q (tr.reverse++S.map (·.x)) env' K')\/∃k p s,S[k]? = some s/\OQ P T ops tr.length k p S/\QP (tr.length+k) p s.x.K (tr.reverse++S.map (·.x))):=by
   intro env2 he hg pan hpan h
   obtain⟨pn,r,W,nw,Δ,hn,ok⟩:=Iy hT (OO h)
   cases pn with
   |false=>exact more ⟨⟨o,env2,r,K,uU K Δ,true⟩,W,nw,Δ⟩ env rfl ⟨rfl,λ_=>hn.2,.inl ⟨rfl,ok,hg⟩⟩ he (λ_=>rfl) hn.1
   |true=>
    obtain⟨S,env',K',h1,h2,h3,h4⟩:=LW hT (ops:=ops) _ _ _ _ _ (hpan _ _ hn)
    refine⟨⟨⟨o,env2,.data (.val undef),K,uU K Δ,true⟩,W,nw,Δ⟩::S,env',K',by simp[h1],⟨he,λ_=>rfl,h2⟩,.inr ⟨0,r,_,rfl,⟨⟨_,rfl,rfl,rfl,ok,hg⟩,?_⟩,by simpa using h4⟩⟩
    grind
  simp only[rO]at h
  split at h
  ·rename_i hg
   exact key env (λ_=>rfl) (.inl hg) _ (λ_ _ q=>q) h
  ·rename_i j want hg
   split at h<;>try exact h.elim
   rename_i d hd
   have skip:∀(env2:Env),(∀j,env2.get j=env.get j)->z3g ops env2 o->rO T (PCall P) (ak P) ops Q QP rest (⟨o,env2,.data (.val undef),K,K,false⟩::tr) (env2.set o.dst (.data (.val undef))) K ->
     ∃(S:List Stp) (env':Env) (K':Heap),S.map (·.x.o)=o::rest/\Chain env K S env' K' /\
      (((∀s∈S,Dp P T ops s)/\Q (tr.reverse++S.map (·.x)) env' K')\/∃k p s,S[k]? = some s/\OQ P T ops tr.length k p S/\QP (tr.length+k) p s.x.K (tr.reverse++S.map (·.x))):=by
    intro env2 he hg h
    exact more ⟨⟨o,env2,.data (.val undef),K,K,false⟩,[],[],[]⟩ env rfl ⟨rfl,λe=>(by cases e),.inr ⟨rfl,rfl,rfl,rfl,hg⟩⟩ he (λ_=>rfl) h
   split at h
   ·rename_i c hc
    by_cases hcw:c=want
    ·subst hcw
     simp at h
     exact key _ (fun j => by rw[Env.get_cons];split;·subst_vars;exact hc.symm
                              ·rfl) (.inr ⟨j,c,d,hg,hd,by rw[Env.get_cons,if_pos rfl]⟩) _ (λ_ _ q=>q) h
    ·have hne:(c==want)=false:=by simpa using hcw
     rw[hne]at h
     have hnw:(!want)=c:=by cases c<;>cases want<;>simp_all
     refine skip _ (λj=>?_) ⟨j,want,d,hg,hd,.inl (by rw[Env.get_cons,if_pos rfl])⟩ h
     rw[Env.get_cons];split
     ·subst_vars;exact hc.symm
     ·rfl
   ·rename_i vs hc
    exact skip env (λ_=>rfl) ⟨j,want,d,hg,hd,.inr ⟨vs,hc⟩⟩ h
   ·exact h.elim
end
structure StF[Lo](N:aS)(M:Mem)(n:Nat)(fe:Nat->AV)(fk:Nat->Option Block)(a:Act)(w:World):Prop where
 size:a.tmps.size=n
 big:n<=gq
 defers:yQ N M w (fe gq) a.defers
 env:∀j,aF N M w (fe j) (a.tmps.getD j undef)
 heap:∀id blk,fk id=some blk->eP N M w id blk
 mem:bT N M w
theorem St.toF[Lo]{N:aS}{M:Mem}{n:Nat}{env:Env}{K:Heap}{a:Act}{w:World}(s:St N M n env K a w):StF N M n env.get K.get a w:=⟨s.size,s.big,s.defers,s.env,s.heap,s.mem⟩
theorem StF.ofF[Lo]{N:aS}{M:Mem}{n:Nat}{env:Env}{K:Heap}{a:Act}{w:World}(s:StF N M n env.get K.get a w):St N M n env K a w:=⟨s.size,s.big,s.defers,s.env,s.heap,s.mem⟩
theorem StF.next[Lo]{N:aS}{M M':Mem}{n:Nat}{fe fe':Nat->AV}{fk fk':Nat->Option Block}{a:Act}{w w':World}{W nw:List Nat}{Δ:Heap}{r:AV}{v:Value}{dst:Option Nat}(s:StF N M n fe fk a w)
  (hs:Step M w M' w' W) (htr:∀id∈W,id ∉ nw->Tr M M' id) (hf:∀d∈nw,(∀t,(fe t).men d=false)/\∀id blk,fk id=some blk->blk.men d=false) (hr:aF N M' w' r v) (hδ:∀id blk,Δ.get id=some blk->eP N M' w' id blk) (hno:∀id,id∈W↔∃b,Δ.get id=some b)
  (hd:∀d,dst=some d->d<n) (he:∀t,fe' t=if dst=some t then r else fe t) (hk:∀id,fk' id=match Δ.get id with |some b=>some b |none=>fk id):StF N M' n fe' fk' (a.put dst v) w':=by
 have htr':∀id,(id∈nw->False)->Tr M M' id:=by
  intro id hx
  by_cases h:id∈W
  ·grind
  ·exact .inl (hs.mem id h)
 have hkp:=hs.keeps (N:=N)
 have hE:∀j id,(fe j).men id=true->Tr M M' id:=λj id hi=>htr' id λhn=>by simp_all
 refine⟨?_,s.big,?_,λj=>?_,λid blk hget=>?_,hs.memOk s.mem⟩
 ·cases dst<;>simp[Act.put,s.size]
 ·have:fe' gq=fe gq:=by
   rw[he];split
   ·rename_i e;have:=hd _ e;have:=s.big;omega
   ·rfl
  rw[this]
  have:=s.defers.keep hkp hs.shape (hE gq) (λb hb hR=>hs.block b hb λid _ ow o h1 h2=>hR o ⟨id,ow,h1,h2⟩) (λb o hb=>hs.R_old hb)
  cases dst<;>exact this
 ·have hold:aF N M' w' (fe j) (a.tmps.getD j undef):=(s.env j).keep hkp hs.shape (hE j)
  rw[he j]
  cases dst with
  |none=>exact hold
  |some d=>
   have hlt:d<a.tmps.size:=by rw[s.size];exact hd d rfl
   simp only[Act.put]
   rw[gm _ _ _ _ hlt]
   grind
 ·rw[hk id]at hget
  split at hget
  ·simp_all
  ·have hid:id ∉ W:=λh=>by simp_all
   refine(s.heap id blk hget).keep s.mem hs hid λid' hi=>htr' id' λhn=>?_
   grind
def wE(s:Stp)(t:Nat):Bool:=QY s.x.o.dst (some t)
def wK(T:Tbl)(s:Stp)(id:Nat):Bool:=nU (s.x.ws T) id
abbrev accE(X:Nat->Bool)(f:Nat->AV)(S:List Stp):Nat->AV:=acc wE (λs _=>s.x.r) X f 0 S
abbrev accK(T:Tbl)(X:Nat->Bool)(f:Nat->Option Block)(S:List Stp):Nat->Option Block:=acc (wK T) (λs id=>s.x.K.get id) X f 0 S
theorem FX{a b:List Nat}:meet a b=true↔∃x,x∈a/\x∈b:=by
 induction a with
 |nil=>simp[meet]
 |cons y r ih=>simp[meet,bf];grind
theorem AA{d e:Option Nat}:QY d e=true↔∃x,d=some x/\e=some x:=by
 cases d with
 |none=>simp[QY]
 |some a=>
  cases e with
  |none=>simp[QY]
  |some b=>
   simp only[QY,Option.some.injEq]
   exact⟨λh=>⟨a,rfl,(Nat.eq_of_beq_eq_true h).symm⟩,λ⟨x,h1,h2⟩=>by simp_all⟩
theorem IK{d:Option Nat}{l:List Nat}:YM d l=true↔∃x,d=some x/\x∈l:=by
 cases d<;>simp[YM,bf]
theorem AB{s:Stp}{t:Nat}:wE s t=true↔s.x.o.dst=some t:=by
 grind[wE,AA]
theorem UX(T:Tbl):∀(S:List Stp) (env:Env) (K:Heap) (env':Env) (K':Heap),Chain env K S env' K'->(∀s∈S,zc8 T s)->∀(fe:Nat->AV) (fk:Nat->Option Block) (k:Nat),(∀j,env.get j=fe j)->(∀i,K.get i=fk i) ->
  (∀(i:Nat) s,S[i]? = some s->(∀j,s.x.env.get j=acc wE (λs _=>s.x.r) (λ_=>true) fe k (S.take i) j)/\∀id,s.x.K0.get id=acc (wK T) (λs id=>s.x.K.get id) (λ_=>true) fk k (S.take i) id) /\
  (∀j,env'.get j=acc wE (λs _=>s.x.r) (λ_=>true) fe k S j)/\(∀id,K'.get id=acc (wK T) (λs id=>s.x.K.get id) (λ_=>true) fk k S id):=by
 intro S
 induction S with
 |nil=>intro env K env' K' h _ fe fk k h1 h2;exact⟨λi s h=>by simp at h,λj=>by rw[h.1 j,h1];rfl,λi=>by rw[h.2 i,h2];rfl⟩
 |cons s S ih=>
  intro env K env' K' h hs fe fk k h1 h2
  obtain⟨c1,c2,c3⟩:=h
  have hso:=hs s (by simp)
  have hE:∀j,(s.x.env.set s.x.o.dst s.x.r).get j=(λt=>if true&&wE s t then s.x.r else fe t) j:=by
   simp[AB]
   cases hd:s.x.o.dst with
   |none=>grind[Env.set]
   |some d=>
    grind[Env.set,Env.get_cons]
  have hK:∀i,s.x.K.get i=(λt=>if true&&wK T s t then s.x.K.get t else fk t) i:=by
   intro i
   simp only[Bool.true_and]
   split<;>try rfl
   rename_i hw
   rw[<-h2 i,<-c2 i,hso.heap,jf]
   split<;>try rfl
   rename_i b hb
   exfalso
   exact hw (by simpa only [wK,bf]using hso.dom i b hb)
  obtain⟨i1,i2,i3⟩:=ih _ _ _ _ c3 (λs hs'=>hs s (by simp[hs'])) _ _ (k+1) hE hK
  refine⟨λi s' hi=>?_,i2,i3⟩
  cases i with
  |zero=>simp at hi;subst hi;exact⟨λj=>by rw[c1 j,h1 j];rfl,λid=>by rw[c2 id,h2 id];rfl⟩
  |succ i=>
   exact i1 i s' hi
theorem tK{ops:Array Oper}{o:Oper}{t:Nat}(h:Operand.tmp t∈o.op.operands):t∈slotsOf ops o:=by
 grind[D7,slotsOf]
theorem oD{ops:Array Oper}{o:Oper}{j d:Nat}{want:Bool}(h:o.guard=some (j,want))(hd:rJ ops j=some d):d∈slotsOf ops o:=by
 simp[slotsOf,h,hd]
theorem LY{T:Tbl}{ops:Array Oper}{x:Rec}{i:Nat}:∀{ys:List Rec} {ms:List Nat},pU T ops x i ys ms=true->∀(k:Nat) y m,ys[k]? = some y->ms[k]? = some m->clash T ops x y=true->m.testBit i=true:=by
 intro ys
 induction ys with
 |nil=>simp
 |cons y ys ih=>
  intro ms h k y' m hy hm hc
  cases ms with
  |nil=>simp at hm
  |cons m0 ms=>
   simp[pU]at h
   grind
theorem IL{T:Tbl}{ops:Array Oper}:∀{xs:List Rec} {ms:List Nat} {i:Nat},jG T ops i xs ms=true->xs.length=ms.length/\∀(p q:Nat) x y m,p<q->xs[p]? = some x->xs[q]? = some y->ms[q]? = some m->clash T ops x y=true->m.testBit (i+p)=true:=by
 intro xs
 induction xs with
 |nil=>grind[jG]
 |cons x xs ih=>
  intro ms i h
  cases ms with
  |nil=>simp[jG]at h
  |cons m0 ms=>
   simp only[jG,Bool.and_eq_true]at h
   obtain⟨i1,i2⟩:=ih h.2
   refine⟨by simp[i1],λp q x' y m hpq hx hy hm hc=>?_⟩
   cases q with
   |zero=>omega
   |succ q=>
    cases p with
    |zero=>simp at hx;subst hx;rw[Nat.add_zero];grind[LY]
    |succ p=>
     grind
theorem UY{T:Tbl}{d i:Nat}:∀{ys:List Rec} {ms:List Nat} {k0:Nat},zV T d i k0 ys ms=true->∀(k:Nat) y m,ys[k]? = some y->ms[k]? = some m->k0+k≠i->(y.r.men d=true\/wR y.K d (y.ws T)=true)->m.testBit i=true:=by
 intro ys
 induction ys with
 |nil=>simp
 |cons y ys ih=>
  intro ms k0 h k y' m hy hm hne hc
  cases ms with
  |nil=>simp at hm
  |cons m0 ms=>
   simp[zV]at h
   grind[Nat.eq_of_beq_eq_true]
theorem LZ{T:Tbl}{env:Env}{K:Heap}{all:List Rec}{ms:List Nat}{i:Nat}:∀{l:List Nat},og T env K all ms i l=true->∀d∈l,fU d env=false/\pK d K=false/\zV T d i 0 all ms=true:=by
 intro l
 induction l with
 |nil=>simp
 |cons x r ih=>
  intro h d hd
  simp[og]at h
  grind
theorem Rw{T:Tbl}{env:Env}{K:Heap}{all:List Rec}{ms:List Nat}:∀{xs:List Rec} {i:Nat},zW T env K all ms i xs=true->∀(k:Nat) x d,xs[k]? = some x->d∈x.nw T->fU d env=false/\pK d K=false/\zV T d (i+k) 0 all ms=true:=by
 intro xs
 induction xs with
 |nil=>simp
 |cons x xs ih=>
  intro i h k x' d hx hn
  simp[zW]at h
  cases k with
  |zero=>
   grind[LZ]
  |succ k=>
   grind
theorem UZ{K:Heap}{d id:Nat}{b:Block}(hb:K.get id=some b)(hm:b.men d=true):∀{l:List Nat},id∈l->wR K d l=true:=by
 intro l
 induction l with
 |nil=>simp
 |cons x r ih=>
  simp[wR]
  grind
theorem IP{env:Env}{j:Nat}:∀(l:List Oper),((sZ l env).get j = .top/\∃o∈l,o.dst=some j)\/((sZ l env).get j=env.get j/\∀o∈l,o.dst≠some j):=by
 intro l
 induction l with
 |nil=>exact .inr ⟨rfl,by simp⟩
 |cons o r ih=>
  simp[sZ]
  cases hd:o.dst with
  |none=>
   simp_all
  |some d=>
   rw[Env.get_cons]
   grind
theorem U0{N:List Nat}{q:Nat}{b:Block}:∀{K:Heap},(tq N K).get q=some b->q ∉ N/\K.get q=some b:=by
 intro K
 induction K with
 |nil=>grind[tq,Heap.get]
 |cons x r ih=>
  intro h
  simp[tq]at h
  split at h
  ·obtain⟨h1,h2⟩:=ih h
   refine⟨h1,?_⟩
   rw[Heap.get_cons,if_neg]
   ·exact h2
   ·grind[bf]
  ·rw[Heap.get_cons]at h ⊢
   split at h
   ·rename_i e;subst e
    rw[if_pos rfl]
    grind[bf]
   simp_all
theorem Rx{T:Tbl}{N:List Nat}{kp:Nat}:∀{tr:List Rec} {i:Nat},ik T N kp i tr=true->∀(k:Nat) x,tr[k]? = some x->i+k≠kp->∀q∈x.ws T,q∈N:=by
 intro tr
 induction tr with
 |nil=>simp
 |cons y r ih=>
  intro i h k x hk hne q hq
  simp[ik]at h
  grind[bG]
theorem U1{k:Nat}:∀{l:List (Nat×Nat)},KX k l=false->∀q∈l,q.1≠k
 | [],_,q,hq=>by simp at hq
 |t::r,h,q,hq=>by
  simp[KX]at h
  rcases List.mem_cons.1 hq with rfl |hq
  ·intro e;simp_all
  ·exact U1 h.2 q hq
section
variable {P : Program} {T : Tbl} (hT : iQ P T)
include hT
theorem Eg[Lo]{ρ:Option Nat}(hmix:P.follows .mixedOrders=true){ops:Array Oper}{id:Nat}{N:aS}{M0 M:Mem}{w0:World}{n:Nat}{QQ:Env->Heap->Prop}{PP:AV->Env->Heap->Prop}{Q':Exit->Act->World->Prop}{env:Env}{K:Heap}{a:Act}{w:World}
  (hdst:∀o∈ops.toList,∀d,o.dst=some d->d<n) (hnd:ρ≠none->∀o∈ops.toList,∀c,o.op ≠ .defer c) (h:rO T (PCall P) (ak P) ops (λtr env' K'=>QZ T ops env K tr/\QQ env' K') (λkp p K2 tr=>Ou T ops env K tr kp/\∃N,ik T N kp 0 tr=true/\PP p (sZ ops.toList env) (tq N K2)) ops.toList [] env K) (st:St N M n env K a w) (ev:Evo M0 w0 M w)
  (hQ:∀env K M a w,QQ env K->St N M n env K a w->Evo M0 w0 M w->Q' .normal a w) (hP:∀p env K M a w,PP p env K->St N M n env K a w->Evo M0 w0 M w->∀v,aF N M w p v->Q' (.panic [{ v,recovered:=false }]) a w):(Code.region id ops true).wpIn (FR ρ) 0 P Q' a w:=by
 obtain⟨S,env',K',hS,hch,hcase⟩:=LX hT _ _ _ _ h
 simp only[List.reverse_nil,List.nil_append,List.length_nil,Nat.zero_add]at hcase
 obtain⟨kp,p,l,H,hchk,hsoft,hsk,hQQ,hPP⟩:∃(kp:Nat) (p:AV) (l:List (Nat×Nat)),(∀(i:Nat) s,S[i]? = some s->(i≠kp/\Dp P T ops s)\/(i=kp/\Y3 P T ops p s)\/(((wS ops.toList []).getD i 0).testBit kp=true/\IJ s))/\chk T ops env K (rM l 0 (S.map (·.x)))=true/\yP T K (S.map (·.x)) l/\(∀q∈l,q.1≠kp)/\(S.length<=kp->QQ env' K') /\
   (∀s,S[kp]? = some s->∃N,ik T N kp 0 (S.map (·.x))=true/\PP p (sZ ops.toList env) (tq N s.x.K)):=by
  rcases hcase with⟨h1,h2,h3⟩ |⟨k,p,s,h1,⟨⟨s2,h2,h3⟩,h4⟩,h5,h6⟩
  ·obtain⟨l,h2,h2'⟩:=h2
   refine⟨S.length,.top,l,λi s hs=>.inl ⟨λe=>?_,h1 s (List.mem_of_getElem? hs)⟩,h2,h2',λq hq e=>?_,λ_=>h3,λs hs=>by simp at hs⟩
   ·have:=(List.getElem?_eq_some_iff.1 hs).1;omega
   ·have h4:=Aw h2' q hq
    unfold yz at h4
    rw[e]at h4
    simp at h4
  ·rw[h1]at h2;simp only[Option.some.injEq]at h2;subst h2
   obtain⟨l,h50,h51,h52⟩:=h5
   refine⟨k,p,l,λi s' hs=>?_,h51,h52,λq hq=>U1 h50 q hq,λhle=>?_,λs' hs=>by rw[h1]at hs;simp only[Option.some.injEq]at hs;subst hs;exact h6⟩
   ·by_cases e:i=k
    ·subst e;rw[h1]at hs;simp only[Option.some.injEq]at hs;subst hs;exact .inr (.inl ⟨rfl,h3⟩)
    ·rcases h4 i s' hs e with⟨m,q1,q2,q3⟩ |q
     ·refine .inr (.inr ⟨?_,q3⟩)
      simp only[List.length_nil,Nat.zero_add]at q1 q2
      rw[List.getD_eq_getElem?_getD,q1];exact q2
     ·exact .inl ⟨e,q⟩
   ·have:=(List.getElem?_eq_some_iff.1 h1).1;omega
 have hW:∀s∈S,zc8 T s:=by
  intro s hs
  obtain⟨i,hi⟩:=List.mem_iff_getElem?.1 hs
  rcases H i s hi with⟨_,q⟩ |⟨_,q⟩ |⟨_,q⟩
  ·exact q.weak
  ·exact q.weak
  ·exact q.weak
 obtain⟨hpre,hend1,hend2⟩:=UX T S env K env' K' hch hW env.get K.get 0 (λ_=>rfl) (λ_=>rfl)
 simp only[chk,Bool.and_eq_true]at hchk
 obtain⟨c1,c2,c3⟩:=hchk
 obtain⟨hlen,hclash⟩:=IL c2
 have hSlen:S.length=ops.toList.length:=by rw[<-hS];simp
 have hmask:∀(k:Nat) s,S[k]? = some s->(wS ops.toList [])[k]? = some ((wS ops.toList []).getD k 0):=by
  intro k s hk
  have hlt:=(List.getElem?_eq_some_iff.1 hk).1
  have:k<(wS ops.toList []).length:=by rw[<-hlen,IE];simpa using hlt
  simp[List.getD_eq_getElem?_getD,this]
 have hrec0:∀(k:Nat) s,S[k]? = some s->(S.map (·.x))[k]? = some s.x:=λk s hk=>by simp[hk]
 have hrec:∀(k:Nat) s,S[k]? = some s->(rM l 0 (S.map (·.x)))[k]? = some (C9 l k s.x):=λk s hk=>by
  have:=IC (l:=l) (k0:=0) (hrec0 k s hk)
  rwa[Nat.zero_add]at this
 have hop:∀(k:Nat) s,S[k]? = some s->ops.toList[k]? = some s.x.o:=λk s hk=>by rw[<-hS];simp[hk]
 have hcl:∀(p q:Nat) s s',p<q->S[p]? = some s->S[q]? = some s'->clash T ops (C9 l p s.x) (C9 l q s'.x)=true->((wS ops.toList []).getD q 0).testBit p=true:=by
  intro p q s s' hpq hp hq hc
  have:=hclash p q (C9 l p s.x) (C9 l q s'.x) _ hpq (hrec p s hp) (hrec q s' hq) (hmask q s' hq) hc
  simpa using this
 refine wpIn_region_any hmix ?_
 -- the claim,by the number of operations that are left
 have main:∀(fuel:Nat) (listed:Array Bool) (a:Act) (w:World),listed.size=ops.size->((List.range ops.size).filter λk=>!listed.getD k false).length=fuel ->
   Closed ops (λk=>listed.getD k false)->(kp<S.length->listed.getD kp false=false)->(∃M,StF N M n (accE (λk=>listed.getD k false) env.get S) (accK T (λk=>listed.getD k false) K.get S) a w/\Evo M0 w0 M w)->wpAnyIn (FR ρ) 0 P .any ops Q' fuel listed a w:=by
  intro fuel
  induction fuel with
  |zero=>
   intro listed a w hsz hcnt hcl' hkp ⟨M,hst,hev⟩
   have hall:∀k,k<ops.size->listed.getD k false=true:=by
    intro k hk
    have hnil:=List.eq_nil_of_length_eq_zero hcnt
    cases hb:listed.getD k false with
    |true=>rfl
    |false=>
     have:k∈(List.range ops.size).filter λk=>!listed.getD k false:=by simp only[List.mem_filter,List.mem_range];exact⟨hk,by rw[hb];rfl⟩
     rw[hnil]at this;simp at this
   refine⟨?_,?_⟩
   ·unfold Region.ready
    rw[List.filter_eq_nil_iff]
    intro k hk
    simp only[List.mem_range]at hk
    have h1:=hall k hk
    have:listed.getD k true=true:=by
     simp only[Array.getD_eq_getD_getElem?]at h1 ⊢
     cases hx:listed[k]? with
     |none=>rfl
     |some b=>rw[hx]at h1;simpa using h1
    rw[this];simp
   ·have hle:S.length<=kp:=by
     rcases Nat.lt_or_ge kp S.length with hlt |hle
     ·have h1:=hkp hlt
      rw[hall kp (by rw[hSlen]at hlt;simpa using hlt)]at h1;simp at h1
     ·exact hle
    refine hQ env' K' M a w (hQQ hle) (StF.ofF ⟨hst.size,hst.big,?_,λj=>?_,λi blk hb=>?_,hst.mem⟩) hev
    ·have:=hst.defers
     rwa[hend1 gq,xu (X:=λ_=>true) (Y:=λk=>listed.getD k false) S env.get env.get 0 rfl λi s hi _=>by
      rw[Nat.zero_add,hall i (by have:=(List.getElem?_eq_some_iff.1 hi).1;rw[hSlen]at this;simpa using this)]]
    ·have:=hst.env j
     rwa[hend1 j,xu (X:=λ_=>true) (Y:=λk=>listed.getD k false) S env.get env.get 0 rfl λi s hi _=>by
      rw[Nat.zero_add,hall i (by have:=(List.getElem?_eq_some_iff.1 hi).1;rw[hSlen]at this;simpa using this)]]
    ·refine hst.heap i blk ?_
     rw[<-hb,hend2 i,xu (X:=λ_=>true) (Y:=λk=>listed.getD k false) S K.get K.get 0 rfl λi s hi _=>by
      rw[Nat.zero_add,hall i (by have:=(List.getElem?_eq_some_iff.1 hi).1;rw[hSlen]at this;simpa using this)]]
  |succ fuel ih=>
   intro listed a w hsz hcnt hcl' hkp ⟨M,hst,hev⟩
   have hXd:∀k,k<ops.size->listed.getD k true=listed.getD k false:=by
    intro k hk
    simp only[Array.getD_eq_getD_getElem?]
    have:k<listed.size:=by omega
    simp[this]
   refine⟨λhnil=>?_,λi hi=>?_⟩
   ·-- something is always ready
    exfalso
    have hex:∃k,k<ops.size/\listed.getD k false=false:=by
     have hne:(List.range ops.size).filter (λk=>!listed.getD k false) ≠ []:=by intro e;rw[e]at hcnt;simp at hcnt
     obtain⟨k,hk⟩:=List.exists_mem_of_ne_nil _ hne
     simp only[List.mem_filter,List.mem_range,Bool.not_eq_true']at hk
     exact⟨k,hk⟩
    have hmin:∃k,(k<ops.size/\listed.getD k false=false)/\∀j,j<k->listed.getD j false=true:=by
     obtain⟨k,hk⟩:=hex
     induction k using Nat.strongRecOn with
     |_ k ihk=>
      by_cases hlt:∃j,j<k/\listed.getD j false=false
      ·obtain⟨j,hj,hj2⟩:=hlt
       exact ihk j hj ⟨by omega,hj2⟩
      ·exact⟨k,hk,λj hj=>by
        cases hb:listed.getD j false with
        |true=>rfl
        |false=>exact absurd ⟨j,hj,hb⟩ hlt⟩
    obtain⟨k,⟨hk1,hk2⟩,hk3⟩:=hmin
    have:k∈Region.ready .any ops listed:=by
     unfold Region.ready
     simp only[List.mem_filter,List.mem_range]
     refine⟨hk1,?_⟩
     rw[hXd k hk1,hk2]
     have ho:ops[k]? = some ops[k]:=by simp[hk1]
     rw[ho]
     simp only[Bool.not_false,Bool.true_and,Option.map_some,Option.getD_some]
     rw[Array.all_eq_true]
     intro q hq
     simp only[Bool.or_eq_true,Bool.not_eq_true']
     cases hb:Region.binds .any (ops[k].after[q])with
     |false=>exact .inl rfl
     |true=>
      right
      refine hk3 _ ?_
      have:=z6o c1 (k:=k) (o:=ops[k]) (by simp[hk1]) (e:=ops[k].after[q]) (by simp) hb
      omega
    rw[hnil]at this;simp at this
   ·unfold Region.ready at hi
    simp only[List.mem_filter,List.mem_range,Bool.and_eq_true,Bool.not_eq_true']at hi
    obtain⟨hi1,hi2,hi3⟩:=hi
    rw[hXd i hi1]at hi2
    have hoi:ops[i]? = some ops[i]:=by simp[hi1]
    rw[hoi]at hi3
    simp only[Option.map_some,Option.getD_some]at hi3
    have hedges:∀e∈ops[i].after.toList,Region.binds .any e=true->listed.getD e.on false=true:=by
     intro e he hb
     rw[Array.all_eq_true_iff_forall_mem]at hi3
     have:=hi3 e (by simpa using he)
     simpa[hb]using this
    have hSi:∃s,S[i]? = some s:=⟨S[i]'(by rw[hSlen];simpa using hi1),by simp⟩
    obtain⟨s,hs⟩:=hSi
    have hso:s.x.o=ops[i]:=by
     have:=hop i s hs
     rw[Array.getElem?_toList,hoi]at this
     simpa using this.symm
    -- those ahead are in the set,those behind are not
    have hbefore:∀k,((wS ops.toList []).getD i 0).testBit k=true->listed.getD k false=true:=
     Ap hcl' (by simpa using c1) i i (Nat.le_refl _) ops[i] (by simp[hi1]) hedges
    have hafter:∀(k:Nat) s',S[k]? = some s'->((wS ops.toList []).getD k 0).testBit i=true->listed.getD k false=false:=by
     intro k s' hk hb
     cases hx:listed.getD k false with
     |false=>rfl
     |true=>
      have:=Ap hcl' (by simpa using c1) k k (Nat.le_refl _) s'.x.o (hop k s' hk) (hcl' k s'.x.o (hop k s' hk) hx) i hb
      rw[hi2]at this;simp at this
    have hposE:∀t,(t∈slotsOf ops s.x.o\/s.x.o.dst=some t)->∀(k:Nat) s',S[k]? = some s'->wE s' t=true->listed.getD k false=decide (k<i):=by
     intro t ht k s' hk hw
     rw[AB]at hw
     rcases Nat.lt_trichotomy k i with hlt |heq |hgt
     ·rw[hbefore k (hcl k i s' s hlt hk hs ?_)];simp[hlt]
      simp only[clash,z3h,Bool.or_eq_true,IK,AA]
      rcases ht with ht |ht
      ·exact .inl ⟨t,hw,ht⟩
      ·exact .inr (.inl ⟨t,hw,ht⟩)
     ·subst heq;rw[hi2];simp
     ·rw[hafter k s' hk (hcl i k s s' hgt hs hk ?_)];simp;omega
      simp only[clash,z3h,Bool.or_eq_true,IK,AA]
      rcases ht with ht |ht
      ·exact .inr (.inr (.inl ⟨t,hw,ht⟩))
      ·exact .inr (.inl ⟨t,ht,hw⟩)
    have hposK:∀q,(q∈(C9 l i s.x).rd\/q∈s.x.ws T)->∀(k:Nat) s',S[k]? = some s'->wK T s' q=true->listed.getD k false=decide (k<i):=by
     intro q hq k s' hk hw
     simp only[wK,bf]at hw
     rcases Nat.lt_trichotomy k i with hlt |heq |hgt
     ·rw[hbefore k (hcl k i s' s hlt hk hs ?_)];simp[hlt]
      simp only[clash,LV,Bool.or_eq_true,FX]
      rcases hq with hq |hq
      ·exact .inr (.inr (.inr (.inl ⟨q,hw,hq⟩)))
      ·exact .inr (.inr (.inr (.inr (.inl ⟨q,hw,hq⟩))))
     ·subst heq;rw[hi2];simp
     ·rw[hafter k s' hk (hcl i k s s' hgt hs hk ?_)];simp;omega
      simp only[clash,LV,Bool.or_eq_true,FX]
      rcases hq with hq |hq
      ·exact .inr (.inr (.inr (.inr (.inr ⟨q,hw,hq⟩))))
      ·exact .inr (.inr (.inr (.inr (.inl ⟨q,hq,hw⟩))))
    have hE:∀t,(t∈slotsOf ops s.x.o\/s.x.o.dst=some t)->accE (λk=>listed.getD k false) env.get S t=s.x.env.get t:=λt ht=>by
     rw[(hpre i s hs).1 t];exact z3f (hposE t ht)
    have hK:∀q,(q∈(C9 l i s.x).rd\/q∈s.x.ws T)->accK T (λk=>listed.getD k false) K.get S q=s.x.K0.get q:=λq hq=>by
     rw[(hpre i s hs).2 q];exact z3f (hposK q hq)
    have hX':∀k,(listed.setIfInBounds i true).getD k false=(listed.getD k false || k==i):=by
     intro k
     simp only[Array.getD_eq_getD_getElem?,Array.getElem?_setIfInBounds]
     by_cases e:i=k
     ·subst e;simp[show i<listed.size by omega]
     ·rw[if_neg e];have:(k==i)=false:=by simp;omega
      rw[this];simp
    have hnextInv:i≠kp->∀(a':Act) (w':World),(∃M,StF N M n (accE (λk=>listed.getD k false || k==i) env.get S) (accK T (λk=>listed.getD k false || k==i) K.get S) a' w'/\Evo M0 w0 M w')->wpAnyIn (FR ρ) 0 P .any ops Q' fuel (listed.setIfInBounds i true) a' w':=by
     intro hne a' w' hI
     refine ih _ a' w' (by simpa using hsz) ?_ ?_ ?_ ?_
     ·have hfe:(λk=>!(listed.setIfInBounds i true).getD k false)=λk=>(!listed.getD k false) && !(k==i):=by
       funext k;rw[hX' k];cases listed.getD k false<;>simp
      rw[hfe]
      have hmemi:i∈(List.range ops.size).filter λk=>!listed.getD k false:=by simp only[List.mem_filter,List.mem_range];exact⟨hi1,by rw[hi2];rfl⟩
      have hnd':((List.range ops.size).filter λk=>!listed.getD k false).Nodup:=List.nodup_range.sublist List.filter_sublist
      have:(List.range ops.size).filter (λk=>(!listed.getD k false) && !(k==i))=((List.range ops.size).filter λk=>!listed.getD k false).erase i:=by
       rw[hnd'.erase_eq_filter]
       rw[List.filter_filter]
       congr 1
       funext k
       rw[Bool.and_comm];rfl
      rw[this,List.length_erase_of_mem hmemi,hcnt];simp
     ·intro k o hk hx e he hb
      simp only[hX']at hx ⊢
      simp only[Bool.or_eq_true]at hx ⊢
      rcases hx with hx |hx
      ·exact .inl (hcl' k o hk hx e he hb)
      ·have:k=i:=by simpa using hx
       subst this
       rw[Array.getElem?_toList,hoi]at hk
       simp only[Option.some.injEq]at hk;subst hk
       exact .inl (hedges e he hb)
     ·intro hlt
      rw[hX' kp,hkp hlt];simp;omega
     ·have:(λk=>(listed.setIfInBounds i true).getD k false)=λk=>listed.getD k false || k==i:=funext hX'
      rw[this];exact hI
    have hinsE:∀t,accE (λk=>listed.getD k false || k==i) env.get S t=if s.x.o.dst=some t then s.x.r else accE (λk=>listed.getD k false) env.get S t:=by
     intro t
     have:=Ef (X:=λk=>listed.getD k false) (f:=env.get) (val:=λ(s:Stp) (_:Nat)=>s.x.r) (wrt:=wE) hs hi2 t λhw k s' hk hw' hgt=>by
      rw[AB]at hw
      rw[hposE t (.inr hw) k s' hk hw'];simp;omega
     refine this.trans ?_
     by_cases hw:s.x.o.dst=some t
     ·rw[if_pos (AB.2 hw),if_pos hw]
     ·rw[if_neg (by rw[AB];exact hw),if_neg hw]
    have hinsK:∀q,accK T (λk=>listed.getD k false || k==i) K.get S q=if wK T s q then s.x.K.get q else accK T (λk=>listed.getD k false) K.get S q:=by
     intro q
     exact Ef (X:=λk=>listed.getD k false) (f:=K.get) (val:=λ(s:Stp) (id:Nat)=>s.x.K.get id) (wrt:=wK T) hs hi2 q λhw k s' hk hw' hgt=>by
      rw[hposK q (.inr (by simpa[wK,bf]using hw)) k s' hk hw'];simp;omega
    have hdd:∀d,s.x.o.dst=some d->d<n:=hdst s.x.o (by rw[hso];simp)
    rw[show wpOpIn (FR ρ) 0 P ops Q' i (wpAnyIn (FR ρ) 0 P .any ops Q' fuel (listed.setIfInBounds i true)) a w=_ from rfl]
    unfold wpOpIn
    rw[hoi]
    simp only
    rw[<-hso]
    have hyb:∀{j d:Nat} {c:Bool},rJ ops j=some d->accE (λk=>listed.getD k false) env.get S d = .data (.val (.bool c))->yielded ops a.tmps j=some c:=by
     intro j d c hd hc
     have h:=hst.env d
     rw[hc]at h
     have hb:=h.bool
     have hlt:a.tmps[d]? = some (.bool c):=by
      simp only[Array.getD_eq_getD_getElem?]at hb
      cases hx:a.tmps[d]? with
      |none=>rw[hx]at hb;simp[undef]at hb
      |some y=>rw[hx]at hb;simpa using hb
     unfold rJ at hd
     unfold yielded
     split at hd
     ·rename_i o ho;simp[ho,hd,hlt]
     ·simp at hd
    have hyt:∀{j d:Nat} {vs:Array Value},rJ ops j=some d->accE (λk=>listed.getD k false) env.get S d = .data (.val (.tuple vs))->yielded ops a.tmps j=none:=by
     intro j d vs hd hc
     have h:=hst.env d
     rw[hc]at h
     have hb:a.tmps.getD d undef = .tuple vs:=by generalize a.tmps.getD d undef=z at h;cases h with |data _ _ h=>cases h;rfl
     unfold rJ at hd
     unfold yielded
     split at hd
     ·rename_i o ho
      simp only[ho,Option.bind_some,hd]
      simp only[Array.getD_eq_getD_getElem?]at hb
      cases hx:a.tmps[d]? with
      |none=>rfl
      |some y=>rw[hx]at hb;simp at hb;subst hb;rfl
     ·simp at hd
    have hnob:s.x.run=true->s.x.K=uU s.x.K0 s.Δ->∀d,d∈fV T s.x.env s.x.K0 (uU s.x.K0 s.Δ) s.x.o->(∀t,(accE (λk=>listed.getD k false) env.get S t).men d=false)/\∀q blk,accK T (λk=>listed.getD k false) K.get S q=some blk->blk.men d=false:=by
     intro r1 hheap d hd
     have hnw:d∈s.x.nw T:=by simp only[Rec.nw,r1,hheap];exact hd
     obtain⟨n1,n2,n3⟩:=Rw c3 i (C9 l i s.x) d (hrec i s hs) (by rw[z6q];exact hnw)
     rw[Nat.zero_add]at n3
     have hno:∀(k:Nat) s',S[k]? = some s'->listed.getD k false=true->(s'.x.r.men d=true\/wR s'.x.K d (s'.x.ws T)=true)->False:=by
      intro k s' hk hx hc
      have hki:k≠i:=by rintro rfl;rw[hi2]at hx;simp at hx
      have:=UY n3 k (C9 l k s'.x) _ (hrec k s' hk) (hmask k s' hk) (by omega) (by rw[zc7,zc6,LV];exact hc)
      have:=hafter k s' hk this
      rw[hx]at this;simp at this
     refine⟨λt=>?_,λq blk hb=>?_⟩
     ·rcases Aq (wrt:=wE) (val:=λ(s:Stp) (_:Nat)=>s.x.r) (X:=λk=>listed.getD k false) (t:=t) S env.get 0 with e |⟨k,s',e1,e2,e3,e4⟩
      ·refine(congrArg (AV.men d) e).trans ?_
       cases hb:(env.get t).men d with
       |false=>rfl
       |true=>rw[oh hb]at n1;simp at n1
      ·refine(congrArg (AV.men d) e4).trans ?_
       cases hb:s'.x.r.men d with
       |false=>rfl
       |true=>exact(hno k s' e1 (by rwa[Nat.zero_add]at e2) (.inl hb)).elim
     ·rcases Aq (wrt:=wK T) (val:=λ(s:Stp) (id:Nat)=>s.x.K.get id) (X:=λk=>listed.getD k false) (t:=q) S K.get 0 with e |⟨k,s',e1,e2,e3,e4⟩
      ·have hb':K.get q=some blk:=by rw[<-e];exact hb
       cases hm:blk.men d with
       |false=>rfl
       |true=>rw[qM hb' hm]at n2;simp at n2
      ·have hb':s'.x.K.get q=some blk:=by rw[<-e4];exact hb
       cases hm:blk.men d with
       |false=>rfl
       |true=>exact(hno k s' e1 (by rwa[Nat.zero_add]at e2) (.inr (UZ hb' hm (by simpa[wK,bf]using e3)))).elim
    rcases H i s hs with⟨hne,hsok⟩ |⟨hik,hsok⟩ |⟨hbit,hsok⟩
    rotate_left
    ·-- it panics
     have hwant:Region.wanted s.x.o (yielded ops a.tmps)=true:=by
      rcases hsok.guard with hg |⟨j,want,d,hg,hd,hc⟩
      ·simp[Region.wanted,hg]
      ·have:=hE d (.inl (oD hg hd))
       rw[hc]at this
       simp[Region.wanted,hg,hyb hd this]
     rw[if_pos hwant]
     have r1:=hsok.run
     have r2:=hsok.res
     have hns:KX i l=false:=by
      cases hb:KX i l with
      |false=>rfl
      |true=>obtain⟨q,h1,h2⟩:=FW hb;exact absurd (h2.trans hik) (hsk q h1)
     refine z6m (λhr=>hnd hr _ (by rw[hso];simp)) ?_
     refine r2.eff N M a w hst.mem (λt ht=>?_) (λq hq blk hb=>?_) _ Q' λv M' w' h1 h2 h3 h4=>?_
     ·have:=hst.env t
      rwa[hE t (.inl (tK ht))]at this
     ·refine hst.heap q blk ?_
      rw[hK q (.inl ?_)];exact hb
      rw[UT hns]
      simp only[Rec.rd,r1];exact hq
     ·have hlt:kp<S.length:=by rw[<-hik];exact(List.getElem?_eq_some_iff.1 hs).1
      obtain⟨N',hq,hpp⟩:=hPP s (hik ▸ hs)
      have hst':=hst.next (fe':=accE (λk=>listed.getD k false) env.get S) (dst:=none) (r:=p) (v:=v) (fk':=λq=>match s.Δ.get q with |some b=>some b |none=>accK T (λk=>listed.getD k false) K.get S q) h1 h2 (λd hd=>hnob r1 hsok.heap d (r2.nids d hd)) h3 h4 r2.dom (by simp) (λt=>by simp) (λq=>rfl)
      have hquiet:∀(k:Nat) s',S[k]? = some s'->k≠kp->∀q,wK T s' q=true->q∈N':=λk s' hk hne q hw=>Rx hq k s'.x (hrec0 k s' hk) (by omega) q (by simpa only [wK,bf]using hw)
      refine hP p _ _ M' a w' hpp ⟨hst'.size,hst'.big,?_,λj=>?_,λq blk hb=>?_,hst'.mem⟩ (hev.step h1 h2 λd hd=>(r2.fresh d hd).1) v h3
      ·have hdf:=hst'.defers
       rcases IP (env:=env) (j:=gq) ops.toList with⟨_,o,ho,hd⟩ |⟨e,hd⟩
       ·exact absurd (hdst o ho gq hd) (Nat.not_lt.2 hst'.big)
       ·rw[e]
        rwa[show accE (λk=>listed.getD k false) env.get S gq=env.get gq from kF _ _ _ λk s' hk hw=>absurd (AB.1 hw) (hd _ (List.mem_of_getElem? (hop k s' hk)))]at hdf
      ·rcases IP (env:=env) (j:=j) ops.toList with⟨e,_⟩ |⟨e,hd⟩
       ·rw[e];exact .top _
       ·rw[e]
        have:=hst'.env j
        rwa[show accE (λk=>listed.getD k false) env.get S j=env.get j from kF _ _ _ λk s' hk hw=>absurd (AB.1 hw) (hd _ (List.mem_of_getElem? (hop k s' hk)))]at this
      ·obtain⟨hqN,hb⟩:=U0 hb
       refine hst'.heap q blk ?_
       rw[hsok.heap,jf]at hb
       split at hb
       ·rename_i b' hb';rw[hb'];exact hb
       ·rename_i hb'
        rw[hb']
        simp only
        rw[(hpre i s hs).2 q]at hb
        rw[kF (wrt:=wK T) (val:=λ(s:Stp) (id:Nat)=>s.x.K.get id) (S.take i) K.get 0 λk s' hk hw=>?_]at hb
        ·rw[show accK T (λk=>listed.getD k false) K.get S q=K.get q from kF _ _ _ λk s' hk hw=>?_]
         ·exact hb
         ·rw[Nat.zero_add]
          by_cases e:k=kp
          ·subst e;exact hkp hlt
          ·exact absurd (hquiet k s' hk e q hw) hqN
        ·exfalso
         rw[List.getElem?_take]at hk
         split at hk
         ·exact hqN (hquiet k s' hk (by omega) q hw)
         ·simp at hk
    ·-- it comes after what panics
     exfalso
     have hb1:=hbefore kp hbit
     have hlt:kp<S.length:=by
      have h1:=z6p (by simpa using c1) i i (Nat.le_refl _) s.x.o (hop i s hs) kp hbit
      have h2:=(List.getElem?_eq_some_iff.1 hs).1
      omega
     rw[hkp hlt]at hb1;simp at hb1
    rcases hsok.run with⟨r1,r2,r5⟩ |⟨r1,r2,r3,r4,r5⟩
    ·-- it runs
     have hwant:Region.wanted s.x.o (yielded ops a.tmps)=true:=by
      rcases r5 with hg |⟨j,want,d,hg,hd,hc⟩
      ·simp[Region.wanted,hg]
      ·have:=hE d (.inl (oD hg hd))
       rw[hc]at this
       simp[Region.wanted,hg,hyb hd this]
     rw[if_pos hwant]
     refine z6m (λhr=>hnd hr _ (by rw[hso];simp)) ?_
     cases hns:KX i l with
     |true=>
      -- its place is of no account
      obtain⟨⟨qi,id0⟩,hq1,hq2⟩:=FW hns
      simp only at hq2
      subst hq2
      have hsa:=Aw hsoft _ hq1
      unfold yz at hsa
      rw[hrec0 qi s hs]at hsa
      obtain⟨c,k3,k4⟩:=hsa r1
      have cur:∀(X:Nat->Bool) (S':List Stp),(∀(k:Nat) (s':Stp),S'[k]? = some s'->∃k':Nat,S[k']? = some s')->cellP T s.x.env s.x.o id0 c (accK T X K.get S' id0):=by
       intro X S' hsub
       rcases Aq (wrt:=wK T) (val:=λ(s:Stp) (id:Nat)=>s.x.K.get id) (X:=X) (t:=id0) S' K.get 0 with e |⟨k,s',e1,e2,e3,e4⟩
       ·have e:accK T X K.get S' id0=K.get id0:=e
        rw[e];exact k3
       ·have e4:accK T X K.get S' id0=s'.x.K.get id0:=e4
        rw[e4]
        obtain⟨k',hk'⟩:=hsub k s' e1
        exact IG k4 (hrec0 k' s' hk') e3
      have hrd:KW s.x.o=true:=by
       obtain⟨b,_,q⟩:=vC k3
       unfold readA at q
       unfold KW
       split at q
       ·rename_i e;simp[e]
       ·rename_i e;simp[e]
       ·exact q.elim
      have hr:s.x.r=c:=by
       have h2:=cur (λ_=>true) (S.take qi) (λk s' h=>⟨k,by
        rw[List.getElem?_take]at h
        split at h
        ·exact h
        ·simp at h⟩)
       obtain⟨b,h3,h4⟩:=vC h2
       have h5:=(hpre qi s hs).2 id0
       exact UW (UV h4 (h5.trans h3)) (hsok.soft r1 hrd)
      obtain⟨b,hcs,hco⟩:=vC (cur (λk=>listed.getD k false) S λk s' h=>⟨k,h⟩)
      have hx:∀(t:TypeId) (x:Operand),x∈s.x.o.op.operands->aF N M w (Go.Fw.ev T s.x.env t x) (a.eval x):=λt x hxm=>dW hst.mem (T:=T) (env:=s.x.env) (a:=a) t x λj hj=>by
       have h1:=hst.env j
       rwa[hE j (.inl (tK (by rw[<-hj];exact hxm)))]at h1
      have hkk:∀y:AV,Hk N M w [(id0,b)] y:=λy q hq blk hb=>by
       rw[Az]at hb
       split at hb
       ·rename_i e;subst e
        simp only[Option.some.injEq]at hb;subst hb
        exact hst.heap _ _ hcs
       ·simp at hb
      obtain⟨u,hu,hur⟩:∃u,(execOp a.eval s.x.o).run P w = .ok (.value u) w/\aF N M w c u:=by
       unfold readA at hco
       split at hco
       ·rename_i t ad e
        obtain⟨r',hr',hload⟩:=FM hT hco
        have hr':r'=c:=hr'
        subst hr'
        obtain⟨u,hu,hur⟩:=hload N M w _ (hx 0 ad (by rw[e];simp[Op.operands])) (hkk _)
        exact⟨u,by rw[Ih e];simp[hu],hur⟩
       ·rename_i t x i e
        obtain⟨r',hr',hload⟩:=uM hT hco
        have hr':r'=c:=hr'
        subst hr'
        obtain⟨u,hu,hur⟩:=hload N M w _ _ (hx t x (by rw[e];simp[Op.operands])) (hx 0 i (by rw[e];simp[Op.operands])) (hkk _)
        exact⟨u,by rw[rX e];simp[hu],hur⟩
       ·exact hco.elim
      refine .inl ?_
      unfold Oper.wp
      rw[hu,Oper.upon_value]
      refine hnextInv hne _ _ ⟨M,?_,hev⟩
      refine hst.next (W:=[]) (nw:=[]) (Δ:=[]) (r:=s.x.r) (v:=u) (Step.refl M w) (by simp) (by simp) (by rw[hr];exact hur) (by simp[Heap.get]) (by simp[Heap.get]) hdd hinsE (λq=>?_)
      rw[hinsK q,if_neg]
      ·rfl
      unfold KW at hrd
      split at hrd
      ·rename_i e;simp only[wK,Rec.ws,r1,wids,e,nU];decide
      ·rename_i e;simp only[wK,Rec.ws,r1,wids,e,nU];decide
      ·simp at hrd
     |false=>
     refine r2.eff N M a w hst.mem (λt ht=>?_) (λq hq blk hb=>?_) _ Q' λv M' w' h1 h2 h3 h4=>?_
     ·have:=hst.env t
      rwa[hE t (.inl (tK ht))]at this
     ·refine hst.heap q blk ?_
      rw[hK q (.inl ?_)];exact hb
      rw[UT hns]
      simp only[Rec.rd,r1];exact hq
     ·have hwsub:∀q,q∈s.W->q∈s.x.ws T:=by
       intro q hq
       simp only[Rec.ws,r1,hsok.heap]
       exact r2.wids q hq
      refine hnextInv hne _ _ ⟨M',?_,hev.step h1 h2 λd hd=>(r2.fresh d hd).1⟩
      refine hst.next h1 h2 (λd hd=>?_) h3 h4 r2.dom hdd hinsE (λq=>?_)
      ·exact hnob r1 hsok.heap d (r2.nids d hd)
      ·rw[hinsK q]
       by_cases hw:wK T s q=true
       ·rw[if_pos hw]
        have hmem:q∈s.x.ws T:=by simpa[wK,bf]using hw
        rw[hsok.heap,jf]
        split
        ·rename_i b hb;rw[hb]
        ·rename_i hb;rw[hb];simp only;rw[hK q (.inr hmem)]
       ·rw[if_neg hw]
        cases hb:s.Δ.get q with
        |none=>rfl
        |some b=>exact absurd (by simp only[wK,bf];exact hwsub q ((r2.dom q).2 ⟨b,hb⟩)) hw
    ·-- it is passed over
     have hwant:Region.wanted s.x.o (yielded ops a.tmps)=false:=by
      obtain⟨j,want,d,hg,hd,hc⟩:=r5
      have:=hE d (.inl (oD hg hd))
      rcases hc with hc |⟨vs,hc⟩
      ·rw[hc]at this
       simp only[Region.wanted,hg,hyb hd this]
       cases want<;>rfl
      ·rw[hc]at this
       simp[Region.wanted,hg,hyt hd this]
     rw[if_neg (by simp[hwant])]
     refine⟨λ_ _=>trivial,?_⟩
     refine hnextInv hne _ _ ⟨M,?_,hev⟩
     refine hst.next (W:=[]) (nw:=[]) (Δ:=[]) (r:=s.x.r) (Step.refl M w) (by simp) (by simp) (by rw[r2];exact kW) (by simp[Heap.get]) (by simp[Heap.get]) hdd hinsE (λq=>?_)
     rw[hinsK q,if_neg]
     ·rfl
     simp[wK,Rec.ws,r1,nU]
 refine main ops.size _ a _ (by simp) ?_ ?_ (λ_=>?_) ⟨M,?_,ev.step (nw:=[]) (Step.drew M w) (by simp) (by simp)⟩
 ·have:(List.range ops.size).filter (λk=>!(Array.replicate ops.size false).getD k false)=List.range ops.size:=by
   rw[List.filter_eq_self]
   intro k hk
   simp only[List.mem_range]at hk
   simp[Array.getD_eq_getD_getElem?,hk]
  rw[this];simp
 ·intro k o _ hx
  exfalso
  simp only[Array.getD_eq_getD_getElem?,Array.getElem?_replicate]at hx
  split at hx<;>simp at hx
 ·simp only[Array.getD_eq_getD_getElem?,Array.getElem?_replicate]
  split<;>rfl
 ·have hz:(λk=>(Array.replicate ops.size false).getD k false)=λ_=>false:=by
   funext k
   simp only[Array.getD_eq_getD_getElem?,Array.getElem?_replicate]
   split<;>rfl
  rw[hz]
  have hst:=st.toF
  have hd:=Step.drew M w
  refine⟨hst.size,hst.big,?_,λj=>?_,λq blk hb=>?_,hd.memOk hst.mem⟩
  ·rw[show accE (λ_=>false) env.get S gq=env.get gq from kF _ _ _ λ_ _ _ _=>rfl]
   exact hst.defers.keep hd.keeps hd.shape (λ_ _=>.inl rfl) (λb hb hR=>hd.block b hb λid _ ow o h1 h2=>hR o ⟨id,ow,h1,h2⟩) (λb o hb=>hd.R_old hb)
  ·rw[show accE (λ_=>false) env.get S j=env.get j from kF _ _ _ λ_ _ _ _=>rfl]
   exact(hst.env j).keep hd.keeps hd.shape λ_ _=>.inl rfl
  ·rw[show accK T (λ_=>false) K.get S q=K.get q from kF _ _ _ λ_ _ _ _=>rfl]at hb
   exact(hst.heap q blk hb).keep hst.mem hd (by simp) λ_ _=>.inl rfl
end
def cZ(n:Nat):Code->Bool
 | .region _ ops _=>OI n ops.toList
 | .seq a b=>cZ n a&&cZ n b
 | .cond _ a b=>cZ n a&&cZ n b
 | .block _ c=>cZ n c
 | .loop c=>cZ n c
 | .rangeFunc _ ps a b=>ps.toList.all (λt=>Nat.blt t n)&&(cZ n a&&cZ n b)
 |_=>true
section
variable {P : Program} {T : Tbl} (hT : iQ P T)
include hT
theorem zc9[Lo](hmix:P.follows .mixedOrders=true){N:aS}{n:Nat}{M0:Mem}{w0:World}:∀(c:Code) (Q:Post) (Q':Exit->Act->World->Prop) (env:Env) (K:Heap) (M:Mem) (a:Act) (w:World),cZ n c=true->vc T (PCall P) (ak P) c Q env K->St N M n env K a w->Evo M0 w0 M w ->
  QOk N M0 w0 n Q Q'->c.wpIn (FR none) 0 P Q' a w:=by
 intro c
 induction c with
 |skip=>intro Q Q' env K M a w _ h s e q;exact wpIn_skip (q .normal env K M a w h s e)
 |region id ops draw=>
  intro Q Q' env K M a w hs h s e q
  cases draw with
  |true=>exact Eg hT hmix (PP:=λ_ _ _=>False) (qP hs) (λh=>absurd rfl h) h s e (λenv K M a w h s e=>q .normal env K M a w h s e) (λ_ _ _ _ _ _ h=>h.elim)
  |false=>
  exact vg (UM hT (λenv K M a w h s e=>q .normal env K M a w h s e) (λx env K M a w h s e=>q (.panic x) env K M a w h s e) ops.toList env K M a w (qP hs) (λh=>absurd rfl h) h s e)
 |seq x y ihx ihy=>
  intro Q Q' env K M a w hs h s e q
  simp[cZ]at hs
  refine wpIn_seq (ihx _ _ env K M a w hs.1 h s e λo env K M a w h s e=>?_)
  cases o with
  |normal=>exact ihy Q Q' env K M a w hs.2 h s e q
  |exit i=>exact q (.exit i) env K M a w h s e
  |ret=>exact q .ret env K M a w h s e
  |panic x=>exact q (.panic x) env K M a w h s e
 |cond c x y ihx ihy=>
  intro Q Q' env K M a w hs h s e q
  simp[cZ]at hs
  simp[vc]at h
  split at h<;>try exact h.elim
  rename_i t ht
  have hc:a.eval c = .bool t:=by
   have:=dW s.mem (T:=T) (env:=env) (a:=a) 0 c λj _=>s.env j
   rw[ht]at this;exact this.bool
  have hset:St N M n (zcl c t env) K a w:=by
   cases c<;>simp only[zcl]<;>try exact s
   rename_i j
   have hj:env.get j = .data (.val (.bool t)):=ht
   refine s.env_cons (λej=>?_) ?_
   ·subst ej;have:=s.defers;rw[hj]at this;exact this.view λh=>h
   ·have:=s.env j;rw[hj]at this;exact this
  cases t with
  |true=>exact wpIn_cond_true hc (ihx Q Q' _ K M a w hs.1 h hset e q)
  |false=>exact wpIn_cond_false hc (ihy Q Q' _ K M a w hs.2 h hset e q)
 |block id c ih=>
  intro Q Q' env K M a w hs h s e q
  refine wpIn_block (ih _ _ env K M a w hs h s e λo env K M a w h s e=>?_)
  cases o with
  |normal=>exact q .normal env K M a w h s e
  |exit i=>
   simp only[Post.block]at h
   simp only[Exit.inBlock]
   split at h
   ·rename_i hb
    rw[if_pos (Nat.eq_of_beq_eq_true hb)]
    exact q .normal env K M a w h s e
   ·rw[if_neg (λe=>by simp_all)]
    exact q (.exit i) env K M a w h s e
  |ret=>exact q .ret env K M a w h s e
  |panic x=>exact q (.panic x) env K M a w h s e
 |loop c ih=>
  intro Q Q' env K M a w hs h s e q
  obtain⟨S,mk,I,μ,⟨s0,hI0,hw0⟩,hround⟩:=h
  obtain⟨M1,st1,e1⟩:=s.weak e hw0
  refine wp_loop_ghost (S:={ s:S // I s }) (λs a w=>∃M,St N M n (mk s.1).1 (mk s.1).2 a w/\Evo M0 w0 M w) (λs=>μ s.1) (λs a w hJ=>?_) ⟨s0,hI0⟩ a w ⟨M1,st1,e1⟩
  obtain⟨M,st,e⟩:=hJ
  refine ih _ _ _ _ M a w hs (hround s.1 s.2) st e λo env K M a w h st e=>?_
  cases o with
  |normal=>
   obtain⟨s',h1,h2,h3⟩:=h
   obtain⟨M',st',e'⟩:=st.weak e h3
   exact⟨⟨s',h1⟩,h2,M',st',e'⟩
  |exit i=>exact q (.exit i) env K M a w h st e
  |ret=>exact q .ret env K M a w h st e
  |panic x=>exact q (.panic x) env K M a w h st e
 |rangeFunc f ps x y ihx ihy=>grind[vc]
 |exit id=>intro Q Q' env K M a w _ h s e q;exact wpIn_exit (q (.exit id) env K M a w h s e)
 |scope c ih=>grind[vc]
 |label l=>grind[vc]
 |goto l=>grind[vc]
 |ret=>intro Q Q' env K M a w _ h s e q;exact wpIn_ret (q .ret env K M a w h s e)
 |refuse why=>grind[vc]
def U2(P:Program)(c:Code)(Q:Post)(env:Env)(K:Heap):Prop:=
 ∀ [Lo] (ρ:Option Nat) (N:aS) (n:Nat) (M0:Mem) (w0:World) (Q':Exit->Act->World->Prop) (M:Mem) (a:Act) (w:World),cZ n c=true->(ρ≠none->qg c=true)->(ρ=none->∀b,w0.heap.size<=b->Lo.ok b)->St N M n env K a w->Evo M0 w0 M w->QOk N M0 w0 n Q Q'->mQ ρ P c Q' a w
end
def zhg(T:Tbl)(env:Env)(K:Heap):ResultVar->Option AV
 | .tmp t=>some (env.get t)
 | .cell t ty=>match env.get t with
  | .ptr id off=>match K.get id with
   |some (.cells cs)=>match T.sh ty with
    |some true=>match Nat.ble (off+(T.at ty).size) cs.length with
     |true=>some (FC ((cs.drop off).take (T.at ty).size))
     |false=>none
    |some false=>cs[off]?
    |none=>none
   |_=>none
  |_=>none
def Ry(T:Tbl)(env:Env)(K:Heap):List ResultVar->Option (List AV)
 | []=>some []
 |r::rs=>match zhg T env K r with
  |none=>none
  |some d=>match Ry T env K rs with |some ds=>some (d::ds) |none=>none
def OT(T:Tbl)(rs:List ResultVar)(env:Env)(K:Heap):Option AV:=match Ry T env K rs with
 |none=>none
 |some [d]=>some d
 |some ds=>some (.tuple ds)
def z6s(f:AV->(D->Prop)->Prop):List AV->(List D->Prop)->Prop
 | [],k=>k []
 |x::r,k=>f x λd=>z6s f r λds=>k (d::ds)
def frz(K:Heap)(keep:List Nat):Nat->AV->(D->Prop)->Prop
 | 0,_,_=>False
 |n+1,x,k=>match x with
  | .data d=>k d
  | .nilsl sz=>k (.sl sz [])
  | .gs _ sz es=>k (.sl sz es)
  | .iface t v=>frz K keep n v λd=>k (.iface t d)
  | .agg cs=>z6s (frz K keep n) cs λds=>k (.agg ds)
  | .tuple cs=>z6s (frz K keep n) cs λds=>k (.tuple ds)
  | .fn f cs=>z6s (frz K keep n) cs λds=>k (.fn f ds)
  | .ptr id off=>match nU keep id with
   |true=>False
   |false=>match K.get id with
    |some (.cells cs)=>(cs.drop off).all AV.scalar=true/\z6s (frz K keep n) (cs.drop off) λds=>k (.ptr ds)
    |_=>False
  | .own id vr sz off len=>match nU keep id with
   |true=>False
   |false=>match K.get id with
    |some (.arr vr' sz' es)=>(vr=vr'/\sz=sz')/\∃r,(off+len<=es.length/\r=(es.drop off).take len)/\k (.sl sz r)
    |_=>False
  | .eptr id vr sz i off=>match nU keep id with
   |true=>False
   |false=>match K.get id with
    |some (.arr vr' sz' es)=>(vr=vr'/\sz=sz')/\∃e,es[i]? = some e/\k (.ptr (e.drop off))
    |_=>False
  |_=>False
def Rz(f:AV->AV->Prop):List AV->List AV->Prop
 | [],[]=>True
 |x::r,y::s=>f x y/\Rz f r s
 |_,_=>False
def OU(K:Heap)(keep:List Nat)(τ:List (Nat×Nat)):Nat->AV->AV->Prop
 | 0,_,_=>False
 |n+1,x,y=>match y with
  | .data d=>frz K keep n x λd'=>d'=d
  | .tuple ys=>match x with
   | .tuple xs=>Rz (OU K keep τ n) xs ys
   | .data (.tuple ds)=>Rz (OU K keep τ n) (ds.map .data) ys
   |_=>False
  | .agg ys=>match x with
   | .agg xs=>Rz (OU K keep τ n) xs ys
   | .data (.agg ds)=>Rz (OU K keep τ n) (ds.map .data) ys
   |_=>False
  | .iface t y=>match x with
   | .iface t' x=>t'=t/\OU K keep τ n x y
   | .data (.iface t' d)=>t'=t/\OU K keep τ n (.data d) y
   |_=>False
  |y=>x=y.ren τ
def zda(K:Heap)(keep:List Nat)(τ:List (Nat×Nat))(b:Block):Block->Prop
 | .cells ys=>match b with | .cells xs=>Rz (OU K keep τ 100) xs ys |_=>False
 | .arr vr sz es=>b = .arr vr sz es
 | .tok sz n=>b = .tok sz n
 | .map g l es=>b = .map g l es
 | .rnd R=>b = .rnd R
 | .dead=>b = .dead
 | .adr i c=>b = .adr (rn τ i) c
def zcm(K:Heap)(keep:List Nat)(τ:List (Nat×Nat)):Heap->Prop
 | []=>True
 |(i,b)::r=>(match K.get (rn τ i)with |some b0=>zda K keep τ b0 b |none=>False)/\zcm K keep τ r
def fixed(τ:List (Nat×Nat)):List Nat->Bool
 | []=>true
 |i::r=>Nat.beq (rn τ i) i&&fixed τ r
def kX:List Nat->Bool
 | []=>true
 |i::r=>bI i&&kX r
def Y4(τ:List (Nat×Nat))(K0 K1:Heap)(out:AV):Bool:=
 pO (aO τ (keys K1))&&(allIn (keys K1) (keys K0)&&(fixed τ (keys K0)&&(allIn (keys K1) out.ids&&allIn (keys K1) (Ui K1))))
def fin(K0:Heap)(K:Heap)(x y:AV)(K1:Heap):Prop:=
 ∃τ,Y4 τ K0 K1 y=true/\OU K (aO τ (keys K1)) τ 100 x y/\zcm K (aO τ (keys K1)) τ K1
def finR(T:Tbl)(rs:List ResultVar)(K0:Heap)(out:gG)(K1:Heap)(env:Env)(K:Heap):Prop:=match OT T rs env K with
 |some x=>match out with | .ret y=>fin K0 K x y K1 | .pan _=>False
 |none=>False
def YE(Df:FuncId->List AV->Option D->Bool->Heap->Heap->Prop)(f:FuncId)(as:List AV)(p:Option D)(thr:Bool)(env:Env)(K:Heap)(next:Heap->Prop):Prop:=
 ∃(as0:List AV) (K0:Heap) (K1:Heap) (ρ:List (Nat×Nat)),Df f as0 p thr K0 K1/\AV.ren.go ρ as0=as/\Heap.sub ρ K K0/\bV ρ K0 K1 .top env K (reach K 1000 (AV.ids.go as) [])=true/\next (ku ρ K1 K)
@[irreducible] def Dc (K0 K:Heap) (x:AV) (K1:Heap) (out:gG):Prop:=match out with | .pan y=>fin K0 K x y K1 | .ret _=>False
@[irreducible] def Eh (T:Tbl) (Df:FuncId->List AV->Option D->Bool->Heap->Heap->Prop) (f:FuncId) (as:List AV) (d:D) (rs:List ResultVar) (K0:Heap) (env:Env) (K K1:Heap) (out:gG):Prop:=match out with
 | .ret y=>YE Df f as (some d) false env K λK=>finR T rs K0 (.ret y) K1 env K
 | .pan y=>D.flat d=true/\YE Df f as (some d) true env K λK=>Dc K0 K (.data d) K1 (.pan y)
theorem Eh.ret{T:Tbl}{Df:FuncId->List AV->Option D->Bool->Heap->Heap->Prop}{f:FuncId}{as:List AV}{d:D}{rs:List ResultVar}{K0:Heap}{env:Env}{K K1:Heap}{y:AV}(h:YE Df f as (some d) false env K λK=>finR T rs K0 (.ret y) K1 env K):Eh T Df f as d rs K0 env K K1 (.ret y):=by
 grind[Eh]
theorem Eh.pan{T:Tbl}{Df:FuncId->List AV->Option D->Bool->Heap->Heap->Prop}{f:FuncId}{as:List AV}{d:D}{rs:List ResultVar}{K0:Heap}{env:Env}{K K1:Heap}{y:AV}{out:gG}(e:out = .pan y)(hf:D.flat d=true)(h:YE Df f as (some d) true env K λK=>Dc K0 K (.data d) K1 (.pan y)):Eh T Df f as d rs K0 env K K1 out:=by
 grind[Eh]
theorem Eh.elim{T:Tbl}{Df:FuncId->List AV->Option D->Bool->Heap->Heap->Prop}{f:FuncId}{as:List AV}{d:D}{rs:List ResultVar}{K0:Heap}{env:Env}{K K1:Heap}{out:gG}(h:Eh T Df f as d rs K0 env K K1 out):(∃y,out = .ret y/\YE Df f as (some d) false env K λK=>finR T rs K0 out K1 env K)\/(D.flat d=true/\YE Df f as (some d) true env K λK=>Dc K0 K (.data d) K1 out):=by
 unfold Eh at h;grind
def sD(T:Tbl)(Df:FuncId->List AV->Option D->Bool->Heap->Heap->Prop)(rs:List ResultVar)(K0:Heap)(out:gG)(K1:Heap):Post
 | .normal,env,K | .ret,env,K=>match env.get gq with
  | .dfr [.fn f caps]=>YE Df f caps none false env K λK=>finR T rs K0 out K1 env K
  | .dfr _=>False
  |_=>finR T rs K0 out K1 env K\/∃env' K',z6b env K env' K'/\finR T rs K0 out K1 env' K'
 | .panic x,env,K=>match env.get gq with
  | .dfr [.fn f caps]=>match x.toD? with
   |some d=>Eh T Df f caps d rs K0 env K K1 out
   |none=>False
  | .dfr _=>False
  |_=>Dc K0 K x K1 out
 | .exit _,_,_=>False
def iU:Nat->List AV->Env
 |_,[]=>[]
 |i,d::r=>(i,d)::iU (i+1) r
end Go.Fw
