/- A part of the proof. -/
import Derived.Test.YtgehpmgkaeohaaaGreatDoorZK1
set_option linter.all false
namespace Go.Fw
variable [ae]
theorem dW{N:aS}{M:Mem}{w:World}(m:bT N M w){T:Tbl}{env:Env}{a:Act}(t:TypeId)(x:Operand)(h:∀j,x = .tmp j->aF N M w (env.get j) (a.tmps.getD j undef)):aF N M w (ev T env t x) (a.eval x):=by
 cases x with
 |tmp j=>exact h j rfl
 |global g=>
  simp[ev]
  split
  ·rename_i h;exact .data _ _ (m.globRel h)
  ·exact .top _
 |func f=>exact .fn f [] #[] (by simp) (by simp)
 |const v=>
  simp[ev,Act.eval]
  unfold Lj
  split
  ·rename_i s;exact .data _ _ (by have:=DRel.str (F:=Fb N M) (w:=w) s.data.toList;omega)
  ·split
   ·exact .nilsl _
   ·exact .top _
  ·exact .data _ _ (.agg _ _ (by simp) λi d hd=>by
    simp at hd
    obtain⟨v,hv,rfl⟩:=hd
    simp[hv];exact .val _)
  ·exact .data _ _ (.val _)
theorem Us{T:Tbl}{env:Env}{t:TypeId}{x:Operand}{id:Nat}(h:(ev T env t x).men id=true):∃j,x = .tmp j/\(env.get j).men id=true:=by
 cases x with
 |tmp j=>exact⟨j,rfl,h⟩
 |global g=>
  grind[ev,AV.men]
 |func f=>simp[ev,AV.men,AV.men.go]at h
 |const v=>
  simp[ev]at h
  unfold Lj at h
  grind[AV.men]
theorem wV{N:aS}{M:Mem}{w:World}{K:Heap}{T:Tbl}{env:Env}(t:TypeId)(x:Operand)(h:∀j,x = .tmp j->Hk N M w K (env.get j)):Hk N M w K (ev T env t x):=by
 intro id hi
 obtain⟨j,rfl,hj⟩:=Us hi
 exact h j rfl id hj
theorem Q7{ρ:Operand->Value}{o:Oper}{t:TypeId}{x v:Operand}(ho:o.op = .store t x v):execOp ρ o=(do Instr.storeAt t (ρ x) (ρ v);pure .skip):=by cases o;subst ho;rfl
theorem Ih{ρ:Operand->Value}{o:Oper}{t:TypeId}{x:Operand}(ho:o.op = .load t x):execOp ρ o=(do pure (.value (<-Instr.loadAt t (ρ x)))):=by cases o;subst ho;rfl
theorem Ut{ρ:Operand->Value}{o:Oper}{x:Operand}(ho:o.op = .move x):execOp ρ o=pure (.value (ρ x)):=by cases o;subst ho;rfl
theorem Ls{ρ:Operand->Value}{o:Oper}{x:Operand}(ho:o.op = .assign x):execOp ρ o=pure (.value (ρ x)):=by cases o;subst ho;rfl
theorem Ii{ρ:Operand->Value}{o:Oper}{c x y:Operand}(ho:o.op = .pick c x y):execOp ρ o=(do pure (.value (if <-asBool (ρ c)then ρ x else ρ y))):=by cases o;subst ho;rfl
theorem wW{ρ:Operand->Value}{o:Oper}{t:TypeId}{ps:Array (Nat×Operand)}(ho:o.op = .build t ps):execOp ρ o=(do pure (.value (<-Instr.build t (ps.map λ(i,x)=>(i,ρ x))))):=by cases o;subst ho;rfl
theorem pW{ρ:Operand->Value}{o:Oper}{t:TypeId}{n:Nat}{ps:Array (Nat×Operand)}(ho:o.op = .buildSlice t n ps):execOp ρ o=(do pure (.value (<-Instr.buildSlice t n (ps.map λ(i,x)=>(i,ρ x))))):=by cases o;subst ho;rfl
theorem wX{ρ:Operand->Value}{o:Oper}{op:BinOp}{t u:TypeId}{x y:Operand}(ho:o.op = .binOp op t x y u):execOp ρ o=(do pure (.value (<-(do eqGuard op t x y (ρ x) (ρ y);binOp op t (ρ x) (ρ y))))):=by cases o;subst ho;rfl
theorem Uu{ρ:Operand->Value}{o:Oper}{op:UnOp}{t:TypeId}{x:Operand}(ho:o.op = .unOp op t x):execOp ρ o=(do pure (.value (<-Op.unary op (ρ x)))):=by cases o;subst ho;rfl
theorem Dj{ρ:Operand->Value}{o:Oper}{s:TypeId}{x:Operand}{f:Nat}(ho:o.op = .fieldAddr s x f):execOp ρ o=(do pure (.value (<-Instr.fieldAt s (ρ x) f))):=by cases o;subst ho;rfl
theorem Q8{ρ:Operand->Value}{o:Oper}{s:TypeId}{x:Operand}{f:Nat}(ho:o.op = .field s x f):execOp ρ o=(do pure (.value (<-Instr.field s (ρ x) f))):=by cases o;subst ho;rfl
theorem rX{ρ:Operand->Value}{o:Oper}{t:TypeId}{x i:Operand}(ho:o.op = .indexAddr t x i):execOp ρ o=(do pure (.value (<-Instr.indexAt t (ρ x) (ρ i)))):=by cases o;subst ho;rfl
theorem Q9{ρ:Operand->Value}{o:Oper}{t:TypeId}{x i:Operand}(ho:o.op = .index t x i):execOp ρ o=(do pure (.value (<-Instr.index t (ρ x) (ρ i)))):=by cases o;subst ho;rfl
theorem Rh{ρ:Operand->Value}{o:Oper}{t:TypeId}{x:Operand}{l h m:Option Operand}(ho:o.op = .slice t x l h m):execOp ρ o=(do pure (.value (<-Instr.sliceAt t (ρ x) (l.map ρ) (h.map ρ) (m.map ρ)))):=by cases o;subst ho;rfl
theorem yB{ρ:Operand->Value}{o:Oper}{x:Operand}{i:Nat}(ho:o.op = .extract x i):execOp ρ o=(do pure (.value (<-Instr.extract (ρ x) i))):=by cases o;subst ho;rfl
theorem uP{ρ:Operand->Value}{o:Oper}{t:TypeId}{x:Operand}(ho:o.op = .makeInterface t x):execOp ρ o=(do pure (.value (<-Instr.makeInterface t (ρ x)))):=by cases o;subst ho;rfl
theorem uQ{ρ:Operand->Value}{o:Oper}{f:Fn}{x y:Array Operand}(ho:o.op = .makeFunc f x y):execOp ρ o=(do pure (.value (<-Instr.makeFunc f (x.map ρ) (y.map ρ)))):=by cases o;subst ho;rfl
theorem Ri{ρ:Operand->Value}{o:Oper}{x:Operand}(ho:o.op = .panic x):execOp ρ o=(do pure (.value (<-Instr.panic (ρ x)))):=by cases o;subst ho;rfl
theorem jP{ρ:Operand->Value}{o:Oper}{c:Call}(ho:o.op = .call c):execOp ρ o=(do let d <-resolve ρ c o.type;invoke d.target d.args):=by cases o;subst ho;rfl
inductive Wr where
 |no |new (d:Nat) |st (id:Nat) |tk (id:Nat)
variable {env : Env}
def Wr.ids:Wr->List Nat | .no=>[] | .new d=>[d] | .st i=>[i] | .tk i=>[i]
def z6g(M M':Mem):Wr->Prop
 | .no | .st _=>M'=M
 | .tk id=>Tr M M' id
 | .new _=>True
def upd(K:Heap):Option (Nat×Block)->Heap
 |none=>K
 |some (id,b)=>K.put id b
def WrD(wr:Wr)(δ:Option (Nat×Block)):Prop:=(wr.ids = []/\δ=none)\/∃id blk,wr.ids = [id]/\δ=some (id,blk)
theorem WrD.names{wr:Wr}{δ:Option (Nat×Block)}(h:WrD wr δ):∀id,id∈wr.ids->∃blk,δ=some (id,blk):=by
 rcases h with⟨h1,_⟩ |⟨i,blk,h1,h2⟩<;>simp_all
theorem WrD.back{wr:Wr}{δ:Option (Nat×Block)}(h:WrD wr δ):∀id blk,δ=some (id,blk)->id∈wr.ids:=by
 rcases h with⟨_,h2⟩ |⟨i,b,h1,h2⟩<;>simp_all
def pX(env:Env)(K:Heap):Wr->Prop
 | .new d=>bI d=false/\fU d env=false/\pK d K=false
 |_=>True
theorem fQ{id:Nat}{K:Heap}{p:Prop}(h:fresh id env K p):pX env K (.new id)/\p:=by
 unfold fresh at h
 split at h<;>try exact h.elim
 rename_i h0
 split at h<;>try exact h.elim
 rename_i h1
 split at h
 ·exact h.elim
 ·rename_i h2
  exact⟨⟨h0,h1,h2⟩,h⟩
def wO(P:Program)(o:Oper)(env:Env)(K:Heap)(r:AV)(wr:Wr)(δ:Option (Nat×Block)):Prop:=
 ∀(N:aS) (M:Mem) (a:Act) (w:World),bT N M w->(∀j,Operand.tmp j∈o.op.operands->aF N M w (env.get j) (a.tmps.getD j undef))->(∀j,Operand.tmp j∈o.op.operands->Hk N M w K (env.get j)) ->
  ∀(next:Act->World->Prop) Q,(∀v M' w',Step M w M' w' wr.ids->z6g M M' wr->aF N M' w' r v->(∀id blk,δ=some (id,blk)->id∈wr.ids/\eP N M' w' id blk)->next (a.put o.dst v) w')->o.wp P a w next Q
def z6h(P:Program)(o:Oper)(env:Env)(K:Heap)(p:AV):Prop:=
 ∀(N:aS) (M:Mem) (a:Act) (w:World),bT N M w->(∀j,Operand.tmp j∈o.op.operands->aF N M w (env.get j) (a.tmps.getD j undef))->(∀j,Operand.tmp j∈o.op.operands->Hk N M w K (env.get j)) ->
  ∀(next:Act->World->Prop) (Q:Exit->Act->World->Prop),(∀v w',Step M w M w' []->aF N M w' p v->Q (.panic [{ v,recovered:=false }]) a w')->o.wp P a w next Q
theorem wO.pure{P:Program}{o:Oper}{env:Env}{K:Heap}{r:AV}
  (h:∀(N:aS) (M:Mem) (a:Act) (w:World),bT N M w->(∀j,Operand.tmp j∈o.op.operands->aF N M w (env.get j) (a.tmps.getD j undef))->(∀j,Operand.tmp j∈o.op.operands->Hk N M w K (env.get j)) ->
   ∃z,(execOp a.eval o).run P w = .ok (.value z) w/\aF N M w r z):wO P o env K r .no none:=by
 intro N M a w m h1 h2 next Q hn
 obtain⟨z,hz,hr⟩:=h N M a w m h1 h2
 simp[Oper.wp,hz]
 exact hn z M w (Step.refl M w) rfl hr (by simp)
def lZ(P:Program)(f:FuncId):Prop:=∃fn,P.funcs[f]? = some fn/\(fn.name == "runtime.NumGoroutine")=false/\fn.body.isNone=false
def lY.rel(F:aS)(w:World)(e:Ending):lY->Prop
 | .ret d=>∃v,e = .returned v/\DRel F w d v
 | .pan d=>∃v,e = .panicked [{ v,recovered:=false }]/\DRel F w d v
def Oy(P:Program)(f:FuncId)(ds:List D)(out:lY):Prop:=
 lZ P f/\∀(N:aS) (w:World) (args:Array Value),bT N yA w->args.size=ds.length->(∀(i:Nat) d,ds[i]? = some d->DRel N w d (args.getD i undef)) ->
  Calls P f args w λe w'=>Step yA w yA w' []/\out.rel N w' e
def zhq(P:Program)(f:FuncId)(ds:List D)(d:D):Prop:=
 ∀(N:aS) (w:World) (args:Array Value),bT N yA w->args.size=ds.length->(∀(i:Nat) d,ds[i]? = some d->DRel N w d (args.getD i undef)) ->
  ∃v,(callFunc f args).run P w = .ok (.value v) w/\DRel N w d v
def PCall(P:Program)(f:FuncId)(ds:List D)(out:lY):Prop:=Oy P f ds out\/∃d,out = .ret d/\zhq P f ds d
theorem Step.of_mem0{w w':World}(h:Step yA w yA w' [])(M:Mem):Step M w M w' []:=
 ⟨h.os,h.tape,h.output,h.size,λb hb _=>h.block b hb (by simp),λb o u _ hc=>h.cell b o u (by simp) hc,h.shape,λ_ _=>rfl,by simp,by simp⟩
theorem YO{T:Tbl}{t:TypeId}{x:Operand}{d:Nat}(h:fU d env=false):(ev T env t x).men d=false:=by
 grind[Us,oh]
theorem Uw{x c:AV}{i id:Nat}(h:x.cells[i]? = some c)(hc:c.men id=true):x.men id=true:=by
 unfold AV.cells at h
 split at h
 ·grind[AV.men,kU]
 ·simp at h
  obtain⟨d,_,rfl⟩:=h
  simp[AV.men]at hc
 grind
theorem zcy{M:Mem}{d:Nat}{o:Option Own}{x:AV}(h:x.men d=false):∀id,x.men id=true->Tr M (M.set d o) id:=by
 intro id hi
 by_cases e:id=d
 ·simp_all
 ·exact .inl (Mem.set_other _ _ _ _ e)
theorem wY{P:Program}{o:Oper}{N:aS}{M:Mem}{a:Act}{w:World}{d:Nat}{arr:Array Value}{t:TypeId}{cs:List AV}{next:Act->World->Prop}{Q:Exit->Act->World->Prop}
  (hrun:(execOp a.eval o).run P w = .ok (.value (.pointer (some ⟨w.heap.size,0,none⟩))) (w.alloc (.cells arr t)))
  (hn:∀v M' w',Step M w M' w' (Wr.new d).ids->z6g M M' (.new d)->aF N M' w' (.ptr d 0) v->(∀id blk,some (d,Block.cells cs)=some (id,blk)->id∈(Wr.new d).ids/\eP N M' w' id blk)->next (a.put o.dst v) w')
  (hl:arr.size=cs.length) (hc:∀(i:Nat) c,cs[i]? = some c->aF N M w c (arr.getD i undef)) (hm:∀(i:Nat) c,cs[i]? = some c->c.men d=false):o.wp P a w next Q:=by
 simp[Oper.wp,hrun]
 have hs:Step M w (M.set d (some (.blk w.heap.size))) (w.alloc (.cells arr t)) [d]:=Step.alloc M w d _ _ (λb x h=>h)
 refine hn _ _ _ hs trivial (.ptr _ _ _ λb e=>?_) ?_
 ·grind[Mem.set_same]
 ·rintro id blk e
  obtain⟨rfl,rfl⟩:=e
  exact⟨by simp[Wr.ids],w.heap.size,arr,t,Mem.set_same _ _ _,pV w _ _,hl,λi c hc'=>(hc i c hc').keep hs.keeps hs.shape (zcy (hm i c hc'))⟩
section
variable {P : Program} {T : Tbl} (hT : iQ P T)
theorem z6i{o:Oper}{t:TypeId}{x:Operand}{d:Nat}{env:Env}{K:Heap}(ho:o.op = .box t x)(hc:(ev T env t x).celled=true)(hf:fU d env=false) :
  wO P o env K (.ptr d 0) (.new d) (some (d,.cells (ev T env t x).cells)):=by
 intro N M a w m h1 h2 next Q hn
 have hx:aF N M w (ev T env t x) (a.eval x):=dW m t x λj e=>h1 j (by grind[Op.operands])
 obtain⟨c1,c2⟩:=hx.cellsOf hc
 refine wY (arr:=(a.eval x).cells) (t:=t) (by simp[execOp,ho,Instr.box,newVar,newRow]) hn c1 c2 λi c hi=>?_
 cases hb:c.men d with
 |false=>rfl
 |true=>have:=Uw hi hb;grind[YO]
include hT in
theorem FN{t:TypeId}(h:(T.at t).ty = .struct [])(w:World):(zeroValue t).run P w = .ok (.agg #[]) w:=by
 obtain⟨i,h1,h2⟩:=(hT t).emp h
 simp[zeroValue,typeInfo,h1,h2]
include hT in
theorem Ux{o:Oper}{t:TypeId}{d:Nat}{env:Env}{K:Heap}(ho:o.op = .alloc t)(hz:(T.at t).ty = .struct []) :
  wO P o env K (.ptr d 0) (.new d) (some (d,.cells [])):=by
 intro N M a w m h1 h2 next Q hn
 have z1:=FN hT hz w
 refine wY (arr:=#[]) (t:=t) (by simp[execOp,ho,Instr.alloc,newVar,newRow,z1,Value.cells]) hn (by simp) (λi c hc=>by simp at hc) λi c hi=>by simp at hi
include hT in
theorem Uy{o:Oper}{t:TypeId}{d:Nat}{env:Env}{K:Heap}(ho:o.op = .alloc t)(hk:T.known t=true)(hz:(T.at t).zero ≠ []) :
  wO P o env K (.ptr d 0) (.new d) (some (d,.cells (T.at t).zero)):=by
 intro N M a w m h1 h2 next Q hn
 obtain⟨z,z1,z2,z3⟩:=kE hT hk hz w
 refine wY (arr:=z.cells) (t:=t) (by simp[execOp,ho,Instr.alloc,newVar,newRow,z1]) hn z2 (λi c hc=>(z3 N M w i c hc).1) λi c hi=>?_
 have:=z3 (λ_ _=>False) yA w i c hi
 have hall:=(hT t).info (aZ hk)
 obtain⟨_,_,_,_,h4⟩:=hall
 obtain⟨_,_,_,h7⟩:=h4 hz
 have:=List.all_eq_true.1 h7 c (List.mem_of_getElem? hi)
 split at this<;>simp_all[AV.men]
theorem Ij{P:Program}{o:Oper}{t:TypeId}{x v:Operand}{a:Act}{w:World}(ho:o.op = .store t x v){b off n:Nat}{arr:Array Value}{t':TypeId}(hx:a.eval x = .pointer (some ⟨b,off,none⟩))(hr:dJ w b arr t')
  (hs:(sizeOf t).run P w = .ok n w) (hn:(a.eval v).cells.size=n) (hle:off+n<=arr.size) (hv:∀u∈(a.eval v).cells.toList,u.oneCell'=true) :
  ∃arr',(execOp a.eval o).run P w = .ok .skip (World.rewrite w b arr' t')/\arr'.size=arr.size/\∀j,arr'.getD j undef=if off<=j/\j<off+n then(a.eval v).cells.getD (j-off) undef else arr.getD j undef:=by
 obtain⟨arr',h1,h2,h3⟩:=dY (P:=P) (a.eval v).cells.toList w b off 0 arr t' hr (by simp;omega) hv
 refine⟨arr',?_,h2,λj=>?_⟩
 ·rw[Q7 ho]
  simp[Instr.storeAt,hx,Instr.sureAddr,Sem.run_bind,Sem.run_pure,Result.andThen_ok,storeVar,hs,hn]
  simp[h1]
 simp_all
include hT in
theorem Uz{o:Oper}{t:TypeId}{x v:Operand}{env:Env}{K:Heap}{id off:Nat}{cs:List AV}(ho:o.op = .store t x v)(hx:ev T env 0 x = .ptr id off)(hK:K.get id=some (.cells cs))(hk:T.known t=true)
  (hl:(ev T env t v).cells.length=(T.at t).size) (hle:off+(ev T env t v).cells.length<=cs.length) (hs:(ev T env t v).cells.all AV.scalar=true) :
  wO P o env K (.data (.val undef)) (.st id) (some (id,.cells (setRange cs off (ev T env t v).cells))):=by
 intro N M a w m h1 h2 next Q hn
 have hxr:aF N M w (ev T env 0 x) (a.eval x):=dW m 0 x λj e=>h1 j (by rw[ho,e];simp[Op.operands])
 have hvr:aF N M w (ev T env t v) (a.eval v):=dW m t v λj e=>h1 j (by rw[ho,e];simp[Op.operands])
 have hxk:Hk N M w K (ev T env 0 x):=wV 0 x λj e=>h2 j (by rw[ho,e];simp[Op.operands])
 rw[hx]at hxr hxk
 have hcel:(ev T env t v).celled=true:=by
  generalize ev T env t v=y at hs
  cases y with
  |top=>simp[AV.cells,AV.scalar]at hs
  |dfr=>simp[AV.cells,AV.scalar]at hs
  |data d=>cases d<;>simp_all[AV.cells,AV.scalar,D.scalar,AV.celled]
  |_=>rfl
 obtain⟨c1,c2⟩:=hvr.cellsOf hcel
 generalize hav:a.eval x=va at hxr
 cases hxr with
 |ptr _ _ ad ha=>
  obtain⟨b,arr,t',e1,e2,e3,e4⟩:=hxk id (by simp[AV.men]) _ hK
  obtain rfl:=ha b e1
  obtain⟨arr',r1,r2,r3⟩:=Ij (P:=P) ho hav e2 (run_sizeOf' hT (aZ hk) w) (by rw[c1,hl]) (by omega) (λu hu=>by
   obtain⟨i,hi,rfl⟩:=List.mem_iff_getElem.1 hu
   simp only[Array.length_toList]at hi
   have hc:=c2 i ((ev T env t v).cells[i]'(by omega)) (by simp)
   have hsc:=List.all_eq_true.1 hs _ (List.getElem_mem (show i<(ev T env t v).cells.length by omega))
   have:=gJ hc hsc
   simpa[hi]using this)
  simp only[Oper.wp,r1,Oper.upon_skip]
  have hst:Step M w M (World.rewrite w b arr' t') [id]:=Step.rewrite e2 e1 r2 (λj hj=>by exact absurd rfl hj) ⟨0,rfl⟩ (λ_ _=>rfl) (λow' b' o' h hh=>by
   rw[e1]at h;simp only[Option.some.injEq]at h;subst h;exact⟨hh,hh⟩)
  refine hn _ _ _ hst rfl (.data _ _ (.val _)) ?_
  rintro id' blk e
  simp only[Option.some.injEq,Prod.mk.injEq]at e
  obtain⟨rfl,rfl⟩:=e
  have hsz:(setRange cs off (ev T env t v).cells).length=cs.length:=by simp[setRange];omega
  refine⟨by simp[Wr.ids],b,arr',t',e1,dP ((Array.getElem?_eq_some_iff.1 e2).1),by omega,λi c hc=>?_⟩
  have hkeep:∀{y u},aF N M w y u->aF N M (World.rewrite w b arr' t') y u:=λhy=>hy.keep hst.keeps hst.shape λ_ _=>.inl rfl
  rw[r3 i]
  simp only[setRange]at hc
  rw[List.append_assoc,List.getElem?_append]at hc
  by_cases hi:off<=i/\i<off+(T.at t).size
  ·rw[if_pos hi]
   rw[if_neg (by simp;omega),List.getElem?_append,if_pos (by simp;omega)]at hc
   have:i-(List.take off cs).length=i-off:=by simp;omega
   rw[this]at hc
   exact hkeep (c2 _ c hc)
  ·rw[if_neg hi]
   by_cases hlt:i<off
   ·rw[if_pos (by simp;omega),List.getElem?_take,if_pos hlt]at hc
    exact hkeep (e4 i c hc)
   ·rw[if_neg (by simp;omega),List.getElem?_append,if_neg (by simp;omega),List.getElem?_drop]at hc
    have:off+(ev T env t v).cells.length+(i-(List.take off cs).length-(ev T env t v).cells.length)=i:=by simp;omega
    rw[this]at hc
    exact hkeep (e4 i c hc)
end
theorem foldl_set(off:Nat):∀(l:List Value) (k:Nat) (arr:Array Value),off+k+l.length<=arr.size ->
  ((l.zipIdx k).foldl (λ(cs:Array Value) (x:Value×Nat)=>cs.setIfInBounds (off+x.2) x.1) arr).size=arr.size /\
  ∀j,((l.zipIdx k).foldl (λ(cs:Array Value) (x:Value×Nat)=>cs.setIfInBounds (off+x.2) x.1) arr).getD j undef=if off+k<=j/\j<off+k+l.length then l.getD (j-(off+k)) undef else arr.getD j undef:=by
 intro l
 induction l with
 |nil=>intro k arr _;exact⟨rfl,λj=>by simp;omega⟩
 |cons v l ih=>
  intro k arr hl
  simp at hl
  simp only[List.zipIdx_cons,List.foldl_cons]
  obtain⟨h1,h2⟩:=ih (k+1) (arr.setIfInBounds (off+k) v) (by simp;omega)
  refine⟨by rw[h1];simp,λj=>?_⟩
  rw[h2 j]
  by_cases hj:off+(k+1)<=j/\j<off+(k+1)+l.length
  ·grind
  ·rw[if_neg hj,gm _ _ _ _ (by omega)]
   grind
def UA(N:aS)(M:Mem)(w:World)(cs:List AV)(arr:Array Value):Prop:=arr.size=cs.length/\∀(i:Nat) c,cs[i]? = some c->aF N M w c (arr.getD i undef)
theorem UA.setRange{N:aS}{M:Mem}{w:World}{cs vs:List AV}{arr arr':Array Value}{o:Nat}{u:Nat->Value}(h:UA N M w cs arr)(hs:arr'.size=arr.size)(hle:o+vs.length<=cs.length)
  (hv:∀(i:Nat) c,vs[i]? = some c->aF N M w c (u i)) (hu:∀j,arr'.getD j undef=if o<=j/\j<o+vs.length then u (j-o)else arr.getD j undef):UA N M w (setRange cs o vs) arr':=by
 refine⟨by rw[hs,h.1];simp[Fw.setRange];omega,λi c hc=>?_⟩
 simp only[Fw.setRange]at hc
 rw[hu i]
 rw[List.append_assoc,List.getElem?_append]at hc
 by_cases hi:o<=i/\i<o+vs.length<;>try grind
 rw[if_neg hi]
 by_cases hlt:i<o
 ·rw[if_pos (by simp;omega),List.getElem?_take,if_pos hlt]at hc
  exact h.2 i c hc
 ·rw[if_neg (by simp;omega),List.getElem?_append,if_neg (by simp;omega),List.getElem?_drop]at hc
  rw[show o+vs.length+(i-(List.take o cs).length-vs.length)=i by simp;omega]at hc
  exact h.2 i c hc
theorem fill_ok'{N:aS}{M:Mem}{w:World}{pl:Nat->Option (Nat×Nat)}{L:Nat}:∀(parts:List (Nat×AV)) (ps:List (Nat×List AV)) (vp:List (Nat×Value)) (cs:List AV) (arr:Array Value),placed pl L parts=some ps->cs.length=L->UA N M w cs arr ->
  vp.map (·.1)=parts.map (·.1)->(∀(i:Nat) p q,parts[i]? = some p->vp[i]? = some q->aF N M w p.2 q.2)->∃arr',Instr.fill pl arr vp=some arr'/\UA N M w (nY cs ps) arr'/\arr'.size=arr.size:=by
 intro parts
 induction parts with
 |nil=>
  intro ps vp cs arr h _ hr hvp _
  simp[placed]at h;subst h
  have:vp = []:=by simpa using hvp
  subst this
  exact⟨arr,rfl,hr,rfl⟩
 |cons p parts ih=>
  obtain⟨i,v⟩:=p
  intro ps vp cs arr h hL hr hvp hrel
  cases vp with
  |nil=>simp at hvp
  |cons q vp=>
   obtain⟨i',u⟩:=q
   simp at hvp
   obtain⟨rfl,hvp⟩:=hvp
   simp only[placed]at h
   split at h<;>try(simp at h;done)
   rename_i o n hpl
   split at h<;>try(simp at h;done)
   rename_i hb
   simp only[Bool.and_eq_true]at hb
   obtain⟨hb1,hb2,hb3⟩:=hb
   have hb2:=Nat.eq_of_beq_eq_true hb2
   have hb3:=Nat.le_of_ble_eq_true hb3
   split at h<;>try(simp at h;done)
   rename_i ps' hps
   simp at h;subst h
   have hu:=hrel 0 (i',v) (i',u) (by simp) (by simp)
   obtain⟨c1,c2⟩:=hu.cellsOf hb1
   simp only at c1 c2
   have hsz:=hr.1
   obtain⟨f1,f2⟩:=foldl_set o u.cells.toList 0 arr (by simp;omega)
   have hCR:UA N M w (setRange cs o v.cells) ((u.cells.toList.zipIdx 0).foldl (λ(cs:Array Value) (x:Value×Nat)=>cs.setIfInBounds (o+x.2) x.1) arr):=by
    refine hr.setRange (u:=λi=>u.cells.getD i undef) f1 (by omega) c2 λj=>?_
    simp_all
   obtain⟨arr',g1,g2,g3⟩:=ih ps' vp _ _ hps (by simp[setRange];omega) hCR hvp λi p q hp hq=>hrel (i+1) p q (by simpa using hp) (by simpa using hq)
   refine⟨arr',?_,g2,by rw[g3,f1]⟩
   simp only[Instr.fill,hpl]
   rw[if_neg (by simp;omega)]
   rw[<-g1]
   rw[<-Array.foldl_toList]
   simp[Array.toList_zipIdx]
theorem FO{N:aS}{M:Mem}{w:World}{pl:Nat->Option (Nat×Nat)}{L:Nat}:∀(parts:List (Nat×AV)) (ps:List (Nat×List AV)) (vp:List (Nat×Value)) (cs:List AV) (arr:Array Value),placed pl L parts=some ps->cs.length=L->UA N M w cs arr ->
  vp.map (·.1)=parts.map (·.1)->(∀(i:Nat) p q,parts[i]? = some p->vp[i]? = some q->aF N M w p.2 q.2)->∃arr',Instr.fill pl arr vp=some arr'/\UA N M w (splice cs ps) arr'/\arr'.size=arr.size:=by
 grind[Uh,fill_ok']
theorem nI{ρ:Operand->Value}(ps:Array (Nat×Operand)):(ps.map λ(x:Nat×Operand)=>match x with |(i,x)=>(i,ρ x)).toList=ps.toList.map λx=>(x.1,ρ x.2):=by
 simp
theorem uS{N:aS}{M:Mem}{w:World}(m:bT N M w){T:Tbl}{env:Env}{a:Act}{ps:Array (Nat×Operand)}(h:∀x∈ps.toList,∀j,x.2 = .tmp j->aF N M w (env.get j) (a.tmps.getD j undef)) :
  ∀(i:Nat) (p:Nat×AV) (q:Nat×Value),(ps.toList.map λx=>(x.1,ev T env 0 x.2))[i]? = some p->(ps.toList.map λx=>(x.1,a.eval x.2))[i]? = some q->aF N M w p.2 q.2:=by
 grind[dW]
section
variable {P : Program} {T : Tbl} (hT : iQ P T)
include hT
theorem run_places{fields:Array Field}(h:(fields.toList.map λf=>(f.offset,f.type)).all (λx=>T.known x.2)=true)(w:World) :
  (fields.mapM λf=>do pure (f.offset,<-sizeOf f.type):Sem (Array (Nat×Nat))).run P w = .ok (fields.map λf=>(f.offset,(T.at f.type).size)) w:=by
 obtain⟨l⟩:=fields
 have:∀(l:List Field),(l.map λf=>(f.offset,f.type)).all (λx=>T.known x.2)=true->(l.mapM λf=>do pure (f.offset,<-sizeOf f.type):Sem (List (Nat×Nat))).run P w = .ok (l.map λf=>(f.offset,(T.at f.type).size)) w:=by
  intro l
  induction l with
  |nil=>intro _;rfl
  |cons f l ih=>
   intro hl
   simp only[List.map_cons,List.all_cons,Bool.and_eq_true]at hl
   rw[List.mapM_cons]
   simp only[Sem.run_bind,run_sizeOf' hT (aZ hl.1),Result.andThen_ok,Sem.run_pure,ih hl.2,List.map_cons]
 simp_all
theorem UB{o:Oper}{t:TypeId}{ps:Array (Nat×Operand)}{env:Env}{K:Heap}{next:Next}(ho:o.op = .build t ps)(h:DW T t (ps.toList.map λp=>(p.1,ev T env 0 p.2)) K next) :
  ∃r,next r K/\wO P o env K r .no none:=by
 unfold DW at h
 split at h
 ·rename_i z0 z hk hz
  have hzne:(T.at t).zero ≠ []:=by rw[hz];simp
  have hcr:∀N M w,∃zv:Value,(zeroValue t).run P w = .ok zv w/\UA N M w (z0::z) zv.cells:=by
   intro N M w
   obtain⟨zv,q1,q2,q3⟩:=kE hT hk hzne w
   rw[hz]at q2 q3
   exact⟨zv,q1,q2,λi c hc=>(q3 N M w i c hc).1⟩
  have hmem:∀{N:aS} {M:Mem} {a:Act} {w:World},(∀j,Operand.tmp j∈o.op.operands->aF N M w (env.get j) (a.tmps.getD j undef))->∀x∈ps.toList,∀j,x.2 = .tmp j->aF N M w (env.get j) (a.tmps.getD j undef):=by
   intro N M a w h1 x hx j e
   refine h1 j ?_
   rw[ho];simp only[Op.operands,List.mem_toArray,List.mem_map]
   exact⟨x,hx,e⟩
  split at h
  ·rename_i fs hty
   split at h<;>try exact h.elim
   rename_i hall
   split at h<;>try exact h.elim
   rename_i pl hpl
   refine⟨_,h,wO.pure λN M a w m h1 h2=>?_⟩
   obtain⟨zv,q1,q2⟩:=hcr N M w
   obtain⟨fields,f1,f2⟩:=qN hT hty
   have hp:=run_places hT (fields:=fields) (by grind) w
   obtain⟨arr',g1,g2,g3⟩:=FO _ _ (ps.toList.map λx=>(x.1,a.eval x.2)) _ zv.cells hpl rfl q2 (by simp) (uS m (hmem h1))
   have hpl':(λi=>(fields.map λf=>(f.offset,(T.at f.type).size))[i]?)=plS T fs:=by
    funext i
    simp only[plS,<-f2,List.getElem?_map,Array.getElem?_toList,Array.getElem?_map]
    cases fields[i]?<;>rfl
   refine⟨.agg arr',?_,uK g2.1 g2.2⟩
   rw[wW ho]
   simp only[Instr.build,Sem.run_bind,q1,Result.andThen_ok,run_underlying f1,hp,nI,hpl',g1,Sem.run_pure]
  ·rename_i n e hty
   split at h<;>try exact h.elim
   rename_i hke
   split at h
   ·rename_i pl hpl
    refine⟨_,h,wO.pure λN M a w m h1 h2=>?_⟩
    obtain⟨zv,q1,q2⟩:=hcr N M w
    obtain⟨arr',g1,g2,g3⟩:=FO _ _ (ps.toList.map λx=>(x.1,a.eval x.2)) _ zv.cells hpl rfl q2 (by simp) (uS m (hmem h1))
    refine⟨.agg arr',?_,uK g2.1 g2.2⟩
    rw[wW ho]
    have hpl':(λi=>some (i * (T.at e).size,(T.at e).size))=plA (T.at e).size:=rfl
    simp only[Instr.build,Sem.run_bind,q1,Result.andThen_ok,run_underlying (nH hT hty),run_sizeOf' hT (aZ hke),nI,hpl',g1,Sem.run_pure]
   ·exact h.elim
  ·exact h.elim
 ·rename_i hk hz
  split at h
  ·rename_i hty hps
   have hps:ps = #[]:=by
    simp_all
   refine⟨_,h,wO.pure λN M a w m h1 h2=>?_⟩
   obtain⟨fields,f1,f2⟩:=qN hT hty
   have hf:fields = #[]:=by
    simp_all
   subst hf hps
   refine⟨.agg #[],?_,.data _ _ (.agg _ _ rfl (λi d hd=>by simp at hd))⟩
   rw[wW ho]
   simp[Instr.build,FN hT hty w,run_underlying f1,Instr.fill,Value.cells]
  ·exact h.elim
 ·exact h.elim
omit hT in
theorem Oz:∀(n:Nat) (z:List AV) (i:Nat),(YL z n).length=n * z.length/\(i<n * z.length->(YL z n)[i]? = z[i % z.length]?):=by
 intro n
 induction n with
 |zero=>intro z i;simp[YL]
 |succ n ih=>
  intro z i
  refine⟨by simp[YL,(ih z 0).1,Nat.add_mul,Nat.add_comm],λhi=>?_⟩
  simp only[YL,List.getElem?_append]
  by_cases hlt:i<z.length
  ·rw[if_pos hlt,Nat.mod_eq_of_lt hlt]
  ·rw[if_neg hlt,(ih z (i-z.length)).2 (by rw[Nat.add_mul]at hi;omega)]
   congr 1
   rw[<-Nat.mod_eq_sub_mod (by omega)]
omit hT in
theorem D5(sz:Nat):∀(n:Nat) (ds:List D),ds.length=n * sz->(chunks sz n ds).length=n/\(∀e∈chunks sz n ds,e.length=sz)/\∀(i j:Nat) e d,(chunks sz n ds)[i]? = some e->e[j]? = some d->ds[i * sz+j]? = some d:=by
 intro n
 induction n with
 |zero=>intro ds _;simp[chunks]
 |succ n ih=>
  intro ds hl
  rw[Nat.add_mul]at hl
  obtain⟨h1,h2,h3⟩:=ih (ds.drop sz) (by simp;omega)
  refine⟨by simp[chunks,h1],?_,?_⟩
  ·intro e he
   simp only[chunks,List.mem_cons]at he
   rcases he with rfl |he
   ·simp;omega
   ·exact h2 e he
  ·intro i j e d he hd
   cases i with
   |zero=>
    simp only[chunks,List.getElem?_cons_zero,Option.some.injEq]at he
    subst he
    rw[List.getElem?_take]at hd
    split at hd
    ·simpa using hd
    ·simp at hd
   |succ i=>
    simp only[chunks,List.getElem?_cons_succ]at he
    have:=h3 i j e d he hd
    rw[List.getElem?_drop]at this
    rw[show(i+1) * sz+j=sz+(i * sz+j)by rw[Nat.add_mul];omega]
    exact this
omit hT in
theorem OA{P:Program}{o:Oper}{N:aS}{M:Mem}{a:Act}{w w1:World}{d sz n cap:Nat}{arr:Array Value}{t:TypeId}{es:List (List D)}{next:Act->World->Prop}{Q:Exit->Act->World->Prop}
  (hw:Step M w M w1 [])
  (hrun:(execOp a.eval o).run P w = .ok (.value (.slice (some ⟨w1.heap.size,0,none⟩) n cap)) (w1.alloc (.cells arr t)))
  (hn:∀v M' w',Step M w M' w' (Wr.new d).ids->z6g M M' (.new d)->aF N M' w' (.gs d sz es) v->(∀id blk,some (d,Block.tok sz n)=some (id,blk)->id∈(Wr.new d).ids/\eP N M' w' id blk)->next (a.put o.dst v) w')
  (m:bT N M w) (hne:n=es.length) (hcap:n<=cap) (hmax:cap<=maxLen) (hl:arr.size=cap * sz) (hsz:∀e∈es,e.length=sz)
  (hc:∀(i j:Nat) e c,es[i]? = some e->e[j]? = some c->DRel (Fb N M) w1 c (arr.getD (i * sz+j) undef)/\(arr.getD (i * sz+j) undef).oneCell'=true):o.wp P a w next Q:=by
 simp only[Oper.wp,hrun,Oper.upon_value]
 have hs:Step M w1 (M.set d (some (.tail w1.heap.size (n * sz)))) (w1.alloc (.cells arr t)) [d]:=Step.alloc M w1 d _ _ (λb x h=>h.1)
 have hs':=hw.trans0 hs
 have m1:bT N M w1:=hw.memOk m
 have hrow:=pV w1 arr t
 have hF:∀x,x<n * sz->¬Fb N (M.set d (some (.tail w1.heap.size (n * sz)))) w1.heap.size x:=by
  intro x hx
  rintro(hN |⟨id,ow,e1,e2⟩)
  ·have:=m1.foes _ _ hN;omega
  ·by_cases e:id=d
   ·subst e;rw[Mem.set_same]at e1;simp only[Option.some.injEq]at e1;subst e1;have:=e2.2;omega
   ·rw[Mem.set_other _ _ _ _ e]at e1
    have:=(m1.dom id ow _ _ e1 e2).1;omega
 have hidx:∀(i j:Nat) e c,es[i]? = some e->e[j]? = some c->i * sz+j<n * sz:=by
  intro i j e c he hd
  have h1:i<n:=by rw[hne];exact(List.getElem?_eq_some_iff.1 he).1
  have h2:j<sz:=by rw[<-hsz e (List.mem_of_getElem? he)];exact(List.getElem?_eq_some_iff.1 hd).1
  have:(i+1) * sz<=n * sz:=Nat.mul_le_mul_right _ h1
  rw[Nat.add_mul]at this;omega
 refine hn _ _ _ hs' trivial (.gs _ _ _ _ _ _ (.sl sz es _ _ cap n (λi j=>arr.getD (i * sz+j) undef) hne hcap hmax hsz (λi j e c he hd=>?_) λi j e c he hd=>(hc i j e c he hd).1.keep hs.keeps) ?_ ?_) ?_
 ·have hlt:=hidx i j e c he hd
  have hle:n * sz<=cap * sz:=Nat.mul_le_mul_right _ hcap
  refine⟨?_,?_,(hc i j e c he hd).2⟩
  ·rw[Nat.zero_add];exact hF _ hlt
  ·rw[dG hrow,Nat.zero_add,bi undef (by omega)]
 ·intro e;rw[Mem.set_same]at e;simp at e
 ·intro b lo e
  rw[Mem.set_same]at e;simp only[Option.some.injEq,Own.tail.injEq]at e
  obtain⟨rfl,rfl⟩:=e
  exact⟨by rw[hne];exact Nat.le_refl _,λ_=>⟨rfl,arr,t,hrow,hl⟩⟩
 ·rintro id blk e
  simp only[Option.some.injEq,Prod.mk.injEq]at e
  obtain⟨rfl,rfl⟩:=e
  exact⟨by simp[Wr.ids],.inr ⟨_,arr,t,Mem.set_same _ _ _,hrow⟩⟩
omit hT in
theorem uT{P:Program}{o:Oper}{N:aS}{M:Mem}{a:Act}{w w1:World}{d vr sz n cap:Nat}{arr:Array Value}{t:TypeId}{es:List (List D)}{wr:Wr}{next:Act->World->Prop}{Q:Exit->Act->World->Prop}
  (hw:Step M w M w1 []) (hwr:wr = .new d\/wr = .tk d)
  (hrun:(execOp a.eval o).run P w = .ok (.value (.slice (some ⟨w1.heap.size,0,none⟩) n cap)) (w1.alloc (.cells arr t)))
  (hn:∀v M' w',Step M w M' w' wr.ids->z6g M M' wr->aF N M' w' (.own d vr sz 0 n) v->(∀id blk,some (d,Block.arr vr sz es)=some (id,blk)->id∈wr.ids/\eP N M' w' id blk)->next (a.put o.dst v) w')
  (hne:n=es.length) (hcap:n<=cap) (hmax:cap<=maxLen) (hl:arr.size=cap * sz) (hsz:∀e∈es,e.length=sz)
  (htr:wr = .tk d->Tr M (M.set d (some (.vb w1.heap.size vr))) d)
  (hc:∀(i j:Nat) e c,es[i]? = some e->e[j]? = some c->DRel (Fb N M) w1 c (arr.getD (i * sz+j) undef)/\(arr.getD (i * sz+j) undef).oneCell'=true):o.wp P a w next Q:=by
 have hids:wr.ids = [d]:=by rcases hwr with h |h<;>subst h<;>rfl
 simp only[Oper.wp,hrun,Oper.upon_value]
 have hs:Step M w1 (M.set d (some (.vb w1.heap.size vr))) (w1.alloc (.cells arr t)) [d]:=Step.alloc M w1 d _ _ (λb x h=>h)
 have hs':=hw.trans0 hs
 have hrow:=pV w1 arr t
 refine hn _ _ _ (hids ▸ hs') ?_ (.own _ _ _ _ _ _ _ (λb v e=>?_) λv e=>by rw[Mem.set_same]at e;simp at e) ?_
 ·rcases hwr with h |h
  ·subst h;trivial
  ·subst h;exact htr rfl
 ·rw[Mem.set_same]at e;simp only[Option.some.injEq,Own.vb.injEq]at e
  obtain⟨rfl,rfl⟩:=e
  exact⟨Nat.le_refl _,λ_=>⟨hcap,hmax,λ_=>by simp,arr,t,hrow,by simp[hl]⟩⟩
 ·rintro id blk e
  simp only[Option.some.injEq,Prod.mk.injEq]at e
  obtain⟨rfl,rfl⟩:=e
  refine⟨by simp[hids],.inl ⟨_,arr,t,Mem.set_same _ _ _,hrow,?_,hsz,λi j e c he hd=>⟨(hc i j e c he hd).1.keep hs.keeps,(hc i j e c he hd).2⟩⟩⟩
  rw[hl,<-hne];exact Nat.mul_le_mul_right _ hcap
theorem Dk{o:Oper}{t:TypeId}{len d:Nat}{ps:Array (Nat×Operand)}{env:Env}{K:Heap}{next:Next}(ho:o.op = .buildSlice t len ps)
  (h:iO T t d len env (ps.toList.map λp=>(p.1,ev T env 0 p.2)) K next) :
  ∃r blk,next r (upd K (some (d,blk)))/\pX env K (.new d)/\wO P o env K r (.new d) (some (d,blk)):=by
 unfold iO at h
 split at h<;>try exact h.elim
 rename_i e hty
 split at h<;>try exact h.elim
 rename_i z0 z hk hz
 split at h<;>try exact h.elim
 rename_i pl hpl
 split at h<;>try exact h.elim
 rename_i ds hds
 split at h<;>try exact h.elim
 rename_i hb
 simp only[Bool.and_eq_true]at hb
 obtain⟨hb1,hb2,hb3,hb4⟩:=hb
 have hb1:=Nat.eq_of_beq_eq_true hb1
 have hb2:0<(T.at e).size:=by have:=Nat.le_of_ble_eq_true hb2;omega
 have hb3:=Nat.le_of_ble_eq_true hb3
 rcases h.out with h |h
 ·obtain⟨⟨hf0,hf1,hf2⟩,h⟩:=fQ h
  ·· skip
     refine⟨_,.tok (T.at e).size len,h,⟨hf0,hf1,hf2⟩,?_⟩
     intro N M a w m h1 h2 next' Q hn
     have hzne:(T.at e).zero ≠ []:=by rw[hz];simp
     obtain⟨zv,q1,q2,q3⟩:=kE hT hk hzne w
     rw[hz]at q2 q3
     have hrp:=λi=>Oz len (z0::z) i
     have hzs:∀i,i<len * (T.at e).size->i % zv.cells.size<zv.cells.size:=λi _=>Nat.mod_lt _ (by rw[q2];simp)
     have harr:UA N M w (YL (z0::z) len) ((Array.range (len * (T.at e).size)).map λi=>zv.cells[i % zv.cells.size]!):=by
      refine⟨by simp[(hrp 0).1,<-hb1],λi c hc=>?_⟩
      have hi:i<len * (z0::z).length:=by rw[<-(hrp 0).1];exact(List.getElem?_eq_some_iff.1 hc).1
      rw[(hrp i).2 hi]at hc
      have:=(q3 N M w _ c hc).1
      simp_all
     have hmem:∀x∈ps.toList,∀j,x.2 = .tmp j->aF N M w (env.get j) (a.tmps.getD j undef):=by
      intro x hx j e
      refine h1 j ?_
      rw[ho];simp only[Op.operands,List.mem_toArray,List.mem_map]
      exact⟨x,hx,e⟩
     obtain⟨arr',g1,g2,g3⟩:=FO _ _ (ps.toList.map λx=>(x.1,a.eval x.2)) _ _ hpl (hrp 0).1 harr (by simp) (uS m hmem)
     obtain⟨k1,k2⟩:=fF hds
     have hlen:ds.length=len * (T.at e).size:=by rw[k1,<-g2.1,g3];simp
     obtain⟨c1,c2,c3⟩:=D5 (T.at e).size len ds hlen
     refine OA (w1:=w) (cap:=len) (sz:=(T.at e).size) (arr:=arr') (t:=e) (Step.refl M w) ?_ hn m c1.symm (Nat.le_refl _) ?_ (by rw[g3];simp) c2 λi j e' c he hc=>?_
     ·rw[pW ho]
      have hpl':(λi=>some (i * (T.at e).size,(T.at e).size))=plA (T.at e).size:=rfl
      simp only[Instr.buildSlice,Sem.run_bind,run_underlying (aQ hT hty),Result.andThen_ok,run_sizeOf' hT (aZ hk),show ¬len * (T.at e).size>2 ^ 24 by omega,if_false]
      by_cases hz0:len * (T.at e).size=0
      ·have hlen0:len=0:=by
        grind[Nat.mul_eq_zero]
       subst hlen0
       simp only[Nat.zero_mul,if_true,pure_bind,Sem.run_pure,Result.andThen_ok,nI,hpl']
       simp only[Nat.zero_mul]at g1
       have:(Array.range 0).map (λi=>zv.cells[i % zv.cells.size]!)=(Array.range 0).map (λi=>(#[]:Array Value)[i % (#[]:Array Value).size]!):=by simp
       rw[this]at g1
       rw[g1]
       simp[newRow]
      ·simp only[hz0,if_false,Sem.run_bind,q1,Result.andThen_ok,Sem.run_pure,nI,hpl',g1,newRow,run_newObj,World.alloc_eq]
     ·simp[maxLen]
      have:len<=len * (T.at e).size:=Nat.le_mul_of_pos_right _ hb2
      omega
     ·obtain⟨c',e1,e2⟩:=k2 _ c (c3 i j e' c he hc)
      have hr:=g2.2 _ c' e1
      refine⟨hr.toD e2,?_⟩
      have hd:=List.all_eq_true.1 hb4 c (List.mem_of_getElem? (c3 i j e' c he hc))
      exact gJ (x:=.data c) (.data _ _ (hr.toD e2)) hd
 ·obtain⟨⟨hf0,hf1,hf2⟩,h⟩:=fQ h
  ·· skip
     refine⟨_,.arr 0 (T.at e).size (chunks (T.at e).size len ds),h,⟨hf0,hf1,hf2⟩,?_⟩
     intro N M a w m h1 h2 next' Q hn
     have hzne:(T.at e).zero ≠ []:=by rw[hz];simp
     obtain⟨zv,q1,q2,q3⟩:=kE hT hk hzne w
     rw[hz]at q2 q3
     have hrp:=λi=>Oz len (z0::z) i
     have hzs:∀i,i<len * (T.at e).size->i % zv.cells.size<zv.cells.size:=λi _=>Nat.mod_lt _ (by rw[q2];simp)
     have harr:UA N M w (YL (z0::z) len) ((Array.range (len * (T.at e).size)).map λi=>zv.cells[i % zv.cells.size]!):=by
      refine⟨by simp[(hrp 0).1,<-hb1],λi c hc=>?_⟩
      have hi:i<len * (z0::z).length:=by rw[<-(hrp 0).1];exact(List.getElem?_eq_some_iff.1 hc).1
      rw[(hrp i).2 hi]at hc
      have:=(q3 N M w _ c hc).1
      simp_all
     have hmem:∀x∈ps.toList,∀j,x.2 = .tmp j->aF N M w (env.get j) (a.tmps.getD j undef):=by
      intro x hx j e
      refine h1 j ?_
      rw[ho];simp only[Op.operands,List.mem_toArray,List.mem_map]
      exact⟨x,hx,e⟩
     obtain⟨arr',g1,g2,g3⟩:=FO _ _ (ps.toList.map λx=>(x.1,a.eval x.2)) _ _ hpl (hrp 0).1 harr (by simp) (uS m hmem)
     obtain⟨k1,k2⟩:=fF hds
     have hlen:ds.length=len * (T.at e).size:=by rw[k1,<-g2.1,g3];simp
     obtain⟨c1,c2,c3⟩:=D5 (T.at e).size len ds hlen
     refine uT (w1:=w) (cap:=len) (vr:=0) (sz:=(T.at e).size) (arr:=arr') (t:=e) (Step.refl M w) (.inl rfl) ?_ hn c1.symm (Nat.le_refl _) ?_ (by rw[g3];simp) c2 (λe=>by cases e) λi j e' c he hc=>?_
     ·rw[pW ho]
      have hpl':(λi=>some (i * (T.at e).size,(T.at e).size))=plA (T.at e).size:=rfl
      simp only[Instr.buildSlice,Sem.run_bind,run_underlying (aQ hT hty),Result.andThen_ok,run_sizeOf' hT (aZ hk),show ¬len * (T.at e).size>2 ^ 24 by omega,if_false]
      by_cases hz0:len * (T.at e).size=0
      ·have hlen0:len=0:=by
        grind[Nat.mul_eq_zero]
       subst hlen0
       simp only[Nat.zero_mul,if_true,pure_bind,Sem.run_pure,Result.andThen_ok,nI,hpl']
       simp only[Nat.zero_mul]at g1
       have:(Array.range 0).map (λi=>zv.cells[i % zv.cells.size]!)=(Array.range 0).map (λi=>(#[]:Array Value)[i % (#[]:Array Value).size]!):=by simp
       rw[this]at g1
       rw[g1]
       simp[newRow]
      ·simp only[hz0,if_false,Sem.run_bind,q1,Result.andThen_ok,Sem.run_pure,nI,hpl',g1,newRow,run_newObj,World.alloc_eq]
     ·simp[maxLen]
      have:len<=len * (T.at e).size:=Nat.le_mul_of_pos_right _ hb2
      omega
     ·obtain⟨c',e1,e2⟩:=k2 _ c (c3 i j e' c he hc)
      have hr:=g2.2 _ c' e1
      refine⟨hr.toD e2,?_⟩
      have hd:=List.all_eq_true.1 hb4 c (List.mem_of_getElem? (c3 i j e' c he hc))
      exact gJ (x:=.data c) (.data _ _ (hr.toD e2)) hd
end
end Go.Fw
namespace Go.Fw
variable [ae] {es : List (List D)} {w : World} {sz : Nat}
theorem z3b{b:Nat}{arr arr2:Array Value}{t t2:TypeId}(h:dJ w b arr t)(h2:dJ w b arr2 t2):arr=arr2/\t=t2:=by
 grind
def jd(F:aS)(w:World)(sz:Nat)(es:List (List D))(vals:Array Value):Prop:=
 vals.size=es.length * sz/\(∀e∈es,e.length=sz)/\∀(i j:Nat) e d,es[i]? = some e->e[j]? = some d->DRel F w d (vals.getD (i * sz+j) undef)/\(vals.getD (i * sz+j) undef).oneCell'=true
theorem o9{sz i j:Nat}{e:List D}{d:D}(hs:∀e∈es,e.length=sz)(he:es[i]? = some e)(hd:e[j]? = some d):i * sz+j<es.length * sz:=by
 have h1:i<es.length:=(List.getElem?_eq_some_iff.1 he).1
 have:(i+1) * sz<=es.length * sz:=Nat.mul_le_mul_right _ h1
 grind
theorem tC{sz k:Nat}(hs:∀e∈es,e.length=sz)(hk:k<es.length * sz):∃e d,es[k / sz]? = some e/\e[k % sz]? = some d:=by
 have hsz:0<sz:=by grind
 have h1:k / sz<es.length:=(Nat.div_lt_iff_lt_mul hsz).2 hk
 refine⟨es[k / sz],es[k / sz][k % sz]'(by rw[hs _ (List.getElem_mem h1)];exact Nat.mod_lt _ hsz),by simp[h1],by simp⟩
theorem UC{P:Program}{F:aS}{v:Value}(h:DRel F w (.sl sz es) v):∃a n cap,v = .slice a n cap/\n=es.length/\n<=cap/\cap<=maxLen /\
  ∃vals,(Builtin.firstCells sz n v).run P w = .ok vals w/\jd F w sz es vals/\(es ≠ []->∃b off,a=some ⟨b,off,none⟩):=by
 cases h with
 |sl0 _ a cap hm=>
  refine⟨a,0,cap,rfl,rfl,Nat.zero_le _,hm,#[],?_,⟨by simp,by simp,by simp⟩,by simp⟩
  cases a<;>simp[Builtin.firstCells,loadCells,loadCellsFrom]
 |sl _ _ b off cap n g hn hcap hm hs h1 h2=>
  subst hn
  have hload:∀k,k<es.length * sz->w.cell? ⟨b,off+k,none⟩=some (g (k / sz) (k % sz)):=by
   grind[tC,Nat.div_add_mod']
  refine⟨_,_,_,rfl,rfl,hcap,hm,(Array.range (es.length * sz)).map λk=>g (k / sz) (k % sz),?_,⟨by simp,hs,λi j e d he hd=>?_⟩,λ_=>⟨b,off,rfl⟩⟩<;>try grind[Builtin.firstCells,run_loadCells']
  have hlt:=o9 hs he hd
  rw[dO hlt]
  grind
theorem jd.append{F:aS}{es ys:List (List D)}{u v:Array Value}(hu:jd F w sz es u)(hv:jd F w sz ys v):jd F w sz (es++ys) (u++v):=by
 refine⟨by simp[hu.1,hv.1,Nat.add_mul],λe he=>?_,λi j e d he hd=>?_⟩
 ·rcases List.mem_append.1 he with h |h
  ·exact hu.2.1 e h
  ·exact hv.2.1 e h
 ·rw[List.getElem?_append]at he
  split at he
  ·have hlt:=o9 hu.2.1 he hd
   have:=hu.2.2 i j e d he hd
   simp[Array.getElem?_append]at this ⊢
   rw[if_pos (by rw[hu.1];exact hlt)]
   exact this
  ·have:=hv.2.2 _ j e d he hd
   have hle:es.length * sz<=i * sz:=Nat.mul_le_mul_right _ (by omega)
   simp[Array.getElem?_append]at this ⊢
   rw[if_neg (by rw[hu.1];omega),hu.1,show i * sz+j-es.length * sz=(i-es.length) * sz+j by rw[Nat.sub_mul];omega]
   exact this
theorem jd.more{F:aS}{u:Array Value}(hu:jd F w sz es u)(v:Array Value):∀(i j:Nat) e d,es[i]? = some e->e[j]? = some d->DRel F w d ((u++v).getD (i * sz+j) undef)/\((u++v).getD (i * sz+j) undef).oneCell'=true:=by
 intro i j e d he hd
 have hlt:=o9 hu.2.1 he hd
 have:=hu.2.2 i j e d he hd
 simp[Array.getElem?_append]at this ⊢
 rw[if_pos (by rw[hu.1];exact hlt)]
 exact this
theorem D6{P:Program}{N:aS}{M:Mem}{y:AV}{v:Value}{ys:List (List D)}(h:aF N M w y v)(he:zN y=some (sz,ys)) :
  (Builtin.lenOf v).run P w = .ok ys.length w/\∃vals,(Builtin.firstCells sz ys.length v).run P w = .ok vals w/\jd (Fb N M) w sz ys vals:=by
 have key:∀{sz ys v},DRel (Fb N M) w (.sl sz ys) v->(Builtin.lenOf v).run P w = .ok ys.length w/\∃vals,(Builtin.firstCells sz ys.length v).run P w = .ok vals w/\jd (Fb N M) w sz ys vals:=by
  intro sz ys v hd
  obtain⟨a,n,cap,rfl,rfl,_,_,vals,h1,h2,_⟩:=UC (P:=P) hd
  exact⟨by rfl,vals,h1,h2⟩
 unfold zN at he
 split at he
 ·obtain⟨rfl,rfl⟩:=he
  cases h with |data _ _ hd=>exact key hd
 ·obtain⟨rfl,rfl⟩:=he
  cases h with |gs _ _ _ _ _ _ hd _ _=>exact key hd
 ·obtain⟨rfl,rfl⟩:=he
  cases h
  exact⟨by rfl,#[],by rfl,by simp,by simp,by simp⟩
 ·simp at he
section
variable {P : Program} {T : Tbl} (hT : iQ P T)
include hT
theorem run_append_grow{t t2 e e2:TypeId}(h1:(T.at t).ty = .slice e)(h2:(T.at t2).ty = .slice e2)(hk:T.known e=true)(hz:(T.at e).zero ≠ [])(hb:0<(T.at e).bytes){ts:Array TypeId}(ht1:ts[0]? = some t)(ht2:ts[1]? = some t2)
  {a:Option Addr} {n cap m:Nat} {x:Value} {w:World} {old new:Array Value} (hx:(Builtin.lenOf x).run P w = .ok m w) (hg:cap<n+m) (hfit:(n+m) * (T.at e).bytes<=140737488355328)
  (ty:TypeId) (hd:(Builtin.firstCells (T.at e).size n (.slice a n cap)).run P w.drew = .ok old w.drew) (hd2:(Builtin.firstCells (T.at e).size m x).run P w.drew = .ok new w.drew) :
  ∃newCap rest,n+m<=newCap/\newCap<=maxLen/\rest=(newCap-(n+m)) * (T.at e).zero.length/\∃ra:Array Value,ra.size=rest /\
   (Builtin.append_ ts ty #[.slice a n cap,x]).run P w = .ok (.slice (some ⟨w.heap.size,0,none⟩) (n+m) newCap) (w.drew.alloc (.cells (old++new++ra) e)):=by
 obtain⟨i,i1,i2,i3⟩:=y5 hT (aZ hk)
 obtain⟨zv,z1,z2,_⟩:=kE hT hk hz w
 have z1':(zeroValue e).run P w.drew = .ok zv w.drew:=by
  obtain⟨zv',z1',_,_⟩:=kE hT hk hz w.drew
  have:zv'=zv:=by
   simp only[zeroValue,typeInfo,Sem.run_bind,run_program,Result.andThen_ok,i1]at z1 z1'
   cases hzz:i.zero with
   |none=>simp[hzz]at z1
   |some q=>simp_all
  simp_all
 have hn63:n+m<=140737488355328:=by
  have:(n+m) * 1<=(n+m) * (T.at e).bytes:=Nat.mul_le_mul_left _ hb
  omega
 have hcapfit:=growslice_fits hg hfit
 refine⟨(Question.appendCap (n+m) cap e).cut (w.tape w.drawn (.appendCap (n+m) cap e)),_,?_,?_,rfl,Builtin.zeroCells zv.cells ((Question.appendCap (n+m) cap e).cut (w.tape w.drawn (.appendCap (n+m) cap e))-(n+m)),?_,?_⟩
 ·simp[Question.cut]
 ·simp only[Question.cut,maxLen]
  have:=Nat.mod_lt (w.tape w.drawn (.appendCap (n+m) cap e)) (show 0<2 ^ 63-(n+m)by omega)
  omega
 ·simp[Builtin.zeroCells,z2]
 ·have hng:¬(n+m<=cap):=by omega
  have hcf:¬(281474976710656<Builtin.nextslicecap (n+m) cap * i.bytes):=by rw[i3];omega
  simp[Builtin.append_,ht1,ht2,run_underlying (aQ hT h1),run_underlying (aQ hT h2),sizeOf,typeInfo,i1,hx,hng,show ¬i.bytes=0 by omega,hcf,Question.forced,i2,hd,hd2,z1',newRow]
omit hT in
theorem OB{P:Program}{o:Oper}{N:aS}{M:Mem}{a:Act}{w w1:World}{d sz n cap:Nat}{arr:Array Value}{t:TypeId}{es:List (List D)}{wr:Wr}{next:Act->World->Prop}{Q:Exit->Act->World->Prop}
  (hw:Step M w M w1 []) (hwr:wr = .new d\/wr = .tk d)
  (hrun:(execOp a.eval o).run P w = .ok (.value (.slice (some ⟨w1.heap.size,0,none⟩) n cap)) (w1.alloc (.cells arr t)))
  (hn:∀v M' w',Step M w M' w' wr.ids->z6g M M' wr->aF N M' w' (.gs d sz es) v->(∀id blk,some (d,Block.tok sz n)=some (id,blk)->id∈wr.ids/\eP N M' w' id blk)->next (a.put o.dst v) w')
  (m:bT N M w) (hne:n=es.length) (hcap:n<=cap) (hmax:cap<=maxLen) (hl:arr.size=cap * sz) (hsz:∀e∈es,e.length=sz)
  (htr:wr = .tk d->Tr M (M.set d (some (.tail w1.heap.size (n * sz)))) d)
  (hc:∀(i j:Nat) e c,es[i]? = some e->e[j]? = some c->DRel (Fb N M) w1 c (arr.getD (i * sz+j) undef)/\(arr.getD (i * sz+j) undef).oneCell'=true):o.wp P a w next Q:=by
 have hids:wr.ids = [d]:=by rcases hwr with h |h<;>subst h<;>rfl
 simp only[Oper.wp,hrun,Oper.upon_value]
 have hs:Step M w1 (M.set d (some (.tail w1.heap.size (n * sz)))) (w1.alloc (.cells arr t)) [d]:=Step.alloc M w1 d _ _ (λb x h=>h.1)
 have hs':=hw.trans0 hs
 have m1:bT N M w1:=hw.memOk m
 have hrow:=pV w1 arr t
 have hF:∀x,x<n * sz->¬Fb N (M.set d (some (.tail w1.heap.size (n * sz)))) w1.heap.size x:=by
  intro x hx
  rintro(hN |⟨id,ow,e1,e2⟩)
  ·have:=m1.foes _ _ hN;omega
  ·by_cases e:id=d
   ·subst e;rw[Mem.set_same]at e1;simp only[Option.some.injEq]at e1;subst e1;have:=e2.2;omega
   ·rw[Mem.set_other _ _ _ _ e]at e1
    have:=(m1.dom id ow _ _ e1 e2).1;omega
 refine hn _ _ _ (hids ▸ hs') ?_ (.gs _ _ _ _ _ _ (.sl sz es _ _ cap n (λi j=>arr.getD (i * sz+j) undef) hne hcap hmax hsz (λi j e c he hd=>?_) λi j e c he hd=>(hc i j e c he hd).1.keep hs.keeps) ?_ ?_) ?_
 ·rcases hwr with h |h
  ·subst h;trivial
  ·subst h;exact htr rfl
 ·have hlt:=o9 hsz he hd
  have hle:n * sz<=cap * sz:=Nat.mul_le_mul_right _ hcap
  rw[<-hne]at hlt
  refine⟨?_,?_,(hc i j e c he hd).2⟩
  ·rw[Nat.zero_add];exact hF _ hlt
  ·rw[dG hrow,Nat.zero_add,bi undef (by omega)]
 ·intro e;rw[Mem.set_same]at e;simp at e
 ·intro b lo e
  rw[Mem.set_same]at e;simp only[Option.some.injEq,Own.tail.injEq]at e
  obtain⟨rfl,rfl⟩:=e
  exact⟨by rw[hne];exact Nat.le_refl _,λ_=>⟨rfl,arr,t,hrow,hl⟩⟩
 ·rintro id blk e
  simp only[Option.some.injEq,Prod.mk.injEq]at e
  obtain⟨rfl,rfl⟩:=e
  exact⟨by simp[hids],.inr ⟨_,arr,t,Mem.set_same _ _ _,hrow⟩⟩
omit hT in
theorem z6j{P:Program}{o:Oper}{N:aS}{M:Mem}{a:Act}{w:World}{d sz vr:Nat}{av:Option Addr}{next:Act->World->Prop}{Q:Exit->Act->World->Prop}
  (hM:M d=some (.nb vr)) (hrun:(execOp a.eval o).run P w = .ok (.value (.slice av 0 0)) w)
  (hn:∀v M' w',Step M w M' w' (Wr.tk d).ids->z6g M M' (.tk d)->aF N M' w' (.own d (vr+1) sz 0 0) v->(∀id blk,some (d,Block.arr (vr+1) sz [])=some (id,blk)->id∈(Wr.tk d).ids/\eP N M' w' id blk)->next (a.put o.dst v) w'):o.wp P a w next Q:=by
 simp only[Oper.wp,hrun,Oper.upon_value]
 have hs:Step M w (M.set d (some (.nb (vr+1)))) w [d]:=by
  refine⟨rfl,rfl,rfl,Nat.le_refl _,λ_ _ _=>rfl,λ_ _ _ _ h=>h,λb arr t h=>⟨arr,h,rfl⟩,λid h=>Mem.set_other _ _ _ _ (by simpa using h),?_,?_⟩
  ·intro id hid ow' b x e1 e2
   simp only[List.mem_singleton]at hid;subst hid
   rw[Mem.set_same]at e1;simp only[Option.some.injEq]at e1;subst e1;exact e2.elim
  ·intro id hid id' hid' hne
   simp only[List.mem_singleton]at hid hid';exact absurd (hid.trans hid'.symm) hne
 refine hn _ _ _ hs ?_ (.own _ _ _ _ _ _ _ (λb v e=>by rw[Mem.set_same]at e;simp at e) λv e=>?_) ?_
 ·exact .inr (.inr (.inr (.inr (.inr (.inr (.inr ⟨vr,vr+1,hM,Mem.set_same _ _ _,by omega⟩))))))
 ·rw[Mem.set_same]at e;simp only[Option.some.injEq,Own.nb.injEq]at e;subst e
  exact⟨Nat.le_refl _,λ_=>⟨rfl,rfl,rfl⟩⟩
 ·rintro id blk e
  simp only[Option.some.injEq,Prod.mk.injEq]at e
  obtain⟨rfl,rfl⟩:=e
  exact⟨by simp[Wr.ids],.inr ⟨Mem.set_same _ _ _,rfl⟩⟩
omit hT in
theorem OC{P:Program}{o:Oper}{N:aS}{M:Mem}{a:Act}{w:World}{d sz:Nat}{wr:Wr}{av:Option Addr}{next:Act->World->Prop}{Q:Exit->Act->World->Prop}
  (hwr:wr = .new d\/(wr = .tk d/\M d=some .nil))
  (hrun:(execOp a.eval o).run P w = .ok (.value (.slice av 0 0)) w)
  (hn:∀v M' w',Step M w M' w' wr.ids->z6g M M' wr->aF N M' w' (.gs d sz []) v->(∀id blk,some (d,Block.tok sz 0)=some (id,blk)->id∈wr.ids/\eP N M' w' id blk)->next (a.put o.dst v) w'):o.wp P a w next Q:=by
 have hids:wr.ids = [d]:=by rcases hwr with h |⟨h,_⟩<;>subst h<;>rfl
 simp only[Oper.wp,hrun,Oper.upon_value]
 have hs:Step M w (M.set d (some .nil)) w [d]:=by
  refine⟨rfl,rfl,rfl,Nat.le_refl _,λ_ _ _=>rfl,λ_ _ _ _ h=>h,λb arr t h=>⟨arr,h,rfl⟩,λid h=>Mem.set_other _ _ _ _ (by simpa using h),?_,?_⟩
  ·intro id hid ow' b x e1 e2
   simp only[List.mem_singleton]at hid;subst hid
   rw[Mem.set_same]at e1;simp only[Option.some.injEq]at e1;subst e1;exact e2.elim
  ·intro id hid id' hid' hne
   simp only[List.mem_singleton]at hid hid';exact absurd (hid.trans hid'.symm) hne
 refine hn _ _ _ (hids ▸ hs) ?_ (.gs _ _ _ _ _ _ (.sl0 sz av 0 (by simp[maxLen])) (λ_=>⟨rfl,rfl⟩) λb lo e=>?_) ?_
 ·rcases hwr with h |⟨h,h2⟩
  ·subst h;trivial
  ·subst h;exact .inl (by rw[Mem.set_same,h2])
 ·rw[Mem.set_same]at e;simp at e
 ·rintro id blk e
  simp only[Option.some.injEq,Prod.mk.injEq]at e
  obtain⟨rfl,rfl⟩:=e
  exact⟨by simp[hids],.inl ⟨Mem.set_same _ _ _,rfl⟩⟩
omit hT in
theorem DRel.drew{F:aS}{w:World}{d:D}{v:Value}(h:DRel F w d v):DRel F w.drew d v:=h.keep λ_ _ _ h1 h2=>⟨h1,h2⟩
omit hT in
theorem aF.drew{N:aS}{M:Mem}{w:World}{x:AV}{v:Value}(h:aF N M w x v):aF N M w.drew x v:=h.keep (λ_ _ _ h1 h2=>⟨h1,h2⟩) (λb arr t h=>⟨arr,h,rfl⟩) λ_ _=>.inl rfl
omit hT in
theorem Lt{ρ:Operand->Value}{o:Oper}{c:Call}(ho:o.op = .call c)(hc:c.callee = .builtin .append):execOp ρ o=(do pure (.value (<-Builtin.append_ c.argTypes o.type (c.args.map ρ)))):=by
 rw[jP ho];cases c;simp only at hc;subst hc;rfl
omit hT in
theorem YP{P:Program}{F:aS}{w:World}{sz n b cap:Nat}{av:Option Addr}{es:List (List D)}{arr:Array Value}{t:TypeId}(hrow:dJ w b arr t)(hle:es.length * sz<=arr.size)(hlen:∀e∈es,e.length=sz)
  (hcell:∀i j e d,es[i]? = some e->e[j]? = some d->DRel F w d (arr.getD (i * sz+j) undef)/\(arr.getD (i * sz+j) undef).oneCell'=true) (hn:n<=es.length) (hav:0<n->av=some ⟨b,0,none⟩) :
  ∃old,(Builtin.firstCells sz n (.slice av n cap)).run P w = .ok old w/\jd F w sz (es.take n) old:=by
 by_cases h0:n=0
 ·subst h0
  refine⟨#[],?_,by simp,by simp,by simp⟩
  cases av<;>simp[Builtin.firstCells,loadCells,loadCellsFrom]
 ·obtain rfl:=hav (by omega)
  have hmul:n * sz<=es.length * sz:=Nat.mul_le_mul_right _ hn
  have hload:∀k,k<n * sz->w.cell? ⟨b,0+k,none⟩=some (arr.getD k undef):=λk hk=>by
   rw[dG hrow,Nat.zero_add];exact bi undef (by omega)
  refine⟨(Array.range (n * sz)).map λk=>arr.getD k undef,?_,by simp[show min n es.length=n by omega],λe he=>hlen e (List.mem_of_mem_take he),λi j e d he hd=>?_⟩
  ·simp only[Builtin.firstCells]
   exact run_loadCells' b 0 _ _ hload
  ·have hlt:=o9 (es:=es.take n) (λe he=>hlen e (List.mem_of_mem_take he)) he hd
   rw[List.length_take,show min n es.length=n by omega]at hlt
   rw[dO hlt]
   rw[List.getElem?_take]at he
   split at he
   ·exact hcell i j e d he hd
   ·simp at he
def z3c(K:Heap)(y:AV)(sz:Nat)(ys:List (List D)):Prop:=zN y=some (sz,ys)\/∃j vr off len es,y = .own j vr sz off len/\K.get j=some (.arr vr sz es)/\off+len<=es.length/\ys=(es.drop off).take len
omit hT in
theorem ou{P:Program}{N:aS}{M:Mem}{w:World}{K:Heap}{y:AV}{v:Value}{sz:Nat}{ys:List (List D)}(h:aF N M w y v)(hk:Hk N M w K y)(he:z3c K y sz ys) :
  (Builtin.lenOf v).run P w = .ok ys.length w/\(∃vals,(Builtin.firstCells sz ys.length v).run P w = .ok vals w/\jd (Fb N M) w sz ys vals)/\∃vals,(Builtin.firstCells sz ys.length v).run P w.drew = .ok vals w.drew/\jd (Fb N M) w.drew sz ys vals:=by
 rcases he with he |⟨j,vr,off,len,es,rfl,hK,hlen,rfl⟩
 ·obtain⟨l1,l2⟩:=D6 (P:=P) h he
  exact⟨l1,l2,(D6 (P:=P) h.drew he).2⟩
 ·have hb:=hk j (by simp[AV.men]) _ hK
  have hl:((es.drop off).take len).length=len:=by simp;omega
  rw[hl]
  cases h with
  |own _ _ _ _ _ av cap ha ha'=>
   rcases hb with⟨b,arr,t,hM,hrow,hle,hsz,hcell⟩ |⟨hM,he0⟩
   ·obtain⟨p1,p2,p3,arr2,t2,p4,p5⟩:=(ha b _ hM).2 rfl
    have sub:∀(w':World),dJ w' b arr t->(∀i j e d,es[i]? = some e->e[j]? = some d->DRel (Fb N M) w' d (arr.getD (i * sz+j) undef)/\(arr.getD (i * sz+j) undef).oneCell'=true)->∃vals,(Builtin.firstCells sz len (.slice av len cap)).run P w' = .ok vals w'/\jd (Fb N M) w' sz ((es.drop off).take len) vals:=by
     intro w' hrow hcell
     have hmul:(off+len) * sz<=es.length * sz:=Nat.mul_le_mul_right _ hlen
     rw[Nat.add_mul]at hmul
     have hdl:∀e∈(es.drop off).take len,e.length=sz:=λe he=>hsz e (List.mem_of_mem_drop (List.mem_of_mem_take he))
     by_cases h0:len=0
     ·subst h0
      refine⟨#[],?_,by simp,by simp,by simp⟩
      cases av<;>simp[Builtin.firstCells,loadCells,loadCellsFrom]
     ·obtain rfl:=p3 (by omega)
      have hload:∀k,k<len * sz->w'.cell? ⟨b,off * sz+k,none⟩=some (arr.getD (off * sz+k) undef):=λk hk=>by
       rw[dG hrow];exact bi undef (by omega)
      refine⟨(Array.range (len * sz)).map λk=>arr.getD (off * sz+k) undef,?_,by rw[hl];simp,hdl,λi j e d he hd=>?_⟩
      ·simp only[Builtin.firstCells]
       exact run_loadCells' b (off * sz) _ _ hload
      ·have hlt:=o9 hdl he hd
       rw[hl]at hlt
       rw[dO hlt]
       rw[List.getElem?_take]at he
       split at he
       ·rw[List.getElem?_drop]at he
        have:=hcell (off+i) j e d he hd
        rw[Nat.add_mul,Nat.add_assoc]at this
        exact this
       ·simp at he
    refine⟨by simp[Builtin.lenOf],sub w hrow hcell,sub w.drew hrow λi j e d he hd=>⟨(hcell i j e d he hd).1.drew,(hcell i j e d he hd).2⟩⟩
   ·subst he0
    obtain⟨hz0,_,hz1⟩:=(ha' _ hM).2 rfl
    subst hz0 hz1
    refine⟨by simp[Builtin.lenOf],⟨#[],?_,by simp,by simp,by simp⟩,⟨#[],?_,by simp,by simp,by simp⟩⟩<;>cases av<;>simp[Builtin.firstCells,loadCells,loadCellsFrom]
theorem Rj{o:Oper}{c:Call}{x y:Operand}{d:Nat}{env:Env}{K:Heap}{next:Next}(ho:o.op = .call c)(hc:c.callee = .builtin .append)(hargs:c.args.toList = [x,y])
  (h:nX T (c.argTypes.getD 0 0) (c.argTypes.getD 1 0) d env (ev T env (c.argTypes.getD 0 0) x) (ev T env (c.argTypes.getD 1 0) y) K next) (hts:2<=c.argTypes.size) :
  ∃r wr id blk,wr.ids = [id]/\(∀q,ev T env (c.argTypes.getD 0 0) x=q->(wr = .new d/\id=d/\∃sz,q = .nilsl sz)\/(wr = .tk id/\∃sz es,q = .gs id sz es)\/(wr = .tk id/\∃vr sz n,q = .own id vr sz 0 n))/\next r (upd K (some (id,blk)))/\pX env K wr/\wO P o env K r wr (some (id,blk)):=by
 have hmx:∀j,x = .tmp j->Operand.tmp j∈o.op.operands:=by
  intro j e;rw[ho];subst e
  simp only[Op.operands,Call.operands,Array.mem_append]
  right;rw[<-Array.mem_toList_iff,hargs];simp
 have hmy:∀j,y = .tmp j->Operand.tmp j∈o.op.operands:=by
  intro j e;rw[ho];subst e
  simp only[Op.operands,Call.operands,Array.mem_append]
  right;rw[<-Array.mem_toList_iff,hargs];simp
 have ht1:c.argTypes[0]? = some (c.argTypes.getD 0 0):=bi 0 (by omega)
 have ht2:c.argTypes[1]? = some (c.argTypes.getD 1 0):=bi 0 (by omega)
 have hexec:∀(a:Act),execOp a.eval o=(do pure (.value (<-Builtin.append_ c.argTypes o.type #[a.eval x,a.eval y]))):=by
  intro a
  rw[Lt ho hc]
  have:c.args.map a.eval = #[a.eval x,a.eval y]:=by
   apply Array.toList_inj.1;simp[hargs]
  rw[this]
 generalize c.argTypes.getD 0 0=t at *
 generalize c.argTypes.getD 1 0=t2 at *
 have cut:∃e e2 szy ys,(T.at t).ty = .slice e/\(T.at t2).ty = .slice e2/\z3c K (ev T env t2 y) szy ys/\jF T e d env (ev T env t x) szy ys K next:=by
  unfold nX at h
  split at h
  ·rename_i e e2 hty hty2
   split at h
   ·rename_i szy ys hy
    exact⟨e,e2,szy,ys,hty,hty2,.inl hy,h⟩
   ·split at h
    ·rename_i j vr sz off len hyv
     split at h
     ·rename_i vr' sz' es hK
      obtain⟨⟨⟨rfl,rfl⟩,h2⟩,h⟩:=h
      exact⟨e,e2,sz',_,hty,hty2,.inr ⟨j,vr,off,len,es,hyv,hK,h2,rfl⟩,h⟩
     ·exact h.elim
    ·exact h.elim
  ·exact h.elim
 obtain⟨e,e2,szy,ys,hty,hty2,hy,h⟩:=cut
 ·unfold jF at h
  split at h<;>try exact h.elim
  rename_i z0 z hk hz
  have hzne:(T.at e).zero ≠ []:=by rw[hz];simp
  split at h<;>try exact h.elim
  rename_i hb
  simp only[Bool.and_eq_true]at hb
  obtain⟨hb1,hb2,hb3,hb4⟩:=hb
  have hb1:0<(T.at e).size:=by have:=Nat.le_of_ble_eq_true hb1;omega
  have hb2:0<(T.at e).bytes:=by have:=Nat.le_of_ble_eq_true hb2;omega
  have hb3:(T.at e).zero.length=(T.at e).size:=by rw[hz];exact Nat.eq_of_beq_eq_true hb3
  have hb4:=Nat.eq_of_beq_eq_true hb4
  subst hb4
  split at h
  ·-- onto nil
   rename_i sz heq
   obtain⟨hsz,hfit,h⟩:=h
   subst hsz
   rcases h.out with h |⟨hys,h⟩
   ·obtain⟨⟨hf0,hf1,hf2⟩,h⟩:=fQ h
    ·· skip
       refine⟨_,.new d,d,_,rfl,λq e=>.inl ⟨rfl,rfl,_,e.symm.trans heq⟩,h,⟨hf0,hf1,hf2⟩,λN M a w m h1 h2 next' Q hn=>?_⟩
       have hxr:aF N M w (ev T env t x) (a.eval x):=dW m t x λj e=>h1 j (hmx j e)
       have hyr:aF N M w (ev T env t2 y) (a.eval y):=dW m t2 y λj e=>h1 j (hmy j e)
       rw[heq]at hxr
       have hyk:Hk N M w K (ev T env t2 y):=wV t2 y λj e=>h2 j (hmy j e)
       obtain⟨l1,⟨vals,l2,l3⟩,vals',l2',l3'⟩:=ou (P:=P) hyr hyk hy
       generalize hax:a.eval x=vx at hxr
       cases hxr
       by_cases hys:ys = []
       ·subst hys
        refine OC (av:=none) (.inl rfl) ?_ hn
        have e0:vals = #[]:=by have:=l3.1;simp at this;exact this
        rw[hexec,hax]
        simp only[List.length_nil]at l1 l2
        simp[Builtin.append_,ht1,ht2,run_underlying (aQ hT hty),run_underlying (aQ hT hty2),run_sizeOf' hT (aZ hk),l1,l2,e0]
       ·have hpos:0<ys.length:=List.length_pos_iff.2 hys
        obtain⟨newCap,rest,r1,r2,r3,ra,r4,r5⟩:=run_append_grow hT hty hty2 hk hzne hb2 ht1 ht2 (a:=none) (n:=0) (cap:=0) (w:=w) (old:=#[]) (new:=vals') l1 (by omega) (by rw[Nat.zero_add];exact hfit) o.type (by simp[Builtin.firstCells]) l2'
        rw[Nat.zero_add]at r1 r5 r3
        refine OB (w1:=w.drew) (cap:=newCap) (arr:=vals'++ra) (t:=e) (Step.drew M w) (.inl rfl) ?_ hn m rfl r1 r2 ?_ l3'.2.1 (by simp) (l3'.more ra)
        ·rw[hexec,hax];simp[r5]
        ·rw[Array.size_append,l3'.1,r4,r3,hb3,<-Nat.add_mul];congr 1;omega
   ·obtain⟨⟨hf0,hf1,hf2⟩,h⟩:=fQ h
    refine⟨_,.new d,d,_,rfl,λq e=>.inl ⟨rfl,rfl,_,e.symm.trans heq⟩,h,⟨hf0,hf1,hf2⟩,λN M a w m h1 h2 next' Q hn=>?_⟩
    have hxr:aF N M w (ev T env t x) (a.eval x):=dW m t x λj e=>h1 j (hmx j e)
    have hyr:aF N M w (ev T env t2 y) (a.eval y):=dW m t2 y λj e=>h1 j (hmy j e)
    rw[heq]at hxr
    have hyk:Hk N M w K (ev T env t2 y):=wV t2 y λj e=>h2 j (hmy j e)
    obtain⟨l1,⟨vals,l2,l3⟩,vals',l2',l3'⟩:=ou (P:=P) hyr hyk hy
    generalize hax:a.eval x=vx at hxr
    cases hxr
    have hpos:0<ys.length:=List.length_pos_iff.2 hys
    obtain⟨newCap,rest,r1,r2,r3,ra,r4,r5⟩:=run_append_grow hT hty hty2 hk hzne hb2 ht1 ht2 (a:=none) (n:=0) (cap:=0) (w:=w) (old:=#[]) (new:=vals') l1 (by omega) (by rw[Nat.zero_add];exact hfit) o.type (by simp[Builtin.firstCells]) l2'
    rw[Nat.zero_add]at r1 r5 r3
    refine uT (w1:=w.drew) (cap:=newCap) (arr:=vals'++ra) (t:=e) (Step.drew M w) (.inl rfl) ?_ hn rfl r1 r2 ?_ l3'.2.1 (by simp) (l3'.more ra)
    ·rw[hexec,hax];simp[r5]
    ·rw[Array.size_append,l3'.1,r4,r3,hb3,<-Nat.add_mul];congr 1;omega
  ·rename_i i sz es heq
   split at h<;>try exact h.elim
   rename_i sz' n hK
   obtain⟨⟨rfl,hsz,rfl⟩,hfit,h⟩:=h
   subst hsz
   refine⟨_,.tk i,i,_,rfl,λq e=>.inr (.inl ⟨rfl,_,_,e.symm.trans heq⟩),h,trivial,λN M a w m h1 h2 next' Q hn=>?_⟩
   have hxr:aF N M w (ev T env t x) (a.eval x):=dW m t x λj e=>h1 j (hmx j e)
   have hyr:aF N M w (ev T env t2 y) (a.eval y):=dW m t2 y λj e=>h1 j (hmy j e)
   have hxk:Hk N M w K (ev T env t x):=wV t x λj e=>h2 j (hmx j e)
   rw[heq]at hxr hxk
   have hbk:=hxk i (by simp[AV.men]) _ hK
   have hyk:Hk N M w K (ev T env t2 y):=wV t2 y λj e=>h2 j (hmy j e)
   obtain⟨l1,⟨vals,l2,l3⟩,vals',l2',l3'⟩:=ou (P:=P) hyr hyk hy
   generalize hax:a.eval x=vx at hxr
   cases hxr with
   |gs _ _ _ av n cap hd g0 g1=>
    obtain⟨a0,n0,cap0,q1,q2,q3,q4,old,q5,q6,q7⟩:=UC (P:=P) hd.drew
    simp only[Value.slice.injEq]at q1
    obtain⟨rfl,rfl,rfl⟩:=q1
    have hcells:=q6.append l3'
    have hlen:n+ys.length=(es++ys).length:=by rw[q2];simp
    have grow:cap<n+ys.length->(Tr M (M.set i (some (.tail w.drew.heap.size ((n+ys.length) * (T.at e).size)))) i)->o.wp P a w next' Q:=by
     intro hg htr
     obtain⟨newCap,rest,r1,r2,r3,ra,r4,r5⟩:=run_append_grow hT hty hty2 hk hzne hb2 ht1 ht2 (a:=av) (n:=n) (cap:=cap) (w:=w) (old:=old) (new:=vals') l1 hg (by rw[q2];exact hfit) o.type q5 l2'
     have hn':=hn
     rw[<-hlen]at hn'
     refine OB (w1:=w.drew) (cap:=newCap) (arr:=old++vals'++ra) (t:=e) (Step.drew M w) (.inr rfl) ?_ hn' m hlen r1 r2 ?_ hcells.2.1 (λ_=>htr) (hcells.more ra)
     ·rw[hexec,hax];simp only[Sem.run_bind,r5,Result.andThen_ok,Sem.run_pure];rfl
     ·rw[Array.size_append,hcells.1,<-hlen,r4,r3,hb3,<-Nat.add_mul];congr 1;omega
    rcases hbk with⟨hnil,hn0⟩ |⟨b,arr,t',htail,hrow⟩
    ·obtain⟨rfl,rfl⟩:=g0 hnil
     simp only[List.length_nil]at q2
     subst q2
     by_cases hys:ys = []
     ·subst hys
      refine OC (av:=av) (.inr ⟨rfl,hnil⟩) ?_ hn
      have e0:vals = #[]:=by have:=l3.1;simp at this;exact this
      rw[hexec,hax]
      simp only[List.length_nil]at l1 l2
      cases av<;>simp[Builtin.append_,ht1,ht2,run_underlying (aQ hT hty),run_underlying (aQ hT hty2),run_sizeOf' hT (aZ hk),l1,l2,e0,storeCells]
     ·have hpos:0<ys.length:=List.length_pos_iff.2 hys
      exact grow (by omega) (.inr (.inl ⟨hnil,_,_,Mem.set_same _ _ _,Nat.mul_pos (by omega) hb1⟩))
    ·rw[<-q2]at htail
     obtain⟨_,g1'⟩:=g1 b _ htail
     rw[q2]at g1'
     obtain⟨rfl,arr2,t2',hrow2,hsz2⟩:=g1' rfl
     obtain⟨rfl,rfl⟩:=z3b hrow hrow2
     by_cases hroom:n+ys.length<=cap
     ·-- in place
      have hle:(n+ys.length) * (T.at e).size<=cap * (T.at e).size:=Nat.mul_le_mul_right _ hroom
      have hmul:(n+ys.length) * (T.at e).size=n * (T.at e).size+ys.length * (T.at e).size:=Nat.add_mul _ _ _
      obtain⟨arr',s1,s2,s3⟩:=dY (P:=P) vals.toList w b (n * (T.at e).size) 0 arr t' hrow (by simp[l3.1];omega) (λv hv=>by
       obtain⟨k,hk',rfl⟩:=List.mem_iff_getElem.1 hv
       simp only[Array.length_toList,l3.1]at hk'
       obtain⟨e',d',he',hd'⟩:=tC l3.2.1 hk'
       have:=(l3.2.2 _ _ e' d' he' hd').2
       rw[Nat.div_add_mod']at this
       simpa[l3.1,hk']using this)
      have hst:Step M w (M.set i (some (.tail b ((n+ys.length) * (T.at e).size)))) (World.rewrite w b arr' t') [i]:=by
       refine Step.rewrite hrow htail s2 (λj hj=>?_) ⟨_,rfl,Nat.le_refl _⟩ (λid h=>Mem.set_other _ _ _ _ h) (λow' b' o' h hh=>?_)
       ·rw[s3 j,if_neg]
        rintro⟨h3,_⟩
        exact hj ⟨rfl,by omega⟩
       ·rw[Mem.set_same]at h;simp only[Option.some.injEq]at h;subst h
        obtain⟨rfl,hh⟩:=hh
        exact⟨⟨rfl,by omega⟩,rfl⟩
      have hrun:(execOp a.eval o).run P w = .ok (.value (.slice (some ⟨b,0,none⟩) (n+ys.length) cap)) (World.rewrite w b arr' t'):=by
       rw[hexec,hax]
       simp[Builtin.append_,ht1,ht2,run_underlying (aQ hT hty),run_underlying (aQ hT hty2),run_sizeOf' hT (aZ hk),l1,l2,hroom,addr_add,s1]
      simp only[Oper.wp,hrun,Oper.upon_value]
      have hkeep:=hst.keeps (N:=N)
      have hF:∀k,k<(n+ys.length) * (T.at e).size->(k<n * (T.at e).size->¬Fb N M b k)->¬Fb N (M.set i (some (.tail b ((n+ys.length) * (T.at e).size)))) b k:=by
       intro k hk1 hk2
       by_cases hkn:k<n * (T.at e).size
       ·have hc0:∃u,w.cell? ⟨b,k,none⟩=some u:=⟨arr.getD k undef,by rw[dG hrow];exact bi undef (by omega)⟩
        obtain⟨u,hu⟩:=hc0
        exact(hkeep b k u (hk2 hkn) hu).1
       ·have hown:(Own.tail b (n * (T.at e).size)).has b k:=⟨rfl,by omega⟩
        rintro(hN |⟨id,ow,e1,e2⟩)
        ·exact(m.dom i _ b k htail hown).2 hN
        ·by_cases e:id=i
         ·subst e;rw[Mem.set_same]at e1;simp only[Option.some.injEq]at e1;subst e1;have:=e2.2;omega
         ·rw[Mem.set_other _ _ _ _ e]at e1
          exact m.disj id i ow _ b k e e1 htail e2 hown
      have hold:∀(i' j:Nat) e' d',es[i']? = some e'->e'[j]? = some d'->¬Fb N M b (i' * (T.at e).size+j)/\DRel (Fb N M) w d' (arr.getD (i' * (T.at e).size+j) undef)/\(arr.getD (i' * (T.at e).size+j) undef).oneCell'=true:=by
       intro i' j e' d' he' hd'
       cases hd with
       |sl0=>simp at he'
       |sl _ _ _ _ _ _ g hn2 hcap2 hm2 hs2 h12 h22=>
        obtain⟨p1,p2,p3⟩:=h12 i' j e' d' he' hd'
        simp only[Nat.zero_add]at p1 p2
        rw[dG hrow]at p2
        have hlt2:i' * (T.at e).size+j<arr.size:=(Array.getElem?_eq_some_iff.1 p2).1
        rw[bi undef hlt2]at p2
        simp only[Option.some.injEq]at p2
        rw[p2]
        exact⟨p1,h22 i' j e' d' he' hd',p3⟩
      have hnew:∀(i' j:Nat) e' d',(es++ys)[i']? = some e'->e'[j]? = some d'->¬Fb N (M.set i (some (.tail b ((n+ys.length) * (T.at e).size)))) b (i' * (T.at e).size+j)/\DRel (Fb N M) w d' (arr'.getD (i' * (T.at e).size+j) undef)/\(arr'.getD (i' * (T.at e).size+j) undef).oneCell'=true:=by
       intro i' j e' d' he' hd'
       have hlt:=o9 hcells.2.1 he' hd'
       rw[<-hlen]at hlt
       rw[List.getElem?_append]at he'
       split at he'
       ·have hlt2:=o9 q6.2.1 he' hd'
        rw[<-q2]at hlt2
        obtain⟨p1,p2,p3⟩:=hold i' j e' d' he' hd'
        rw[s3,if_neg (by omega)]
        exact⟨hF _ hlt (λ_=>p1),p2,p3⟩
       ·rename_i hge
        have hj2:=o9 l3.2.1 he' hd'
        have hmm:es.length * (T.at e).size<=i' * (T.at e).size:=Nat.mul_le_mul_right _ (by omega)
        rw[<-q2]at hmm
        have hsub:(i' - n) * (T.at e).size=i' * (T.at e).size-n * (T.at e).size:=Nat.sub_mul _ _ _
        rw[<-q2]at he' hj2
        obtain⟨p2,p3⟩:=l3.2.2 _ j e' d' he' hd'
        rw[s3,if_pos ⟨by omega,by simp[l3.1];omega⟩]
        have:(vals.toList.getD (i' * (T.at e).size+j-(n * (T.at e).size+0)) undef)=vals.getD ((i' - n) * (T.at e).size+j) undef:=by
         rw[show i' * (T.at e).size+j-(n * (T.at e).size+0)=(i' - n) * (T.at e).size+j by omega]
         simp[Array.getD_eq_getD_getElem?,List.getD_eq_getElem?_getD]
        rw[this]
        exact⟨hF _ hlt (λh=>by omega),p2,p3⟩
      refine hn _ _ _ hst ?_ (.gs _ _ _ _ _ _ (.sl _ _ b 0 cap _ (λi' j=>arr'.getD (i' * (T.at e).size+j) undef) hlen hroom q4 hcells.2.1 (λi' j e' d' he' hd'=>?_) λi' j e' d' he' hd'=>(hnew i' j e' d' he' hd').2.1.keep hkeep) ?_ ?_) ?_
      ·by_cases hys:ys.length=0
       ·refine .inl ?_
        rw[Mem.set_same,htail,hys,Nat.add_zero]
       ·exact .inr (.inr (.inl ⟨b,_,b,_,htail,Mem.set_same _ _ _,Nat.mul_lt_mul_of_pos_right (by omega) hb1⟩))
      ·obtain⟨p1,p2,p3⟩:=hnew i' j e' d' he' hd'
       have hlt:=o9 hcells.2.1 he' hd'
       rw[<-hlen]at hlt
       rw[Nat.zero_add]
       exact⟨p1,by rw[dG (dP (Array.getElem?_eq_some_iff.1 hrow).1)];exact bi undef (by omega),p3⟩
      ·intro e0;rw[Mem.set_same]at e0;simp at e0
      ·intro b' lo e0
       rw[Mem.set_same]at e0;simp only[Option.some.injEq,Own.tail.injEq]at e0
       obtain⟨rfl,rfl⟩:=e0
       exact⟨by rw[<-hlen];exact Nat.le_refl _,λ_=>⟨rfl,arr',t',dP (Array.getElem?_eq_some_iff.1 hrow).1,by omega⟩⟩
      ·rintro id blk e0
       simp only[Option.some.injEq,Prod.mk.injEq]at e0
       obtain⟨rfl,rfl⟩:=e0
       rw[<-hlen]
       exact⟨by simp[Wr.ids],.inr ⟨b,arr',t',Mem.set_same _ _ _,dP (Array.getElem?_eq_some_iff.1 hrow).1⟩⟩
     ·exact grow (by omega) (.inr (.inr (.inl ⟨b,_,_,_,htail,Mem.set_same _ _ _,Nat.mul_lt_mul_of_pos_right (by omega) hb1⟩)))
  ·-- onto a slice that is written in place
   rename_i i vr sz n heq
   split at h
   ·rename_i vr2 sz2 es hK
    obtain⟨⟨⟨rfl,rfl⟩,hsz,hn0⟩,hfit,h⟩:=h
    subst hsz
    refine⟨_,.tk i,i,_,rfl,λq e=>.inr (.inr ⟨rfl,_,_,_,e.symm.trans heq⟩),h,trivial,λN M a w m h1 h2 next' Q hn=>?_⟩
    have hxr:aF N M w (ev T env t x) (a.eval x):=dW m t x λj e=>h1 j (hmx j e)
    have hyr:aF N M w (ev T env t2 y) (a.eval y):=dW m t2 y λj e=>h1 j (hmy j e)
    have hxk:Hk N M w K (ev T env t x):=wV t x λj e=>h2 j (hmx j e)
    rw[heq]at hxr hxk
    have hbk:=hxk i (by simp[AV.men]) _ hK
    have hyk:Hk N M w K (ev T env t2 y):=wV t2 y λj e=>h2 j (hmy j e)
    obtain⟨l1,⟨vals,l2,l3⟩,vals',l2',l3'⟩:=ou (P:=P) hyr hyk hy
    generalize hax:a.eval x=vx at hxr
    cases hxr with
    |own _ _ _ _ _ av cap ha ha'=>
     rcases hbk with⟨b,arr,t',hM,hrow,hle,hlen,hcell⟩ |⟨hM,he0⟩
     rotate_left
     ·obtain⟨hz0,_,hz1⟩:=(ha' _ hM).2 rfl
      subst he0 hz0 hz1
      by_cases hys:ys = []
      ·subst hys
       refine z6j (av:=av) hM ?_ hn
       have e0:vals = #[]:=by have:=l3.1;simp at this;exact this
       rw[hexec,hax]
       simp only[List.length_nil]at l1 l2
       cases av<;>simp[Builtin.append_,ht1,ht2,run_underlying (aQ hT hty),run_underlying (aQ hT hty2),run_sizeOf' hT (aZ hk),l1,l2,e0,storeCells]
      ·have hpos:0<ys.length:=List.length_pos_iff.2 hys
       have o1:(Builtin.firstCells (T.at e).size 0 (.slice av 0 0)).run P w.drew = .ok #[] w.drew:=by
        cases av<;>simp[Builtin.firstCells,loadCells,loadCellsFrom]
       have o2:jd (Fb N M) w.drew (T.at e).size [] #[]:=⟨by simp,by simp,by simp⟩
       obtain⟨newCap,rest,r1,r2,r3,ra,r4,r5⟩:=run_append_grow hT hty hty2 hk hzne hb2 ht1 ht2 (a:=av) (n:=0) (cap:=0) (w:=w) (old:=#[]) (new:=vals') l1 (by omega) hfit o.type o1 l2'
       have hcells:=o2.append l3'
       refine uT (w1:=w.drew) (cap:=newCap) (arr:=#[]++vals'++ra) (t:=e) (Step.drew M w) (.inr rfl) ?_ hn (by simp) r1 r2 ?_ hcells.2.1 (λ_=>.inr (.inr (.inr (.inr (.inr (.inr (.inl ⟨vr,_,vr+1,hM,Mem.set_same _ _ _,by omega⟩))))))) (hcells.more ra)
       ·rw[hexec,hax];simp only[Sem.run_bind,r5,Result.andThen_ok,Sem.run_pure];rfl
       ·rw[Array.size_append,hcells.1,r4,r3,hb3,<-Nat.add_mul];congr 1;simp;omega
     obtain⟨p1,p2,p3,arr2,t2',p4,p5⟩:=(ha b _ hM).2 rfl
     obtain⟨rfl,rfl⟩:=z3b hrow p4
     rw[Nat.zero_add]at p5
     simp only[Nat.zero_mul]at p3
     have hne:n+ys.length=(es.take n++ys).length:=by simp;omega
     have htr:∀b',Tr M (M.set i (some (.vb b' (vr+1)))) i:=λb'=>.inr (.inr (.inr (.inl ⟨b,vr,b',vr+1,hM,Mem.set_same _ _ _,by omega⟩)))
     by_cases hroom:n+ys.length<=cap
     ·have fin:∀arr',arr'.size=arr.size->(∀j,arr'.getD j undef=if n * (T.at e).size+0<=j/\j<n * (T.at e).size+0+vals.toList.length then vals.toList.getD (j-(n * (T.at e).size+0)) undef else arr.getD j undef) ->
        (execOp a.eval o).run P w = .ok (.value (.slice av (n+ys.length) cap)) (World.rewrite w b arr' t')->o.wp P a w next' Q:=by
       intro arr' s2 s3 hrun
       have hst:Step M w (M.set i (some (.vb b (vr+1)))) (World.rewrite w b arr' t') [i]:=by
        refine Step.rewrite hrow hM s2 (λj hj=>absurd rfl hj) ⟨0,rfl⟩ (λid h=>Mem.set_other _ _ _ _ h) (λow' b' o' h hh=>?_)
        rw[Mem.set_same]at h;simp only[Option.some.injEq]at h;subst h
        exact⟨hh,hh⟩
       simp only[Oper.wp,hrun,Oper.upon_value]
       have hkeep:=hst.keeps (N:=N)
       have hrow':dJ (World.rewrite w b arr' t') b arr' t':=dP (Array.getElem?_eq_some_iff.1 hrow).1
       refine hn _ _ _ hst (htr b) (.own _ _ _ _ _ _ _ (λb' v' e'=>?_) λv' e'=>by rw[Mem.set_same]at e';simp at e') ?_
       ·rw[Mem.set_same]at e';simp only[Option.some.injEq,Own.vb.injEq]at e'
        obtain⟨rfl,rfl⟩:=e'
        exact⟨Nat.le_refl _,λ_=>⟨hroom,p2,λh=>by simp[p3 h],arr',t',hrow',by rw[s2,p5,Nat.zero_add]⟩⟩
       ·rintro id blk e'
        simp only[Option.some.injEq,Prod.mk.injEq]at e'
        obtain⟨rfl,rfl⟩:=e'
        refine⟨by simp[Wr.ids],.inl ⟨b,arr',t',Mem.set_same _ _ _,hrow',?_,λe' he=>?_,λi' j e' d' he' hd'=>?_⟩⟩
        ·rw[s2,p5,<-hne];exact Nat.mul_le_mul_right _ hroom
        ·rcases List.mem_append.1 he with h |h
         ·exact hlen e' (List.mem_of_mem_take h)
         ·exact l3.2.1 e' h
        ·rw[List.getElem?_append]at he'
         simp only[List.length_take,show min n es.length=n by omega]at he'
         split at he'
         ·rename_i hlt
          rw[List.getElem?_take,if_pos hlt]at he'
          have hj:j<(T.at e).size:=by rw[<-hlen e' (List.mem_of_getElem? he')];exact(List.getElem?_eq_some_iff.1 hd').1
          have:(i'+1) * (T.at e).size<=n * (T.at e).size:=Nat.mul_le_mul_right _ hlt
          rw[Nat.add_mul]at this
          rw[s3,if_neg (by omega)]
          exact⟨(hcell i' j e' d' he' hd').1.keep hkeep,(hcell i' j e' d' he' hd').2⟩
         ·rename_i hge
          have hj2:=o9 l3.2.1 he' hd'
          have hmm:n * (T.at e).size<=i' * (T.at e).size:=Nat.mul_le_mul_right _ (by omega)
          have hsub:(i' - n) * (T.at e).size=i' * (T.at e).size-n * (T.at e).size:=Nat.sub_mul _ _ _
          obtain⟨g2,g3⟩:=l3.2.2 _ j e' d' he' hd'
          rw[s3,if_pos ⟨by omega,by simp[l3.1];omega⟩]
          have:(vals.toList.getD (i' * (T.at e).size+j-(n * (T.at e).size+0)) undef)=vals.getD ((i' - n) * (T.at e).size+j) undef:=by
           rw[show i' * (T.at e).size+j-(n * (T.at e).size+0)=(i' - n) * (T.at e).size+j by omega]
           simp[Array.getD_eq_getD_getElem?,List.getD_eq_getElem?_getD]
          rw[this]
          exact⟨g2.keep hkeep,g3⟩
      by_cases hc0:0<cap
      ·obtain rfl:=p3 hc0
       have hle2:(n+ys.length) * (T.at e).size<=cap * (T.at e).size:=Nat.mul_le_mul_right _ hroom
       rw[Nat.add_mul]at hle2
       obtain⟨arr',s1,s2,s3⟩:=dY (P:=P) vals.toList w b (n * (T.at e).size) 0 arr t' hrow (by simp[l3.1];omega) (λv hv=>by
        obtain⟨k,hk',rfl⟩:=List.mem_iff_getElem.1 hv
        simp only[Array.length_toList,l3.1]at hk'
        obtain⟨e',d',he',hd'⟩:=tC l3.2.1 hk'
        have:=(l3.2.2 _ _ e' d' he' hd').2
        rw[Nat.div_add_mod']at this
        simpa[l3.1,hk']using this)
       refine fin arr' s2 s3 ?_
       rw[hexec,hax]
       simp[Builtin.append_,ht1,ht2,run_underlying (aQ hT hty),run_underlying (aQ hT hty2),run_sizeOf' hT (aZ hk),l1,l2,hroom,addr_add,s1]
      ·obtain rfl:cap=0:=by omega
       obtain rfl:n=0:=by omega
       have hy0:ys.length=0:=by omega
       have hys:ys = []:=List.length_eq_zero_iff.1 hy0
       have e0:vals = #[]:=by have:=l3.1;rw[hy0]at this;simpa using this
       subst e0
       obtain⟨arr',s1,s2,s3⟩:=dY (P:=P) [] w b (0 * (T.at e).size) 0 arr t' hrow (by simp) (by simp)
       have hw:w=World.rewrite w b arr' t':=by simpa[storeCells]using s1
       refine fin arr' s2 s3 ?_
       rw[hexec,hax,<-hw]
       rw[hy0]at l1 l2 ⊢
       cases av<;>simp[Builtin.append_,ht1,ht2,run_underlying (aQ hT hty),run_underlying (aQ hT hty2),run_sizeOf' hT (aZ hk),l1,l2,storeCells]
     ·obtain⟨old,o1,o2⟩:=YP (P:=P) (w:=w.drew) (cap:=cap) (av:=av) hrow hle hlen (λi j e d he hd=>⟨(hcell i j e d he hd).1.drew,(hcell i j e d he hd).2⟩) hn0 (λh=>p3 (by omega))
      obtain⟨newCap,rest,r1,r2,r3,ra,r4,r5⟩:=run_append_grow hT hty hty2 hk hzne hb2 ht1 ht2 (a:=av) (n:=n) (cap:=cap) (w:=w) (old:=old) (new:=vals') l1 (by omega) hfit o.type o1 l2'
      have hcells:=o2.append l3'
      refine uT (w1:=w.drew) (cap:=newCap) (arr:=old++vals'++ra) (t:=e) (Step.drew M w) (.inr rfl) ?_ hn hne r1 r2 ?_ hcells.2.1 (λ_=>htr _) (hcells.more ra)
      ·rw[hexec,hax];simp only[Sem.run_bind,r5,Result.andThen_ok,Sem.run_pure];rfl
      ·rw[Array.size_append,hcells.1,<-hne,r4,r3,hb3,<-Nat.add_mul];congr 1;omega
   ·exact h.elim
  ·exact h.elim
end
variable [ae] {l : List Nat} {K : Heap} {w : World} {i : Nat} {env : Env} {N N2 : aS} {M : Mem} {P : Program} {b : Block} {j : Nat} {R R' : Ending → World → Prop} {cs : List AV}
theorem bf{x:Nat}:nU l x=true↔x∈l:=by
 induction l with
 |nil=>simp[nU]
 |cons y r ih=>
  simp only[nU,Bool.or_eq_true,ih]
  simp
theorem bG:∀{r:List Nat},allIn l r=true↔∀x∈r,x∈l:=by
 intro r
 induction r with
 |nil=>simp[allIn]
 |cons y r ih=>simp[allIn,bf,ih]
theorem je{x:Nat}:∀{r:List Nat},x∈minus r l↔x∈r/\x ∉ l:=by
 intro r
 induction r with
 |nil=>simp[minus]
 |cons y r ih=>
  simp only[minus]
  split
  ·rename_i h
   have:=bf.1 h
   rw[ih]
   constructor
   ·rintro⟨h1,h2⟩;exact⟨by simp[h1],h2⟩
   ·rintro⟨h1,h2⟩
    rcases List.mem_cons.1 h1 with h1 |h1
    ·subst h1;exact absurd this h2
    ·exact⟨h1,h2⟩
  ·have hn:y ∉ l:=λh'=>by grind[bf]
   grind
theorem dH:i∈keys K↔∃b,K.get i=some b:=by
 induction K with
 |nil=>simp[keys,Heap.get]
 |cons x r ih=>
  rw[Heap.get_cons]
  simp[keys]
  split<;>grind
theorem aG{ρ:List (Nat×Nat)}:∀{l:List Nat},j∈aO ρ l↔∃i∈l,rn ρ i=j:=by
 intro l
 induction l with
 |nil=>simp[aO]
 |cons x r ih=>simp[aO];grind
theorem nJ{ρ:List (Nat×Nat)}:∀{l:List Nat},pO (aO ρ l)=true->∀i∈l,∀j∈l,rn ρ i=rn ρ j->i=j:=by
 intro l
 induction l with
 |nil=>simp
 |cons x r ih=>
  intro h
  simp[aO,pO]at h
  have hx:∀j∈r,rn ρ x≠rn ρ j:=by
   grind[bf,aG]
  grind
def uU(K:Heap):Heap->Heap
 | []=>K
 |(i,b)::r=>(uU K r).put i b
theorem jf:∀{Δ:Heap},(uU K Δ).get j=match Δ.get j with |some b=>some b |none=>K.get j:=by
 intro Δ
 induction Δ with
 |nil=>rfl
 |cons x r ih=>
  grind[uU,Heap.get_put,Heap.get_cons]
theorem mO:∀{x:AV} {id:Nat},x.men id=true->id∈x.ids:=by
 intro x
 have go:∀(cs:List AV) (id:Nat),(∀c∈cs,c.men id=true->id∈c.ids)->AV.men.go id cs=true->id∈AV.ids.go cs:=by
  intro cs id
  induction cs with
  |nil=>intro _ h;simp[AV.men.go]at h
  |cons c r ih=>
   intro hc h
   simp only[AV.men.go]at h
   simp only[AV.ids.go,List.mem_append]
   split at h
   ·rename_i hm;exact .inl (hc c (by simp) hm)
   ·exact .inr (ih (λc' h'=>hc c' (by simp[h'])) h)
 intro id h
 match x with
 | .data _=>simp[AV.men]at h
 | .nilsl _=>simp[AV.men]at h
 | .top=>simp[AV.men]at h
 | .gs i _ _=>simp[AV.men]at h;simp[AV.ids,h]
 | .own i _ _ _ _=>simp[AV.men]at h;simp[AV.ids,h]
 | .ptr i _=>simp[AV.men]at h;simp[AV.ids,h]
 | .eptr i _ _ _ _=>simp[AV.men]at h;simp[AV.ids,h]
 | .map i=>simp[AV.men]at h;simp[AV.ids,h]
 | .yld i=>simp[AV.men]at h;simp[AV.ids,h]
 | .iface t v=>simp only[AV.men]at h;simp only[AV.ids];exact mO h
 | .fn f cs=>simp only[AV.men]at h;simp only[AV.ids];exact go cs id (λc hc hm=>mO hm) h
 | .bnd f cs=>simp only[AV.men]at h;simp only[AV.ids];exact go cs id (λc hc hm=>mO hm) h
 | .agg cs=>simp only[AV.men]at h;simp only[AV.ids];exact go cs id (λc hc hm=>mO hm) h
 | .tuple cs=>simp only[AV.men]at h;simp only[AV.ids];exact go cs id (λc hc hm=>mO hm) h
 | .dfr cs=>simp only[AV.men]at h;simp only[AV.ids];exact go cs id (λc hc hm=>mO hm) h
termination_by x=>x
theorem D7{t:Nat}:∀{l:List Operand},Operand.tmp t∈l->t∈tmpsOf l:=by
 intro l
 induction l with
 |nil=>simp
 |cons x r ih=>
  intro h
  rcases List.mem_cons.1 h with h2 |h2
  ·grind[tmpsOf]
  ·have:=ih h2
   cases x<;>simp[tmpsOf,this]
theorem UD{t id:Nat}:∀{l:List Nat},t∈l->id∈(env.get t).ids->id∈ja env l:=by
 intro l
 induction l with
 |nil=>simp
 |cons x r ih=>
  intro h hi
  simp[ja]
  rcases List.mem_cons.1 h with h |h
  ·subst h;exact .inl hi
  ·exact .inr (ih h hi)
def Oper.wq(P:Program)(o:Oper)(a:Act)(w:World)(next:Act->World->Prop)(Q:Exit->Act->World->Prop):Prop:=
 o.wp P a w next Q\/∃(l:Nat) (f:FuncId) (tmps:Array Value) (assign body:Code),(execOp a.eval o).run P w = .ok (.round l f tmps assign body) w/\RoundIn Fence.wide 0 P l f tmps assign body w fun
   | .returned v,w''=>next (a.put o.dst v) w''
   | .panicked chain,w''=>Q (.panic chain) a w''
   | .outgrown,_=>LetsOut Q
def FP(P:Program)(o:Oper)(env:Env)(K:Heap)(pn:Bool)(r:AV)(W nw:List Nat)(Δ:Heap):Prop:=
 ∀(N:aS) (M:Mem) (a:Act) (w:World),bT N M w->(∀j,Operand.tmp j∈o.op.operands->aF N M w (env.get j) (a.tmps.getD j undef))->(∀id∈fP env K o,∀blk,K.get id=some blk->eP N M w id blk) ->
  ∀(next:Act->World->Prop) (Q:Exit->Act->World->Prop),(∀v M' w',Step M w M' w' W->(∀id∈W,id ∉ nw->Tr M M' id)->aF N M' w' r v->(∀id blk,Δ.get id=some blk->eP N M' w' id blk) ->
   match pn with |true=>Q (.panic [{ v,recovered:=false }]) a w' |false=>next (a.put o.dst v) w')->Oper.wq P o a w next Q
def Wr.nw:Wr->List Nat | .new d=>[d] |_=>[]
def dl(δ:Option (Nat×Block)):Heap:=match δ with |some x=>[x] |none=>[]
theorem UE{δ:Option (Nat×Block)}{id:Nat}{blk:Block}:(dl δ).get id=some blk↔δ=some (id,blk):=by
 cases δ with
 |none=>simp[dl,Heap.get]
 |some x=>
  obtain⟨i,b⟩:=x
  simp[dl]
  rw[Heap.get_cons]
  by_cases e:i=id
  ·subst e;simp
  ·simp[Heap.get]
theorem Lu(K:Heap)(δ:Option (Nat×Block)):uU K (dl δ)=upd K δ:=by cases δ<;>rfl
theorem zcz{N:aS}{o:Oper}(hr:fP env K o=ja env (tmpsOf o.op.operands.toList))(h:∀id∈fP env K o,∀blk,K.get id=some blk->eP N M w id blk) :
  ∀j,Operand.tmp j∈o.op.operands->Hk N M w K (env.get j):=by
 intro j hj id hi blk hb
 refine h id ?_ blk hb
 rw[hr]
 exact UD (D7 (by simpa using hj)) (mO hi)
theorem wO.eff{o:Oper}{r:AV}{wr:Wr}{δ:Option (Nat×Block)}(hr:fP env K o=ja env (tmpsOf o.op.operands.toList))(h:wO P o env K r wr δ):FP P o env K false r wr.ids wr.nw (dl δ):=by
 intro N M a w m h1 h2 next Q hn
 refine .inl <| h N M a w m h1 (zcz hr h2) next Q λv M' w' hs hw hv hδ=>hn v M' w' hs (λid hi hni=>?_) hv λid blk hb=>(hδ id blk (UE.1 hb)).2
 cases wr with
 |no=>simp[Wr.ids]at hi
 |new d=>grind[Wr.ids,Wr.nw]
 |st i=>exact .inl (by rw[show M'=M from hw])
 |tk i=>simp[Wr.ids]at hi;subst hi;exact hw
theorem z6h.eff{o:Oper}{p:AV}(hr:fP env K o=ja env (tmpsOf o.op.operands.toList))(h:z6h P o env K p):FP P o env K true p [] [] []:=by
 intro N M a w m h1 h2 next Q hn
 refine .inl <| h N M a w m h1 (zcz hr h2) next Q λv w' hs hv=>hn v M w' hs (by simp) hv (by simp[Heap.get])
theorem gK{ρ:List (Nat×Nat)}:∀{cs:List AV},(AV.ren.go ρ cs)[i]? = (cs[i]?).map (AV.ren ρ):=by
 intro cs
 induction cs generalizing i with
 |nil=>simp[AV.ren.go]
 |cons c r ih=>
  grind[AV.ren.go]
theorem dI{ρ:List (Nat×Nat)}:∀{cs:List AV},(AV.ren.go ρ cs).length=cs.length:=by
 intro cs
 induction cs with
 |nil=>rfl
 |cons c r ih=>simp[AV.ren.go,ih]
theorem fJ.less{F F':aS}(h:∀b o,F' b o->F b o):fJ w F w F':=λb o _ hf hc=>⟨λh'=>hf (h b o h'),hc⟩
theorem aF.rn1{M M2:Mem}{ρ:List (Nat×Nat)}(hF:∀b o,Fb N2 M2 b o->Fb N M b o)(x:AV):∀{v:Value},aF N M w (x.ren ρ) v->(∀id,x.men id=true->M2 id=M (rn ρ id)\/M2 id=none)->aF N2 M2 w x v:=by
 intro v h hm
 have go:∀(cs:List AV) (vs:Array Value),(∀c∈cs,∀{v},aF N M w (c.ren ρ) v->(∀id,c.men id=true->M2 id=M (rn ρ id)\/M2 id=none)->aF N2 M2 w c v) ->
   (∀id,AV.men.go id cs=true->M2 id=M (rn ρ id)\/M2 id=none)->(∀(i:Nat) c,(AV.ren.go ρ cs)[i]? = some c->aF N M w c (vs.getD i undef))->∀(i:Nat) c,cs[i]? = some c->aF N2 M2 w c (vs.getD i undef):=by
  intro cs vs ih hm hh i c hc
  exact ih c (List.mem_of_getElem? hc) (hh i (c.ren ρ) (by rw[gK,hc];rfl)) λid hi=>hm id (kU hc hi)
 match x with
 | .data d=>cases h with |data _ _ h=>exact .data _ _ (h.keep (fJ.less hF))
 | .nilsl s=>cases h;exact .nilsl s
 | .top=>exact .top _
 | .dfr cs=>exact .dfr _ _
 | .gs id sz es=>
  cases h with
  |gs _ _ _ a n cap h h0 h1=>
   have:=hm id (by simp[AV.men])
   refine .gs id sz es a n cap (h.keep (fJ.less hF)) ?_ ?_
   ·intro e;rcases this with h |h
    ·exact h0 (h ▸ e)
    ·rw[h]at e;simp at e
   ·intro b lo e;rcases this with h |h
    ·exact h1 b lo (h ▸ e)
    ·rw[h]at e;simp at e
 | .own id vr sz off len=>
  cases h with
  |own _ _ _ _ _ a cap h hnb=>
   refine .own id vr sz off len a cap (λb v e=>?_) λv e=>?_
   ·rcases hm id (by simp[AV.men])with h' |h'
    ·exact h b v (h' ▸ e)
    ·rw[h']at e;simp at e
   ·rcases hm id (by simp[AV.men])with h' |h'
    ·exact hnb v (h' ▸ e)
    ·rw[h']at e;simp at e
 | .ptr id off=>
  cases h with
  |ptr _ _ a h=>
   refine .ptr id off a λb e=>?_
   rcases hm id (by simp[AV.men])with h' |h'
   ·exact h b (h' ▸ e)
   ·rw[h']at e;simp at e
 | .eptr id vr sz i off=>
  cases h with
  |eptr _ _ _ _ _ a h hnb=>
   refine .eptr id vr sz i off a (λb v e=>?_) λv e=>?_
   ·rcases hm id (by simp[AV.men])with h' |h'
    ·exact h b v (h' ▸ e)
    ·rw[h']at e;simp at e
   ·rcases hm id (by simp[AV.men])with h' |h'
    ·exact hnb v (h' ▸ e)
    ·rw[h']at e;simp at e
 | .map id=>
  cases h with
  |map _ r h=>
   refine .map id r λb e=>?_
   rcases hm id (by simp[AV.men])with h' |h'
   ·exact h b (h' ▸ e)
   ·rw[h']at e;simp at e
 | .yld id=>
  cases h with
  |yld _ l h=>
   refine .yld id l λl' S e=>?_
   rcases hm id (by simp[AV.men])with h' |h'
   ·exact h l' S (h' ▸ e)
   ·rw[h']at e;simp at e
 | .iface t y=>
  cases h with
  |iface _ _ u h=>exact .iface t y u (aF.rn1 hF y h hm)
 | .fn f cs=>
  simp only[AV.ren]at h
  cases h with
  |fn _ _ vs hl hh=>exact .fn f cs vs (by rw[hl,dI]) (go cs vs (λc hc=>aF.rn1 hF c) hm hh)
 | .bnd f cs=>
  simp only[AV.ren]at h
  cases h with
  |bnd _ _ vs hl hh=>exact .bnd f cs vs (by rw[hl,dI]) (go cs vs (λc hc=>aF.rn1 hF c) hm hh)
 | .agg cs=>
  simp only[AV.ren]at h
  cases h with
  |agg _ vs hl hh=>exact .agg cs vs (by rw[hl,dI]) (go cs vs (λc hc=>aF.rn1 hF c) hm hh)
 | .tuple cs=>
  simp only[AV.ren]at h
  cases h with
  |tuple _ vs hl hh=>exact .tuple cs vs (by rw[hl,dI]) (go cs vs (λc hc=>aF.rn1 hF c) hm hh)
termination_by x
theorem aF.rn2{M M2:Mem}{ρ:List (Nat×Nat)}(hF:∀b o,Fb N M b o->Fb N2 M2 b o){x:AV}{v:Value}(h:aF N2 M2 w x v)(hm:∀id,x.men id=true->M (rn ρ id)=M2 id\/M (rn ρ id)=none):aF N M w (x.ren ρ) v:=by
 induction h with
 |data d v h=>exact .data _ _ (h.keep (fJ.less hF))
 |nilsl s=>exact .nilsl s
 |top v=>exact .top _
 |dfr cs v=>exact .dfr _ _
 |gs id sz es a n cap h h0 h1=>
  have:=hm id (by simp[AV.men])
  refine .gs _ sz es a n cap (h.keep (fJ.less hF)) ?_ ?_
  ·intro e;rcases this with h |h
   ·exact h0 (h ▸ e)
   ·rw[h]at e;simp at e
  ·intro b lo e;rcases this with h |h
   ·exact h1 b lo (h ▸ e)
   ·rw[h]at e;simp at e
 |own id vr sz off len a cap h hnb=>
  refine .own _ vr sz off len a cap (λb v e=>?_) λv e=>?_
  ·rcases hm id (by simp[AV.men])with h' |h'
   ·exact h b v (h' ▸ e)
   ·rw[h']at e;simp at e
  ·rcases hm id (by simp[AV.men])with h' |h'
   ·exact hnb v (h' ▸ e)
   ·rw[h']at e;simp at e
 |ptr id off a h=>
  refine .ptr _ off a λb e=>?_
  rcases hm id (by simp[AV.men])with h' |h'
  ·exact h b (h' ▸ e)
  ·rw[h']at e;simp at e
 |eptr id vr sz i off a h hnb=>
  refine .eptr _ vr sz i off a (λb v e=>?_) λv e=>?_
  ·rcases hm id (by simp[AV.men])with h' |h'
   ·exact h b v (h' ▸ e)
   ·rw[h']at e;simp at e
  ·rcases hm id (by simp[AV.men])with h' |h'
   ·exact hnb v (h' ▸ e)
   ·rw[h']at e;simp at e
 |map id r h=>
  refine .map _ r λb e=>?_
  rcases hm id (by simp[AV.men])with h' |h'
  ·exact h b (h' ▸ e)
  ·rw[h']at e;simp at e
 |yld id l h=>
  refine .yld _ l λl' S e=>?_
  rcases hm id (by simp[AV.men])with h' |h'
  ·exact h l' S (h' ▸ e)
  ·rw[h']at e;simp at e
 |iface t y u h ih=>exact .iface t _ u (ih hm)
 |fn f cs vs hl h ih=>
  refine .fn f _ vs (by rw[hl,dI]) λi c hc=>?_
  rw[gK,Option.map_eq_some_iff]at hc
  obtain⟨c0,hc0,rfl⟩:=hc
  exact ih i c0 hc0 λid hi=>hm id (by simp only[AV.men];exact kU hc0 hi)
 |bnd f cs vs hl h ih=>
  refine .bnd f _ vs (by rw[hl,dI]) λi c hc=>?_
  rw[gK,Option.map_eq_some_iff]at hc
  obtain⟨c0,hc0,rfl⟩:=hc
  exact ih i c0 hc0 λid hi=>hm id (by simp only[AV.men];exact kU hc0 hi)
 |agg cs vs hl h ih=>
  refine .agg _ vs (by rw[hl,dI]) λi c hc=>?_
  rw[gK,Option.map_eq_some_iff]at hc
  obtain⟨c0,hc0,rfl⟩:=hc
  exact ih i c0 hc0 λid hi=>hm id (by simp only[AV.men];exact kU hc0 hi)
 |tuple cs vs hl h ih=>
  refine .tuple _ vs (by rw[hl,dI]) λi c hc=>?_
  rw[gK,Option.map_eq_some_iff]at hc
  obtain⟨c0,hc0,rfl⟩:=hc
  exact ih i c0 hc0 λid hi=>hm id (by simp only[AV.men];exact kU hc0 hi)
theorem eP.rn1{M M2:Mem}{ρ:List (Nat×Nat)}(hF:∀b o,Fb N2 M2 b o->Fb N M b o)(h:eP N M w (rn ρ i) (b.ren ρ))(hi:M2 i=M (rn ρ i))(hm:∀id,b.men id=true->M2 id=M (rn ρ id)\/M2 id=none):eP N2 M2 w i b:=by
 cases b with
 |cells cs=>
  obtain⟨b,arr,t,e1,e2,e3,e4⟩:=h
  refine⟨b,arr,t,hi.trans e1,e2,by rw[e3,dI],λj c hc=>aF.rn1 hF c (e4 j (c.ren ρ) (by rw[gK,hc];rfl)) λid hi=>hm id (by simp only[Block.men];exact kU hc hi)⟩
 |arr sz es=>
  rcases h with⟨b,arr,t,e1,e2,e3,e4,e5⟩ |⟨e1,e2⟩
  ·exact .inl ⟨b,arr,t,hi.trans e1,e2,e3,e4,λi j e d he hd=>⟨(e5 i j e d he hd).1.keep (fJ.less hF),(e5 i j e d he hd).2⟩⟩
  ·exact .inr ⟨hi.trans e1,e2⟩
 |tok sz n=>
  rcases h with⟨e1,e2⟩ |⟨b,arr,t,e1,e2⟩
  ·exact .inl ⟨hi.trans e1,e2⟩
  ·exact .inr ⟨b,arr,t,hi.trans e1,e2⟩
 |map g l es=>
  obtain⟨b,mes,clock,e1,e2,e3,est,e4⟩:=h
  exact⟨b,mes,clock,hi.trans e1,e2,e3,est,λi x e=>by
   obtain⟨f0,m',f1,f2,f3⟩:=e4 i x e
   exact⟨f0,m',f1,f2.keep (fJ.less hF),f3.keep (fJ.less hF)⟩⟩
 |dead=>trivial
 |adr j c=>exact aF.rn1 hF (.ptr j 0) h λid hi=>hm id hi
 |rnd R=>
  obtain⟨l,S,e1,e2⟩:=h
  exact⟨l,S,hi.trans e1,R.keep e2 (λb o hS=>.inr ⟨_,_,hi.trans e1,o,Nat.le_refl _,hS⟩) (Nat.le_refl _) (λ_ _ _=>rfl) (fJ.less hF) λb arr t h=>⟨arr,h,rfl⟩⟩
theorem eP.rn2{M M2:Mem}{ρ:List (Nat×Nat)}(hF:∀b o,Fb N M b o->Fb N2 M2 b o)(h:eP N2 M2 w i b)(hi:M (rn ρ i)=M2 i)(hm:∀id,b.men id=true->M (rn ρ id)=M2 id\/M (rn ρ id)=none):eP N M w (rn ρ i) (b.ren ρ):=by
 cases b with
 |cells cs=>
  obtain⟨b,arr,t,e1,e2,e3,e4⟩:=h
  refine⟨b,arr,t,hi.trans e1,e2,by rw[e3,dI],λj c hc=>?_⟩
  rw[gK,Option.map_eq_some_iff]at hc
  obtain⟨c0,hc0,rfl⟩:=hc
  exact(e4 j c0 hc0).rn2 hF λid hi=>hm id (by simp only[Block.men];exact kU hc0 hi)
 |arr sz es=>
  rcases h with⟨b,arr,t,e1,e2,e3,e4,e5⟩ |⟨e1,e2⟩
  ·exact .inl ⟨b,arr,t,hi.trans e1,e2,e3,e4,λi j e d he hd=>⟨(e5 i j e d he hd).1.keep (fJ.less hF),(e5 i j e d he hd).2⟩⟩
  ·exact .inr ⟨hi.trans e1,e2⟩
 |tok sz n=>
  rcases h with⟨e1,e2⟩ |⟨b,arr,t,e1,e2⟩
  ·exact .inl ⟨hi.trans e1,e2⟩
  ·exact .inr ⟨b,arr,t,hi.trans e1,e2⟩
 |map g l es=>
  obtain⟨b,mes,clock,e1,e2,e3,est,e4⟩:=h
  exact⟨b,mes,clock,hi.trans e1,e2,e3,est,λi x e=>by
   obtain⟨f0,m',f1,f2,f3⟩:=e4 i x e
   exact⟨f0,m',f1,f2.keep (fJ.less hF),f3.keep (fJ.less hF)⟩⟩
 |dead=>trivial
 |adr j c=>exact aF.rn2 (x:=.ptr j 0) hF h λid hi=>hm id hi
 |rnd R=>
  obtain⟨l,S,e1,e2⟩:=h
  exact⟨l,S,hi.trans e1,R.keep e2 (λb o hS=>.inr ⟨_,_,hi.trans e1,o,Nat.le_refl _,hS⟩) (Nat.le_refl _) (λ_ _ _=>rfl) (fJ.less hF) λb arr t h=>⟨arr,h,rfl⟩⟩
def jr(ρ:List (Nat×Nat))(l:List Nat)(M:Mem):Mem:=λi=>match nU l i with |true=>M (rn ρ i) |false=>none
def uV(ρ:List (Nat×Nat))(l:List Nat)(N:aS)(M:Mem):aS:=λb o=>N b o\/∃id ow,M id=some ow/\ow.has b o/\∀i∈l,rn ρ i≠id
def inv(ρ:List (Nat×Nat))(j:Nat):List Nat->Option Nat
 | []=>none
 |i::r=>if rn ρ i=j then some i else inv ρ j r
def rY(ρ:List (Nat×Nat))(l:List Nat)(M Mc:Mem):Mem:=λj=>match inv ρ j l with |some i=>Mc i |none=>M j
theorem y7{ρ:List (Nat×Nat)}:∀{l:List Nat},inv ρ j l=none↔∀i∈l,rn ρ i≠j:=by
 intro l
 induction l with
 |nil=>simp[inv]
 |cons x r ih=>grind[inv]
theorem YQ{ρ:List (Nat×Nat)}{j i:Nat}:∀{l:List Nat},inv ρ j l=some i->i∈l/\rn ρ i=j:=by
 intro l
 induction l with
 |nil=>simp[inv]
 |cons x r ih=>
  grind[inv]
theorem z3d{ρ:List (Nat×Nat)}(hi:∀i∈l,∀j∈l,rn ρ i=rn ρ j->i=j)(h:i∈l):inv ρ (rn ρ i) l=some i:=by
 cases e:inv ρ (rn ρ i) l with
 |none=>exact absurd rfl (y7.1 e i h)
 |some k=>have:=YQ e;grind
theorem fK{ρ:List (Nat×Nat)}(h:i∈l):jr ρ l M i=M (rn ρ i):=by simp[jr,bf.2 h]
theorem iq{ρ:List (Nat×Nat)}(h:i ∉ l):jr ρ l M i=none:=by
 grind[bf,jr]
theorem FQ{ρ:List (Nat×Nat)}{N:aS}(m:bT N M w)(hi:∀i∈l,∀j∈l,rn ρ i=rn ρ j->i=j):bT (uV ρ l N M) (jr ρ l M) w:=by
 have key:∀{id ow},jr ρ l M id=some ow->id∈l/\M (rn ρ id)=some ow:=by
  grind[fK,iq]
 refine⟨?_,?_,?_,?_⟩
 ·intro id id' ow ow' b o hne e1 e2 h1 h2
  obtain⟨a1,a2⟩:=key e1
  obtain⟨b1,b2⟩:=key e2
  exact m.disj _ _ ow ow' b o (λe=>hne (hi id a1 id' b1 e)) a2 b2 h1 h2
 ·intro id ow b o e h
  obtain⟨a1,a2⟩:=key e
  obtain⟨h1,h2⟩:=m.dom _ ow b o a2 h
  refine⟨h1,?_⟩
  rintro(hN |⟨id',ow',e1,e2,e3⟩)
  ·exact h2 hN
  ·exact m.disj _ _ ow ow' b o (e3 id a1) a2 e1 h e2
 ·rintro b o (hN |⟨id',ow',e1,e2,e3⟩)
  ·exact m.foes b o hN
  ·exact(m.dom _ _ _ _ e1 e2).1
 ·intro g cs h
  refine⟨λo ho=>.inl ((m.glob g cs h).1 o ho),(m.glob g cs h).2.1,λj v hj=>⟨?_,((m.glob g cs h).2.2 j v hj).2⟩⟩
  rintro(hN |⟨id',ow',e1,e2,e3⟩)
  ·exact((m.glob g cs h).2.2 j v hj).1 hN
  ·exact m.globFree h hj e1 e2
theorem Rk{ρ:List (Nat×Nat)}{N:aS}(b o:Nat):Fb (uV ρ l N M) (jr ρ l M) b o->Fb N M b o:=by
 rintro((h |⟨id,ow,e1,e2,_⟩) |⟨id,ow,e1,e2⟩)
 ·exact .inl h
 ·exact .inr ⟨id,ow,e1,e2⟩
 ·by_cases h:id∈l
  ·rw[fK h]at e1;exact .inr ⟨_,ow,e1,e2⟩
  grind[iq]
theorem Ik{ρ:List (Nat×Nat)}{l0 l1:List Nat}{N:aS}{M Mc':Mem}{w w':World}(hi:∀i∈l1,∀j∈l1,rn ρ i=rn ρ j->i=j)(h01:∀i∈l0,i∈l1)
  (s:Step (jr ρ l0 M) w Mc' w' l1) :
  Step M w (rY ρ l1 M Mc') w' (aO ρ l1)/\(∀b o,Fb N (rY ρ l1 M Mc') b o->Fb (uV ρ l0 N M) Mc' b o)/\(∀i∈l1,rY ρ l1 M Mc' (rn ρ i)=Mc' i):=by
 have h3:∀i∈l1,rY ρ l1 M Mc' (rn ρ i)=Mc' i:=λi h=>by simp[rY,z3d hi h]
 have hown:∀b o,(∀id∈aO ρ l1,∀ow,M id=some ow->¬ow.has b o)->∀id∈l1,∀ow,jr ρ l0 M id=some ow->¬ow.has b o:=by
  intro b o h id hid ow e
  by_cases h0:id∈l0
  ·rw[fK h0]at e;exact h _ (aG.2 ⟨id,hid,rfl⟩) ow e
  grind[iq]
 refine⟨⟨s.os,s.tape,s.output,s.size,?_,?_,s.shape,?_,?_,?_⟩,?_,h3⟩
 ·intro b hb h
  exact s.block b hb λid hid ow o e=>hown b o (λid' h' ow' e'=>h id' h' ow' o e') id hid ow e
 ·intro b o u h hc
  exact s.cell b o u (hown b o h) hc
 ·grind[y7,aG,rY]
 ·intro id hid ow b o e hb
  obtain⟨i,h,rfl⟩:=aG.1 hid
  rw[h3 i h]at e
  obtain⟨q1,q2⟩:=s.own i h ow b o e hb
  grind
 ·intro id hid id' hid' hne ow ow' b o e1 e2 hb hb'
  obtain⟨i,h,rfl⟩:=aG.1 hid
  obtain⟨i',h',rfl⟩:=aG.1 hid'
  rw[h3 i h]at e1
  rw[h3 i' h']at e2
  exact s.disj i h i' h' (λe=>hne (by rw[e])) ow ow' b o e1 e2 hb hb'
 ·rintro b o (hN |⟨id,ow,e1,e2⟩)<;>try exact .inl (.inl hN)
  cases hv:inv ρ id l1 with
  |some i=>simp[rY,hv]at e1;exact .inr ⟨i,ow,e1,e2⟩
  |none=>simp[rY,hv]at e1;exact .inl (.inr ⟨id,ow,e1,e2,λi h=>y7.1 hv i (h01 i h)⟩)
def gG.rel(N:aS)(M:Mem)(w:World)(e:Ending):gG->Prop
 | .ret x=>∃v,e = .returned v/\aF N M w x v
 | .pan x=>∃v,e = .panicked [{ v,recovered:=false }]/\aF N M w x v
def gG.ren(ρ:List (Nat×Nat)):gG->gG
 | .ret x=>.ret (x.ren ρ)
 | .pan x=>.pan (x.ren ρ)
def LC(C:Array Value->World->(Ending->World->Prop)->Prop)(as:List AV)(K:Heap)(out:gG)(K2:Heap):Prop:=
 ∀(N:aS) (M:Mem) (w:World) (args:Array Value),bT N M w->(∀id,K.get id=none->M id=none)->args.size=as.length->(∀(i:Nat) x,as[i]? = some x->aF N M w x (args.getD i undef)) ->
  (∀id blk,K.get id=some blk->eP N M w id blk) ->
  C args w λe w'=>∃M',Step M w M' w' (keys K2)/\(∀id∈keys K,Tr M M' id)/\(∀id blk,K2.get id=some blk->eP N M' w' id blk)/\out.rel N M' w' e
def Il(P:Program)(f:FuncId)(as:List AV)(K:Heap)(out:gG)(K2:Heap):Prop:=lZ P f/\LC (Calls P f) as K out K2
def Yields(P:Program)(args:Array Value)(w:World)(R:Ending->World->Prop):Prop:=
 ∃(l:Nat) (vs:Array Value),args = #[.func (.yield l) #[] #[]]++vs/\∃(f:FuncId) (tmps:Array Value) (assign body:Code),(Instr.yield l vs).run P w = .ok (.round l f tmps assign body) w/\RoundIn Fence.wide 0 P l f tmps assign body w R
theorem Yields.mono{args:Array Value}(h:Yields P args w R)(hr:∀e w,R e w->R' e w):Yields P args w R':=by
 obtain⟨l,vs,e,f,tmps,assign,body,h1,h2⟩:=h
 exact⟨l,vs,e,f,tmps,assign,body,h1,h2.mono hr⟩
def ak(P:Program)(f:FuncId)(as:List AV)(K:Heap)(out:gG)(K2:Heap):Prop:=(f≠yx/\Il P f as K out K2)\/(f=yx/\LC (Yields P) as K out K2)
theorem FT{ρ:List (Nat×Nat)}:∀{K0:Heap},Heap.sub ρ K K0->∀i b,K0.get i=some b->K.get (rn ρ i)=some (b.ren ρ):=by
 intro K0
 induction K0 with
 |nil=>grind[Heap.get]
 |cons x r ih=>
  intro h i b hb
  rw[Heap.get_cons]at hb
  split at hb
  ·rename_i e;subst e;simp at hb;subst hb;exact h.1
  ·exact ih h.2 i b hb
def dD(ρ:List (Nat×Nat)):Heap->Heap
 | []=>[]
 |(i,b)::r=>(rn ρ i,b.ren ρ)::dD ρ r
theorem pY{ρ:List (Nat×Nat)}:∀{K1:Heap},ku ρ K1 K=uU K (dD ρ K1):=by
 intro K1
 induction K1 with
 |nil=>rfl
 |cons x r ih=>grind[ku,dD,uU]
theorem qO{ρ:List (Nat×Nat)}:∀{K1:Heap} {j:Nat} {b:Block},(∀i∈keys K1,∀j∈keys K1,rn ρ i=rn ρ j->i=j)->(dD ρ K1).get j=some b->∃i b0,K1.get i=some b0/\j=rn ρ i/\b=b0.ren ρ:=by
 intro K1
 induction K1 with
 |nil=>grind[dD,Heap.get]
 |cons x r ih=>
  obtain⟨i,b0⟩:=x
  intro j b hinj h
  simp[dD]at h
  rw[Heap.get_cons]at h
  split at h
  ·rename_i e;subst e
   simp at h;subst h
   exact⟨i,b0,by rw[Heap.get_cons,if_pos rfl],rfl,rfl⟩
  ·obtain⟨k,c,h1,h2,h3⟩:=ih (λi hi j hj=>hinj i (by simp[keys,hi]) j (by simp[keys,hj])) h
   refine⟨k,c,?_,h2,h3⟩
   rw[Heap.get_cons]<;>grind
theorem kV{ρ:List (Nat×Nat)}:∀{K1:Heap},keys (dD ρ K1)=aO ρ (keys K1):=by
 intro K1
 induction K1 with
 |nil=>rfl
 |cons x r ih=>grind[dD,keys,aO]
theorem Io{id:Nat}(h:AV.men.go id cs=true):id∈AV.ids.go cs:=by
 have:=mO (x:=.agg cs) (id:=id) (by grind[AV.men])
 grind[AV.ids]
theorem y8{i id:Nat}(h:K.get i=some b)(hm:b.men id=true):id∈Ui K:=by
 induction K with
 |nil=>simp[Heap.get]at h
 |cons x r ih=>
  obtain⟨k,c⟩:=x
  rw[Heap.get_cons]at h
  simp[Ui]
  split at h
  ·simp at h;subst h
   cases c<;>simp[Block.men]at hm<;>grind[Block.ids,Io]
  simp_all
theorem wZ{C:Array Value->World->(Ending->World->Prop)->Prop}(hC:∀{args w} {R R':Ending->World->Prop},C args w R->(∀e w,R e w->R' e w)->C args w R'){as0:List AV}{K0 K1:Heap}{out:gG}{ρ:List (Nat×Nat)}{L:List Nat}(hc:LC C as0 K0 out K1)(hsub:Heap.sub ρ K K0)(hok:bV ρ K0 K1 out.av env K L=true)
  {N:aS} {M:Mem} {w:World} {args:Array Value} (m:bT N M w) (hl:args.size=as0.length) (ha:∀(i:Nat) x,(AV.ren.go ρ as0)[i]? = some x->aF N M w x (args.getD i undef)) (hb:∀id∈L,∀blk,K.get id=some blk->eP N M w id blk) :
  C args w λe w'=>∃M',Step M w M' w' (aO ρ (keys K1))/\(∀id∈aO ρ (keys K0),Tr M M' id)/\(∀id blk,(dD ρ K1).get id=some blk->eP N M' w' id blk) /\
   (out.ren ρ).rel N M' w' e:=by
 simp only[bV,Bool.and_eq_true]at hok
 obtain⟨k1,k2,k3,k4,k5,k6⟩:=hok
 have hinj:=nJ k1
 have h01:=bG.1 k2
 have hL:=bG.1 k3
 have hinj0:∀i∈keys K0,∀j∈keys K0,rn ρ i=rn ρ j->i=j:=λi hi j hj=>hinj i (h01 i hi) j (h01 j hj)
 have hout:=bG.1 k5
 have hblk:=bG.1 k6
 have hmm:∀id,jr ρ (keys K0) M id=M (rn ρ id)\/jr ρ (keys K0) M id=none:=by
  grind[id,keys,fK,iq]
 refine hC (hc (uV ρ (keys K0) N M) (jr ρ (keys K0) M) w args (FQ m hinj0) ?_ hl ?_ ?_) λe w'=>?_
 ·grind[id,iq,dH]
 ·intro i x hx
  exact aF.rn1 Rk x (ha i (x.ren ρ) (by rw[gK,hx];rfl)) λid _=>hmm id
 ·intro id blk h
  have hk:id∈keys K0:=dH.2 ⟨blk,h⟩
  refine eP.rn1 (ρ:=ρ) Rk (hb (rn ρ id) (hL _ (aG.2 ⟨id,hk,rfl⟩)) _ (FT hsub id blk h)) (fK hk) λid' _=>hmm id'
 ·rintro⟨Mc',s,htr,hbl,hr⟩
  obtain⟨p1,p2,p3⟩:=Ik (N:=N) hinj h01 s
  refine⟨rY ρ (keys K1) M Mc',p1,?_,?_,?_⟩
  ·intro id hid
   obtain⟨i,hi,rfl⟩:=aG.1 hid
   grind[Tr,fK]
  ·intro id blk h
   obtain⟨i,b0,q1,rfl,rfl⟩:=qO hinj h
   refine(hbl i b0 q1).rn2 p2 (p3 i (dH.2 ⟨b0,q1⟩)) λid' hi=>.inl (p3 id' (hblk id' (y8 q1 hi)))
  ·cases out with
   |ret x=>
    obtain⟨v,rfl,hv⟩:=hr
    exact⟨v,rfl,hv.rn2 p2 λid hi=>.inl (p3 id (hout id (mO hi)))⟩
   |pan x=>
    obtain⟨v,rfl,hv⟩:=hr
    exact⟨v,rfl,hv.rn2 p2 λid hi=>.inl (p3 id (hout id (mO hi)))⟩
theorem jQ:∀{l:List Nat},kD env K l=true->∀j∈l,bI j=false/\fU j env=false/\pK j K=false/\K.get j=none:=by
 intro l
 induction l with
 |nil=>simp
 |cons x r ih=>
  intro h j hj
  simp[kD]at h
  grind
end Go.Fw
