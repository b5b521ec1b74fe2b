/- A part of the proof. -/
import Derived.RangeFuncRecord
import Derived.Recover
import Derived.RangeFuncIn
import Derived.Test.YtgehpmgkaeohaaaGreatDoorZK4
set_option linter.all false
namespace Go.Fw
variable [ae]
section
variable {P : Program}
def kY(P:Program)(fn:Func)(tmps:Array Value)(R:Ending->World->Prop):List Deferred->FrameMode->World->Prop
 | [],u,w=>Leaves P fn tmps R [] u w
 | d::ds,u,w=>u ≠ .run/\((∃r w',d.target = .collected r/\(Instr.takeDeferred r).run P w = .ok [] w'/\kY P fn tmps R ds u w') \/
   ∃fv cap f args,d.target = .fn fv cap/\(invoke d.target d.args).run P w = .ok (.enter f args) w/\CallsD P f args u w fun
    | .returned _,u',w'=>kY P fn tmps R ds (settle u') w'
    | .panicked chain,u',w'=>kY P fn tmps R ds (raised u' chain) w'
    | .outgrown,_,w'=>R .outgrown w')
theorem gU{fn:Func}{tmps:Array Value}{R:Ending->World->Prop}:∀(ds:List Deferred) (u:FrameMode) (w:World) (fr:Frame) (cs:List Frame),
  fr.mode=u->fr.defers=ds->fr.tmps=tmps->P.funcs[fr.fn]? = some fn->fr.kind = .normal->kY P fn tmps R ds u w ->
  ∃e w' fr',R e w'/\Comes P (lone fr cs w) (lone fr' cs w') e/\fr'.fn=fr.fn/\fr'.leaving P w' e
 | [],u,w,fr,cs,hu,hd,ht,hf,hk,h=>leaves_steps [] u w fr cs hu hd ht hf hk h
 |d::ds,u,w,fr,cs,hu,hd,ht,hf,hk,h=>by
  obtain⟨hrun,h⟩:=h
  rcases h with⟨r,w1,htar,htake,hrest⟩ |⟨fv,cap,f,args,htar,hinv,hcall⟩
  ·obtain⟨e,w2,fr2,h1,h2,h3,h4⟩:=gU ds u w1 { fr with defers:=[]++ds } cs hu rfl ht hf hk hrest
   exact⟨e,w2,fr2,h1,Comes.of_steps (.one (step_collected (hu ▸ hrun) hd htar htake)) h2,h3,h4⟩
  ·have go:=step_defer (cs:=cs) (hu ▸ hrun) hd htar hinv
   obtain⟨e,u1,w1,fx,hR,hs,hx,hg⟩:=hcall { fr with defers:=ds } cs hu
   cases e with
   |returned v=>
    have back:=step_going_returned (c:={ { fr with defers:=ds } with mode:=u1 }) (cs:=cs) hx hg
    obtain⟨e,w2,fr2,h1,h2,h3,h4⟩:=gU ds (settle u1) w1 { { { fr with defers:=ds } with mode:=u1 } with mode:=settle u1 } cs rfl rfl ht hf hk hR
    exact⟨e,w2,fr2,h1,Comes.of_steps (.head go (Steps.trans hs (.one back))) h2,h3,h4⟩
   |panicked chain=>
    have back:=step_going_panicked (c:={ { fr with defers:=ds } with mode:=u1 }) (cs:=cs) hg
    obtain⟨e,w2,fr2,h1,h2,h3,h4⟩:=gU ds (raised u1 chain) w1 { { { fr with defers:=ds } with mode:=u1 } with mode:=raised u1 chain } cs rfl rfl ht hf hk hR
    exact⟨e,w2,fr2,h1,Comes.of_steps (.head go (Steps.trans hs (.one back))) h2,h3,h4⟩
   |outgrown=>exact⟨.outgrown,w1,fr,hR,Outgrown.of_steps (.one go) hs,rfl,trivial⟩
def zhr(P:Program)(fn:Func)(R:Ending->World->Prop):Exit->Act->World->Prop
 | .normal,a,w | .ret,a,w=>kY P fn a.tmps R a.defers .returning w
 | .panic chain,a,w=>kY P fn a.tmps R a.defers (.panicking chain) w
 | .outgrown,_,w=>R .outgrown w
 |_,_,_=>False
theorem L6{f:FuncId}{fn:Func}{c:Code}{args:Array Value}{w:World}{R:Ending->World->Prop}(hf:P.funcs[f]? = some fn)(hb:fn.body=some c)
  (h:mQ none P c (zhr P fn R) { tmps:=args++Array.replicate (fn.ntmps-args.size) undef,defers:=[] } w):Calls P f args w R:=by
 intro cs
 let b:Frame:={ (default:Frame)with fn:=f,kind:=.normal }
 have henter:Frame.enter P f args .normal=b.at { tmps:=args++Array.replicate (fn.ntmps-args.size) undef,defers:=[] } [.code c]:=by
  grind[Frame.enter,Frame.at]
 obtain⟨e,a',w',hq,harr⟩:=h b [] cs rfl ⟨fn,hf⟩
 have harr:=(arrivesIn_iff (λ_ _=>stepsIn_wide) (rfl:b.roundOf=none)).1 harr
 rw[Frame.atR_of_none rfl,<-henter]at harr
 cases e with
 |normal=>
  obtain⟨e2,w2,fr2,h1,h2,h3,h4⟩:=gU a'.defers .returning w' { b.at a' []with mode:=.returning } cs rfl rfl rfl hf rfl hq
  exact⟨e2,w2,fr2,h1,Comes.of_steps (Steps.trans harr (.one step_end)) h2,h3,h4⟩
 |ret=>
  obtain⟨todo,hs⟩:=harr
  obtain⟨e2,w2,fr2,h1,h2,h3,h4⟩:=gU a'.defers .returning w' { b.at a' todo with mode:=.returning } cs rfl rfl rfl hf rfl hq
  exact⟨e2,w2,fr2,h1,Comes.of_steps hs h2,h3,h4⟩
 |panic chain=>
  obtain⟨todo,hs⟩:=harr
  obtain⟨e2,w2,fr2,h1,h2,h3,h4⟩:=gU a'.defers (.panicking chain) w' { b.at a' todo with mode:=.panicking chain } cs rfl rfl rfl hf rfl hq
  exact⟨e2,w2,fr2,h1,Comes.of_steps hs h2,h3,h4⟩
 |exit id=>exact hq.elim
 |goto l=>exact hq.elim
 |outgrown=>exact⟨.outgrown,w',b,hq,harr.resolve_left (by simp[b]),rfl,trivial⟩
end
structure Sv(N:aS)(M:Mem)(env:Env)(K:Heap)(tmps:Array Value)(w:World):Prop where
 env:∀j,aF N M w (env.get j) (tmps.getD j undef)
 heap:∀id blk,K.get id=some blk->eP N M w id blk
 mem:bT N M w
theorem St.sv[Lo]{N:aS}{M:Mem}{n:Nat}{env:Env}{K:Heap}{a:Act}{w:World}(s:St N M n env K a w):Sv N M env K a.tmps w:=⟨s.env,s.heap,s.mem⟩
structure Quiet(M:Mem)(w w':World)(b:Nat):Prop where
 os:w'.os=w.os
 tape:w'.tape=w.tape
 output:w'.output=w.output
 size:w'.heap.size=w.heap.size
 other:∀b',b'≠b->w'.heap[b']? = w.heap[b']?
 nocell:∀o u,w.cell? ⟨b,o,none⟩≠some u
 norow:∀arr t fr,w.heap[b]? ≠ some (Obj.cells arr t fr)
 free:∀o,¬M.R b o
theorem Quiet.keeps{M:Mem}{w w':World}{b:Nat}(q:Quiet M w w' b)(F:aS):fJ w F w' F:=by
 intro b' o u hf hc
 refine⟨hf,?_⟩
 have hne:b'≠b:=λe=>q.nocell o u (e ▸ hc)
 rw[<-hc]
 exact World.cell?_of_block (q.other b' hne)
theorem Quiet.shape{M:Mem}{w w':World}{b:Nat}(q:Quiet M w w' b):∀b' arr t,dJ w b' arr t->∃arr',dJ w' b' arr' t/\arr'.size=arr.size:=by
 intro b' arr t h
 have hne:b'≠b:=λe=>by subst e;exact q.norow _ _ _ h
 exact⟨arr,(q.other b' hne).trans h,rfl⟩
theorem Quiet.at{M:Mem}{w w':World}{b:Nat}(q:Quiet M w w' b){b' o:Nat}(h:M.R b' o):w'.heap[b']? = w.heap[b']?:=q.other b' λe=>q.free o (e ▸ h)
theorem Quiet.arel{N:aS}{M:Mem}{w w':World}{b:Nat}(q:Quiet M w w' b){x:AV}{v:Value}(h:aF N M w x v):aF N M w' x v:=h.keep (q.keeps _) q.shape λ_ _=>.inl rfl
theorem Quiet.drel{M:Mem}{w w':World}{b:Nat}(q:Quiet M w w' b){F:aS}{d:D}{v:Value}(h:DRel F w d v):DRel F w' d v:=h.keep (q.keeps _)
theorem Quiet.brel{N:aS}{M:Mem}{w w':World}{b:Nat}(q:Quiet M w w' b){id:Nat}{blk:Block}(h:eP N M w id blk):eP N M w' id blk:=by
 have row:∀b' ow (arr:Array Value) t,M id=some ow->(∀o,ow.has b' o->True)->(∃o,ow.has b' o)->dJ w b' arr t->dJ w' b' arr t:=by
  intro b' ow arr t e1 _ ⟨o,ho⟩ hr
  exact(q.at ⟨id,ow,e1,ho⟩).trans hr
 cases blk with
 |cells cs=>
  obtain⟨b',arr,t,e1,e2,e3,e4⟩:=h
  exact⟨b',arr,t,e1,row b' _ arr t e1 (λ_ _=>trivial) ⟨0,rfl⟩ e2,e3,λi c e=>q.arel (e4 i c e)⟩
 |arr vr sz es=>
  rcases h with⟨b',arr,t,e1,e2,e3,e4,e5⟩ |h
  ·exact .inl ⟨b',arr,t,e1,row b' _ arr t e1 (λ_ _=>trivial) ⟨0,rfl⟩ e2,e3,e4,λi j e d he hd=>⟨q.drel (e5 i j e d he hd).1,(e5 i j e d he hd).2⟩⟩
  ·exact .inr h
 |tok sz n=>
  rcases h with⟨e1,e2⟩ |⟨b',arr,t,e1,e2⟩
  ·exact .inl ⟨e1,e2⟩
  ·exact .inr ⟨b',arr,t,e1,row b' _ arr t e1 (λ_ _=>trivial) ⟨n * sz,rfl,Nat.le_refl _⟩ e2⟩
 |map g l es=>
  obtain⟨b',mes,clock,e1,e2,e3,est,e4⟩:=h
  exact⟨b',mes,clock,e1,(q.at (o:=0) ⟨id,_,e1,(rfl:b'=b')⟩:w'.heap[b']? = _).trans e2,e3,est,λi x e=>by
   obtain⟨f0,m',f1,f2,f3⟩:=e4 i x e
   exact⟨f0,m',f1,q.drel f2,q.drel f3⟩⟩
 |dead=>trivial
 |adr i b=>exact q.arel h
 |rnd R=>
  obtain⟨l,S,e1,e2⟩:=h
  exact⟨l,S,e1,R.keep e2 (λb' o hS=>.inr ⟨id,_,e1,o,Nat.le_refl _,hS⟩) (Nat.le_of_eq q.size.symm) (λb' o hS=>q.at ⟨id,_,e1,o,Nat.le_refl _,hS⟩) (q.keeps _) q.shape⟩
theorem Quiet.memOk{N:aS}{M:Mem}{w w':World}{b:Nat}(q:Quiet M w w' b)(m:bT N M w):bT N M w':=by
 refine⟨m.disj,λid ow b' o h1 h2=>?_,λb' o h=>?_,λg cs h=>?_⟩
 ·rw[q.size];exact m.dom id ow b' o h1 h2
 ·rw[q.size];exact m.foes b' o h
 ·obtain⟨h1,⟨t,fr,h2⟩,h3⟩:=m.glob g cs h
  have hne:g≠b:=λe=>by subst e;exact q.norow _ _ _ h2
  refine⟨h1,⟨t,fr,(q.other g hne).trans h2⟩,λj v hj=>?_⟩
  obtain⟨k1,k2,k3⟩:=h3 j v hj
  exact⟨k1,(q.keeps N g j v k1 k2).2,k3⟩
theorem Quiet.sv{N:aS}{M:Mem}{w w':World}{b:Nat}(q:Quiet M w w' b){env:Env}{K:Heap}{tmps:Array Value}(s:Sv N M env K tmps w):Sv N M env K tmps w':=
 ⟨λj=>q.arel (s.env j),λid blk h=>q.brel (s.heap id blk h),q.memOk s.mem⟩
theorem Quiet.evo{M0 M:Mem}{w0 w w':World}{b:Nat}(q:Quiet M w w' b)(e:Evo M0 w0 M w)(hb:w0.heap.size<=b):Evo M0 w0 M w':=by
 refine⟨q.os.trans e.os,q.tape.trans e.tape,q.output.trans e.output,by rw[q.size];exact e.size,λb' h1 h2=>?_,λb' o u h1 h2=>?_,λb' arr t h=>?_,e.own,e.lent⟩
 ·rw[q.other b' (by omega)];exact e.block b' h1 h2
 ·have h3:=e.cell b' o u h1 h2
  exact(q.keeps (λ_ _=>False) b' o u (λh=>h) h3).2
 ·obtain⟨a1,h1,h2⟩:=e.shape b' arr t h
  obtain⟨a2,h3,h4⟩:=q.shape b' a1 t h1
  grind
theorem U3{w:World}{b:Nat}{ob:Obj}(h:w.heap[b]? = some ob)(hc:∀arr t fr,ob≠Obj.cells arr t fr)(o:Nat)(u:Value):w.cell? ⟨b,o,none⟩≠some u:=by
 intro hu
 unfold World.cell? at hu
 simp_all
theorem qm{M:Mem}{w:World}{b:Nat}{ob:Obj}(h:w.heap[b]? = some ob)(hc:∀arr t fr,ob≠Obj.cells arr t fr)(hf:∀o,¬M.R b o)(ob':Obj):Quiet M w (w.putObj b ob') b:=
 ⟨rfl,rfl,rfl,by simp,λ_ hne=>World.putObj_heap_other hne,U3 h hc,λarr t fr e=>by grind,hf⟩
theorem jR{P:Program}{N:aS}{M0 M:Mem}{w0:World}{env:Env}{K:Heap}{fn:Func}{tmps:Array Value}{R:Ending->World->Prop}{u:FrameMode}(hu:u ≠ .run)(X:World->Prop)(hX:∀w w' b,Quiet M w w' b->X w->X w')
  (hfin:∀w,Sv N M env K tmps w->Evo M0 w0 M w->X w->Leaves P fn tmps R [] u w):∀(ds:List Deferred) (w:World),jb ds = []->(marks ds).Nodup->(∀b∈marks ds,rW M w b/\w0.heap.size<=b)->Sv N M env K tmps w->Evo M0 w0 M w->X w->kY P fn tmps R ds u w
 | [],w,_,_,_,s,e,x=>hfin w s e x
 |d::ds,w,h1,h2,h3,s,e,x=>by
  have hm:Aa d=true:=by
   grind[jb]
  have e1:jb (d::ds)=jb ds:=by simp[jb,hm]
  have e2:marks (d::ds)=uI d::marks ds:=by simp[marks,hm]
  rw[e1]at h1
  rw[e2]at h2 h3
  obtain⟨⟨k1,k2⟩,k3⟩:=h3 (uI d) (by simp)
  have hd:d.target = .collected (uI d):=by
   unfold Aa at hm
   unfold uI
   grind
  have q:=qm k1 (λ_ _ _ h=>by cases h) k2 (.deferred none)
  refine⟨hu,.inl ⟨_,_,hd,run_takeDeferred k1,?_⟩⟩
  refine jR hu X hX hfin ds _ h1 (List.nodup_cons.1 h2).2 (λb hb=>?_) (q.sv s) (q.evo e k3) (hX _ _ _ q x)
  obtain⟨⟨k4,k5⟩,k6⟩:=h3 b (by simp[hb])
  exact⟨⟨(q.other b (λe=>(List.nodup_cons.1 h2).1 (e ▸ hb))).trans k4,k5⟩,k6⟩
theorem Ei{P:Program}{N:aS}{M0 M:Mem}{w0:World}{env:Env}{K:Heap}{fn:Func}{tmps:Array Value}{R:Ending->World->Prop}{u:FrameMode}{d:Deferred}(hu:u ≠ .run)(X:World->Prop)(hX:∀w w' b,Quiet M w w' b->X w->X w')
  (hreal:∀rest w,jb rest = []->(marks rest).Nodup->(∀b∈marks rest,rW M w b/\w0.heap.size<=b)->Sv N M env K tmps w->Evo M0 w0 M w->X w->kY P fn tmps R (d::rest) u w):∀(ds:List Deferred) (w:World),jb ds = [d]->(marks ds).Nodup->(∀b∈marks ds,rW M w b/\w0.heap.size<=b)->Sv N M env K tmps w->Evo M0 w0 M w->X w->kY P fn tmps R ds u w
 | [],w,h,_,_,_,_,_=>by simp[jb]at h
 |c::ds,w,h1,h2,h3,s,e,x=>by
  cases hm:Aa c with
  |false=>
   have e1:jb (c::ds)=c::jb ds:=by simp[jb,hm]
   have e2:marks (c::ds)=marks ds:=by simp[marks,hm]
   simp_all
  |true=>
   have e1:jb (c::ds)=jb ds:=by simp[jb,hm]
   have e2:marks (c::ds)=uI c::marks ds:=by simp[marks,hm]
   rw[e1]at h1
   rw[e2]at h2 h3
   obtain⟨⟨k1,k2⟩,k3⟩:=h3 (uI c) (by simp)
   have hd:c.target = .collected (uI c):=by
    unfold Aa at hm
    unfold uI
    grind
   have q:=qm k1 (λ_ _ _ h=>by cases h) k2 (.deferred none)
   refine⟨hu,.inl ⟨_,_,hd,run_takeDeferred k1,?_⟩⟩
   refine Ei hu X hX hreal ds _ h1 (List.nodup_cons.1 h2).2 (λb hb=>?_) (q.sv s) (q.evo e k3) (hX _ _ _ q x)
   obtain⟨⟨k4,k5⟩,k6⟩:=h3 b (by simp[hb])
   exact⟨⟨(q.other b (λe=>(List.nodup_cons.1 h2).1 (e ▸ hb))).trans k4,k5⟩,k6⟩
theorem rW.step{M M':Mem}{w w':World}{W:List Nat}{b:Nat}(s:Step M w M' w' W)(h:rW M w b):rW M' w' b:=by
 have hlt:=(Array.getElem?_eq_some_iff.1 h.1).1
 exact⟨(s.block b hlt λid _ ow o h1 h2=>h.2 o ⟨id,ow,h1,h2⟩).trans h.1,λo ho=>h.2 o (s.R_old hlt ho)⟩
theorem Sv.turn{N:aS}{M M':Mem}{env:Env}{K:Heap}{tmps:Array Value}{w w':World}{W nw:List Nat}{Δ:Heap}(s:Sv N M env K tmps w)
  (hs:Step M w M' w' W) (htr:∀id∈W,id ∉ nw->Tr M M' id) (hf:∀d∈nw,bI d=false/\fU d env=false/\pK d K=false) (hδ:∀id blk,Δ.get id=some blk->eP N M' w' id blk) (hno:∀id,id∈W↔∃b,Δ.get id=some b) :
  Sv N M' env (uU K Δ) tmps w':=by
 have htr':∀id,(id∈nw->False)->Tr M M' id:=by
  intro id hx
  by_cases h:id∈W
  ·grind
  ·exact .inl (hs.mem id h)
 have hk:=hs.keeps (N:=N)
 have hE:∀j id,(env.get j).men id=true->Tr M M' id:=λj id hi=>htr' id λhn=>by
  grind[oh]
 refine⟨λj=>(s.env j).keep hk hs.shape (hE j),?_,hs.memOk s.mem⟩
 intro id blk hget
 rw[jf]at hget
 split at hget
 ·simp_all
 ·have hid:id ∉ W:=λh=>by simp_all
  refine(s.heap id blk hget).keep s.mem hs hid λid' hi=>htr' id' λhn=>?_
  grind[qM]
def zhh(tmps:Array Value):ResultVar->Sem Value
 | .tmp t=>pure (tmps.getD t undef)
 | .cell a t=>do loadVar t (<-asAddr (tmps.getD a undef))
theorem RD(fn:Func)(tmps:Array Value):results fn tmps=(do
 let vs <-fn.results.mapM (zhh tmps)
 pure (if h:vs.size=1 then vs[0]else .tuple vs)):=rfl
section
variable {P : Program} {T : Tbl} (hT : iQ P T)
include hT
theorem z6t{env:Env}{K:Heap}{r:ResultVar}{x:AV}(h:zhg T env K r=some x){N:aS}{M:Mem}{tmps:Array Value}{w:World}(s:Sv N M env K tmps w) :
  ∃v,(zhh tmps r).run P w = .ok v w/\aF N M w x v:=by
 cases r with
 |tmp t=>simp[zhg]at h;subst h;exact⟨_,rfl,s.env t⟩
 |cell t ty=>
  simp[zhg]at h
  split at h<;>try(simp at h)
  rename_i id off heq
  have hv:jM T ty (.ptr id off) K (λr _=>r=x):=by
   grind[jM]
  obtain⟨r,hr,hr2⟩:=FM hT hv
  have hx:=s.env t
  rw[heq]at hx
  obtain⟨u,hu,hur⟩:=hr2 N M w _ hx λid _=>s.heap id
  simp only[zhh]
  generalize tmps.getD t undef=z at hx hu ⊢
  cases hx with
  |ptr _ _ ad _=>
   grind[Instr.loadAt,Instr.sureAddr,asAddr]
theorem Y5{env:Env}{K:Heap}{N:aS}{M:Mem}{tmps:Array Value}{w:World}(s:Sv N M env K tmps w):∀(rs:List ResultVar) (ds:List AV),Ry T env K rs=some ds ->
  ∃vs:List Value,(rs.mapM (zhh tmps)).run P w = .ok vs w/\vs.length=ds.length/\∀(i:Nat) d,ds[i]? = some d->aF N M w d (vs.getD i undef):=by
 intro rs
 induction rs with
 |nil=>intro ds h;simp[Ry]at h;simp_all
 |cons r rs ih=>
  intro ds h
  simp[Ry]at h
  split at h<;>try(simp at h)
  rename_i d hd
  split at h<;>try(simp at h;done)
  rename_i ds' hds
  simp at h;subst h
  obtain⟨v,hv,hvr⟩:=z6t hT hd s
  obtain⟨vs,h1,h2,h3⟩:=ih ds' hds
  refine⟨v::vs,?_,by simp[h2],λi d' e=>?_⟩
  ·simp[hv,h1]
  ·cases i with
   |zero=>simp at e;subst e;simpa using hvr
   |succ i=>simpa using h3 i d' e
theorem AC{fn:Func}{env:Env}{K:Heap}{x:AV}(h:OT T fn.results.toList env K=some x){N:aS}{M:Mem}{tmps:Array Value}{w:World}(s:Sv N M env K tmps w) :
  ∃v,(results fn tmps).run P w = .ok v w/\aF N M w x v:=by
 have hrun:∀ds,Ry T env K fn.results.toList=some ds->∃vs:List Value,(results fn tmps).run P w = .ok (if h:vs.toArray.size=1 then vs.toArray[0]else .tuple vs.toArray) w/\vs.length=ds.length/\∀(i:Nat) d,ds[i]? = some d->aF N M w d (vs.getD i undef):=by
  intro ds hds
  obtain⟨vs,h1,h2,h3⟩:=Y5 hT s _ ds hds
  rw[RD]
  have:fn.results=fn.results.toList.toArray:=by simp
  rw[this]
  grind[Sem.run_bind,Sem.run_map,Result.andThen_ok,Sem.run_pure]
 unfold OT at h
 split at h
 ·simp at h
 ·rename_i d' hds
  simp at h;subst h
  obtain⟨vs,h1,h2,h3⟩:=hrun _ hds
  match vs,h2 with
  | [v],_=>exact⟨v,by simpa using h1,by simpa using h3 0 d' (by simp)⟩
 ·rename_i ds hne hds
  simp at h;subst h
  obtain⟨vs,h1,h2,h3⟩:=hrun _ hds
  have:vs.toArray.size≠1:=by
   intro e
   match ds,h2.symm.trans e with
   | [d],_=>exact hne d rfl
  rw[dif_neg this]at h1
  exact⟨_,h1,.tuple _ _ (by simpa using h2) λi d hd=>by simp_all⟩
end
theorem FY{w:World}{b:Nat}{arr:Array Value}{t:TypeId}(h:dJ w b arr t){o:Nat}(ho:o<arr.size):w.cell? ⟨b,o,none⟩=some (arr.getD o undef):=by
 rw[dG h,bi undef ho]
section
variable {N : aS} {M M2 : Mem} {w : World} {K : Heap} {keep : List Nat} (hK : ∀ id blk, K.get id = some blk → eP N M w id blk) (hm : bT N M w) (hR : ∀ b o, M2.R b o → ∃ id ∈ keep, ∃ ow, M id = some ow ∧ ow.has b o)
include hm hR
omit hm in
theorem U4(b o:Nat):Fb N M2 b o->Fb N M b o:=by
 rintro(h |h)
 ·exact .inl h
 ·obtain⟨id,_,ow,h1,h2⟩:=hR b o h;exact .inr ⟨id,ow,h1,h2⟩
theorem U5{id b:Nat}(h:nU keep id=false)(hb:M id=some (.blk b))(o:Nat):¬Fb N M2 b o:=by
 rintro(hN |hr)
 ·exact(hm.dom id _ b o hb rfl).2 hN
 ·obtain⟨id',h1,ow,h2,h3⟩:=hR b o hr
  refine hm.disj id id' _ ow b o ?_ hb h2 rfl h3
  grind[bf]
theorem Ej{id b v:Nat}(h:nU keep id=false)(hb:M id=some (.vb b v))(o:Nat):¬Fb N M2 b o:=by
 rintro(hN |hr)
 ·exact(hm.dom id _ b o hb rfl).2 hN
 ·obtain⟨id',h1,ow,h2,h3⟩:=hR b o hr
  refine hm.disj id id' _ ow b o ?_ hb h2 rfl h3
  grind[bf]
include hK in
theorem zdb:∀(n:Nat) (x:AV) (k:D->Prop) (v:Value),frz K keep n x k->aF N M w x v->∃d,k d/\DRel (Fb N M2) w d v:=by
 have hless:∀b o,Fb N M2 b o->Fb N M b o:=λb o=>U4 hR b o
 intro n
 induction n with
 |zero=>intro x k v h;exact h.elim
 |succ n ih=>
  have ihL:∀(cs:List AV) (k:List D->Prop) (g:Nat->Value),z6s (frz K keep n) cs k->(∀(i:Nat) c,cs[i]? = some c->aF N M w c (g i))->∃ds,k ds/\ds.length=cs.length/\∀(i:Nat) d,ds[i]? = some d->DRel (Fb N M2) w d (g i):=by
   intro cs
   induction cs with
   |nil=>intro k g h _;exact⟨[],h,rfl,by simp⟩
   |cons c r ihr=>
    intro k g h hg
    simp only[z6s]at h
    obtain⟨d,h1,h2⟩:=ih c _ (g 0) h (hg 0 c (by simp))
    obtain⟨ds,h3,h4,h5⟩:=ihr _ (λi=>g (i+1)) h1 λi c' hc=>hg (i+1) c' (by simpa using hc)
    refine⟨d::ds,h3,by simp[h4],λi d' hd=>?_⟩
    cases i with
    |zero=>simp at hd;subst hd;exact h2
    |succ i=>exact h5 i d' (by simpa using hd)
  intro x k v h hr
  cases hr with
  |data d _ hd=>exact⟨d,h,hd.keep (fJ.less hless)⟩
  |nilsl sz=>exact⟨_,h,.sl0 sz none 0 (by simp[maxLen])⟩
  |gs id sz es a n cap hd h0 h1=>exact⟨_,h,hd.keep (fJ.less hless)⟩
  |iface t y u hy=>
   obtain⟨d,h1,h2⟩:=ih y _ u h hy
   exact⟨_,h1,.iface t d u h2⟩
  |agg cs vs hl hh=>
   obtain⟨ds,h1,h2,h3⟩:=ihL cs _ (λi=>vs.getD i undef) h hh
   exact⟨_,h1,.agg ds vs (by omega) h3⟩
  |tuple cs vs hl hh=>
   obtain⟨ds,h1,h2,h3⟩:=ihL cs _ (λi=>vs.getD i undef) h hh
   exact⟨_,h1,.tuple ds vs (by omega) h3⟩
  |fn f cs vs hl hh=>
   obtain⟨ds,h1,h2,h3⟩:=ihL cs _ (λi=>vs.getD i undef) h hh
   exact⟨_,h1,.fn f ds vs (by omega) h3⟩
  |bnd f cs vs hl hh=>simp[frz]at h
  |ptr id off a ha=>
   simp only[frz]at h
   split at h
   ·exact h.elim
   ·rename_i hkeep
    split at h
    ·rename_i cs hcs
     obtain⟨hsc,h⟩:=h
     obtain⟨b,arr,t,e1,e2,e3,e4⟩:=hK id _ hcs
     obtain rfl:=ha b e1
     have hg:∀(i:Nat) c,(cs.drop off)[i]? = some c->aF N M w c (arr.getD (off+i) undef):=λi c hc=>e4 _ c (by rwa[List.getElem?_drop]at hc)
     obtain⟨ds,h1,h2,h3⟩:=ihL (cs.drop off) _ (λi=>arr.getD (off+i) undef) h hg
     refine⟨_,h1,.ptr ds b off (λi=>arr.getD (off+i) undef) (λj d hd=>⟨U5 hm hR hkeep e1 _,?_,?_⟩) h3⟩
     ·have hlt:j<(cs.drop off).length:=by rw[<-h2];exact(List.getElem?_eq_some_iff.1 hd).1
      simp only[List.length_drop]at hlt
      exact FY e2 (by omega)
     ·have hlt:j<(cs.drop off).length:=by rw[<-h2];exact(List.getElem?_eq_some_iff.1 hd).1
      exact gJ (hg j (cs.drop off)[j] (by simp)) (List.all_eq_true.1 hsc _ (List.getElem_mem hlt))
    ·exact h.elim
  |own id vr sz off len a cap ha hnb=>
   simp only[frz]at h
   split at h
   ·exact h.elim
   ·rename_i hkeep
    split at h
    ·rename_i vr2 sz' es hcs
     obtain⟨⟨rfl,rfl⟩,r,⟨hle,hr⟩,h⟩:=h
     rcases hK id _ hcs with⟨b,arr,t,e1,e2,e3,e4,e5⟩ |⟨e1,e2⟩
     rotate_left
     ·obtain⟨rfl,rfl,rfl⟩:=(hnb _ e1).2 rfl
      subst e2 hr
      exact⟨_,h,.sl0 sz a 0 (by simp[maxLen])⟩
     obtain⟨q1,q2,q3,_⟩:=(ha b _ e1).2 rfl
     have hrl:r.length=len:=by rw[hr];simp;omega
     refine⟨_,h,?_⟩
     by_cases hl0:len=0
     ·subst hl0
      have:r = []:=List.length_eq_zero_iff.1 hrl
      subst this
      exact .sl0 sz a cap q2
     ·obtain rfl:=q3 (by omega)
      have hri:∀(i:Nat) e,r[i]? = some e->es[off+i]? = some e:=by
       intro i e he
       rw[hr,List.getElem?_take]at he
       split at he
       ·rwa[List.getElem?_drop]at he
       ·simp at he
      have hkey:∀(i j:Nat) e d,r[i]? = some e->e[j]? = some d->off * sz+i * sz+j=(off+i) * sz+j/\(off+i) * sz+j<arr.size:=by
       intro i j e d he hd
       have h1:=hri i e he
       have hlt:=(List.getElem?_eq_some_iff.1 h1).1
       have hj:j<sz:=by rw[<-e4 e (List.mem_of_getElem? h1)];exact(List.getElem?_eq_some_iff.1 hd).1
       refine⟨by rw[Nat.add_mul],?_⟩
       refine Nat.lt_of_lt_of_le ?_ e3
       calc (off+i) * sz+j<(off+i) * sz+sz:=by omega
        _=(off+i+1) * sz:=by rw[Nat.add_mul (off+i)];simp
        _<=es.length * sz:=Nat.mul_le_mul_right _ (by omega)
      refine .sl sz r b (off * sz) cap len (λi j=>arr.getD (off * sz+i * sz+j) undef) hrl.symm q1 q2 (λe he=>?_) (λi j e d he hd=>⟨Ej hm hR hkeep e1 _,?_,?_⟩) λi j e d he hd=>?_
      ·obtain⟨i,hi⟩:=List.mem_iff_getElem?.1 he
       exact e4 e (List.mem_of_getElem? (hri i e hi))
      ·exact FY e2 (by have:=hkey i j e d he hd;omega)
      ·have:=hkey i j e d he hd
       rw[this.1];exact(e5 _ _ e d (hri i e he) hd).2
      ·have:=hkey i j e d he hd
       rw[this.1];exact(e5 _ _ e d (hri i e he) hd).1.keep (fJ.less hless)
    ·exact h.elim
  |eptr id vr sz i off a ha _=>
   simp only[frz]at h
   split at h
   ·exact h.elim
   ·rename_i hkeep
    split at h
    ·rename_i vr2 sz' es hcs
     obtain⟨⟨rfl,rfl⟩,e,he,h⟩:=h
     obtain⟨b,arr,t,e1,e2,e3,e4,e5⟩:=(hK id _ hcs).arrAt he
     obtain rfl:=(ha b _ e1).2 rfl
     have hlt:=(List.getElem?_eq_some_iff.1 he).1
     refine⟨_,h,.ptr _ b (i * sz+off) (λj=>arr.getD (i * sz+(off+j)) undef) (λj d hd=>⟨Ej hm hR hkeep e1 _,?_,?_⟩) λj d hd=>?_⟩
     ·rw[List.getElem?_drop]at hd
      have hj:off+j<sz:=by rw[<-e4 e (List.mem_of_getElem? he)];exact(List.getElem?_eq_some_iff.1 hd).1
      rw[Nat.add_assoc]
      refine FY e2 ?_
      refine Nat.lt_of_lt_of_le ?_ e3
      calc i * sz+(off+j)<i * sz+sz:=by omega
       _=(i+1) * sz:=by rw[Nat.add_mul];simp
       _<=es.length * sz:=Nat.mul_le_mul_right _ (by omega)
     ·rw[List.getElem?_drop]at hd;exact(e5 i (off+j) e d he hd).2
     ·rw[List.getElem?_drop]at hd;exact(e5 i (off+j) e d he hd).1.keep (fJ.less hless)
    ·exact h.elim
  |map id r ha=>exact h.elim
  |dfr cs v=>exact h.elim
  |yld id l hh=>simp[frz]at h
  |top v=>exact h.elim
variable {τ : List (Nat × Nat)} (hM2 : ∀ id, M2 id = M (rn τ id) ∨ M2 id = none)
include hK hM2
theorem U6:∀(n:Nat) (x y:AV) (v:Value),OU K keep τ n x y->aF N M w x v->aF N M2 w y v:=by
 have hless:∀b o,Fb N M2 b o->Fb N M b o:=λb o=>U4 hR b o
 intro n
 induction n with
 |zero=>intro x y v h;exact h.elim
 |succ n ih=>
  have ihL:∀(xs ys:List AV) (g:Nat->Value),Rz (OU K keep τ n) xs ys->(∀(i:Nat) c,xs[i]? = some c->aF N M w c (g i))->ys.length=xs.length/\∀(i:Nat) c,ys[i]? = some c->aF N M2 w c (g i):=by
   intro xs
   induction xs with
   |nil=>grind[Rz]
   |cons x xs ihr=>
    intro ys g h hg
    cases ys with
    |nil=>simp[Rz]at h
    |cons y ys=>
     obtain⟨h1,h2⟩:=ihr ys (λi=>g (i+1)) h.2 λi c' hc=>hg (i+1) c' (by simpa using hc)
     refine⟨by simp[h1],λi c hc=>?_⟩
     cases i with
     |zero=>simp at hc;subst hc;exact ih x y (g 0) h.1 (hg 0 x (by simp))
     |succ i=>simp_all
  intro x y v h hr
  have gen:x=y.ren τ->aF N M2 w y v:=by
   grind[aF.rn1]
  simp[OU]at h
  split at h
  ·obtain⟨d',rfl,hd⟩:=zdb hK hm hR n x _ v h hr
   exact .data _ _ hd
  ·split at h
   ·cases hr with
    |tuple _ vs hl hh=>
     obtain⟨h1,h2⟩:=ihL _ _ (λi=>vs.getD i undef) h hh
     exact .tuple _ vs (by omega) h2
   ·cases hr with
    |data _ _ hr=>cases hr with
     |tuple _ vs hl hh=>
      obtain⟨h1,h2⟩:=ihL _ _ (λi=>vs.getD i undef) h λi c hc=>by
       simp at hc
       obtain⟨d,hd,rfl⟩:=hc
       exact .data _ _ (hh i d hd)
      exact .tuple _ vs (by simp_all) h2
   ·exact h.elim
  ·split at h
   ·cases hr with
    |agg _ vs hl hh=>
     obtain⟨h1,h2⟩:=ihL _ _ (λi=>vs.getD i undef) h hh
     exact .agg _ vs (by omega) h2
   ·cases hr with
    |data _ _ hr=>cases hr with
     |agg _ vs hl hh=>
      obtain⟨h1,h2⟩:=ihL _ _ (λi=>vs.getD i undef) h λi c hc=>by
       simp at hc
       obtain⟨d,hd,rfl⟩:=hc
       exact .data _ _ (hh i d hd)
      exact .agg _ vs (by simp_all) h2
   ·exact h.elim
  ·split at h
   ·obtain⟨rfl,h⟩:=h
    cases hr with
    |iface _ _ u hy=>exact .iface _ _ u (ih _ _ u h hy)
   ·obtain⟨rfl,h⟩:=h
    cases hr with
    |data _ _ hr=>cases hr with
     |iface _ _ u hy=>exact .iface _ _ u (ih _ _ u h (.data _ _ hy))
   ·exact h.elim
  ·exact gen h
theorem z6u(n:Nat):∀(xs ys:List AV) (g:Nat->Value),Rz (OU K keep τ n) xs ys->(∀(i:Nat) c,xs[i]? = some c->aF N M w c (g i))->ys.length=xs.length/\∀(i:Nat) c,ys[i]? = some c->aF N M2 w c (g i):=by
 intro xs
 induction xs with
 |nil=>grind[Rz]
 |cons x xs ihr=>
  intro ys g h hg
  cases ys with
  |nil=>simp[Rz]at h
  |cons y ys=>
   simp[Rz]at h
   obtain⟨h1,h2⟩:=ihr ys (λi=>g (i+1)) h.2 λi c' hc=>hg (i+1) c' (by simpa using hc)
   grind[U6]
theorem z6v{i:Nat}{b0 b:Block}(hi:M2 i=M (rn τ i))(h:zda K keep τ b0 b)(hr:eP N M w (rn τ i) b0):eP N M2 w i b:=by
 have hless:∀b o,Fb N M2 b o->Fb N M b o:=λb o=>U4 hR b o
 have same:b0=b->(∀cs,b ≠ .cells cs)->(∀j c,b ≠ .adr j c)->eP N M2 w i b:=by
  rintro rfl hne hne2
  refine eP.rn1 (ρ:=τ) hless (b:=b0) ?_ hi λid _=>hM2 id
  cases b0<;>first |exact hr |exact absurd rfl (hne _) |exact absurd rfl (hne2 _ _)
 cases b with
 |cells ys=>
  simp only[zda]at h
  split at h
  ·rename_i xs
   obtain⟨b,arr,t,e1,e2,e3,e4⟩:=hr
   obtain⟨h1,h2⟩:=z6u hK hm hR hM2 100 xs ys (λi=>arr.getD i undef) h e4
   exact⟨b,arr,t,hi.trans e1,e2,by omega,h2⟩
  ·exact h.elim
 |arr sz es=>exact same h (by simp) (by simp)
 |tok sz n=>exact same h (by simp) (by simp)
 |map g l es=>exact same h (by simp) (by simp)
 |rnd R=>exact same h (by simp) (by simp)
 |dead=>exact same h (by simp) (by simp)
 |adr j c=>
  simp only[zda]at h
  subst h
  exact eP.rn1 (ρ:=τ) hless (b:=.adr j c) hr hi λid _=>hM2 id
omit hK hm hR hM2 in
theorem Y6{K1:Heap}(h:zcm K keep τ K1):∀i b,K1.get i=some b->∃b0,K.get (rn τ i)=some b0/\zda K keep τ b0 b:=by
 induction K1 with
 |nil=>intro i b hb;simp[Heap.get]at hb
 |cons x r ih=>
  obtain⟨k,c⟩:=x
  intro i b hb
  simp only[zcm]at h
  rw[Heap.get_cons]at hb
  split at hb
  ·rename_i e;subst e
   simp only[Option.some.injEq]at hb;subst hb
   have h:=h.1
   split at h
   ·rename_i b0 hb0;exact⟨b0,hb0,h⟩
   ·exact h.elim
  ·exact ih h.2 i b hb
end
theorem U7{τ:List (Nat×Nat)}:∀{l:List Nat},fixed τ l=true->∀i∈l,rn τ i=i:=by
 intro l
 induction l with
 |nil=>simp
 |cons x r ih=>
  intro h i hi
  simp[fixed]at h
  rcases List.mem_cons.1 hi with rfl |hi<;>simp_all
theorem AL:∀{l:List Nat},kX l=true->∀i∈l,bI i=true:=by
 intro l
 induction l with
 |nil=>simp
 |cons x r ih=>
  intro h i hi
  simp[kX]at h
  grind
theorem AO{N:aS}{M0 M:Mem}{w0 w:World}{K0 K K1:Heap}{x y:AV}{v:Value}(hl:kX (keys K0)=true)(hs:∀id,K0.get id=none->M0 id=none)(e:Evo M0 w0 M w)(hm:bT N M w)(hK:∀id blk,K.get id=some blk->eP N M w id blk)
  (h:fin K0 K x y K1) (hr:aF N M w x v):∃M',Step M0 w0 M' w (keys K1)/\(∀id∈keys K0,Tr M0 M' id)/\(∀id blk,K1.get id=some blk->eP N M' w id blk)/\aF N M' w y v:=by
 obtain⟨τ,hok,h1,h2⟩:=h
 simp only[Y4,Bool.and_eq_true]at hok
 obtain⟨k1,k2,k3,k4,k5⟩:=hok
 have hinj:=nJ k1
 have h01:=bG.1 k2
 have hfix:=U7 k3
 let M':Mem:=λi=>match nU (keys K1) i with |true=>M (rn τ i) |false=>none
 have hin:∀i∈keys K1,M' i=M (rn τ i):=λi hi=>by grind[bf]
 have hout:∀i,i ∉ keys K1->M' i=none:=λi hi=>by
  grind[nU,keys,absurd,bf]
 have hR:∀b o,M'.R b o->∃id∈aO τ (keys K1),∃ow,M id=some ow/\ow.has b o:=by
  rintro b o ⟨id,ow,e1,e2⟩
  by_cases h:id∈keys K1
  ·rw[hin id h]at e1;exact⟨_,aG.2 ⟨id,h,rfl⟩,ow,e1,e2⟩
  simp_all
 have hsup:∀id ow,M0 id=some ow->id∈keys K0:=by
  intro id ow h
  cases hb:K0.get id with
  |none=>simp_all
  |some b=>grind[dH]
 have hR0:∀b o,(∀id∈keys K1,∀ow,M0 id=some ow->¬ow.has b o)->¬M0.R b o:=by
  rintro b o h ⟨id,ow,e1,e2⟩
  grind
 refine⟨M',⟨e.os,e.tape,e.output,e.size,?_,?_,e.shape,?_,?_,?_⟩,?_,?_,?_⟩
 ·intro b hb h
  exact e.block b hb λo=>hR0 b o λid hid ow e1=>h id hid ow o e1
 ·intro b o u h hc
  exact e.cell b o u (hR0 b o h) hc
 ·intro id hid
  rw[hout id hid]
  cases hb:M0 id with
  |none=>rfl
  |some ow=>simp_all
 ·intro id hid ow b o e1 hb
  rw[hin id hid]at e1
  refine⟨(hm.dom _ ow b o e1 hb).1,?_⟩
  by_cases hlt:b<w0.heap.size
  ·obtain⟨id0,ow0,q1,q2⟩:=e.own b o hlt ⟨_,ow,e1,hb⟩
   grind
  ·left;omega
 ·intro id hid id' hid' hne ow ow' b o e1 e2 hb hb'
  rw[hin id hid]at e1
  rw[hin id' hid']at e2
  exact hm.disj _ _ ow ow' b o (λq=>hne (hinj id hid id' hid' q)) e1 e2 hb hb'
 ·intro id hid
  have:=e.lent id (AL hl id hid)
  grind[Tr,id]
 ·grind[id,Y6,z6v,dH]
 grind[U6]
def IQ(F:aS)(w:World)(p:Option D)(u:FrameMode):Prop:=match p with |none=>u = .returning |some d=>∃v,u = .panicking [{ v,recovered:=false }]/\DRel F w d v
def U8(thr:Bool)(u u':FrameMode):Prop:=match thr with |false=>settle u' = .returning |true=>u'=u
def nK(P:Program)(f:FuncId)(as:List AV)(p:Option D)(thr:Bool)(K:Heap)(K2:Heap):Prop:=
 lZ P f/\∀(N:aS) (M:Mem) (w:World) (args:Array Value) (u:FrameMode),bT N M w->(∀id,K.get id=none->M id=none)->args.size=as.length->(∀(i:Nat) x,as[i]? = some x->aF N M w x (args.getD i undef)) ->
  (∀id blk,K.get id=some blk->eP N M w id blk)->IQ (Fb N M) w p u ->
  CallsD P f args u w λe u' w'=>∃r,e = .returned r/\U8 thr u u'/\∃M',Step M w M' w' (keys K2)/\(∀id∈keys K,Tr M M' id)/\(∀id blk,K2.get id=some blk->eP N M' w' id blk)
abbrev yT(P:Program)(f:FuncId)(as:List AV)(p:Option D)(K:Heap)(K2:Heap):Prop:=nK P f as p false K K2
theorem U9{P:Program}{f:FuncId}{as0:List AV}{K0 K1:Heap}{p:Option D}{thr:Bool}{ρ:List (Nat×Nat)}{env:Env}{K:Heap}{L:List Nat}(hc:nK P f as0 p thr K0 K1)(hsub:Heap.sub ρ K K0)(hok:bV ρ K0 K1 .top env K L=true)
  {N:aS} {M:Mem} {w:World} {args:Array Value} {u:FrameMode} (m:bT N M w) (hl:args.size=as0.length) (ha:∀(i:Nat) x,(AV.ren.go ρ as0)[i]? = some x->aF N M w x (args.getD i undef)) (hb:∀id blk,K.get id=some blk->eP N M w id blk)
  (hu:IQ (Fb N M) w p u) :
  CallsD P f args u w λe u' w'=>∃r,e = .returned r/\U8 thr u u'/\∃M',Step M w M' w' (aO ρ (keys K1))/\(∀id∈aO ρ (keys K0),Tr M M' id)/\(∀id blk,(dD ρ K1).get id=some blk->eP N M' w' id blk):=by
 simp[bV]at hok
 obtain⟨k1,k2,k3,k4,k5,k6⟩:=hok
 have hinj:=nJ k1
 have h01:=bG.1 k2
 have hinj0:∀i∈keys K0,∀j∈keys K0,rn ρ i=rn ρ j->i=j:=λi hi j hj=>hinj i (h01 i hi) j (h01 j hj)
 have hblk:=bG.1 k6
 have hmm:∀id,jr ρ (keys K0) M id=M (rn ρ id)\/jr ρ (keys K0) M id=none:=by
  grind[fK,iq]
 refine(hc.2 (uV ρ (keys K0) N M) (jr ρ (keys K0) M) w args u (FQ m hinj0) ?_ hl ?_ ?_ ?_).mono λe u' w'=>?_
 ·grind[iq,dH]
 ·intro i x hx
  exact aF.rn1 Rk x (ha i (x.ren ρ) (by rw[gK,hx];rfl)) λid _=>hmm id
 ·intro id blk h
  have hk:id∈keys K0:=dH.2 ⟨blk,h⟩
  refine eP.rn1 (ρ:=ρ) Rk (hb (rn ρ id) _ (FT hsub id blk h)) (fK hk) λid' _=>hmm id'
 ·cases p with
  |none=>exact hu
  |some d=>obtain⟨v,h1,h2⟩:=hu;exact⟨v,h1,h2.keep (fJ.less Rk)⟩
 ·rintro⟨r,q1,q2,Mc',s,htr,hbl⟩
  obtain⟨p1,p2,p3⟩:=Ik (N:=N) hinj h01 s
  refine⟨r,q1,q2,rY ρ (keys K1) M Mc',p1,?_,?_⟩
  ·intro id hid
   obtain⟨i,hi,rfl⟩:=aG.1 hid
   grind[Tr]
  ·intro id blk h
   obtain⟨i,b0,q1,rfl,rfl⟩:=qO hinj h
   refine(hbl i b0 q1).rn2 p2 (p3 i (dH.2 ⟨b0,q1⟩)) λid' hi=>.inl (p3 id' (hblk id' (y8 q1 hi)))
theorem xw{N:aS}{M:Mem}{w:World}:∀(ds:List AV) (i j:Nat) (tmps:Array Value),(∀(k:Nat) d,ds[k]? = some d->aF N M w d (tmps.getD (i+k) undef))->aF N M w ((iU i ds).get j) (tmps.getD j undef):=by
 intro ds
 induction ds with
 |nil=>intro i j tmps _;exact .top _
 |cons d r ih=>
  intro i j tmps h
  simp only[iU]
  rw[Env.get_cons]
  split
  ·rename_i e;subst e;exact h 0 d (by simp)
  ·exact ih (i+1) j tmps λk d' e=>by have:=h (k+1) d' (by simpa using e);grind
theorem xx:∀(ds:List AV) (i j:Nat),i+ds.length<=j->(iU i ds).get j = .top:=by
 intro ds
 induction ds with
 |nil=>intro i j _;rfl
 |cons d r ih=>
  intro i j h
  simp[iU]at h ⊢
  rw[Env.get_cons]
  grind
def Fits(d:D):Prop:=∃F w v,DRel F w d v
def xy(x:AV):Prop:=∃N M w v,aF N M w x v
theorem xy.data{d:D}(h:xy (.data d)):Fits d:=by
 obtain⟨N,M,w,v,h⟩:=h
 cases h with |data _ _ h=>exact⟨_,w,v,h⟩
theorem Fits.sl{sz:Nat}{es:List (List D)}(h:Fits (.sl sz es)):es.length<=9223372036854775807/\∀e∈es,e.length=sz/\∀d∈e,Fits d:=by
 obtain⟨F,w,v,h⟩:=h
 cases h with
 |sl0=>simp
 |sl _ _ b off cap n g hn hc hm hs h1 h2=>
  refine⟨by grind[maxLen],λe he=>⟨hs e he,λd hd=>?_⟩⟩
  obtain⟨i,hi⟩:=List.mem_iff_getElem?.1 he
  obtain⟨j,hj⟩:=List.mem_iff_getElem?.1 hd
  exact⟨F,w,_,h2 i j e d hi hj⟩
theorem Fits.agg{ds:List D}(h:Fits (.agg ds)):∀d∈ds,Fits d:=by
 obtain⟨F,w,v,h⟩:=h
 cases h with
 |agg _ vs hl hh=>
  intro d hd
  obtain⟨j,hj⟩:=List.mem_iff_getElem?.1 hd
  exact⟨F,w,_,hh j d hj⟩
section
variable {P : Program} {T : Tbl} (hT : iQ P T)
include hT
theorem IR{f:FuncId}{fn:Func}{c:Code}{as:List AV}{K0 K1:Heap}{out:gG}(hf:P.funcs[f]? = some fn)(hb:fn.body=some c)(hname:(fn.name == "runtime.NumGoroutine")=false)(hs:cZ fn.ntmps c=true)
  (hn:(Nat.ble as.length fn.ntmps&&Nat.ble fn.ntmps 999999&&kX (keys K0) && !(Nat.beq f yx))=true)
  (h:(∀x∈as,xy x)->U2 P c (sD T (nK P) fn.results.toList K0 out K1) (iU 0 as) K0):ak P f as K0 out K1:=by
 simp only[Bool.and_eq_true,Bool.not_eq_true']at hn
 obtain⟨⟨⟨hn1,hn2⟩,hlent⟩,hny⟩:=hn
 have hn1:=Nat.le_of_ble_eq_true hn1
 have hn2:=Nat.le_of_ble_eq_true hn2
 refine .inl ⟨λe=>by rw[e]at hny;simp at hny,⟨fn,hf,hname,by rw[hb];rfl⟩,λN M0 w args hm hsup hl hr hK=>?_⟩
 letI:Lo:=⟨λb=>w.heap.size<=b⟩
 refine L6 hf hb ?_
 have hsz:(args++Array.replicate (fn.ntmps-args.size) undef).size=fn.ntmps:=by simp;omega
 have hget:∀(k:Nat) d,as[k]? = some d->aF N M0 w d ((args++Array.replicate (fn.ntmps-args.size) undef).getD (0+k) undef):=by
  intro k d e
  have hlt:k<args.size:=by rw[hl];exact(List.getElem?_eq_some_iff.1 e).1
  rw[Nat.zero_add]
  have:=hr k d e
  simp only[Array.getD_eq_getD_getElem?,Array.getElem?_append]at this ⊢
  rw[if_pos hlt];exact this
 have hdf0:(iU 0 as).get gq = .top:=xx as 0 gq (by show 0+as.length<=999999;omega)
 have st:St N M0 fn.ntmps (iU 0 as) K0 { tmps:=args++Array.replicate (fn.ntmps-args.size) undef,defers:=[] } w:=
  ⟨hsz,hn2,(yQ.nil λcs e=>by rw[hdf0]at e;cases e),λj=>xw as 0 j _ hget,hK,hm⟩
 refine h (λx hx=>?_) none N _ M0 w _ M0 _ w hs (λh=>absurd rfl h) (λ_ _ h=>h) st (Evo.refl M0 w) ?_
 ·obtain⟨i,hi⟩:=List.mem_iff_getElem?.1 hx
  exact⟨N,M0,w,_,hr i x hi⟩
 have hfinR:∀{env:Env} {K:Heap} {M:Mem} {tmps:Array Value} {w':World},finR T fn.results.toList K0 out K1 env K->Sv N M env K tmps w'->Evo M0 w M w'->∃v,(results fn tmps).run P w' = .ok v w'/\∃M',Step M0 w M' w' (keys K1)/\(∀id∈keys K0,Tr M0 M' id)/\(∀id blk,K1.get id=some blk->eP N M' w' id blk)/\out.rel N M' w' (.returned v):=by
  intro env K M tmps w' h s e
  unfold finR at h
  split at h
  ·rename_i x hx
   obtain⟨v,hv,hvr⟩:=AC hT hx s
   split at h
   ·rename_i y
    obtain⟨M',q1,q2,q3,q4⟩:=AO hlent hsup e s.mem s.heap h hvr
    exact⟨v,hv,M',q1,q2,q3,v,rfl,q4⟩
   ·exact h.elim
  ·exact h.elim
 -- a frame that ends,with what is deferred
 have hdfr:∀{env:Env} {K:Heap} {M:Mem} {a:Act} {w':World} {g:FuncId} {caps:List AV} {p:Option D} {thr:Bool} {u:FrameMode} {nx:Heap->Prop},env.get gq = .dfr [.fn g caps]->YE (nK P) g caps p thr env K nx->St N M fn.ntmps env K a w'->Evo M0 w M w' ->
   IQ (Fb N M) w' p u->(∀{K:Heap} {M:Mem} {tmps:Array Value} {w2:World} {u':FrameMode},nx K->Sv N M env K tmps w2->Evo M0 w M w2->U8 thr u u'->settle u' ≠ .run/\Leaves P fn tmps (λe w'=>∃M',Step M0 w M' w' (keys K1)/\(∀id∈keys K0,Tr M0 M' id)/\(∀id blk,K1.get id=some blk->eP N M' w' id blk)/\out.rel N M' w' e) [] (settle u') w2)->kY P fn a.tmps (λe w'=>∃M',Step M0 w M' w' (keys K1)/\(∀id∈keys K0,Tr M0 M' id)/\(∀id blk,K1.get id=some blk->eP N M' w' id blk)/\out.rel N M' w' e) a.defers u w':=by
  intro env K M a w' g caps p thr u nx hd h s e hu hend
  have hdf:=s.defers
  have hreal:=hdf.real
  rw[hd]at hreal
  obtain⟨q1,q2⟩:=hreal
  obtain⟨d,hds⟩:=List.length_eq_one_iff.1 q1
  have hur:u ≠ .run:=by
   cases p with
   |none=>rw[hu];simp
   |some d=>obtain⟨v,hu,_⟩:=hu;rw[hu];simp
  refine Ei (M:=M) (M0:=M0) (w0:=w) (env:=env) (K:=K) (N:=N) hur (λw'=>YN N M w' (.fn g caps) d/\IQ (Fb N M) w' p u) (λw1 w2 b q x=>⟨?_,?_⟩) ?_ a.defers w' hds hdf.nodup hdf.mark s.sv e ⟨q2 0 _ d rfl (by rw[hds];rfl),hu⟩
  ·obtain⟨f',caps',vs,e1,e2,e3,e4⟩:=x.1
   exact⟨f',caps',vs,e1,e2,e3,λi c hc=>q.arel (e4 i c hc)⟩
  ·cases p with
   |none=>exact x.2
   |some d=>obtain⟨v,h1,h2⟩:=x.2;exact⟨v,h1,q.drel h2⟩
  intro rest w1 hr1 hr2 hr3 sv ev ⟨hx1,hx2⟩
  obtain⟨f',caps',vs,e1,e2,e3,e4⟩:=hx1
  cases e1
  obtain⟨as0,J0,J1,ρ,hp,has,hsub,hok,h⟩:=h
  rw[e2]
  refine⟨hur,.inr ⟨.func g,vs,g,vs,rfl,?_,?_⟩⟩
  ·have:=l9 hp.1 (#[]++vs) w1
   rw[invoke];simpa using this
  ·refine(U9 hp hsub hok sv.mem (by rw[e3,<-has,dI]) (by rw[has];exact e4) sv.heap hx2).mono λe' u' w''=>?_
   rintro⟨r,rfl,hset,M',s1,htr,hbl⟩
   simp only[bV,Bool.and_eq_true]at hok
   obtain⟨k1,k2,k3,k4,k5,k6⟩:=hok
   have hdom:∀id,id∈aO ρ (keys J1)↔∃b,(dD ρ J1).get id=some b:=λid=>by rw[<-kV,dH]
   have htr2:∀id∈aO ρ (keys J1),id ∉ aO ρ (minus (keys J1) (keys J0))->Tr M M' id:=by
    intro id hid hn
    obtain⟨i,hi,rfl⟩:=aG.1 hid
    by_cases h0:i∈keys J0
    ·exact htr _ (aG.2 ⟨i,h0,rfl⟩)
    ·exact absurd (aG.2 ⟨i,je.2 ⟨hi,h0⟩,rfl⟩) hn
   have hfr:∀d∈aO ρ (minus (keys J1) (keys J0)),bI d=false/\fU d env=false/\pK d K=false:=λd hd=>by
    obtain⟨q1,q2,q3,_⟩:=jQ k4 d hd;exact⟨q1,q2,q3⟩
   rw[pY]at h
   have sv1:=sv.turn s1 htr2 hfr hbl hdom
   have ev1:=ev.step s1 htr2 λd hd=>(hfr d hd).1
   refine jR (M:=M') (M0:=M0) (w0:=w) (env:=env) (K:=uU K (dD ρ J1)) (N:=N) (hend h sv1 ev1 hset).1 (λ_=>True) (λ_ _ _ _ _=>trivial) (λw2 sv2 ev2 _=>(hend h sv2 ev2 hset).2) rest w'' hr1 hr2 (λb hb=>⟨(hr3 b hb).1.step s1,(hr3 b hb).2⟩) sv1 ev1 trivial
 -- behind a deferred call that recovered,or that ran at a return
 have hendF:∀{env:Env} {u:FrameMode} {K:Heap} {M:Mem} {tmps:Array Value} {w2:World} {u':FrameMode},finR T fn.results.toList K0 out K1 env K->Sv N M env K tmps w2->Evo M0 w M w2->U8 false u u'->settle u' ≠ .run/\Leaves P fn tmps (λe w'=>∃M',Step M0 w M' w' (keys K1)/\(∀id∈keys K0,Tr M0 M' id)/\(∀id blk,K1.get id=some blk->eP N M' w' id blk)/\out.rel N M' w' e) [] (settle u') w2:=by
  intro env u K M tmps w2 u' h sv ev hs
  rw[hs]
  obtain⟨v,hv,hrest⟩:=hfinR h sv ev
  exact⟨by simp,v,hv,hrest⟩
 have hret:∀env K (M:Mem) (a:Act) (w':World),sD T (nK P) fn.results.toList K0 out K1 .ret env K->St N M fn.ntmps env K a w'->Evo M0 w M w'->kY P fn a.tmps (λe w'=>∃M',Step M0 w M' w' (keys K1)/\(∀id∈keys K0,Tr M0 M' id)/\(∀id blk,K1.get id=some blk->eP N M' w' id blk)/\out.rel N M' w' e) a.defers .returning w':=by
  intro env K M a w' h s e
  simp only[sD]at h
  split at h
  ·rename_i g caps hd
   exact hdfr (p:=none) (thr:=false) hd h s e rfl hendF
  ·exact h.elim
  ·rename_i hd1 hd2
   have hdf:jb a.defers = []:=Ac s.defers λcs h=>hd2 cs h
   rcases h with h |⟨env',K',hw,h⟩
   ·refine jR (M:=M) (M0:=M0) (w0:=w) (env:=env) (K:=K) (N:=N) (by simp) (λ_=>True) (λ_ _ _ _ _=>trivial) (λw2 sv2 ev2 _=>?_) a.defers w' hdf s.defers.nodup s.defers.mark s.sv e trivial
    obtain⟨v,hv,hrest⟩:=hfinR h sv2 ev2
    exact⟨v,hv,hrest⟩
   ·obtain⟨M',s',e'⟩:=s.weak e hw
    refine jR (M:=M') (M0:=M0) (w0:=w) (env:=env') (K:=K') (N:=N) (by simp) (λ_=>True) (λ_ _ _ _ _=>trivial) (λw2 sv2 ev2 _=>?_) a.defers w' hdf s'.defers.nodup s'.defers.mark s'.sv e' trivial
    obtain⟨v,hv,hrest⟩:=hfinR h sv2 ev2
    exact⟨v,hv,hrest⟩
 intro o env K M a w' h s e
 cases o with
 |normal=>exact hret env K M a w' h s e
 |ret=>exact hret env K M a w' h s e
 |exit i=>exact h.elim
 |panic x=>
  intro v hv
  simp only[sD]at h
  split at h
  ·rename_i g caps hd
   split at h
   ·rename_i d hxd
    rcases h.elim with⟨y,rfl,h⟩ |⟨hfl,h⟩
    ·exact hdfr (p:=some d) (thr:=false) hd h s e ⟨v,rfl,hv.toD hxd⟩ hendF
    ·refine hdfr (p:=some d) (thr:=true) hd h s e ⟨v,rfl,hv.toD hxd⟩ λ{K2 M2 tmps2 w2 u2} h sv ev hs=>?_
     subst hs
     refine⟨by simp[settle],?_⟩
     unfold Dc at h
     split at h
     ·rename_i y
      obtain⟨M',q1,q2,q3,q4⟩:=AO hlent hsup ev sv.mem sv.heap h (.data _ _ (zg hfl (hv.toD hxd)))
      exact⟨M',q1,q2,q3,v,rfl,q4⟩
     ·exact h.elim
   ·exact h.elim
  ·exact h.elim
  ·rename_i hd1 hd2
   have hdf:jb a.defers = []:=Ac s.defers λcs h=>hd2 cs h
   unfold Dc at h
   split at h
   ·rename_i y
    refine jR (M:=M) (M0:=M0) (w0:=w) (env:=env) (K:=K) (N:=N) (by simp) (λw=>aF N M w x v) (λ_ _ _ q h=>q.arel h) (λw2 sv2 ev2 hv2=>?_) a.defers w' hdf s.defers.nodup s.defers.mark s.sv e hv
    obtain⟨M',q1,q2,q3,q4⟩:=AO hlent hsup ev2 sv2.mem sv2.heap h hv2
    exact⟨M',q1,q2,q3,v,rfl,q4⟩
   ·exact h.elim
end
def lY.toA:lY->gG
 | .ret d=>.ret (.data d)
 | .pan d=>.pan (.data d)
theorem AP{P:Program}{f:FuncId}{ds:List D}{out:lY}(h:Il P f (ds.map .data) [] out.toA []):Oy P f ds out:=by
 refine⟨h.1,λN w args hN hl hr=>?_⟩
 refine(h.2 N yA w args hN (λ_ _=>rfl) (by simpa using hl) (λi x hx=>?_) (λid blk e=>by simp[Heap.get]at e)).mono λe w'=>?_
 ·simp at hx
  obtain⟨d,hd,rfl⟩:=hx
  exact .data _ _ (by grind[zZ])
 ·rintro⟨M',s,_,_,ho⟩
  have hM:M'=yA:=by funext i;exact s.mem i (by simp[keys])
  subst hM
  refine⟨s,?_⟩
  cases out with
  |ret d=>
   obtain⟨v,rfl,hv⟩:=ho
   cases hv with |data _ _ hv=>rw[zZ]at hv;exact⟨v,rfl,hv⟩
  |pan d=>
   obtain⟨v,rfl,hv⟩:=ho
   cases hv with |data _ _ hv=>rw[zZ]at hv;exact⟨v,rfl,hv⟩
theorem ak.fn{P:Program}{f:FuncId}{as:List AV}{K K2:Heap}{out:gG}(h:ak P f as K out K2)(hny:f≠yx):Il P f as K out K2:=by
 rcases h with h |h<;>simp_all
theorem Dq{P:Program}{f:FuncId}{ds:List D}{out:lY}(h:ak P f (ds.map .data) [] out.toA [])(hny:f≠yx):PCall P f ds out:=.inl (AP (h.fn hny))
def veq:Value->Value->Bool
 | .bool a,.bool b=>a==b
 | .int k a,.int l b=>k==l&&a==b
 | .string a,.string b=>a.data==b.data
 | .pointer none,.pointer none=>true
 | .slice none 0 0,.slice none 0 0=>true
 | .map none,.map none=>true
 | .nilFunc,.nilFunc=>true
 | .nilIface,.nilIface=>true
 |_,_=>false
theorem z3i:∀{a b:Value},veq a b=true->a=b:=by
 intro a b h
 unfold veq at h
 split at h<;>simp at h<;>first
  |(rfl)
  |(obtain⟨rfl,rfl⟩:=h;rfl)
  |rfl
  |(rename_i a b;obtain⟨a⟩:=a;simp_all)
def OV(P:Program)(t:TypeId):Ty->Bool
 | .int k=>match P.underlying t with |some (.int l)=>l==k |_=>false
 | .bool=>match P.underlying t with |some .bool=>true |_=>false
 | .str=>match P.underlying t with |some .string=>true |_=>false
 | .ptr e=>match P.underlying t with |some (.pointer x)=>Nat.beq x e |_=>false
 | .slice e=>match P.underlying t with |some (.slice x)=>Nat.beq x e |_=>false
 | .struct fs=>match P.underlying t with |some (.struct fields)=>(fields.toList.map λf=>(f.offset,f.type))==fs |_=>false
 | .array n e=>match P.underlying t with |some (.array m x)=>Nat.beq m n&&Nat.beq x e |_=>false
 | .map k e=>match P.underlying t with |some (.map j x)=>Nat.beq j k&&Nat.beq x e |_=>false
 | .func=>match P.underlying t with |some (.func _ _ _)=>true |_=>false
 | .iface=>match P.underlying t with |some (.interface _)=>true |_=>false
 | .other=>true
def AQ:List Value->List AV->Bool
 | [],[]=>true
 |v::vs,x::xs=>(match x with | .data (.val u)=>pM u&&veq v u | .data (.str [])=>veq v (.string ⟨#[]⟩) | .nilsl _=>veq v (.slice none 0 0) |_=>false)&&AQ vs xs
 |_,_=>false
def z6w(P:Program)(t:TypeId)(b:Bool):Bool:=match b with
 |false=>true
 |true=>!(P.eqGuardType P.depth t)&&(!(P.stoodInHeld t)&&(match P.underlying t with |some (.struct fields)=>fields.toList.all λf=>f.name != "_" |some (.array _ _)=>true |_=>false))
def Va(P:Program)(t:TypeId)(ti:TI):Bool:=match ti.ty.sh with
 |none=>true
 |some _=>match P.info? t with
  |some i=>Nat.beq i.size ti.size&&(Nat.beq i.bytes ti.bytes&&(match ti.zero with | []=>true |z=>match i.zero with |some v=>AQ v.cells.toList z&&(match ti.ty.sh with |some b=>b==z6c v |none=>false) |none=>false))
  |none=>false
def Y7(P:Program)(t:TypeId)(ty:Ty):Bool:=match ty with
 | .struct []=>(match P.info? t with |some i=>(match i.zero with |some (.agg vs)=>Nat.beq vs.size 0 |_=>false) |none=>false)
 |_=>true
theorem Y8{P:Program}{t:TypeId}{ty:Ty}(h:Y7 P t ty=true)(he:ty = .struct []):∃i,P.info? t=some i/\i.zero=some (.agg #[]):=by
 grind[Y7,Nat.eq_of_beq_eq_true]
def zk(P:Program):Nat->Tbl->Bool
 |_,[]=>true
 |t,ti::r=>OV P t ti.ty&&(Va P t ti&&(z6w P t ti.eqs&&(Y7 P t ti.ty&&zk P (t+1) r)))
theorem Vb{P:Program}{t:TypeId}{ty:Ty}(h:OV P t ty=true):Lp P t ty:=by
 cases ty<;>simp only[OV,Lp]at h ⊢ <;> split at h<;>simp at h<;>simp_all
theorem Vd:∀{vs:List Value} {xs:List AV},AQ vs xs=true->vs=xs.map zv/\xs.all (λx=>match x with | .data (.val v)=>pM v | .data (.str _)=>true | .nilsl _=>true |_=>false)=true:=by
 intro vs
 induction vs with
 |nil=>grind[AQ]
 |cons v vs ih=>
  intro xs h
  cases xs with
  |nil=>simp[AQ]at h
  |cons x xs=>
   simp[AQ]at h
   obtain⟨h1,h2⟩:=h
   obtain⟨i1,i2⟩:=ih h2
   simp only[List.all_cons,Bool.and_eq_true]
   split at h1<;>try exact⟨by rw[z3i h1,i1];rfl,rfl,i2⟩
   ·simp at h1
    refine⟨by rw[z3i h1.2,i1];rfl,h1.1,i2⟩
   ·simp at h1
theorem z6x{P:Program}{t:TypeId}{ti:TI}(h1:OV P t ti.ty=true)(h2:Va P t ti=true)(h3:z6w P t ti.eqs=true)(h5:Y7 P t ti.ty=true):zhp P t ti:=by
 have hz:ti.ty.sh≠none->∃i,P.info? t=some i/\i.size=ti.size/\i.bytes=ti.bytes/\(ti.zero ≠ []->∃v,i.zero=some v/\AQ v.cells.toList ti.zero=true/\ti.ty.sh=some (z6c v)):=by
  intro hsh
  unfold Va at h2
  split at h2<;>try(simp_all)
  split at h2
  ·rename_i i hi
   simp only[Bool.and_eq_true]at h2
   obtain⟨a,b,c⟩:=h2
   refine⟨i,hi,Nat.eq_of_beq_eq_true a,Nat.eq_of_beq_eq_true b,λhz=>?_⟩
   grind
  ·simp at h2
 refine⟨Vb h1,λhsh=>?_,λhne hsh=>?_,λhe=>?_,Y8 h5⟩
 ·grind[Vd]
 ·grind
 ·simp only[z6w]at h3
  grind
theorem Y9{P:Program}{T:Tbl}(h:zk P 0 T=true):iQ P T:=by
 have key:∀(T:Tbl) (k:Nat),zk P k T=true->∀(i:Nat) ti,T[i]? = some ti->zhp P (k+i) ti:=by
  intro T
  induction T with
  |nil=>simp
  |cons x r ih=>
   intro k h i ti e
   simp only[zk]at h
   grind[z6x]
 intro t
 cases e:T[t]? with
 |none=>
  have:T.at t=default:=by grind[Tbl.at]
  rw[this]
  exact⟨trivial,λh=>absurd rfl h,λh=>absurd rfl h,λh=>by simp_all,λh=>by cases h⟩
 |some ti=>
  have:T.at t=ti:=by grind[Tbl.at]
  grind
end Go.Fw
namespace Go.Fw
variable [ae] {P : Program} {tmps : Array Value} {assign body : Code} {w w' : World} {f : FuncId}
def isRecover(o:Oper):Bool:=(match o.guard with |none=>true |some _=>false)&&(match o.op with
 | .call c=>match c.callee,c.args.toList with
  | .builtin .recover,[]=>true
  |_,_=>false
 |_=>false)
def z3j:Option D->AV
 |none=>.data (.val .nilIface)
 |some d=>.data d
def zl(o:Oper):Bool:=match o.op with
 | .move _ | .assign _ | .load _ _ | .store _ _ _ | .typeAssert _ _ _ _ | .extract _ _ | .binOp _ _ _ _ _ | .unOp _ _ _ | .fieldAddr _ _ _ | .field _ _ _ | .alloc _=>true
 |_=>false
theorem RF{s:Sem Value}{l:Nat}:(do pure (Go.Next.value (<-s)):Sem Go.Next).run P w ≠ .ok (.round l f tmps assign body) w':=by
 cases hs:s.run P w with
 |ok v w1=>simp_all
 |halt x w1=>simp_all
theorem RG{s:Sem Unit}{l:Nat}:(do s;pure Go.Next.skip:Sem Go.Next).run P w ≠ .ok (.round l f tmps assign body) w':=by
 cases hs:s.run P w with
 |ok v w1=>simp_all
 |halt x w1=>simp_all
theorem Za{ρ:Operand->Value}{o:Oper}(h:zl o=true){l:Nat}:(execOp ρ o).run P w ≠ .ok (.round l f tmps assign body) w':=by
 obtain⟨dst,op,ty,guard,after⟩:=o
 cases op<;>first
  |(simp[zl]at h;done)
  |exact RF
  |exact RG
  |(intro hh;simp[execOp]at hh)
def vcR(T:Tbl)(A:FuncId->List D->lY->Prop)(B:FuncId->List AV->Heap->gG->Heap->Prop)(p:Option D):Code->Post->Env->Heap->Prop
 | .seq a b,Q,env,K=>vcR T A B p a (Post.then (λenv K=>vc T A B b Q env K) Q) env K
 | .region _ ops false,Q,env,K=>match ops.toList with
  |o::rest=>match isRecover o&&rest.all zl with
   |true=>YD T A B ops (Q .normal) (λenv v K=>Q (.panic v) env K) rest (env.set o.dst (z3j p)) K
   |false=>False
  | []=>False
 |_,_,_,_=>False
theorem IU{ρ:Operand->Value}{o:Oper}{w:World}(h:isRecover o=true):o.guard=none/\(execOp ρ o).run P w = .ok .recover w:=by
 unfold isRecover at h
 simp at h
 obtain⟨h1,h2⟩:=h
 refine⟨by grind,?_⟩
 split at h2
 ·rename_i c ho
  split at h2
  ·rename_i hc ha
   rw[jP ho]
   simp[resolve,hc,invoke,builtin]
  ·simp at h2
 ·simp at h2
theorem Ve{o:Oper}{a:Act}{next next':Act->World->Prop}{Q:Exit->Act->World->Prop}(h:∀a w,next a w->next' a w){r:Result Go.Next}(hr:o.upon P a next Q r):o.upon P a next' Q r:=by
 unfold Oper.upon at hr ⊢
 split at hr<;>try exact h _ _ hr
 ·refine hr.mono λe w'=>?_
  grind
 ·intro b cs
  obtain⟨v,w2,h1,h2⟩:=hr b cs
  grind
 ·exact hr
 ·exact hr.elim
theorem Vf{ops:Array Oper}{Q':Exit->Act->World->Prop}{cs:List Frame}:∀(l:List Oper) (idx:List Nat) (a:Act) (w:World),l.all zl=true->idx.map (ops[·]?)=l.map some->wpL none P ops Q' l a w ->
  wpOpsS P ops (λe a cs' w=>cs'=cs/\Q' e a w) idx a cs w:=by
 intro l
 induction l with
 |nil=>
  intro idx a w _ hi h
  have:idx = []:=by simpa using hi
  subst this
  exact⟨rfl,h⟩
 |cons o r ih=>
  intro idx a w hsim hi h
  simp only[List.all_cons,Bool.and_eq_true]at hsim
  cases idx with
  |nil=>simp at hi
  |cons i idx=>
   simp at hi
   obtain⟨h0,hi⟩:=hi
   simp[wpOpsS,h0]
   simp only[wpL]at h
   split at h
   ·rename_i hw
    rw[if_pos hw]
    have h:o.wp P a w (wpL none P ops Q' r) Q':=by
     rcases h.2 with h |⟨l,f,tmps,assign,body,hr,_⟩<;>grind[Za]
    unfold Oper.wp at h
    split
    ·rename_i hr
     rw[hr]at h;exact h.elim
    ·revert h
     intro h
     have h:=Ve (λa w=>ih idx a w hsim.2 hi) h
     simp_all
   simp_all
def frameOf(p:Option D)(c0:Frame):Frame:=match p with
 |none=>c0
 |some _=>match c0.mode with
  | .panicking ({ v,recovered:=false,goexit:=false }::older)=>{ c0 with mode:=.panicking ({ v,recovered:=true }::older) }
  |_=>c0
section
variable {P : Program} {T : Tbl} (hT : iQ P T)
include hT
theorem zdc[Lo](hmix:P.follows .mixedOrders=true){N:aS}{n:Nat}{M0:Mem}{w0:World}{p:Option D}{c0:Frame}{cs:List Frame}:∀(c:Code) (Q:Post) (Q':Exit->Act->World->Prop) (env:Env) (K:Heap) (M:Mem) (a:Act) (w:World),cZ n c=true->vcR T (PCall P) (ak P) p c Q env K->St N M n env K a w->Evo M0 w0 M w ->
  IQ (Fb N M) w p c0.mode->QOk N M0 w0 n Q Q'->c.wpS P (λe a cs' w=>cs'=frameOf p c0::cs/\Q' e a w) a (c0::cs) w:=by
 intro c
 induction c with
 |seq x y ihx ihy=>
  intro Q Q' env K M a w hs h s e hu q
  simp only[cZ,Bool.and_eq_true]at hs
  refine wpS_seq ?_
  have:=ihx (Post.then (λenv K=>vc T (PCall P) (ak P) y Q env K) Q) (λe a w=>match e with | .normal=>y.wp P Q' a w |e=>Q' e a w) env K M a w hs.1 h s e hu λo env K M a w h s e=>by
   cases o with
   |normal=>exact wpIn_wide.1 (zc9 hT hmix y Q Q' env K M a w hs.2 h s e q)
   |exit i=>exact q (.exit i) env K M a w h s e
   |ret=>exact q .ret env K M a w h s e
   |panic x=>exact q (.panic x) env K M a w h s e
  intro b k hb hr
  obtain⟨e',a',cs',w',⟨h1,h2⟩,harr⟩:=this b k hb hr
  refine⟨e',a',cs',w',?_,harr⟩
  subst h1
  cases e' with
  |normal=>exact wpS_of_wp (wp_mono h2 λe a w h=>⟨rfl,h⟩)
  |_=>exact⟨rfl,h2⟩
 |region id ops draw=>
  intro Q Q' env K M a w hs h s e hu q
  cases draw with
  |true=>exact h.elim
  |false=>
   simp only[vcR]at h
   split at h<;>try exact h.elim
   rename_i o rest hops
   split at h<;>try exact h.elim
   rename_i hrec
   simp only[Bool.and_eq_true]at hrec
   obtain⟨hrec,hsim⟩:=hrec
   simp only[cZ]at hs
   have hdst:=qP hs
   obtain⟨hg,hrun⟩:=IU (P:=P) (ρ:=a.eval) (w:=w) hrec
   refine wpS_region ?_
   have hsz:ops.size=rest.length+1:=by rw[<-Array.length_toList,hops];rfl
   have h0:ops[0]? = some o:=by rw[<-Array.getElem?_toList,hops];rfl
   rw[hsz,List.range_succ_eq_map]
   simp only[wpOpsS,h0,Region.wanted,hg,if_true,hrun]
   have hidx:((List.range rest.length).map Nat.succ).map (ops[·]?)=rest.map some:=by
    apply List.ext_getElem
    ·simp
    ·intro i h1 h2
     simp
     rw[<-Array.getElem?_toList,hops]
     simp[h2]
   have hgo:∀(v:Value),aF N M w (z3j p) v->wpOpsS P ops (λe a cs' w=>cs'=frameOf p c0::cs/\Q' e a w) ((List.range rest.length).map Nat.succ) (a.put o.dst v) (frameOf p c0::cs) w:=by
    intro v hv
    refine Vf rest _ _ w hsim hidx ?_
    exact UM hT (λenv K M a w h s e=>q .normal env K M a w h s e) (λx env K M a w h s e=>q (.panic x) env K M a w h s e) rest _ K M _ w (λo ho=>hdst o (by rw[hops];simp[ho])) (λh=>absurd rfl h) h (s.put (hdst o (by rw[hops];simp)) hv) e
   cases p with
   |none=>
    have hm:c0.mode = .returning:=hu
    have:recoverD (c0::cs)=none:=by simp[recoverD,hm]
    rw[this]
    exact hgo .nilIface (.data _ _ (.val _))
   |some d=>
    obtain⟨v,hm,hv⟩:=hu
    have:recoverD (c0::cs)=some (v,frameOf (some d) c0::cs):=by simp[recoverD,frameOf,hm]
    rw[this]
    exact hgo v (.data _ _ hv)
 |_=>intro Q Q' env K M a w hs h;exact h.elim
def qo(T:Tbl)(rs:List ResultVar)(K0 K1:Heap):Post
 | .normal,env,K | .ret,env,K=>match env.get gq with
  | .dfr _=>False
  |_=>(match OT T rs env K with |some _=>True |none=>False)/\fin K0 K .top .top K1
 |_,_,_=>False
theorem dS(hmix:P.follows .mixedOrders=true){f:FuncId}{fn:Func}{c:Code}{as:List AV}{p:Option D}{K0 K1:Heap}(hf:P.funcs[f]? = some fn)(hb:fn.body=some c)(hname:(fn.name == "runtime.NumGoroutine")=false)(hs:cZ fn.ntmps c=true)
  (hn:(Nat.ble as.length fn.ntmps&&Nat.ble fn.ntmps 999999&&kX (keys K0))=true)
  (h:vcR T (PCall P) (ak P) p c (qo T fn.results.toList K0 K1) (iU 0 as) K0):yT P f as p K0 K1:=by
 simp only[Bool.and_eq_true]at hn
 obtain⟨⟨hn1,hn2⟩,hlent⟩:=hn
 have hn1:=Nat.le_of_ble_eq_true hn1
 have hn2:=Nat.le_of_ble_eq_true hn2
 refine⟨⟨fn,hf,hname,by rw[hb];rfl⟩,λN M0 w args u hm hsup hl hr hK hu=>?_⟩
 letI:Lo:=⟨λ_=>False⟩
 refine callsD_of_wpS hf hb λc0 cs hc0=>?_
 have hsz:(args++Array.replicate (fn.ntmps-args.size) undef).size=fn.ntmps:=by simp;omega
 have hget:∀(k:Nat) d,as[k]? = some d->aF N M0 w d ((args++Array.replicate (fn.ntmps-args.size) undef).getD (0+k) undef):=by
  intro k d e
  have hlt:k<args.size:=by grind
  have:=hr k d e
  simp only[Array.getD_eq_getD_getElem?,Array.getElem?_append]at this ⊢
  simp_all
 have st:St N M0 fn.ntmps (iU 0 as) K0 { tmps:=args++Array.replicate (fn.ntmps-args.size) undef,defers:=[] } w:=
  ⟨hsz,hn2,(yQ.nil λcs e=>by rw[xx as 0 gq (by grind)]at e;cases e),λj=>xw as 0 j _ hget,hK,hm⟩
 have hmode:∃u',frameOf p c0 = { c0 with mode:=u' }/\settle u' = .returning:=by
  cases p with
  |none=>
   exact⟨u,by subst hc0;rfl,by rw[hu];rfl⟩
  |some d=>
   obtain⟨v,hu,_⟩:=hu
   refine⟨.panicking [{ v,recovered:=true }],?_,rfl⟩
   grind[frameOf]
 obtain⟨u',hfr,hset⟩:=hmode
 have hend:∀{env:Env} {K:Heap} {M:Mem} {a:Act} {w':World},qo T fn.results.toList K0 K1 .ret env K->St N M fn.ntmps env K a w'->Evo M0 w M w'->a.defers = []/\∃v,(results fn a.tmps).run P w' = .ok v w'/\∃M',Step M0 w M' w' (keys K1)/\(∀id∈keys K0,Tr M0 M' id)/\(∀id blk,K1.get id=some blk->eP N M' w' id blk):=by
  intro env K M a w' h s e
  simp only[qo]at h
  split at h<;>try exact h.elim
  rename_i hd
  obtain⟨h1,h2⟩:=h
  refine⟨?_,?_⟩
  ·exact s.defers.none (λcs h=>hd cs h) λ_ h=>h
  ·split at h1
   ·rename_i x hx
    obtain⟨v,hv,_⟩:=AC hT hx s.sv
    obtain⟨M',q1,q2,q3,_⟩:=AO hlent hsup e s.mem s.heap h2 (.top undef)
    grind
   ·exact h1.elim
 have:=zdc hT hmix (N:=N) (n:=fn.ntmps) (M0:=M0) (w0:=w) (p:=p) (c0:=c0) (cs:=cs) c (qo T fn.results.toList K0 K1) (λe a w'=>match e with
   | .normal | .ret=>a.defers = []/\∃v,(results fn a.tmps).run P w' = .ok v w'/\∃M',Step M0 w M' w' (keys K1)/\(∀id∈keys K0,Tr M0 M' id)/\(∀id blk,K1.get id=some blk->eP N M' w' id blk)
   |_=>False) (iU 0 as) K0 M0 _ w hs h st (Evo.refl M0 w) (by grind) λo env K M a w' h s e=>by
  cases o with
  |normal=>exact hend h s e
  |ret=>exact hend h s e
  |exit i=>exact h.elim
  |panic x=>exact h.elim
 intro b k hb' hr'
 obtain⟨e,a',cs',w',⟨h1,h2⟩,harr⟩:=this b k hb' hr'
 refine⟨e,a',cs',w',?_,harr⟩
 subst h1
 cases e with
 |normal=>
  obtain⟨q1,v,q2,q3⟩:=h2
  exact⟨q1,u',by rw[hfr],v,q2,v,rfl,hset,q3⟩
 |ret=>
  obtain⟨q1,v,q2,q3⟩:=h2
  exact⟨q1,u',by rw[hfr],v,q2,v,rfl,hset,q3⟩
 |_=>exact h2.elim
theorem IV(hmix:P.follows .mixedOrders=true){f:FuncId}{fn:Func}{c:Code}{as:List AV}{p:Option D}{thr:Bool}{K0 K1:Heap}(hf:P.funcs[f]? = some fn)(hb:fn.body=some c)(hname:(fn.name == "runtime.NumGoroutine")=false)(hs:cZ fn.ntmps c=true)
  (hn:(Nat.ble as.length fn.ntmps&&Nat.ble fn.ntmps 999999&&kX (keys K0))=true)
  (hp:thr=true\/p=none) (h:vc T (PCall P) (ak P) c (qo T fn.results.toList K0 K1) (iU 0 as) K0):nK P f as p thr K0 K1:=by
 simp only[Bool.and_eq_true]at hn
 obtain⟨⟨hn1,hn2⟩,hlent⟩:=hn
 have hn1:=Nat.le_of_ble_eq_true hn1
 have hn2:=Nat.le_of_ble_eq_true hn2
 refine⟨⟨fn,hf,hname,by rw[hb];rfl⟩,λN M0 w args u hm hsup hl hr hK hu=>?_⟩
 letI:Lo:=⟨λ_=>False⟩
 refine callsD_of_wpS hf hb λc0 cs hc0=>?_
 have hsz:(args++Array.replicate (fn.ntmps-args.size) undef).size=fn.ntmps:=by simp;omega
 have hget:∀(k:Nat) d,as[k]? = some d->aF N M0 w d ((args++Array.replicate (fn.ntmps-args.size) undef).getD (0+k) undef):=by
  intro k d e
  have hlt:k<args.size:=by grind
  have:=hr k d e
  simp only[Array.getD_eq_getD_getElem?,Array.getElem?_append]at this ⊢
  simp_all
 have st:St N M0 fn.ntmps (iU 0 as) K0 { tmps:=args++Array.replicate (fn.ntmps-args.size) undef,defers:=[] } w:=
  ⟨hsz,hn2,(yQ.nil λcs e=>by rw[xx as 0 gq (by grind)]at e;cases e),λj=>xw as 0 j _ hget,hK,hm⟩
 have hend:∀{env:Env} {K:Heap} {M:Mem} {a:Act} {w':World},qo T fn.results.toList K0 K1 .ret env K->St N M fn.ntmps env K a w'->Evo M0 w M w'->a.defers = []/\∃v,(results fn a.tmps).run P w' = .ok v w'/\∃M',Step M0 w M' w' (keys K1)/\(∀id∈keys K0,Tr M0 M' id)/\(∀id blk,K1.get id=some blk->eP N M' w' id blk):=by
  intro env K M a w' h s e
  simp only[qo]at h
  split at h<;>try exact h.elim
  rename_i hd
  obtain⟨h1,h2⟩:=h
  refine⟨?_,?_⟩<;>try exact s.defers.none (λcs h=>hd cs h) λ_ h=>h
  split at h1<;>try exact h1.elim
  rename_i x hx
  obtain⟨v,hv,_⟩:=AC hT hx s.sv
  obtain⟨M',q1,q2,q3,_⟩:=AO hlent hsup e s.mem s.heap h2 (.top undef)
  grind
 have hw:=zc9 hT hmix (N:=N) (n:=fn.ntmps) (M0:=M0) (w0:=w) c (qo T fn.results.toList K0 K1) (λe a w'=>match e with
   | .normal | .ret=>a.defers = []/\∃v,(results fn a.tmps).run P w' = .ok v w'/\∃M',Step M0 w M' w' (keys K1)/\(∀id∈keys K0,Tr M0 M' id)/\(∀id blk,K1.get id=some blk->eP N M' w' id blk)
   |_=>False) (iU 0 as) K0 M0 _ w hs h st (Evo.refl M0 w) λo env K M a w' h s e=>by
  cases o with
  |normal=>exact hend h s e
  |ret=>exact hend h s e
  |exit i=>exact h.elim
  |panic x=>exact h.elim
 have hset:U8 thr u u:=by
  rcases hp with rfl |rfl
  ·rfl
  ·subst hu
   cases thr<;>rfl
 refine wpS_of_wp (wp_mono (wpIn_wide.1 hw) λe a w' h2=>?_)
 cases e with
 |normal=>
  obtain⟨q1,v,q2,q3⟩:=h2
  exact⟨q1,u,by rw[<-hc0],v,q2,v,rfl,hset,q3⟩
 |ret=>
  obtain⟨q1,v,q2,q3⟩:=h2
  exact⟨q1,u,by rw[<-hc0],v,q2,v,rfl,hset,q3⟩
 |_=>exact h2.elim
end
end Go.Fw
namespace Go.Fw
variable [ae]
section
variable {T : Tbl} {A : FuncId → List D → lY → Prop} {B : FuncId → List AV → Heap → gG → Heap → Prop} {K : Heap} {next next' pan pan' : Next}
theorem kL{id:Nat}{env:Env}{p q:Prop}(hpq:p->q)(h:fresh id env K p):fresh id env K q:=by
 grind[fresh]
theorem Vg{op:BinOp}{x y:AV}(hn:∀v K,next v K->next' v K)(h:z2y op x y K next):z2y op x y K next':=by
 unfold z2y at h ⊢;repeat' split at h<;>simp_all
theorem Zb{op:UnOp}{x:AV}(hn:∀v K,next v K->next' v K)(h:vUn op x K next):vUn op x K next':=by
 unfold vUn at h ⊢;grind
theorem RH{t:TypeId}{x:AV}(hn:∀v K,next v K->next' v K)(h:jM T t x K next):jM T t x K next':=by
 unfold jM at h ⊢;repeat' split at h
 all_goals first
  |exact h.elim |exact hn _ _ h |exact⟨h.1,hn _ _ h.2⟩
  |(obtain⟨h1,e,h4,h5⟩:=h;exact⟨h1,e,h4,hn _ _ h5⟩)
  |(obtain⟨r,h1,h2⟩:=h;exact⟨r,h1,hn _ _ h2⟩)
  |(obtain⟨r,h1,c,h2,h3⟩:=h;exact⟨r,h1,c,h2,hn _ _ h3⟩)
  |(exact⟨h1,h2,e,h4,hn _ _ h5⟩)
  |(obtain⟨h1,e,h4,c,h5,h6⟩:=h;exact⟨h1,e,h4,c,h5,hn _ _ h6⟩)
theorem L8{t:TypeId}{x v:AV}(hn:∀v K,next v K->next' v K)(h:DT T t x v K next):DT T t x v K next':=by
 unfold DT at h ⊢;repeat' split at h
 all_goals first
  |exact h.elim |exact hn _ _ h
  |(obtain⟨h1,h2,h3,h4,h5,e,h6,h7⟩:=h;exact⟨h1,h2,h3,h4,h5,e,h6,hn _ _ h7⟩)
  |(obtain⟨h1,r,h2,h3,h4⟩:=h;exact⟨h1,r,h2,h3,hn _ _ h4⟩)
  |(obtain⟨h1,h2,r,h3,h4,h5⟩:=h;exact⟨h1,h2,r,h3,h4,hn _ _ h5⟩)
theorem L9{t:TypeId}{f:Nat}{x:AV}(hn:∀v K,next v K->next' v K)(h:zM T t f x K next):zM T t f x K next':=by
 unfold zM at h ⊢;repeat' split at h
 all_goals first |exact h.elim |exact hn _ _ h
theorem IW{t:TypeId}{f:Nat}{x:AV}(hn:∀v K,next v K->next' v K)(h:sS T t f x K next):sS T t f x K next':=by
 unfold sS at h ⊢;repeat' split at h
 all_goals first |exact h.elim |exact hn _ _ h
theorem AU{t:TypeId}{x i:AV}(hn:∀v K,next v K->next' v K)(h:bn T t x i K next):bn T t x i K next':=by
 unfold bn at h ⊢;repeat' split at h
 all_goals first
  |exact h.elim |exact⟨h.1,hn _ _ h.2⟩ |(obtain⟨h1,c,h2,h3⟩:=h;exact⟨h1,c,h2,hn _ _ h3⟩) |exact⟨h.1,h.2.1,hn _ _ h.2.2⟩
theorem Md{t:TypeId}{x i:AV}(hn:∀v K,next v K->next' v K)(h:DU T t x i K next):DU T t x i K next':=by
 unfold DU at h ⊢;repeat' split at h<;>grind
theorem Me{t:TypeId}{x:AV}{lo hi mx:Option AV}(hn:∀v K,next v K->next' v K)(h:DV T t x lo hi mx K next):DV T t x lo hi mx K next':=by
 unfold DV at h ⊢;repeat' split at h
 all_goals first |exact h.elim |exact⟨h.1,hn _ _ h.2⟩ |exact⟨h.1,h.2.1,hn _ _ h.2.2⟩
theorem Vh{t:TypeId}{x:AV}(hn:∀v K,next v K->next' v K)(h:z5v T t x K next):z5v T t x K next':=by
 unfold z5v at h ⊢;repeat' split at h
 all_goals first |exact h.elim |exact hn _ _ h
theorem vF{e:TypeId}{id:Nat}{env:Env}{x:AV}{sz:Nat}{ys:List (List D)}(hn:∀v K,next v K->next' v K)(h:jF T e id env x sz ys K next):jF T e id env x sz ys K next':=by
 unfold jF at h ⊢;grind[iM,kL]
theorem IX{t t2:TypeId}{id:Nat}{env:Env}{x y:AV}(hn:∀v K,next v K->next' v K)(h:nX T t t2 id env x y K next):nX T t t2 id env x y K next':=by
 unfold nX at h ⊢;repeat' split at h
 all_goals first |exact h.elim |exact vF hn h |exact⟨h.1,vF hn h.2⟩
theorem MB{t:TypeId}{ps:List (Nat×AV)}(hn:∀v K,next v K->next' v K)(h:DW T t ps K next):DW T t ps K next':=by
 unfold DW at h ⊢;repeat' split at h
 all_goals first |exact h.elim |exact hn _ _ h
theorem yU{t:TypeId}{id n:Nat}{env:Env}{ps:List (Nat×AV)}(hn:∀v K,next v K->next' v K)(h:iO T t id n env ps K next):iO T t id n env ps K next':=by
 unfold iO at h ⊢;repeat' split at h
 all_goals first |exact h.elim |exact iM (kL (hn _ _)) (kL (hn _ _)) h
theorem Em{L:List Nat}{f:FuncId}{as:List AV}{env:Env}(hn:∀v K,next v K->next' v K)(hp:∀v K,pan v K->pan' v K)(h:FH B L f as env K next pan):FH B L f as env K next' pan':=by
 obtain⟨as0,K0,out,K1,ρ,h1,h2,h3,h4,h5⟩:=h
 refine⟨as0,K0,out,K1,ρ,h1,h2,h3,h4,?_⟩
 cases out with
 |ret v=>exact hn _ _ h5
 |pan v=>exact hp _ _ h5
theorem Eo{v:AV}{p q:Prop}(hp:p->q)(h:lenOk K v p):lenOk K v q:=by
 unfold lenOk at h ⊢;grind
theorem tN:∀{l:List AV} {p q:Prop},(p->q)->zS K l p->zS K l q
 | [],_,_,hp,h=>hp h
 |_::r,_,_,hp,h=>Eo (tN (l:=r) hp) h
theorem jS:∀{l:List AV} {p q:Prop},(p->q)->kR K l p->kR K l q
 | [],_,_,hp,h=>hp h
 |v::r,p,q,hp,h=>by
  cases v
  case agg cs=>exact tN (jS (l:=r) hp) h
  case ptr id off=>
   simp only[kR]at h ⊢
   split at h
   ·exact tN (jS (l:=r) hp) h
   ·exact jS (l:=r) hp h
  all_goals exact Eo (jS (l:=r) hp) h
theorem RI{L:List Nat}{f:FuncId}{as:List AV}{env:Env}(hn:∀v K,next v K->next' v K)(hp:∀v K,pan v K->pan' v K)(h:zT A B L f as env K next pan):zT A B L f as env K next' pan':=by
 unfold zT at h ⊢
 split at h
 ·exact h.elim
 split at h<;>grind[Em,z5y,jS]
theorem Vj{t:TypeId}{op:BinOp}{xo yo:Operand}{x y:AV}(hn:∀v K,next v K->next' v K)(h:zcj T t op xo yo x y K next):zcj T t op xo yo x y K next':=by
 unfold zcj at h ⊢;repeat' split at h
 all_goals first |exact h.elim |exact hn _ _ h |exact⟨h.1,hn _ _ h.2⟩
theorem IY{t:TypeId}{ok:Bool}{x:AV}(hn:∀v K,next v K->next' v K)(h:wQ T t ok x K next):wQ T t ok x K next':=by
 unfold wQ at h ⊢;repeat' split at h
 all_goals first |exact h.elim |exact hn _ _ h
theorem RJ{env:Env}{o:Oper}(hn:∀v K,next v K->next' v K)(h:Ig T env K o next):Ig T env K o next':=by
 unfold Ig at h ⊢;repeat' split at h
 all_goals first
  |exact h.elim |exact hn _ _ h |exact kL (hn _ _) h |exact⟨h.1,hn _ _ h.2⟩ |exact IY hn h
  |(have h2:=h.2;unfold rH at h2 ⊢;grind)
  |(grind)
  |grind[iM,kL]
  |grind[iM]
theorem MC{t:TypeId}{x:AV}(hn:∀v K,next v K->next' v K)(h:DX T t x K next):DX T t x K next':=by
 unfold DX at h ⊢;repeat' split at h
 all_goals first |exact h.elim |exact hn _ _ h |exact⟨h.1,hn _ _ h.2⟩
theorem vG{env:Env}{o:Oper}(hn:∀v K,next v K->next' v K)(hp:∀v K,pan v K->pan' v K)(h:vOp T A B env K o next pan):vOp T A B env K o next' pan':=by
 unfold vOp at h ⊢;repeat' split at h
 all_goals first
  |exact h.elim |exact hn _ _ h |exact hp _ _ h |exact kL (hn _ _) h |exact MB hn h |exact yU hn h |exact RH hn h |exact L8 hn h |exact Vj hn h |exact Vg hn h
  |exact Zb hn h |exact L9 hn h |exact IW hn h |exact AU hn h |exact Md hn h |exact Me hn h |exact Vh hn h |exact IX hn h |exact MC hn h |exact RI hn hp h |exact Em hn hp h |exact RJ hn h
  |(unfold Br at h ⊢;grind)
end
@[irreducible] def BrI (c:Bool) (p q:Prop):Prop:=(c=true->p)/\(c=false->q)
theorem BrI.intro{c:Bool}{p q:Prop}(h1:c=true->p)(h2:c=false->q):BrI c p q:=by grind[BrI]
theorem BrI.elim{c:Bool}{p q:Prop}(h:BrI c p q):Br c p q:=by
 unfold BrI at h;unfold Br;grind
def fc1(v:AV)(k:AV->Prop):Prop:=match v with
 | .data d=>k (.data d)
 | .nilsl s=>k (.nilsl s)
 | .gs i s es=>k (.gs i s es)
 | .own i v s o l=>k (.own i v s o l)
 | .ptr i o=>k (.ptr i o)
 | .eptr i v s j o=>k (.eptr i v s j o)
 | .map i=>k (.map i)
 | .fn f cs=>k (.fn f cs)
 | .bnd f cs=>k (.bnd f cs)
 | .iface t x=>k (.iface t x)
 | .agg cs=>k (.agg cs)
 | .tuple cs=>k (.tuple cs)
 | .dfr cs=>k (.dfr cs)
 | .yld i=>k (.yld i)
 | .top=>k .top
theorem zdd(v:AV)(k:AV->Prop):fc1 v k=k v:=by cases v<;>rfl
noncomputable def fcL(l:List AV):(List AV->Prop)->Prop:=
 List.rec (motive:=λ_=>(List AV->Prop)->Prop) (λk=>k []) (λv _ ih k=>fc1 v λv=>ih λr=>k (v::r)) l
theorem z3k(l:List AV):∀k,fcL l k=k l:=by
 induction l with
 |nil=>intro k;rfl
 |cons v r ih=>intro k;show fc1 v (λv=>fcL r λr=>k (v::r))=_;rw[zdd,ih]
noncomputable def fc(v:AV)(k:AV->Prop):Prop:=match v with
 | .data d=>k (.data d)
 | .nilsl s=>k (.nilsl s)
 | .gs i s es=>k (.gs i s es)
 | .own i v s o l=>k (.own i v s o l)
 | .ptr i o=>k (.ptr i o)
 | .eptr i v s j o=>k (.eptr i v s j o)
 | .map i=>k (.map i)
 | .fn f cs=>k (.fn f cs)
 | .bnd f cs=>k (.bnd f cs)
 | .iface t x=>k (.iface t x)
 | .agg cs=>fcL cs λcs=>k (.agg cs)
 | .tuple cs=>fcL cs λcs=>k (.tuple cs)
 | .dfr cs=>k (.dfr cs)
 | .yld i=>k (.yld i)
 | .top=>k .top
theorem vH(v:AV)(k:AV->Prop):fc v k=k v:=by cases v<;>first |rfl |exact z3k _ _
noncomputable def fcB(b:Block)(k:Block->Prop):Prop:=match b with
 | .cells cs=>fcL cs λcs=>k (.cells cs)
 | .arr v s es=>k (.arr v s es)
 | .tok s n=>k (.tok s n)
 | .map g l es=>k (.map g l es)
 | .rnd R=>k (.rnd R)
 | .dead=>k .dead
 | .adr i b=>k (.adr i b)
theorem zde(b:Block)(k:Block->Prop):fcB b k=k b:=by cases b<;>first |rfl |exact z3k _ _
noncomputable def fcH(K:Heap):(Heap->Prop)->Prop:=
 List.rec (motive:=λ_=>(Heap->Prop)->Prop) (λk=>k []) (λp _ ih k=>match p with |(i,b)=>fcB b λb=>ih λr=>k ((i,b)::r)) K
theorem zdf(K:Heap):∀k,fcH K k=k K:=by
 induction K with
 |nil=>intro k;rfl
 |cons p r ih=>obtain⟨i,b⟩:=p;intro k;show fcB b (λb=>fcH r λr=>k ((i,b)::r))=_;rw[zde,ih]
noncomputable def fcK(o:Oper)(K:Heap)(k:Heap->Prop):Prop:=match o.op with
 | .store _ _ _ | .alloc _ | .box _ _ | .call _ | .buildSlice _ _ _ | .makeMap _ _ | .makeSlice _ _ _ | .mapUpdate _ _ _ _ | .insert _ _ _ _=>fcH K k
 |_=>k K
theorem Ep(o:Oper)(K:Heap)(k:Heap->Prop):fcK o K k=k K:=by
 grind[fcK,zdf]
def FZ(d:Option Nat)(v:AV)(m:Env)(k:Env->Prop):Prop:=match d with |some d=>k ((d,v)::m) |none=>k m
theorem oG(d:Option Nat)(v:AV)(m:Env)(k:Env->Prop):FZ d v m k=k (m.set d v):=by cases d<;>rfl
def Vk(c:Operand)(b:Bool)(env:Env)(k:Env->Prop):Prop:=match c with | .tmp j=>k ((j,.data (.val (.bool b)))::env) |_=>k env
theorem OW(c:Operand)(b:Bool)(env:Env)(k:Env->Prop):Vk c b env k=k (zcl c b env):=by cases c<;>rfl
def zhs(op:BinOp)(x y:AV):Option AV:=match x,y with
 | .data (.val (.int k a)),.data (.val (.int k' b))=>match k==k' with
  |true=>(match op with | .quo | .rem | .shl | .shr=>none |op=>arith op k a b)
  |false=>none
 | .data (.str a),.data (.str b)=>match op with
  | .eql=>some (.b (a==b))
  | .neq=>some (.b (!(a==b)))
  |_=>none
 |_,_=>none
def zdg(T:Tbl)(t:TypeId)(x:AV)(K:Heap):Option AV:=match x with
 | .ptr id off=>match K.get id with
  |some (.cells cs)=>match T.sh t with
   |some true=>match Nat.ble (off+(T.at t).size) cs.length with
    |true=>some (FC ((cs.drop off).take (T.at t).size))
    |false=>none
   |some false=>cs[off]?
   |none=>none
  |_=>none
 | .data (.ptr cs)=>match T.sh t with
  |some false=>match cs with |c::_=>some (.data c) | []=>none
  |_=>none
 |_=>none
def z3l(T:Tbl)(s:TypeId)(f:Nat)(x:AV):Option AV:=match(T.at s).ty with
 | .struct fs=>match fs[f]? with
  |some (o,ft)=>match T.known ft&&Nat.blt 0 (T.at ft).size with
   |false=>none
   |true=>match x with
    | .ptr id off=>some (.ptr id (off+o))
    | .eptr id vr sz i off=>some (.eptr id vr sz i (off+o))
    | .data (.ptr cs)=>match T.sh ft with
     |some true=>some (.data (.ptr ((cs.drop o).take (T.at ft).size)))
     |some false=>some (.data (.ptr (cs.drop o)))
     |none=>none
    |_=>none
  |none=>none
 |_=>none
def Vl(T:Tbl)(s:TypeId)(f:Nat)(x:AV):Option AV:=match(T.at s).ty with
 | .struct fs=>match fs[f]? with
  |some (o,ft)=>match T.sh ft with
   |some true=>match x with
    | .agg cs=>match Nat.ble (o+(T.at ft).size) cs.length with |true=>some (FC ((cs.drop o).take (T.at ft).size)) |false=>none
    | .data (.agg ds)=>match Nat.ble (o+(T.at ft).size) ds.length with |true=>some (.data (.agg ((ds.drop o).take (T.at ft).size))) |false=>none
    |_=>none
   |some false=>match x with
    | .agg cs=>cs[o]?
    | .data (.agg ds)=>match ds[o]? with |some d=>some (.data d) |none=>none
    |_=>none
   |none=>none
  |none=>none
 |_=>none
def zi4(T:Tbl)(t:TypeId)(x:AV)(K:Heap):Option AV:=match(T.at t).ty,x with
 | .str,.data (.str s)=>some (.i s.length)
 | .slice _,.data (.sl _ es)=>some (.i es.length)
 | .slice _,.gs _ _ es=>some (.i es.length)
 | .slice _,.nilsl _=>some (.i 0)
 | .slice _,.own _ _ _ _ n=>some (.i n)
 | .map _ _,.map id=>match K.get id with
  |some (.map _ _ es)=>some (.i es.length)
  |_=>none
 | .map _ _,.data (.val (.map none))=>some (.i 0)
 |_,_=>none
def F5(c:Bool)(x y:AV):Option AV:=match x,y with
 | .data (.val (.int k a)),.data (.val (.int k' b))=>match k==k' with |true=>some (.data (.val (.int k (bif c then a else b)))) |false=>none
 | .data (.val (.bool a)),.data (.val (.bool b))=>some (.data (.val (.bool (bif c then a else b))))
 | .data (.str a),.data (.str b)=>some (.data (.str (bif c then a else b)))
 |_,_=>none
def z6y(T:Tbl)(env:Env)(K:Heap)(o:Oper):Option AV:=match o.op with
 | .move x | .assign x=>some (ev T env o.type x)
 | .pick c a b=>match ev T env o.type c with
  | .data (.val (.bool c))=>F5 c (ev T env o.type a) (ev T env o.type b)
  |_=>none
 | .load t a=>zdg T t (ev T env 0 a) K
 | .fieldAddr s x f=>z3l T s f (ev T env 0 x)
 | .field s x f=>Vl T s f (ev T env 0 x)
 | .binOp op t x y _=>match Ot op (ev T env t x)with
  |true=>none
  |false=>zhs op (ev T env t x) (ev T env t y)
 | .unOp op t x=>match op,ev T env t x with
  | .not,.data (.val (.bool c))=>some (.b (!c))
  | .neg,.data (.val (.int k n))=>some (.data (.val (.int k (k.wrap (0-n)))))
  |_,_=>none
 | .extract x i=>match ev T env 0 x with
  | .tuple vs=>vs[i]?
  | .data (.tuple vs)=>match vs[i]? with |some v=>some (.data v) |none=>none
  |_=>none
 | .call c=>match c.callee with
  | .builtin .len=>match c.args.toList,Nat.ble 1 c.argTypes.size with
   | [x],true=>zi4 T (c.argTypes.getD 0 0) (ev T env (c.argTypes.getD 0 0) x) K
   |_,_=>none
  | .builtin .max=>zci true (c.args.toList.map (ev T env 0))
  | .builtin .min=>zci false (c.args.toList.map (ev T env 0))
  |_=>none
 |_=>none
def dZ(o:Oper):Bool:=match o.op with
 | .store _ _ _ | .alloc _ | .box _ _ | .buildSlice _ _ _ | .makeMap _ _ | .makeSlice _ _ _=>false
 | .call c=>match c.callee with
  | .builtin .append=>false
  |_=>true
 |_=>true
structure GE where
 d:Nat
 ch:List (Nat×Bool)
 g:Bool
 v:AV
def z3m(d:Nat)(b:Bool):List (Nat×Bool)->Bool
 | []=>false
 |(e,c)::r=>(Nat.beq d e&&(b==c)) || z3m d b r
def KY:List (Nat×Bool)->List (Nat×Bool)->Bool
 | [],_=>true
 |(d,b)::r,l=>z3m d b l&&KY r l
def Ia(d:Nat):List (Nat×Bool)->Bool
 | []=>false
 |(e,_)::r=>Nat.beq d e || Ia d r
def kw(al:List (Nat×Bool))(m:Env):List GE->Env
 | []=>m
 |e::r=>match KY e.ch al with |true=>(e.d,e.v)::kw al m r |false=>(e.d,.top)::kw al m r
def MF(d:Nat):List GE->Option GE
 | []=>none
 |e::r=>match Nat.beq e.d d with |true=>some e |false=>MF d r
def mV(c want:Bool):Bool:=match want with |true=>c |false=>!c
def guardOf(ops:Array Oper)(G:List GE)(m:Env)(o:Oper):Option (List (Nat×Bool)×Bool):=match o.guard with
 |none=>some ([],true)
 |some (j,want)=>match rJ ops j with
  |none=>none
  |some d=>match MF d G with
   |some e=>match e.v with
    | .data (.val (.bool c))=>(match e.ch with | []=>some ([(d,want)],mV c want) |ch=>some ((d,want)::ch,e.g&&mV c want))
    |_=>none
   |none=>match m.get d with
    | .data (.val (.bool c))=>some ([(d,want)],mV c want)
    |_=>none
def F6(d:Nat):List GE->Bool
 | []=>true
 |e::r=>!Ia d e.ch&&F6 d r
def OX:Operand->List (Nat×Bool)->Bool->List (Nat×Bool) | .tmp j,ch,b=>(j,b)::ch |_,ch,_=>ch
section
variable (T : Tbl) (A : FuncId → List D → lY → Prop) (B : FuncId → List AV → Heap → gG → Heap → Prop)
def KZ(d:Option Nat)(ch:List (Nat×Bool))(g:Bool)(v:AV)(G:List GE)(m:Env)(next:List GE->Env->Prop):Prop:=match d with
 |none=>match ch with | []=>next G m |_=>False
 |some d=>match G,ch with
  | [],[]=>next [] ((d,v)::m)
  |G,ch=>match !Ia d ch&&F6 d G with
   |true=>next (⟨d,ch,g,v⟩::G) m
   |false=>False
noncomputable def flatG(m:Env)(G:List GE):(Env->Prop)->Prop:=
 List.rec (motive:=λ_=>(Env->Prop)->Prop) (λk=>k m) (λe _ ih k=>ih λr=>match e with |⟨d,[],_,v⟩=>k ((d,v)::r) |⟨d,_::_,_,_⟩=>k ((d,.top)::r)) G
@[irreducible] def kz (g:Bool) (p:Prop):Prop:=g=true/\p
theorem kz.mk{g:Bool}{p:Prop}(h:g=true)(hp:p):kz g p:=by grind[kz]
theorem kz.out{g:Bool}{p:Prop}(h:kz g p):g=true/\p:=by grind[kz]
noncomputable def geK(al:List (Nat×Bool))(m:Env)(G:List GE):(Env->Prop)->Prop:=
 List.rec (motive:=λ_=>(Env->Prop)->Prop) (λk=>k m) (λe _ ih k=>ih λr=>match KY e.ch al with |true=>k ((e.d,e.v)::r) |false=>k ((e.d,.top)::r)) G
theorem z3n(al:List (Nat×Bool))(m:Env)(G:List GE):∀k,geK al m G k=k (kw al m G):=by
 induction G with
 |nil=>intro k;rfl
 |cons e r ih=>
  intro k
  show geK al m r (λr=>match KY e.ch al with |true=>k ((e.d,e.v)::r) |false=>k ((e.d,.top)::r))=_
  grind[kw]
def Zc(T:Tbl)(m:Env)(o:Oper):Option (BinOp×Bool×Nat):=match o.op with
 | .binOp op t x y _=>match op,(T.at t).ty,ev T m t y with
  | .eql,.slice _,.nilsl _ | .neq,.slice _,.nilsl _=>match ev T m t x with
   | .nilsl _=>some (op,true,0)
   | .data (.sl _ es)=>some (op,false,es.length)
   | .gs _ _ es=>some (op,false,es.length)
   | .own _ _ _ _ _=>some (op,false,0)
   |_=>none
  |_,_,_=>none
 |_=>none
@[irreducible] def YF (n:Nat) (p q:Prop):Prop:=(n=0->p)/\q
theorem YF.mk{n:Nat}{p q:Prop}(h:n=0->p)(hq:q):YF n p q:=by grind[YF]
theorem YF.out{n:Nat}{p q:Prop}(h:YF n p q):(n=0->p)/\q:=by grind[YF]
noncomputable def La(ops:Array Oper)(Q:Env->Heap->Prop)(pan:Env->Next)(l:List Oper):List GE->Env->Heap->Prop:=
 List.rec (motive:=λ_=>List GE->Env->Heap->Prop) (λG m K=>flatG m G λenv=>Q env K)
  (λo _ ih G m K=>match guardOf ops G m o with
   |none=>False
   | some (ch,g)=>match(match o.op with
     | .pick c x y=>match ev T (kw ch m G) o.type c with
      | .data (.val (.bool cv))=>F5 cv (ev T (kw (OX c ch true) m G) o.type x) (ev T (kw (OX c ch false) m G) o.type y)
      |_=>none
     |_=>z6y T (kw ch m G) K o)with
    |some v=>fc v λv=>KZ o.dst ch g v G m λG m=>ih G m K
    |none=>match ch,G with
     | [],[]=>match wU m o with
      |some cs=>ih [] (Env.set ((gq,.dfr cs)::m) o.dst (.data (.val undef))) K
      |none=>match Zc T m o with
       |some (op,kn,n)=>(match kn with
        |true=>FZ o.dst (kS op true) m λm=>ih [] m K
        |false=>YF n (FZ o.dst (kS op true) m λm=>ih [] m K) (FZ o.dst (kS op false) m λm=>ih [] m K))
       |none=>vOp T A B m K o (λv K=>fc v λv=>fcK o K λK=>FZ o.dst v m λm=>ih [] m K) (pan m)
     | [],G=>match dZ o with
      |true=>vOp T A B (kw [] m G) K o (λv K'=>K'=K/\fc v λv=>KZ o.dst [] true v G m λG m=>ih G m K) (pan (kw [] m G))
      |false=>vOp T A B (kw [] m G) K o (λv K=>fc v λv=>fcK o K λK=>flatG m G λm=>FZ o.dst v m λm=>ih [] m K) (pan (kw [] m G))
     |ch,G=>match dZ o with
      |true=>(dZ o=true/\∃v,(g=true->vOp T A B (kw ch m G) K o (λv' K'=>v'=v/\K'=K) (λ_ _=>False))/\KZ o.dst ch g v G m λG m=>ih G m K)\/kz g (vOp T A B (kw ch m G) K o (λv K=>fc v λv=>fcK o K λK=>geK ch m G λm=>FZ o.dst v m λm=>ih [] m K) (pan (kw ch m G)))
      |false=>kz g (vOp T A B (kw ch m G) K o (λv K=>fc v λv=>fcK o K λK=>geK ch m G λm=>FZ o.dst v m λm=>ih [] m K) (pan (kw ch m G)))) l
def geM(al:List (Nat×Bool))(m:Env):List GE->Env
 | []=>m
 |e::r=>match KY e.ch al with |true=>(e.d,e.v)::geM al m r |false=>(e.d,.top)::(e.d,e.v)::geM al m r
noncomputable def flatM(m:Env)(G:List GE):(Env->Prop)->Prop:=
 List.rec (motive:=λ_=>(Env->Prop)->Prop) (λk=>k m) (λe _ ih k=>ih λr=>match e with |⟨d,[],_,v⟩=>k ((d,v)::r) |⟨d,_::_,_,v⟩=>k ((d,.top)::(d,v)::r)) G
noncomputable def geMK(al:List (Nat×Bool))(m:Env)(G:List GE):(Env->Prop)->Prop:=
 List.rec (motive:=λ_=>(Env->Prop)->Prop) (λk=>k m) (λe _ ih k=>ih λr=>match KY e.ch al with |true=>k ((e.d,e.v)::r) |false=>k ((e.d,.top)::(e.d,e.v)::r)) G
theorem z6z(al:List (Nat×Bool))(m:Env)(G:List GE):∀k,geMK al m G k=k (geM al m G):=by
 induction G with
 |nil=>intro k;rfl
 |cons e r ih=>
  intro k
  show geMK al m r (λr=>match KY e.ch al with |true=>k ((e.d,e.v)::r) |false=>k ((e.d,.top)::(e.d,e.v)::r))=_
  grind[geM]
noncomputable def IZ(ops:Array Oper)(Q:List Rec->Env->Heap->Prop)(QP:Nat->AV->Heap->List Rec->Prop)(l:List Oper):List Rec->List GE->Env->Heap->Prop:=
 List.rec (motive:=λ_=>List Rec->List GE->Env->Heap->Prop) (λtr G m K=>flatG m G λenv=>Q tr.reverse env K)
  (λo rest ih tr G m K=>match guardOf ops G m o with
   |none=>False
   | some (ch,g)=>match(match o.op with
     | .pick c x y=>match ev T (geM ch m G) o.type c with
      | .data (.val (.bool cv))=>F5 cv (ev T (geM (OX c ch true) m G) o.type x) (ev T (geM (OX c ch false) m G) o.type y)
      |_=>none
     |_=>match fZ (geM ch m G) (tmpsOf o.op.operands.toList)with |true=>z6y T (geM ch m G) K o |false=>none)with
    |some v=>fc v λv=>KZ o.dst ch g v G m λG' m'=>ih (⟨o,geM ch m G,v,K,K,true⟩::tr) G' m' K
    |none=>match fZ (geM ch m G) (tmpsOf o.op.operands.toList)with
     |false=>False
     |true=>match ch with
      | []=>match(match G with | []=>false |_=>dZ o)with
       |true=>vOp T A B (geM [] m G) K o (λv K'=>K'=K/\fc v λv=>KZ o.dst [] true v G m λG' m'=>ih (⟨o,geM [] m G,v,K,K,true⟩::tr) G' m' K) (λ_ _=>False)
       |false=>vOp T A B (geM [] m G) K o (λv K'=>fc v λv=>fcK o K' λK'=>flatM m G λm'=>FZ o.dst v m' λm'=>ih (⟨o,geM [] m G,v,K,K',true⟩::tr) [] m' K') (λp K'=>Ll (kT T A B tr.length (QP tr.length p K') rest ((wS ops.toList []).drop (tr.length+1)) (⟨o,geM [] m G,.data (.val undef),K,K',true⟩::tr) (Env.set (geM [] m G) o.dst (.data (.val undef))) K'))
      |ch=>match dZ o with
       |true=>dZ o=true/\∃v,(g=true->vOp T A B (geM ch m G) K o (λv' K'=>v'=v/\K'=K) (λ_ _=>False))/\KZ o.dst ch g v G m λG' m'=>ih (⟨o,geM ch m G,v,K,K,true⟩::tr) G' m' K
       |false=>kz g (vOp T A B (geM ch m G) K o (λv K'=>fc v λv=>fcK o K' λK'=>geMK ch m G λm'=>FZ o.dst v m' λm'=>ih (⟨o,geM ch m G,v,K,K',true⟩::tr) [] m' K') (λ_ _=>False))) l
structure Loop where
 S:Type
 ev:S->Env
 hv:S->Heap
 keep:List Nat
 I:S->Prop
 μ:S->Nat
structure zcn where
 cuts:List Nat
 cutB:List Nat
@[irreducible] def au (_:Nat) (p:Prop):Prop:=p
theorem au.mk(i:Nat){p:Prop}(h:p):au i p:=by grind[au]
theorem au.out{i:Nat}{p:Prop}(h:au i p):p:=by grind[au]
@[irreducible] def I4 (K:Heap) (p:Heap->Prop):Prop:=p K\/∃g id,(∃cs,K.get id=some (.cells cs))/\∀b,p ((g,.adr id b)::K)
theorem I4.l{K:Heap}{p:Heap->Prop}(h:p K):I4 K p:=by grind[I4]
theorem I4.adr(g id:Nat){K:Heap}{p:Heap->Prop}(hc:(match K.get id with |some (.cells _)=>true |_=>false)=true)(h:∀b,p ((g,.adr id b)::K)):I4 K p:=by
 unfold I4
 refine .inr ⟨g,id,?_,h⟩
 grind
theorem I4.out{K:Heap}{p:Heap->Prop}(h:I4 K p):p K\/∃g id,(∃cs,K.get id=some (.cells cs))/\∀b,p ((g,.adr id b)::K):=by unfold I4 at h;exact h
def zi5:Code->Option Nat
 | .region id _ _=>some id
 | .seq a _=>zi5 a
 |_=>none
def zdh:Code->Option Nat
 | .block id _=>some id
 | .seq a _=>zdh a
 |_=>none
def zcn.cut(An:zcn)(b:Code):Option Nat:=match zi5 b with
 |some i=>(match nU An.cuts i with |true=>some i |false=>none)
 |none=>match zdh b with
  |some i=>(match nU An.cutB i with |true=>some i |false=>none)
  |none=>none
noncomputable def keepE(env r:Env)(ks:List Nat):(Env->Prop)->Prop:=
 List.rec (motive:=λ_=>(Env->Prop)->Prop) (λk=>k r) (λj _ ih k=>ih λr=>fc (env.get j) λv=>k ((j,v)::r)) ks
noncomputable def Zd(ids:List Nat)(r:Heap)(K:Heap):(Heap->Prop)->Prop:=
 List.rec (motive:=λ_=>(Heap->Prop)->Prop) (λk=>k r) (λp _ ih k=>match p with |(i,b)=>match nU ids i with |true=>ih λr=>k ((i,b)::r) |false=>ih k) K
def Vm:Env->List Nat
 | []=>[]
 |(_,v)::r=>v.ids++Vm r
noncomputable def Loop.enter(L:Loop)(env:Env)(K:Heap)(s:L.S)(k:Env->Heap->Prop):Prop:=
 keepE env (L.ev s) L.keep λe=>Zd (minus (reach (L.hv s++K) 1000 (Vm e) []) (keys (L.hv s))) (L.hv s) K λh=>k e h
def leV(e:Env)(K Z:Heap)(a b:AV):Prop:=match b with
 | .gs id s' es=>(match a with
  | .nilsl s=>s=s'/\es = []/\K.get id=none/\bI id=false/\fU id e=false/\pK id K=false
  |a=>a = .gs id s' es)
 | .data (.sl sz' r)=>(match a with
  | .own id vr sz off len=>sz=sz'/\bI id=false/\Z.get id=none/\match K.get id with
   |some (.arr vr' sz2 es)=>(vr=vr'/\sz2=sz)/\off+len<=es.length/\r=(es.drop off).take len
   |_=>False
  | .nilsl s=>s=sz'/\r = []
  | .gs _ s es=>s=sz'/\r=es
  |a=>a = .data (.sl sz' r))
 | .data (.ptr ds)=>(match a with
  | .ptr id off=>bI id=false/\Z.get id=none/\match K.get id with
   |some (.cells cs)=>match AV.allD (cs.drop off)with
    |some ds'=>ds=ds'/\ds'.all D.scalar=true
    |none=>False
   |_=>False
  |a=>a = .data (.ptr ds))
 | .data (.val v)=>(match a with
  | .ptr id off=>match z6a K id,K.get id with
   |some b,some (.cells _)=>v = .pointer (some ⟨b,off,none⟩)
   |_,_=>False
  |a=>a = .data (.val v))
 | .ptr id off=>(match a with
  | .data (.val v)=>match z6a K id with
   |some b=>v = .pointer (some ⟨b,off,none⟩)
   |none=>False
  |a=>a = .ptr id off)
 | .fn g cs=>(match a with
  | .data (.fn f ds)=>f=g/\leP K ds cs
  |a=>a = .fn g cs)
 | .own id vr sz off len=>(match a with
  | .nilsl s=>s=sz/\off=0/\len=0/\K.get id=none/\bI id=false/\fU id e=false/\pK id K=false/\(match Z.get id with |some (.arr vr' _ _)=>vr=vr' |_=>False)
  |a=>a = .own id vr sz off len)
 |b=>a=b
noncomputable def leE(e:Env)(K Z:Heap)(l:Env):Prop:=
 List.rec (motive:=λ_=>Prop) True (λp _ ih=>match p with |(j,v)=>(fc (e.get j) λa=>leV e K Z a v)/\ih) l
noncomputable def leC(e:Env)(K Z:Heap)(ys:List AV):List AV->Prop:=
 List.rec (motive:=λ_=>List AV->Prop) (λxs=>xs = []) (λy _ ih xs=>match xs with | []=>False |x::xs=>(fc x λa=>leV e K Z a y)/\ih xs) ys
def leB(e:Env)(K Z:Heap)(b' b:Block):Prop:=match b with
 | .cells ys=>(match b' with | .cells xs=>leC e K Z ys xs |_=>False)
 |b=>b'=b
noncomputable def leH(env:Env)(K Z:Heap)(l:Heap):Prop:=
 List.rec (motive:=λ_=>Prop) True (λp _ ih=>match p with |(i,b)=>(match K.get i with
  |some b'=>leB env K Z b' b
  |none=>b.isTok0=true/\bI i=false/\fU i env=false/\pK i K=false)/\ih) l
def AX(env:Env)(K:Heap)(env':Env)(K':Heap):Prop:=leE env K K' env'/\leH env K K' K'/\env'.get gq=env.get gq
inductive RK where
 |ret
 |exit (id:Nat)
 |pan (d:D)
def RK.code:RK->Code | .exit id=>.exit id |_=>.ret
def RK.out:Option RK->Out |none=>.normal |some .ret=>.ret |some (.exit id)=>.exit id |some (.pan d)=>.panic (.data d)
def RK.yo:Option RK->gG |none=>.ret (.b true) |some (.pan d)=>.pan (.data d) |some _=>.ret (.b false)
def iJ:List Nat->List D->Env->Env
 |p::ps,x::xs,e=>iJ ps xs ((p,.data x)::e)
 |_,_,e=>e
def OY(k:Env->Heap->Prop):Post:=λo e K=>o = .normal/\k e K
def zht(K:Heap):Heap->Prop
 | []=>True
 |(i,b)::r=>K.get i=some b/\zht K r
theorem OZ{K:Heap}:∀{H:Heap},zht K H->∀id b,H.get id=some b->K.get id=some b
 | [],_,id,b,h=>by simp[Heap.get]at h
 |(i,c)::r,h,id,b,hg=>by
  rw[Heap.get_cons]at hg
  split at hg
  ·rename_i e;subst e
   simp at hg;subst hg;exact h.1
  ·exact OZ h.2 id b hg
def O0(k:Option RK)(H':Heap):Post:=λo e K=>o=RK.out k/\match k with
 |some (.pan _)=>e.get gq = .top/\zht K H'
 |_=>AX e K [] H'
structure kZ where
 e1:Env
 K1:Heap
 τ:List (Nat×Nat)
 e0:Env
 H:Nat->Heap
 n:Nat
 xs:Nat->List D
 y:Nat
 last:Option (RK×Heap)
def kZ.kind(R:kZ):Option RK:=match R.last with |none=>none |some (k,_)=>some k
def kZ.fo(R:kZ)(v:AV):gG:=match R.last with |some (.pan d,_)=>.pan (.data d) |_=>.ret v
def kZ.He(R:kZ):Heap:=match R.last with |none=>R.H R.n |some (_,h)=>h
def kZ.rp(R:kZ)(Rf:Nat->RP)(Re:RP):RP:=match R.last with |none=>Rf R.n |some _=>Re
def zdi:AV->Option (FuncId×List AV)
 | .fn f cs=>some (f,cs)
 | .data (.fn f ds)=>some (f,ds.map .data)
 |_=>none
def O1(τ:List (Nat×Nat))(e1:Env):Env->Prop
 | []=>True
 |(j,v)::r=>v.ren τ=e1.get j/\O1 τ e1 r
structure RN(R:kZ)(g:Operand)(ps:List Nat)(ra:List D->Heap->Option RK->Heap->Prop)(Q:Post)(env:Env)(K:Heap):Prop where
 weak:AX env K R.e1 R.K1
 names:(pO (aO R.τ (keys (R.H 0)))&&(kX (keys (R.H 0))&&(kD R.e1 R.K1 [R.y]&&(allIn (keys (R.H 0)) (keys R.He)&&(allIn (keys R.He) (keys (R.H 0))&&allIn (keys (R.H 0)) (Ui R.He))))))=true
 df:R.e0.get gq = .top
 env0:O1 R.τ R.e1 R.e0
 heap0:Heap.sub R.τ R.K1 (R.H 0)
 round:∀i,i<R.n->(R.xs i).length=ps.length/\allIn (keys (R.H 0)) (keys (R.H (i+1)))=true/\ra (R.xs i) (R.H i) none (R.H (i+1))
 lst:∀k h,R.last=some (k,h)->(R.xs R.n).length=ps.length/\ra (R.xs R.n) (R.H R.n) (some k) h
 it:∃f caps,zdi (ev T R.e1 0 g)=some (f,caps)/\Nat.beq f yx=false/\∀(Rf:Nat->RP) (Re:RP),
  (∀i,i<R.n->B yx (.yld 1000000::(R.xs i).map .data) [(1000000,.rnd (Rf i))] (.ret (.b true)) [(1000000,.rnd (Rf (i+1)))]) ->
  (R.last≠none->B yx (.yld 1000000::(R.xs R.n).map .data) [(1000000,.rnd (Rf R.n))] (RK.yo R.kind) [(1000000,.rnd Re)]) ->
  ∃(yl:Nat) (cs0:List AV) (J0:Heap) (v:AV) (J1:Heap) (ρ:List (Nat×Nat)),
   B f (.yld yl::cs0) ((yl,.rnd (Rf 0))::J0) (R.fo v) ((yl,.rnd (R.rp Rf Re))::J1)/\AV.ren.go ρ (.yld yl::cs0) = .yld R.y::caps/\Heap.sub ρ R.K1 J0 /\
   bV ρ ((yl,.rnd (Rf 0))::J0) ((yl,.rnd (Rf 0))::J1) (R.fo v).av R.e1 ((R.y,.rnd (Rf 0))::R.K1) (R.y::aO ρ (keys J0))=true/\(!nU (Ui J1) yl && !meet (aO ρ (keys J0)) (aO R.τ (keys (R.H 0))))=true /\
   Q (RK.out R.kind) R.e1 (ku R.τ R.He (ku ρ J1 (R.K1.put R.y (.tok 0 0))))
theorem RN.mono{T:Tbl}{B:FuncId->List AV->Heap->gG->Heap->Prop}{R:kZ}{g:Operand}{ps:List Nat}{ra ra':List D->Heap->Option RK->Heap->Prop}{Q:Post}{env:Env}{K:Heap}(h:RN T B R g ps ra Q env K)
  (hr:∀xs H k H',ra xs H k H'->ra' xs H k H'):RN T B R g ps ra' Q env K:=
 ⟨h.weak,h.names,h.df,h.env0,h.heap0,λi hi=>⟨(h.round i hi).1,(h.round i hi).2.1,hr _ _ _ _ (h.round i hi).2.2⟩,λk he hl=>⟨(h.lst k he hl).1,hr _ _ _ _ (h.lst k he hl).2⟩,h.it⟩
@[irreducible] def lg (_:Nat) (p:Prop):Prop:=p
theorem lg.mk(i:Nat){p:Prop}(h:p):lg i p:=by grind[lg]
theorem lg.out{i:Nat}{p:Prop}(h:lg i p):p:=by grind[lg]
noncomputable def wc(An:zcn)(c:Code):Nat->Post->Env->Heap->Prop:=
 Code.rec (motive:=λ_=>Nat->Post->Env->Heap->Prop)
  (λ_ Q env K=>Q .normal env K)
  (λ_ ops draw _ Q env K=>match draw with
   |false=>La T A B ops (Q .normal) (λenv v K=>Q (.panic v) env K) ops.toList [] env K
   |true=>IZ T A B ops (λtr env' K'=>QZ T ops env K tr/\Q .normal env' K') (λkp p K2 tr=>Ou T ops env K tr kp/\ik T (z2z T kp 0 tr) kp 0 tr=true/\Q (.panic p) (sZ ops.toList env) (tq (z2z T kp 0 tr) K2)) ops.toList [] [] env K)
  (λ_ b iha ihb _ Q env K=>match An.cut b with
   |none=>iha 0 (Post.then (λenv K=>ihb 0 Q env K) Q) env K
   |some i=>au i (∃L:Loop,iha 0 (Post.then (λenv' K'=>I4 K' λK'=>∃s,L.I s/\L.enter env K s (AX env' K')) Q) env K/\∀s,L.I s->L.enter env K s λenv K=>ihb 0 Q env K))
  (λc _ _ iha ihb _ Q env K=>match ev T env 0 c with
   | .data (.val (.bool t))=>BrI t (Vk c true env λenv=>iha 0 Q env K) (Vk c false env λenv=>ihb 0 Q env K)
   |_=>False)
  (λid _ ih _ Q env K=>ih id (Post.block id Q) env K)
  (λ_ ih lb Q env K=>au lb (∃L:Loop,(∃s,L.I s/\L.enter env K s (AX env K)) /\
     ∀s,L.I s->L.enter env K s λenv0 K0=>ih 0 (Post.then (λenv' K'=>∃s',L.I s'/\L.μ s' < L.μ s/\L.enter env K s' (AX env' K')) Q) env0 K0))
  (λg ps a b iha ihb _ Q env K=>match ps.toList with
   | []=>False
   |p::r=>lg p ((qg a&&qg b)=true/\∃R:kZ,RN T B R g (p::r) (λxs H k H'=>iha 0 (OY λe K=>ihb 0 (O0 k H') e K) (iJ (p::r) xs R.e0) H) Q env K))
  (λid _ Q env K=>Q (.exit id) env K)
  (λ_ _ _ _ _ _=>False)
  (λ_ _ _ _ _=>False)
  (λ_ _ _ _ _=>False)
  (λ_ Q env K=>Q .ret env K)
  (λ_ _ _ _ _=>False) c
end
theorem zdj{c:Bool}{p q:Prop}:BrI c p q=Br c p q:=by
 refine propext ⟨BrI.elim,λh=>?_⟩
 unfold Br at h
 grind[BrI.intro]
theorem F7(m:Env)(G:List GE):∀k,flatG m G k=k (kw [] m G):=by
 induction G with
 |nil=>intro k;rfl
 |cons e r ih=>
  intro k
  show flatG m r _=_
  grind[kw,KY,z3m]
theorem Ze(m:Env)(G:List GE):∀k,flatM m G k=k (geM [] m G):=by
 induction G with
 |nil=>intro k;rfl
 |cons e r ih=>
  intro k
  show flatM m r _=_
  grind[geM,KY,z3m]
def Zf(env r:Env):List Nat->Env
 | []=>r
 |j::ks=>(j,env.get j)::Zf env r ks
theorem Zg(env r:Env)(ks:List Nat):∀k,keepE env r ks k=k (Zf env r ks):=by
 induction ks with
 |nil=>intro k;rfl
 |cons j ks ih=>
  intro k
  show keepE env r ks _=_
  grind[vH,Zf]
def I5(ids:List Nat)(r:Heap):Heap->Heap
 | []=>r
 |(i,b)::K=>match nU ids i with |true=>(i,b)::I5 ids r K |false=>I5 ids r K
theorem Zh(ids:List Nat)(r K:Heap):∀k,Zd ids r K k=k (I5 ids r K):=by
 induction K with
 |nil=>intro k;rfl
 |cons p K ih=>
  obtain⟨i,b⟩:=p
  intro k
  show(match nU ids i with |true=>Zd ids r K (λr=>k ((i,b)::r)) |false=>Zd ids r K k)=_
  grind[I5]
def Loop.mkE(L:Loop)(env:Env)(s:L.S):Env:=Zf env (L.ev s) L.keep
def Loop.mkH(L:Loop)(env:Env)(K:Heap)(s:L.S):Heap:=I5 (minus (reach (L.hv s++K) 1000 (Vm (L.mkE env s)) []) (keys (L.hv s))) (L.hv s) K
theorem vI(L:Loop)(env:Env)(K:Heap)(s:L.S)(k:Env->Heap->Prop):L.enter env K s k=k (L.mkE env s) (L.mkH env K s):=by
 unfold Loop.enter
 rw[Zg,Zh];rfl
theorem z3o{e:Env}{K Z:Heap}{a b:AV}:leV e K Z a b=AV.le e K Z a b:=by
 unfold leV AV.le
 cases b with
 |data d=>cases d<;>cases a<;>first |rfl |simp
 |_=>cases a<;>first |rfl |(rename_i x;cases x<;>rfl)
theorem z7a(e:Env)(K Z:Heap)(l:Env):leE e K Z l=Env.le e K Z l:=by
 induction l with
 |nil=>rfl
 |cons p r ih=>obtain⟨j,v⟩:=p;show((fc (e.get j) λa=>leV e K Z a v)/\leE e K Z r)=_;rw[ih,vH,z3o];rfl
theorem z7b(e:Env)(K Z:Heap)(ys:List AV):∀xs,leC e K Z ys xs=zY e K Z ys xs:=by
 induction ys with
 |nil=>intro xs;rfl
 |cons y ys ih=>
  intro xs
  cases xs with
  |nil=>rfl
  |cons x xs=>show((fc x λa=>leV e K Z a y)/\leC e K Z ys xs)=_;rw[ih,vH,z3o];rfl
theorem z7c(e:Env)(K Z:Heap)(b' b:Block):leB e K Z b' b=Block.le e K Z b' b:=by
 unfold leB Block.le
 grind[z7b]
theorem z7d(e:Env)(K Z:Heap)(l:Heap):leH e K Z l=Heap.le e K Z l:=by
 induction l with
 |nil=>rfl
 |cons p r ih=>
  obtain⟨j,v⟩:=p
  show((match K.get j with
   |some b'=>leB e K Z b' v
   |none=>v.isTok0=true/\bI j=false/\fU j e=false/\pK j K=false)/\leH e K Z r)=_
  rw[ih];simp[z7c];rfl
theorem qQ{env:Env}{K:Heap}{env':Env}{K':Heap}:AX env K env' K'=z6b env K env' K':=by
 unfold AX z6b;rw[z7a,z7d]
section
variable {T : Tbl} {A : FuncId → List D → lY → Prop} {B : FuncId → List AV → Heap → gG → Heap → Prop}
theorem z7e{op:BinOp}{x y v:AV}{K:Heap}{next:Next}(h:zhs op x y=some v)(hn:next v K):z2y op x y K next:=by
 unfold zhs at h
 grind[z2y]
theorem Vo{env:Env}{K:Heap}{o:Oper}{v:AV}{next pan:Next}(h:z6y T env K o=some v)(hp:∀c x y,o.op ≠ .pick c x y)(hn:next v K):vOp T A B env K o next pan:=by
 unfold z6y at h
 unfold vOp
 split at h
 ·simp_all
 ·simp_all
 ·simp_all
 ·rename_i t x ho;unfold zdg at h
  grind[jM,id,Option.some.injEq]
 ·unfold z3l at h
  unfold zM
  grind
 ·unfold Vl at h
  unfold sS
  split at h<;>grind
 ·grind[z7e]
 ·grind[vUn,Option.some.injEq]
 ·grind
 ·rename_i c ho;simp only[ho]
  split at h
  ·split at h
   ·unfold zi4 at h
    unfold z5v
    grind
   ·simp at h
  ·simp_all
  ·simp_all
  ·simp at h
 ·simp at h
end
end Go.Fw
namespace Go.Fw
variable [ae] {m : Env} {d : Nat} {G : List GE}
def Lc(g:Bool)(v:AV):AV:=match g with |true=>v |false=>.data (.val undef)
def sem(m:Env):List GE->Env
 | []=>m
 |e::r=>(e.d,Lc e.g e.v)::sem m r
def chB(E:Env):List (Nat×Bool)->Bool
 | []=>true
 |(d,b)::r=>(match E.get d with | .data (.val (.bool c))=>c==b |_=>false)&&chB E r
def GOk(m:Env):List GE->Prop
 | []=>True
 |e::r=>e.g=chB (sem m r) e.ch/\Ia e.d e.ch=false/\F6 e.d r=true/\e.d≠gq/\GOk m r
theorem zn{v:AV}{E:Env}:∀{ch:List (Nat×Bool)},Ia d ch=false->chB ((d,v)::E) ch=chB E ch:=by
 intro ch
 induction ch with
 |nil=>intro _;rfl
 |cons p r ih=>
  intro h
  simp[Ia]at h
  simp[chB,ih h.2,Env.get_cons]
  rw[if_neg (λx=>by simp_all)]
theorem z7f{E:Env}{b:Bool}:∀{al:List (Nat×Bool)},z3m d b al=true->chB E al=true->(match E.get d with | .data (.val (.bool c))=>c==b |_=>false)=true:=by
 intro al
 induction al with
 |nil=>grind[z3m]
 |cons p r ih=>
  intro h h2
  simp[z3m]at h
  simp[chB]at h2
  grind[Nat.eq_of_beq_eq_true]
theorem z7g{E:Env}{al:List (Nat×Bool)}:∀{ch:List (Nat×Bool)},KY ch al=true->chB E al=true->chB E ch=true:=by
 intro ch
 induction ch with
 |nil=>intro _ _;rfl
 |cons p r ih=>
  intro h h2
  simp[KY]at h
  simp[chB]
  grind[z7f]
theorem I7:∀{G:List GE},F6 d G=true->∀e∈G,Ia d e.ch=false:=by
 intro G
 induction G with
 |nil=>simp
 |cons x r ih=>
  intro h e he
  simp[F6]at h
  grind
theorem geAt_sem'{al:List (Nat×Bool)}:∀{G:List GE},GOk m G->(∀e∈G,KY e.ch al=true->chB (sem m G) e.ch=true)->∀j,(kw al m G).get j = .top\/(kw al m G).get j=(sem m G).get j:=by
 intro G
 induction G with
 |nil=>intro _ _ j;right;rfl
 |cons e r ih=>
  intro hG H j
  obtain⟨h1,h2,h3,h4,h5⟩:=hG
  have Hr:∀e'∈r,KY e'.ch al=true->chB (sem m r) e'.ch=true:=λe' he' hs=>by
   grind[sem,zn,I7]
  grind[kw,sem,zn,Env.get_cons,Lc]
theorem jH{al:List (Nat×Bool)}(h:GOk m G)(hal:chB (sem m G) al=true)(j:Nat):(kw al m G).get j = .top\/(kw al m G).get j=(sem m G).get j:=
 geAt_sem' h (λ_ _ hs=>z7g hs hal) j
theorem mW{al:List (Nat×Bool)}:∀{G:List GE},GOk m G->(kw al m G).get gq=(sem m G).get gq:=by
 intro G
 induction G with
 |nil=>intro _;rfl
 |cons e r ih=>
  intro h
  simp[kw,sem]
  split<;>rw[Env.get_cons,Env.get_cons,if_neg h.2.2.2.1,if_neg h.2.2.2.1,ih h.2.2.2.2]
theorem z7h{al:List (Nat×Bool)}{p:Nat×Bool}{j:Nat}{x:AV}(hx:x ≠ .top):∀{G:List GE},(kw al m G).get j=x->(kw (p::al) m G).get j=x:=by
 have sub:∀{ch:List (Nat×Bool)},KY ch al=true->KY ch (p::al)=true:=by
  intro ch
  induction ch with
  |nil=>intro _;rfl
  |cons q r ih=>
   intro h
   simp[KY]at h ⊢
   exact⟨by simp[z3m,h.1],ih h.2⟩
 intro G
 induction G with
 |nil=>exact id
 |cons e r ih=>
  intro h
  simp[kw]at h ⊢
  split at h
  ·rename_i hs
   rw[sub hs]
   simp[Env.get_cons]at h ⊢
   grind
  ·simp[Env.get_cons]at h
   split at h<;>rename_i hd
   ·simp_all
   ·split<;>(simp[Env.get_cons];simp_all)
theorem O3{e:GE}:∀{G:List GE},MF d G=some e->GOk m G->(sem m G).get d=Lc e.g e.v/\chB (sem m G) e.ch=e.g/\e∈G:=by
 intro G
 induction G with
 |nil=>grind[MF]
 |cons x r ih=>
  intro h hG
  obtain⟨h1,h2,h3,h4,h5⟩:=hG
  simp[MF]at h
  split at h
  ·rename_i hd
   simp at h;subst h
   refine⟨?_,?_,by simp⟩
   ·simp[sem,Env.get_cons,Nat.eq_of_beq_eq_true hd,if_true]
   grind[sem,zn]
  ·have hd:x.d≠d:=λe=>by simp_all
   obtain⟨q1,q2,q3⟩:=ih h h5
   refine⟨?_,?_,by simp[q3]⟩
   ·simp[sem,Env.get_cons,if_neg hd,q1]
   grind[sem,zn,I7]
theorem O4:∀{G:List GE},MF d G=none->(sem m G).get d=m.get d:=by
 intro G
 induction G with
 |nil=>intro _;rfl
 |cons x r ih=>
  intro h
  simp[MF]at h
  split at h
  ·simp at h
  ·have hd:x.d≠d:=λe=>by simp_all
   simp[sem,Env.get_cons,if_neg hd,ih h]
theorem St.view[Lo]{N:aS}{M:Mem}{n:Nat}{env env':Env}{K:Heap}{a:Act}{w:World}(s:St N M n env K a w)(h:∀j,env'.get j = .top\/env'.get j=env.get j)(hd:env'.get gq=env.get gq):St N M n env' K a w:=
 ⟨s.size,s.big,by rw[hd];exact s.defers,λj=>by
  rcases h j with h |h<;>rw[h]
  ·exact .top _
  ·exact s.env j,s.heap,s.mem⟩
theorem zdk{c w:Bool}:(c==w)=mV c w:=by cases c<;>cases w<;>rfl
theorem RQ[Lo]{ops:Array Oper}{G:List GE}{m:Env}{o:Oper}{ch:List (Nat×Bool)}{g:Bool}{N:aS}{M:Mem}{n:Nat}{K:Heap}{a:Act}{w:World}
  (h:guardOf ops G m o=some (ch,g)) (hG:GOk m G) (s:St N M n (sem m G) K a w):chB (sem m G) ch=g/\(Region.wanted o (yielded ops a.tmps)=g):=by
 unfold guardOf at h
 split at h
 ·rename_i hg
  obtain⟨rfl,rfl⟩:=h
  exact⟨rfl,by simp[Region.wanted,hg]⟩
 ·rename_i j want hg
  split at h<;>try(simp at h)
  rename_i d hd
  split at h
  ·rename_i e he
   obtain⟨q1,q2,q3⟩:=O3 he hG
   split at h<;>try(simp at h)
   rename_i c hc
   have key:chB (sem m G) ((d,want)::e.ch)=(e.g&&mV c want)/\Region.wanted o (yielded ops a.tmps)=(e.g&&mV c want):=by
    cases hb:e.g with
    |true=>
     rw[hb,hc]at q1;simp[Lc]at q1
     rw[hb]at q2
     refine⟨?_,?_⟩<;>try(simp only[chB,q1,q2,Bool.and_true,Bool.true_and,zdk];done)
     have hy:=qh s hd q1
     simp[Region.wanted,hg,hy]
     cases c<;>cases want<;>rfl
    |false=>
     rw[hb]at q1;rw[hb]at q2
     refine⟨?_,?_⟩
     ·simp[chB,q2]
     ·have hy:=ve s hd q1
      simp only[Region.wanted,hg,hy]
      rfl
   split at h
   ·rename_i hch
    rw[hch]at q2 key
    have:e.g=true:=q2.symm
    simp_all
   simp_all
  ·rename_i he
   have q1:=O4 (m:=m) he
   split at h<;>try(simp at h)
   rename_i c hc
   obtain⟨rfl,rfl⟩:=h
   rw[hc]at q1
   refine⟨?_,?_⟩
   ·simp only[chB,q1,Bool.and_true,zdk]
   ·have hy:=qh s hd q1
    simp only[Region.wanted,hg,hy]
    cases c<;>cases want<;>rfl
end Go.Fw
namespace Go.Fw
variable [ae]
section
variable {P : Program} {T : Tbl} (hT : iQ P T)
include hT
theorem zo[Lo]{o:Oper}{E:Env}{K:Heap}{next pan:Next}{N:aS}{M0 M:Mem}{w0 w:World}{n:Nat}{a:Act}{R:Act->World->Prop}{Q':Exit->Act->World->Prop}
  (h:vOp T (PCall P) (ak P) E K o next pan) (s:St N M n E K a w) (e:Evo M0 w0 M w) (hd:∀d,o.dst=some d->d<n)
  (hN:∀r val M' K' w',next r K'->St N M' n (E.set o.dst r) K' (a.put o.dst val) w'->Evo M0 w0 M' w'->R (a.put o.dst val) w')
  (hP:∀r K' M' w' v,pan r K'->St N M' n E K' a w'->Evo M0 w0 M' w'->aF N M' w' r v->Q' (.panic [{ v,recovered:=false }]) a w'):Oper.wq P o a w R Q':=by
 obtain⟨pn,r,W,nw,Δ,hn,ok⟩:=Iy hT h
 refine ok.eff N M a w s.mem (λj _=>s.env j) (λid _=>s.heap id) _ Q' λv M' w' hs htr hr hδ=>?_
 have e':=e.step hs htr λd hd=>(ok.fresh d hd).1
 cases pn with
 |false=>exact hN r v M' _ w' hn ((s.turn hs htr ok.fresh hδ ok.dom).put hd hr) e'
 |true=>exact hP r _ M' w' v hn (s.turn hs htr ok.fresh hδ ok.dom) e' hr
theorem AY[Lo]{o:Oper}{E S:Env}{K:Heap}{next pan:Next}{N:aS}{M0 M:Mem}{w0 w:World}{n:Nat}{a:Act}{R:Act->World->Prop}{Q':Exit->Act->World->Prop}
  (h:vOp T (PCall P) (ak P) E K o next pan) (hp:dZ o=true) (hK:∀r K',next r K'->K'=K) (sE:St N M n E K a w) (s:St N M n S K a w) (e:Evo M0 w0 M w) (hd:∀d,o.dst=some d->d<n)
  (hN:∀r val M' w',next r K->St N M' n (S.set o.dst r) K (a.put o.dst val) w'->Evo M0 w0 M' w'->R (a.put o.dst val) w')
  (hP:∀r K' M' w' v,pan r K'->St N M' n E K' a w'->Evo M0 w0 M' w'->aF N M' w' r v->Q' (.panic [{ v,recovered:=false }]) a w'):Oper.wq P o a w R Q':=by
 obtain⟨pn,r,W,nw,Δ,hn,ok⟩:=Iy hT h
 refine ok.eff N M a w s.mem (λj _=>sE.env j) (λid _=>s.heap id) _ Q' λv M' w' hs htr hr hδ=>?_
 have e':=e.step hs htr λd hd=>(ok.fresh d hd).1
 cases pn with
 |false=>
  have hKK:=hK _ _ hn
  rw[hKK]at hn
  have hnw:∀d∈nw,False:=λd hdn=>by
   have:=ok.nids d hdn
   grind[fV,dZ,je]
  have ht:=s.turn hs htr (λd hd=>(hnw d hd).elim) hδ ok.dom
  rw[hKK]at ht
  exact hN r v M' w' hn (ht.put hd hr) e'
 |true=>exact hP r _ M' w' v hn (sE.turn hs htr ok.fresh hδ ok.dom) e' hr
omit hT in
theorem zdl{P:Program}{w:World}{t e:TypeId}(h:P.underlying t=some (.slice e))(a:Option Addr)(n c:Nat):(Op.equal t (.slice a n c) (.slice none 0 0)).run P w = .ok a.isNone w:=by
 have:∀k,(Op.equalIn (k+1) t (.slice a n c) (.slice none 0 0)).run P w = .ok a.isNone w:=λk=>by
  cases a<;>(simp only[Op.equalIn,Sem.run_bind,run_underlying h,Result.andThen_ok];rfl)
 exact this 9999
theorem Zi[Lo]{o:Oper}{m:Env}{op:BinOp}{kn:Bool}{k:Nat}{K:Heap}{N:aS}{M:Mem}{w:World}{n:Nat}{a:Act}{R:Act->World->Prop}{Q':Exit->Act->World->Prop}
  (h:Zc T m o=some (op,kn,k)) (s:St N M n m K a w) (hN:∀b:Bool,(b=true->k=0)->(kn=true->b=true)->R (a.put o.dst (.bool (eqB op b))) w):Oper.wq P o a w R Q':=by
 unfold Zc at h
 split at h<;>try(simp at h;done)
 rename_i op' t x y r ho
 have key:(op' = .eql\/op' = .neq)/\(∃e,(T.at t).ty = .slice e)/\(∃z,ev T m t y = .nilsl z)/\(match ev T m t x with
  | .nilsl _=>some (op',true,0)
  | .data (.sl _ es)=>some (op',false,es.length)
  | .gs _ _ es=>some (op',false,es.length)
  | .own _ _ _ _ _=>some (op',false,0)
  |_=>none)=some (op,kn,k):=by
  grind
 obtain⟨hop,⟨e,hty⟩,⟨z,hy⟩,h⟩:=key
 have hyr:=dW s.mem (T:=T) (env:=m) (a:=a) t y λj _=>s.env j
 have hxr:=dW s.mem (T:=T) (env:=m) (a:=a) t x λj _=>s.env j
 rw[hy]at hyr
 generalize hvy:a.eval y=vy at hyr
 cases hyr
 have run:∀(av:Option Addr) (len cap:Nat),a.eval x = .slice av len cap->(av.isNone=true->k=0)->(kn=true->av.isNone=true)->op'=op->Oper.wq P o a w R Q':=by
  intro av len cap hvx h1 h2 h3
  refine .inl ?_
  have hz:=uZ (P:=P) (w:=w) hop (t:=t) (xo:=x) (yo:=y) (v:=.slice av len cap) (u:=.slice none 0 0) (jB hop (by simp) (by simp)) (by simp) (b:=av.isNone) (zdl (aQ hT hty) av len cap)
  have hrun:(execOp a.eval o).run P w = .ok (.value (.bool (eqB op' av.isNone))) w:=by
   rw[wX ho,hvx,hvy,Sem.run_bind,hz];rfl
  grind[Oper.wp,Oper.upon_value]
 split at h
 ·rename_i hx
  rw[hx]at hxr
  generalize hvx:a.eval x=vx at hxr
  cases hxr
  simp_all
 ·rename_i hx
  rw[hx]at hxr
  generalize hvx:a.eval x=vx at hxr
  cases hxr with
  |data _ _ hd=>
   cases hd with
   |sl0 _ a' cap _=>simp_all
   |sl _ _ b off cap n' g'=>simp_all
 ·rename_i hx
  rw[hx]at hxr
  generalize hvx:a.eval x=vx at hxr
  cases hxr with
  |gs _ _ _ av n' cap hd=>
   cases hd with
   |sl0 _ _ _ _=>simp_all
   |sl _ _ b off cap n' g'=>simp_all
 ·rename_i hx
  rw[hx]at hxr
  generalize hvx:a.eval x=vx at hxr
  cases hxr
  simp_all
 ·simp at h
omit hT in
theorem RS[Lo]{o:Oper}{m:Env}{cs:List AV}{K:Heap}{N:aS}{M0 M:Mem}{w0 w:World}{n:Nat}{a:Act}{R:Act->World->Prop}{Q':Exit->Act->World->Prop}
  (h:wU m o=some cs) (s:St N M n m K a w) (e:Evo M0 w0 M w) (hd:∀d,o.dst=some d->d<n)
  (hN:∀a',St N M n (Env.set ((gq,.dfr cs)::m) o.dst (.data (.val undef))) K a' w->R a' w):Oper.wq P o a w R Q':=by
 unfold wU at h
 split at h
 ·rename_i c ho
  split at h
  ·rename_i j hcal hargs
   split at h
   ·rename_i f caps hj
    simp only[Option.some.injEq]at h
    have hargs:c.args = #[]:=by simpa using hargs
    have hx:=s.env j
    rw[hj]at hx
    generalize hvj:a.tmps.getD j undef=vj at hx
    cases hx with
    |fn _ _ vs hl hh=>
     have hrun:(execOp a.eval o).run P w = .ok (.defer { target:=.fn (.func f) vs,args:=#[] }) w:=by
      have:execOp a.eval o=(do pure (.defer (<-resolve a.eval c o.type))):=by cases o;simp only at ho;subst ho;rfl
      rw[this]
      simp[resolve,hcal,Act.eval,hvj,Deferred.ofValue,hargs]
     refine .inl ?_
     simp only[Oper.wp,hrun,Oper.upon_defer]
     have s2:St N M n ((gq,.dfr cs)::m) K { a with defers:={ target:=.fn (.func f) vs,args:=#[] }::a.defers } w:=by
      refine⟨s.size,s.big,?_,λj=>?_,s.heap,s.mem⟩
      ·rw[Env.get_cons,if_pos rfl,<-h]
       exact s.defers.push ⟨f,caps,vs,rfl,rfl,hl,hh⟩ rfl
      ·rw[Env.get_cons];split
       ·exact .dfr _ _
       ·exact s.env j
     exact hN _ (s2.put hd kW)
   ·simp at h
  ·simp at h
 ·simp at h
end
theorem MG{d:Option Nat}{ch:List (Nat×Bool)}{g:Bool}{v:AV}{G:List GE}{m:Env}{next:List GE->Env->Prop}(h:KZ d ch g v G m next)(hG:GOk m G)(hg:chB (sem m G) ch=g)(hd:∀e,d=some e->e≠gq) :
  ∃G' m',next G' m'/\GOk m' G'/\sem m' G'=Env.set (sem m G) d (Lc g v):=by
 cases d with
 |none=>
  simp[KZ]at h
  split at h
  ·exact⟨G,m,h,hG,rfl⟩
  ·exact h.elim
 |some d=>
  have key:(match !Ia d ch&&F6 d G with |true=>next (⟨d,ch,g,v⟩::G) m |false=>False)->∃G' m',next G' m'/\GOk m' G'/\sem m' G'=Env.set (sem m G) (some d) (Lc g v):=by
   intro h
   cases hf:(!Ia d ch&&F6 d G)with
   |true=>
    rw[hf]at h
    simp at hf
    exact⟨_,m,h,⟨hg.symm,hf.1,hf.2,hd d rfl,hG⟩,rfl⟩
   |false=>simp_all
  cases G with
  |nil=>
   cases ch with
   |nil=>
    have:g=true:=hg.symm
    subst this
    exact⟨[],(d,v)::m,h,trivial,rfl⟩
   |cons p q=>exact key h
  |cons p q=>exact key h
theorem O5{c:Bool}{x y v:AV}(h:F5 c x y=some v):(bif c then x else y)=v:=by
 unfold F5 at h
 grind
abbrev zhu(T:Tbl)(ch:List (Nat×Bool))(m:Env)(G:List GE)(K:Heap)(o:Oper):Option AV:=match o.op with
 | .pick c x y=>match ev T (kw ch m G) o.type c with
  | .data (.val (.bool cv))=>F5 cv (ev T (kw (OX c ch true) m G) o.type x) (ev T (kw (OX c ch false) m G) o.type y)
  |_=>none
 |_=>z6y T (kw ch m G) K o
theorem z7i{T:Tbl}{A:FuncId->List D->lY->Prop}{B:FuncId->List AV->Heap->gG->Heap->Prop}{ch:List (Nat×Bool)}{m:Env}{G:List GE}{K:Heap}{o:Oper}{v:AV}
  (h:zhu T ch m G K o=some v) (hG:GOk m G) (hch:chB (sem m G) ch=true) :
  ∃E,(∀j,E.get j = .top\/E.get j=(sem m G).get j)/\E.get gq=(sem m G).get gq/\vOp T A B E K o (λv' K'=>v'=v/\K'=K) (λ_ _=>False)/\dZ o=true:=by
 unfold zhu at h
 split at h
 ·rename_i c x y ho
  split at h<;>try(simp at h)
  rename_i cv hc
  have hv:=O5 h
  have hcE:∀al',(∀t,c = .tmp t->∃b,al'=(t,b)::ch)->((∀t,c ≠ .tmp t)->al'=ch)->ev T (kw al' m G) o.type c = .data (.val (.bool cv)):=by
   intro al' h1 h2
   cases c with
   |tmp t=>obtain⟨b,rfl⟩:=h1 t rfl;exact z7h (by simp) hc
   |const z=>exact hc
   |func f=>exact hc
   |global f=>exact hc
  have key:chB (sem m G) (OX c ch cv)=true:=by
   cases c with
   |tmp t=>
    have hc:(kw ch m G).get t = .data (.val (.bool cv)):=hc
    rcases jH hG hch t with h3 |h3
    ·simp_all
    ·rw[hc]at h3
     simp[OX,chB,<-h3,hch]
   |_=>exact hch
  refine⟨kw (OX c ch cv) m G,jH hG key,mW hG,?_,by grind[dZ]⟩
  have hcv:=hcE (OX c ch cv) (λt e=>by subst e;exact⟨_,rfl⟩) (λe=>by cases c<;>first |rfl |simp_all)
  unfold vOp
  simp only[ho,hcv]
  cases cv<;>exact⟨hv,trivial⟩
 ·rename_i hnp
  refine⟨kw ch m G,jH hG hch,mW hG,Vo h (λc x y e=>hnp c x y e) ⟨rfl,rfl⟩,?_⟩
  grind[z6y,dZ]
section
variable {T : Tbl} {A : FuncId → List D → lY → Prop} {B : FuncId → List AV → Heap → gG → Heap → Prop}
theorem Zj{ops:Array Oper}{Q:Env->Heap->Prop}{pan:Env->Next}(G:List GE)(m:Env)(K:Heap):La T A B ops Q pan [] G m K=Q (kw [] m G) K:=F7 m G _
theorem Vp{ops:Array Oper}{Q:Env->Heap->Prop}{pan:Env->Next}(o:Oper)(rest:List Oper)(G:List GE)(m:Env)(K:Heap):La T A B ops Q pan (o::rest) G m K=(match guardOf ops G m o with
   |none=>False
   |some (ch,g)=>match zhu T ch m G K o with
    |some v=>fc v λv=>KZ o.dst ch g v G m λG m=>La T A B ops Q pan rest G m K
    |none=>match ch,G with
     | [],[]=>match wU m o with
      |some cs=>La T A B ops Q pan rest [] (Env.set ((gq,.dfr cs)::m) o.dst (.data (.val undef))) K
      |none=>match Zc T m o with
       |some (op,kn,n)=>(match kn with
        |true=>FZ o.dst (kS op true) m λm=>La T A B ops Q pan rest [] m K
        |false=>YF n (FZ o.dst (kS op true) m λm=>La T A B ops Q pan rest [] m K) (FZ o.dst (kS op false) m λm=>La T A B ops Q pan rest [] m K))
       |none=>vOp T A B m K o (λv K=>fc v λv=>fcK o K λK=>FZ o.dst v m λm=>La T A B ops Q pan rest [] m K) (pan m)
     | [],G=>match dZ o with
      |true=>vOp T A B (kw [] m G) K o (λv K'=>K'=K/\fc v λv=>KZ o.dst [] true v G m λG m=>La T A B ops Q pan rest G m K) (pan (kw [] m G))
      |false=>vOp T A B (kw [] m G) K o (λv K=>fc v λv=>fcK o K λK=>flatG m G λm=>FZ o.dst v m λm=>La T A B ops Q pan rest [] m K) (pan (kw [] m G))
     |ch,G=>match dZ o with
      |true=>(dZ o=true/\∃v,(g=true->vOp T A B (kw ch m G) K o (λv' K'=>v'=v/\K'=K) (λ_ _=>False))/\KZ o.dst ch g v G m λG m=>La T A B ops Q pan rest G m K)\/kz g (vOp T A B (kw ch m G) K o (λv K=>fc v λv=>fcK o K λK=>geK ch m G λm=>FZ o.dst v m λm=>La T A B ops Q pan rest [] m K) (pan (kw ch m G)))
      |false=>kz g (vOp T A B (kw ch m G) K o (λv K=>fc v λv=>fcK o K λK=>geK ch m G λm=>FZ o.dst v m λm=>La T A B ops Q pan rest [] m K) (pan (kw ch m G)))):=rfl
end
section
variable {P : Program} {T : Tbl} (hT : iQ P T)
include hT
theorem z7j[Lo]{ρ:Option Nat}{ops:Array Oper}{N:aS}{n:Nat}{Q:Env->Heap->Prop}{pan:Env->Next}{Q':Exit->Act->World->Prop}{M0:Mem}{w0:World}
  (hQ:∀env K M a w,Q env K->St N M n env K a w->Evo M0 w0 M w->Q' .normal a w) (hP:∀x env K M a w,pan env x K->St N M n env K a w->Evo M0 w0 M w->∀v,aF N M w x v->Q' (.panic [{ v,recovered:=false }]) a w) :
  ∀(l:List Oper) (G:List GE) (m:Env) (K:Heap) (M:Mem) (a:Act) (w:World),(∀o∈l,∀d,o.dst=some d->d<n)->(ρ≠none->∀o∈l,∀c,o.op ≠ .defer c)->La T (PCall P) (ak P) ops Q pan l G m K->GOk m G->St N M n (sem m G) K a w->Evo M0 w0 M w->wpL ρ P ops Q' l a w:=by
 intro l
 induction l with
 |nil=>
  intro G m K M a w _ _ h hG s e
  rw[Zj]at h
  exact hQ _ K M a w h (s.view (jH hG rfl) (mW hG)) e
 |cons o rest ih=>
  intro G m K M a w hdst hnd h hG s e
  have hd:∀d,o.dst=some d->d<n:=hdst o (by simp)
  have hdd:∀d,o.dst=some d->d≠gq:=λd h=>Nat.ne_of_lt (Nat.lt_of_lt_of_le (hd d h) s.big)
  have hrest:∀o∈rest,∀d,o.dst=some d->d<n:=λo ho=>hdst o (by simp[ho])
  have hnrest:ρ≠none->∀o∈rest,∀c,o.op ≠ .defer c:=λhr o ho=>hnd hr o (by simp[ho])
  have hno:ρ≠none->∀c,o.op ≠ .defer c:=λhr=>hnd hr o (by simp)
  rw[Vp]at h
  unfold wpL
  split at h<;>try exact h.elim
  rename_i ch g hgo
  obtain⟨hch,hW⟩:=RQ hgo hG s
  rw[hW]
  split at h
  ·rename_i v hv
   rw[vH]at h
   obtain⟨G',m',h',hG',hsem⟩:=MG h hG hch hdd
   cases g with
   |false=>
    rw[if_neg (by simp)]
    refine ih G' m' K M _ w hrest hnrest h' hG' ?_ e
    rw[hsem]
    exact s.put hd kW
   |true=>
    rw[if_pos rfl]
    obtain⟨E,hE,hEd,hvo,hpk⟩:=z7i (A:=PCall P) (B:=ak P) hv hG hch
    refine⟨hno,?_⟩;refine AY hT hvo hpk (λr K' q=>q.2) (s.view hE hEd) s e hd (λr val M' w' q s' e'=>?_) (λr K' M' w' v q=>q.elim)
    refine ih G' m' K M' _ w' hrest hnrest h' hG' ?_ e'
    rw[hsem]
    obtain⟨q,_⟩:=q
    subst q
    exact s'
  ·split at h
   ·have hg:true=g:=hch
    subst hg
    rw[if_pos rfl]
    split at h
    ·rename_i cs hcs
     refine⟨hno,?_⟩;exact RS hcs s e hd λa' s'=>ih [] _ K M a' w hrest hnrest h trivial s' e
    ·split at h
     ·rename_i op kn k hnil
      refine⟨hno,Zi hT hnil s λb hb1 hb2=>?_⟩
      have hst:St N M n (m.set o.dst (kS op b)) K (a.put o.dst (.bool (eqB op b))) w:=s.put hd jg
      cases b with
      |true=>
       have h:La T (PCall P) (ak P) ops Q pan rest [] (m.set o.dst (kS op true)) K:=by
        cases kn with
        |true=>grind[oG]
        |false=>have:=h.out.1 (hb1 rfl);grind[oG]
       exact ih [] _ K M _ w hrest hnrest h trivial hst e
      |false=>
       cases kn with
       |true=>simp_all
       |false=>
        have h:=h.out.2
        rw[oG]at h
        exact ih [] _ K M _ w hrest hnrest h trivial hst e
     ·refine⟨hno,?_⟩;refine zo hT h s e hd (λr val M' K' w' q s' e'=>?_) (λr K' M' w' v q s' e' hv=>hP r _ K' M' a w' q s' e' v hv)
      rw[vH,Ep,oG]at q
      exact ih [] _ K' M' _ w' hrest hnrest q trivial s' e'
   ·have hg:true=g:=hch
    subst hg
    rw[if_pos rfl]
    have sE:=s.view (jH hG (al:=[]) rfl) (mW hG)
    split at h
    ·rename_i hpk
     refine⟨hno,?_⟩;refine AY hT h hpk (λr K' q=>q.1) sE s e hd (λr val M' w' q s' e'=>?_) (λr K' M' w' v q s' e' hv=>hP r _ K' M' a w' q s' e' v hv)
     obtain⟨_,q⟩:=q
     rw[vH]at q
     obtain⟨G',m',h',hG',hsem⟩:=MG q hG rfl hdd
     refine ih G' m' K M' _ w' hrest hnrest h' hG' ?_ e'
     rw[hsem];exact s'
    ·refine⟨hno,?_⟩;refine zo hT h sE e hd (λr val M' K' w' q s' e'=>?_) (λr K' M' w' v q s' e' hv=>hP r _ K' M' a w' q s' e' v hv)
     rw[vH,Ep,F7,oG]at q
     exact ih [] _ K' M' _ w' hrest hnrest q trivial s' e'
   ·split at h
    ·rcases h with⟨hpk,v,hvo,h⟩ |h
     ·obtain⟨G',m',h',hG',hsem⟩:=MG h hG hch hdd
      cases g with
      |false=>
       refine ih G' m' K M _ w hrest hnrest h' hG' ?_ e
       rw[hsem]
       exact s.put hd kW
      |true=>
       rw[if_pos rfl]
       refine⟨hno,?_⟩;refine AY hT (hvo rfl) hpk (λr K' q=>q.2) (s.view (jH hG hch) (mW hG)) s e hd (λr val M' w' q s' e'=>?_) (λr K' M' w' v q=>q.elim)
       refine ih G' m' K M' _ w' hrest hnrest h' hG' ?_ e'
       rw[hsem]
       obtain⟨q,_⟩:=q
       subst q
       exact s'
     ·obtain⟨hg,h2⟩:=h.out
      subst hg
      rw[if_pos rfl]
      have sE:=s.view (jH hG hch) (mW hG)
      refine⟨hno,?_⟩;refine zo hT h2 sE e hd (λr val M' K' w' q s' e'=>?_) (λr K' M' w' v q s' e' hv=>hP r _ K' M' a w' q s' e' v hv)
      rw[vH,Ep,z3n,oG]at q
      exact ih [] _ K' M' _ w' hrest hnrest q trivial s' e'
    ·obtain⟨hg,h2⟩:=h.out
     subst hg
     rw[if_pos rfl]
     have sE:=s.view (jH hG hch) (mW hG)
     refine⟨hno,?_⟩;refine zo hT h2 sE e hd (λr val M' K' w' q s' e'=>?_) (λr K' M' w' v q s' e' hv=>hP r _ K' M' a w' q s' e' v hv)
     rw[vH,Ep,z3n,oG]at q
     exact ih [] _ K' M' _ w' hrest hnrest q trivial s' e'
end
end Go.Fw
namespace Go.Fw
variable [ae] {env env' : Env} {B : FuncId → List AV → Heap → gG → Heap → Prop} {K : Heap}
theorem F8{T:Tbl}{t:TypeId}{x:Operand}(h:∀j,x = .tmp j->env'.get j=env.get j):ev T env' t x=ev T env t x:=by
 cases x with
 |tmp j=>exact h j rfl
 |_=>rfl
theorem eG{id:Nat}{p:Prop}(hm:∀id,fU id env'=true->fU id env=true)(h:fresh id env K p):fresh id env' K p:=by
 grind[fresh]
theorem AZ:∀{l:List Nat},(∀j∈l,env'.get j=env.get j)->ja env' l=ja env l:=by
 intro l
 induction l with
 |nil=>intro _;rfl
 |cons j r ih=>grind[ja]
theorem Es{j:Nat}:∀{l:List Operand},j∈tmpsOf l->Operand.tmp j∈l:=by
 intro l
 induction l with
 |nil=>grind[tmpsOf]
 |cons x r ih=>
  intro h
  cases x with
  |tmp k=>simp[tmpsOf]at h;grind
  |_=>grind[tmpsOf]
theorem Dt(hm:∀id,fU id env'=true->fU id env=true):∀{l:List Nat},kD env K l=true->kD env' K l=true:=by
 intro l
 induction l with
 |nil=>intro _;rfl
 |cons j r ih=>
  intro h
  simp[kD]at h ⊢
  grind
theorem A7{B:FuncId->List AV->Heap->gG->Heap->Prop}{L:List Nat}{f:FuncId}{as:List AV}{K:Heap}{next pan:Next}(hm:∀id,fU id env'=true->fU id env=true)
  (h:FH B L f as env K next pan):FH B L f as env' K next pan:=by
 obtain⟨as0,K0,out,K1,ρ,h1,h2,h3,h4,h5⟩:=h
 refine⟨as0,K0,out,K1,ρ,h1,h2,h3,?_,h5⟩
 simp[bV]at h4 ⊢
 grind[Dt]
theorem tV{A:FuncId->List D->lY->Prop}{B:FuncId->List AV->Heap->gG->Heap->Prop}{L:List Nat}{f:FuncId}{as:List AV}{K:Heap}{next pan:Next}(hm:∀id,fU id env'=true->fU id env=true)
  (h:zT A B L f as env K next pan):zT A B L f as env' K next pan:=by
 unfold zT at h ⊢
 split at h<;>grind[A7]
section
variable {T : Tbl} {A : FuncId → List D → lY → Prop} {B : FuncId → List AV → Heap → gG → Heap → Prop}
theorem sF{T:Tbl}{env env':Env}{K:Heap}{next:Next}{e:TypeId}{id:Nat}{x:AV}{sz:Nat}{ys:List (List D)}(hm:∀id,fU id env'=true->fU id env=true)(h:jF T e id env x sz ys K next):jF T e id env' x sz ys K next:=by
 unfold jF at h ⊢;repeat' split at h<;>grind[iM,eG]
theorem F9{T:Tbl}{env env':Env}{K:Heap}{next:Next}{t t2:TypeId}{id:Nat}{x y:AV}(hm:∀id,fU id env'=true->fU id env=true)(h:nX T t t2 id env x y K next):nX T t t2 id env' x y K next:=by
 unfold nX at h ⊢;repeat' split at h
 all_goals first |exact h.elim |exact sF hm h |exact⟨h.1,sF hm h.2⟩
theorem nM{env env':Env}{K:Heap}{o:Oper}{next pan:Next}(hg:∀j,Operand.tmp j∈o.op.operands->env'.get j=env.get j)(hm:∀id,fU id env'=true->fU id env=true)
  (h:vOp T A B env K o next pan):vOp T A B env' K o next pan:=by
 have E:∀t x,x∈o.op.operands->ev T env' t x=ev T env t x:=λt x hx=>F8 λj e=>hg j (e ▸ hx)
 have R:fP env' K o=fP env K o:=by
  have:ja env' (tmpsOf o.op.operands.toList)=ja env (tmpsOf o.op.operands.toList):=AZ λj hj=>hg j (by simpa using Es hj)
  simp only[fP,this]
 unfold vOp at h ⊢
 split at h
 ·rename_i x ho;simp only[ho,E _ x (by rw[ho];simp[Op.operands])];exact h
 ·rename_i x ho;simp only[ho,E _ x (by rw[ho];simp[Op.operands])];exact h
 ·rename_i c x y ho
  simp only[ho,E _ c (by rw[ho];simp[Op.operands]),E _ x (by rw[ho];simp[Op.operands]),E _ y (by rw[ho];simp[Op.operands])];exact h
 ·rename_i t ho
  try simp only[ho]
  split at h
  ·rename_i d hd
   (try simp only[hd])
   split at h
   ·rename_i z0 z hk hz;(try simp only[hk,hz]);exact eG hm h
   ·rename_i hk hz
    split at h
    ·rename_i hty;(try simp only[hk,hz,hty]);exact eG hm h
    ·exact h.elim
   ·exact h.elim
  ·exact h.elim
 ·rename_i t x ho
  simp only[ho,E _ x (by rw[ho];simp[Op.operands])]
  split at h
  ·rename_i d hd
   try simp only[hd]
   split at h
   ·rename_i hk;(try simp only[hk]);exact eG hm h
   ·exact h.elim
  ·exact h.elim
 ·rename_i t ps ho
  have:(ps.toList.map λp=>(p.1,ev T env' 0 p.2))=(ps.toList.map λp=>(p.1,ev T env 0 p.2)):=List.map_congr_left λp hp=>by
   rw[E 0 p.2 (by rw[ho];simp only[Op.operands];exact List.mem_toArray.2 (List.mem_map_of_mem hp))]
  simp only[ho,this];exact h
 ·rename_i t n ps ho
  have:(ps.toList.map λp=>(p.1,ev T env' 0 p.2))=(ps.toList.map λp=>(p.1,ev T env 0 p.2)):=List.map_congr_left λp hp=>by
   rw[E 0 p.2 (by rw[ho];simp only[Op.operands];exact List.mem_toArray.2 (List.mem_map_of_mem hp))]
  simp only[ho,this]
  split at h
  ·rename_i d hd
   try simp only[hd]
   unfold iO at h ⊢
   split at h
   ·rename_i e he
    (try simp only[he])
    split at h
    ·rename_i z0 z hk hz
     (try simp only[hk,hz])
     split at h
     ·rename_i q hq
      (try simp only[hq])
      split at h
      ·rename_i ds hds
       (try simp only[hds])
       split at h
       ·rename_i hb;(try simp only[hb]);exact iM (eG hm) (eG hm) h
       ·exact h.elim
      ·exact h.elim
     ·exact h.elim
    ·exact h.elim
   ·exact h.elim
  ·exact h.elim
 ·rename_i t x ho;simp only[ho,E _ x (by rw[ho];simp[Op.operands])];exact h
 ·rename_i t x v ho;simp only[ho,E _ x (by rw[ho];simp[Op.operands]),E _ v (by rw[ho];simp[Op.operands])];exact h
 ·rename_i x ho;simp only[ho,E _ x (by rw[ho];simp[Op.operands])];exact h
 ·rename_i op t x y u ho;simp only[ho,E _ x (by rw[ho];simp[Op.operands]),E _ y (by rw[ho];simp[Op.operands])];exact h
 ·rename_i op t x ho;simp only[ho,E _ x (by rw[ho];simp[Op.operands])];exact h
 ·rename_i s x f ho;simp only[ho,E _ x (by rw[ho];simp[Op.operands])];exact h
 ·rename_i s x f ho;simp only[ho,E _ x (by rw[ho];simp[Op.operands])];exact h
 ·rename_i t x i ho;simp only[ho,E _ x (by rw[ho];simp[Op.operands]),E _ i (by rw[ho];simp[Op.operands])];exact h
 ·rename_i t x i ho;simp only[ho,E _ x (by rw[ho];simp[Op.operands]),E _ i (by rw[ho];simp[Op.operands])];exact h
 ·rename_i t x lo hi mx ho
  have op:∀(y:Option Operand),(∀z,y=some z->z∈o.op.operands)->y.map (ev T env' 0)=y.map (ev T env 0):=by
   intro y hy
   cases y with
   |none=>rfl
   |some z=>simp only[Option.map_some,E 0 z (hy z rfl)]
  simp only[ho,E _ x (by rw[ho];simp[Op.operands]),op lo (λz e=>by rw[ho];subst e;simp[Op.operands]),op hi (λz e=>by rw[ho];subst e;simp[Op.operands]),op mx (λz e=>by rw[ho];subst e;simp[Op.operands])];exact h
 ·rename_i x i ho;simp only[ho,E _ x (by rw[ho];simp[Op.operands])];exact h
 ·rename_i t x ho;simp only[ho,E _ x (by rw[ho];simp[Op.operands])];exact h
 ·rename_i f first caps ho
  have:caps.toList.map (ev T env' 0)=caps.toList.map (ev T env 0):=List.map_congr_left λp hp=>E 0 p (by rw[ho];simp only[Op.operands,Array.mem_append];exact .inr (by simpa using hp))
  have this2:first.toList.map (ev T env' 0)=first.toList.map (ev T env 0):=List.map_congr_left λp hp=>E 0 p (by rw[ho];simp only[Op.operands,Array.mem_append];exact .inl (by simpa using hp))
  simp only[ho,this,this2];exact h
 ·rename_i x ho;simp only[ho,E _ x (by rw[ho];simp[Op.operands])];exact h
 ·rename_i c ho
  have hargs:∀x∈c.args.toList,x∈o.op.operands:=λx hx=>by
   rw[ho];simp only[Op.operands,Call.operands,Array.mem_append];exact .inr (by simpa using hx)
  have hmap:c.args.toList.map (ev T env' 0)=c.args.toList.map (ev T env 0):=List.map_congr_left λx hx=>E 0 x (hargs x hx)
  have hzip:(c.args.toList.zipIdx.map λx=>ev T env' (c.argTypes.getD x.2 0) x.1)=(c.args.toList.zipIdx.map λx=>ev T env (c.argTypes.getD x.2 0) x.1):=List.map_congr_left λx hx=>E _ x.1 (hargs x.1 (List.fst_mem_of_mem_zipIdx hx))
  try simp only[ho]
  split at h
  ·rename_i hc
   (try simp only[hc])
   split at h
   ·rename_i x h1 h2
    simp only[h1,h2,E _ x (hargs x (by rw[h1];simp))];exact h
   ·exact h.elim
  ·rename_i hc
   (try simp only[hc])
   split at h
   ·rename_i x y d h1 hd h2
    simp only[h1,h2,hd,E _ x (hargs x (by rw[h1];simp)),E _ y (hargs y (by rw[h1];simp))]
    exact F9 hm h
   ·exact h.elim
  ·rename_i hc
   (try simp only[hc])
   split at h
   ·rename_i x h1 h2
    simp only[h1,h2,E _ x (hargs x (by rw[h1];simp))];exact h
   ·exact h.elim
  ·rename_i hc;(try simp only[hc,hmap]);exact h
  ·rename_i hc;(try simp only[hc,hmap]);exact h
  ·rename_i f hc
   have hf:f∈o.op.operands:=by rw[ho];simp[Op.operands,Call.operands,hc]
   simp only[hc,E 0 f hf,hzip,R]
   split at h
   ·rename_i fid caps hv;(try simp only[hv]);exact tV hm h
   ·rename_i fid caps hv;(try simp only[hv]);exact tV hm h
   ·rename_i fid first hv;(try simp only[hv]);exact tV hm h
   ·rename_i y hv;(try simp only[hv]);exact A7 hm h
   ·exact h.elim
  ·exact h.elim
 ·rename_i hn
  have h2:Ig T env' K o next:=by
   unfold Ig at h ⊢
   split at h
   ·rename_i t r ho
    cases r with
    |none=>
     split at h
     ·rename_i d kt x hd ht hr
      split at h
      ·rename_i g l hk;simp only[hd,ht,hk];exact eG hm h
      ·exact h.elim
     ·exact h.elim
    |some z=>
     have hz:ev T env' 0 z=ev T env 0 z:=E 0 z (by rw[ho];simp[Op.operands])
     simp only[hz]
     split at h
     ·rename_i d kt x hd ht hr
      split at h
      ·rename_i g l hk;simp only[hd,ht,hk,hr];exact eG hm h
      ·exact h.elim
     ·exact h.elim
   ·rename_i t m k x ho
    simp only[ho,E _ m (by rw[ho];simp[Op.operands]),E _ k (by rw[ho];simp[Op.operands]),E _ x (by rw[ho];simp[Op.operands])];exact h
   ·rename_i t m k x ho
    simp only[ho,E _ m (by rw[ho];simp[Op.operands]),E _ k (by rw[ho];simp[Op.operands]),E _ x (by rw[ho];simp[Op.operands])];exact h
   ·rename_i t x k ok ho
    simp only[ho,E _ k (by rw[ho];simp[Op.operands]),E _ x (by rw[ho];simp[Op.operands])];exact h
   ·rename_i x xt as ok ho
    simp only[ho,E _ x (by rw[ho];simp[Op.operands])];exact h
   ·rename_i src dst x ho
    simp only[ho,E _ x (by rw[ho];simp[Op.operands])];exact h
   ·rename_i t l c ho
    simp only[ho,E _ l (by rw[ho];simp[Op.operands]),E _ c (by rw[ho];simp[Op.operands])]
    split at h
    ·rename_i d e hd hty
     (try simp only[hd,hty])
     split at h
     ·rename_i k n k' m hl hc
      (try simp only[hl,hc])
      split at h
      ·rename_i z0 z hk hz
       (try simp only[hk,hz])
       split at h
       ·rename_i ds hds
        (try simp only[hds])
        split at h
        ·rename_i hb
         (try simp only[hb])
         exact⟨h.1,iM (eG hm) (eG hm) h.2⟩
        ·exact h.elim
       ·exact h.elim
      ·exact h.elim
     ·exact h.elim
    ·exact h.elim
   ·exact h.elim
  exact h2
end
end Go.Fw
namespace Go.Fw
variable [ae]
theorem geM_sem'{m:Env}{al:List (Nat×Bool)}:∀{G:List GE} {j:Nat},(geM al m G).get j=(kw al m G).get j:=by
 intro G
 induction G with
 |nil=>intro j;rfl
 |cons e r ih=>
  grind[geM,kw,Env.get_cons]
theorem tX{m:Env}{al:List (Nat×Bool)}{G:List GE}(h:GOk m G)(hal:chB (sem m G) al=true)(j:Nat):(geM al m G).get j = .top\/(geM al m G).get j=(sem m G).get j:=by
 grind[geM_sem',jH]
theorem zdm{m:Env}{al:List (Nat×Bool)}:∀{G:List GE} {j:Nat},(geM al m G).get j = .top\/(sem m G).get j=(geM al m G).get j\/(sem m G).get j = .data (.val undef):=by
 intro G
 induction G with
 |nil=>intro j;right;left;rfl
 |cons e r ih=>
  intro j
  simp[geM,sem]
  split
  ·simp[Env.get_cons]
   split<;>try exact ih
   cases e.g
   ·right;right;rfl
   ·right;left;rfl
  grind[Env.get_cons]
def allM(m:Env):List GE->Env
 | []=>m
 |e::r=>(e.d,e.v)::allM m r
theorem sG{id d:Nat}{v:AV}{r:Env}:fU id ((d,v)::r)=(v.men id || fU id r):=by
 rfl
theorem Vq{m:Env}{al:List (Nat×Bool)}{id:Nat}:∀{G:List GE},fU id (geM al m G)=fU id (allM m G):=by
 intro G
 induction G with
 |nil=>rfl
 |cons e r ih=>
  grind[geM,allM,sG,AV.men]
structure zco(env:Env)(m:Env)(G:List GE):Prop where
 get:∀j,(sem m G).get j = .top\/(sem m G).get j=env.get j
 df:(sem m G).get gq=env.get gq
 men:∀id,fU id env=true->fU id (allM m G)=true
theorem MH{ops:Array Oper}{G:List GE}{m:Env}{o:Oper}{ch:List (Nat×Bool)}{g:Bool}(h:guardOf ops G m o=some (ch,g))(hG:GOk m G) :
  chB (sem m G) ch=g/\((o.guard=none/\g=true/\ch = [])\/∃j want d,o.guard=some (j,want)/\rJ ops j=some d/\((∃c,(sem m G).get d = .data (.val (.bool c))/\(c==want)=g)\/((sem m G).get d = .data (.val undef)/\g=false))):=by
 unfold guardOf at h
 split at h
 ·rename_i hg
  obtain⟨rfl,rfl⟩:=h
  exact⟨rfl,.inl ⟨hg,rfl,rfl⟩⟩
 ·rename_i j want hg
  split at h<;>try(simp at h)
  rename_i d hd
  split at h
  ·rename_i e he
   obtain⟨q1,q2,q3⟩:=O3 he hG
   split at h<;>try(simp at h;done)
   rename_i c hc
   have key:chB (sem m G) ((d,want)::e.ch)=(e.g&&mV c want)/\((∃c,(sem m G).get d = .data (.val (.bool c))/\(c==want)=(e.g&&mV c want))\/((sem m G).get d = .data (.val undef)/\(e.g&&mV c want)=false))/\(e.g=true->(sem m G).get d = .data (.val (.bool c))):=by
    cases hb:e.g with
    |true=>
     rw[hb,hc]at q1;simp only[Lc]at q1
     rw[hb]at q2
     simp[chB,q1,q2,zdk]
    |false=>
     rw[hb]at q1;rw[hb]at q2
     refine⟨?_,.inr ⟨q1,by simp⟩,λh=>by simp at h⟩
     simp[chB,q2]
   split at h
   ·rename_i hch
    rw[hch]at q2 key
    have hgt:e.g=true:=q2.symm
    grind
   grind
  ·rename_i he
   have q1:=O4 (m:=m) he
   split at h
   ·rename_i c hc
    obtain⟨rfl,rfl⟩:=h
    rw[hc]at q1
    exact⟨by simp only[chB,q1,Bool.and_true,zdk],.inr ⟨j,want,d,hg,hd,.inl ⟨c,q1,zdk⟩⟩⟩
   ·simp at h
structure Du(T:Tbl)(a b:Rec):Prop where
 o:a.o=b.o
 K:a.K=b.K
 men:∀d,a.r.men d=true->b.r.men d=true
 ws:∀i∈a.ws T,i∈b.ws T
 nw:∀i∈a.nw T,i∈b.nw T
 rd:∀i∈a.rd,i∈b.rd
 run:a.run=true->b.run=true
 ld:a.run=true->KW a.o=true->∀j,Operand.tmp j∈a.o.op.operands->a.env.get j=b.env.get j
inductive dX(T:Tbl):List Rec->List Rec->Prop where
 |nil:dX T [] []
 |cons {a b:Rec} {r s:List Rec} (h:Du T a b) (t:dX T r s):dX T (a::r) (b::s)
variable {tr' tr : List Rec} {T : Tbl} {ops : Array Oper} {K : Heap} {env : Env} {ms : List Nat} {i : Nat}
theorem dX.app{a b c d:List Rec}(h:dX T a b)(h2:dX T c d):dX T (a++c) (b++d):=by
 induction h with
 |nil=>exact h2
 |cons h t ih=>exact .cons h ih
theorem dX.rev{a b:List Rec}(h:dX T a b):dX T a.reverse b.reverse:=by
 induction h with
 |nil=>exact .nil
 |cons h t ih=>simp;exact ih.app (.cons h .nil)
theorem A8{a b a' b':List Nat}(ha:∀x∈a',x∈a)(hb:∀x∈b',x∈b)(h:meet a' b'=true):meet a b=true:=by
 grind[FX]
theorem RU{x x' y y':Rec}(hx:Du T x' x)(hy:Du T y' y)(h:clash T ops x' y'=true):clash T ops x y=true:=by
 simp[clash,hx.o,hy.o]at h ⊢
 rcases h with h |h |h |h |h |h
 ·exact .inl h
 ·simp_all
 ·simp_all
 ·exact .inr (.inr (.inr (.inl (A8 hx.ws hy.rd h))))
 ·exact .inr (.inr (.inr (.inr (.inl (A8 hx.ws hy.ws h)))))
 ·exact .inr (.inr (.inr (.inr (.inr (A8 hy.ws hx.rd h)))))
theorem I8{x x':Rec}(hx:Du T x' x){ys' ys:List Rec}(h:dX T ys' ys):∀{ms:List Nat},pU T ops x i ys ms=true->pU T ops x' i ys' ms=true:=by
 induction h with
 |nil=>intro ms h;cases ms<;>exact h
 |cons hy t ih=>
  intro ms h
  cases ms with
  |nil=>simp[pU]at h
  |cons m ms=>
   simp[pU]at h ⊢
   grind[RU]
theorem Gf(h:dX T tr' tr):∀{i:Nat} {ms:List Nat},jG T ops i tr ms=true->jG T ops i tr' ms=true:=by
 induction h with
 |nil=>simp
 |cons hy t ih=>
  intro i ms h
  cases ms with
  |nil=>simp[jG]at h
  |cons m ms=>
   simp[jG]at h ⊢
   grind[I8]
theorem RV{d:Nat}{l:List Nat}:∀{l':List Nat},(∀i∈l',i∈l)->wR K d l'=true->wR K d l=true:=by
 have key:∀{l:List Nat} {i:Nat},i∈l->(match K.get i with |some b=>b.men d |none=>false)=true->wR K d l=true:=by
  intro l
  induction l with
  |nil=>simp
  |cons j r ih=>
   simp[wR]
   grind
 intro l'
 induction l' with
 |nil=>grind[wR]
 |cons j r ih=>
  intro hs h
  simp[wR]at h
  rcases h with h |h
  ·exact key (hs j (by simp)) h
  simp_all
theorem RX{d i:Nat}(h:dX T tr' tr):∀{k:Nat} {ms:List Nat},zV T d i k tr ms=true->zV T d i k tr' ms=true:=by
 induction h with
 |nil=>simp
 |cons hy t ih=>
  intro k ms h
  cases ms with
  |nil=>simp[zV]at h
  |cons m ms=>
   simp only[zV,Bool.and_eq_true,Bool.or_eq_true]at h ⊢
   refine⟨h.1.imp id λh=>h.imp (λh=>?_) id,ih h.2⟩
   simp at h ⊢
   refine⟨?_,?_⟩
   ·cases hb:AV.men d _ with
    |false=>rfl
    |true=>rw[hy.men d hb]at h;simp at h
   ·cases hb:wR _ d _ with
    |false=>rfl
    |true=>rw[hy.K]at hb;rw[RV hy.ws hb]at h;simp at h
theorem I9{all' all:List Rec}(h:dX T all' all){l:List Nat}:∀{l':List Nat},(∀d∈l',d∈l)->og T env K all ms i l=true->og T env K all' ms i l'=true:=by
 have key:∀{l:List Nat} {d:Nat},d∈l->og T env K all ms i l=true->(!fU d env&&(!pK d K&&zV T d i 0 all ms))=true:=by
  intro l
  induction l with
  |nil=>simp
  |cons j r ih=>
   intro d h h2
   simp[og]at h2
   grind
 intro l'
 induction l' with
 |nil=>intro _ _;rfl
 |cons j r ih=>
  intro hs h2
  have:=key (hs j (by simp)) h2
  simp[og]at this ⊢
  grind[RX]
theorem MI{all' all:List Rec}(h:dX T all' all)(ht:dX T tr' tr):∀{i:Nat},zW T env K all ms i tr=true->zW T env K all' ms i tr'=true:=by
 induction ht with
 |nil=>intro i _;rfl
 |cons hy t ih=>
  intro i h2
  simp[zW]at h2 ⊢
  exact⟨I9 h hy.nw h2.1,ih h2.2⟩
theorem O6(h:dX T tr' tr)(hc:chk T ops env K tr=true):chk T ops env K tr'=true:=by
 simp[chk]at hc ⊢
 grind[Gf,MI]
theorem Zk{a b:Rec}(h:Du T a b):Du T (mJ a) (mJ b):=by
 cases hop:KW a.o with
 |true=>
  have hb:KW b.o=true:=by rw[<-h.o];exact hop
  refine⟨by rw[LP,LP];exact h.o,by rw[LQ,LQ];exact h.K,λd=>by rw[LU,LU];exact h.men d,λi hi=>?_,λi hi=>?_,λi hi=>?_,λhr=>by rw[UR]at hr ⊢;exact h.run hr,λ_ _ j _=>by grind[OM]⟩
  ·rw[OJ]at hi ⊢;exact h.ws i hi
  ·rw[OL]at hi ⊢;exact h.nw i hi
  grind[OM]
 |false=>rw[IB hop,IB (by rw[<-h.o];exact hop)];exact h
theorem MJ{env env':Env}{o:Oper}{c:AV}(hg:∀j,Operand.tmp j∈o.op.operands->env'.get j=env.get j)(h:readA T env o K c):readA T env' o K c:=by
 have E:∀t x,x∈o.op.operands->ev T env' t x=ev T env t x:=λt x hx=>F8 λj e=>hg j (e ▸ hx)
 grind[readA,Op.operands]
theorem Ba{env env':Env}{o:Oper}{id:Nat}{c:AV}{b:Option Block}(hg:∀j,Operand.tmp j∈o.op.operands->env'.get j=env.get j)(h:cellP T env o id c b):cellP T env' o id c b:=by
 unfold cellP at h ⊢
 grind[MJ]
theorem Ja{l:List (Nat×Nat)}(h:dX T tr' tr):∀{k:Nat},dX T (rM l k tr') (rM l k tr):=by
 induction h with
 |nil=>exact .nil
 |cons h t ih=>
  intro k
  simp[rM]
  cases KX k l with
  |true=>exact .cons (Zk h) ih
  |false=>exact .cons h ih
theorem RY{env env':Env}{o:Oper}{id:Nat}{c:AV}(hg:∀j,Operand.tmp j∈o.op.operands->env'.get j=env.get j)(h:dX T tr' tr):cellW T env o id c tr->cellW T env' o id c tr':=by
 induction h with
 |nil=>exact λh=>h
 |cons h t ih=>
  intro hc
  refine⟨?_,ih hc.2⟩
  split
  ·rename_i hw
   have:=bf.2 (h.ws _ (bf.1 hw))
   have h1:=hc.1
   rw[this]at h1
   rw[h.K];exact Ba hg h1
  ·trivial
theorem z7k(h:dX T tr' tr):∀(k:Nat) y,tr[k]? = some y->∃y',tr'[k]? = some y'/\Du T y' y:=by
 induction h with
 |nil=>simp
 |cons h t ih=>
  grind
theorem xA(h:dX T tr' tr):∀{l:List (Nat×Nat)},yP T K tr l->yP T K tr' l
 | [],_=>trivial
 |q::r,hs=>by
  refine⟨?_,xA h hs.2⟩
  have h1:=hs.1
  unfold yz at h1 ⊢
  split at h1<;>try exact h1.elim
  rename_i y hy
  obtain⟨y',hy',hle⟩:=z7k h _ _ hy
  rw[hy']
  intro hr
  obtain⟨c,k3,k4⟩:=h1 (hle.run hr)
  have hrd:KW y'.o=true:=by
   obtain⟨b,_,q⟩:=vC k3
   rw[hle.o]
   grind[readA,KW]
  have hg:=hle.ld hr hrd
  rw[hle.o]at hg ⊢
  exact⟨c,Ba hg k3,RY hg h k4⟩
theorem Vr(h:dX T tr' tr)(hc:QZ T ops env K tr):QZ T ops env K tr':=by
 obtain⟨l,h1,h2⟩:=hc
 exact⟨l,O6 (Ja h) h1,xA h h2⟩
theorem Vs{kp:Nat}(h:dX T tr' tr)(hc:Ou T ops env K tr kp):Ou T ops env K tr' kp:=by
 obtain⟨l,h0,h1,h2⟩:=hc
 exact⟨l,h0,O6 (Ja h) h1,xA h h2⟩
section
variable {T : Tbl} {A : FuncId → List D → lY → Prop} {B : FuncId → List AV → Heap → gG → Heap → Prop}
theorem oH{E env:Env}{l:List Nat}(h:fZ E l=true)(hE:∀j,E.get j = .top\/E.get j=env.get j):∀j∈l,env.get j=E.get j:=by
 induction l with
 |nil=>simp
 |cons k r ih=>
  simp[fZ]at h
  grind
theorem MK{j:Nat}:∀{l:List Operand},Operand.tmp j∈l->j∈tmpsOf l:=by
 intro l
 induction l with
 |nil=>simp
 |cons x r ih=>
  intro h
  cases x with
  |tmp k=>
   simp[tmpsOf]at h ⊢
   grind
  |_=>grind[tmpsOf]
theorem lh{env env':Env}{K K':Heap}{o:Oper}{v:AV}(hg:∀j,Operand.tmp j∈o.op.operands->env'.get j=env.get j):Du T ⟨o,env',v,K,K',true⟩ ⟨o,env,v,K,K',true⟩:=by
 have E:∀t x,x∈o.op.operands->ev T env' t x=ev T env t x:=λt x hx=>F8 λj e=>hg j (e ▸ hx)
 have I:ja env' (tmpsOf o.op.operands.toList)=ja env (tmpsOf o.op.operands.toList):=AZ λj hj=>hg j (by simpa using Es hj)
 have R:fP env' K o=fP env K o:=by simp only[fP,I]
 have W:wids T env' K K' o=wids T env K K' o:=by
  simp only[wids,I]
  split<;>first |rfl |skip
  ·rename_i _ t a x ho;rw[E 0 a (by rw[ho];simp[Op.operands])]
  ·rename_i _ t a k x ho;rw[E 0 a (by rw[ho];simp[Op.operands])]
  ·rename_i _ t a k x ho;rw[E 0 a (by rw[ho];simp[Op.operands])]
  ·rename_i c ho
   split
   ·split
    ·rename_i x r hx
     rw [E _ x (by rw[ho];simp only[Op.operands,Call.operands,Array.mem_append];right;have:x∈c.args.toList:=by rw[hx];simp
                   simpa using this)]
    ·rfl
   ·split
    ·rename_i x r hx
     rw [E _ x (by rw[ho];simp only[Op.operands,Call.operands,Array.mem_append];right;have:x∈c.args.toList:=by rw[hx];simp
                   simpa using this)]
    ·rfl
   ·rename_i f hc
    obtain⟨m1,m2⟩:=xg ho hc
    have hzip:(c.args.toList.zipIdx.map λx=>ev T env' (c.argTypes.getD x.2 0) x.1)=(c.args.toList.zipIdx.map λx=>ev T env (c.argTypes.getD x.2 0) x.1):=List.map_congr_left λx hx=>E _ x.1 (m2 x.1 (List.fst_mem_of_mem_zipIdx hx))
    rw[E 0 f m1,hzip]
   ·rfl
 have Nw:fV T env' K K' o=fV T env K K' o:=by
  simp only[fV]
  split<;>first |rfl |skip
  rename_i c ho
  split
  ·split
   ·rename_i x r hx
    rw [E _ x (by rw[ho];simp only[Op.operands,Call.operands,Array.mem_append];right;have:x∈c.args.toList:=by rw[hx];simp
                  simpa using this)]
   ·rfl
  ·rfl
  ·rfl
 exact⟨rfl,rfl,λ_ h=>h,λi h=>by simpa only [Rec.ws,W]using h,λi h=>by simpa only [Rec.nw,Nw]using h,λi h=>by simpa only [Rec.rd,R]using h,λh=>h,λ_ _ j hj=>hg j hj⟩
theorem Gg{env env':Env}{K K':Heap}{o:Oper}{v:AV}{b:Bool}:Du T ⟨o,env',.data (.val undef),K',K,false⟩ ⟨o,env,v,K',K,b⟩:=
 ⟨rfl,rfl,λd h=>by simp[AV.men]at h,λi h=>by simp[Rec.ws]at h,λi h=>by simp[Rec.nw]at h,λi h=>by simp[Rec.rd]at h,λh=>(by cases h),λh=>(by cases h)⟩
theorem vJ{d:Option Nat}{ch:List (Nat×Bool)}{g:Bool}{v:AV}{G:List GE}{m:Env}{next:List GE->Env->Prop}(h:KZ d ch g v G m next)(hG:GOk m G)(hg:chB (sem m G) ch=g)(hd:∀e,d=some e->e≠gq){env:Env}(hr:zco env m G) :
  ∃G' m',next G' m'/\GOk m' G'/\zco (Env.set env d (Lc g v)) m' G':=by
 have men:∀e id,fU id (Env.set env (some e) (Lc g v))=true->(v.men id || fU id (allM m G))=true:=by
  intro e id h
  simp[Env.set,sG]at h ⊢
  rcases h with h |h
  ·cases g<;>grind[Lc,AV.men]
  ·exact .inr (hr.men id h)
 cases d with
 |none=>
  simp[KZ]at h
  split at h
  ·exact⟨G,m,h,hG,hr⟩
  ·exact h.elim
 |some d=>
  have get:∀j,Env.get ((d,Lc g v)::sem m G) j = .top\/Env.get ((d,Lc g v)::sem m G) j=(Env.set env (some d) (Lc g v)).get j:=by
   intro j;simp[Env.set,Env.get_cons];split
   ·right;rfl
   ·exact hr.get j
  have df:Env.get ((d,Lc g v)::sem m G) gq=(Env.set env (some d) (Lc g v)).get gq:=by
   simp[Env.set,Env.get_cons,hr.df]
  have key:(match !Ia d ch&&F6 d G with |true=>next (⟨d,ch,g,v⟩::G) m |false=>False)->∃G' m',next G' m'/\GOk m' G'/\zco (Env.set env (some d) (Lc g v)) m' G':=by
   intro h
   cases hf:(!Ia d ch&&F6 d G)with
   |true=>
    rw[hf]at h
    simp at hf
    exact⟨_,m,h,⟨hg.symm,hf.1,hf.2,hd d rfl,hG⟩,get,df,λid h=>by grind[allM,sG]⟩
   |false=>simp_all
  cases G with
  |nil=>
   cases ch with
   |nil=>
    have:g=true:=hg.symm
    subst this
    exact⟨[],(d,v)::m,h,trivial,get,df,λid h=>by grind[allM,sG]⟩
   |cons p q=>exact key h
  |cons p q=>exact key h
abbrev zhv(T:Tbl)(ch:List (Nat×Bool))(m:Env)(G:List GE)(K:Heap)(o:Oper):Option AV:=match o.op with
 | .pick c x y=>match ev T (geM ch m G) o.type c with
  | .data (.val (.bool cv))=>F5 cv (ev T (geM (OX c ch true) m G) o.type x) (ev T (geM (OX c ch false) m G) o.type y)
  |_=>none
 |_=>match fZ (geM ch m G) (tmpsOf o.op.operands.toList)with |true=>z6y T (geM ch m G) K o |false=>none
theorem Si{c:Bool}{x y v:AV}(h:F5 c x y=some v):(x.ids = []/\x ≠ .top)/\(y.ids = []/\y ≠ .top):=by
 unfold F5 at h
 split at h<;>try exact⟨⟨rfl,by simp⟩,⟨rfl,by simp⟩⟩
 simp at h
theorem z7l{ch:List (Nat×Bool)}{m:Env}{G:List GE}{K:Heap}{o:Oper}{v:AV}{env:Env}{next pan:Next}
  (h:zhv T ch m G K o=some v) (hG:GOk m G) (hch:chB (sem m G) ch=true) (hget:∀j,(sem m G).get j = .top\/(sem m G).get j=env.get j) (hmen:∀id,fU id env=true->fU id (allM m G)=true) (hn:next v K) :
  vOp T A B env K o next pan/\Du T ⟨o,env,v,K,K,true⟩ ⟨o,geM ch m G,v,K,K,true⟩:=by
 unfold zhv at h
 split at h
 ·rename_i c x y ho
  split at h<;>try(simp at h;done)
  rename_i cv hc
  have hv:=O5 h
  obtain⟨⟨ix,tx⟩,⟨iy,ty⟩⟩:=Si h
  have evs:∀al z w,ev T (geM al m G) o.type z=w->w ≠ .top->(ev T env o.type z=w\/ev T env o.type z = .data (.val undef)):=by
   intro al z w hz hw
   cases z with
   |tmp j=>
    have hz:(geM al m G).get j=w:=hz
    rcases zdm (m:=m) (al:=al) (G:=G) (j:=j)with q |q |q
    ·simp_all
    ·left;show env.get j=w;grind
    ·right;show env.get j=_;grind
   |const k=>left;exact hz
   |func f=>left;exact hz
   |global g=>left;exact hz
  have evk:∀al z w,chB (sem m G) al=true->ev T (geM al m G) o.type z=w->w ≠ .top->ev T env o.type z=w:=by
   intro al z w hal hz hw
   cases z with
   |tmp j=>
    have hz:(geM al m G).get j=w:=hz
    rcases tX hG hal j with q |q
    ·simp_all
    ·show env.get j=w;grind
   |const k=>exact hz
   |func f=>exact hz
   |global g=>exact hz
  have hcE:=evk ch c _ hch hc (by simp)
  have key:chB (sem m G) (OX c ch cv)=true:=by
   cases c with
   |tmp t=>
    have hs:(sem m G).get t = .data (.val (.bool cv)):=by
     rcases tX hG hch t with q |q
     ·have hc:(geM ch m G).get t = .data (.val (.bool cv)):=hc
      simp_all
     ·rw[<-q];exact hc
    simp only[OX,chB,hs,hch,Bool.and_true,beq_self_eq_true]
   |_=>exact hch
  refine⟨?_,?_⟩
  ·unfold vOp
   simp only[ho,hcE]
   cases cv
   ·have:=evk _ y _ key rfl ty
    show next (ev T env o.type y) K
    simp_all
   ·have:=evk _ x _ key rfl tx
    show next (ev T env o.type x) K
    simp_all
  ·have id0:∀z w,(ev T env o.type z=w\/ev T env o.type z = .data (.val undef))->w.ids = []->∀j,z = .tmp j->(env.get j).ids = []:=by
    intro z w hz hw j e
    subst e
    rcases hz with hz |hz
    ·have hz:env.get j=w:=hz;simp_all
    ·have hz:env.get j = .data (.val undef):=hz;rw[hz];rfl
   refine⟨rfl,rfl,λ_ h=>h,λi hi=>by grind[Rec.ws,wids],λi hi=>by grind[Rec.nw,fV],λi hi=>?_,λh=>h,λ_ hx'=>by grind[KW]⟩
   have hids:ja env (tmpsOf [c,x,y]) = []:=by
    have h1:=id0 c _ (.inl hcE) rfl
    have h2:=id0 x _ (evs _ x _ rfl tx) ix
    have h3:=id0 y _ (evs _ y _ rfl ty) iy
    cases c<;>cases x<;>cases y<;>simp only[tmpsOf,ja]<;>simp_all
   grind[Rec.rd,fP,Op.operands]
 ·rename_i hnp
  split at h
  ·rename_i hk
   have hop:∀j,Operand.tmp j∈o.op.operands->env.get j=(geM ch m G).get j:=λj hj=>oH hk (λj=>(tX hG hch j).elim .inl λh=>(hget j).imp (λh2=>h.trans h2) λh2=>h.trans h2) j (MK (by simpa using hj))
   exact⟨nM hop (λid h=>by grind[Vq,id]) (Vo h (λc x y e=>hnp c x y e) hn),lh hop⟩
  ·simp at h
theorem dX.len{T:Tbl}{a b:List Rec}(h:dX T a b):a.length=b.length:=by induction h with |nil=>rfl |cons _ _ ih=>simp[ih]
theorem ML{T:Tbl}{N:List Nat}{kp:Nat}{a b:List Rec}(h:dX T a b):∀i,ik T N kp i b=true->ik T N kp i a=true:=by
 induction h with
 |nil=>simp
 |cons h t ih=>
  intro i q
  simp[ik]at q ⊢
  exact⟨q.1.imp id λq=>bG.2 λx hx=>bG.1 q x (h.ws x hx),ih _ q.2⟩
theorem Dv{E E':Env}{l:List Nat}(h:∀j∈l,E'.get j=E.get j):fZ E' l=fZ E l:=by
 induction l with
 |nil=>rfl
 |cons j r ih=>grind[fZ]
theorem MM{kp:Nat}{Q Q':List Rec->Prop}(hQ:∀a b,dX T a b->Q b->Q' a):∀(l:List Oper) (ms:List Nat) (tr tr':List Rec) (env env':Env) (K:Heap),dX T tr' tr->(∀id,fU id env'=true->fU id env=true)->(∀j,env.get j = .top\/env.get j=env'.get j) ->
  kT T A B kp Q l ms tr env K->kT T A B kp Q' l ms tr' env' K:=by
 intro l
 induction l with
 |nil=>intro ms tr tr' env env' K ht _ _ h;exact hQ _ _ ht.rev h
 |cons o rest ih=>
  intro ms tr tr' env env' K ht hm hE h
  cases ms with
  |nil=>simp[kT]at h
  |cons m ms=>
   have hset:∀v:AV,∀id,fU id (Env.set env' o.dst v)=true->fU id (Env.set env o.dst v)=true:=by
    intro v id h
    cases hd:o.dst with
    |none=>rw[hd]at h;exact hm id h
    |some d=>rw[hd]at h;simp[Env.set,sG]at h ⊢;grind
   have hget:∀v:AV,∀j,(Env.set env o.dst v).get j = .top\/(Env.set env o.dst v).get j=(Env.set env' o.dst v).get j:=by
    intro v j
    cases hd:o.dst with
    |none=>exact hE j
    |some d=>
     simp[Env.set,Env.get_cons]
     grind
   simp[kT]at h ⊢
   split at h
   ·exact ih _ _ _ _ _ _ (.cons Gg ht) (hset _) (hget _) h
   ·split at h<;>try exact h.elim
    rename_i hg hk
    have hop:∀j,Operand.tmp j∈o.op.operands->env'.get j=env.get j:=λj hj=>oH hk hE j (MK (by simpa using hj))
    have hk':fZ env' (tmpsOf o.op.operands.toList)=true:=by
     grind[Dv,oH]
    simp[hk',hg]
    exact vG (λv K' q=>(ih _ _ _ _ _ _ (.cons (lh hop) ht) (hset _) (hget _) q)) (λ_ _ q=>q) (nM hop hm h)
theorem Sj{ops:Array Oper}{Q:List Rec->Env->Heap->Prop}{QP:Nat->AV->Heap->List Rec->Prop}(o:Oper)(rest:List Oper)(tr:List Rec)(G:List GE)(m:Env)(K:Heap):IZ T A B ops Q QP (o::rest) tr G m K=(match guardOf ops G m o with
   |none=>False
   |some (ch,g)=>match zhv T ch m G K o with
    |some v=>fc v λv=>KZ o.dst ch g v G m λG' m'=>IZ T A B ops Q QP rest (⟨o,geM ch m G,v,K,K,true⟩::tr) G' m' K
    |none=>match fZ (geM ch m G) (tmpsOf o.op.operands.toList)with
     |false=>False
     |true=>match ch with
      | []=>match(match G with | []=>false |_=>dZ o)with
       |true=>vOp T A B (geM [] m G) K o (λv K'=>K'=K/\fc v λv=>KZ o.dst [] true v G m λG' m'=>IZ T A B ops Q QP rest (⟨o,geM [] m G,v,K,K,true⟩::tr) G' m' K) (λ_ _=>False)
       |false=>vOp T A B (geM [] m G) K o (λv K'=>fc v λv=>fcK o K' λK'=>flatM m G λm'=>FZ o.dst v m' λm'=>IZ T A B ops Q QP rest (⟨o,geM [] m G,v,K,K',true⟩::tr) [] m' K') (λp K'=>Ll (kT T A B tr.length (QP tr.length p K') rest ((wS ops.toList []).drop (tr.length+1)) (⟨o,geM [] m G,.data (.val undef),K,K',true⟩::tr) (Env.set (geM [] m G) o.dst (.data (.val undef))) K'))
      |ch=>match dZ o with
       |true=>dZ o=true/\∃v,(g=true->vOp T A B (geM ch m G) K o (λv' K'=>v'=v/\K'=K) (λ_ _=>False))/\KZ o.dst ch g v G m λG' m'=>IZ T A B ops Q QP rest (⟨o,geM ch m G,v,K,K,true⟩::tr) G' m' K
       |false=>kz g (vOp T A B (geM ch m G) K o (λv K'=>fc v λv=>fcK o K' λK'=>geMK ch m G λm'=>FZ o.dst v m' λm'=>IZ T A B ops Q QP rest (⟨o,geM ch m G,v,K,K',true⟩::tr) [] m' K') (λ_ _=>False))):=rfl
end
section
variable {T : Tbl} {A : FuncId → List D → lY → Prop} {B : FuncId → List AV → Heap → gG → Heap → Prop}
theorem Vt{ops:Array Oper}{env0:Env}{K0:Heap}{QQ:Env->Heap->Prop}{PP:AV->Env->Heap->Prop}:∀(l:List Oper) (tr:List Rec) (G:List GE) (m:Env) (K:Heap) (tr':List Rec) (env:Env),
  IZ T A B ops (λtr env K=>QZ T ops env0 K0 tr/\QQ env K) (λkp p K2 tr=>Ou T ops env0 K0 tr kp/\ik T (z2z T kp 0 tr) kp 0 tr=true/\PP p (sZ ops.toList env0) (tq (z2z T kp 0 tr) K2)) l tr G m K->GOk m G->(∀o∈l,∀d,o.dst=some d->d≠gq)->zco env m G->dX T tr' tr ->
  rO T A B ops (λtr env K=>QZ T ops env0 K0 tr/\∃env2:Env,(∀j,env2.get j = .top\/env2.get j=env.get j)/\env2.get gq=env.get gq/\QQ env2 K) (λkp p K2 tr=>Ou T ops env0 K0 tr kp/\∃N,ik T N kp 0 tr=true/\PP p (sZ ops.toList env0) (tq N K2)) l tr' env K:=by
 intro l
 induction l with
 |nil=>
  intro tr G m K tr' env h hG _ hr ht
  have h:flatG m G λenv=>QZ T ops env0 K0 tr.reverse/\QQ env K:=h
  rw[F7]at h
  exact⟨Vr ht.rev h.1,kw [] m G,λj=>(jH hG rfl j).elim .inl λh=>(hr.get j).imp (λh2=>h.trans h2) λh2=>h.trans h2,(mW hG).trans hr.df,h.2⟩
 |cons o rest ih=>
  intro tr G m K tr' env h hG hdst hr ht
  have hdd:∀d,o.dst=some d->d≠gq:=hdst o (by simp)
  have hrest:∀o∈rest,∀d,o.dst=some d->d≠gq:=λo ho=>hdst o (by simp[ho])
  rw[Sj]at h
  split at h<;>try exact h.elim
  rename_i ch g hgo
  obtain⟨hch,hgd⟩:=MH hgo hG
  -- a path on which the operation runs
  have run:g=true->∀env1:Env,(∀j,env1.get j=env.get j)->(∀id,fU id env1=true->fU id env=true) ->
    vOp T A B env1 K o (λv K'=>rO T A B ops (λtr env K=>QZ T ops env0 K0 tr/\∃env2:Env,(∀j,env2.get j = .top\/env2.get j=env.get j)/\env2.get gq=env.get gq/\QQ env2 K) (λkp p K2 tr=>Ou T ops env0 K0 tr kp/\∃N,ik T N kp 0 tr=true/\PP p (sZ ops.toList env0) (tq N K2)) rest (⟨o,env1,v,K,K',true⟩::tr') (env1.set o.dst v) K') (λp K'=>kT T A B tr'.length ((λkp p K2 tr=>Ou T ops env0 K0 tr kp/\∃N,ik T N kp 0 tr=true/\PP p (sZ ops.toList env0) (tq N K2)) tr'.length p K') rest ((wS ops.toList []).drop (tr'.length+1)) (⟨o,env1,.data (.val undef),K,K',true⟩::tr') (env1.set o.dst (.data (.val undef))) K'):=by
   intro hg env1 hE1 hM1
   subst hg
   have hr1:zco env1 m G:=⟨λj=>by rw[hE1];exact hr.get j,by rw[hE1];exact hr.df,λid h=>hr.men id (hM1 id h)⟩
   split at h
   ·rename_i v hv
    rw[vH]at h
    have hok:=λnext pan=>z7l (A:=A) (B:=B) (next:=next) (pan:=pan) hv hG hch hr1.get hr1.men
    obtain⟨G',m',h',hG',hr'⟩:=vJ h hG hch hdd hr1
    refine(hok _ _ ?_).1
    exact ih _ G' m' K _ _ h' hG' hrest hr' (.cons (hok (λ_ _=>True) (λ_ _=>True) trivial).2 ht)
   ·rename_i hvn
    split at h<;>try exact h.elim
    rename_i hk
    have hop:∀al,chB (sem m G) al=true->fZ (geM al m G) (tmpsOf o.op.operands.toList)=true->∀j,Operand.tmp j∈o.op.operands->env1.get j=(geM al m G).get j:=λal hal hk j hj=>
     oH hk (λj=>(tX hG hal j).elim .inl λh=>(hr1.get j).imp (λh2=>h.trans h2) λh2=>h.trans h2) j (MK (by simpa using hj))
    have hmen:∀al id,fU id env1=true->fU id (geM al m G)=true:=λal id h=>by rw[Vq];exact hr1.men id h
    have hpanc:(∀j,Operand.tmp j∈o.op.operands->env1.get j=(geM [] m G).get j)->∀p K',kT T A B tr.length (λtr1=>Ou T ops env0 K0 tr1 tr.length/\ik T (z2z T tr.length 0 tr1) tr.length 0 tr1=true/\PP p (sZ ops.toList env0) (tq (z2z T tr.length 0 tr1) K')) rest ((wS ops.toList []).drop (tr.length+1)) (⟨o,geM [] m G,.data (.val undef),K,K',true⟩::tr) (Env.set (geM [] m G) o.dst (.data (.val undef))) K'->((λp K'=>kT T A B tr'.length ((λkp p K2 tr=>Ou T ops env0 K0 tr kp/\∃N,ik T N kp 0 tr=true/\PP p (sZ ops.toList env0) (tq N K2)) tr'.length p K') rest ((wS ops.toList []).drop (tr'.length+1)) (⟨o,env1,.data (.val undef),K,K',true⟩::tr') (env1.set o.dst (.data (.val undef))) K')) p K':=by
     intro hop p K' q
     rw[show tr'.length=tr.length from ht.len]
     refine MM (λa b hab q=>⟨Vs hab q.1,_,ML hab 0 q.2.1,q.2.2⟩) _ _ _ _ _ _ _ (.cons (lh hop) ht) (λid h=>?_) (λj=>?_) q
     ·cases hod:o.dst with
      |none=>rw[hod]at h;exact hmen [] id h
      |some d=>rw[hod]at h;simp only[Env.set,sG,Bool.or_eq_true]at h ⊢;exact h.imp (λh=>h) (hmen [] id)
     ·have hE:(geM [] m G).get j = .top\/(geM [] m G).get j=env1.get j:=(tX hG rfl j).elim .inl λh=>(hr1.get j).imp (λh2=>h.trans h2) λh2=>h.trans h2
      cases hod:o.dst with
      |none=>exact hE
      |some d=>
       simp only[Env.set,Env.get_cons]
       split
       ·exact .inr rfl
       ·exact hE
    split at h
    ·have hop:=hop [] rfl hk
     split at h
     ·refine vG (λv K' q=>?_) (λ_ _ q=>q.elim) (nM hop (hmen []) h)
      obtain⟨rfl,q⟩:=q
      rw[vH]at q
      obtain⟨G',m',h',hG',hr'⟩:=vJ q hG rfl hdd hr1
      exact ih _ G' m' _ _ _ h' hG' hrest hr' (.cons (lh hop) ht)
     ·refine vG (λv K' q=>?_) (λp K' q=>hpanc hop p K' (by rw[Ox]at q;exact q)) (nM hop (hmen []) h)
      rw[vH,Ep,Ze,oG]at q
      have hE:∀j,(geM [] m G).get j = .top\/(geM [] m G).get j=env1.get j:=λj=>(tX hG rfl j).elim .inl λh=>(hr1.get j).imp (λh2=>h.trans h2) λh2=>h.trans h2
      have hD:(geM [] m G).get gq=env1.get gq:=by rw[geM_sem',mW hG,hr1.df]
      refine ih _ [] _ _ _ _ q trivial hrest ⟨λj=>?_,?_,λid h=>?_⟩ (.cons (lh hop) ht)
      ·cases hod:o.dst with
       |none=>exact hE j
       |some d=>
        simp only[sem,Env.set,Env.get_cons]
        split
        ·right;rfl
        ·exact hE j
      ·cases hod:o.dst with
       |none=>exact hD
       |some d=>simp only[sem,Env.set,Env.get_cons,if_neg (hdd d hod),hD]
      ·cases hod:o.dst with
       |none=>rw[hod]at h;exact hmen [] id h
       |some d=>
        rw[hod]at h
        simp only[allM,Env.set,sG,Bool.or_eq_true]at h ⊢
        exact h.imp (λh=>h) (hmen [] id)
    ·have hop:=hop ch hch hk
     split at h
     ·obtain⟨hpk,v,hv,h⟩:=h
      refine vG (λv' K' q=>?_) (λ_ _ q=>q.elim) (nM hop (hmen ch) (hv rfl))
      obtain⟨rfl,rfl⟩:=q
      obtain⟨G',m',h',hG',hr'⟩:=vJ h hG hch hdd hr1
      exact ih _ G' m' _ _ _ h' hG' hrest hr' (.cons (lh hop) ht)
     ·refine vG (λv K' q=>?_) (λ_ _ q=>q.elim) (nM hop (hmen ch) h.out.2)
      rw[vH,Ep,z6z,oG]at q
      have hE:∀j,(geM ch m G).get j = .top\/(geM ch m G).get j=env1.get j:=λj=>(tX hG hch j).elim .inl λh=>(hr1.get j).imp (λh2=>h.trans h2) λh2=>h.trans h2
      have hD:(geM ch m G).get gq=env1.get gq:=by rw[geM_sem',mW hG,hr1.df]
      refine ih _ [] _ _ _ _ q trivial hrest ⟨λj=>?_,?_,λid h=>?_⟩ (.cons (lh hop) ht)
      ·cases hod:o.dst with
       |none=>exact hE j
       |some d=>
        simp only[sem,Env.set,Env.get_cons]
        split
        ·right;rfl
        ·exact hE j
      ·cases hod:o.dst with
       |none=>exact hD
       |some d=>simp only[sem,Env.set,Env.get_cons,if_neg (hdd d hod),hD]
      ·cases hod:o.dst with
       |none=>rw[hod]at h;exact hmen ch id h
       |some d=>
        rw[hod]at h
        simp only[allM,Env.set,sG,Bool.or_eq_true]at h ⊢
        exact h.imp (λh=>h) (hmen ch id)
  -- a path on which it does not
  have skip:g=false->∀env1:Env,(∀j,env1.get j=env.get j)->(∀id,fU id env1=true->fU id env=true) ->
    rO T A B ops (λtr env K=>QZ T ops env0 K0 tr/\∃env2:Env,(∀j,env2.get j = .top\/env2.get j=env.get j)/\env2.get gq=env.get gq/\QQ env2 K) (λkp p K2 tr=>Ou T ops env0 K0 tr kp/\∃N,ik T N kp 0 tr=true/\PP p (sZ ops.toList env0) (tq N K2)) rest (⟨o,env1,.data (.val undef),K,K,false⟩::tr') (env1.set o.dst (.data (.val undef))) K:=by
   intro hg env1 hE1 hM1
   subst hg
   have hr1:zco env1 m G:=⟨λj=>by rw[hE1];exact hr.get j,by rw[hE1];exact hr.df,λid h=>hr.men id (hM1 id h)⟩
   split at h
   ·rename_i v hv
    rw[vH]at h
    obtain⟨G',m',h',hG',hr'⟩:=vJ h hG hch hdd hr1
    exact ih _ G' m' K _ _ h' hG' hrest hr' (.cons Gg ht)
   ·split at h
    ·exact h.elim
    ·split at h
     ·simp[chB]at hch
     ·split at h
      ·obtain⟨hpk,v,hv,h⟩:=h
       obtain⟨G',m',h',hG',hr'⟩:=vJ h hG hch hdd hr1
       exact ih _ G' m' _ _ _ h' hG' hrest hr' (.cons Gg ht)
      ·exact absurd h.out.1 (by decide)
  unfold rO
  rcases hgd with⟨hgn,hg,_⟩ |⟨j,want,d,hgs,hd,hgd⟩
  ·simp only[hgn]
   exact run hg env (λ_=>rfl) λ_ h=>h
  ·simp only[hgs,hd]
   rcases hgd with⟨c,hc,hcg⟩ |⟨hc,hg⟩
   ·have hcd:env.get d = .data (.val (.bool c)):=by
     rcases hr.get d with q |q
     ·rw[hc]at q;simp at q
     ·rw[<-q,hc]
    simp only[hcd]
    unfold Br
    cases hg:g with
    |true=>
     rw[hg]at hcg
     have:c=want:=by simpa using hcg
     subst this
     simp only[hcg]
     exact run hg _ (fun j => by rw[Env.get_cons];split;·rename_i e;rw[<-e,hcd];rfl
                                 ·rfl) λid h=>by rw[sG]at h;simpa[AV.b,AV.men]using h
    |false=>
     rw[hg]at hcg
     simp only[hcg]
     have hnw:(!want)=c:=by cases c<;>cases want<;>simp_all
     rw[hnw]
     exact skip hg _ (fun j => by rw[Env.get_cons];split;·rename_i e;rw[<-e,hcd];rfl
                                  ·rfl) λid h=>by rw[sG]at h;simpa[AV.b,AV.men]using h
   ·have hcd:env.get d = .data (.val undef):=by
     rcases hr.get d with q |q
     ·rw[hc]at q;simp at q
     ·rw[<-q,hc]
    simp only[hcd,undef]
    exact skip hg env (λ_=>rfl) λ_ h=>h
end
theorem eP.shift{N N':aS}{M M':Mem}{w w':World}{id:Nat}{blk:Block}(h:eP N M w id blk)(hid:M' id=M id)(k:fJ w (Fb N M) w' (Fb N' M'))(hsz:w.heap.size<=w'.heap.size)
  (sh:∀b arr t,dJ w b arr t->∃arr',dJ w' b arr' t/\arr'.size=arr.size) (hb:∀b o,M.R b o->w'.heap[b]? = w.heap[b]?) (hm:∀id',blk.men id'=true->Tr M M' id'):eP N' M' w' id blk:=by
 cases blk with
 |cells cs=>
  obtain⟨b,arr,t,e1,e2,e3,e4⟩:=h
  exact⟨b,arr,t,hid.trans e1,(hb b 0 ⟨id,_,e1,rfl⟩).trans e2,e3,λi c e=>(e4 i c e).keep2 k sh λid' hi=>hm id' (by simp only[Block.men];exact kU e hi)⟩
 |arr vr sz es=>
  rcases h with⟨b,arr,t,e1,e2,e3,e4,e5⟩ |⟨e1,e2⟩
  ·exact .inl ⟨b,arr,t,hid.trans e1,(hb b 0 ⟨id,_,e1,rfl⟩).trans e2,e3,e4,λi j e d he hd=>⟨(e5 i j e d he hd).1.keep k,(e5 i j e d he hd).2⟩⟩
  ·exact .inr ⟨hid.trans e1,e2⟩
 |tok sz n=>
  rcases h with⟨e1,e2⟩ |⟨b,arr,t,e1,e2⟩
  ·exact .inl ⟨hid.trans e1,e2⟩
  ·obtain⟨arr',e3,_⟩:=sh b arr t e2
   exact .inr ⟨b,arr',t,hid.trans e1,e3⟩
 |map g l es=>
  obtain⟨b,mes,clock,e1,e2,e3,est,e4⟩:=h
  exact⟨b,mes,clock,hid.trans e1,(hb b 0 ⟨id,_,e1,rfl⟩).trans e2,e3,est,λi x e=>by
   obtain⟨f0,m',f1,f2,f3⟩:=e4 i x e
   exact⟨f0,m',f1,f2.keep k,f3.keep k⟩⟩
 |dead=>trivial
 |adr i b=>exact aF.keep2 h k sh λid' hi=>hm id' hi
 |rnd R=>
  obtain⟨l,S,e1,e2⟩:=h
  exact⟨l,S,hid.trans e1,R.keep e2 (λb o hS=>.inr ⟨_,_,hid.trans e1,o,Nat.le_refl _,hS⟩) hsz (λb o hS=>hb b o ⟨id,_,e1,o,Nat.le_refl _,hS⟩) k sh⟩
abbrev zq(F:aS)(Mb:Mem):aS:=λb o=>F b o/\¬Mb.R b o
structure RB(rec:Go.Loop)(l0:Nat)(bk:List Nat)(Mτ:Mem)(tmps:Array Value)(e0:Env)(H:Heap)(S:Nat->Nat->Prop)(F:aS)(w:World)(Mb:Mem):Prop where
 dom:∀id,id ∉ bk->Mb id=none
 own:∀b o,S b o↔b=l0\/Mb.R b o
 foe:∀b o,S b o->F b o
 lrec:w.heap[l0]? = some (.loop rec)
 lfree:∀o,¬Mb.R l0 o
 disj:∀id id' ow ow' b o,id≠id'->Mb id=some ow->Mb id'=some ow'->ow.has b o->ow'.has b o->False
 tr:∀id∈bk,Tr Mτ Mb id
 heap:∀id blk,H.get id=some blk->eP (zq F Mb) Mb w id blk
 env:∀j,aF (zq F Mb) Mb w (e0.get j) (tmps.getD j undef)
theorem O7{F:aS}{Mb:Mem}(h:∀b o,Mb.R b o->F b o):Fb (zq F Mb) Mb=F:=by
 funext b o
 apply propext
 constructor
 ·rintro(h1 |h1)<;>simp_all
 ·intro h1
  by_cases h2:Mb.R b o
  ·exact .inr h2
  ·exact .inl ⟨h1,h2⟩
section
variable {rec : Go.Loop} {l0 : Nat} {bk : List Nat} {Mτ : Mem} {tmps : Array Value} {e0 : Env} {H : Heap} {S : Nat → Nat → Prop} {F F' : aS} {w w' : World} {Mb : Mem}
theorem RB.sub(h:RB rec l0 bk Mτ tmps e0 H S F w Mb):∀b o,Mb.R b o->F b o:=λb o hR=>h.foe b o ((h.own b o).2 (.inr hR))
theorem RB.fb(h:RB rec l0 bk Mτ tmps e0 H S F w Mb):Fb (zq F Mb) Mb=F:=O7 h.sub
theorem RB.keep(h:RB rec l0 bk Mτ tmps e0 H S F w Mb)(hF:∀b o,S b o->F' b o)(hsz:w.heap.size<=w'.heap.size)(hs:∀b o,S b o->w'.heap[b]? = w.heap[b]?)(k:fJ w F w' F')
  (sh:∀b arr t,dJ w b arr t->∃arr',dJ w' b arr' t/\arr'.size=arr.size):RB rec l0 bk Mτ tmps e0 H S F' w' Mb:=by
 have e1:Fb (zq F' Mb) Mb=F':=O7 λb o hR=>hF b o ((h.own b o).2 (.inr hR))
 have k':fJ w (Fb (zq F Mb) Mb) w' (Fb (zq F' Mb) Mb):=by rw[h.fb,e1];exact k
 exact⟨h.dom,h.own,hF,(hs l0 0 ((h.own _ _).2 (.inl rfl))).trans h.lrec,h.lfree,h.disj,h.tr,
  λid blk hg=>(h.heap id blk hg).shift rfl k' hsz sh (λb o hR=>hs b o ((h.own b o).2 (.inr hR))) λ_ _=>.inl rfl,
  λj=>(h.env j).keep2 k' sh λ_ _=>.inl rfl⟩
end
def xC(rec:Go.Loop)(l0:Nat)(bk:List Nat)(Mτ:Mem)(tmps:Array Value)(e0:Env)(H:Heap):RP:=
 ⟨λl S F w=>l=l0/\∃Mb,RB rec l0 bk Mτ tmps e0 H S F w Mb,λh1 h2 h3 h4 h5 h6=>by
  obtain⟨e,Mb,rb⟩:=h1
  exact⟨e,Mb,rb.keep h2 h3 h4 h5 h6⟩⟩
theorem RB.memOk{rec:Go.Loop}{l0:Nat}{bk:List Nat}{Mτ:Mem}{tmps:Array Value}{e0:Env}{H:Heap}{S:Nat->Nat->Prop}{N:aS}{M:Mem}{w:World}{Mb:Mem}{y:Nat}
  (h:RB rec l0 bk Mτ tmps e0 H S (Fb N M) w Mb) (m:bT N M w) (hM:M y=some (.rnd l0 S)):bT (zq (Fb N M) Mb) Mb w:=by
 have hS:∀b o,Mb.R b o->M.R b o:=λb o hR=>⟨y,_,hM,o,Nat.le_refl _,(h.own b o).2 (.inr hR)⟩
 have hlt:∀b o,M.R b o->b<w.heap.size:=λb o ⟨id,ow,h1,h2⟩=>(m.dom id ow b o h1 h2).1
 refine⟨h.disj,λid ow b o h1 h2=>⟨hlt b o (hS b o ⟨id,ow,h1,h2⟩),λh3=>h3.2 ⟨id,ow,h1,h2⟩⟩,λb o h1=>?_,λg cs hg=>⟨λo ho=>⟨.inl ((m.glob g cs hg).1 o ho),?_⟩,(m.glob g cs hg).2.1,λj v hj=>⟨?_,((m.glob g cs hg).2.2 j v hj).2⟩⟩⟩
 ·rcases h1.1 with h2 |h2
  ·exact m.foes b o h2
  grind
 ·intro hR
  obtain⟨id,ow,h1,h2⟩:=hS g o hR
  exact m.globNone hg h1 h2
 ·rintro⟨h1 |⟨id,ow,h1,h2⟩,_⟩
  ·exact((m.glob g cs hg).2.2 j v hj).1 h1
  ·exact m.globFree hg hj h1 h2
theorem Bc{n:Nat}(hn:n<=gq):∀{ps:List Nat} {xs:List D} {e:Env},(∀p∈ps,p<n)->(iJ ps xs e).get gq=e.get gq
 | [],_,e,_=>by simp[iJ]
 |p::ps,[],e,_=>by simp[iJ]
 |p::ps,x::xs,e,h=>by
  rw[iJ,Bc hn λq hq=>h q (by simp[hq]),Env.get_cons,if_neg]
  have:=h p (by simp);omega
theorem Be{N:aS}{M:Mem}{w:World}{n:Nat}:∀{ps:List Nat} {xs:List D} {vs:List Value} {e:Env} {tmps:Array Value},(∀p∈ps,p<n)->tmps.size=n->ps.length=xs.length->vs.length=xs.length ->
  (∀(i:Nat) x,xs[i]? = some x->aF N M w (.data x) (vs.getD i undef))->(∀j,aF N M w (e.get j) (tmps.getD j undef)) ->
  ((ps.zip vs).foldl (λt (p:Nat×Value)=>t.setIfInBounds p.1 p.2) tmps).size=n/\∀j,aF N M w ((iJ ps xs e).get j) (((ps.zip vs).foldl (λt (p:Nat×Value)=>t.setIfInBounds p.1 p.2) tmps).getD j undef)
 | [],[],vs,e,tmps,_,hs,_,_,_,he=>⟨hs,he⟩
 |p::ps,x::xs,[],e,tmps,_,_,_,h,_,_=>by simp at h
 |p::ps,x::xs,v::vs,e,tmps,h1,hs,h2,h3,hx,he=>by
  rw[List.zip_cons_cons]
  refine Be (λq hq=>h1 q (by simp[hq])) (by simpa using hs) (by simpa using h2) (by simpa using h3) (λi y hy=>by simpa using hx (i+1) y (by simpa using hy)) λj=>?_
  rw[Env.get_cons]
  split
  ·have:=hx 0 x rfl
   simp_all
  simp_all
def pG(rec:Go.Loop):Option RK->Go.Loop
 |some (.pan _)=>{ rec with state:=.busy }
 |k=>{ rec with state:=if(k.map RK.code).isNone then .ready else .done,pending:=k.map RK.code }
theorem Bf{w:World}{l:Nat}{o:Obj}(h:w.heap[l]? = some o):w.putObj l o=w:=by
 have e:w.heap.setIfInBounds l o=w.heap:=by
  grind
 unfold World.putObj;rw[e]
def Sl(P:Program)(l:Nat)(R:Ending->World->Prop):Exit->Act->World->Prop
 | .panic chain,a,w=>a.defers = []/\R (.panicked chain) w
 |e,a,w=>roundPost P l R e a w
theorem Sr{P:Program}{l:Nat}{f:FuncId}{tmps:Array Value}{assign body:Code}{w:World}{R:Ending->World->Prop}(hf:∃fn,P.funcs[f]? = some fn)
  (h:mQ (some l) P assign (Exit.then (λa₁ w₁=>∃w₂,(Instr.beginRound l).run P w₁ = .ok () w₂/\mQ (some l) P body (Sl P l R) a₁ w₂) (λ_ _ _=>False)) { tmps:=tmps,defers:=[] } w) :
  RoundIn Fence.wide 0 P l f tmps assign body w R:=by
 refine⟨trivial,λc cs hr=>?_⟩
 let b:Frame:={ (default:Frame)with fn:=f,kind:=.normal,roundOf:=some l }
 have hb0:Frame.round l f tmps assign body .normal=b.atR { tmps:=tmps,defers:=[] } [.code assign,.beginRound,.code body]:=by
  rfl
 have room:∀n,(FR (some l)).room n:=mP _
 obtain⟨e,a1,w1,hq,harr⟩:=h b [.beginRound,.code body] (c::cs) rfl hf
 cases e with
 |normal=>
  obtain⟨w2,hbr,hbody⟩:=hq
  have s1:StepsIn (Machine.fenced P (FR (some l))) P (lone (b.atR a1 [.beginRound,.code body]) (c::cs) w1) (lone (b.atR a1 [.code body]) (c::cs) w2):=
   .one (fenced_calm (n:=0) (fr:=b.atR a1 [.beginRound,.code body]) trivial (room _) rfl) (stepR_beginRound rfl hbr)
  obtain⟨e2,a2,w3,hq2,harr2⟩:=hbody b [] (c::cs) rfl hf
  have go:=StepsIn.trans harr s1
  cases e2 with
  |normal=>
   obtain⟨v,w4,hend,hR⟩:=hq2
   exact⟨.returned v,w4,hR,go.trans (StepsIn.trans harr2 (.one (fenced_calm (n:=0) (fr:=b.atR a2 []) trivial (room _) rfl) (stepR_round_end rfl rfl hend)))⟩
  |ret=>
   obtain⟨v,w4,hend,hR⟩:=hq2
   obtain⟨k1,hs⟩:=harr2.2 rfl
   exact⟨.returned v,w4,hR,go.trans (StepsIn.trans hs (.one (fenced_calm (n:=0) (fr:=b.atR a2 (.code .ret::k1)) trivial (room _) rfl) (stepR_round_ret rfl rfl hend)))⟩
  |exit id=>
   obtain⟨v,w4,hend,hR⟩:=hq2
   obtain⟨k1,hk,hs⟩:=harr2.2 rfl rfl
   exact⟨.returned v,w4,hR,go.trans (StepsIn.trans hs (.one (fenced_calm (n:=0) (fr:=b.atR a2 (.code (.exit id)::k1)) trivial (room _) rfl) (stepR_round_exit rfl rfl hk hend)))⟩
  |goto t=>
   obtain⟨v,w4,hend,hR⟩:=hq2
   obtain⟨k1,hk,hs⟩:=harr2.2 rfl rfl
   exact⟨.returned v,w4,hR,go.trans (StepsIn.trans hs (.one (fenced_calm (n:=0) (fr:=b.atR a2 (.code (.goto t)::k1)) trivial (room _) rfl) (stepR_round_goto rfl rfl hk hend)))⟩
  |panic chain=>
   obtain⟨hd,hR⟩:=hq2
   obtain⟨todo,hs⟩:=harr2
   obtain⟨fn,hf⟩:=hf
   have hl:({ b.atR a2 todo with mode:=.panicking chain }:Frame).leaving P w3 (.panicked chain):=⟨rfl,hd,fn,hf⟩
   exact⟨.panicked chain,w3,hR,go.trans (StepsIn.trans hs (.one (fenced_leaving (n:=0) trivial (room _) hl) (step_leave_panicked hl)))⟩
  |outgrown=>exact hq2.elim
 |exit id=>exact hq.elim
 |goto t=>exact hq.elim
 |ret=>exact hq.elim
 |panic chain=>exact hq.elim
 |outgrown=>exact hq.elim
theorem Vu{P:Program}{l:Nat}{r:Go.Loop}{w:World}{vs:List Value}(h:w.heap[l]? = some (.loop r))(hs:vs.length=r.params.size) :
  (Instr.yield l vs.toArray).run P w = .ok (.round l r.fn ((r.params.toList.zip vs).foldl (λt (p:Nat×Value)=>t.setIfInBounds p.1 p.2) r.tmps) r.assign r.body) w:=by
 rw[run_yield h (by simpa using hs)]
 rw[<-Array.foldl_toList,Array.toList_zip]
theorem Zl{M0 M:Mem}{w0 w:World}{b:Nat}(e:Evo M0 w0 M w)(hb:b<w0.heap.size)(h:∀o,¬M0.R b o):∀o,¬M.R b o:=λo h2=>h o (e.own b o hb h2)
theorem Vw{rec rec' recq:Go.Loop}{l0:Nat}{bk:List Nat}{Mτ:Mem}{tmps:Array Value}{e0:Env}{H H':Heap}{S:Nat->Nat->Prop}{N:aS}{M:Mem}{w:World}{Mb M2:Mem}{n:Nat}{a:Act}{wq:World}[Lo]
  (rb:RB rec l0 bk Mτ tmps e0 H S (Fb N M) w Mb) (m:bT N M w) (hM:M 1000000=some (.rnd l0 S)) (hlent:∀id∈bk,bI id=true) (hk:∀id b,H'.get id=some b->id∈bk)
  (hwq:wq.heap[l0]? = some (.loop recq)) (ho:wq.os=w.os/\wq.tape=w.tape/\wq.output=w.output) (hwsz:w.heap.size<=wq.heap.size)
  (heb:∀b,b<w.heap.size->(∀o,¬Mb.R b o)->b≠l0->wq.heap[b]? = w.heap[b]?) (hec:∀b o u,¬Mb.R b o->w.cell? ⟨b,o,none⟩=some u->wq.cell? ⟨b,o,none⟩=some u)
  (hes:∀b arr t,dJ w b arr t->∃arr',dJ wq b arr' t/\arr'.size=arr.size) (heo:∀b o,b<w.heap.size->M2.R b o->Mb.R b o) (het:∀id,bI id=true->Tr Mb M2 id)
  (s:St (zq (Fb N M) Mb) M2 n [] H' a wq) :
  ∃M',Step M w M' (wq.putObj l0 (.loop rec')) [1000000]/\Tr M M' 1000000/\eP N M' (wq.putObj l0 (.loop rec')) 1000000 (.rnd (xC rec' l0 bk Mτ tmps e0 H'))/\∀b o,Fb N M' b o->Fb (zq (Fb N M) Mb) M2 b o:=by
 have hl0:l0<wq.heap.size:=(Array.getElem?_eq_some_iff.1 hwq).1
 have hl1:l0<w.heap.size:=(Array.getElem?_eq_some_iff.1 rb.lrec).1
 have hfree:∀o,¬M2.R l0 o:=λo h=>rb.lfree o (heo l0 o hl1 h)
 have q:Quiet M2 wq (wq.putObj l0 (.loop rec')) l0:=qm hwq (λ_ _ _ h=>by cases h) hfree _
 obtain⟨Mr,hMr⟩:∃Mr:Mem,Mr=λid=>match nU bk id with |true=>M2 id |false=>none:=⟨_,rfl⟩
 have hin:∀id,id∈bk->Mr id=M2 id:=λid h=>by grind[bf]
 have hout:∀id,id ∉ bk->Mr id=none:=λid h=>by
  grind[nU,id,absurd,bf]
 have hRr:∀b o,Mr.R b o->M2.R b o:=by
  rintro b o ⟨id,ow,h1,h2⟩
  by_cases h:id∈bk
  ·rw[hin id h]at h1;exact⟨id,ow,h1,h2⟩
  simp_all
 obtain⟨S',hS'⟩:∃S':Nat->Nat->Prop,S'=λb o=>b=l0\/Mr.R b o:=⟨_,rfl⟩
 obtain⟨M',hM'⟩:∃M':Mem,M'=λid=>if id=1000000 then some (.rnd l0 S')else M id:=⟨_,rfl⟩
 have hMy:M' 1000000=some (.rnd l0 S'):=by rw[hM'];simp
 have hMo:∀id,id≠1000000->M' id=M id:=λid h=>by simp_all
 have hSl:∀o,M.R l0 o:=λo=>⟨_,_,hM,o,Nat.le_refl _,(rb.own _ _).2 (.inl rfl)⟩
 have hSb:∀b o,Mb.R b o->S b o:=λb o h=>(rb.own b o).2 (.inr h)
 have mR:∀b o,M2.R b o->b<wq.heap.size:=λb o ⟨id,ow,h1,h2⟩=>(s.mem.dom id ow b o h1 h2).1
 -- what is forbidden
 have hfb:∀b o,Fb N M' b o->Fb (zq (Fb N M) Mb) M2 b o:=by
  intro b o h
  have other:Fb N M b o->¬Mb.R b o->Fb (zq (Fb N M) Mb) M2 b o:=λh1 h2=>.inl ⟨h1,h2⟩
  rcases h with h |⟨id,ow,h1,h2⟩
  ·exact other (.inl h) λh3=>(m.dom _ _ b o hM ⟨o,Nat.le_refl _,hSb b o h3⟩).2 h
  ·by_cases hid:id=1000000
   ·subst hid
    rw[hMy]at h1
    simp only[Option.some.injEq]at h1;subst h1
    obtain⟨i,hi,h3⟩:=h2
    rw[hS']at h3
    rcases h3 with rfl |h3
    ·exact other (.inr (hSl o)) (rb.lfree o)
    ·obtain⟨id',ow',h4,h5⟩:=hRr b i h3
     exact .inr ⟨id',ow',h4,Own.has_of h5 hi⟩
   ·rw[hMo id hid]at h1
    exact other (.inr ⟨id,ow,h1,h2⟩) λh3=>m.disj id 1000000 ow _ b o hid h1 hM h2 ⟨o,Nat.le_refl _,hSb b o h3⟩
 have hsub:∀b o,Mr.R b o->Fb N M' b o:=λb o h=>.inr ⟨1000000,_,hMy,o,Nat.le_refl _,by simp_all⟩
 have efb:Fb (zq (Fb N M') Mr) Mr=Fb N M':=O7 hsub
 have kq:fJ wq (Fb (zq (Fb N M) Mb) M2) (wq.putObj l0 (.loop rec')) (Fb (zq (Fb N M') Mr) Mr):=by
  intro b o u hf hc
  rw[efb]
  exact⟨λh=>hf (hfb b o h),(q.keeps (λ_ _=>False) b o u (λh=>h) hc).2⟩
 have htrr:∀id,Tr M2 Mr id:=by
  intro id
  by_cases h:id∈bk
  ·exact .inl (hin id h)
  ·exact .inr (.inr (.inr (.inr (.inl (hout id h)))))
 have hpb:∀b,b≠l0->(wq.putObj l0 (.loop rec')).heap[b]? = wq.heap[b]?:=λb h=>q.other b h
 have ho2:=ho
 refine⟨M',⟨ho.1,ho.2.1,ho.2.2,by simp_all,?_,?_,?_,?_,?_,?_⟩,?_,⟨l0,S',hMy,rfl,Mr,⟨hout,λb o=>by rw[hS'],λb o h=>?_,World.putObj_heap_same hl0,λo h=>hfree o (hRr _ _ h),?_,?_,?_,?_⟩⟩,hfb⟩
 ·intro b hb h
  have hns:∀o,¬S b o:=λo hs=>h 1000000 (by simp) _ o hM ⟨o,Nat.le_refl _,hs⟩
  have hne:b≠l0:=λe=>hns 0 ((rb.own _ _).2 (.inl e))
  grind
 ·intro b o u h hc
  have hns:¬S b o:=λhs=>h 1000000 (by simp) _ hM ⟨o,Nat.le_refl _,hs⟩
  exact(q.keeps (λ_ _=>False) b o u (λh=>h) (hec b o u (λhR=>hns (hSb b o hR)) hc)).2
 ·grind
 ·simp_all
 ·intro id hid ow b o h1 h2
  have hid:id=1000000:=by simpa using hid
  subst hid
  rw[hMy]at h1
  simp only[Option.some.injEq]at h1;subst h1
  obtain⟨i,hi,h3⟩:=h2
  rw[hS']at h3
  rw[World.putObj_size]
  rcases h3 with rfl |h3
  ·exact⟨hl0,.inr ⟨1000000,by simp,_,hM,i,hi,(rb.own _ _).2 (.inl rfl)⟩⟩
  ·refine⟨mR b i (hRr b i h3),?_⟩
   rcases Nat.lt_or_ge b w.heap.size with hlt |hge
   ·exact .inr ⟨1000000,by simp,_,hM,i,hi,hSb b i (heo b i hlt (hRr b i h3))⟩
   omega
 ·simp
 ·exact .inr (.inr (.inr (.inr (.inr (.inl ⟨l0,S,S',hM,hMy⟩)))))
 ·exact .inr ⟨1000000,_,hMy,o,Nat.le_refl _,h⟩
 ·intro id id' ow ow' b o hne h1 h2
  by_cases h3:id∈bk
  ·by_cases h4:id'∈bk
   ·rw[hin id h3]at h1;rw[hin id' h4]at h2
    exact s.mem.disj id id' ow ow' b o hne h1 h2
   simp_all
  simp_all
 ·intro id hid
  have h1:=(rb.tr id hid).trans (het id (hlent id hid))
  grind[Tr,id]
 ·intro id blk hg
  exact(s.heap id blk hg).shift (hin id (hk id blk hg)) kq (Nat.le_of_eq q.size.symm) q.shape (λb o hR=>q.at hR) λid' _=>htrr id'
 ·intro j
  refine(rb.env j).keep2 (λb o u hf hc=>?_) (λb arr t h=>?_) λid _=>?_
  ·rw[rb.fb]at hf
   rw[efb]
   refine⟨λh=>?_,(q.keeps (λ_ _=>False) b o u (λh=>h) (hec b o u (λhR=>hf (rb.sub b o hR)) hc)).2⟩
   rcases hfb b o h with h1 |h1
   ·exact hf h1.1
   ·exact hf (rb.sub b o (heo b o (block_lt hc) h1))
  ·grind
  grind[id,Tr]
theorem Et{P:Program}{rec:Go.Loop}{n:Nat}{bk:List Nat}{l0:Nat}{Mτ:Mem}{e0:Env}{H H':Heap}{xs:List D}{k:Option RK}(hfn:∃fn,P.funcs[rec.fn]? = some fn)(hready:rec.state = .ready)
  (hsa:cZ n rec.assign=true) (hsb:cZ n rec.body=true) (hna:qg rec.assign=true) (hnb:qg rec.body=true) (hps:rec.params.size=xs.length) (hpn:∀p∈rec.params.toList,p<n) (hts:rec.tmps.size=n) (hn:n<=gq)
  (he0:e0.get gq = .top) (hlent:∀id∈bk,bI id=true) (hk:∀id b,H'.get id=some b->id∈bk)
  (hA:U2 P rec.assign (OY λe K=>U2 P rec.body (O0 k H') e K) (iJ rec.params.toList xs e0) H) :
  LC (Yields P) (.yld 1000000::xs.map .data) [(1000000,.rnd (xC rec l0 bk Mτ rec.tmps e0 H))] (RK.yo k) [(1000000,.rnd (xC (pG rec k) l0 bk Mτ rec.tmps e0 H'))]:=by
 intro N M w args m _ hsz harg hblk
 obtain⟨l,S,hM,rfl,Mb,rb⟩:=hblk 1000000 _ (by rfl)
 -- the arguments
 obtain⟨x,vs,hargs⟩:∃x vs,args = #[x]++(vs:List Value).toArray:=by
  cases h:args.toList with
  |nil=>simp_all
  |cons x vs=>exact⟨x,vs,by grind⟩
 subst hargs
 have hvs:vs.length=xs.length:=by simpa using hsz
 have hx:x = .func (.yield l) #[] #[]:=by
  have h0:=harg 0 (.yld 1000000) rfl
  have e:(#[x]++vs.toArray).getD 0 undef=x:=by simp
  rw[e]at h0
  cases h0 with
  |yld _ l' h=>rw[h l S hM]
 subst hx
 have hvr:∀(i:Nat) y,xs[i]? = some y->aF (zq (Fb N M) Mb) Mb w (.data y) (vs.getD i undef):=by
  intro i y hy
  have h0:=harg (i+1) (.data y) (by simp[hy])
  have e:(#[Value.func (.yield l) #[] #[]]++vs.toArray).getD (i+1) undef=vs.getD i undef:=by simp
  rw[e]at h0
  cases h0 with
  |data _ _ h=>exact .data _ _ (by rw[rb.fb];exact h)
 have hrun:=Vu (P:=P) rb.lrec (vs:=vs) (by rw[hvs,hps])
 refine⟨l,vs.toArray,rfl,_,_,_,_,hrun,Sr hfn ?_⟩
 letI:Lo:=⟨λ_=>False⟩
 obtain⟨hsz1,henv1⟩:=Be (N:=zq (Fb N M) Mb) (M:=Mb) (w:=w) (n:=n) (vs:=vs) hpn hts (by omega) hvs hvr rb.env
 have hdf:(iJ rec.params.toList xs e0).get gq = .top:=(Bc hn hpn).trans he0
 have st0:St (zq (Fb N M) Mb) Mb n (iJ rec.params.toList xs e0) H { tmps:=_,defers:=[] } w:=
  ⟨hsz1,hn,yQ.nil (λcs e=>by simp_all),henv1,rb.heap,rb.memOk m hM⟩
 refine hA (some l) _ n Mb w _ Mb _ w hsa (λ_=>hna) (λh=>by cases h) st0 (Evo.refl Mb w) ?_
 intro o env K M1 a w1 hQ s1 e1
 obtain⟨rfl,hB⟩:=hQ
 have hl1:l<w.heap.size:=(Array.getElem?_eq_some_iff.1 rb.lrec).1
 have hr1:w1.heap[l]? = some (.loop rec):=(e1.block l hl1 rb.lfree).trans rb.lrec
 have hfree1:=Zl e1 hl1 rb.lfree
 have q1:Quiet M1 w1 (w1.putObj l (.loop { rec with state:=.busy })) l:=qm hr1 (λ_ _ _ h=>by cases h) hfree1 _
 refine⟨_,run_beginRound hr1 hready,?_⟩
 have sv:=q1.sv s1.sv
 have s2:St (zq (Fb N M) Mb) M1 n env K a (w1.putObj l (.loop { rec with state:=.busy })):=
  ⟨s1.size,s1.big,⟨s1.defers.real.keep (q1.keeps _) q1.shape λ_ _=>.inl rfl,s1.defers.nodup,λb hb=>(s1.defers.mark b hb).2.elim⟩,sv.env,sv.heap,sv.mem⟩
 refine hB (some l) _ n M1 _ _ M1 a _ hsb (λ_=>hnb) (λh=>by cases h) s2 (Evo.refl M1 _) ?_
 intro o env2 K2 M2 a2 w2 hQ s3 e3
 obtain⟨rfl,hw⟩:=hQ
 obtain⟨M3,s4,e4,hM3⟩:∃M3,St (zq (Fb N M) Mb) M3 n [] H' a2 w2/\Evo M1 (w1.putObj l (.loop { rec with state:=.busy })) M3 w2/\∀d,k=some (.pan d)->M3=M2:=by
  have weak:AX env2 K2 [] H'->∃M3,St (zq (Fb N M) Mb) M3 n [] H' a2 w2/\Evo M1 (w1.putObj l (.loop { rec with state:=.busy })) M3 w2:=λhw=>by
   rw[qQ]at hw
   exact s3.weak e3 hw
  match k,hw with
  |none,hw=>simp_all
  |some .ret,hw=>simp_all
  |some (.exit _),hw=>simp_all
  |some (.pan d),hw=>
   obtain⟨hd,hs⟩:=hw
   refine⟨M2,⟨s3.size,s3.big,?_,λj=>.top _,λid blk hg=>s3.heap id blk (OZ hs id blk hg),s3.mem⟩,e3,λ_ _=>rfl⟩
   have:=s3.defers
   rw[hd]at this
   exact this
 have hl2:l<(w1.putObj l (.loop { rec with state:=.busy })).heap.size:=by grind[World.putObj_size,Nat.lt_of_lt_of_le]
 have hr2:w2.heap[l]? = some (.loop { rec with state:=.busy }):=(e4.block l hl2 hfree1).trans (World.putObj_heap_same (Nat.lt_of_lt_of_le hl1 e1.size))
 have hos:w2.os=w.os:=e4.os.trans (q1.os.trans e1.os)
 have hcell:∀b o u,¬Mb.R b o->w.cell? ⟨b,o,none⟩=some u->w2.cell? ⟨b,o,none⟩=some u:=λb o u h hc=>
  e4.cell b o u (λh'=>h (e1.own b o (block_lt hc) h')) (q1.keeps (λ_ _=>False) b o u (λh=>h) (e1.cell b o u h hc)).2
 have hshape:∀b arr t,dJ w b arr t->∃arr',dJ w2 b arr' t/\arr'.size=arr.size:=by
  intro b arr t h
  obtain⟨a1,h1,h2⟩:=e1.shape b arr t h
  obtain⟨a2,h3,h4⟩:=q1.shape b a1 t h1
  obtain⟨a3,h5,h6⟩:=e4.shape b a2 t h3
  grind
 have hsz3:w.heap.size<=w2.heap.size:=Nat.le_trans e1.size (by have:=e4.size;simp_all)
 have key:=λrec'=>Vw (rec':=rec') (bk:=bk) rb m hM hlent hk hr2 ⟨hos,e4.tape.trans (q1.tape.trans e1.tape),e4.output.trans (q1.output.trans e1.output)⟩ hsz3
  (λb hb h hne=>(e4.block b (by rw[World.putObj_size];exact Nat.lt_of_lt_of_le hb e1.size) (λo h'=>h o (e1.own b o hb h'))).trans ((q1.other b hne).trans (e1.block b hb h)))
  hcell hshape (λb o hb h=>e1.own b o hb (e4.own b o (by rw[World.putObj_size];exact Nat.lt_of_lt_of_le hb e1.size) h)) (λid h=>(e1.lent id h).trans (e4.lent id h)) s4
 have fin:∀jump:Option Code,pG rec k = { rec with state:=if jump.isNone then .ready else .done,pending:=jump }->∃v w',(Instr.endRound l jump).run P w2 = .ok v w' /\
   (∃M',Step M w M' w' (keys [(1000000,Block.rnd (xC (pG rec k) l bk Mτ rec.tmps e0 H'))])/\(∀id∈keys [(1000000,Block.rnd (xC rec l bk Mτ rec.tmps e0 H))],Tr M M' id)/\(∀id blk,Heap.get [(1000000,Block.rnd (xC (pG rec k) l bk Mτ rec.tmps e0 H'))] id=some blk->eP N M' w' id blk)/\(gG.ret (.b jump.isNone)).rel N M' w' (.returned v)):=by
  intro jump hj
  refine⟨_,_,run_endRound jump hr2,?_⟩
  have hj':({ { rec with state:=LoopState.busy } with state:=if jump.isNone then .ready else .done,pending:=jump }:Go.Loop)=pG rec k:=hj.symm
  rw[hj']
  obtain⟨M',h1,h2,h3,_⟩:=key (pG rec k)
  refine⟨M',h1,λid hid=>?_,λid blk hg=>?_,_,rfl,.data _ _ (.val _)⟩<;>grind[keys,List.mem_singleton,Heap.get_cons,Option.some.injEq,Heap.get]
 cases k with
 |none=>exact fin none rfl
 |some k=>
  cases k with
  |ret=>exact fin (some .ret) rfl
  |exit i=>exact fin (some (.exit i)) rfl
  |pan d=>
   intro v hv
   obtain rfl:=hM3 d rfl
   refine⟨s4.defers.none (λcs e=>by cases e) (λb h=>h),?_⟩
   obtain⟨M',h1,h2,h3,h4⟩:=key { rec with state:=.busy }
   rw[Bf hr2]at h1 h3
   refine⟨M',h1,λid hid=>?_,λid blk hg=>?_,v,rfl,?_⟩
   ·grind[keys,List.mem_singleton]
   ·rw[Heap.get_cons]at hg
    split at hg
    ·rename_i e;subst e;simp at hg;subst hg;exact h3
    grind[Heap.get]
   ·cases hv with
    |data _ _ h=>exact .data _ _ (h.keep λb o u hf hc=>⟨λh5=>hf (h4 b o h5),hc⟩)
end Go.Fw
namespace Go.Fw
variable [ae] {N : aS} {rec : Go.Loop} {v : AV} {w : World} {P : Program} {R : kZ}
theorem tY{ρ:List (Nat×Nat)}:∀{x:AV} {id:Nat},(x.ren ρ).men id=true->∃k,x.men k=true/\rn ρ k=id:=by
 intro x id h
 have go:∀(cs:List AV),(∀c∈cs,(c.ren ρ).men id=true->∃k,c.men k=true/\rn ρ k=id)->AV.men.go id (AV.ren.go ρ cs)=true->∃k,AV.men.go k cs=true/\rn ρ k=id:=by
  intro cs
  induction cs with
  |nil=>intro _ h;simp[AV.men.go,AV.ren.go]at h
  |cons c r ih=>
   intro hc h
   simp only[AV.men.go,AV.ren.go]at h
   split at h
   ·rename_i hm
    obtain⟨k,h1,h2⟩:=hc c (by simp) hm
    exact⟨k,by simp[AV.men.go,h1],h2⟩
   ·obtain⟨k,h1,h2⟩:=ih (λc' h'=>hc c' (by simp[h'])) h
    refine⟨k,?_,h2⟩
    simp only[AV.men.go];split
    ·rfl
    ·exact h1
 match x with
 | .data _=>simp[AV.men,AV.ren]at h
 | .nilsl _=>simp[AV.men,AV.ren]at h
 | .top=>simp[AV.men,AV.ren]at h
 | .gs i _ _=>simp[AV.men,AV.ren]at h;exact⟨i,by simp[AV.men],h⟩
 | .own i _ _ _ _=>simp[AV.men,AV.ren]at h;exact⟨i,by simp[AV.men],h⟩
 | .ptr i _=>simp[AV.men,AV.ren]at h;exact⟨i,by simp[AV.men],h⟩
 | .eptr i _ _ _ _=>simp[AV.men,AV.ren]at h;exact⟨i,by simp[AV.men],h⟩
 | .map i=>simp[AV.men,AV.ren]at h;exact⟨i,by simp[AV.men],h⟩
 | .yld i=>simp[AV.men,AV.ren]at h;exact⟨i,by simp[AV.men],h⟩
 | .iface t v=>simp only[AV.men,AV.ren]at h;simp only[AV.men];exact tY h
 | .fn f cs=>simp only[AV.men,AV.ren]at h;simp only[AV.men];exact go cs (λc hc hm=>tY hm) h
 | .bnd f cs=>simp only[AV.men,AV.ren]at h;simp only[AV.men];exact go cs (λc hc hm=>tY hm) h
 | .agg cs=>simp only[AV.men,AV.ren]at h;simp only[AV.men];exact go cs (λc hc hm=>tY hm) h
 | .tuple cs=>simp only[AV.men,AV.ren]at h;simp only[AV.men];exact go cs (λc hc hm=>tY hm) h
 | .dfr cs=>simp only[AV.men,AV.ren]at h;simp only[AV.men];exact go cs (λc hc hm=>tY hm) h
termination_by x=>x
theorem MN{ρ:List (Nat×Nat)}{b:Block}{id:Nat}(h:(b.ren ρ).men id=true):∃k,b.men k=true/\rn ρ k=id:=by
 cases b with
 |cells cs=>
  have h:AV.men.go id (AV.ren.go ρ cs)=true:=h
  have:((AV.agg cs).ren ρ).men id=true:=by grind[AV.ren,AV.men]
  obtain⟨k,h1,h2⟩:=tY this
  have h3:AV.men.go k cs=true:=by grind[AV.men]
  exact⟨k,h3,h2⟩
 |adr j c=>exact⟨j,Nat.beq_refl j,Nat.eq_of_beq_eq_true h⟩
 |_=>simp[Block.ren,Block.men]at h
theorem z7m{a b:List Nat}(h:meet a b=false):∀x∈a,x ∉ b:=by
 induction a with
 |nil=>simp
 |cons x r ih=>
  simp[meet]at h
  intro y hy hb
  rcases List.mem_cons.1 hy with rfl |hy<;>grind[bf]
theorem Step.trans{M M' M'':Mem}{w w' w'':World}{W W':List Nat}(m:bT N M w)(s:Step M w M' w' W)(k:Step M' w' M'' w'' W'):Step M w M'' w'' (W++W'):=by
 have own':∀id∈W',∀ow b o,M' id=some ow->ow.has b o->w.heap.size<=b\/∃id0∈W++W',∃ow0,M id0=some ow0/\ow0.has b o:=by
  intro id hid ow b o h1 h2
  by_cases h:id∈W
  ·rcases(s.own id h ow b o h1 h2).2 with h3 |⟨id0,h3,ow0,h4,h5⟩<;>grind
  ·rw[s.mem id h]at h1
   grind
 have m':=s.memOk m
 refine⟨k.os.trans s.os,k.tape.trans s.tape,k.output.trans s.output,Nat.le_trans s.size k.size,?_,?_,?_,?_,?_,?_⟩
 ·intro b hb h
  rw[k.block b (Nat.lt_of_lt_of_le hb s.size) λid hid ow o h1 h2=>?_,s.block b hb λid hid=>h id (by simp[hid])]
  grind
 ·intro b o u h hc
  refine k.cell b o u (λid hid ow h1 h2=>?_) (s.cell b o u (λid hid=>h id (by simp[hid])) hc)
  rcases own' id hid ow b o h1 h2 with h3 |⟨id0,h3,ow0,h4,h5⟩
  ·have:=block_lt hc;omega
  grind
 ·intro b arr t h
  obtain⟨a1,h1,h2⟩:=s.shape b arr t h
  obtain⟨a2,h3,h4⟩:=k.shape b a1 t h1
  grind
 ·intro id hid
  simp at hid
  rw[k.mem id hid.2,s.mem id hid.1]
 ·intro id hid ow b o h1 h2
  by_cases h:id∈W'
  ·obtain⟨h3,h4⟩:=k.own id h ow b o h1 h2
   refine⟨h3,?_⟩
   rcases h4 with h4 |⟨id0,h4,ow0,h5,h6⟩
   ·exact .inl (Nat.le_trans s.size h4)
   grind
  ·rw[k.mem id h]at h1
   have hW:id∈W:=by simp_all
   obtain⟨h3,h4⟩:=s.own id hW ow b o h1 h2
   exact⟨Nat.lt_of_lt_of_le h3 k.size,h4.imp_right λ⟨id0,q1,q2⟩=>⟨id0,by simp[q1],q2⟩⟩
 ·intro id hid id' hid' hne ow ow' b o h1 h2 h3 h4
  have key:∀(id id':Nat),id∈W'->id' ∉ W'->id'∈W->id≠id'->∀(ow ow':Own),M'' id=some ow->M'' id'=some ow'->ow.has b o->ow'.has b o->False:=by
   intro id id' q1 q2 q3 hne ow ow' h1 h2 h3 h4
   rw[k.mem id' q2]at h2
   rcases(k.own id q1 ow b o h1 h3).2 with h5 |⟨id0,h5,ow0,h6,h7⟩
   ·have:=(s.own id' q3 ow' b o h2 h4).1;omega
   ·exact m'.disj id0 id' ow0 ow' b o (λe=>q2 (e ▸ h5)) h6 h2 h7 h4
  by_cases g1:id∈W'<;>by_cases g2:id'∈W'<;>try grind
  ·exact k.disj id g1 id' g2 hne ow ow' b o h1 h2 h3 h4
  ·rw[k.mem id g1]at h1;rw[k.mem id' g2]at h2
   exact s.disj id (by simp_all) id' (by simp_all) hne ow ow' b o h1 h2 h3 h4
theorem U2.mono{c:Code}{Q Q':Post}{env:Env}{K:Heap}(h:U2 P c Q env K)(hq:∀o e K,Q o e K->Q' o e K):U2 P c Q' env K:=by
 intro _ ρ N n M0 w0 Q2 M a w hs hnd hlo s e q
 exact h ρ N n M0 w0 Q2 M a w hs hnd hlo s e λo env K M a w hh=>q o env K M a w (hq _ _ _ hh)
theorem Eu{τ:List (Nat×Nat)}{e1:Env}:∀{e0:Env},O1 τ e1 e0->∀j,e0.get j = .top\/(e0.get j).ren τ=e1.get j
 | [],_,_=>.inl rfl
 |(k,v)::r,h,j=>by
  rw[Env.get_cons]
  split
  ·rename_i e;subst e;exact .inr h.1
  ·exact Eu h.2 j
theorem Zm{M:Mem}{x:AV}{v:Value}{f:FuncId}{caps:List AV}(h:aF N M w x v)(hf:zdi x=some (f,caps)) :
  ∃vs,v = .func (.func f) #[] vs/\vs.size=caps.length/\∀(i:Nat) c,caps[i]? = some c->aF N M w c (vs.getD i undef):=by
 cases h<;>simp[zdi]at hf<;>try(simp at hf)
 ·rename_i d h
  cases h<;>simp at hf<;>try(done)
  rename_i hl h
  obtain⟨rfl,rfl⟩:=hf
  refine⟨_,rfl,by simp[hl],λi c hc=>?_⟩
  simp at hc
  obtain⟨d,hd,rfl⟩:=hc
  exact .data _ _ (h i d hd)
 simp_all
theorem Zn{x:AV}{f:FuncId}{caps:List AV}(hf:zdi x=some (f,caps)){i:Nat}{c:AV}(hc:caps[i]? = some c){id:Nat}(hi:c.men id=true):x.men id=true:=by
 unfold zdi at hf
 split at hf
 ·grind[AV.men,kU]
 ·obtain⟨rfl,rfl⟩:=hf
  simp at hc
  obtain⟨d,_,rfl⟩:=hc
  simp[AV.men]at hi
 ·simp at hf
theorem Ew(h1:rec.state = .ready)(h2:rec.pending=none):pG rec none=rec:=by
 cases rec;subst h1 h2;rfl
theorem O8{ρ:List (Nat×Nat)}{K:Heap}{y:Nat}{b:Block}(hy:K.get y=none):∀{K0:Heap},Heap.sub ρ K K0->Heap.sub ρ ((y,b)::K) K0
 | [],_=>trivial
 |(i,c)::r,h=>by
  refine⟨?_,O8 hy h.2⟩
  rw[Heap.get_cons,if_neg]
  ·exact h.1
  ·intro e;have:=h.1;simp_all
theorem Su{ρ:List (Nat×Nat)}{yl y:Nat}{R0 R0' R1 R1' R2 R2':RP}{J0 J1 K:Heap}{e:Env}{L:List Nat}(h:bV ρ ((yl,.rnd R0)::J0) ((yl,.rnd R1)::J1) v e ((y,.rnd R2)::K) L=true) :
  bV ρ ((yl,.rnd R0')::J0) ((yl,.rnd R1')::J1) v e ((y,.rnd R2')::K) L=true:=by
 simp only[bV,keys]at h ⊢
 rw[<-h]
 induction (aO ρ (minus (yl::keys J1) (yl::keys J0)))with
 |nil=>rfl
 |cons j r ih=>
  grind[kD,pK,Block.men,Heap.get_cons]
theorem SA{N:aS}{M1:Mem}{w:World}{τ:List (Nat×Nat)}{e1 e0:Env}{K1 H0:Heap}{y:Nat}{tmps:Array Value}{rec:Go.Loop}(hinj:∀i∈keys H0,∀j∈keys H0,rn τ i=rn τ j->i=j)
  (hy:K1.get y=none) (henv:∀j,aF N M1 w (e1.get j) (tmps.getD j undef)) (hK:∀id blk,K1.get id=some blk->eP N M1 w id blk) (m:bT N M1 w) (he0:O1 τ e1 e0) (hH0:Heap.sub τ K1 H0) :
  ∃(Mp:Mem) (S0:Nat->Nat->Prop),Step M1 w Mp ((w.alloc (.deferred (some []))).alloc (.loop rec)) (y::aO τ (keys H0))/\Mp y=some (.rnd (w.heap.size+1) S0)/\(∀id,id≠y->Mp id=M1 id\/Mp id=none)/\(∀id,id≠y->id ∉ aO τ (keys H0)->Mp id=M1 id) /\
   RB rec (w.heap.size+1) (keys H0) (jr τ (keys H0) M1) tmps e0 H0 S0 (Fb N Mp) ((w.alloc (.deferred (some []))).alloc (.loop rec)) (jr τ (keys H0) M1) /\
   ((w.alloc (.deferred (some []))).alloc (.loop rec)).heap[w.heap.size]? = some (.deferred (some []))/\(∀o,¬Mp.R w.heap.size o)/\((w.alloc (.deferred (some []))).alloc (.loop rec)).heap.size=w.heap.size+2:=by
 obtain⟨W1,hW1⟩:∃W1,(w.alloc (.deferred (some []))).alloc (.loop rec)=W1:=⟨_,rfl⟩
 obtain⟨Mb,hMb⟩:∃Mb,jr τ (keys H0) M1=Mb:=⟨_,rfl⟩
 obtain⟨S0,hS0⟩:∃S0:Nat->Nat->Prop,S0=λb o=>b=w.heap.size+1\/Mb.R b o:=⟨_,rfl⟩
 obtain⟨Mp,hMp⟩:∃Mp:Mem,Mp=λid=>if id=y then some (.rnd (w.heap.size+1) S0)else if nU (aO τ (keys H0)) id=true then none else M1 id:=⟨_,rfl⟩
 have sa:Step M1 w M1 W1 []:=by rw[<-hW1];exact Step.trans0 (Step.alloc0 M1 w _) (Step.alloc0 M1 _ _)
 have hsz:W1.heap.size=w.heap.size+2:=by grind[World.size_alloc]
 have hl:W1.heap[w.heap.size+1]? = some (.loop rec):=by
  grind[World.alloc_heap_new,World.size_alloc]
 have hD:W1.heap[w.heap.size]? = some (.deferred (some [])):=by
  rw[<-hW1]
  have h1:(w.alloc (.deferred (some []))).heap[w.heap.size]? = some (.deferred (some [])):=World.alloc_heap_new w _
  have h2:=(Step.alloc0 M1 (w.alloc (.deferred (some []))) (.loop rec)).block w.heap.size (by simp) (by simp)
  simp_all
 have hMy:Mp y=some (.rnd (w.heap.size+1) S0):=by rw[hMp];simp
 have hMo:∀id,id≠y->id ∉ aO τ (keys H0)->Mp id=M1 id:=λid h1 h2=>by
  have:¬nU (aO τ (keys H0)) id=true:=λh=>h2 (bf.1 h)
  simp_all
 have hMt:∀id,id≠y->id∈aO τ (keys H0)->Mp id=none:=λid h1 h2=>by
  rw[hMp];simp only[if_neg h1,if_pos (bf.2 h2)]
 have hMb1:∀b o,Mb.R b o->∃i∈keys H0,∃ow,M1 (rn τ i)=some ow/\ow.has b o:=by
  rintro b o ⟨id,ow,h1,h2⟩
  rw[<-hMb]at h1
  grind[id,keys,fK,iq]
 have hlt:∀b o,Mb.R b o->b<w.heap.size:=λb o h=>by
  obtain⟨i,_,ow,h1,h2⟩:=hMb1 b o h
  exact(m.dom _ ow b o h1 h2).1
 have st:Step M1 w Mp W1 (y::aO τ (keys H0)):=by
  refine⟨sa.os,sa.tape,sa.output,sa.size,λb hb _=>sa.block b hb (by simp),λb o u _ hc=>sa.cell b o u (by simp) hc,sa.shape,λid hid=>?_,λid hid ow b o h1 h2=>?_,λid hid id' hid' hne ow ow' b o h1 h2=>?_⟩
  ·grind
  ·by_cases hid1:id=y
   ·subst hid1
    rw[hMy]at h1
    simp only[Option.some.injEq]at h1;subst h1
    obtain⟨i,hi,h3⟩:=h2
    rw[hS0]at h3
    rcases h3 with rfl |h3
    ·omega
    ·obtain⟨k,hk,ow,h4,h5⟩:=hMb1 b i h3
     exact⟨by grind,.inr ⟨rn τ k,List.mem_cons_of_mem _ (aG.2 ⟨k,hk,rfl⟩),ow,h4,Own.has_of h5 hi⟩⟩
   simp_all
  grind
 have hSF:∀b o,S0 b o->Fb N Mp b o:=λb o h=>.inr ⟨y,_,hMy,o,Nat.le_refl _,h⟩
 have efb:Fb (zq (Fb N Mp) Mb) Mb=Fb N Mp:=O7 λb o h=>hSF b o (by grind)
 have hfo:∀b o,Fb N Mp b o->b<w.heap.size->Fb (uV τ (keys H0) N M1) Mb b o:=by
  intro b o h hb
  rcases h with h |⟨id,ow,h1,h2⟩
  ·exact .inl (.inl h)
  ·by_cases hid:id=y
   ·subst hid
    rw[hMy]at h1
    simp only[Option.some.injEq]at h1;subst h1
    obtain⟨i,hi,h3⟩:=h2
    rw[hS0]at h3
    rcases h3 with rfl |⟨id',ow',h4,h5⟩
    ·omega
    ·exact .inr ⟨id',ow',h4,Own.has_of h5 hi⟩
   ·by_cases hid2:id∈aO τ (keys H0)
    ·grind
    ·rw[hMo id hid hid2]at h1
     exact .inl (.inr ⟨id,ow,h1,h2,λi hi e=>hid2 (aG.2 ⟨i,hi,e⟩)⟩)
 have kk:fJ w (Fb (uV τ (keys H0) N M1) Mb) W1 (Fb (zq (Fb N Mp) Mb) Mb):=by
  intro b o u hf hc
  rw[efb]
  exact⟨λh=>hf (hfo b o h (block_lt hc)),sa.cell b o u (by simp) hc⟩
 have hmm:∀id,Mb id=M1 (rn τ id)\/Mb id=none:=by
  intro id
  rw[<-hMb]
  grind[id,keys,fK,iq]
 have hin:∀b o,Fb (uV τ (keys H0) N M1) Mb b o->Fb N M1 b o:=by grind[Rk]
 have hW:∀b o,Mb.R b o->W1.heap[b]? = w.heap[b]?:=λb o h=>sa.block b (hlt b o h) (by simp)
 have mb:=FQ m hinj
 refine⟨Mp,S0,hW1 ▸ st,hMy,λid h=>?_,hMo,?_⟩
 ·grind
 rw[hW1,hMb]
 refine⟨⟨λid h=>by rw[<-hMb];exact iq h,λb o=>by rw[hS0],hSF,hl,λo h=>by grind,?_,λid _=>.inl rfl,λid blk hg=>?_,λj=>?_⟩,hD,?_,hsz⟩
 ·rw[hMb]at mb;exact mb.disj
 ·have h1:=hK (rn τ id) _ (FT hH0 id blk hg)
  have hid:id∈keys H0:=dH.2 ⟨blk,hg⟩
  have h2:eP (uV τ (keys H0) N M1) Mb w id blk:=eP.rn1 hin h1 (by rw[<-hMb];exact fK hid) λid' _=>hmm id'
  exact h2.shift rfl kk sa.size sa.shape hW λ_ _=>.inl rfl
 ·rcases Eu he0 j with h |h
  ·rw[h];exact .top _
  ·have h1:=henv j
   rw[<-h]at h1
   exact(aF.rn1 hin _ h1 λid _=>hmm id).keep2 kk sa.shape λ_ _=>.inl rfl
 ·rintro o ⟨id,ow,h1,h2⟩
  have:=st.memOk m
  by_cases hid:id=y
  ·subst hid
   rw[hMy]at h1
   simp only[Option.some.injEq]at h1;subst h1
   obtain⟨i,_,h3⟩:=h2
   grind
  ·by_cases hid2:id∈aO τ (keys H0)
   ·grind
   ·rw[hMo id hid hid2]at h1
    have:=(m.dom id ow _ o h1 h2).1;omega
theorem O9[Lo]{N:aS}{M1 Mp M3 Mb:Mem}{w w1 w3:World}{τ ρ:List (Nat×Nat)}{e1 e0:Env}{K1 H0 He J0 J1:Heap}{y yl l:Nat}{tmps:Array Value}{rec rec':Go.Loop}{S0 S3:Nat->Nat->Prop}{n:Nat}{a:Act}{v:AV}{R0 R1 R2:RP}
  (hinj:∀i∈keys H0,∀j∈keys H0,rn τ i=rn τ j->i=j) (hfy:bI y=false/\fU y e1=false/\pK y K1=false/\K1.get y=none) (hk1:∀i∈keys H0,i∈keys He) (hk2:∀i∈keys He,i∈keys H0) (hkb:∀i∈Ui He,i∈keys H0) (hH0:Heap.sub τ K1 H0)
  (s1:St N M1 n e1 K1 a w) (st1:Step M1 w Mp w1 (y::aO τ (keys H0))) (hMy:Mp y=some (.rnd l S0)) (hMo:∀id,id≠y->id ∉ aO τ (keys H0)->Mp id=M1 id)
  (hyl:rn ρ yl=y) (hok:bV ρ ((yl,.rnd R0)::J0) ((yl,.rnd R1)::J1) v e1 ((y,.rnd R2)::K1) (y::aO ρ (keys J0))=true) (hnm:yl ∉ Ui J1) (hdis:∀x∈aO ρ (keys J0),x ∉ aO τ (keys H0))
  (st2:Step Mp w1 M3 w3 (aO ρ (yl::keys J1))) (htr2:∀id∈aO ρ (yl::keys J0),Tr Mp M3 id) (hbl:∀id blk,(dD ρ J1).get id=some blk->eP N M3 w3 id blk)
  (hM3:M3 y=some (.rnd l S3)) (rb:RB rec l (keys H0) (jr τ (keys H0) M1) tmps e0 He S3 (Fb N M3) w3 Mb) :
  ∃(M4:Mem) (W nw:List Nat),Step M1 w M4 (w3.putObj l (.loop rec')) W/\(∀id∈W,id ∉ nw->Tr M1 M4 id)/\(∀d∈nw,bI d=false)/\(∀b o,M4.R b o->M3.R b o) /\
   St N M4 n e1 (ku τ He (ku ρ J1 (K1.put y (.tok 0 0)))) a (w3.putObj l (.loop rec')):=by
 simp only[bV,Bool.and_eq_true]at hok
 obtain⟨o1,o2,o3,o4,o5,o6⟩:=hok
 have oinj:=nJ o1
 have o01:=bG.1 o2
 have obl:=bG.1 o6
 have hnew:=jQ o4
 have m3:bT N M3 w3:=st2.memOk (st1.memOk s1.mem)
 have hτget:∀i∈keys H0,∃b,K1.get (rn τ i)=some b:=λi hi=>by
  obtain⟨b,hb⟩:=dH.1 hi
  exact⟨_,FT hH0 i b hb⟩
 have hτy:∀i∈keys H0,rn τ i≠y:=λi hi e=>by
  obtain⟨b,hb⟩:=hτget i hi
  rw[e,hfy.2.2.2]at hb;simp at hb
 obtain⟨M4,hM4⟩:∃M4:Mem,M4=λid=>if id=y then some .nil else match inv τ id (keys H0)with |some i=>Mb i |none=>M3 id:=⟨_,rfl⟩
 have h4y:M4 y=some .nil:=by rw[hM4];simp
 have h4τ:∀i∈keys H0,M4 (rn τ i)=Mb i:=λi hi=>by
  rw[hM4];simp only[if_neg (hτy i hi),z3d hinj hi]
 have h4o:∀id,id≠y->id ∉ aO τ (keys H0)->M4 id=M3 id:=λid h1 h2=>by
  have:inv τ id (keys H0)=none:=y7.2 λi hi e=>h2 (aG.2 ⟨i,hi,e⟩)
  rw[hM4];simp only[if_neg h1,this]
 have hSM:∀b o,Mb.R b o->M3.R b o:=λb o h=>⟨y,_,hM3,o,Nat.le_refl _,(rb.own b o).2 (.inr h)⟩
 have hRR:∀b o,M4.R b o->M3.R b o:=by
  rintro b o ⟨id,ow,h1,h2⟩
  by_cases hid:id=y
  ·subst hid;rw[h4y]at h1;simp only[Option.some.injEq]at h1;subst h1;exact h2.elim
  ·by_cases hid2:id∈aO τ (keys H0)
   ·obtain⟨i,hi,rfl⟩:=aG.1 hid2
    rw[h4τ i hi]at h1
    exact hSM b o ⟨i,ow,h1,h2⟩
   ·rw[h4o id hid hid2]at h1;exact⟨id,ow,h1,h2⟩
 have qb:Quiet Mb w3 (w3.putObj l (.loop rec')) l:=qm rb.lrec (λ_ _ _ h=>by cases h) rb.lfree _
 have st3:Step M3 w3 M4 (w3.putObj l (.loop rec')) (y::aO τ (keys H0)):=by
  refine⟨qb.os,qb.tape,qb.output,Nat.le_of_eq qb.size.symm,λb hb h=>?_,λb o u h hc=>(qb.keeps (λ_ _=>False) b o u (λh=>h) hc).2,qb.shape,λid hid=>?_,λid hid ow b o h1 h2=>?_,λid hid id' hid' hne ow ow' b o h1 h2 h3 h4=>?_⟩
  ·exact qb.other b λe=>h y (by simp) _ 0 hM3 ⟨0,Nat.le_refl _,(rb.own _ _).2 (.inl e)⟩
  ·simp only[List.mem_cons,not_or]at hid;exact h4o id hid.1 hid.2
  ·by_cases hid1:id=y
   ·subst hid1;rw[h4y]at h1;simp only[Option.some.injEq]at h1;subst h1;exact h2.elim
   ·obtain⟨i,hi,rfl⟩:=aG.1 (show id∈aO τ (keys H0)by simpa[hid1]using hid)
    rw[h4τ i hi]at h1
    have hS:S3 b o:=(rb.own b o).2 (.inr ⟨i,ow,h1,h2⟩)
    have hh:(Own.rnd l S3).has b o:=⟨o,Nat.le_refl _,hS⟩
    exact⟨by rw[World.putObj_size];exact(m3.dom y _ b o hM3 hh).1,.inr ⟨y,by simp,_,hM3,hh⟩⟩
  ·by_cases hid1:id=y
   ·subst hid1;rw[h4y]at h1;simp only[Option.some.injEq]at h1;subst h1;exact h3.elim
   ·by_cases hid2:id'=y
    ·subst hid2;rw[h4y]at h2;simp only[Option.some.injEq]at h2;subst h2;exact h4.elim
    ·obtain⟨i,hi,rfl⟩:=aG.1 (show id∈aO τ (keys H0)by simpa[hid1]using hid)
     obtain⟨j,hj,rfl⟩:=aG.1 (show id'∈aO τ (keys H0)by simpa[hid2]using hid')
     rw[h4τ i hi]at h1
     rw[h4τ j hj]at h2
     exact rb.disj i j ow ow' b o (λe=>hne (by rw[e])) h1 h2 h3 h4
 have st12:=Step.trans s1.mem st1 st2
 have st:=Step.trans s1.mem st12 st3
 have hyJ:y ∉ aO ρ (keys J1):=by
  intro h
  obtain⟨j,hj,e⟩:=aG.1 h
  have hjl:=oinj j (by simp[keys,hj]) yl (by simp[keys]) (e.trans hyl.symm)
  subst hjl
  simp only[keys,aO,pO,Bool.and_eq_true,Bool.not_eq_true']at o1
  rw[bf.2 (aG.2 ⟨j,hj,rfl⟩)]at o1
  simp at o1
 have hJτ:∀id∈aO ρ (keys J1),id ∉ aO τ (keys H0):=by
  intro id hid
  obtain⟨j,hj,rfl⟩:=aG.1 hid
  by_cases h0:j∈yl::keys J0
  ·rcases List.mem_cons.1 h0 with e |h0
   ·subst e;exact absurd (hyl ▸ aG.2 ⟨j,hj,rfl⟩) hyJ
   ·exact hdis _ (aG.2 ⟨j,h0,rfl⟩)
  ·intro h
   obtain⟨i,hi,e⟩:=aG.1 h
   obtain⟨b,hb⟩:=hτget i hi
   have:=(hnew (rn ρ j) (aG.2 ⟨j,je.2 ⟨by simp[keys,hj],h0⟩,rfl⟩)).2.2.2
   rw[Heap.get_cons,if_neg (λe2=>hτy i hi (e.trans e2.symm)),<-e,hb]at this
   simp at this
 -- what is known through a name
 obtain⟨nw,hnw⟩:∃nw,nw=y::aO ρ (minus (yl::keys J1) (yl::keys J0)):=⟨_,rfl⟩
 have htr:∀id,id ∉ nw->Tr M1 M4 id:=by
  intro id hid
  rw[hnw]at hid
  simp only[List.mem_cons,not_or]at hid
  by_cases h1:id∈aO τ (keys H0)
  ·obtain⟨i,hi,rfl⟩:=aG.1 h1
   have:=rb.tr i hi
   unfold Tr at this ⊢
   rw[h4τ i hi]
   rwa[fK hi]at this
  ·have e1:=hMo id hid.1 h1
   by_cases h2:id∈aO ρ (yl::keys J0)
   ·have:=htr2 id h2
    unfold Tr at this ⊢
    rw[h4o id hid.1 h1]
    rwa[e1]at this
   ·refine .inl ((h4o id hid.1 h1).trans ((st2.mem id λh3=>?_).trans e1))
    obtain⟨j,hj,rfl⟩:=aG.1 h3
    exact hid.2 (aG.2 ⟨j,je.2 ⟨hj,λh4=>h2 (aG.2 ⟨j,h4,rfl⟩)⟩,rfl⟩)
 have hf:∀d∈nw,bI d=false/\fU d e1=false/\pK d K1=false:=by
  intro d hd
  rw[hnw]at hd
  rcases List.mem_cons.1 hd with rfl |hd
  ·exact⟨hfy.1,hfy.2.1,hfy.2.2.1⟩
  ·obtain⟨q1,q2,q3,_⟩:=hnew d hd
   exact⟨q1,q2,q3⟩
 obtain⟨Δ,hΔ⟩:∃Δ,Δ=uU (uU [(y,.tok 0 0)] (dD ρ J1)) (dD τ He):=⟨_,rfl⟩
 have kτ:∀id,(∃b,(dD τ He).get id=some b)↔id∈aO τ (keys H0):=by
  intro id
  rw[<-dH,kV]
  grind[aG]
 have kρ:∀id,(∃b,(dD ρ J1).get id=some b)↔id∈aO ρ (keys J1):=by
  intro id;rw[<-dH,kV]
 have hno:∀id,id∈((y::aO τ (keys H0))++aO ρ (yl::keys J1))++(y::aO τ (keys H0))↔∃b,Δ.get id=some b:=by
  intro id
  rw[hΔ,jf,jf,Heap.get_cons]
  have e1:=kτ id
  have e2:=kρ id
  constructor
  ·intro h
   have h:id=y\/id∈aO τ (keys H0)\/id∈aO ρ (keys J1):=by
    simp only[List.mem_append,List.mem_cons,aO,hyl]at h
    rcases h with((h |h) |h |h) |h |h
    ·exact .inl h
    ·exact .inr (.inl h)
    ·exact .inl h
    ·exact .inr (.inr h)
    ·exact .inl h
    ·exact .inr (.inl h)
   cases g1:(dD τ He).get id with
   |some b=>exact⟨b,rfl⟩
   |none=>
    cases g2:(dD ρ J1).get id with
    |some b=>exact⟨b,rfl⟩
    |none=>
     rcases h with h |h |h
     ·exact⟨_,by simp only[if_pos h.symm];rfl⟩
     ·obtain⟨b,hb⟩:=e1.2 h;rw[g1]at hb;simp at hb
     ·obtain⟨b,hb⟩:=e2.2 h;rw[g2]at hb;simp at hb
  grind[dD,get,id,aO,Heap.get]
 have hFb:∀b o,Fb N M4 b o->Fb (zq (Fb N M3) Mb) Mb b o:=by
  rw[rb.fb]
  rintro b o (h |h)
  ·exact .inl h
  ·exact .inr (hRR b o h)
 have hinjE:∀i∈keys He,∀j∈keys He,rn τ i=rn τ j->i=j:=λi hi j hj=>hinj i (hk2 i hi) j (hk2 j hj)
 have hδ:∀id blk,Δ.get id=some blk->eP N M4 (w3.putObj l (.loop rec')) id blk:=by
  intro id blk hg
  rw[hΔ,jf]at hg
  split at hg
  ·rename_i b hb
   simp only[Option.some.injEq]at hg;subst hg
   obtain⟨i,b0,q1,rfl,rfl⟩:=qO hinjE hb
   have hi:=hk2 i (dH.2 ⟨b0,q1⟩)
   exact(qb.brel (rb.heap i b0 q1)).rn2 hFb (h4τ i hi) λid' hm=>.inl (h4τ id' (hkb id' (y8 q1 hm)))
  ·rw[jf]at hg
   split at hg
   ·rename_i b hb
    simp only[Option.some.injEq]at hg;subst hg
    have hid:=(kρ id).1 ⟨_,hb⟩
    refine(hbl id b hb).keep m3 st3 (λh=>?_) λid' hm=>.inl ?_
    ·rcases List.mem_cons.1 h with h |h
     ·exact hyJ (h ▸ hid)
     ·exact hJτ id hid h
    ·obtain⟨j,b0,q1,rfl,rfl⟩:=qO (λi hi j hj=>oinj i (by simp[keys,hi]) j (by simp[keys,hj])) hb
     obtain⟨k,hk,rfl⟩:=MN hm
     have hk0:=y8 q1 hk
     have hk1:k∈keys J1:=by
      have:=obl k (by simpa[Ui,Block.ids]using hk0)
      simp only[keys,List.mem_cons]at this
      rcases this with h |h
      ·exact absurd (h ▸ hk0) hnm
      ·exact h
     have hm1:rn ρ k∈aO ρ (keys J1):=aG.2 ⟨k,hk1,rfl⟩
     exact h4o _ (λe=>hyJ (e ▸ hm1)) (hJτ _ hm1)
   ·rw[Heap.get_cons]at hg
    split at hg
    ·rename_i e
     subst e
     simp only[Option.some.injEq]at hg;subst hg
     exact .inl ⟨h4y,rfl⟩
    ·simp[Heap.get]at hg
 have s4:=s1.turn st (λid _ h=>htr id h) hf hδ hno
 refine⟨M4,_,nw,st,λid _ h=>htr id h,λd hd=>(hf d hd).1,hRR,s4.size,s4.big,s4.defers,s4.env,λid blk hg=>s4.heap id blk ?_,s4.mem⟩
 rw[<-hg,pY,pY,hΔ]
 simp only[jf,Heap.get_put,Heap.get_cons]
 cases (dD τ He).get id with
 |some b=>rfl
 |none=>
  cases (dD ρ J1).get id with
  |some b=>rfl
  |none=>
   simp only
   by_cases e:y=id
   ·simp[e]
   ·simp[e,Heap.get]
def SB(P:Program)(l:Nat)(Q:Exit->Act->World->Prop)(a':Act):Ending->World->Prop
 | .returned _,w3=>∃jump w4,(Instr.endLoop l).run P w3 = .ok jump w4/\match jump with |none=>Q .normal a' w4 |some c=>mQ none P c Q a' w4
 | .panicked chain,w3=>Q (.panic chain) a' w3
 | .outgrown,_=>LetsOut Q
theorem Bg{P:Program}{g:Operand}{ps:Array Tmp}{assign body:Code}{Q:Exit->Act->World->Prop}{a:Act}{w:World}
  (h:∀fn,(∃f,P.funcs[fn]? = some f)->∃(l:Nat) (mark:List Deferred) (w1:World) (d:Deferred) (w1':World) (f:FuncId) (args:Array Value) (w2:World),
   (Instr.enterLoop fn a.tmps ps assign body none).run P w = .ok (l,mark) w1/\(resolve a.eval (rangeCall g l) 0).run P w1 = .ok d w1'/\(invoke d.target d.args).run P w1' = .ok (.enter f args) w2 /\
   CallsIn (FR none) 0 P f args w2 (SB P l Q { a with defers:=mark++a.defers })):mQ none P (.rangeFunc g ps assign body) Q a w:=by
 intro b k cs hro hx
 have room:∀n,(FR none).room n:=mP _
 obtain⟨l,mark,w1,d,w1',f,args,w2,he,hres,hinv,hF,hcall⟩:=h b.fn hx
 rw[<-hro]at he
 have h0:(lone (b.atR a (.code (.rangeFunc g ps assign body)::k)) cs w).fenced P (FR none):=fenced_lone (.inl trivial) (λ_ _=>trivial) (room _)
 have henter:=stepR_rangeFunc (P:=P) (b:=b) (a:=a) (k:=k) (cs:=cs) (w:=w) he hres hinv
 obtain⟨e,w3,fr,hR,hsteps,hfn,hleave⟩:=hcall (b.atR { a with defers:=mark++a.defers } (.inRangeFunc l::k)::cs) (room _)
 cases e with
 |outgrown=>
  obtain⟨a0,w0,hq⟩:=hR
  exact⟨.outgrown,a0,w0,hq,.inr (Outgrown.of_steps (.one henter) hsteps)⟩
 |returned v=>
  have hl:(lone fr (b.atR { a with defers:=mark++a.defers } (.inRangeFunc l::k)::cs) w3).fenced P (FR none):=fenced_leaving (n:=0) trivial (room _) hleave
  obtain⟨jump,w4,hend,hj⟩:=hR
  have sback:StepsIn (Machine.fenced P (FR none)) P (lone (b.atR a (.code (.rangeFunc g ps assign body)::k)) cs w) (lone (b.atR { a with defers:=mark++a.defers } ((jump.map Item.code).toList++k)) cs w4):=by
   refine .head h0 henter (StepsIn.trans hsteps (.head hl ?_ (.one (fenced_calm (n:=0) (fr:=b.atR { a with defers:=mark++a.defers } (.endRangeFunc l::k)) trivial (room _) rfl) (stepR_endRangeFunc hend))))
   exact step_leave_returned hleave
  cases jump with
  |none=>exact⟨.normal,_,w4,hj,sback⟩
  |some c=>
   obtain⟨e',a'',w5,hq,harr⟩:=hj b k cs hro hx
   exact⟨e',a'',w5,hq,.of_steps sback harr⟩
 |panicked chain=>
  have hl:(lone fr (b.atR { a with defers:=mark++a.defers } (.inRangeFunc l::k)::cs) w3).fenced P (FR none):=fenced_leaving (n:=0) trivial (room _) hleave
  exact⟨.panic chain,_,w3,hR,.inRangeFunc l::k,.head h0 henter (StepsIn.trans hsteps (.one hl (step_leave_panicked hleave)))⟩
theorem zdn(h:∀d,R.kind≠some (.pan d)):R.fo v = .ret v:=by
 unfold kZ.fo
 unfold kZ.kind at h
 grind
theorem zdo{d:D}(h:R.kind=some (.pan d)):R.fo v = .pan (.data d):=by
 grind[kZ.fo,kZ.kind]
theorem Pg{k:Option RK}(h:∀d,k≠some (.pan d)):pG rec k = { rec with state:=if(k.map RK.code).isNone then .ready else .done,pending:=k.map RK.code }:=by
 cases k with
 |none=>rfl
 |some k=>
  cases k with
  |pan d=>simp_all
  |_=>rfl
theorem Zo{P:Program}{T:Tbl}{g:Operand}{ps:Array Tmp}{assign body:Code}{R:kZ}{Q:Post}{env:Env}{K:Heap}(hnn:(qg assign&&qg body)=true)
  (h:RN T (ak P) R g ps.toList (λxs H k H'=>U2 P assign (OY λe K=>U2 P body (O0 k H') e K) (iJ ps.toList xs R.e0) H) Q env K):U2 P (.rangeFunc g ps assign body) Q env K:=by
 intro _ r N n M0 w0 Q' M a w hs hnd hlo s e q
 cases r with
 |some l=>have:=hnd (by simp);simp[qg]at this
 |none=>
 simp only[cZ,Bool.and_eq_true]at hs
 obtain⟨hsp,hsa,hsb⟩:=hs
 rw[Bool.and_eq_true]at hnn
 have hpn:∀p∈ps.toList,p<n:=λp hp=>Nat.le_of_ble_eq_true (List.all_eq_true.1 hsp p hp)
 have hw:=h.weak
 rw[qQ]at hw
 obtain⟨M1,s1,e1⟩:=s.weak e hw
 have hnm:=h.names
 simp only[Bool.and_eq_true]at hnm
 obtain⟨k1,k2,k3,k4,k5,k6⟩:=hnm
 have hinj:=nJ k1
 have hlent:∀id∈keys (R.H 0),bI id=true:=AL k2
 have hfy:=jQ k3 R.y (by simp)
 refine Bg λfn hfx=>?_
 obtain⟨rec,hrec⟩:∃rec:Go.Loop,rec = { state:=.ready,pending:=none,fn,tmps:=a.tmps,params:=ps,assign,body,defers:=w.heap.size }:=⟨_,rfl⟩
 have hr1:rec.state = .ready:=by rw[hrec]
 have hr2:rec.pending=none:=by rw[hrec]
 have hr3:rec.tmps=a.tmps:=by rw[hrec]
 have hr4:rec.params=ps:=by rw[hrec]
 have hr5:rec.assign=assign:=by rw[hrec]
 have hr6:rec.body=body:=by rw[hrec]
 obtain⟨Mp,S0,st1,hMy,hMn,hMo,rb0,hD,hDf,hsz⟩:=SA (rec:=rec) hinj hfy.2.2.2 s1.env s1.heap s1.mem h.env0 h.heap0
 obtain⟨W1,hW1⟩:∃W1,(w.alloc (.deferred (some []))).alloc (.loop rec)=W1:=⟨_,rfl⟩
 rw[hW1]at st1 rb0 hD hsz
 have mp:=st1.memOk s1.mem
 obtain⟨f,caps,hfn,hfy2,hit⟩:=h.it
 obtain⟨vs,hv1,hv2,hv3⟩:=Zm (dW s1.mem (T:=T) (env:=R.e1) (a:=a) 0 g λj _=>s1.env j) hfn
 obtain⟨yl,cs0,J0,v,J1,ρ,hB,hargs,hsub,hok,hdis,hQ⟩:=hit (λi=>xC rec (w.heap.size+1) (keys (R.H 0)) (jr R.τ (keys (R.H 0)) M1) rec.tmps R.e0 (R.H i))
  (xC (pG rec R.kind) (w.heap.size+1) (keys (R.H 0)) (jr R.τ (keys (R.H 0)) M1) rec.tmps R.e0 R.He) (λi hi=>by
   obtain⟨q1,q2,q3⟩:=h.round i hi
   have:=Et (P:=P) (l0:=w.heap.size+1) (Mτ:=jr R.τ (keys (R.H 0)) M1) (n:=n) (rec:=rec) (xs:=R.xs i) (k:=none) (H:=R.H i) (H':=R.H (i+1)) (by rw[hrec];exact hfx) hr1 (hr5 ▸ hsa) (hr6 ▸ hsb) (hr5 ▸ hnn.1) (hr6 ▸ hnn.2) (by rw[hr4,q1,Array.length_toList]) (by rw[hr4];exact hpn) (hr3 ▸ s1.size) s1.big h.df hlent
    (λid b hg=>bG.1 q2 id (dH.2 ⟨b,hg⟩)) (by rw[hr4,hr5,hr6];exact q3)
   rw[Ew hr1 hr2]at this
   exact .inr ⟨rfl,this⟩) (λhl=>by
   cases hk:R.last with
   |none=>exact absurd hk hl
   |some x=>
    obtain⟨k,he⟩:=x
    obtain⟨q1,q3⟩:=h.lst k he hk
    have e1:R.kind=some k:=by simp only[kZ.kind,hk]
    have e2:R.He=he:=by simp only[kZ.He,hk]
    have:=Et (P:=P) (l0:=w.heap.size+1) (Mτ:=jr R.τ (keys (R.H 0)) M1) (n:=n) (rec:=rec) (xs:=R.xs R.n) (k:=some k) (H:=R.H R.n) (H':=he) (by rw[hrec];exact hfx) hr1 (hr5 ▸ hsa) (hr6 ▸ hsb) (hr5 ▸ hnn.1) (hr6 ▸ hnn.2) (by rw[hr4,q1,Array.length_toList]) (by rw[hr4];exact hpn) (hr3 ▸ s1.size) s1.big h.df hlent
     (λid b hg=>bG.1 k4 id (by rw[e2];exact dH.2 ⟨b,hg⟩)) (by rw[hr4,hr5,hr6];exact q3)
    rw[e1,e2]
    exact .inr ⟨rfl,this⟩)
 have hend:∀(Rf:Nat->RP) (Re:RP),Rf R.n=xC rec (w.heap.size+1) (keys (R.H 0)) (jr R.τ (keys (R.H 0)) M1) rec.tmps R.e0 (R.H R.n)->Re=xC (pG rec R.kind) (w.heap.size+1) (keys (R.H 0)) (jr R.τ (keys (R.H 0)) M1) rec.tmps R.e0 R.He ->
   R.rp Rf Re=xC (pG rec R.kind) (w.heap.size+1) (keys (R.H 0)) (jr R.τ (keys (R.H 0)) M1) rec.tmps R.e0 R.He:=by
  grind[kZ.kind,kZ.He,kZ.rp,Ew]
 rw[hend _ _ rfl rfl]at hB
 have hfne:f≠yx:=λe=>by rw[e]at hfy2;simp at hfy2
 rcases hB with⟨_,hent,hlc⟩ |⟨e,_⟩
 rotate_left
 ·exact absurd e hfne
 have hyl:rn ρ yl=R.y:=by
  simp only[AV.ren.go,AV.ren,List.cons.injEq,AV.yld.injEq]at hargs
  exact hargs.1
 simp only[Bool.and_eq_true,Bool.not_eq_true']at hdis
 have hnm:yl ∉ Ui J1:=λhm=>by rw[bf.2 hm]at hdis;simp at hdis
 have hdis:=z7m hdis.2
 have hlen:caps.length=cs0.length:=by
  have:=congrArg List.length hargs
  simp only[dI,List.length_cons]at this
  omega
 refine⟨w.heap.size+1,[{ target:=.collected w.heap.size,args:=#[] }],W1,{ target:=.fn (.func f) vs,args:=#[.func (.yield (w.heap.size+1)) #[] #[]] },W1,f,
  #[.func (.yield (w.heap.size+1)) #[] #[]]++vs,W1,by rw[<-hW1,hrec];exact run_enterLoop_outer _ _ _ _ _,?_,?_,(callsIn_wide (n:=0)).2 ?_⟩
 ·simp only[resolve,hv1]
  simp[go_sem]
 ·have:=l9 hent (#[.func (.yield (w.heap.size+1)) #[] #[]]++vs) W1
  simp[invoke,go_sem,this]
 have hTr:∀id,id≠R.y->Tr M1 Mp id:=λid hid=>by
  rcases hMn id hid with h |h
  ·exact .inl h
  ·exact .inr (.inr (.inr (.inr (.inl h))))
 obtain⟨RA,hRA⟩:∃RA,xC rec (w.heap.size+1) (keys (R.H 0)) (jr R.τ (keys (R.H 0)) M1) rec.tmps R.e0 (R.H 0)=RA:=⟨_,rfl⟩
 obtain⟨RZ,hRZ⟩:∃RZ,xC (pG rec R.kind) (w.heap.size+1) (keys (R.H 0)) (jr R.τ (keys (R.H 0)) M1) rec.tmps R.e0 R.He=RZ:=⟨_,rfl⟩
 have hlc:LC (Calls P f) (.yld yl::cs0) ((yl,.rnd RA)::J0) (R.fo v) ((yl,.rnd RZ)::J1):=by rw[<-hRA,<-hRZ];exact hlc
 have hok:bV ρ ((yl,.rnd RA)::J0) ((yl,.rnd RZ)::J1) (R.fo v).av R.e1 ((R.y,.rnd RA)::R.K1) (R.y::aO ρ (keys J0))=true:=Su hok
 have hsub':Heap.sub ρ ((R.y,.rnd RA)::R.K1) ((yl,.rnd RA)::J0):=And.intro (by rw[hyl,Heap.get_cons,if_pos rfl];rfl) (O8 hfy.2.2.2 hsub)
 refine(wZ (C:=Calls P f) (λh hr=>Calls.mono h hr) hlc hsub' hok mp ?_ ?_ ?_).mono ?_
 ·simp[hv2,hlen];omega
 ·rw[hargs]
  intro i x hx
  cases i with
  |zero=>
   simp only[List.getElem?_cons_zero,Option.some.injEq]at hx;subst hx
   have e:(#[Value.func (.yield (w.heap.size+1)) #[] #[]]++vs).getD 0 undef = .func (.yield (w.heap.size+1)) #[] #[]:=by
    rw[Array.getD_eq_getD_getElem?,Array.getElem?_append_left (by simp)];rfl
   rw[e]
   exact .yld _ _ λl' S e=>by rw[hMy]at e;simp only[Option.some.injEq,Own.rnd.injEq]at e;exact e.1
  |succ i=>
   have hx:caps[i]? = some x:=by simpa using hx
   have e:(#[Value.func (.yield (w.heap.size+1)) #[] #[]]++vs).getD (i+1) undef=vs.getD i undef:=by
    rw[Array.getD_eq_getD_getElem?,Array.getD_eq_getD_getElem?,Array.getElem?_append_right (by simp)];rfl
   rw[e]
   refine(hv3 i x hx).keep st1.keeps st1.shape λid hi=>hTr id λe=>?_
   subst e
   obtain⟨j,_,hj⟩:=Us (Zn hfn hx hi)
   have:=oh hj
   rw[hfy.2.1]at this;simp at this
 ·intro id hid blk hg
  rw[Heap.get_cons]at hg
  split at hg
  ·rename_i e;subst e
   simp only[Option.some.injEq]at hg;subst hg
   rw[<-hRA,hr3]
   exact⟨_,S0,hMy,rfl,_,rb0⟩
  ·rename_i hne
   have hid:id∈aO ρ (keys J0):=by
    rcases List.mem_cons.1 hid with h |h
    ·exact absurd h.symm hne
    ·exact h
   refine(s1.heap id blk hg).keep s1.mem st1 (λhm=>?_) λid' hm=>hTr id' λe=>?_
   ·rcases List.mem_cons.1 hm with h |h
    ·exact hne h.symm
    ·exact hdis id hid h
   ·subst e
    have:=qM hg hm
    rw[hfy.2.2.1]at this;simp at this
 rintro ee w3 ⟨M3,st2,htr2,hbl,hrel⟩
 have hby:=hbl R.y (.rnd RZ) (by
  simp only[dD]
  rw[Heap.get_cons,if_pos hyl];rfl)
 rw[<-hRZ]at hby
 obtain⟨l',S3,hM3,rfl,Mb,rb⟩:=hby
 rw[hr3]at rb
 obtain⟨o1,_,_,_,_,_⟩:(_/\_/\_/\_/\_/\_):=by simpa only [bV,Bool.and_eq_true]using hok
 have hbl':∀id blk,(dD ρ J1).get id=some blk->eP N M3 w3 id blk:=by
  intro id blk hg
  refine hbl id blk ?_
  simp only[dD]
  rw[Heap.get_cons,if_neg]
  ·exact hg
  ·intro e
   have hm:id∈aO ρ (keys J1):=by rw[<-kV];exact dH.2 ⟨blk,hg⟩
   simp only[keys,aO,pO,Bool.and_eq_true,Bool.not_eq_true']at o1
   rw[bf.2 (e ▸ hm)]at o1;simp at o1
 by_cases hpan:∃d,R.kind=some (.pan d)
 ·obtain⟨d,hd⟩:=hpan
  rw[zdo hd]at hrel
  obtain⟨v',rfl,hv⟩:=hrel
  obtain⟨M4,W,nw,st,htr,hnl,hRR,s4⟩:=O9 (rec':=pG rec R.kind) hinj hfy (bG.1 k5) (bG.1 k4) (bG.1 k6) h.heap0 s1 st1 hMy hMo hyl hok hnm hdis st2 htr2 hbl' hM3 rb
  rw[Bf rb.lrec]at st s4
  have e4:=e1.step st htr hnl
  have hD3:w3.heap[w.heap.size]? = some (.deferred (some [])):=(st2.block w.heap.size (by omega) λid _ ow o h1 h2=>hDf o ⟨id,ow,h1,h2⟩).trans hD
  have hmark:rW M4 w3 w.heap.size:=⟨hD3,λo ho=>hDf o (st2.R_old (by omega) (hRR _ _ ho))⟩
  have s5:St N M4 n R.e1 (ku R.τ R.He (ku ρ J1 (R.K1.put R.y (.tok 0 0)))) { a with defers:=[{ target:=.collected w.heap.size,args:=#[] }]++a.defers } w3:=by
   refine⟨s4.size,s4.big,s4.defers.pushMark hmark (hlo rfl _ e1.size) λhm=>?_,s4.env,s4.heap,s4.mem⟩
   have h1:=(s1.defers.mark _ hm).1.1
   have:=(Array.getElem?_eq_some_iff.1 h1).1
   omega
  have hq:=q (RK.out R.kind) R.e1 _ M4 _ _ hQ s5 e4
  rw[hd]at hq
  refine hq v' ?_
  cases hv with
  |data _ _ h=>exact .data _ _ (h.keep λb o u hf hc=>⟨λh5=>hf (h5.imp id (hRR b o)),hc⟩)
 have hnp:∀d,R.kind≠some (.pan d):=λd e=>hpan ⟨d,e⟩
 rw[zdn hnp]at hrel
 obtain⟨v',rfl,_⟩:=hrel
 have hbusy:(pG rec R.kind).state ≠ .busy:=by
  rw[Pg hnp];simp only;split<;>simp
 obtain⟨M4,W,nw,st,htr,hnl,hRR,s4⟩:=O9 (rec':={ pG rec R.kind with state:=.exhausted }) hinj hfy (bG.1 k5) (bG.1 k4) (bG.1 k6) h.heap0 s1 st1 hMy hMo hyl hok hnm hdis st2 htr2 hbl' hM3 rb
 have e4:=e1.step st htr hnl
 have hD3:w3.heap[w.heap.size]? = some (.deferred (some [])):=(st2.block w.heap.size (by omega) λid _ ow o h1 h2=>hDf o ⟨id,ow,h1,h2⟩).trans hD
 have hmark:rW M4 (w3.putObj (w.heap.size+1) (.loop { pG rec R.kind with state:=.exhausted })) w.heap.size:=
  ⟨(World.putObj_heap_other (by omega)).trans hD3,λo ho=>hDf o (st2.R_old (by omega) (hRR _ _ ho))⟩
 have s5:St N M4 n R.e1 (ku R.τ R.He (ku ρ J1 (R.K1.put R.y (.tok 0 0)))) { a with defers:=[{ target:=.collected w.heap.size,args:=#[] }]++a.defers } (w3.putObj (w.heap.size+1) (.loop { pG rec R.kind with state:=.exhausted })):=by
  refine⟨s4.size,s4.big,s4.defers.pushMark hmark (hlo rfl _ e1.size) λhm=>?_,s4.env,s4.heap,s4.mem⟩
  have h1:=(s1.defers.mark _ hm).1.1
  have:=(Array.getElem?_eq_some_iff.1 h1).1
  omega
 refine⟨_,_,run_endLoop rb.lrec hbusy,?_⟩
 have hq:=q (RK.out R.kind) R.e1 _ M4 _ _ hQ s5 e4
 have hpe:(pG rec R.kind).pending=R.kind.map RK.code:=by rw[Pg hnp]
 rw[hpe]
 cases hk:R.kind with
 |none=>rw[hk]at hq;exact hq
 |some k=>
  rw[hk]at hq
  cases k with
  |ret=>exact Iz hq
  |exit i=>exact Ee hq
  |pan d=>exact absurd hk (hnp d)
end Go.Fw
namespace Go.Fw
variable [ae]
section
variable {P : Program} {T : Tbl} (hT : iQ P T)
include hT
theorem zhw(hmix:P.follows .mixedOrders=true){An:zcn}:∀(c:Code) (la:Nat) (Q:Post) (env:Env) (K:Heap),wc T (PCall P) (ak P) An c la Q env K->U2 P c Q env K:=by
 intro c
 induction c with
 |skip=>intro la Q env K h _ ρ N n M0 w0 Q' M a w hs hnd hlo s e q;exact Rt (q .normal env K M a w h s e)
 |region id ops draw=>
  intro la Q env K h _ ρ N n M0 w0 Q' M a w hs hnd hlo s e q
  cases draw with
  |true=>
   have hd:∀o∈ops.toList,∀d,o.dst=some d->d≠gq:=λo ho d hd=>Nat.ne_of_lt (Nat.lt_of_lt_of_le (qP hs o ho d hd) s.big)
   refine vw ?_
   exact Eg hT hmix (PP:=λp env K=>Q (.panic p) env K) (qP hs) (λhr=>Ed (hnd hr)) (Vt ops.toList [] [] env K [] env h trivial hd ⟨λ_=>.inr rfl,rfl,λ_ h=>h⟩ .nil) s e (λenv K M a w h s e=>by
    obtain⟨env2,h1,h2,h3⟩:=h
    exact q .normal env2 K M a w h3 (s.view h1 h2) e) (λp env K M a w h s e=>q (.panic p) env K M a w h s e)
  |false=>
   refine vw ?_
   exact vg (z7j hT (λenv K M a w h s e=>q .normal env K M a w h s e) (λx env K M a w h s e=>q (.panic x) env K M a w h s e) ops.toList [] env K M a w (qP hs) (λhr=>Ed (hnd hr)) h trivial s e)
 |seq x y ihx ihy=>
  intro la Q env K h _ ρ N n M0 w0 Q' M a w hs hnd hlo s e q
  simp only[cZ,Bool.and_eq_true]at hs
  simp only[qg,Bool.and_eq_true]at hnd
  have h:(match An.cut y with
   |none=>wc T (PCall P) (ak P) An x 0 (Post.then (λenv K=>wc T (PCall P) (ak P) An y 0 Q env K) Q) env K
   |some i=>au i (∃L:Loop,wc T (PCall P) (ak P) An x 0 (Post.then (λenv' K'=>I4 K' λK'=>∃s,L.I s/\L.enter env K s (AX env' K')) Q) env K/\∀s,L.I s->L.enter env K s λenv K=>wc T (PCall P) (ak P) An y 0 Q env K)):=h
  split at h
  ·refine IA (ihx _ _ env K h ρ N n M0 w0 _ M a w hs.1 (λhr=>(hnd hr).1) hlo s e λo env K M a w h s e=>?_)
   cases o with
   |normal=>exact ihy _ Q env K h ρ N n M0 w0 Q' M a w hs.2 (λhr=>(hnd hr).2) hlo s e q
   |exit i=>exact q (.exit i) env K M a w h s e
   |ret=>exact q .ret env K M a w h s e
   |panic x=>exact q (.panic x) env K M a w h s e
  ·obtain⟨L,h,h2⟩:=h.out
   refine IA (ihx _ _ env K h ρ N n M0 w0 _ M a w hs.1 (λhr=>(hnd hr).1) hlo s e λo env1 K1 M a w h s e=>?_)
   cases o with
   |normal=>
    obtain⟨K2,s,st,h3,h4⟩:∃K2,St N M n env1 K2 a w/\∃st,L.I st/\L.enter env K st (AX env1 K2):=by
     rcases I4.out h with h |⟨g,id,⟨cs,hc⟩,h⟩
     ·grind
     ·obtain⟨b,hb⟩:=s.named g hc
      exact⟨_,hb,h b⟩
    rw[vI,qQ]at h4
    obtain⟨M',s',e'⟩:=s.weak e h4
    have h5:=h2 st h3
    rw[vI]at h5
    exact ihy _ Q _ _ h5 ρ N n M0 w0 Q' M' a w hs.2 (λhr=>(hnd hr).2) hlo s' e' q
   |exit i=>exact q (.exit i) env1 K1 M a w h s e
   |ret=>exact q .ret env1 K1 M a w h s e
   |panic x=>exact q (.panic x) env1 K1 M a w h s e
 |cond c x y ihx ihy=>
  intro la Q env K h _ ρ N n M0 w0 Q' M a w hs hnd hlo s e q
  simp only[cZ,Bool.and_eq_true]at hs
  simp only[qg,Bool.and_eq_true]at hnd
  have h:(match ev T env 0 c with
   | .data (.val (.bool t))=>BrI t (Vk c true env λenv=>wc T (PCall P) (ak P) An x 0 Q env K) (Vk c false env λenv=>wc T (PCall P) (ak P) An y 0 Q env K)
   |_=>False):=h
  split at h<;>try exact h.elim
  rename_i t ht
  rw[zdj,OW,OW]at h
  have hc:a.eval c = .bool t:=by
   have:=dW s.mem (T:=T) (env:=env) (a:=a) 0 c λj _=>s.env j
   rw[ht]at this;exact this.bool
  have hset:St N M n (zcl c t env) K a w:=by
   cases c with
   |tmp j=>
    have hj:env.get j = .data (.val (.bool t)):=ht
    refine s.env_cons (λej=>?_) ?_
    ·subst ej;have:=s.defers;rw[hj]at this;exact this.view λh=>h
    ·have:=s.env j;rw[hj]at this;exact this
   |_=>exact s
  cases t with
  |true=>exact Am hc (ihx _ Q _ K h ρ N n M0 w0 Q' M a w hs.1 (λhr=>(hnd hr).1) hlo hset e q)
  |false=>exact yS hc (ihy _ Q _ K h ρ N n M0 w0 Q' M a w hs.2 (λhr=>(hnd hr).2) hlo hset e q)
 |block id c ih=>
  intro la Q env K h _ ρ N n M0 w0 Q' M a w hs hnd hlo s e q
  refine LM (ih _ _ env K h ρ N n M0 w0 _ M a w hs hnd hlo s e λo env K M a w h s e=>?_)
  cases o with
  |normal=>exact q .normal env K M a w h s e
  |exit i=>
   simp only[Post.block]at h
   simp only[Exit.inBlock]
   split at h
   ·rename_i hb
    rw[if_pos (Nat.eq_of_beq_eq_true hb)]
    exact q .normal env K M a w h s e
   ·rename_i hb
    rw[if_neg (λe=>by simp_all)]
    exact q (.exit i) env K M a w h s e
  |ret=>exact q .ret env K M a w h s e
  |panic x=>exact q (.panic x) env K M a w h s e
 |loop c ih=>
  intro la Q env K h _ ρ N n M0 w0 Q' M a w hs hnd hlo s e q
  obtain⟨L,⟨s0,hI0,hw0⟩,hround⟩:=h.out
  rw[vI,qQ]at hw0
  obtain⟨M1,st1,e1⟩:=s.weak e hw0
  refine Ru (S:={ s:L.S // L.I s }) (λs a w=>∃M,St N M n (L.mkE env s.1) (L.mkH env K s.1) a w/\Evo M0 w0 M w) (λs=>L.μ s.1) (λs a w hJ=>?_) ⟨s0,hI0⟩ a w ⟨M1,st1,e1⟩
  obtain⟨M,st,e⟩:=hJ
  have hr:=hround s.1 s.2
  rw[vI]at hr
  refine ih _ _ _ _ hr ρ N n M0 w0 _ M a w hs hnd hlo st e λo env K M a w h st e=>?_
  cases o with
  |normal=>
   obtain⟨s',h1,h2,h3⟩:=h
   rw[vI,qQ]at h3
   obtain⟨M',st',e'⟩:=st.weak e h3
   exact⟨⟨s',h1⟩,h2,M',st',e'⟩
  |exit i=>exact q (.exit i) env K M a w h st e
  |ret=>exact q .ret env K M a w h st e
  |panic x=>exact q (.panic x) env K M a w h st e
 |rangeFunc g ps x y ihx ihy=>
  intro la Q env K h
  have h:(match ps.toList with
   | []=>False
   |p::r=>lg p ((qg x&&qg y)=true/\∃R:kZ,RN T (ak P) R g (p::r) (λxs H k H'=>wc T (PCall P) (ak P) An x 0 (OY λe K=>wc T (PCall P) (ak P) An y 0 (O0 k H') e K) (iJ (p::r) xs R.e0) H) Q env K)):=h
  split at h
  ·exact h.elim
  ·rename_i p r hps
   obtain⟨h1,R,h2⟩:=h.out
   rw[<-hps]at h2
   exact @Zo _ P T g ps x y R Q env K h1 (h2.mono λxs H k H' hh=>U2.mono (@ihx _ _ _ _ hh) λo e K hq=>⟨hq.1,@ihy _ _ _ _ hq.2⟩)
 |exit id=>intro la Q env K h _ ρ N n M0 w0 Q' M a w _ _ _ s e q;exact Ee (q (.exit id) env K M a w h s e)
 |scope c ih=>intro la Q env K h;exact h.elim
 |label l=>intro la Q env K h;exact h.elim
 |goto l=>intro la Q env K h;exact h.elim
 |ret=>intro la Q env K h _ ρ N n M0 w0 Q' M a w _ _ _ s e q;exact Iz (q .ret env K M a w h s e)
 |refuse why=>intro la Q env K h;exact h.elim
end
section
variable {P : Program} {T : Tbl} (hT : iQ P T)
include hT
theorem lm(hmix:P.follows .mixedOrders=true)(An:zcn){f:FuncId}{fn:Func}{c:Code}{as:List AV}{K0 K1:Heap}{out:gG}(hf:P.funcs[f]? = some fn)(hb:fn.body=some c)(hname:(fn.name == "runtime.NumGoroutine")=false)(hs:cZ fn.ntmps c=true)
  (hn:(Nat.ble as.length fn.ntmps&&Nat.ble fn.ntmps 999999&&kX (keys K0) && !(Nat.beq f yx))=true)
  (h:(∀x∈as,xy x)->wc T (PCall P) (ak P) An c 0 (sD T (nK P) fn.results.toList K0 out K1) (iU 0 as) K0):ak P f as K0 out K1:=
 IR hT hf hb hname hs hn λhx=>zhw hT hmix c 0 _ _ _ (h hx)
theorem tZ(hmix:P.follows .mixedOrders=true)(An:zcn){f:FuncId}{fn:Func}{c:Code}{ds:List D}{out:lY}(hf:P.funcs[f]? = some fn)(hb:fn.body=some c)(hname:(fn.name == "runtime.NumGoroutine")=false)(hs:cZ fn.ntmps c=true)
  (hn:(Nat.ble ds.length fn.ntmps&&Nat.ble fn.ntmps 999999 && !(Nat.beq f yx))=true)
  (h:(∀d∈ds,Fits d)->wc T (PCall P) (ak P) An c 0 (sD T (nK P) fn.results.toList [] out.toA []) (iU 0 (ds.map .data)) []):PCall P f ds out:=
 Dq (lm hT hmix An hf hb hname hs (by simp at hn ⊢;exact⟨⟨⟨by simp_all,hn.1.2⟩,rfl⟩,hn.2⟩) λhx=>h λd hd=>(hx (.data d) (List.mem_map_of_mem hd)).data) (λe=>by simp_all)
end
section
variable {P : Program} {T : Tbl} [ae] {f : FuncId} {fn : Func} {c : Code}
theorem pg{az:List AV}{K0 K1:Heap}{out:gG}(hf:P.funcs[f]? = some fn)
  (h:(∀x∈az,xy x)->wc T (PCall P) (ak P) ⟨[],[]⟩ c 0 (sD T (nK P) fn.results.toList K0 out K1) (iU 0 az) K0)
  (hT:iQ P T:=by exact tok) (hm:P.follows .mixedOrders=true:=by exact hmix) (hb:fn.body=some c:=by rfl) (hname:(fn.name == "runtime.NumGoroutine")=false:=by kernel_rfl) (hs:cZ fn.ntmps c=true:=by kernel_rfl)
  (hn:(Nat.ble az.length fn.ntmps&&Nat.ble fn.ntmps 999999&&kX (keys K0) && !(Nat.beq f yx))=true:=by kernel_rfl):ak P f az K0 out K1:=lm hT hm ⟨[],[]⟩ hf hb hname hs hn h
theorem aT{az:List AV}{K0 K1:Heap}{out:gG}(hf:P.funcs[f]? = some fn)
  (h:wc T (PCall P) (ak P) ⟨[],[]⟩ c 0 (sD T (nK P) fn.results.toList K0 out K1) (iU 0 az) K0)
  (hT:iQ P T:=by exact tok) (hm:P.follows .mixedOrders=true:=by exact hmix) (hb:fn.body=some c:=by rfl) (hname:(fn.name == "runtime.NumGoroutine")=false:=by kernel_rfl) (hs:cZ fn.ntmps c=true:=by kernel_rfl)
  (hn:(Nat.ble az.length fn.ntmps&&Nat.ble fn.ntmps 999999&&kX (keys K0) && !(Nat.beq f yx))=true:=by kernel_rfl):ak P f az K0 out K1:=lm hT hm ⟨[],[]⟩ hf hb hname hs hn λ_=>h
theorem dh{ds:List D}{out:lY}(hf:P.funcs[f]? = some fn)
  (h:(∀d∈ds,Fits d)->wc T (PCall P) (ak P) ⟨[],[]⟩ c 0 (sD T (nK P) fn.results.toList [] out.toA []) (iU 0 (ds.map .data)) [])
  (hT:iQ P T:=by exact tok) (hm:P.follows .mixedOrders=true:=by exact hmix) (hb:fn.body=some c:=by rfl) (hname:(fn.name == "runtime.NumGoroutine")=false:=by kernel_rfl) (hs:cZ fn.ntmps c=true:=by kernel_rfl)
  (hn:(Nat.ble ds.length fn.ntmps&&Nat.ble fn.ntmps 999999 && !(Nat.beq f yx))=true:=by kernel_rfl):PCall P f ds out:=tZ hT hm ⟨[],[]⟩ hf hb hname hs hn h
theorem aj{ds:List D}{out:lY}(hf:P.funcs[f]? = some fn)
  (h:wc T (PCall P) (ak P) ⟨[],[]⟩ c 0 (sD T (nK P) fn.results.toList [] out.toA []) (iU 0 (ds.map .data)) [])
  (hT:iQ P T:=by exact tok) (hm:P.follows .mixedOrders=true:=by exact hmix) (hb:fn.body=some c:=by rfl) (hname:(fn.name == "runtime.NumGoroutine")=false:=by kernel_rfl) (hs:cZ fn.ntmps c=true:=by kernel_rfl)
  (hn:(Nat.ble ds.length fn.ntmps&&Nat.ble fn.ntmps 999999 && !(Nat.beq f yx))=true:=by kernel_rfl):PCall P f ds out:=tZ hT hm ⟨[],[]⟩ hf hb hname hs hn λ_=>h
end
theorem cO{A B q:Prop}(h:B)(e:B->A:=by exact λh=>⟨[],rfl,h,trivial⟩):A\/q:=.inl (e h)
end Go.Fw
