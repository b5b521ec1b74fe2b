/- A part of the proof. -/
import Derived.RangeFuncRecord
import Derived.Recover
import Derived.RangeFuncIn
import Derived.Test.YtaipffoajgkljaaGreatDoorZK4
set_option linter.all false
namespace Go.Fw
variable [af]
section
variable {P : Program}
def lw(P:Program)(fn:Func)(tmps:Array Value)(R:Ending->World->Prop):List Deferred->FrameMode->World->Prop
 | [],u,w=>Leaves P fn tmps R [] u w
 | d::ds,u,w=>u ≠ .run/\((∃r w',d.target = .collected r/\(Instr.takeDeferred r).run P w = .ok [] w'/\lw P fn tmps R ds u w') \/
   ∃fv cap f args,d.target = .fn fv cap/\(invoke d.target d.args).run P w = .ok (.enter f args) w/\CallsD P f args u w fun
    | .returned _,u',w'=>lw P fn tmps R ds (settle u') w'
    | .panicked chain,u',w'=>lw P fn tmps R ds (raised u' chain) w'
    | .outgrown,_,w'=>R .outgrown w')
theorem iC{fn:Func}{tmps:Array Value}{R:Ending->World->Prop}:∀(ds:List Deferred) (u:FrameMode) (w:World) (fr:Frame) (cs:List Frame),
  fr.mode=u->fr.defers=ds->fr.tmps=tmps->P.funcs[fr.fn]? = some fn->fr.kind = .normal->lw P fn tmps R ds u w ->
  ∃e w' fr',R e w'/\Comes P (lone fr cs w) (lone fr' cs w') e/\fr'.fn=fr.fn/\fr'.leaving P w' e
 | [],u,w,fr,cs,hu,hd,ht,hf,hk,h=>leaves_steps [] u w fr cs hu hd ht hf hk h
 |d::ds,u,w,fr,cs,hu,hd,ht,hf,hk,h=>by
  obtain⟨hrun,h⟩:=h
  rcases h with⟨r,w1,htar,htake,hrest⟩ |⟨fv,cap,f,args,htar,hinv,hcall⟩
  ·obtain⟨e,w2,fr2,h1,h2,h3,h4⟩:=iC ds u w1 { fr with defers:=[]++ds } cs hu rfl ht hf hk hrest
   exact⟨e,w2,fr2,h1,Comes.of_steps (.one (step_collected (hu ▸ hrun) hd htar htake)) h2,h3,h4⟩
  ·have go:=step_defer (cs:=cs) (hu ▸ hrun) hd htar hinv
   obtain⟨e,u1,w1,fx,hR,hs,hx,hg⟩:=hcall { fr with defers:=ds } cs hu
   cases e with
   |returned v=>
    have back:=step_going_returned (c:={ { fr with defers:=ds } with mode:=u1 }) (cs:=cs) hx hg
    obtain⟨e,w2,fr2,h1,h2,h3,h4⟩:=iC ds (settle u1) w1 { { { fr with defers:=ds } with mode:=u1 } with mode:=settle u1 } cs rfl rfl ht hf hk hR
    exact⟨e,w2,fr2,h1,Comes.of_steps (.head go (Steps.trans hs (.one back))) h2,h3,h4⟩
   |panicked chain=>
    have back:=step_going_panicked (c:={ { fr with defers:=ds } with mode:=u1 }) (cs:=cs) hg
    obtain⟨e,w2,fr2,h1,h2,h3,h4⟩:=iC ds (raised u1 chain) w1 { { { fr with defers:=ds } with mode:=u1 } with mode:=raised u1 chain } cs rfl rfl ht hf hk hR
    exact⟨e,w2,fr2,h1,Comes.of_steps (.head go (Steps.trans hs (.one back))) h2,h3,h4⟩
   |outgrown=>exact⟨.outgrown,w1,fr,hR,Outgrown.of_steps (.one go) hs,rfl,trivial⟩
def zep(P:Program)(fn:Func)(R:Ending->World->Prop):Exit->Act->World->Prop
 | .normal,a,w | .ret,a,w=>lw P fn a.tmps R a.defers .returning w
 | .panic chain,a,w=>lw P fn a.tmps R a.defers (.panicking chain) w
 | .outgrown,_,w=>R .outgrown w
 |_,_,_=>False
theorem Le{f:FuncId}{fn:Func}{c:Code}{args:Array Value}{w:World}{R:Ending->World->Prop}(hf:P.funcs[f]? = some fn)(hb:fn.body=some c)
  (h:ny none P c (zep P fn R) { tmps:=args++Array.replicate (fn.ntmps-args.size) undef,defers:=[] } w):Calls P f args w R:=by
 intro cs
 let b:Frame:={ (default:Frame)with fn:=f,kind:=.normal }
 have henter:Frame.enter P f args .normal=b.at { tmps:=args++Array.replicate (fn.ntmps-args.size) undef,defers:=[] } [.code c]:=by
  grind[Frame.enter,Frame.at]
 obtain⟨e,a',w',hq,harr⟩:=h b [] cs rfl ⟨fn,hf⟩
 have harr:=(arrivesIn_iff (λ_ _=>stepsIn_wide) (rfl:b.roundOf=none)).1 harr
 rw[Frame.atR_of_none rfl,<-henter]at harr
 cases e with
 |normal=>
  obtain⟨e2,w2,fr2,h1,h2,h3,h4⟩:=iC a'.defers .returning w' { b.at a' []with mode:=.returning } cs rfl rfl rfl hf rfl hq
  exact⟨e2,w2,fr2,h1,Comes.of_steps (Steps.trans harr (.one step_end)) h2,h3,h4⟩
 |ret=>
  obtain⟨todo,hs⟩:=harr
  obtain⟨e2,w2,fr2,h1,h2,h3,h4⟩:=iC a'.defers .returning w' { b.at a' todo with mode:=.returning } cs rfl rfl rfl hf rfl hq
  exact⟨e2,w2,fr2,h1,Comes.of_steps hs h2,h3,h4⟩
 |panic chain=>
  obtain⟨todo,hs⟩:=harr
  obtain⟨e2,w2,fr2,h1,h2,h3,h4⟩:=iC a'.defers (.panicking chain) w' { b.at a' todo with mode:=.panicking chain } cs rfl rfl rfl hf rfl hq
  exact⟨e2,w2,fr2,h1,Comes.of_steps hs h2,h3,h4⟩
 |exit id=>exact hq.elim
 |goto l=>exact hq.elim
 |outgrown=>exact⟨.outgrown,w',b,hq,harr.resolve_left (by simp[b]),rfl,trivial⟩
end
structure Sv(N:aT)(M:Mem)(env:Env)(K:Heap)(tmps:Array Value)(w:World):Prop where
 env:∀j,aH N M w (env.get j) (tmps.getD j undef)
 heap:∀id blk,K.get id=some blk->eX N M w id blk
 mem:bW N M w
theorem St.sv[Lo]{N:aT}{M:Mem}{n:Nat}{env:Env}{K:Heap}{a:Act}{w:World}(s:St N M n env K a w):Sv N M env K a.tmps w:=⟨s.env,s.heap,s.mem⟩
structure Quiet(M:Mem)(w w':World)(b:Nat):Prop where
 os:w'.os=w.os
 tape:w'.tape=w.tape
 output:w'.output=w.output
 size:w'.heap.size=w.heap.size
 other:∀b',b'≠b->w'.heap[b']? = w.heap[b']?
 nocell:∀o u,w.cell? ⟨b,o,none⟩≠some u
 norow:∀arr t fr,w.heap[b]? ≠ some (Obj.cells arr t fr)
 free:∀o,¬M.R b o
theorem Quiet.keeps{M:Mem}{w w':World}{b:Nat}(q:Quiet M w w' b)(F:aT):fH w F w' F:=by
 intro b' o u hf hc
 refine⟨hf,?_⟩
 have hne:b'≠b:=λe=>q.nocell o u (e ▸ hc)
 rw[<-hc]
 exact World.cell?_of_block (q.other b' hne)
theorem Quiet.shape{M:Mem}{w w':World}{b:Nat}(q:Quiet M w w' b):∀b' arr t,dI w b' arr t->∃arr',dI w' b' arr' t/\arr'.size=arr.size:=by
 intro b' arr t h
 have hne:b'≠b:=λe=>by subst e;exact q.norow _ _ _ h
 exact⟨arr,(q.other b' hne).trans h,rfl⟩
theorem Quiet.at{M:Mem}{w w':World}{b:Nat}(q:Quiet M w w' b){b' o:Nat}(h:M.R b' o):w'.heap[b']? = w.heap[b']?:=q.other b' λe=>q.free o (e ▸ h)
theorem Quiet.arel{N:aT}{M:Mem}{w w':World}{b:Nat}(q:Quiet M w w' b){x:AV}{v:Value}(h:aH N M w x v):aH N M w' x v:=h.keep (q.keeps _) q.shape λ_ _=>.inl rfl
theorem Quiet.drel{M:Mem}{w w':World}{b:Nat}(q:Quiet M w w' b){F:aT}{d:D}{v:Value}(h:DRel F w d v):DRel F w' d v:=h.keep (q.keeps _)
theorem Quiet.brel{N:aT}{M:Mem}{w w':World}{b:Nat}(q:Quiet M w w' b){id:Nat}{blk:Block}(h:eX N M w id blk):eX N M w' id blk:=by
 have row:∀b' ow (arr:Array Value) t,M id=some ow->(∀o,ow.has b' o->True)->(∃o,ow.has b' o)->dI w b' arr t->dI w' b' arr t:=by
  intro b' ow arr t e1 _ ⟨o,ho⟩ hr
  exact(q.at ⟨id,ow,e1,ho⟩).trans hr
 cases blk with
 |cells cs=>
  obtain⟨b',arr,t,e1,e2,e3,e4⟩:=h
  exact⟨b',arr,t,e1,row b' _ arr t e1 (λ_ _=>trivial) ⟨0,rfl⟩ e2,e3,λi c e=>q.arel (e4 i c e)⟩
 |arr vr sz es=>
  rcases h with⟨b',arr,t,e1,e2,e3,e4,e5⟩ |h
  ·exact .inl ⟨b',arr,t,e1,row b' _ arr t e1 (λ_ _=>trivial) ⟨0,rfl⟩ e2,e3,e4,λi j e d he hd=>⟨q.drel (e5 i j e d he hd).1,(e5 i j e d he hd).2⟩⟩
  ·exact .inr h
 |tok sz n=>
  rcases h with⟨e1,e2⟩ |⟨b',arr,t,e1,e2⟩
  ·exact .inl ⟨e1,e2⟩
  ·exact .inr ⟨b',arr,t,e1,row b' _ arr t e1 (λ_ _=>trivial) ⟨n * sz,rfl,Nat.le_refl _⟩ e2⟩
 |map g l es=>
  obtain⟨b',mes,clock,e1,e2,e3,est,e4⟩:=h
  exact⟨b',mes,clock,e1,(q.at (o:=0) ⟨id,_,e1,(rfl:b'=b')⟩:w'.heap[b']? = _).trans e2,e3,est,λi x e=>by
   obtain⟨f0,m',f1,f2,f3⟩:=e4 i x e
   exact⟨f0,m',f1,q.drel f2,q.drel f3⟩⟩
 |dead=>trivial
 |adr i b=>exact q.arel h
 |rnd R=>
  obtain⟨l,S,e1,e2⟩:=h
  exact⟨l,S,e1,R.keep e2 (λb' o hS=>.inr ⟨id,_,e1,o,Nat.le_refl _,hS⟩) (Nat.le_of_eq q.size.symm) (λb' o hS=>q.at ⟨id,_,e1,o,Nat.le_refl _,hS⟩) (q.keeps _) q.shape⟩
theorem Quiet.memOk{N:aT}{M:Mem}{w w':World}{b:Nat}(q:Quiet M w w' b)(m:bW N M w):bW N M w':=by
 refine⟨m.disj,λid ow b' o h1 h2=>?_,λb' o h=>?_,λg cs h=>?_⟩
 ·rw[q.size];exact m.dom id ow b' o h1 h2
 ·rw[q.size];exact m.foes b' o h
 ·obtain⟨h1,⟨t,fr,h2⟩,h3⟩:=m.glob g cs h
  have hne:g≠b:=λe=>by subst e;exact q.norow _ _ _ h2
  refine⟨h1,⟨t,fr,(q.other g hne).trans h2⟩,λj v hj=>?_⟩
  obtain⟨k1,k2,k3⟩:=h3 j v hj
  exact⟨k1,(q.keeps N g j v k1 k2).2,k3⟩
theorem Quiet.sv{N:aT}{M:Mem}{w w':World}{b:Nat}(q:Quiet M w w' b){env:Env}{K:Heap}{tmps:Array Value}(s:Sv N M env K tmps w):Sv N M env K tmps w':=
 ⟨λj=>q.arel (s.env j),λid blk h=>q.brel (s.heap id blk h),q.memOk s.mem⟩
theorem Quiet.evo{M0 M:Mem}{w0 w w':World}{b:Nat}(q:Quiet M w w' b)(e:Evo M0 w0 M w)(hb:w0.heap.size<=b):Evo M0 w0 M w':=by
 refine⟨q.os.trans e.os,q.tape.trans e.tape,q.output.trans e.output,by rw[q.size];exact e.size,λb' h1 h2=>?_,λb' o u h1 h2=>?_,λb' arr t h=>?_,e.own,e.lent⟩
 ·rw[q.other b' (by omega)];exact e.block b' h1 h2
 ·have h3:=e.cell b' o u h1 h2
  exact(q.keeps (λ_ _=>False) b' o u (λh=>h) h3).2
 ·obtain⟨a1,h1,h2⟩:=e.shape b' arr t h
  obtain⟨a2,h3,h4⟩:=q.shape b' a1 t h1
  grind
theorem Ul{w:World}{b:Nat}{ob:Obj}(h:w.heap[b]? = some ob)(hc:∀arr t fr,ob≠Obj.cells arr t fr)(o:Nat)(u:Value):w.cell? ⟨b,o,none⟩≠some u:=by
 intro hu
 unfold World.cell? at hu
 simp_all
theorem qg{M:Mem}{w:World}{b:Nat}{ob:Obj}(h:w.heap[b]? = some ob)(hc:∀arr t fr,ob≠Obj.cells arr t fr)(hf:∀o,¬M.R b o)(ob':Obj):Quiet M w (w.putObj b ob') b:=
 ⟨rfl,rfl,rfl,by simp,λ_ hne=>World.putObj_heap_other hne,Ul h hc,λarr t fr e=>by grind,hf⟩
theorem kD{P:Program}{N:aT}{M0 M:Mem}{w0:World}{env:Env}{K:Heap}{fn:Func}{tmps:Array Value}{R:Ending->World->Prop}{u:FrameMode}(hu:u ≠ .run)(X:World->Prop)(hX:∀w w' b,Quiet M w w' b->X w->X w')
  (hfin:∀w,Sv N M env K tmps w->Evo M0 w0 M w->X w->Leaves P fn tmps R [] u w):∀(ds:List Deferred) (w:World),jo ds = []->(marks ds).Nodup->(∀b∈marks ds,rM M w b/\w0.heap.size<=b)->Sv N M env K tmps w->Evo M0 w0 M w->X w->lw P fn tmps R ds u w
 | [],w,_,_,_,s,e,x=>hfin w s e x
 |d::ds,w,h1,h2,h3,s,e,x=>by
  have hm:zF d=true:=by
   grind[jo]
  have e1:jo (d::ds)=jo ds:=by simp[jo,hm]
  have e2:marks (d::ds)=uk d::marks ds:=by simp[marks,hm]
  rw[e1]at h1
  rw[e2]at h2 h3
  obtain⟨⟨k1,k2⟩,k3⟩:=h3 (uk d) (by simp)
  have hd:d.target = .collected (uk d):=by
   unfold zF at hm
   unfold uk
   grind
  have q:=qg k1 (λ_ _ _ h=>by cases h) k2 (.deferred none)
  refine⟨hu,.inl ⟨_,_,hd,run_takeDeferred k1,?_⟩⟩
  refine kD hu X hX hfin ds _ h1 (List.nodup_cons.1 h2).2 (λb hb=>?_) (q.sv s) (q.evo e k3) (hX _ _ _ q x)
  obtain⟨⟨k4,k5⟩,k6⟩:=h3 b (by simp[hb])
  exact⟨⟨(q.other b (λe=>(List.nodup_cons.1 h2).1 (e ▸ hb))).trans k4,k5⟩,k6⟩
theorem Dy{P:Program}{N:aT}{M0 M:Mem}{w0:World}{env:Env}{K:Heap}{fn:Func}{tmps:Array Value}{R:Ending->World->Prop}{u:FrameMode}{d:Deferred}(hu:u ≠ .run)(X:World->Prop)(hX:∀w w' b,Quiet M w w' b->X w->X w')
  (hreal:∀rest w,jo rest = []->(marks rest).Nodup->(∀b∈marks rest,rM M w b/\w0.heap.size<=b)->Sv N M env K tmps w->Evo M0 w0 M w->X w->lw P fn tmps R (d::rest) u w):∀(ds:List Deferred) (w:World),jo ds = [d]->(marks ds).Nodup->(∀b∈marks ds,rM M w b/\w0.heap.size<=b)->Sv N M env K tmps w->Evo M0 w0 M w->X w->lw P fn tmps R ds u w
 | [],w,h,_,_,_,_,_=>by simp[jo]at h
 |c::ds,w,h1,h2,h3,s,e,x=>by
  cases hm:zF c with
  |false=>
   have e1:jo (c::ds)=c::jo ds:=by simp[jo,hm]
   have e2:marks (c::ds)=marks ds:=by simp[marks,hm]
   simp_all
  |true=>
   have e1:jo (c::ds)=jo ds:=by simp[jo,hm]
   have e2:marks (c::ds)=uk c::marks ds:=by simp[marks,hm]
   rw[e1]at h1
   rw[e2]at h2 h3
   obtain⟨⟨k1,k2⟩,k3⟩:=h3 (uk c) (by simp)
   have hd:c.target = .collected (uk c):=by
    unfold zF at hm
    unfold uk
    grind
   have q:=qg k1 (λ_ _ _ h=>by cases h) k2 (.deferred none)
   refine⟨hu,.inl ⟨_,_,hd,run_takeDeferred k1,?_⟩⟩
   refine Dy hu X hX hreal ds _ h1 (List.nodup_cons.1 h2).2 (λb hb=>?_) (q.sv s) (q.evo e k3) (hX _ _ _ q x)
   obtain⟨⟨k4,k5⟩,k6⟩:=h3 b (by simp[hb])
   exact⟨⟨(q.other b (λe=>(List.nodup_cons.1 h2).1 (e ▸ hb))).trans k4,k5⟩,k6⟩
theorem rM.step{M M':Mem}{w w':World}{W:List Nat}{b:Nat}(s:Step M w M' w' W)(h:rM M w b):rM M' w' b:=by
 have hlt:=(Array.getElem?_eq_some_iff.1 h.1).1
 exact⟨(s.block b hlt λid _ ow o h1 h2=>h.2 o ⟨id,ow,h1,h2⟩).trans h.1,λo ho=>h.2 o (s.R_old hlt ho)⟩
theorem Sv.turn{N:aT}{M M':Mem}{env:Env}{K:Heap}{tmps:Array Value}{w w':World}{W nw:List Nat}{Δ:Heap}(s:Sv N M env K tmps w)
  (hs:Step M w M' w' W) (htr:∀id∈W,id ∉ nw->Tr M M' id) (hf:∀d∈nw,bP d=false/\fU d env=false/\pI d K=false) (hδ:∀id blk,Δ.get id=some blk->eX N M' w' id blk) (hno:∀id,id∈W↔∃b,Δ.get id=some b) :
  Sv N M' env (uA K Δ) tmps w':=by
 have htr':∀id,(id∈nw->False)->Tr M M' id:=by
  intro id hx
  by_cases h:id∈W
  ·grind
  ·exact .inl (hs.mem id h)
 have hk:=hs.keeps (N:=N)
 have hE:∀j id,(env.get j).men id=true->Tr M M' id:=λj id hi=>htr' id λhn=>by
  grind[ou]
 refine⟨λj=>(s.env j).keep hk hs.shape (hE j),?_,hs.memOk s.mem⟩
 intro id blk hget
 rw[jw]at hget
 split at hget
 ·simp_all
 ·have hid:id ∉ W:=λh=>by simp_all
  refine(s.heap id blk hget).keep s.mem hs hid λid' hi=>htr' id' λhn=>?_
  grind[qI]
def zei(tmps:Array Value):ResultVar->Sem Value
 | .tmp t=>pure (tmps.getD t undef)
 | .cell a t=>do loadVar t (<-asAddr (tmps.getD a undef))
theorem QG(fn:Func)(tmps:Array Value):results fn tmps=(do
 let vs <-fn.results.mapM (zei tmps)
 pure (if h:vs.size=1 then vs[0]else .tuple vs)):=rfl
section
variable {P : Program} {T : Tbl} (hT : iZ P T)
include hT
theorem z4i{env:Env}{K:Heap}{r:ResultVar}{x:AV}(h:zeh T env K r=some x){N:aT}{M:Mem}{tmps:Array Value}{w:World}(s:Sv N M env K tmps w) :
  ∃v,(zei tmps r).run P w = .ok v w/\aH N M w x v:=by
 cases r with
 |tmp t=>simp[zeh]at h;subst h;exact⟨_,rfl,s.env t⟩
 |cell t ty=>
  simp[zeh]at h
  split at h<;>try(simp at h)
  rename_i id off heq
  have hv:jZ T ty (.ptr id off) K (λr _=>r=x):=by
   grind[jZ]
  obtain⟨r,hr,hr2⟩:=EN hT hv
  have hx:=s.env t
  rw[heq]at hx
  obtain⟨u,hu,hur⟩:=hr2 N M w _ hx λid _=>s.heap id
  simp only[zei]
  generalize tmps.getD t undef=z at hx hu ⊢
  cases hx with
  |ptr _ _ ad _=>
   grind[Instr.loadAt,Instr.sureAddr,asAddr]
theorem Yk{env:Env}{K:Heap}{N:aT}{M:Mem}{tmps:Array Value}{w:World}(s:Sv N M env K tmps w):∀(rs:List ResultVar) (ds:List AV),QD T env K rs=some ds ->
  ∃vs:List Value,(rs.mapM (zei tmps)).run P w = .ok vs w/\vs.length=ds.length/\∀(i:Nat) d,ds[i]? = some d->aH N M w d (vs.getD i undef):=by
 intro rs
 induction rs with
 |nil=>intro ds h;simp[QD]at h;simp_all
 |cons r rs ih=>
  intro ds h
  simp[QD]at h
  split at h<;>try(simp at h)
  rename_i d hd
  split at h<;>try(simp at h;done)
  rename_i ds' hds
  simp at h;subst h
  obtain⟨v,hv,hvr⟩:=z4i hT hd s
  obtain⟨vs,h1,h2,h3⟩:=ih ds' hds
  refine⟨v::vs,?_,by simp[h2],λi d' e=>?_⟩
  ·simp[hv,h1]
  ·cases i with
   |zero=>simp at e;subst e;simpa using hvr
   |succ i=>simpa using h3 i d' e
theorem Ij{fn:Func}{env:Env}{K:Heap}{x:AV}(h:Oh T fn.results.toList env K=some x){N:aT}{M:Mem}{tmps:Array Value}{w:World}(s:Sv N M env K tmps w) :
  ∃v,(results fn tmps).run P w = .ok v w/\aH N M w x v:=by
 have hrun:∀ds,QD T env K fn.results.toList=some ds->∃vs:List Value,(results fn tmps).run P w = .ok (if h:vs.toArray.size=1 then vs.toArray[0]else .tuple vs.toArray) w/\vs.length=ds.length/\∀(i:Nat) d,ds[i]? = some d->aH N M w d (vs.getD i undef):=by
  intro ds hds
  obtain⟨vs,h1,h2,h3⟩:=Yk hT s _ ds hds
  rw[QG]
  have:fn.results=fn.results.toList.toArray:=by simp
  rw[this]
  grind[Sem.run_bind,Sem.run_map,Result.andThen_ok,Sem.run_pure]
 unfold Oh at h
 split at h
 ·simp at h
 ·rename_i d' hds
  simp at h;subst h
  obtain⟨vs,h1,h2,h3⟩:=hrun _ hds
  match vs,h2 with
  | [v],_=>exact⟨v,by simpa using h1,by simpa using h3 0 d' (by simp)⟩
 ·rename_i ds hne hds
  simp at h;subst h
  obtain⟨vs,h1,h2,h3⟩:=hrun _ hds
  have:vs.toArray.size≠1:=by
   intro e
   match ds,h2.symm.trans e with
   | [d],_=>exact hne d rfl
  rw[dif_neg this]at h1
  exact⟨_,h1,.tuple _ _ (by simpa using h2) λi d hd=>by simp_all⟩
end
theorem EY{w:World}{b:Nat}{arr:Array Value}{t:TypeId}(h:dI w b arr t){o:Nat}(ho:o<arr.size):w.cell? ⟨b,o,none⟩=some (arr.getD o undef):=by
 rw[dF h,bF undef ho]
section
variable {N : aT} {M M2 : Mem} {w : World} {K : Heap} {keep : List Nat} (hK : ∀ id blk, K.get id = some blk → eX N M w id blk) (hm : bW N M w) (hR : ∀ b o, M2.R b o → ∃ id ∈ keep, ∃ ow, M id = some ow ∧ ow.has b o)
include hm hR
omit hm in
theorem Um(b o:Nat):Fb N M2 b o->Fb N M b o:=by
 rintro(h |h)
 ·exact .inl h
 ·obtain⟨id,_,ow,h1,h2⟩:=hR b o h;exact .inr ⟨id,ow,h1,h2⟩
theorem Un{id b:Nat}(h:og keep id=false)(hb:M id=some (.blk b))(o:Nat):¬Fb N M2 b o:=by
 rintro(hN |hr)
 ·exact(hm.dom id _ b o hb rfl).2 hN
 ·obtain⟨id',h1,ow,h2,h3⟩:=hR b o hr
  refine hm.disj id id' _ ow b o ?_ hb h2 rfl h3
  grind[bD]
theorem Dz{id b v:Nat}(h:og keep id=false)(hb:M id=some (.vb b v))(o:Nat):¬Fb N M2 b o:=by
 rintro(hN |hr)
 ·exact(hm.dom id _ b o hb rfl).2 hN
 ·obtain⟨id',h1,ow,h2,h3⟩:=hR b o hr
  refine hm.disj id id' _ ow b o ?_ hb h2 rfl h3
  grind[bD]
include hK in
theorem za7:∀(n:Nat) (x:AV) (k:D->Prop) (v:Value),frz K keep n x k->aH N M w x v->∃d,k d/\DRel (Fb N M2) w d v:=by
 have hless:∀b o,Fb N M2 b o->Fb N M b o:=λb o=>Um hR b o
 intro n
 induction n with
 |zero=>intro x k v h;exact h.elim
 |succ n ih=>
  have ihL:∀(cs:List AV) (k:List D->Prop) (g:Nat->Value),z4h (frz K keep n) cs k->(∀(i:Nat) c,cs[i]? = some c->aH N M w c (g i))->∃ds,k ds/\ds.length=cs.length/\∀(i:Nat) d,ds[i]? = some d->DRel (Fb N M2) w d (g i):=by
   intro cs
   induction cs with
   |nil=>intro k g h _;exact⟨[],h,rfl,by simp⟩
   |cons c r ihr=>
    intro k g h hg
    simp only[z4h]at h
    obtain⟨d,h1,h2⟩:=ih c _ (g 0) h (hg 0 c (by simp))
    obtain⟨ds,h3,h4,h5⟩:=ihr _ (λi=>g (i+1)) h1 λi c' hc=>hg (i+1) c' (by simpa using hc)
    refine⟨d::ds,h3,by simp[h4],λi d' hd=>?_⟩
    cases i with
    |zero=>simp at hd;subst hd;exact h2
    |succ i=>exact h5 i d' (by simpa using hd)
  intro x k v h hr
  cases hr with
  |data d _ hd=>exact⟨d,h,hd.keep (fH.less hless)⟩
  |nilsl sz=>exact⟨_,h,.sl0 sz none 0 (by simp[maxLen])⟩
  |gs id sz es a n cap hd h0 h1=>exact⟨_,h,hd.keep (fH.less hless)⟩
  |iface t y u hy=>
   obtain⟨d,h1,h2⟩:=ih y _ u h hy
   exact⟨_,h1,.iface t d u h2⟩
  |agg cs vs hl hh=>
   obtain⟨ds,h1,h2,h3⟩:=ihL cs _ (λi=>vs.getD i undef) h hh
   exact⟨_,h1,.agg ds vs (by omega) h3⟩
  |tuple cs vs hl hh=>
   obtain⟨ds,h1,h2,h3⟩:=ihL cs _ (λi=>vs.getD i undef) h hh
   exact⟨_,h1,.tuple ds vs (by omega) h3⟩
  |fn f cs vs hl hh=>
   obtain⟨ds,h1,h2,h3⟩:=ihL cs _ (λi=>vs.getD i undef) h hh
   exact⟨_,h1,.fn f ds vs (by omega) h3⟩
  |bnd f cs vs hl hh=>simp[frz]at h
  |ptr id off a ha=>
   simp only[frz]at h
   split at h
   ·exact h.elim
   ·rename_i hkeep
    split at h
    ·rename_i cs hcs
     obtain⟨hsc,h⟩:=h
     obtain⟨b,arr,t,e1,e2,e3,e4⟩:=hK id _ hcs
     obtain rfl:=ha b e1
     have hg:∀(i:Nat) c,(cs.drop off)[i]? = some c->aH N M w c (arr.getD (off+i) undef):=λi c hc=>e4 _ c (by rwa[List.getElem?_drop]at hc)
     obtain⟨ds,h1,h2,h3⟩:=ihL (cs.drop off) _ (λi=>arr.getD (off+i) undef) h hg
     refine⟨_,h1,.ptr ds b off (λi=>arr.getD (off+i) undef) (λj d hd=>⟨Un hm hR hkeep e1 _,?_,?_⟩) h3⟩
     ·have hlt:j<(cs.drop off).length:=by rw[<-h2];exact(List.getElem?_eq_some_iff.1 hd).1
      simp only[List.length_drop]at hlt
      exact EY e2 (by omega)
     ·have hlt:j<(cs.drop off).length:=by rw[<-h2];exact(List.getElem?_eq_some_iff.1 hd).1
      exact gZ (hg j (cs.drop off)[j] (by simp)) (List.all_eq_true.1 hsc _ (List.getElem_mem hlt))
    ·exact h.elim
  |own id vr sz off len a cap ha hnb=>
   simp only[frz]at h
   split at h
   ·exact h.elim
   ·rename_i hkeep
    split at h
    ·rename_i vr2 sz' es hcs
     obtain⟨⟨rfl,rfl⟩,r,⟨hle,hr⟩,h⟩:=h
     rcases hK id _ hcs with⟨b,arr,t,e1,e2,e3,e4,e5⟩ |⟨e1,e2⟩
     rotate_left
     ·obtain⟨rfl,rfl,rfl⟩:=(hnb _ e1).2 rfl
      subst e2 hr
      exact⟨_,h,.sl0 sz a 0 (by simp[maxLen])⟩
     obtain⟨q1,q2,q3,_⟩:=(ha b _ e1).2 rfl
     have hrl:r.length=len:=by rw[hr];simp;omega
     refine⟨_,h,?_⟩
     by_cases hl0:len=0
     ·subst hl0
      have:r = []:=List.length_eq_zero_iff.1 hrl
      subst this
      exact .sl0 sz a cap q2
     ·obtain rfl:=q3 (by omega)
      have hri:∀(i:Nat) e,r[i]? = some e->es[off+i]? = some e:=by
       intro i e he
       rw[hr,List.getElem?_take]at he
       split at he
       ·rwa[List.getElem?_drop]at he
       ·simp at he
      have hkey:∀(i j:Nat) e d,r[i]? = some e->e[j]? = some d->off * sz+i * sz+j=(off+i) * sz+j/\(off+i) * sz+j<arr.size:=by
       intro i j e d he hd
       have h1:=hri i e he
       have hlt:=(List.getElem?_eq_some_iff.1 h1).1
       have hj:j<sz:=by rw[<-e4 e (List.mem_of_getElem? h1)];exact(List.getElem?_eq_some_iff.1 hd).1
       refine⟨by rw[Nat.add_mul],?_⟩
       refine Nat.lt_of_lt_of_le ?_ e3
       calc (off+i) * sz+j<(off+i) * sz+sz:=by omega
        _=(off+i+1) * sz:=by rw[Nat.add_mul (off+i)];simp
        _<=es.length * sz:=Nat.mul_le_mul_right _ (by omega)
      refine .sl sz r b (off * sz) cap len (λi j=>arr.getD (off * sz+i * sz+j) undef) hrl.symm q1 q2 (λe he=>?_) (λi j e d he hd=>⟨Dz hm hR hkeep e1 _,?_,?_⟩) λi j e d he hd=>?_
      ·obtain⟨i,hi⟩:=List.mem_iff_getElem?.1 he
       exact e4 e (List.mem_of_getElem? (hri i e hi))
      ·exact EY e2 (by have:=hkey i j e d he hd;omega)
      ·have:=hkey i j e d he hd
       rw[this.1];exact(e5 _ _ e d (hri i e he) hd).2
      ·have:=hkey i j e d he hd
       rw[this.1];exact(e5 _ _ e d (hri i e he) hd).1.keep (fH.less hless)
    ·exact h.elim
  |eptr id vr sz i off a ha _=>
   simp only[frz]at h
   split at h
   ·exact h.elim
   ·rename_i hkeep
    split at h
    ·rename_i vr2 sz' es hcs
     obtain⟨⟨rfl,rfl⟩,e,he,h⟩:=h
     obtain⟨b,arr,t,e1,e2,e3,e4,e5⟩:=(hK id _ hcs).arrAt he
     obtain rfl:=(ha b _ e1).2 rfl
     have hlt:=(List.getElem?_eq_some_iff.1 he).1
     refine⟨_,h,.ptr _ b (i * sz+off) (λj=>arr.getD (i * sz+(off+j)) undef) (λj d hd=>⟨Dz hm hR hkeep e1 _,?_,?_⟩) λj d hd=>?_⟩
     ·rw[List.getElem?_drop]at hd
      have hj:off+j<sz:=by rw[<-e4 e (List.mem_of_getElem? he)];exact(List.getElem?_eq_some_iff.1 hd).1
      rw[Nat.add_assoc]
      refine EY e2 ?_
      refine Nat.lt_of_lt_of_le ?_ e3
      calc i * sz+(off+j)<i * sz+sz:=by omega
       _=(i+1) * sz:=by rw[Nat.add_mul];simp
       _<=es.length * sz:=Nat.mul_le_mul_right _ (by omega)
     ·rw[List.getElem?_drop]at hd;exact(e5 i (off+j) e d he hd).2
     ·rw[List.getElem?_drop]at hd;exact(e5 i (off+j) e d he hd).1.keep (fH.less hless)
    ·exact h.elim
  |map id r ha=>exact h.elim
  |dfr cs v=>exact h.elim
  |yld id l hh=>simp[frz]at h
  |top v=>exact h.elim
variable {τ : List (Nat × Nat)} (hM2 : ∀ id, M2 id = M (rn τ id) ∨ M2 id = none)
include hK hM2
theorem Uo:∀(n:Nat) (x y:AV) (v:Value),Oi K keep τ n x y->aH N M w x v->aH N M2 w y v:=by
 have hless:∀b o,Fb N M2 b o->Fb N M b o:=λb o=>Um hR b o
 intro n
 induction n with
 |zero=>intro x y v h;exact h.elim
 |succ n ih=>
  have ihL:∀(xs ys:List AV) (g:Nat->Value),QE (Oi K keep τ n) xs ys->(∀(i:Nat) c,xs[i]? = some c->aH N M w c (g i))->ys.length=xs.length/\∀(i:Nat) c,ys[i]? = some c->aH N M2 w c (g i):=by
   intro xs
   induction xs with
   |nil=>grind[QE]
   |cons x xs ihr=>
    intro ys g h hg
    cases ys with
    |nil=>simp[QE]at h
    |cons y ys=>
     obtain⟨h1,h2⟩:=ihr ys (λi=>g (i+1)) h.2 λi c' hc=>hg (i+1) c' (by simpa using hc)
     refine⟨by simp[h1],λi c hc=>?_⟩
     cases i with
     |zero=>simp at hc;subst hc;exact ih x y (g 0) h.1 (hg 0 x (by simp))
     |succ i=>simp_all
  intro x y v h hr
  have gen:x=y.ren τ->aH N M2 w y v:=by
   grind[aH.rn1]
  simp[Oi]at h
  split at h
  ·obtain⟨d',rfl,hd⟩:=za7 hK hm hR n x _ v h hr
   exact .data _ _ hd
  ·split at h
   ·cases hr with
    |tuple _ vs hl hh=>
     obtain⟨h1,h2⟩:=ihL _ _ (λi=>vs.getD i undef) h hh
     exact .tuple _ vs (by omega) h2
   ·cases hr with
    |data _ _ hr=>cases hr with
     |tuple _ vs hl hh=>
      obtain⟨h1,h2⟩:=ihL _ _ (λi=>vs.getD i undef) h λi c hc=>by
       simp at hc
       obtain⟨d,hd,rfl⟩:=hc
       exact .data _ _ (hh i d hd)
      exact .tuple _ vs (by simp_all) h2
   ·exact h.elim
  ·split at h
   ·cases hr with
    |agg _ vs hl hh=>
     obtain⟨h1,h2⟩:=ihL _ _ (λi=>vs.getD i undef) h hh
     exact .agg _ vs (by omega) h2
   ·cases hr with
    |data _ _ hr=>cases hr with
     |agg _ vs hl hh=>
      obtain⟨h1,h2⟩:=ihL _ _ (λi=>vs.getD i undef) h λi c hc=>by
       simp at hc
       obtain⟨d,hd,rfl⟩:=hc
       exact .data _ _ (hh i d hd)
      exact .agg _ vs (by simp_all) h2
   ·exact h.elim
  ·split at h
   ·obtain⟨rfl,h⟩:=h
    cases hr with
    |iface _ _ u hy=>exact .iface _ _ u (ih _ _ u h hy)
   ·obtain⟨rfl,h⟩:=h
    cases hr with
    |data _ _ hr=>cases hr with
     |iface _ _ u hy=>exact .iface _ _ u (ih _ _ u h (.data _ _ hy))
   ·exact h.elim
  ·exact gen h
theorem z4j(n:Nat):∀(xs ys:List AV) (g:Nat->Value),QE (Oi K keep τ n) xs ys->(∀(i:Nat) c,xs[i]? = some c->aH N M w c (g i))->ys.length=xs.length/\∀(i:Nat) c,ys[i]? = some c->aH N M2 w c (g i):=by
 intro xs
 induction xs with
 |nil=>grind[QE]
 |cons x xs ihr=>
  intro ys g h hg
  cases ys with
  |nil=>simp[QE]at h
  |cons y ys=>
   simp[QE]at h
   obtain⟨h1,h2⟩:=ihr ys (λi=>g (i+1)) h.2 λi c' hc=>hg (i+1) c' (by simpa using hc)
   grind[Uo]
theorem z4k{i:Nat}{b0 b:Block}(hi:M2 i=M (rn τ i))(h:za6 K keep τ b0 b)(hr:eX N M w (rn τ i) b0):eX N M2 w i b:=by
 have hless:∀b o,Fb N M2 b o->Fb N M b o:=λb o=>Um hR b o
 have same:b0=b->(∀cs,b ≠ .cells cs)->(∀j c,b ≠ .adr j c)->eX N M2 w i b:=by
  rintro rfl hne hne2
  refine eX.rn1 (ρ:=τ) hless (b:=b0) ?_ hi λid _=>hM2 id
  cases b0<;>first |exact hr |exact absurd rfl (hne _) |exact absurd rfl (hne2 _ _)
 cases b with
 |cells ys=>
  simp only[za6]at h
  split at h
  ·rename_i xs
   obtain⟨b,arr,t,e1,e2,e3,e4⟩:=hr
   obtain⟨h1,h2⟩:=z4j hK hm hR hM2 100 xs ys (λi=>arr.getD i undef) h e4
   exact⟨b,arr,t,hi.trans e1,e2,by omega,h2⟩
  ·exact h.elim
 |arr sz es=>exact same h (by simp) (by simp)
 |tok sz n=>exact same h (by simp) (by simp)
 |map g l es=>exact same h (by simp) (by simp)
 |rnd R=>exact same h (by simp) (by simp)
 |dead=>exact same h (by simp) (by simp)
 |adr j c=>
  simp only[za6]at h
  subst h
  exact eX.rn1 (ρ:=τ) hless (b:=.adr j c) hr hi λid _=>hM2 id
omit hK hm hR hM2 in
theorem Yl{K1:Heap}(h:zaj K keep τ K1):∀i b,K1.get i=some b->∃b0,K.get (rn τ i)=some b0/\za6 K keep τ b0 b:=by
 induction K1 with
 |nil=>intro i b hb;simp[Heap.get]at hb
 |cons x r ih=>
  obtain⟨k,c⟩:=x
  intro i b hb
  simp only[zaj]at h
  rw[Heap.get_cons]at hb
  split at hb
  ·rename_i e;subst e
   simp only[Option.some.injEq]at hb;subst hb
   have h:=h.1
   split at h
   ·rename_i b0 hb0;exact⟨b0,hb0,h⟩
   ·exact h.elim
  ·exact ih h.2 i b hb
end
theorem Ur{τ:List (Nat×Nat)}:∀{l:List Nat},fixed τ l=true->∀i∈l,rn τ i=i:=by
 intro l
 induction l with
 |nil=>simp
 |cons x r ih=>
  intro h i hi
  simp[fixed]at h
  rcases List.mem_cons.1 hi with rfl |hi<;>simp_all
theorem Aa:∀{l:List Nat},nz l=true->∀i∈l,bP i=true:=by
 intro l
 induction l with
 |nil=>simp
 |cons x r ih=>
  intro h i hi
  simp[nz]at h
  grind
theorem DC{N:aT}{M0 M:Mem}{w0 w:World}{K0 K K1:Heap}{x y:AV}{v:Value}(hl:nz (keys K0)=true)(hs:∀id,K0.get id=none->M0 id=none)(e:Evo M0 w0 M w)(hm:bW N M w)(hK:∀id blk,K.get id=some blk->eX N M w id blk)
  (h:fin K0 K x y K1) (hr:aH N M w x v):∃M',Step M0 w0 M' w (keys K1)/\(∀id∈keys K0,Tr M0 M' id)/\(∀id blk,K1.get id=some blk->eX N M' w id blk)/\aH N M' w y v:=by
 obtain⟨τ,hok,h1,h2⟩:=h
 simp only[Yj,Bool.and_eq_true]at hok
 obtain⟨k1,k2,k3,k4,k5⟩:=hok
 have hinj:=nP k1
 have h01:=bJ.1 k2
 have hfix:=Ur k3
 let M':Mem:=λi=>match og (keys K1) i with |true=>M (rn τ i) |false=>none
 have hin:∀i∈keys K1,M' i=M (rn τ i):=λi hi=>by grind[bD]
 have hout:∀i,i ∉ keys K1->M' i=none:=λi hi=>by
  grind[og,keys,absurd,bD]
 have hR:∀b o,M'.R b o->∃id∈aU τ (keys K1),∃ow,M id=some ow/\ow.has b o:=by
  rintro b o ⟨id,ow,e1,e2⟩
  by_cases h:id∈keys K1
  ·rw[hin id h]at e1;exact⟨_,aI.2 ⟨id,h,rfl⟩,ow,e1,e2⟩
  simp_all
 have hsup:∀id ow,M0 id=some ow->id∈keys K0:=by
  intro id ow h
  cases hb:K0.get id with
  |none=>simp_all
  |some b=>grind[dG]
 have hR0:∀b o,(∀id∈keys K1,∀ow,M0 id=some ow->¬ow.has b o)->¬M0.R b o:=by
  rintro b o h ⟨id,ow,e1,e2⟩
  grind
 refine⟨M',⟨e.os,e.tape,e.output,e.size,?_,?_,e.shape,?_,?_,?_⟩,?_,?_,?_⟩
 ·intro b hb h
  exact e.block b hb λo=>hR0 b o λid hid ow e1=>h id hid ow o e1
 ·intro b o u h hc
  exact e.cell b o u (hR0 b o h) hc
 ·intro id hid
  rw[hout id hid]
  cases hb:M0 id with
  |none=>rfl
  |some ow=>simp_all
 ·intro id hid ow b o e1 hb
  rw[hin id hid]at e1
  refine⟨(hm.dom _ ow b o e1 hb).1,?_⟩
  by_cases hlt:b<w0.heap.size
  ·obtain⟨id0,ow0,q1,q2⟩:=e.own b o hlt ⟨_,ow,e1,hb⟩
   grind
  ·left;omega
 ·intro id hid id' hid' hne ow ow' b o e1 e2 hb hb'
  rw[hin id hid]at e1
  rw[hin id' hid']at e2
  exact hm.disj _ _ ow ow' b o (λq=>hne (hinj id hid id' hid' q)) e1 e2 hb hb'
 ·intro id hid
  have:=e.lent id (Aa hl id hid)
  grind[Tr,id]
 ·grind[id,Yl,z4k,dG]
 grind[Uo]
def Ik(F:aT)(w:World)(p:Option D)(u:FrameMode):Prop:=match p with |none=>u = .returning |some d=>∃v,u = .panicking [{ v,recovered:=false }]/\DRel F w d v
def Ym(thr:Bool)(u u':FrameMode):Prop:=match thr with |false=>settle u' = .returning |true=>u'=u
def qh(P:Program)(f:FuncId)(as:List AV)(p:Option D)(thr:Bool)(K:Heap)(K2:Heap):Prop:=
 kT P f/\∀(N:aT) (M:Mem) (w:World) (args:Array Value) (u:FrameMode),bW N M w->(∀id,K.get id=none->M id=none)->args.size=as.length->(∀(i:Nat) x,as[i]? = some x->aH N M w x (args.getD i undef)) ->
  (∀id blk,K.get id=some blk->eX N M w id blk)->Ik (Fb N M) w p u ->
  CallsD P f args u w λe u' w'=>∃r,e = .returned r/\Ym thr u u'/\∃M',Step M w M' w' (keys K2)/\(∀id∈keys K,Tr M M' id)/\(∀id blk,K2.get id=some blk->eX N M' w' id blk)
abbrev Il(P:Program)(f:FuncId)(as:List AV)(p:Option D)(K:Heap)(K2:Heap):Prop:=qh P f as p false K K2
theorem Us{P:Program}{f:FuncId}{as0:List AV}{K0 K1:Heap}{p:Option D}{thr:Bool}{ρ:List (Nat×Nat)}{env:Env}{K:Heap}{L:List Nat}(hc:qh P f as0 p thr K0 K1)(hsub:Heap.sub ρ K K0)(hok:gG ρ K0 K1 .top env K L=true)
  {N:aT} {M:Mem} {w:World} {args:Array Value} {u:FrameMode} (m:bW N M w) (hl:args.size=as0.length) (ha:∀(i:Nat) x,(AV.ren.go ρ as0)[i]? = some x->aH N M w x (args.getD i undef)) (hb:∀id blk,K.get id=some blk->eX N M w id blk)
  (hu:Ik (Fb N M) w p u) :
  CallsD P f args u w λe u' w'=>∃r,e = .returned r/\Ym thr u u'/\∃M',Step M w M' w' (aU ρ (keys K1))/\(∀id∈aU ρ (keys K0),Tr M M' id)/\(∀id blk,(dD ρ K1).get id=some blk->eX N M' w' id blk):=by
 simp[gG]at hok
 obtain⟨k1,k2,k3,k4,k5,k6⟩:=hok
 have hinj:=nP k1
 have h01:=bJ.1 k2
 have hinj0:∀i∈keys K0,∀j∈keys K0,rn ρ i=rn ρ j->i=j:=λi hi j hj=>hinj i (h01 i hi) j (h01 j hj)
 have hblk:=bJ.1 k6
 have hmm:∀id,jI ρ (keys K0) M id=M (rn ρ id)\/jI ρ (keys K0) M id=none:=by
  grind[fJ,iJ]
 refine(hc.2 (uB ρ (keys K0) N M) (jI ρ (keys K0) M) w args u (ER m hinj0) ?_ hl ?_ ?_ ?_).mono λe u' w'=>?_
 ·grind[iJ,dG]
 ·intro i x hx
  exact aH.rn1 Qu x (ha i (x.ren ρ) (by rw[ig,hx];rfl)) λid _=>hmm id
 ·intro id blk h
  have hk:id∈keys K0:=dG.2 ⟨blk,h⟩
  refine eX.rn1 (ρ:=ρ) Qu (hb (rn ρ id) _ (ES hsub id blk h)) (fJ hk) λid' _=>hmm id'
 ·cases p with
  |none=>exact hu
  |some d=>obtain⟨v,h1,h2⟩:=hu;exact⟨v,h1,h2.keep (fH.less Qu)⟩
 ·rintro⟨r,q1,q2,Mc',s,htr,hbl⟩
  obtain⟨p1,p2,p3⟩:=Ho (N:=N) hinj h01 s
  refine⟨r,q1,q2,rP ρ (keys K1) M Mc',p1,?_,?_⟩
  ·intro id hid
   obtain⟨i,hi,rfl⟩:=aI.1 hid
   grind[Tr]
  ·intro id blk h
   obtain⟨i,b0,q1,rfl,rfl⟩:=qK hinj h
   refine(hbl i b0 q1).rn2 p2 (p3 i (dG.2 ⟨b0,q1⟩)) λid' hi=>.inl (p3 id' (hblk id' (yH q1 hi)))
theorem DD{N:aT}{M:Mem}{w:World}:∀(ds:List AV) (i j:Nat) (tmps:Array Value),(∀(k:Nat) d,ds[k]? = some d->aH N M w d (tmps.getD (i+k) undef))->aH N M w ((kC i ds).get j) (tmps.getD j undef):=by
 intro ds
 induction ds with
 |nil=>intro i j tmps _;exact .top _
 |cons d r ih=>
  intro i j tmps h
  simp only[kC]
  rw[Env.get_cons]
  split
  ·rename_i e;subst e;exact h 0 d (by simp)
  ·exact ih (i+1) j tmps λk d' e=>by have:=h (k+1) d' (by simpa using e);grind
theorem DF:∀(ds:List AV) (i j:Nat),i+ds.length<=j->(kC i ds).get j = .top:=by
 intro ds
 induction ds with
 |nil=>intro i j _;rfl
 |cons d r ih=>
  intro i j h
  simp[kC]at h ⊢
  rw[Env.get_cons]
  grind
def Fits(d:D):Prop:=∃F w v,DRel F w d v
def wR(x:AV):Prop:=∃N M w v,aH N M w x v
theorem wR.data{d:D}(h:wR (.data d)):Fits d:=by
 obtain⟨N,M,w,v,h⟩:=h
 cases h with |data _ _ h=>exact⟨_,w,v,h⟩
theorem Fits.sl{sz:Nat}{es:List (List D)}(h:Fits (.sl sz es)):es.length<=9223372036854775807/\∀e∈es,e.length=sz/\∀d∈e,Fits d:=by
 obtain⟨F,w,v,h⟩:=h
 cases h with
 |sl0=>simp
 |sl _ _ b off cap n g hn hc hm hs h1 h2=>
  refine⟨by grind[maxLen],λe he=>⟨hs e he,λd hd=>?_⟩⟩
  obtain⟨i,hi⟩:=List.mem_iff_getElem?.1 he
  obtain⟨j,hj⟩:=List.mem_iff_getElem?.1 hd
  exact⟨F,w,_,h2 i j e d hi hj⟩
theorem Fits.agg{ds:List D}(h:Fits (.agg ds)):∀d∈ds,Fits d:=by
 obtain⟨F,w,v,h⟩:=h
 cases h with
 |agg _ vs hl hh=>
  intro d hd
  obtain⟨j,hj⟩:=List.mem_iff_getElem?.1 hd
  exact⟨F,w,_,hh j d hj⟩
section
variable {P : Program} {T : Tbl} (hT : iZ P T)
include hT
theorem Io{f:FuncId}{fn:Func}{c:Code}{as:List AV}{K0 K1:Heap}{out:jU}(hf:P.funcs[f]? = some fn)(hb:fn.body=some c)(hname:(fn.name == "runtime.NumGoroutine")=false)(hs:dw fn.ntmps c=true)
  (hn:(Nat.ble as.length fn.ntmps&&Nat.ble fn.ntmps 999999&&nz (keys K0) && !(Nat.beq f xK))=true)
  (h:(∀x∈as,wR x)->Uj P c (rV T (qh P) fn.results.toList K0 out K1) (kC 0 as) K0):LCall P f as K0 out K1:=by
 simp only[Bool.and_eq_true,Bool.not_eq_true']at hn
 obtain⟨⟨⟨hn1,hn2⟩,hlent⟩,hny⟩:=hn
 have hn1:=Nat.le_of_ble_eq_true hn1
 have hn2:=Nat.le_of_ble_eq_true hn2
 refine .inl ⟨λe=>by rw[e]at hny;simp at hny,⟨fn,hf,hname,by rw[hb];rfl⟩,λN M0 w args hm hsup hl hr hK=>?_⟩
 letI:Lo:=⟨λb=>w.heap.size<=b⟩
 refine Le hf hb ?_
 have hsz:(args++Array.replicate (fn.ntmps-args.size) undef).size=fn.ntmps:=by simp;omega
 have hget:∀(k:Nat) d,as[k]? = some d->aH N M0 w d ((args++Array.replicate (fn.ntmps-args.size) undef).getD (0+k) undef):=by
  intro k d e
  have hlt:k<args.size:=by rw[hl];exact(List.getElem?_eq_some_iff.1 e).1
  rw[Nat.zero_add]
  have:=hr k d e
  simp only[Array.getD_eq_getD_getElem?,Array.getElem?_append]at this ⊢
  rw[if_pos hlt];exact this
 have hdf0:(kC 0 as).get gz = .top:=DF as 0 gz (by show 0+as.length<=999999;omega)
 have st:St N M0 fn.ntmps (kC 0 as) K0 { tmps:=args++Array.replicate (fn.ntmps-args.size) undef,defers:=[] } w:=
  ⟨hsz,hn2,(yE.nil λcs e=>by rw[hdf0]at e;cases e),λj=>DD as 0 j _ hget,hK,hm⟩
 refine h (λx hx=>?_) none N _ M0 w _ M0 _ w hs (λh=>absurd rfl h) (λ_ _ h=>h) st (Evo.refl M0 w) ?_
 ·obtain⟨i,hi⟩:=List.mem_iff_getElem?.1 hx
  exact⟨N,M0,w,_,hr i x hi⟩
 have hfinR:∀{env:Env} {K:Heap} {M:Mem} {tmps:Array Value} {w':World},finR T fn.results.toList K0 out K1 env K->Sv N M env K tmps w'->Evo M0 w M w'->∃v,(results fn tmps).run P w' = .ok v w'/\∃M',Step M0 w M' w' (keys K1)/\(∀id∈keys K0,Tr M0 M' id)/\(∀id blk,K1.get id=some blk->eX N M' w' id blk)/\out.rel N M' w' (.returned v):=by
  intro env K M tmps w' h s e
  unfold finR at h
  split at h
  ·rename_i x hx
   obtain⟨v,hv,hvr⟩:=Ij hT hx s
   split at h
   ·rename_i y
    obtain⟨M',q1,q2,q3,q4⟩:=DC hlent hsup e s.mem s.heap h hvr
    exact⟨v,hv,M',q1,q2,q3,v,rfl,q4⟩
   ·exact h.elim
  ·exact h.elim
 -- a frame that ends,with what is deferred
 have hdfr:∀{env:Env} {K:Heap} {M:Mem} {a:Act} {w':World} {g:FuncId} {caps:List AV} {p:Option D} {thr:Bool} {u:FrameMode} {nx:Heap->Prop},env.get gz = .dfr [.fn g caps]->z1l (qh P) g caps p thr env K nx->St N M fn.ntmps env K a w'->Evo M0 w M w' ->
   Ik (Fb N M) w' p u->(∀{K:Heap} {M:Mem} {tmps:Array Value} {w2:World} {u':FrameMode},nx K->Sv N M env K tmps w2->Evo M0 w M w2->Ym thr u u'->settle u' ≠ .run/\Leaves P fn tmps (λe w'=>∃M',Step M0 w M' w' (keys K1)/\(∀id∈keys K0,Tr M0 M' id)/\(∀id blk,K1.get id=some blk->eX N M' w' id blk)/\out.rel N M' w' e) [] (settle u') w2)->lw P fn a.tmps (λe w'=>∃M',Step M0 w M' w' (keys K1)/\(∀id∈keys K0,Tr M0 M' id)/\(∀id blk,K1.get id=some blk->eX N M' w' id blk)/\out.rel N M' w' e) a.defers u w':=by
  intro env K M a w' g caps p thr u nx hd h s e hu hend
  have hdf:=s.defers
  have hreal:=hdf.real
  rw[hd]at hreal
  obtain⟨q1,q2⟩:=hreal
  obtain⟨d,hds⟩:=List.length_eq_one_iff.1 q1
  have hur:u ≠ .run:=by
   cases p with
   |none=>rw[hu];simp
   |some d=>obtain⟨v,hu,_⟩:=hu;rw[hu];simp
  refine Dy (M:=M) (M0:=M0) (w0:=w) (env:=env) (K:=K) (N:=N) hur (λw'=>X0 N M w' (.fn g caps) d/\Ik (Fb N M) w' p u) (λw1 w2 b q x=>⟨?_,?_⟩) ?_ a.defers w' hds hdf.nodup hdf.mark s.sv e ⟨q2 0 _ d rfl (by rw[hds];rfl),hu⟩
  ·obtain⟨f',caps',vs,e1,e2,e3,e4⟩:=x.1
   exact⟨f',caps',vs,e1,e2,e3,λi c hc=>q.arel (e4 i c hc)⟩
  ·cases p with
   |none=>exact x.2
   |some d=>obtain⟨v,h1,h2⟩:=x.2;exact⟨v,h1,q.drel h2⟩
  intro rest w1 hr1 hr2 hr3 sv ev ⟨hx1,hx2⟩
  obtain⟨f',caps',vs,e1,e2,e3,e4⟩:=hx1
  cases e1
  obtain⟨as0,J0,J1,ρ,hp,has,hsub,hok,h⟩:=h
  rw[e2]
  refine⟨hur,.inr ⟨.func g,vs,g,vs,rfl,?_,?_⟩⟩
  ·have:=mg hp.1 (#[]++vs) w1
   rw[invoke];simpa using this
  ·refine(Us hp hsub hok sv.mem (by rw[e3,<-has,dH]) (by rw[has];exact e4) sv.heap hx2).mono λe' u' w''=>?_
   rintro⟨r,rfl,hset,M',s1,htr,hbl⟩
   simp only[gG,Bool.and_eq_true]at hok
   obtain⟨k1,k2,k3,k4,k5,k6⟩:=hok
   have hdom:∀id,id∈aU ρ (keys J1)↔∃b,(dD ρ J1).get id=some b:=λid=>by rw[<-lq,dG]
   have htr2:∀id∈aU ρ (keys J1),id ∉ aU ρ (minus (keys J1) (keys J0))->Tr M M' id:=by
    intro id hid hn
    obtain⟨i,hi,rfl⟩:=aI.1 hid
    by_cases h0:i∈keys J0
    ·exact htr _ (aI.2 ⟨i,h0,rfl⟩)
    ·exact absurd (aI.2 ⟨i,jv.2 ⟨hi,h0⟩,rfl⟩) hn
   have hfr:∀d∈aU ρ (minus (keys J1) (keys J0)),bP d=false/\fU d env=false/\pI d K=false:=λd hd=>by
    obtain⟨q1,q2,q3,_⟩:=kz k4 d hd;exact⟨q1,q2,q3⟩
   rw[pV]at h
   have sv1:=sv.turn s1 htr2 hfr hbl hdom
   have ev1:=ev.step s1 htr2 λd hd=>(hfr d hd).1
   refine kD (M:=M') (M0:=M0) (w0:=w) (env:=env) (K:=uA K (dD ρ J1)) (N:=N) (hend h sv1 ev1 hset).1 (λ_=>True) (λ_ _ _ _ _=>trivial) (λw2 sv2 ev2 _=>(hend h sv2 ev2 hset).2) rest w'' hr1 hr2 (λb hb=>⟨(hr3 b hb).1.step s1,(hr3 b hb).2⟩) sv1 ev1 trivial
 -- behind a deferred call that recovered,or that ran at a return
 have hendF:∀{env:Env} {u:FrameMode} {K:Heap} {M:Mem} {tmps:Array Value} {w2:World} {u':FrameMode},finR T fn.results.toList K0 out K1 env K->Sv N M env K tmps w2->Evo M0 w M w2->Ym false u u'->settle u' ≠ .run/\Leaves P fn tmps (λe w'=>∃M',Step M0 w M' w' (keys K1)/\(∀id∈keys K0,Tr M0 M' id)/\(∀id blk,K1.get id=some blk->eX N M' w' id blk)/\out.rel N M' w' e) [] (settle u') w2:=by
  intro env u K M tmps w2 u' h sv ev hs
  rw[hs]
  obtain⟨v,hv,hrest⟩:=hfinR h sv ev
  exact⟨by simp,v,hv,hrest⟩
 have hret:∀env K (M:Mem) (a:Act) (w':World),rV T (qh P) fn.results.toList K0 out K1 .ret env K->St N M fn.ntmps env K a w'->Evo M0 w M w'->lw P fn a.tmps (λe w'=>∃M',Step M0 w M' w' (keys K1)/\(∀id∈keys K0,Tr M0 M' id)/\(∀id blk,K1.get id=some blk->eX N M' w' id blk)/\out.rel N M' w' e) a.defers .returning w':=by
  intro env K M a w' h s e
  simp only[rV]at h
  split at h
  ·rename_i g caps hd
   exact hdfr (p:=none) (thr:=false) hd h s e rfl hendF
  ·exact h.elim
  ·rename_i hd1 hd2
   have hdf:jo a.defers = []:=zG s.defers λcs h=>hd2 cs h
   rcases h with h |⟨env',K',hw,h⟩
   ·refine kD (M:=M) (M0:=M0) (w0:=w) (env:=env) (K:=K) (N:=N) (by simp) (λ_=>True) (λ_ _ _ _ _=>trivial) (λw2 sv2 ev2 _=>?_) a.defers w' hdf s.defers.nodup s.defers.mark s.sv e trivial
    obtain⟨v,hv,hrest⟩:=hfinR h sv2 ev2
    exact⟨v,hv,hrest⟩
   ·obtain⟨M',s',e'⟩:=s.weak e hw
    refine kD (M:=M') (M0:=M0) (w0:=w) (env:=env') (K:=K') (N:=N) (by simp) (λ_=>True) (λ_ _ _ _ _=>trivial) (λw2 sv2 ev2 _=>?_) a.defers w' hdf s'.defers.nodup s'.defers.mark s'.sv e' trivial
    obtain⟨v,hv,hrest⟩:=hfinR h sv2 ev2
    exact⟨v,hv,hrest⟩
 intro o env K M a w' h s e
 cases o with
 |normal=>exact hret env K M a w' h s e
 |ret=>exact hret env K M a w' h s e
 |exit i=>exact h.elim
 |panic x=>
  intro v hv
  simp only[rV]at h
  split at h
  ·rename_i g caps hd
   split at h
   ·rename_i d hxd
    rcases h.elim with⟨y,rfl,h⟩ |⟨hfl,h⟩
    ·exact hdfr (p:=some d) (thr:=false) hd h s e ⟨v,rfl,hv.toD hxd⟩ hendF
    ·refine hdfr (p:=some d) (thr:=true) hd h s e ⟨v,rfl,hv.toD hxd⟩ λ{K2 M2 tmps2 w2 u2} h sv ev hs=>?_
     subst hs
     refine⟨by simp[settle],?_⟩
     unfold QF at h
     split at h
     ·rename_i y
      obtain⟨M',q1,q2,q3,q4⟩:=DC hlent hsup ev sv.mem sv.heap h (.data _ _ (yK hfl (hv.toD hxd)))
      exact⟨M',q1,q2,q3,v,rfl,q4⟩
     ·exact h.elim
   ·exact h.elim
  ·exact h.elim
  ·rename_i hd1 hd2
   have hdf:jo a.defers = []:=zG s.defers λcs h=>hd2 cs h
   unfold QF at h
   split at h
   ·rename_i y
    refine kD (M:=M) (M0:=M0) (w0:=w) (env:=env) (K:=K) (N:=N) (by simp) (λw=>aH N M w x v) (λ_ _ _ q h=>q.arel h) (λw2 sv2 ev2 hv2=>?_) a.defers w' hdf s.defers.nodup s.defers.mark s.sv e hv
    obtain⟨M',q1,q2,q3,q4⟩:=DC hlent hsup ev2 sv2.mem sv2.heap h hv2
    exact⟨M',q1,q2,q3,v,rfl,q4⟩
   ·exact h.elim
end
def nK.toA:nK->jU
 | .ret d=>.ret (.data d)
 | .pan d=>.pan (.data d)
theorem Ac{P:Program}{f:FuncId}{ds:List D}{out:nK}(h:Hq P f (ds.map .data) [] out.toA []):NS P f ds out:=by
 refine⟨h.1,λN w args hN hl hr=>?_⟩
 refine(h.2 N yD w args hN (λ_ _=>rfl) (by simpa using hl) (λi x hx=>?_) (λid blk e=>by simp[Heap.get]at e)).mono λe w'=>?_
 ·simp at hx
  obtain⟨d,hd,rfl⟩:=hx
  exact .data _ _ (by grind[zD])
 ·rintro⟨M',s,_,_,ho⟩
  have hM:M'=yD:=by funext i;exact s.mem i (by simp[keys])
  subst hM
  refine⟨s,?_⟩
  cases out with
  |ret d=>
   obtain⟨v,rfl,hv⟩:=ho
   cases hv with |data _ _ hv=>rw[zD]at hv;exact⟨v,rfl,hv⟩
  |pan d=>
   obtain⟨v,rfl,hv⟩:=ho
   cases hv with |data _ _ hv=>rw[zD]at hv;exact⟨v,rfl,hv⟩
theorem LCall.fn{P:Program}{f:FuncId}{as:List AV}{K K2:Heap}{out:jU}(h:LCall P f as K out K2)(hny:f≠xK):Hq P f as K out K2:=by
 rcases h with h |h<;>simp_all
theorem BZ{P:Program}{f:FuncId}{ds:List D}{out:nK}(h:LCall P f (ds.map .data) [] out.toA [])(hny:f≠xK):PCall P f ds out:=.inl (Ac (h.fn hny))
def veq:Value->Value->Bool
 | .bool a,.bool b=>a==b
 | .int k a,.int l b=>k==l&&a==b
 | .string a,.string b=>a.data==b.data
 | .pointer none,.pointer none=>true
 | .slice none 0 0,.slice none 0 0=>true
 | .map none,.map none=>true
 | .nilFunc,.nilFunc=>true
 | .nilIface,.nilIface=>true
 |_,_=>false
theorem z1m:∀{a b:Value},veq a b=true->a=b:=by
 intro a b h
 unfold veq at h
 split at h<;>simp at h<;>first
  |(rfl)
  |(obtain⟨rfl,rfl⟩:=h;rfl)
  |rfl
  |(rename_i a b;obtain⟨a⟩:=a;simp_all)
def Oj(P:Program)(t:TypeId):Ty->Bool
 | .int k=>match P.underlying t with |some (.int l)=>l==k |_=>false
 | .bool=>match P.underlying t with |some .bool=>true |_=>false
 | .str=>match P.underlying t with |some .string=>true |_=>false
 | .ptr e=>match P.underlying t with |some (.pointer x)=>Nat.beq x e |_=>false
 | .slice e=>match P.underlying t with |some (.slice x)=>Nat.beq x e |_=>false
 | .struct fs=>match P.underlying t with |some (.struct fields)=>(fields.toList.map λf=>(f.offset,f.type))==fs |_=>false
 | .array n e=>match P.underlying t with |some (.array m x)=>Nat.beq m n&&Nat.beq x e |_=>false
 | .map k e=>match P.underlying t with |some (.map j x)=>Nat.beq j k&&Nat.beq x e |_=>false
 | .func=>match P.underlying t with |some (.func _ _ _)=>true |_=>false
 | .iface=>match P.underlying t with |some (.interface _)=>true |_=>false
 | .other=>true
def Ad:List Value->List AV->Bool
 | [],[]=>true
 |v::vs,x::xs=>(match x with | .data (.val u)=>pJ u&&veq v u | .data (.str [])=>veq v (.string ⟨#[]⟩) | .nilsl _=>veq v (.slice none 0 0) |_=>false)&&Ad vs xs
 |_,_=>false
def z4l(P:Program)(t:TypeId)(b:Bool):Bool:=match b with
 |false=>true
 |true=>!(P.eqGuardType P.depth t)&&(!(P.stoodInHeld t)&&(match P.underlying t with |some (.struct fields)=>fields.toList.all λf=>f.name != "_" |some (.array _ _)=>true |_=>false))
def Ut(P:Program)(t:TypeId)(ti:TI):Bool:=match ti.ty.sh with
 |none=>true
 |some _=>match P.info? t with
  |some i=>Nat.beq i.size ti.size&&(Nat.beq i.bytes ti.bytes&&(match ti.zero with | []=>true |z=>match i.zero with |some v=>Ad v.cells.toList z&&(match ti.ty.sh with |some b=>b==z3r v |none=>false) |none=>false))
  |none=>false
def Yn(P:Program)(t:TypeId)(ty:Ty):Bool:=match ty with
 | .struct []=>(match P.info? t with |some i=>(match i.zero with |some (.agg vs)=>Nat.beq vs.size 0 |_=>false) |none=>false)
 |_=>true
theorem Yo{P:Program}{t:TypeId}{ty:Ty}(h:Yn P t ty=true)(he:ty = .struct []):∃i,P.info? t=some i/\i.zero=some (.agg #[]):=by
 grind[Yn,Nat.eq_of_beq_eq_true]
def yN(P:Program):Nat->Tbl->Bool
 |_,[]=>true
 |t,ti::r=>Oj P t ti.ty&&(Ut P t ti&&(z4l P t ti.eqs&&(Yn P t ti.ty&&yN P (t+1) r)))
theorem Uu{P:Program}{t:TypeId}{ty:Ty}(h:Oj P t ty=true):KE P t ty:=by
 cases ty<;>simp only[Oj,KE]at h ⊢ <;> split at h<;>simp at h<;>simp_all
theorem Uw:∀{vs:List Value} {xs:List AV},Ad vs xs=true->vs=xs.map zv/\xs.all (λx=>match x with | .data (.val v)=>pJ v | .data (.str _)=>true | .nilsl _=>true |_=>false)=true:=by
 intro vs
 induction vs with
 |nil=>grind[Ad]
 |cons v vs ih=>
  intro xs h
  cases xs with
  |nil=>simp[Ad]at h
  |cons x xs=>
   simp[Ad]at h
   obtain⟨h1,h2⟩:=h
   obtain⟨i1,i2⟩:=ih h2
   simp only[List.all_cons,Bool.and_eq_true]
   split at h1<;>try exact⟨by rw[z1m h1,i1];rfl,rfl,i2⟩
   ·simp at h1
    refine⟨by rw[z1m h1.2,i1];rfl,h1.1,i2⟩
   ·simp at h1
theorem z4m{P:Program}{t:TypeId}{ti:TI}(h1:Oj P t ti.ty=true)(h2:Ut P t ti=true)(h3:z4l P t ti.eqs=true)(h5:Yn P t ti.ty=true):zem P t ti:=by
 have hz:ti.ty.sh≠none->∃i,P.info? t=some i/\i.size=ti.size/\i.bytes=ti.bytes/\(ti.zero ≠ []->∃v,i.zero=some v/\Ad v.cells.toList ti.zero=true/\ti.ty.sh=some (z3r v)):=by
  intro hsh
  unfold Ut at h2
  split at h2<;>try(simp_all)
  split at h2
  ·rename_i i hi
   simp only[Bool.and_eq_true]at h2
   obtain⟨a,b,c⟩:=h2
   refine⟨i,hi,Nat.eq_of_beq_eq_true a,Nat.eq_of_beq_eq_true b,λhz=>?_⟩
   grind
  ·simp at h2
 refine⟨Uu h1,λhsh=>?_,λhne hsh=>?_,λhe=>?_,Yo h5⟩
 ·grind[Uw]
 ·grind
 ·simp only[z4l]at h3
  grind
theorem Yp{P:Program}{T:Tbl}(h:yN P 0 T=true):iZ P T:=by
 have key:∀(T:Tbl) (k:Nat),yN P k T=true->∀(i:Nat) ti,T[i]? = some ti->zem P (k+i) ti:=by
  intro T
  induction T with
  |nil=>simp
  |cons x r ih=>
   intro k h i ti e
   simp only[yN]at h
   grind[z4m]
 intro t
 cases e:T[t]? with
 |none=>
  have:T.at t=default:=by grind[Tbl.at]
  rw[this]
  exact⟨trivial,λh=>absurd rfl h,λh=>absurd rfl h,λh=>by simp_all,λh=>by cases h⟩
 |some ti=>
  have:T.at t=ti:=by grind[Tbl.at]
  grind
end Go.Fw
namespace Go.Fw
variable [af] {P : Program} {tmps : Array Value} {assign body : Code} {w w' : World} {f : FuncId}
def isRecover(o:Oper):Bool:=(match o.guard with |none=>true |some _=>false)&&(match o.op with
 | .call c=>match c.callee,c.args.toList with
  | .builtin .recover,[]=>true
  |_,_=>false
 |_=>false)
def z1o:Option D->AV
 |none=>.data (.val .nilIface)
 |some d=>.data d
def yO(o:Oper):Bool:=match o.op with
 | .move _ | .assign _ | .load _ _ | .store _ _ _ | .typeAssert _ _ _ _ | .extract _ _ | .binOp _ _ _ _ _ | .unOp _ _ _ | .fieldAddr _ _ _ | .field _ _ _ | .alloc _=>true
 |_=>false
theorem QH{s:Sem Value}{l:Nat}:(do pure (Go.Next.value (<-s)):Sem Go.Next).run P w ≠ .ok (.round l f tmps assign body) w':=by
 cases hs:s.run P w with
 |ok v w1=>simp_all
 |halt x w1=>simp_all
theorem QI{s:Sem Unit}{l:Nat}:(do s;pure Go.Next.skip:Sem Go.Next).run P w ≠ .ok (.round l f tmps assign body) w':=by
 cases hs:s.run P w with
 |ok v w1=>simp_all
 |halt x w1=>simp_all
theorem Yq{ρ:Operand->Value}{o:Oper}(h:yO o=true){l:Nat}:(execOp ρ o).run P w ≠ .ok (.round l f tmps assign body) w':=by
 obtain⟨dst,op,ty,guard,after⟩:=o
 cases op<;>first
  |(simp[yO]at h;done)
  |exact QH
  |exact QI
  |(intro hh;simp[execOp]at hh)
def vcR(T:Tbl)(A:FuncId->List D->nK->Prop)(B:FuncId->List AV->Heap->jU->Heap->Prop)(p:Option D):Code->Post->Env->Heap->Prop
 | .seq a b,Q,env,K=>vcR T A B p a (Post.then (λenv K=>vc T A B b Q env K) Q) env K
 | .region _ ops false,Q,env,K=>match ops.toList with
  |o::rest=>match isRecover o&&rest.all yO with
   |true=>XQ T A B ops (Q .normal) (λenv v K=>Q (.panic v) env K) rest (env.set o.dst (z1o p)) K
   |false=>False
  | []=>False
 |_,_,_,_=>False
theorem Ip{ρ:Operand->Value}{o:Oper}{w:World}(h:isRecover o=true):o.guard=none/\(execOp ρ o).run P w = .ok .recover w:=by
 unfold isRecover at h
 simp at h
 obtain⟨h1,h2⟩:=h
 refine⟨by grind,?_⟩
 split at h2
 ·rename_i c ho
  split at h2
  ·rename_i hc ha
   rw[kw ho]
   simp[resolve,hc,invoke,builtin]
  ·simp at h2
 ·simp at h2
theorem Ux{o:Oper}{a:Act}{next next':Act->World->Prop}{Q:Exit->Act->World->Prop}(h:∀a w,next a w->next' a w){r:Result Go.Next}(hr:o.upon P a next Q r):o.upon P a next' Q r:=by
 unfold Oper.upon at hr ⊢
 split at hr<;>try exact h _ _ hr
 ·refine hr.mono λe w'=>?_
  grind
 ·intro b cs
  obtain⟨v,w2,h1,h2⟩:=hr b cs
  grind
 ·exact hr
 ·exact hr.elim
theorem Uy{ops:Array Oper}{Q':Exit->Act->World->Prop}{cs:List Frame}:∀(l:List Oper) (idx:List Nat) (a:Act) (w:World),l.all yO=true->idx.map (ops[·]?)=l.map some->wpL none P ops Q' l a w ->
  wpOpsS P ops (λe a cs' w=>cs'=cs/\Q' e a w) idx a cs w:=by
 intro l
 induction l with
 |nil=>
  intro idx a w _ hi h
  have:idx = []:=by simpa using hi
  subst this
  exact⟨rfl,h⟩
 |cons o r ih=>
  intro idx a w hsim hi h
  simp only[List.all_cons,Bool.and_eq_true]at hsim
  cases idx with
  |nil=>simp at hi
  |cons i idx=>
   simp at hi
   obtain⟨h0,hi⟩:=hi
   simp[wpOpsS,h0]
   simp only[wpL]at h
   split at h
   ·rename_i hw
    rw[if_pos hw]
    have h:o.wp P a w (wpL none P ops Q' r) Q':=by
     rcases h.2 with h |⟨l,f,tmps,assign,body,hr,_⟩<;>grind[Yq]
    unfold Oper.wp at h
    split
    ·rename_i hr
     rw[hr]at h;exact h.elim
    ·revert h
     intro h
     have h:=Ux (λa w=>ih idx a w hsim.2 hi) h
     simp_all
   simp_all
def frameOf(p:Option D)(c0:Frame):Frame:=match p with
 |none=>c0
 |some _=>match c0.mode with
  | .panicking ({ v,recovered:=false,goexit:=false }::older)=>{ c0 with mode:=.panicking ({ v,recovered:=true }::older) }
  |_=>c0
section
variable {P : Program} {T : Tbl} (hT : iZ P T)
include hT
theorem za8[Lo](hmix:P.follows .mixedOrders=true){N:aT}{n:Nat}{M0:Mem}{w0:World}{p:Option D}{c0:Frame}{cs:List Frame}:∀(c:Code) (Q:Post) (Q':Exit->Act->World->Prop) (env:Env) (K:Heap) (M:Mem) (a:Act) (w:World),dw n c=true->vcR T (PCall P) (LCall P) p c Q env K->St N M n env K a w->Evo M0 w0 M w ->
  Ik (Fb N M) w p c0.mode->QOk N M0 w0 n Q Q'->c.wpS P (λe a cs' w=>cs'=frameOf p c0::cs/\Q' e a w) a (c0::cs) w:=by
 intro c
 induction c with
 |seq x y ihx ihy=>
  intro Q Q' env K M a w hs h s e hu q
  simp only[dw,Bool.and_eq_true]at hs
  refine wpS_seq ?_
  have:=ihx (Post.then (λenv K=>vc T (PCall P) (LCall P) y Q env K) Q) (λe a w=>match e with | .normal=>y.wp P Q' a w |e=>Q' e a w) env K M a w hs.1 h s e hu λo env K M a w h s e=>by
   cases o with
   |normal=>exact wpIn_wide.1 (zeo hT hmix y Q Q' env K M a w hs.2 h s e q)
   |exit i=>exact q (.exit i) env K M a w h s e
   |ret=>exact q .ret env K M a w h s e
   |panic x=>exact q (.panic x) env K M a w h s e
  intro b k hb hr
  obtain⟨e',a',cs',w',⟨h1,h2⟩,harr⟩:=this b k hb hr
  refine⟨e',a',cs',w',?_,harr⟩
  subst h1
  cases e' with
  |normal=>exact wpS_of_wp (wp_mono h2 λe a w h=>⟨rfl,h⟩)
  |_=>exact⟨rfl,h2⟩
 |region id ops draw=>
  intro Q Q' env K M a w hs h s e hu q
  cases draw with
  |true=>exact h.elim
  |false=>
   simp only[vcR]at h
   split at h<;>try exact h.elim
   rename_i o rest hops
   split at h<;>try exact h.elim
   rename_i hrec
   simp only[Bool.and_eq_true]at hrec
   obtain⟨hrec,hsim⟩:=hrec
   simp only[dw]at hs
   have hdst:=qL hs
   obtain⟨hg,hrun⟩:=Ip (P:=P) (ρ:=a.eval) (w:=w) hrec
   refine wpS_region ?_
   have hsz:ops.size=rest.length+1:=by rw[<-Array.length_toList,hops];rfl
   have h0:ops[0]? = some o:=by rw[<-Array.getElem?_toList,hops];rfl
   rw[hsz,List.range_succ_eq_map]
   simp only[wpOpsS,h0,Region.wanted,hg,if_true,hrun]
   have hidx:((List.range rest.length).map Nat.succ).map (ops[·]?)=rest.map some:=by
    apply List.ext_getElem
    ·simp
    ·intro i h1 h2
     simp
     rw[<-Array.getElem?_toList,hops]
     simp[h2]
   have hgo:∀(v:Value),aH N M w (z1o p) v->wpOpsS P ops (λe a cs' w=>cs'=frameOf p c0::cs/\Q' e a w) ((List.range rest.length).map Nat.succ) (a.put o.dst v) (frameOf p c0::cs) w:=by
    intro v hv
    refine Uy rest _ _ w hsim hidx ?_
    exact TU hT (λenv K M a w h s e=>q .normal env K M a w h s e) (λx env K M a w h s e=>q (.panic x) env K M a w h s e) rest _ K M _ w (λo ho=>hdst o (by rw[hops];simp[ho])) (λh=>absurd rfl h) h (s.put (hdst o (by rw[hops];simp)) hv) e
   cases p with
   |none=>
    have hm:c0.mode = .returning:=hu
    have:recoverD (c0::cs)=none:=by simp[recoverD,hm]
    rw[this]
    exact hgo .nilIface (.data _ _ (.val _))
   |some d=>
    obtain⟨v,hm,hv⟩:=hu
    have:recoverD (c0::cs)=some (v,frameOf (some d) c0::cs):=by simp[recoverD,frameOf,hm]
    rw[this]
    exact hgo v (.data _ _ hv)
 |_=>intro Q Q' env K M a w hs h;exact h.elim
def EZ(T:Tbl)(rs:List ResultVar)(K0 K1:Heap):Post
 | .normal,env,K | .ret,env,K=>match env.get gz with
  | .dfr _=>False
  |_=>(match Oh T rs env K with |some _=>True |none=>False)/\fin K0 K .top .top K1
 |_,_,_=>False
theorem ja(hmix:P.follows .mixedOrders=true){f:FuncId}{fn:Func}{c:Code}{as:List AV}{p:Option D}{K0 K1:Heap}(hf:P.funcs[f]? = some fn)(hb:fn.body=some c)(hname:(fn.name == "runtime.NumGoroutine")=false)(hs:dw fn.ntmps c=true)
  (hn:(Nat.ble as.length fn.ntmps&&Nat.ble fn.ntmps 999999&&nz (keys K0))=true)
  (h:vcR T (PCall P) (LCall P) p c (EZ T fn.results.toList K0 K1) (kC 0 as) K0):Il P f as p K0 K1:=by
 simp only[Bool.and_eq_true]at hn
 obtain⟨⟨hn1,hn2⟩,hlent⟩:=hn
 have hn1:=Nat.le_of_ble_eq_true hn1
 have hn2:=Nat.le_of_ble_eq_true hn2
 refine⟨⟨fn,hf,hname,by rw[hb];rfl⟩,λN M0 w args u hm hsup hl hr hK hu=>?_⟩
 letI:Lo:=⟨λ_=>False⟩
 refine callsD_of_wpS hf hb λc0 cs hc0=>?_
 have hsz:(args++Array.replicate (fn.ntmps-args.size) undef).size=fn.ntmps:=by simp;omega
 have hget:∀(k:Nat) d,as[k]? = some d->aH N M0 w d ((args++Array.replicate (fn.ntmps-args.size) undef).getD (0+k) undef):=by
  intro k d e
  have hlt:k<args.size:=by grind
  have:=hr k d e
  simp only[Array.getD_eq_getD_getElem?,Array.getElem?_append]at this ⊢
  simp_all
 have st:St N M0 fn.ntmps (kC 0 as) K0 { tmps:=args++Array.replicate (fn.ntmps-args.size) undef,defers:=[] } w:=
  ⟨hsz,hn2,(yE.nil λcs e=>by rw[DF as 0 gz (by grind)]at e;cases e),λj=>DD as 0 j _ hget,hK,hm⟩
 have hmode:∃u',frameOf p c0 = { c0 with mode:=u' }/\settle u' = .returning:=by
  cases p with
  |none=>
   exact⟨u,by subst hc0;rfl,by rw[hu];rfl⟩
  |some d=>
   obtain⟨v,hu,_⟩:=hu
   refine⟨.panicking [{ v,recovered:=true }],?_,rfl⟩
   grind[frameOf]
 obtain⟨u',hfr,hset⟩:=hmode
 have hend:∀{env:Env} {K:Heap} {M:Mem} {a:Act} {w':World},EZ T fn.results.toList K0 K1 .ret env K->St N M fn.ntmps env K a w'->Evo M0 w M w'->a.defers = []/\∃v,(results fn a.tmps).run P w' = .ok v w'/\∃M',Step M0 w M' w' (keys K1)/\(∀id∈keys K0,Tr M0 M' id)/\(∀id blk,K1.get id=some blk->eX N M' w' id blk):=by
  intro env K M a w' h s e
  simp only[EZ]at h
  split at h<;>try exact h.elim
  rename_i hd
  obtain⟨h1,h2⟩:=h
  refine⟨?_,?_⟩
  ·exact s.defers.none (λcs h=>hd cs h) λ_ h=>h
  ·split at h1
   ·rename_i x hx
    obtain⟨v,hv,_⟩:=Ij hT hx s.sv
    obtain⟨M',q1,q2,q3,_⟩:=DC hlent hsup e s.mem s.heap h2 (.top undef)
    grind
   ·exact h1.elim
 have:=za8 hT hmix (N:=N) (n:=fn.ntmps) (M0:=M0) (w0:=w) (p:=p) (c0:=c0) (cs:=cs) c (EZ T fn.results.toList K0 K1) (λe a w'=>match e with
   | .normal | .ret=>a.defers = []/\∃v,(results fn a.tmps).run P w' = .ok v w'/\∃M',Step M0 w M' w' (keys K1)/\(∀id∈keys K0,Tr M0 M' id)/\(∀id blk,K1.get id=some blk->eX N M' w' id blk)
   |_=>False) (kC 0 as) K0 M0 _ w hs h st (Evo.refl M0 w) (by grind) λo env K M a w' h s e=>by
  cases o with
  |normal=>exact hend h s e
  |ret=>exact hend h s e
  |exit i=>exact h.elim
  |panic x=>exact h.elim
 intro b k hb' hr'
 obtain⟨e,a',cs',w',⟨h1,h2⟩,harr⟩:=this b k hb' hr'
 refine⟨e,a',cs',w',?_,harr⟩
 subst h1
 cases e with
 |normal=>
  obtain⟨q1,v,q2,q3⟩:=h2
  exact⟨q1,u',by rw[hfr],v,q2,v,rfl,hset,q3⟩
 |ret=>
  obtain⟨q1,v,q2,q3⟩:=h2
  exact⟨q1,u',by rw[hfr],v,q2,v,rfl,hset,q3⟩
 |_=>exact h2.elim
end
end Go.Fw
namespace Go.Fw
variable [af]
section
variable {T : Tbl} {A : FuncId → List D → nK → Prop} {B : FuncId → List AV → Heap → jU → Heap → Prop} {K : Heap} {next next' pan pan' : Next}
theorem kW{id:Nat}{env:Env}{p q:Prop}(hpq:p->q)(h:fresh id env K p):fresh id env K q:=by
 grind[fresh]
theorem Uz{op:BinOp}{x y:AV}(hn:∀v K,next v K->next' v K)(h:z1a op x y K next):z1a op x y K next':=by
 unfold z1a at h ⊢;repeat' split at h<;>simp_all
theorem Yr{op:UnOp}{x:AV}(hn:∀v K,next v K->next' v K)(h:vUn op x K next):vUn op x K next':=by
 unfold vUn at h ⊢;grind
theorem QJ{t:TypeId}{x:AV}(hn:∀v K,next v K->next' v K)(h:jZ T t x K next):jZ T t x K next':=by
 unfold jZ at h ⊢;repeat' split at h
 all_goals first
  |exact h.elim |exact hn _ _ h |exact⟨h.1,hn _ _ h.2⟩
  |(obtain⟨h1,e,h4,h5⟩:=h;exact⟨h1,e,h4,hn _ _ h5⟩)
  |(obtain⟨r,h1,h2⟩:=h;exact⟨r,h1,hn _ _ h2⟩)
  |(obtain⟨r,h1,c,h2,h3⟩:=h;exact⟨r,h1,c,h2,hn _ _ h3⟩)
  |(exact⟨h1,h2,e,h4,hn _ _ h5⟩)
  |(obtain⟨h1,e,h4,c,h5,h6⟩:=h;exact⟨h1,e,h4,c,h5,hn _ _ h6⟩)
theorem Lh{t:TypeId}{x v:AV}(hn:∀v K,next v K->next' v K)(h:CV T t x v K next):CV T t x v K next':=by
 unfold CV at h ⊢;repeat' split at h
 all_goals first
  |exact h.elim |exact hn _ _ h
  |(obtain⟨h1,h2,h3,h4,h5,e,h6,h7⟩:=h;exact⟨h1,h2,h3,h4,h5,e,h6,hn _ _ h7⟩)
  |(obtain⟨h1,r,h2,h3,h4⟩:=h;exact⟨h1,r,h2,h3,hn _ _ h4⟩)
  |(obtain⟨h1,h2,r,h3,h4,h5⟩:=h;exact⟨h1,h2,r,h3,h4,hn _ _ h5⟩)
theorem Lj{t:TypeId}{f:Nat}{x:AV}(hn:∀v K,next v K->next' v K)(h:zl T t f x K next):zl T t f x K next':=by
 unfold zl at h ⊢;repeat' split at h
 all_goals first |exact h.elim |exact hn _ _ h
theorem Iq{t:TypeId}{f:Nat}{x:AV}(hn:∀v K,next v K->next' v K)(h:sK T t f x K next):sK T t f x K next':=by
 unfold sK at h ⊢;repeat' split at h
 all_goals first |exact h.elim |exact hn _ _ h
theorem Ae{t:TypeId}{x i:AV}(hn:∀v K,next v K->next' v K)(h:bG T t x i K next):bG T t x i K next':=by
 unfold bG at h ⊢;repeat' split at h
 all_goals first
  |exact h.elim |exact⟨h.1,hn _ _ h.2⟩ |(obtain⟨h1,c,h2,h3⟩:=h;exact⟨h1,c,h2,hn _ _ h3⟩) |exact⟨h.1,h.2.1,hn _ _ h.2.2⟩
theorem Ll{t:TypeId}{x i:AV}(hn:∀v K,next v K->next' v K)(h:CW T t x i K next):CW T t x i K next':=by
 unfold CW at h ⊢;repeat' split at h<;>grind
theorem Lm{t:TypeId}{x:AV}{lo hi mx:Option AV}(hn:∀v K,next v K->next' v K)(h:CX T t x lo hi mx K next):CX T t x lo hi mx K next':=by
 unfold CX at h ⊢;repeat' split at h
 all_goals first |exact h.elim |exact⟨h.1,hn _ _ h.2⟩ |exact⟨h.1,h.2.1,hn _ _ h.2.2⟩
theorem UA{t:TypeId}{x:AV}(hn:∀v K,next v K->next' v K)(h:z3l T t x K next):z3l T t x K next':=by
 unfold z3l at h ⊢;repeat' split at h
 all_goals first |exact h.elim |exact hn _ _ h
theorem uN{e:TypeId}{id:Nat}{env:Env}{x:AV}{sz:Nat}{ys:List (List D)}(hn:∀v K,next v K->next' v K)(h:jT T e id env x sz ys K next):jT T e id env x sz ys K next':=by
 unfold jT at h ⊢;grind[iV,kW]
theorem Ir{t t2:TypeId}{id:Nat}{env:Env}{x y:AV}(hn:∀v K,next v K->next' v K)(h:nY T t t2 id env x y K next):nY T t t2 id env x y K next':=by
 unfold nY at h ⊢;repeat' split at h
 all_goals first |exact h.elim |exact uN hn h |exact⟨h.1,uN hn h.2⟩
theorem Lp{t:TypeId}{ps:List (Nat×AV)}(hn:∀v K,next v K->next' v K)(h:CY T t ps K next):CY T t ps K next':=by
 unfold CY at h ⊢;repeat' split at h
 all_goals first |exact h.elim |exact hn _ _ h
theorem yw{t:TypeId}{id n:Nat}{env:Env}{ps:List (Nat×AV)}(hn:∀v K,next v K->next' v K)(h:iW T t id n env ps K next):iW T t id n env ps K next':=by
 unfold iW at h ⊢;repeat' split at h
 all_goals first |exact h.elim |exact iV (kW (hn _ _)) (kW (hn _ _)) h
theorem DI{L:List Nat}{f:FuncId}{as:List AV}{env:Env}(hn:∀v K,next v K->next' v K)(hp:∀v K,pan v K->pan' v K)(h:EK B L f as env K next pan):EK B L f as env K next' pan':=by
 obtain⟨as0,K0,out,K1,ρ,h1,h2,h3,h4,h5⟩:=h
 refine⟨as0,K0,out,K1,ρ,h1,h2,h3,h4,?_⟩
 cases out with
 |ret v=>exact hn _ _ h5
 |pan v=>exact hp _ _ h5
theorem DJ{v:AV}{p q:Prop}(hp:p->q)(h:lenOk K v p):lenOk K v q:=by
 unfold lenOk at h ⊢;grind
theorem tu:∀{l:List AV} {p q:Prop},(p->q)->zu K l p->zu K l q
 | [],_,_,hp,h=>hp h
 |_::r,_,_,hp,h=>DJ (tu (l:=r) hp) h
theorem kE:∀{l:List AV} {p q:Prop},(p->q)->lg K l p->lg K l q
 | [],_,_,hp,h=>hp h
 |v::r,p,q,hp,h=>by
  cases v
  case agg cs=>exact tu (kE (l:=r) hp) h
  case ptr id off=>
   simp only[lg]at h ⊢
   split at h
   ·exact tu (kE (l:=r) hp) h
   ·exact kE (l:=r) hp h
  all_goals exact DJ (kE (l:=r) hp) h
theorem QK{L:List Nat}{f:FuncId}{as:List AV}{env:Env}(hn:∀v K,next v K->next' v K)(hp:∀v K,pan v K->pan' v K)(h:zx A B L f as env K next pan):zx A B L f as env K next' pan':=by
 unfold zx at h ⊢
 split at h
 ·exact h.elim
 split at h<;>grind[DI,z3o,kE]
theorem UB{t:TypeId}{op:BinOp}{xo yo:Operand}{x y:AV}(hn:∀v K,next v K->next' v K)(h:zaf T t op xo yo x y K next):zaf T t op xo yo x y K next':=by
 unfold zaf at h ⊢;repeat' split at h
 all_goals first |exact h.elim |exact hn _ _ h |exact⟨h.1,hn _ _ h.2⟩
theorem Iu{t:TypeId}{ok:Bool}{x:AV}(hn:∀v K,next v K->next' v K)(h:vZ T t ok x K next):vZ T t ok x K next':=by
 unfold vZ at h ⊢;repeat' split at h
 all_goals first |exact h.elim |exact hn _ _ h
theorem QL{env:Env}{o:Oper}(hn:∀v K,next v K->next' v K)(h:Hf T env K o next):Hf T env K o next':=by
 unfold Hf at h ⊢;repeat' split at h
 all_goals first
  |exact h.elim |exact hn _ _ h |exact kW (hn _ _) h |exact⟨h.1,hn _ _ h.2⟩ |exact Iu hn h
  |(have h2:=h.2;unfold uj at h2 ⊢;grind)
  |(grind)
  |grind[iV,kW]
  |grind[iV]
theorem Lr{t:TypeId}{x:AV}(hn:∀v K,next v K->next' v K)(h:CZ T t x K next):CZ T t x K next':=by
 unfold CZ at h ⊢;repeat' split at h
 all_goals first |exact h.elim |exact hn _ _ h |exact⟨h.1,hn _ _ h.2⟩
theorem uO{env:Env}{o:Oper}(hn:∀v K,next v K->next' v K)(hp:∀v K,pan v K->pan' v K)(h:vOp T A B env K o next pan):vOp T A B env K o next' pan':=by
 unfold vOp at h ⊢;repeat' split at h
 all_goals first
  |exact h.elim |exact hn _ _ h |exact hp _ _ h |exact kW (hn _ _) h |exact Lp hn h |exact yw hn h |exact QJ hn h |exact Lh hn h |exact UB hn h |exact Uz hn h
  |exact Yr hn h |exact Lj hn h |exact Iq hn h |exact Ae hn h |exact Ll hn h |exact Lm hn h |exact UA hn h |exact Ir hn h |exact Lr hn h |exact QK hn hp h |exact DI hn hp h |exact QL hn h
  |(unfold Br at h ⊢;grind)
end
@[irreducible] def BrI (c:Bool) (p q:Prop):Prop:=(c=true->p)/\(c=false->q)
theorem BrI.intro{c:Bool}{p q:Prop}(h1:c=true->p)(h2:c=false->q):BrI c p q:=by grind[BrI]
theorem BrI.elim{c:Bool}{p q:Prop}(h:BrI c p q):Br c p q:=by
 unfold BrI at h;unfold Br;grind
def fc1(v:AV)(k:AV->Prop):Prop:=match v with
 | .data d=>k (.data d)
 | .nilsl s=>k (.nilsl s)
 | .gs i s es=>k (.gs i s es)
 | .own i v s o l=>k (.own i v s o l)
 | .ptr i o=>k (.ptr i o)
 | .eptr i v s j o=>k (.eptr i v s j o)
 | .map i=>k (.map i)
 | .fn f cs=>k (.fn f cs)
 | .bnd f cs=>k (.bnd f cs)
 | .iface t x=>k (.iface t x)
 | .agg cs=>k (.agg cs)
 | .tuple cs=>k (.tuple cs)
 | .dfr cs=>k (.dfr cs)
 | .yld i=>k (.yld i)
 | .top=>k .top
theorem za9(v:AV)(k:AV->Prop):fc1 v k=k v:=by cases v<;>rfl
noncomputable def fcL(l:List AV):(List AV->Prop)->Prop:=
 List.rec (motive:=λ_=>(List AV->Prop)->Prop) (λk=>k []) (λv _ ih k=>fc1 v λv=>ih λr=>k (v::r)) l
theorem z1p(l:List AV):∀k,fcL l k=k l:=by
 induction l with
 |nil=>intro k;rfl
 |cons v r ih=>intro k;show fc1 v (λv=>fcL r λr=>k (v::r))=_;rw[za9,ih]
noncomputable def fc(v:AV)(k:AV->Prop):Prop:=match v with
 | .data d=>k (.data d)
 | .nilsl s=>k (.nilsl s)
 | .gs i s es=>k (.gs i s es)
 | .own i v s o l=>k (.own i v s o l)
 | .ptr i o=>k (.ptr i o)
 | .eptr i v s j o=>k (.eptr i v s j o)
 | .map i=>k (.map i)
 | .fn f cs=>k (.fn f cs)
 | .bnd f cs=>k (.bnd f cs)
 | .iface t x=>k (.iface t x)
 | .agg cs=>fcL cs λcs=>k (.agg cs)
 | .tuple cs=>fcL cs λcs=>k (.tuple cs)
 | .dfr cs=>k (.dfr cs)
 | .yld i=>k (.yld i)
 | .top=>k .top
theorem uP(v:AV)(k:AV->Prop):fc v k=k v:=by cases v<;>first |rfl |exact z1p _ _
noncomputable def fcB(b:Block)(k:Block->Prop):Prop:=match b with
 | .cells cs=>fcL cs λcs=>k (.cells cs)
 | .arr v s es=>k (.arr v s es)
 | .tok s n=>k (.tok s n)
 | .map g l es=>k (.map g l es)
 | .rnd R=>k (.rnd R)
 | .dead=>k .dead
 | .adr i b=>k (.adr i b)
theorem zba(b:Block)(k:Block->Prop):fcB b k=k b:=by cases b<;>first |rfl |exact z1p _ _
noncomputable def fcH(K:Heap):(Heap->Prop)->Prop:=
 List.rec (motive:=λ_=>(Heap->Prop)->Prop) (λk=>k []) (λp _ ih k=>match p with |(i,b)=>fcB b λb=>ih λr=>k ((i,b)::r)) K
theorem zbb(K:Heap):∀k,fcH K k=k K:=by
 induction K with
 |nil=>intro k;rfl
 |cons p r ih=>obtain⟨i,b⟩:=p;intro k;show fcB b (λb=>fcH r λr=>k ((i,b)::r))=_;rw[zba,ih]
noncomputable def fcK(o:Oper)(K:Heap)(k:Heap->Prop):Prop:=match o.op with
 | .store _ _ _ | .alloc _ | .box _ _ | .call _ | .buildSlice _ _ _ | .makeMap _ _ | .makeSlice _ _ _ | .mapUpdate _ _ _ _ | .insert _ _ _ _=>fcH K k
 |_=>k K
theorem DK(o:Oper)(K:Heap)(k:Heap->Prop):fcK o K k=k K:=by
 grind[fcK,zbb]
def E5(d:Option Nat)(v:AV)(m:Env)(k:Env->Prop):Prop:=match d with |some d=>k ((d,v)::m) |none=>k m
theorem oI(d:Option Nat)(v:AV)(m:Env)(k:Env->Prop):E5 d v m k=k (m.set d v):=by cases d<;>rfl
def UC(c:Operand)(b:Bool)(env:Env)(k:Env->Prop):Prop:=match c with | .tmp j=>k ((j,.data (.val (.bool b)))::env) |_=>k env
theorem Ol(c:Operand)(b:Bool)(env:Env)(k:Env->Prop):UC c b env k=k (zai c b env):=by cases c<;>rfl
def zeq(op:BinOp)(x y:AV):Option AV:=match x,y with
 | .data (.val (.int k a)),.data (.val (.int k' b))=>match k==k' with
  |true=>(match op with | .quo | .rem | .shl | .shr=>none |op=>arith op k a b)
  |false=>none
 | .data (.str a),.data (.str b)=>match op with
  | .eql=>some (.b (a==b))
  | .neq=>some (.b (!(a==b)))
  |_=>none
 |_,_=>none
def zbc(T:Tbl)(t:TypeId)(x:AV)(K:Heap):Option AV:=match x with
 | .ptr id off=>match K.get id with
  |some (.cells cs)=>match T.sh t with
   |some true=>match Nat.ble (off+(T.at t).size) cs.length with
    |true=>some (EI ((cs.drop off).take (T.at t).size))
    |false=>none
   |some false=>cs[off]?
   |none=>none
  |_=>none
 | .data (.ptr cs)=>match T.sh t with
  |some false=>match cs with |c::_=>some (.data c) | []=>none
  |_=>none
 |_=>none
def z1q(T:Tbl)(s:TypeId)(f:Nat)(x:AV):Option AV:=match(T.at s).ty with
 | .struct fs=>match fs[f]? with
  |some (o,ft)=>match T.known ft&&Nat.blt 0 (T.at ft).size with
   |false=>none
   |true=>match x with
    | .ptr id off=>some (.ptr id (off+o))
    | .eptr id vr sz i off=>some (.eptr id vr sz i (off+o))
    | .data (.ptr cs)=>match T.sh ft with
     |some true=>some (.data (.ptr ((cs.drop o).take (T.at ft).size)))
     |some false=>some (.data (.ptr (cs.drop o)))
     |none=>none
    |_=>none
  |none=>none
 |_=>none
def UD(T:Tbl)(s:TypeId)(f:Nat)(x:AV):Option AV:=match(T.at s).ty with
 | .struct fs=>match fs[f]? with
  |some (o,ft)=>match T.sh ft with
   |some true=>match x with
    | .agg cs=>match Nat.ble (o+(T.at ft).size) cs.length with |true=>some (EI ((cs.drop o).take (T.at ft).size)) |false=>none
    | .data (.agg ds)=>match Nat.ble (o+(T.at ft).size) ds.length with |true=>some (.data (.agg ((ds.drop o).take (T.at ft).size))) |false=>none
    |_=>none
   |some false=>match x with
    | .agg cs=>cs[o]?
    | .data (.agg ds)=>match ds[o]? with |some d=>some (.data d) |none=>none
    |_=>none
   |none=>none
  |none=>none
 |_=>none
def zgh(T:Tbl)(t:TypeId)(x:AV)(K:Heap):Option AV:=match(T.at t).ty,x with
 | .str,.data (.str s)=>some (.i s.length)
 | .slice _,.data (.sl _ es)=>some (.i es.length)
 | .slice _,.gs _ _ es=>some (.i es.length)
 | .slice _,.nilsl _=>some (.i 0)
 | .slice _,.own _ _ _ _ n=>some (.i n)
 | .map _ _,.map id=>match K.get id with
  |some (.map _ _ es)=>some (.i es.length)
  |_=>none
 | .map _ _,.data (.val (.map none))=>some (.i 0)
 |_,_=>none
def E8(c:Bool)(x y:AV):Option AV:=match x,y with
 | .data (.val (.int k a)),.data (.val (.int k' b))=>match k==k' with |true=>some (.data (.val (.int k (bif c then a else b)))) |false=>none
 | .data (.val (.bool a)),.data (.val (.bool b))=>some (.data (.val (.bool (bif c then a else b))))
 | .data (.str a),.data (.str b)=>some (.data (.str (bif c then a else b)))
 |_,_=>none
def z4n(T:Tbl)(env:Env)(K:Heap)(o:Oper):Option AV:=match o.op with
 | .move x | .assign x=>some (ev T env o.type x)
 | .pick c a b=>match ev T env o.type c with
  | .data (.val (.bool c))=>E8 c (ev T env o.type a) (ev T env o.type b)
  |_=>none
 | .load t a=>zbc T t (ev T env 0 a) K
 | .fieldAddr s x f=>z1q T s f (ev T env 0 x)
 | .field s x f=>UD T s f (ev T env 0 x)
 | .binOp op t x y _=>match NM op (ev T env t x)with
  |true=>none
  |false=>zeq op (ev T env t x) (ev T env t y)
 | .unOp op t x=>match op,ev T env t x with
  | .not,.data (.val (.bool c))=>some (.b (!c))
  | .neg,.data (.val (.int k n))=>some (.data (.val (.int k (k.wrap (0-n)))))
  |_,_=>none
 | .extract x i=>match ev T env 0 x with
  | .tuple vs=>vs[i]?
  | .data (.tuple vs)=>match vs[i]? with |some v=>some (.data v) |none=>none
  |_=>none
 | .call c=>match c.callee with
  | .builtin .len=>match c.args.toList,Nat.ble 1 c.argTypes.size with
   | [x],true=>zgh T (c.argTypes.getD 0 0) (ev T env (c.argTypes.getD 0 0) x) K
   |_,_=>none
  | .builtin .max=>zae true (c.args.toList.map (ev T env 0))
  | .builtin .min=>zae false (c.args.toList.map (ev T env 0))
  |_=>none
 |_=>none
def dZ(o:Oper):Bool:=match o.op with
 | .store _ _ _ | .alloc _ | .box _ _ | .buildSlice _ _ _ | .makeMap _ _ | .makeSlice _ _ _=>false
 | .call c=>match c.callee with
  | .builtin .append=>false
  |_=>true
 |_=>true
structure GE where
 d:Nat
 ch:List (Nat×Bool)
 g:Bool
 v:AV
def z1r(d:Nat)(b:Bool):List (Nat×Bool)->Bool
 | []=>false
 |(e,c)::r=>(Nat.beq d e&&(b==c)) || z1r d b r
def Ku:List (Nat×Bool)->List (Nat×Bool)->Bool
 | [],_=>true
 |(d,b)::r,l=>z1r d b l&&Ku r l
def G7(d:Nat):List (Nat×Bool)->Bool
 | []=>false
 |(e,_)::r=>Nat.beq d e || G7 d r
def kQ(al:List (Nat×Bool))(m:Env):List GE->Env
 | []=>m
 |e::r=>match Ku e.ch al with |true=>(e.d,e.v)::kQ al m r |false=>(e.d,.top)::kQ al m r
def Ls(d:Nat):List GE->Option GE
 | []=>none
 |e::r=>match Nat.beq e.d d with |true=>some e |false=>Ls d r
def wS(c want:Bool):Bool:=match want with |true=>c |false=>!c
def guardOf(ops:Array Oper)(G:List GE)(m:Env)(o:Oper):Option (List (Nat×Bool)×Bool):=match o.guard with
 |none=>some ([],true)
 |some (j,want)=>match rq ops j with
  |none=>none
  |some d=>match Ls d G with
   |some e=>match e.v with
    | .data (.val (.bool c))=>(match e.ch with | []=>some ([(d,want)],wS c want) |ch=>some ((d,want)::ch,e.g&&wS c want))
    |_=>none
   |none=>match m.get d with
    | .data (.val (.bool c))=>some ([(d,want)],wS c want)
    |_=>none
def Fa(d:Nat):List GE->Bool
 | []=>true
 |e::r=>!G7 d e.ch&&Fa d r
def Om:Operand->List (Nat×Bool)->Bool->List (Nat×Bool) | .tmp j,ch,b=>(j,b)::ch |_,ch,_=>ch
section
variable (T : Tbl) (A : FuncId → List D → nK → Prop) (B : FuncId → List AV → Heap → jU → Heap → Prop)
def Kv(d:Option Nat)(ch:List (Nat×Bool))(g:Bool)(v:AV)(G:List GE)(m:Env)(next:List GE->Env->Prop):Prop:=match d with
 |none=>match ch with | []=>next G m |_=>False
 |some d=>match G,ch with
  | [],[]=>next [] ((d,v)::m)
  |G,ch=>match !G7 d ch&&Fa d G with
   |true=>next (⟨d,ch,g,v⟩::G) m
   |false=>False
noncomputable def flatG(m:Env)(G:List GE):(Env->Prop)->Prop:=
 List.rec (motive:=λ_=>(Env->Prop)->Prop) (λk=>k m) (λe _ ih k=>ih λr=>match e with |⟨d,[],_,v⟩=>k ((d,v)::r) |⟨d,_::_,_,_⟩=>k ((d,.top)::r)) G
@[irreducible] def mi (g:Bool) (p:Prop):Prop:=g=true/\p
theorem mi.mk{g:Bool}{p:Prop}(h:g=true)(hp:p):mi g p:=by grind[mi]
theorem mi.out{g:Bool}{p:Prop}(h:mi g p):g=true/\p:=by grind[mi]
noncomputable def geK(al:List (Nat×Bool))(m:Env)(G:List GE):(Env->Prop)->Prop:=
 List.rec (motive:=λ_=>(Env->Prop)->Prop) (λk=>k m) (λe _ ih k=>ih λr=>match Ku e.ch al with |true=>k ((e.d,e.v)::r) |false=>k ((e.d,.top)::r)) G
theorem z1s(al:List (Nat×Bool))(m:Env)(G:List GE):∀k,geK al m G k=k (kQ al m G):=by
 induction G with
 |nil=>intro k;rfl
 |cons e r ih=>
  intro k
  show geK al m r (λr=>match Ku e.ch al with |true=>k ((e.d,e.v)::r) |false=>k ((e.d,.top)::r))=_
  grind[kQ]
def Yt(T:Tbl)(m:Env)(o:Oper):Option (BinOp×Bool×Nat):=match o.op with
 | .binOp op t x y _=>match op,(T.at t).ty,ev T m t y with
  | .eql,.slice _,.nilsl _ | .neq,.slice _,.nilsl _=>match ev T m t x with
   | .nilsl _=>some (op,true,0)
   | .data (.sl _ es)=>some (op,false,es.length)
   | .gs _ _ es=>some (op,false,es.length)
   | .own _ _ _ _ _=>some (op,false,0)
   |_=>none
  |_,_,_=>none
 |_=>none
@[irreducible] def XR (n:Nat) (p q:Prop):Prop:=(n=0->p)/\q
theorem XR.mk{n:Nat}{p q:Prop}(h:n=0->p)(hq:q):XR n p q:=by grind[XR]
theorem XR.out{n:Nat}{p q:Prop}(h:XR n p q):(n=0->p)/\q:=by grind[XR]
noncomputable def Kw(ops:Array Oper)(Q:Env->Heap->Prop)(pan:Env->Next)(l:List Oper):List GE->Env->Heap->Prop:=
 List.rec (motive:=λ_=>List GE->Env->Heap->Prop) (λG m K=>flatG m G λenv=>Q env K)
  (λo _ ih G m K=>match guardOf ops G m o with
   |none=>False
   | some (ch,g)=>match(match o.op with
     | .pick c x y=>match ev T (kQ ch m G) o.type c with
      | .data (.val (.bool cv))=>E8 cv (ev T (kQ (Om c ch true) m G) o.type x) (ev T (kQ (Om c ch false) m G) o.type y)
      |_=>none
     |_=>z4n T (kQ ch m G) K o)with
    |some v=>fc v λv=>Kv o.dst ch g v G m λG m=>ih G m K
    |none=>match ch,G with
     | [],[]=>match ww m o with
      |some cs=>ih [] (Env.set ((gz,.dfr cs)::m) o.dst (.data (.val undef))) K
      |none=>match Yt T m o with
       |some (op,kn,n)=>(match kn with
        |true=>E5 o.dst (lh op true) m λm=>ih [] m K
        |false=>XR n (E5 o.dst (lh op true) m λm=>ih [] m K) (E5 o.dst (lh op false) m λm=>ih [] m K))
       |none=>vOp T A B m K o (λv K=>fc v λv=>fcK o K λK=>E5 o.dst v m λm=>ih [] m K) (pan m)
     | [],G=>match dZ o with
      |true=>vOp T A B (kQ [] m G) K o (λv K'=>K'=K/\fc v λv=>Kv o.dst [] true v G m λG m=>ih G m K) (pan (kQ [] m G))
      |false=>vOp T A B (kQ [] m G) K o (λv K=>fc v λv=>fcK o K λK=>flatG m G λm=>E5 o.dst v m λm=>ih [] m K) (pan (kQ [] m G))
     |ch,G=>match dZ o with
      |true=>(dZ o=true/\∃v,(g=true->vOp T A B (kQ ch m G) K o (λv' K'=>v'=v/\K'=K) (λ_ _=>False))/\Kv o.dst ch g v G m λG m=>ih G m K)\/mi g (vOp T A B (kQ ch m G) K o (λv K=>fc v λv=>fcK o K λK=>geK ch m G λm=>E5 o.dst v m λm=>ih [] m K) (pan (kQ ch m G)))
      |false=>mi g (vOp T A B (kQ ch m G) K o (λv K=>fc v λv=>fcK o K λK=>geK ch m G λm=>E5 o.dst v m λm=>ih [] m K) (pan (kQ ch m G)))) l
def geM(al:List (Nat×Bool))(m:Env):List GE->Env
 | []=>m
 |e::r=>match Ku e.ch al with |true=>(e.d,e.v)::geM al m r |false=>(e.d,.top)::(e.d,e.v)::geM al m r
noncomputable def flatM(m:Env)(G:List GE):(Env->Prop)->Prop:=
 List.rec (motive:=λ_=>(Env->Prop)->Prop) (λk=>k m) (λe _ ih k=>ih λr=>match e with |⟨d,[],_,v⟩=>k ((d,v)::r) |⟨d,_::_,_,v⟩=>k ((d,.top)::(d,v)::r)) G
noncomputable def geMK(al:List (Nat×Bool))(m:Env)(G:List GE):(Env->Prop)->Prop:=
 List.rec (motive:=λ_=>(Env->Prop)->Prop) (λk=>k m) (λe _ ih k=>ih λr=>match Ku e.ch al with |true=>k ((e.d,e.v)::r) |false=>k ((e.d,.top)::(e.d,e.v)::r)) G
theorem z4o(al:List (Nat×Bool))(m:Env)(G:List GE):∀k,geMK al m G k=k (geM al m G):=by
 induction G with
 |nil=>intro k;rfl
 |cons e r ih=>
  intro k
  show geMK al m r (λr=>match Ku e.ch al with |true=>k ((e.d,e.v)::r) |false=>k ((e.d,.top)::(e.d,e.v)::r))=_
  grind[geM]
noncomputable def Iw(ops:Array Oper)(Q:List Rec->Env->Heap->Prop)(QP:Nat->AV->Heap->List Rec->Prop)(l:List Oper):List Rec->List GE->Env->Heap->Prop:=
 List.rec (motive:=λ_=>List Rec->List GE->Env->Heap->Prop) (λtr G m K=>flatG m G λenv=>Q tr.reverse env K)
  (λo rest ih tr G m K=>match guardOf ops G m o with
   |none=>False
   | some (ch,g)=>match(match o.op with
     | .pick c x y=>match ev T (geM ch m G) o.type c with
      | .data (.val (.bool cv))=>E8 cv (ev T (geM (Om c ch true) m G) o.type x) (ev T (geM (Om c ch false) m G) o.type y)
      |_=>none
     |_=>match fZ (geM ch m G) (tmpsOf o.op.operands.toList)with |true=>z4n T (geM ch m G) K o |false=>none)with
    |some v=>fc v λv=>Kv o.dst ch g v G m λG' m'=>ih (⟨o,geM ch m G,v,K,K,true⟩::tr) G' m' K
    |none=>match fZ (geM ch m G) (tmpsOf o.op.operands.toList)with
     |false=>False
     |true=>match ch with
      | []=>match(match G with | []=>false |_=>dZ o)with
       |true=>vOp T A B (geM [] m G) K o (λv K'=>K'=K/\fc v λv=>Kv o.dst [] true v G m λG' m'=>ih (⟨o,geM [] m G,v,K,K,true⟩::tr) G' m' K) (λ_ _=>False)
       |false=>vOp T A B (geM [] m G) K o (λv K'=>fc v λv=>fcK o K' λK'=>flatM m G λm'=>E5 o.dst v m' λm'=>ih (⟨o,geM [] m G,v,K,K',true⟩::tr) [] m' K') (λp K'=>Qj (lX T A B tr.length (QP tr.length p K') rest ((wu ops.toList []).drop (tr.length+1)) (⟨o,geM [] m G,.data (.val undef),K,K',true⟩::tr) (Env.set (geM [] m G) o.dst (.data (.val undef))) K'))
      |ch=>match dZ o with
       |true=>dZ o=true/\∃v,(g=true->vOp T A B (geM ch m G) K o (λv' K'=>v'=v/\K'=K) (λ_ _=>False))/\Kv o.dst ch g v G m λG' m'=>ih (⟨o,geM ch m G,v,K,K,true⟩::tr) G' m' K
       |false=>mi g (vOp T A B (geM ch m G) K o (λv K'=>fc v λv=>fcK o K' λK'=>geMK ch m G λm'=>E5 o.dst v m' λm'=>ih (⟨o,geM ch m G,v,K,K',true⟩::tr) [] m' K') (λ_ _=>False))) l
structure Loop where
 S:Type
 ev:S->Env
 hv:S->Heap
 keep:List Nat
 I:S->Prop
 μ:S->Nat
structure zak where
 cuts:List Nat
 cutB:List Nat
@[irreducible] def ak (_:Nat) (p:Prop):Prop:=p
theorem ak.mk(i:Nat){p:Prop}(h:p):ak i p:=by grind[ak]
theorem ak.out{i:Nat}{p:Prop}(h:ak i p):p:=by grind[ak]
@[irreducible] def Cb (K:Heap) (p:Heap->Prop):Prop:=p K\/∃g id,(∃cs,K.get id=some (.cells cs))/\∀b,p ((g,.adr id b)::K)
theorem Cb.l{K:Heap}{p:Heap->Prop}(h:p K):Cb K p:=by grind[Cb]
theorem Cb.adr(g id:Nat){K:Heap}{p:Heap->Prop}(hc:(match K.get id with |some (.cells _)=>true |_=>false)=true)(h:∀b,p ((g,.adr id b)::K)):Cb K p:=by
 unfold Cb
 refine .inr ⟨g,id,?_,h⟩
 grind
theorem Cb.out{K:Heap}{p:Heap->Prop}(h:Cb K p):p K\/∃g id,(∃cs,K.get id=some (.cells cs))/\∀b,p ((g,.adr id b)::K):=by unfold Cb at h;exact h
def zgi:Code->Option Nat
 | .region id _ _=>some id
 | .seq a _=>zgi a
 |_=>none
def zbd:Code->Option Nat
 | .block id _=>some id
 | .seq a _=>zbd a
 |_=>none
def zak.cut(An:zak)(b:Code):Option Nat:=match zgi b with
 |some i=>(match og An.cuts i with |true=>some i |false=>none)
 |none=>match zbd b with
  |some i=>(match og An.cutB i with |true=>some i |false=>none)
  |none=>none
noncomputable def keepE(env r:Env)(ks:List Nat):(Env->Prop)->Prop:=
 List.rec (motive:=λ_=>(Env->Prop)->Prop) (λk=>k r) (λj _ ih k=>ih λr=>fc (env.get j) λv=>k ((j,v)::r)) ks
noncomputable def Yu(ids:List Nat)(r:Heap)(K:Heap):(Heap->Prop)->Prop:=
 List.rec (motive:=λ_=>(Heap->Prop)->Prop) (λk=>k r) (λp _ ih k=>match p with |(i,b)=>match og ids i with |true=>ih λr=>k ((i,b)::r) |false=>ih k) K
def UE:Env->List Nat
 | []=>[]
 |(_,v)::r=>v.ids++UE r
noncomputable def Loop.enter(L:Loop)(env:Env)(K:Heap)(s:L.S)(k:Env->Heap->Prop):Prop:=
 keepE env (L.ev s) L.keep λe=>Yu (minus (reach (L.hv s++K) 1000 (UE e) []) (keys (L.hv s))) (L.hv s) K λh=>k e h
def leV(e:Env)(K Z:Heap)(a b:AV):Prop:=match b with
 | .gs id s' es=>(match a with
  | .nilsl s=>s=s'/\es = []/\K.get id=none/\bP id=false/\fU id e=false/\pI id K=false
  |a=>a = .gs id s' es)
 | .data (.sl sz' r)=>(match a with
  | .own id vr sz off len=>sz=sz'/\bP id=false/\Z.get id=none/\match K.get id with
   |some (.arr vr' sz2 es)=>(vr=vr'/\sz2=sz)/\off+len<=es.length/\r=(es.drop off).take len
   |_=>False
  | .nilsl s=>s=sz'/\r = []
  | .gs _ s es=>s=sz'/\r=es
  |a=>a = .data (.sl sz' r))
 | .data (.ptr ds)=>(match a with
  | .ptr id off=>bP id=false/\Z.get id=none/\match K.get id with
   |some (.cells cs)=>match AV.allD (cs.drop off)with
    |some ds'=>ds=ds'/\ds'.all D.scalar=true
    |none=>False
   |_=>False
  |a=>a = .data (.ptr ds))
 | .data (.val v)=>(match a with
  | .ptr id off=>match z3q K id,K.get id with
   |some b,some (.cells _)=>v = .pointer (some ⟨b,off,none⟩)
   |_,_=>False
  |a=>a = .data (.val v))
 | .ptr id off=>(match a with
  | .data (.val v)=>match z3q K id with
   |some b=>v = .pointer (some ⟨b,off,none⟩)
   |none=>False
  |a=>a = .ptr id off)
 | .fn g cs=>(match a with
  | .data (.fn f ds)=>f=g/\leP K ds cs
  |a=>a = .fn g cs)
 | .own id vr sz off len=>(match a with
  | .nilsl s=>s=sz/\off=0/\len=0/\K.get id=none/\bP id=false/\fU id e=false/\pI id K=false/\(match Z.get id with |some (.arr vr' _ _)=>vr=vr' |_=>False)
  |a=>a = .own id vr sz off len)
 |b=>a=b
noncomputable def leE(e:Env)(K Z:Heap)(l:Env):Prop:=
 List.rec (motive:=λ_=>Prop) True (λp _ ih=>match p with |(j,v)=>(fc (e.get j) λa=>leV e K Z a v)/\ih) l
noncomputable def leC(e:Env)(K Z:Heap)(ys:List AV):List AV->Prop:=
 List.rec (motive:=λ_=>List AV->Prop) (λxs=>xs = []) (λy _ ih xs=>match xs with | []=>False |x::xs=>(fc x λa=>leV e K Z a y)/\ih xs) ys
def leB(e:Env)(K Z:Heap)(b' b:Block):Prop:=match b with
 | .cells ys=>(match b' with | .cells xs=>leC e K Z ys xs |_=>False)
 |b=>b'=b
noncomputable def leH(env:Env)(K Z:Heap)(l:Heap):Prop:=
 List.rec (motive:=λ_=>Prop) True (λp _ ih=>match p with |(i,b)=>(match K.get i with
  |some b'=>leB env K Z b' b
  |none=>b.isTok0=true/\bP i=false/\fU i env=false/\pI i K=false)/\ih) l
def yx(env:Env)(K:Heap)(env':Env)(K':Heap):Prop:=leE env K K' env'/\leH env K K' K'/\env'.get gz=env.get gz
inductive RK where
 |ret
 |exit (id:Nat)
 |pan (d:D)
def RK.code:RK->Code | .exit id=>.exit id |_=>.ret
def RK.out:Option RK->Out |none=>.normal |some .ret=>.ret |some (.exit id)=>.exit id |some (.pan d)=>.panic (.data d)
def RK.yo:Option RK->jU |none=>.ret (.b true) |some (.pan d)=>.pan (.data d) |some _=>.ret (.b false)
def iR:List Nat->List D->Env->Env
 |p::ps,x::xs,e=>iR ps xs ((p,.data x)::e)
 |_,_,e=>e
def Oo(k:Env->Heap->Prop):Post:=λo e K=>o = .normal/\k e K
def zer(K:Heap):Heap->Prop
 | []=>True
 |(i,b)::r=>K.get i=some b/\zer K r
theorem Oq{K:Heap}:∀{H:Heap},zer K H->∀id b,H.get id=some b->K.get id=some b
 | [],_,id,b,h=>by simp[Heap.get]at h
 |(i,c)::r,h,id,b,hg=>by
  rw[Heap.get_cons]at hg
  split at hg
  ·rename_i e;subst e
   simp at hg;subst hg;exact h.1
  ·exact Oq h.2 id b hg
def Ot(k:Option RK)(H':Heap):Post:=λo e K=>o=RK.out k/\match k with
 |some (.pan _)=>e.get gz = .top/\zer K H'
 |_=>yx e K [] H'
structure lD where
 e1:Env
 K1:Heap
 τ:List (Nat×Nat)
 e0:Env
 H:Nat->Heap
 n:Nat
 xs:Nat->List D
 y:Nat
 last:Option (RK×Heap)
def lD.kind(R:lD):Option RK:=match R.last with |none=>none |some (k,_)=>some k
def lD.fo(R:lD)(v:AV):jU:=match R.last with |some (.pan d,_)=>.pan (.data d) |_=>.ret v
def lD.He(R:lD):Heap:=match R.last with |none=>R.H R.n |some (_,h)=>h
def lD.rp(R:lD)(Rf:Nat->RP)(Re:RP):RP:=match R.last with |none=>Rf R.n |some _=>Re
def zbe:AV->Option (FuncId×List AV)
 | .fn f cs=>some (f,cs)
 | .data (.fn f ds)=>some (f,ds.map .data)
 |_=>none
def Ou(τ:List (Nat×Nat))(e1:Env):Env->Prop
 | []=>True
 |(j,v)::r=>v.ren τ=e1.get j/\Ou τ e1 r
structure QM(R:lD)(g:Operand)(ps:List Nat)(ra:List D->Heap->Option RK->Heap->Prop)(Q:Post)(env:Env)(K:Heap):Prop where
 weak:yx env K R.e1 R.K1
 names:(xM (aU R.τ (keys (R.H 0)))&&(nz (keys (R.H 0))&&(kR R.e1 R.K1 [R.y]&&(allIn (keys (R.H 0)) (keys R.He)&&(allIn (keys R.He) (keys (R.H 0))&&allIn (keys (R.H 0)) (Ti R.He))))))=true
 df:R.e0.get gz = .top
 env0:Ou R.τ R.e1 R.e0
 heap0:Heap.sub R.τ R.K1 (R.H 0)
 round:∀i,i<R.n->(R.xs i).length=ps.length/\allIn (keys (R.H 0)) (keys (R.H (i+1)))=true/\ra (R.xs i) (R.H i) none (R.H (i+1))
 lst:∀k h,R.last=some (k,h)->(R.xs R.n).length=ps.length/\ra (R.xs R.n) (R.H R.n) (some k) h
 it:∃f caps,zbe (ev T R.e1 0 g)=some (f,caps)/\Nat.beq f xK=false/\∀(Rf:Nat->RP) (Re:RP),
  (∀i,i<R.n->B xK (.yld 1000000::(R.xs i).map .data) [(1000000,.rnd (Rf i))] (.ret (.b true)) [(1000000,.rnd (Rf (i+1)))]) ->
  (R.last≠none->B xK (.yld 1000000::(R.xs R.n).map .data) [(1000000,.rnd (Rf R.n))] (RK.yo R.kind) [(1000000,.rnd Re)]) ->
  ∃(yl:Nat) (cs0:List AV) (J0:Heap) (v:AV) (J1:Heap) (ρ:List (Nat×Nat)),
   B f (.yld yl::cs0) ((yl,.rnd (Rf 0))::J0) (R.fo v) ((yl,.rnd (R.rp Rf Re))::J1)/\AV.ren.go ρ (.yld yl::cs0) = .yld R.y::caps/\Heap.sub ρ R.K1 J0 /\
   gG ρ ((yl,.rnd (Rf 0))::J0) ((yl,.rnd (Rf 0))::J1) (R.fo v).av R.e1 ((R.y,.rnd (Rf 0))::R.K1) (R.y::aU ρ (keys J0))=true/\(!og (Ti J1) yl && !meet (aU ρ (keys J0)) (aU R.τ (keys (R.H 0))))=true /\
   Q (RK.out R.kind) R.e1 (mf R.τ R.He (mf ρ J1 (R.K1.put R.y (.tok 0 0))))
theorem QM.mono{T:Tbl}{B:FuncId->List AV->Heap->jU->Heap->Prop}{R:lD}{g:Operand}{ps:List Nat}{ra ra':List D->Heap->Option RK->Heap->Prop}{Q:Post}{env:Env}{K:Heap}(h:QM T B R g ps ra Q env K)
  (hr:∀xs H k H',ra xs H k H'->ra' xs H k H'):QM T B R g ps ra' Q env K:=
 ⟨h.weak,h.names,h.df,h.env0,h.heap0,λi hi=>⟨(h.round i hi).1,(h.round i hi).2.1,hr _ _ _ _ (h.round i hi).2.2⟩,λk he hl=>⟨(h.lst k he hl).1,hr _ _ _ _ (h.lst k he hl).2⟩,h.it⟩
@[irreducible] def lF (_:Nat) (p:Prop):Prop:=p
theorem lF.mk(i:Nat){p:Prop}(h:p):lF i p:=by grind[lF]
theorem lF.out{i:Nat}{p:Prop}(h:lF i p):p:=by grind[lF]
noncomputable def wc(An:zak)(c:Code):Nat->Post->Env->Heap->Prop:=
 Code.rec (motive:=λ_=>Nat->Post->Env->Heap->Prop)
  (λ_ Q env K=>Q .normal env K)
  (λ_ ops draw _ Q env K=>match draw with
   |false=>Kw T A B ops (Q .normal) (λenv v K=>Q (.panic v) env K) ops.toList [] env K
   |true=>Iw T A B ops (λtr env' K'=>chkP T ops env K tr/\Q .normal env' K') (λkp p K2 tr=>NP T ops env K tr kp/\jm T (z1b T kp 0 tr) kp 0 tr=true/\Q (.panic p) (sQ ops.toList env) (sS (z1b T kp 0 tr) K2)) ops.toList [] [] env K)
  (λ_ b iha ihb _ Q env K=>match An.cut b with
   |none=>iha 0 (Post.then (λenv K=>ihb 0 Q env K) Q) env K
   |some i=>ak i (∃L:Loop,iha 0 (Post.then (λenv' K'=>Cb K' λK'=>∃s,L.I s/\L.enter env K s (yx env' K')) Q) env K/\∀s,L.I s->L.enter env K s λenv K=>ihb 0 Q env K))
  (λc _ _ iha ihb _ Q env K=>match ev T env 0 c with
   | .data (.val (.bool t))=>BrI t (UC c true env λenv=>iha 0 Q env K) (UC c false env λenv=>ihb 0 Q env K)
   |_=>False)
  (λid _ ih _ Q env K=>ih id (Post.block id Q) env K)
  (λ_ ih lb Q env K=>ak lb (∃L:Loop,(∃s,L.I s/\L.enter env K s (yx env K)) /\
     ∀s,L.I s->L.enter env K s λenv0 K0=>ih 0 (Post.then (λenv' K'=>∃s',L.I s'/\L.μ s' < L.μ s/\L.enter env K s' (yx env' K')) Q) env0 K0))
  (λg ps a b iha ihb _ Q env K=>match ps.toList with
   | []=>False
   |p::r=>lF p ((pY a&&pY b)=true/\∃R:lD,QM T B R g (p::r) (λxs H k H'=>iha 0 (Oo λe K=>ihb 0 (Ot k H') e K) (iR (p::r) xs R.e0) H) Q env K))
  (λid _ Q env K=>Q (.exit id) env K)
  (λ_ _ _ _ _ _=>False)
  (λ_ _ _ _ _=>False)
  (λ_ _ _ _ _=>False)
  (λ_ Q env K=>Q .ret env K)
  (λ_ _ _ _ _=>False) c
end
theorem zbf{c:Bool}{p q:Prop}:BrI c p q=Br c p q:=by
 refine propext ⟨BrI.elim,λh=>?_⟩
 unfold Br at h
 grind[BrI.intro]
theorem Fe(m:Env)(G:List GE):∀k,flatG m G k=k (kQ [] m G):=by
 induction G with
 |nil=>intro k;rfl
 |cons e r ih=>
  intro k
  show flatG m r _=_
  grind[kQ,Ku,z1r]
theorem Yv(m:Env)(G:List GE):∀k,flatM m G k=k (geM [] m G):=by
 induction G with
 |nil=>intro k;rfl
 |cons e r ih=>
  intro k
  show flatM m r _=_
  grind[geM,Ku,z1r]
def Yw(env r:Env):List Nat->Env
 | []=>r
 |j::ks=>(j,env.get j)::Yw env r ks
theorem Yx(env r:Env)(ks:List Nat):∀k,keepE env r ks k=k (Yw env r ks):=by
 induction ks with
 |nil=>intro k;rfl
 |cons j ks ih=>
  intro k
  show keepE env r ks _=_
  grind[uP,Yw]
def Iy(ids:List Nat)(r:Heap):Heap->Heap
 | []=>r
 |(i,b)::K=>match og ids i with |true=>(i,b)::Iy ids r K |false=>Iy ids r K
theorem Yy(ids:List Nat)(r K:Heap):∀k,Yu ids r K k=k (Iy ids r K):=by
 induction K with
 |nil=>intro k;rfl
 |cons p K ih=>
  obtain⟨i,b⟩:=p
  intro k
  show(match og ids i with |true=>Yu ids r K (λr=>k ((i,b)::r)) |false=>Yu ids r K k)=_
  grind[Iy]
def Loop.mkE(L:Loop)(env:Env)(s:L.S):Env:=Yw env (L.ev s) L.keep
def Loop.mkH(L:Loop)(env:Env)(K:Heap)(s:L.S):Heap:=Iy (minus (reach (L.hv s++K) 1000 (UE (L.mkE env s)) []) (keys (L.hv s))) (L.hv s) K
theorem uQ(L:Loop)(env:Env)(K:Heap)(s:L.S)(k:Env->Heap->Prop):L.enter env K s k=k (L.mkE env s) (L.mkH env K s):=by
 unfold Loop.enter
 rw[Yx,Yy];rfl
theorem z1t{e:Env}{K Z:Heap}{a b:AV}:leV e K Z a b=AV.le e K Z a b:=by
 unfold leV AV.le
 cases b with
 |data d=>cases d<;>cases a<;>first |rfl |simp
 |_=>cases a<;>first |rfl |(rename_i x;cases x<;>rfl)
theorem z4p(e:Env)(K Z:Heap)(l:Env):leE e K Z l=Env.le e K Z l:=by
 induction l with
 |nil=>rfl
 |cons p r ih=>obtain⟨j,v⟩:=p;show((fc (e.get j) λa=>leV e K Z a v)/\leE e K Z r)=_;rw[ih,uP,z1t];rfl
theorem z4q(e:Env)(K Z:Heap)(ys:List AV):∀xs,leC e K Z ys xs=zC e K Z ys xs:=by
 induction ys with
 |nil=>intro xs;rfl
 |cons y ys ih=>
  intro xs
  cases xs with
  |nil=>rfl
  |cons x xs=>show((fc x λa=>leV e K Z a y)/\leC e K Z ys xs)=_;rw[ih,uP,z1t];rfl
theorem z4r(e:Env)(K Z:Heap)(b' b:Block):leB e K Z b' b=Block.le e K Z b' b:=by
 unfold leB Block.le
 grind[z4q]
theorem z4s(e:Env)(K Z:Heap)(l:Heap):leH e K Z l=Heap.le e K Z l:=by
 induction l with
 |nil=>rfl
 |cons p r ih=>
  obtain⟨j,v⟩:=p
  show((match K.get j with
   |some b'=>leB e K Z b' v
   |none=>v.isTok0=true/\bP j=false/\fU j e=false/\pI j K=false)/\leH e K Z r)=_
  rw[ih];simp[z4r];rfl
theorem oJ{env:Env}{K:Heap}{env':Env}{K':Heap}:yx env K env' K'=z1c env K env' K':=by
 unfold yx z1c;rw[z4p,z4s]
section
variable {T : Tbl} {A : FuncId → List D → nK → Prop} {B : FuncId → List AV → Heap → jU → Heap → Prop}
theorem z4t{op:BinOp}{x y v:AV}{K:Heap}{next:Next}(h:zeq op x y=some v)(hn:next v K):z1a op x y K next:=by
 unfold zeq at h
 grind[z1a]
theorem UF{env:Env}{K:Heap}{o:Oper}{v:AV}{next pan:Next}(h:z4n T env K o=some v)(hp:∀c x y,o.op ≠ .pick c x y)(hn:next v K):vOp T A B env K o next pan:=by
 unfold z4n at h
 unfold vOp
 split at h
 ·simp_all
 ·simp_all
 ·simp_all
 ·rename_i t x ho;unfold zbc at h
  grind[jZ,id,Option.some.injEq]
 ·unfold z1q at h
  unfold zl
  grind
 ·unfold UD at h
  unfold sK
  split at h<;>grind
 ·grind[z4t]
 ·grind[vUn,Option.some.injEq]
 ·grind
 ·rename_i c ho;simp only[ho]
  split at h
  ·split at h
   ·unfold zgh at h
    unfold z3l
    grind
   ·simp at h
  ·simp_all
  ·simp_all
  ·simp at h
 ·simp at h
end
end Go.Fw
namespace Go.Fw
variable [af] {m : Env} {d : Nat} {G : List GE}
def Ky(g:Bool)(v:AV):AV:=match g with |true=>v |false=>.data (.val undef)
def sem(m:Env):List GE->Env
 | []=>m
 |e::r=>(e.d,Ky e.g e.v)::sem m r
def chB(E:Env):List (Nat×Bool)->Bool
 | []=>true
 |(d,b)::r=>(match E.get d with | .data (.val (.bool c))=>c==b |_=>false)&&chB E r
def GOk(m:Env):List GE->Prop
 | []=>True
 |e::r=>e.g=chB (sem m r) e.ch/\G7 e.d e.ch=false/\Fa e.d r=true/\e.d≠gz/\GOk m r
theorem yP{v:AV}{E:Env}:∀{ch:List (Nat×Bool)},G7 d ch=false->chB ((d,v)::E) ch=chB E ch:=by
 intro ch
 induction ch with
 |nil=>intro _;rfl
 |cons p r ih=>
  intro h
  simp[G7]at h
  simp[chB,ih h.2,Env.get_cons]
  rw[if_neg (λx=>by simp_all)]
theorem z4u{E:Env}{b:Bool}:∀{al:List (Nat×Bool)},z1r d b al=true->chB E al=true->(match E.get d with | .data (.val (.bool c))=>c==b |_=>false)=true:=by
 intro al
 induction al with
 |nil=>grind[z1r]
 |cons p r ih=>
  intro h h2
  simp[z1r]at h
  simp[chB]at h2
  grind[Nat.eq_of_beq_eq_true]
theorem z4v{E:Env}{al:List (Nat×Bool)}:∀{ch:List (Nat×Bool)},Ku ch al=true->chB E al=true->chB E ch=true:=by
 intro ch
 induction ch with
 |nil=>intro _ _;rfl
 |cons p r ih=>
  intro h h2
  simp[Ku]at h
  simp[chB]
  grind[z4u]
theorem Iz:∀{G:List GE},Fa d G=true->∀e∈G,G7 d e.ch=false:=by
 intro G
 induction G with
 |nil=>simp
 |cons x r ih=>
  intro h e he
  simp[Fa]at h
  grind
theorem geAt_sem'{al:List (Nat×Bool)}:∀{G:List GE},GOk m G->(∀e∈G,Ku e.ch al=true->chB (sem m G) e.ch=true)->∀j,(kQ al m G).get j = .top\/(kQ al m G).get j=(sem m G).get j:=by
 intro G
 induction G with
 |nil=>intro _ _ j;right;rfl
 |cons e r ih=>
  intro hG H j
  obtain⟨h1,h2,h3,h4,h5⟩:=hG
  have Hr:∀e'∈r,Ku e'.ch al=true->chB (sem m r) e'.ch=true:=λe' he' hs=>by
   grind[sem,yP,Iz]
  grind[kQ,sem,yP,Env.get_cons,Ky]
theorem jW{al:List (Nat×Bool)}(h:GOk m G)(hal:chB (sem m G) al=true)(j:Nat):(kQ al m G).get j = .top\/(kQ al m G).get j=(sem m G).get j:=
 geAt_sem' h (λ_ _ hs=>z4v hs hal) j
theorem nC{al:List (Nat×Bool)}:∀{G:List GE},GOk m G->(kQ al m G).get gz=(sem m G).get gz:=by
 intro G
 induction G with
 |nil=>intro _;rfl
 |cons e r ih=>
  intro h
  simp[kQ,sem]
  split<;>rw[Env.get_cons,Env.get_cons,if_neg h.2.2.2.1,if_neg h.2.2.2.1,ih h.2.2.2.2]
theorem z4w{al:List (Nat×Bool)}{p:Nat×Bool}{j:Nat}{x:AV}(hx:x ≠ .top):∀{G:List GE},(kQ al m G).get j=x->(kQ (p::al) m G).get j=x:=by
 have sub:∀{ch:List (Nat×Bool)},Ku ch al=true->Ku ch (p::al)=true:=by
  intro ch
  induction ch with
  |nil=>intro _;rfl
  |cons q r ih=>
   intro h
   simp[Ku]at h ⊢
   exact⟨by simp[z1r,h.1],ih h.2⟩
 intro G
 induction G with
 |nil=>exact id
 |cons e r ih=>
  intro h
  simp[kQ]at h ⊢
  split at h
  ·rename_i hs
   rw[sub hs]
   simp[Env.get_cons]at h ⊢
   grind
  ·simp[Env.get_cons]at h
   split at h<;>rename_i hd
   ·simp_all
   ·split<;>(simp[Env.get_cons];simp_all)
theorem Ov{e:GE}:∀{G:List GE},Ls d G=some e->GOk m G->(sem m G).get d=Ky e.g e.v/\chB (sem m G) e.ch=e.g/\e∈G:=by
 intro G
 induction G with
 |nil=>grind[Ls]
 |cons x r ih=>
  intro h hG
  obtain⟨h1,h2,h3,h4,h5⟩:=hG
  simp[Ls]at h
  split at h
  ·rename_i hd
   simp at h;subst h
   refine⟨?_,?_,by simp⟩
   ·simp[sem,Env.get_cons,Nat.eq_of_beq_eq_true hd,if_true]
   grind[sem,yP]
  ·have hd:x.d≠d:=λe=>by simp_all
   obtain⟨q1,q2,q3⟩:=ih h h5
   refine⟨?_,?_,by simp[q3]⟩
   ·simp[sem,Env.get_cons,if_neg hd,q1]
   grind[sem,yP,Iz]
theorem Ox:∀{G:List GE},Ls d G=none->(sem m G).get d=m.get d:=by
 intro G
 induction G with
 |nil=>intro _;rfl
 |cons x r ih=>
  intro h
  simp[Ls]at h
  split at h
  ·simp at h
  ·have hd:x.d≠d:=λe=>by simp_all
   simp[sem,Env.get_cons,if_neg hd,ih h]
theorem St.view[Lo]{N:aT}{M:Mem}{n:Nat}{env env':Env}{K:Heap}{a:Act}{w:World}(s:St N M n env K a w)(h:∀j,env'.get j = .top\/env'.get j=env.get j)(hd:env'.get gz=env.get gz):St N M n env' K a w:=
 ⟨s.size,s.big,by rw[hd];exact s.defers,λj=>by
  rcases h j with h |h<;>rw[h]
  ·exact .top _
  ·exact s.env j,s.heap,s.mem⟩
theorem zbg{c w:Bool}:(c==w)=wS c w:=by cases c<;>cases w<;>rfl
theorem QN[Lo]{ops:Array Oper}{G:List GE}{m:Env}{o:Oper}{ch:List (Nat×Bool)}{g:Bool}{N:aT}{M:Mem}{n:Nat}{K:Heap}{a:Act}{w:World}
  (h:guardOf ops G m o=some (ch,g)) (hG:GOk m G) (s:St N M n (sem m G) K a w):chB (sem m G) ch=g/\(Region.wanted o (yielded ops a.tmps)=g):=by
 unfold guardOf at h
 split at h
 ·rename_i hg
  obtain⟨rfl,rfl⟩:=h
  exact⟨rfl,by simp[Region.wanted,hg]⟩
 ·rename_i j want hg
  split at h<;>try(simp at h)
  rename_i d hd
  split at h
  ·rename_i e he
   obtain⟨q1,q2,q3⟩:=Ov he hG
   split at h<;>try(simp at h)
   rename_i c hc
   have key:chB (sem m G) ((d,want)::e.ch)=(e.g&&wS c want)/\Region.wanted o (yielded ops a.tmps)=(e.g&&wS c want):=by
    cases hb:e.g with
    |true=>
     rw[hb,hc]at q1;simp[Ky]at q1
     rw[hb]at q2
     refine⟨?_,?_⟩<;>try(simp only[chB,q1,q2,Bool.and_true,Bool.true_and,zbg];done)
     have hy:=qc s hd q1
     simp[Region.wanted,hg,hy]
     cases c<;>cases want<;>rfl
    |false=>
     rw[hb]at q1;rw[hb]at q2
     refine⟨?_,?_⟩
     ·simp[chB,q2]
     ·have hy:=uH s hd q1
      simp only[Region.wanted,hg,hy]
      rfl
   split at h
   ·rename_i hch
    rw[hch]at q2 key
    have:e.g=true:=q2.symm
    simp_all
   simp_all
  ·rename_i he
   have q1:=Ox (m:=m) he
   split at h<;>try(simp at h)
   rename_i c hc
   obtain⟨rfl,rfl⟩:=h
   rw[hc]at q1
   refine⟨?_,?_⟩
   ·simp only[chB,q1,Bool.and_true,zbg]
   ·have hy:=qc s hd q1
    simp only[Region.wanted,hg,hy]
    cases c<;>cases want<;>rfl
end Go.Fw
namespace Go.Fw
variable [af]
section
variable {P : Program} {T : Tbl} (hT : iZ P T)
include hT
theorem yQ[Lo]{o:Oper}{E:Env}{K:Heap}{next pan:Next}{N:aT}{M0 M:Mem}{w0 w:World}{n:Nat}{a:Act}{R:Act->World->Prop}{Q':Exit->Act->World->Prop}
  (h:vOp T (PCall P) (LCall P) E K o next pan) (s:St N M n E K a w) (e:Evo M0 w0 M w) (hd:∀d,o.dst=some d->d<n)
  (hN:∀r val M' K' w',next r K'->St N M' n (E.set o.dst r) K' (a.put o.dst val) w'->Evo M0 w0 M' w'->R (a.put o.dst val) w')
  (hP:∀r K' M' w' v,pan r K'->St N M' n E K' a w'->Evo M0 w0 M' w'->aH N M' w' r v->Q' (.panic [{ v,recovered:=false }]) a w'):Oper.wq P o a w R Q':=by
 obtain⟨pn,r,W,nw,Δ,hn,ok⟩:=H5 hT h
 refine ok.eff N M a w s.mem (λj _=>s.env j) (λid _=>s.heap id) _ Q' λv M' w' hs htr hr hδ=>?_
 have e':=e.step hs htr λd hd=>(ok.fresh d hd).1
 cases pn with
 |false=>exact hN r v M' _ w' hn ((s.turn hs htr ok.fresh hδ ok.dom).put hd hr) e'
 |true=>exact hP r _ M' w' v hn (s.turn hs htr ok.fresh hδ ok.dom) e' hr
theorem Af[Lo]{o:Oper}{E S:Env}{K:Heap}{next pan:Next}{N:aT}{M0 M:Mem}{w0 w:World}{n:Nat}{a:Act}{R:Act->World->Prop}{Q':Exit->Act->World->Prop}
  (h:vOp T (PCall P) (LCall P) E K o next pan) (hp:dZ o=true) (hK:∀r K',next r K'->K'=K) (sE:St N M n E K a w) (s:St N M n S K a w) (e:Evo M0 w0 M w) (hd:∀d,o.dst=some d->d<n)
  (hN:∀r val M' w',next r K->St N M' n (S.set o.dst r) K (a.put o.dst val) w'->Evo M0 w0 M' w'->R (a.put o.dst val) w')
  (hP:∀r K' M' w' v,pan r K'->St N M' n E K' a w'->Evo M0 w0 M' w'->aH N M' w' r v->Q' (.panic [{ v,recovered:=false }]) a w'):Oper.wq P o a w R Q':=by
 obtain⟨pn,r,W,nw,Δ,hn,ok⟩:=H5 hT h
 refine ok.eff N M a w s.mem (λj _=>sE.env j) (λid _=>s.heap id) _ Q' λv M' w' hs htr hr hδ=>?_
 have e':=e.step hs htr λd hd=>(ok.fresh d hd).1
 cases pn with
 |false=>
  have hKK:=hK _ _ hn
  rw[hKK]at hn
  have hnw:∀d∈nw,False:=λd hdn=>by
   have:=ok.nids d hdn
   grind[fV,dZ,jv]
  have ht:=s.turn hs htr (λd hd=>(hnw d hd).elim) hδ ok.dom
  rw[hKK]at ht
  exact hN r v M' w' hn (ht.put hd hr) e'
 |true=>exact hP r _ M' w' v hn (sE.turn hs htr ok.fresh hδ ok.dom) e' hr
omit hT in
theorem zbh{P:Program}{w:World}{t e:TypeId}(h:P.underlying t=some (.slice e))(a:Option Addr)(n c:Nat):(Op.equal t (.slice a n c) (.slice none 0 0)).run P w = .ok a.isNone w:=by
 have:∀k,(Op.equalIn (k+1) t (.slice a n c) (.slice none 0 0)).run P w = .ok a.isNone w:=λk=>by
  cases a<;>(simp only[Op.equalIn,Sem.run_bind,run_underlying h,Result.andThen_ok];rfl)
 exact this 9999
theorem Yz[Lo]{o:Oper}{m:Env}{op:BinOp}{kn:Bool}{k:Nat}{K:Heap}{N:aT}{M:Mem}{w:World}{n:Nat}{a:Act}{R:Act->World->Prop}{Q':Exit->Act->World->Prop}
  (h:Yt T m o=some (op,kn,k)) (s:St N M n m K a w) (hN:∀b:Bool,(b=true->k=0)->(kn=true->b=true)->R (a.put o.dst (.bool (eqB op b))) w):Oper.wq P o a w R Q':=by
 unfold Yt at h
 split at h<;>try(simp at h;done)
 rename_i op' t x y r ho
 have key:(op' = .eql\/op' = .neq)/\(∃e,(T.at t).ty = .slice e)/\(∃z,ev T m t y = .nilsl z)/\(match ev T m t x with
  | .nilsl _=>some (op',true,0)
  | .data (.sl _ es)=>some (op',false,es.length)
  | .gs _ _ es=>some (op',false,es.length)
  | .own _ _ _ _ _=>some (op',false,0)
  |_=>none)=some (op,kn,k):=by
  grind
 obtain⟨hop,⟨e,hty⟩,⟨z,hy⟩,h⟩:=key
 have hyr:=dV s.mem (T:=T) (env:=m) (a:=a) t y λj _=>s.env j
 have hxr:=dV s.mem (T:=T) (env:=m) (a:=a) t x λj _=>s.env j
 rw[hy]at hyr
 generalize hvy:a.eval y=vy at hyr
 cases hyr
 have run:∀(av:Option Addr) (len cap:Nat),a.eval x = .slice av len cap->(av.isNone=true->k=0)->(kn=true->av.isNone=true)->op'=op->Oper.wq P o a w R Q':=by
  intro av len cap hvx h1 h2 h3
  refine .inl ?_
  have hz:=uG (P:=P) (w:=w) hop (t:=t) (xo:=x) (yo:=y) (v:=.slice av len cap) (u:=.slice none 0 0) (jO hop (by simp) (by simp)) (by simp) (b:=av.isNone) (zbh (aS hT hty) av len cap)
  have hrun:(execOp a.eval o).run P w = .ok (.value (.bool (eqB op' av.isNone))) w:=by
   rw[wC ho,hvx,hvy,Sem.run_bind,hz];rfl
  grind[Oper.wp,Oper.upon_value]
 split at h
 ·rename_i hx
  rw[hx]at hxr
  generalize hvx:a.eval x=vx at hxr
  cases hxr
  simp_all
 ·rename_i hx
  rw[hx]at hxr
  generalize hvx:a.eval x=vx at hxr
  cases hxr with
  |data _ _ hd=>
   cases hd with
   |sl0 _ a' cap _=>simp_all
   |sl _ _ b off cap n' g'=>simp_all
 ·rename_i hx
  rw[hx]at hxr
  generalize hvx:a.eval x=vx at hxr
  cases hxr with
  |gs _ _ _ av n' cap hd=>
   cases hd with
   |sl0 _ _ _ _=>simp_all
   |sl _ _ b off cap n' g'=>simp_all
 ·rename_i hx
  rw[hx]at hxr
  generalize hvx:a.eval x=vx at hxr
  cases hxr
  simp_all
 ·simp at h
omit hT in
theorem QO[Lo]{o:Oper}{m:Env}{cs:List AV}{K:Heap}{N:aT}{M0 M:Mem}{w0 w:World}{n:Nat}{a:Act}{R:Act->World->Prop}{Q':Exit->Act->World->Prop}
  (h:ww m o=some cs) (s:St N M n m K a w) (e:Evo M0 w0 M w) (hd:∀d,o.dst=some d->d<n)
  (hN:∀a',St N M n (Env.set ((gz,.dfr cs)::m) o.dst (.data (.val undef))) K a' w->R a' w):Oper.wq P o a w R Q':=by
 unfold ww at h
 split at h
 ·rename_i c ho
  split at h
  ·rename_i j hcal hargs
   split at h
   ·rename_i f caps hj
    simp only[Option.some.injEq]at h
    have hargs:c.args = #[]:=by simpa using hargs
    have hx:=s.env j
    rw[hj]at hx
    generalize hvj:a.tmps.getD j undef=vj at hx
    cases hx with
    |fn _ _ vs hl hh=>
     have hrun:(execOp a.eval o).run P w = .ok (.defer { target:=.fn (.func f) vs,args:=#[] }) w:=by
      have:execOp a.eval o=(do pure (.defer (<-resolve a.eval c o.type))):=by cases o;simp only at ho;subst ho;rfl
      rw[this]
      simp[resolve,hcal,Act.eval,hvj,Deferred.ofValue,hargs]
     refine .inl ?_
     simp only[Oper.wp,hrun,Oper.upon_defer]
     have s2:St N M n ((gz,.dfr cs)::m) K { a with defers:={ target:=.fn (.func f) vs,args:=#[] }::a.defers } w:=by
      refine⟨s.size,s.big,?_,λj=>?_,s.heap,s.mem⟩
      ·rw[Env.get_cons,if_pos rfl,<-h]
       exact s.defers.push ⟨f,caps,vs,rfl,rfl,hl,hh⟩ rfl
      ·rw[Env.get_cons];split
       ·exact .dfr _ _
       ·exact s.env j
     exact hN _ (s2.put hd lu)
   ·simp at h
  ·simp at h
 ·simp at h
end
theorem Lt{d:Option Nat}{ch:List (Nat×Bool)}{g:Bool}{v:AV}{G:List GE}{m:Env}{next:List GE->Env->Prop}(h:Kv d ch g v G m next)(hG:GOk m G)(hg:chB (sem m G) ch=g)(hd:∀e,d=some e->e≠gz) :
  ∃G' m',next G' m'/\GOk m' G'/\sem m' G'=Env.set (sem m G) d (Ky g v):=by
 cases d with
 |none=>
  simp[Kv]at h
  split at h
  ·exact⟨G,m,h,hG,rfl⟩
  ·exact h.elim
 |some d=>
  have key:(match !G7 d ch&&Fa d G with |true=>next (⟨d,ch,g,v⟩::G) m |false=>False)->∃G' m',next G' m'/\GOk m' G'/\sem m' G'=Env.set (sem m G) (some d) (Ky g v):=by
   intro h
   cases hf:(!G7 d ch&&Fa d G)with
   |true=>
    rw[hf]at h
    simp at hf
    exact⟨_,m,h,⟨hg.symm,hf.1,hf.2,hd d rfl,hG⟩,rfl⟩
   |false=>simp_all
  cases G with
  |nil=>
   cases ch with
   |nil=>
    have:g=true:=hg.symm
    subst this
    exact⟨[],(d,v)::m,h,trivial,rfl⟩
   |cons p q=>exact key h
  |cons p q=>exact key h
theorem Oy{c:Bool}{x y v:AV}(h:E8 c x y=some v):(bif c then x else y)=v:=by
 unfold E8 at h
 grind
abbrev zes(T:Tbl)(ch:List (Nat×Bool))(m:Env)(G:List GE)(K:Heap)(o:Oper):Option AV:=match o.op with
 | .pick c x y=>match ev T (kQ ch m G) o.type c with
  | .data (.val (.bool cv))=>E8 cv (ev T (kQ (Om c ch true) m G) o.type x) (ev T (kQ (Om c ch false) m G) o.type y)
  |_=>none
 |_=>z4n T (kQ ch m G) K o
theorem z4x{T:Tbl}{A:FuncId->List D->nK->Prop}{B:FuncId->List AV->Heap->jU->Heap->Prop}{ch:List (Nat×Bool)}{m:Env}{G:List GE}{K:Heap}{o:Oper}{v:AV}
  (h:zes T ch m G K o=some v) (hG:GOk m G) (hch:chB (sem m G) ch=true) :
  ∃E,(∀j,E.get j = .top\/E.get j=(sem m G).get j)/\E.get gz=(sem m G).get gz/\vOp T A B E K o (λv' K'=>v'=v/\K'=K) (λ_ _=>False)/\dZ o=true:=by
 unfold zes at h
 split at h
 ·rename_i c x y ho
  split at h<;>try(simp at h)
  rename_i cv hc
  have hv:=Oy h
  have hcE:∀al',(∀t,c = .tmp t->∃b,al'=(t,b)::ch)->((∀t,c ≠ .tmp t)->al'=ch)->ev T (kQ al' m G) o.type c = .data (.val (.bool cv)):=by
   intro al' h1 h2
   cases c with
   |tmp t=>obtain⟨b,rfl⟩:=h1 t rfl;exact z4w (by simp) hc
   |const z=>exact hc
   |func f=>exact hc
   |global f=>exact hc
  have key:chB (sem m G) (Om c ch cv)=true:=by
   cases c with
   |tmp t=>
    have hc:(kQ ch m G).get t = .data (.val (.bool cv)):=hc
    rcases jW hG hch t with h3 |h3
    ·simp_all
    ·rw[hc]at h3
     simp[Om,chB,<-h3,hch]
   |_=>exact hch
  refine⟨kQ (Om c ch cv) m G,jW hG key,nC hG,?_,by grind[dZ]⟩
  have hcv:=hcE (Om c ch cv) (λt e=>by subst e;exact⟨_,rfl⟩) (λe=>by cases c<;>first |rfl |simp_all)
  unfold vOp
  simp only[ho,hcv]
  cases cv<;>exact⟨hv,trivial⟩
 ·rename_i hnp
  refine⟨kQ ch m G,jW hG hch,nC hG,UF h (λc x y e=>hnp c x y e) ⟨rfl,rfl⟩,?_⟩
  grind[z4n,dZ]
section
variable {T : Tbl} {A : FuncId → List D → nK → Prop} {B : FuncId → List AV → Heap → jU → Heap → Prop}
theorem YA{ops:Array Oper}{Q:Env->Heap->Prop}{pan:Env->Next}(G:List GE)(m:Env)(K:Heap):Kw T A B ops Q pan [] G m K=Q (kQ [] m G) K:=Fe m G _
theorem UG{ops:Array Oper}{Q:Env->Heap->Prop}{pan:Env->Next}(o:Oper)(rest:List Oper)(G:List GE)(m:Env)(K:Heap):Kw T A B ops Q pan (o::rest) G m K=(match guardOf ops G m o with
   |none=>False
   |some (ch,g)=>match zes T ch m G K o with
    |some v=>fc v λv=>Kv o.dst ch g v G m λG m=>Kw T A B ops Q pan rest G m K
    |none=>match ch,G with
     | [],[]=>match ww m o with
      |some cs=>Kw T A B ops Q pan rest [] (Env.set ((gz,.dfr cs)::m) o.dst (.data (.val undef))) K
      |none=>match Yt T m o with
       |some (op,kn,n)=>(match kn with
        |true=>E5 o.dst (lh op true) m λm=>Kw T A B ops Q pan rest [] m K
        |false=>XR n (E5 o.dst (lh op true) m λm=>Kw T A B ops Q pan rest [] m K) (E5 o.dst (lh op false) m λm=>Kw T A B ops Q pan rest [] m K))
       |none=>vOp T A B m K o (λv K=>fc v λv=>fcK o K λK=>E5 o.dst v m λm=>Kw T A B ops Q pan rest [] m K) (pan m)
     | [],G=>match dZ o with
      |true=>vOp T A B (kQ [] m G) K o (λv K'=>K'=K/\fc v λv=>Kv o.dst [] true v G m λG m=>Kw T A B ops Q pan rest G m K) (pan (kQ [] m G))
      |false=>vOp T A B (kQ [] m G) K o (λv K=>fc v λv=>fcK o K λK=>flatG m G λm=>E5 o.dst v m λm=>Kw T A B ops Q pan rest [] m K) (pan (kQ [] m G))
     |ch,G=>match dZ o with
      |true=>(dZ o=true/\∃v,(g=true->vOp T A B (kQ ch m G) K o (λv' K'=>v'=v/\K'=K) (λ_ _=>False))/\Kv o.dst ch g v G m λG m=>Kw T A B ops Q pan rest G m K)\/mi g (vOp T A B (kQ ch m G) K o (λv K=>fc v λv=>fcK o K λK=>geK ch m G λm=>E5 o.dst v m λm=>Kw T A B ops Q pan rest [] m K) (pan (kQ ch m G)))
      |false=>mi g (vOp T A B (kQ ch m G) K o (λv K=>fc v λv=>fcK o K λK=>geK ch m G λm=>E5 o.dst v m λm=>Kw T A B ops Q pan rest [] m K) (pan (kQ ch m G)))):=rfl
end
section
variable {P : Program} {T : Tbl} (hT : iZ P T)
include hT
theorem z4y[Lo]{ρ:Option Nat}{ops:Array Oper}{N:aT}{n:Nat}{Q:Env->Heap->Prop}{pan:Env->Next}{Q':Exit->Act->World->Prop}{M0:Mem}{w0:World}
  (hQ:∀env K M a w,Q env K->St N M n env K a w->Evo M0 w0 M w->Q' .normal a w) (hP:∀x env K M a w,pan env x K->St N M n env K a w->Evo M0 w0 M w->∀v,aH N M w x v->Q' (.panic [{ v,recovered:=false }]) a w) :
  ∀(l:List Oper) (G:List GE) (m:Env) (K:Heap) (M:Mem) (a:Act) (w:World),(∀o∈l,∀d,o.dst=some d->d<n)->(ρ≠none->∀o∈l,∀c,o.op ≠ .defer c)->Kw T (PCall P) (LCall P) ops Q pan l G m K->GOk m G->St N M n (sem m G) K a w->Evo M0 w0 M w->wpL ρ P ops Q' l a w:=by
 intro l
 induction l with
 |nil=>
  intro G m K M a w _ _ h hG s e
  rw[YA]at h
  exact hQ _ K M a w h (s.view (jW hG rfl) (nC hG)) e
 |cons o rest ih=>
  intro G m K M a w hdst hnd h hG s e
  have hd:∀d,o.dst=some d->d<n:=hdst o (by simp)
  have hdd:∀d,o.dst=some d->d≠gz:=λd h=>Nat.ne_of_lt (Nat.lt_of_lt_of_le (hd d h) s.big)
  have hrest:∀o∈rest,∀d,o.dst=some d->d<n:=λo ho=>hdst o (by simp[ho])
  have hnrest:ρ≠none->∀o∈rest,∀c,o.op ≠ .defer c:=λhr o ho=>hnd hr o (by simp[ho])
  have hno:ρ≠none->∀c,o.op ≠ .defer c:=λhr=>hnd hr o (by simp)
  rw[UG]at h
  unfold wpL
  split at h<;>try exact h.elim
  rename_i ch g hgo
  obtain⟨hch,hW⟩:=QN hgo hG s
  rw[hW]
  split at h
  ·rename_i v hv
   rw[uP]at h
   obtain⟨G',m',h',hG',hsem⟩:=Lt h hG hch hdd
   cases g with
   |false=>
    rw[if_neg (by simp)]
    refine ih G' m' K M _ w hrest hnrest h' hG' ?_ e
    rw[hsem]
    exact s.put hd lu
   |true=>
    rw[if_pos rfl]
    obtain⟨E,hE,hEd,hvo,hpk⟩:=z4x (A:=PCall P) (B:=LCall P) hv hG hch
    refine⟨hno,?_⟩;refine Af hT hvo hpk (λr K' q=>q.2) (s.view hE hEd) s e hd (λr val M' w' q s' e'=>?_) (λr K' M' w' v q=>q.elim)
    refine ih G' m' K M' _ w' hrest hnrest h' hG' ?_ e'
    rw[hsem]
    obtain⟨q,_⟩:=q
    subst q
    exact s'
  ·split at h
   ·have hg:true=g:=hch
    subst hg
    rw[if_pos rfl]
    split at h
    ·rename_i cs hcs
     refine⟨hno,?_⟩;exact QO hcs s e hd λa' s'=>ih [] _ K M a' w hrest hnrest h trivial s' e
    ·split at h
     ·rename_i op kn k hnil
      refine⟨hno,Yz hT hnil s λb hb1 hb2=>?_⟩
      have hst:St N M n (m.set o.dst (lh op b)) K (a.put o.dst (.bool (eqB op b))) w:=s.put hd jy
      cases b with
      |true=>
       have h:Kw T (PCall P) (LCall P) ops Q pan rest [] (m.set o.dst (lh op true)) K:=by
        cases kn with
        |true=>grind[oI]
        |false=>have:=h.out.1 (hb1 rfl);grind[oI]
       exact ih [] _ K M _ w hrest hnrest h trivial hst e
      |false=>
       cases kn with
       |true=>simp_all
       |false=>
        have h:=h.out.2
        rw[oI]at h
        exact ih [] _ K M _ w hrest hnrest h trivial hst e
     ·refine⟨hno,?_⟩;refine yQ hT h s e hd (λr val M' K' w' q s' e'=>?_) (λr K' M' w' v q s' e' hv=>hP r _ K' M' a w' q s' e' v hv)
      rw[uP,DK,oI]at q
      exact ih [] _ K' M' _ w' hrest hnrest q trivial s' e'
   ·have hg:true=g:=hch
    subst hg
    rw[if_pos rfl]
    have sE:=s.view (jW hG (al:=[]) rfl) (nC hG)
    split at h
    ·rename_i hpk
     refine⟨hno,?_⟩;refine Af hT h hpk (λr K' q=>q.1) sE s e hd (λr val M' w' q s' e'=>?_) (λr K' M' w' v q s' e' hv=>hP r _ K' M' a w' q s' e' v hv)
     obtain⟨_,q⟩:=q
     rw[uP]at q
     obtain⟨G',m',h',hG',hsem⟩:=Lt q hG rfl hdd
     refine ih G' m' K M' _ w' hrest hnrest h' hG' ?_ e'
     rw[hsem];exact s'
    ·refine⟨hno,?_⟩;refine yQ hT h sE e hd (λr val M' K' w' q s' e'=>?_) (λr K' M' w' v q s' e' hv=>hP r _ K' M' a w' q s' e' v hv)
     rw[uP,DK,Fe,oI]at q
     exact ih [] _ K' M' _ w' hrest hnrest q trivial s' e'
   ·split at h
    ·rcases h with⟨hpk,v,hvo,h⟩ |h
     ·obtain⟨G',m',h',hG',hsem⟩:=Lt h hG hch hdd
      cases g with
      |false=>
       refine ih G' m' K M _ w hrest hnrest h' hG' ?_ e
       rw[hsem]
       exact s.put hd lu
      |true=>
       rw[if_pos rfl]
       refine⟨hno,?_⟩;refine Af hT (hvo rfl) hpk (λr K' q=>q.2) (s.view (jW hG hch) (nC hG)) s e hd (λr val M' w' q s' e'=>?_) (λr K' M' w' v q=>q.elim)
       refine ih G' m' K M' _ w' hrest hnrest h' hG' ?_ e'
       rw[hsem]
       obtain⟨q,_⟩:=q
       subst q
       exact s'
     ·obtain⟨hg,h2⟩:=h.out
      subst hg
      rw[if_pos rfl]
      have sE:=s.view (jW hG hch) (nC hG)
      refine⟨hno,?_⟩;refine yQ hT h2 sE e hd (λr val M' K' w' q s' e'=>?_) (λr K' M' w' v q s' e' hv=>hP r _ K' M' a w' q s' e' v hv)
      rw[uP,DK,z1s,oI]at q
      exact ih [] _ K' M' _ w' hrest hnrest q trivial s' e'
    ·obtain⟨hg,h2⟩:=h.out
     subst hg
     rw[if_pos rfl]
     have sE:=s.view (jW hG hch) (nC hG)
     refine⟨hno,?_⟩;refine yQ hT h2 sE e hd (λr val M' K' w' q s' e'=>?_) (λr K' M' w' v q s' e' hv=>hP r _ K' M' a w' q s' e' v hv)
     rw[uP,DK,z1s,oI]at q
     exact ih [] _ K' M' _ w' hrest hnrest q trivial s' e'
end
end Go.Fw
namespace Go.Fw
variable [af] {env env' : Env} {B : FuncId → List AV → Heap → jU → Heap → Prop} {K : Heap}
theorem Ff{T:Tbl}{t:TypeId}{x:Operand}(h:∀j,x = .tmp j->env'.get j=env.get j):ev T env' t x=ev T env t x:=by
 cases x with
 |tmp j=>exact h j rfl
 |_=>rfl
theorem eG{id:Nat}{p:Prop}(hm:∀id,fU id env'=true->fU id env=true)(h:fresh id env K p):fresh id env' K p:=by
 grind[fresh]
theorem Ag:∀{l:List Nat},(∀j∈l,env'.get j=env.get j)->jh env' l=jh env l:=by
 intro l
 induction l with
 |nil=>intro _;rfl
 |cons j r ih=>grind[jh]
theorem DL{j:Nat}:∀{l:List Operand},j∈tmpsOf l->Operand.tmp j∈l:=by
 intro l
 induction l with
 |nil=>grind[tmpsOf]
 |cons x r ih=>
  intro h
  cases x with
  |tmp k=>simp[tmpsOf]at h;grind
  |_=>grind[tmpsOf]
theorem Cc(hm:∀id,fU id env'=true->fU id env=true):∀{l:List Nat},kR env K l=true->kR env' K l=true:=by
 intro l
 induction l with
 |nil=>intro _;rfl
 |cons j r ih=>
  intro h
  simp[kR]at h ⊢
  grind
theorem Ah{B:FuncId->List AV->Heap->jU->Heap->Prop}{L:List Nat}{f:FuncId}{as:List AV}{K:Heap}{next pan:Next}(hm:∀id,fU id env'=true->fU id env=true)
  (h:EK B L f as env K next pan):EK B L f as env' K next pan:=by
 obtain⟨as0,K0,out,K1,ρ,h1,h2,h3,h4,h5⟩:=h
 refine⟨as0,K0,out,K1,ρ,h1,h2,h3,?_,h5⟩
 simp[gG]at h4 ⊢
 grind[Cc]
theorem tC{A:FuncId->List D->nK->Prop}{B:FuncId->List AV->Heap->jU->Heap->Prop}{L:List Nat}{f:FuncId}{as:List AV}{K:Heap}{next pan:Next}(hm:∀id,fU id env'=true->fU id env=true)
  (h:zx A B L f as env K next pan):zx A B L f as env' K next pan:=by
 unfold zx at h ⊢
 split at h<;>grind[Ah]
section
variable {T : Tbl} {A : FuncId → List D → nK → Prop} {B : FuncId → List AV → Heap → jU → Heap → Prop}
theorem rW{T:Tbl}{env env':Env}{K:Heap}{next:Next}{e:TypeId}{id:Nat}{x:AV}{sz:Nat}{ys:List (List D)}(hm:∀id,fU id env'=true->fU id env=true)(h:jT T e id env x sz ys K next):jT T e id env' x sz ys K next:=by
 unfold jT at h ⊢;repeat' split at h<;>grind[iV,eG]
theorem Fg{T:Tbl}{env env':Env}{K:Heap}{next:Next}{t t2:TypeId}{id:Nat}{x y:AV}(hm:∀id,fU id env'=true->fU id env=true)(h:nY T t t2 id env x y K next):nY T t t2 id env' x y K next:=by
 unfold nY at h ⊢;repeat' split at h
 all_goals first |exact h.elim |exact rW hm h |exact⟨h.1,rW hm h.2⟩
theorem nR{env env':Env}{K:Heap}{o:Oper}{next pan:Next}(hg:∀j,Operand.tmp j∈o.op.operands->env'.get j=env.get j)(hm:∀id,fU id env'=true->fU id env=true)
  (h:vOp T A B env K o next pan):vOp T A B env' K o next pan:=by
 have E:∀t x,x∈o.op.operands->ev T env' t x=ev T env t x:=λt x hx=>Ff λj e=>hg j (e ▸ hx)
 have R:fO env' K o=fO env K o:=by
  have:jh env' (tmpsOf o.op.operands.toList)=jh env (tmpsOf o.op.operands.toList):=Ag λj hj=>hg j (by simpa using DL hj)
  simp only[fO,this]
 unfold vOp at h ⊢
 split at h
 ·rename_i x ho;simp only[ho,E _ x (by rw[ho];simp[Op.operands])];exact h
 ·rename_i x ho;simp only[ho,E _ x (by rw[ho];simp[Op.operands])];exact h
 ·rename_i c x y ho
  simp only[ho,E _ c (by rw[ho];simp[Op.operands]),E _ x (by rw[ho];simp[Op.operands]),E _ y (by rw[ho];simp[Op.operands])];exact h
 ·rename_i t ho
  try simp only[ho]
  split at h
  ·rename_i d hd
   (try simp only[hd])
   split at h
   ·rename_i z0 z hk hz;(try simp only[hk,hz]);exact eG hm h
   ·rename_i hk hz
    split at h
    ·rename_i hty;(try simp only[hk,hz,hty]);exact eG hm h
    ·exact h.elim
   ·exact h.elim
  ·exact h.elim
 ·rename_i t x ho
  simp only[ho,E _ x (by rw[ho];simp[Op.operands])]
  split at h
  ·rename_i d hd
   try simp only[hd]
   split at h
   ·rename_i hk;(try simp only[hk]);exact eG hm h
   ·exact h.elim
  ·exact h.elim
 ·rename_i t ps ho
  have:(ps.toList.map λp=>(p.1,ev T env' 0 p.2))=(ps.toList.map λp=>(p.1,ev T env 0 p.2)):=List.map_congr_left λp hp=>by
   rw[E 0 p.2 (by rw[ho];simp only[Op.operands];exact List.mem_toArray.2 (List.mem_map_of_mem hp))]
  simp only[ho,this];exact h
 ·rename_i t n ps ho
  have:(ps.toList.map λp=>(p.1,ev T env' 0 p.2))=(ps.toList.map λp=>(p.1,ev T env 0 p.2)):=List.map_congr_left λp hp=>by
   rw[E 0 p.2 (by rw[ho];simp only[Op.operands];exact List.mem_toArray.2 (List.mem_map_of_mem hp))]
  simp only[ho,this]
  split at h
  ·rename_i d hd
   try simp only[hd]
   unfold iW at h ⊢
   split at h
   ·rename_i e he
    (try simp only[he])
    split at h
    ·rename_i z0 z hk hz
     (try simp only[hk,hz])
     split at h
     ·rename_i q hq
      (try simp only[hq])
      split at h
      ·rename_i ds hds
       (try simp only[hds])
       split at h
       ·rename_i hb;(try simp only[hb]);exact iV (eG hm) (eG hm) h
       ·exact h.elim
      ·exact h.elim
     ·exact h.elim
    ·exact h.elim
   ·exact h.elim
  ·exact h.elim
 ·rename_i t x ho;simp only[ho,E _ x (by rw[ho];simp[Op.operands])];exact h
 ·rename_i t x v ho;simp only[ho,E _ x (by rw[ho];simp[Op.operands]),E _ v (by rw[ho];simp[Op.operands])];exact h
 ·rename_i x ho;simp only[ho,E _ x (by rw[ho];simp[Op.operands])];exact h
 ·rename_i op t x y u ho;simp only[ho,E _ x (by rw[ho];simp[Op.operands]),E _ y (by rw[ho];simp[Op.operands])];exact h
 ·rename_i op t x ho;simp only[ho,E _ x (by rw[ho];simp[Op.operands])];exact h
 ·rename_i s x f ho;simp only[ho,E _ x (by rw[ho];simp[Op.operands])];exact h
 ·rename_i s x f ho;simp only[ho,E _ x (by rw[ho];simp[Op.operands])];exact h
 ·rename_i t x i ho;simp only[ho,E _ x (by rw[ho];simp[Op.operands]),E _ i (by rw[ho];simp[Op.operands])];exact h
 ·rename_i t x i ho;simp only[ho,E _ x (by rw[ho];simp[Op.operands]),E _ i (by rw[ho];simp[Op.operands])];exact h
 ·rename_i t x lo hi mx ho
  have op:∀(y:Option Operand),(∀z,y=some z->z∈o.op.operands)->y.map (ev T env' 0)=y.map (ev T env 0):=by
   intro y hy
   cases y with
   |none=>rfl
   |some z=>simp only[Option.map_some,E 0 z (hy z rfl)]
  simp only[ho,E _ x (by rw[ho];simp[Op.operands]),op lo (λz e=>by rw[ho];subst e;simp[Op.operands]),op hi (λz e=>by rw[ho];subst e;simp[Op.operands]),op mx (λz e=>by rw[ho];subst e;simp[Op.operands])];exact h
 ·rename_i x i ho;simp only[ho,E _ x (by rw[ho];simp[Op.operands])];exact h
 ·rename_i t x ho;simp only[ho,E _ x (by rw[ho];simp[Op.operands])];exact h
 ·rename_i f first caps ho
  have:caps.toList.map (ev T env' 0)=caps.toList.map (ev T env 0):=List.map_congr_left λp hp=>E 0 p (by rw[ho];simp only[Op.operands,Array.mem_append];exact .inr (by simpa using hp))
  have this2:first.toList.map (ev T env' 0)=first.toList.map (ev T env 0):=List.map_congr_left λp hp=>E 0 p (by rw[ho];simp only[Op.operands,Array.mem_append];exact .inl (by simpa using hp))
  simp only[ho,this,this2];exact h
 ·rename_i x ho;simp only[ho,E _ x (by rw[ho];simp[Op.operands])];exact h
 ·rename_i c ho
  have hargs:∀x∈c.args.toList,x∈o.op.operands:=λx hx=>by
   rw[ho];simp only[Op.operands,Call.operands,Array.mem_append];exact .inr (by simpa using hx)
  have hmap:c.args.toList.map (ev T env' 0)=c.args.toList.map (ev T env 0):=List.map_congr_left λx hx=>E 0 x (hargs x hx)
  have hzip:(c.args.toList.zipIdx.map λx=>ev T env' (c.argTypes.getD x.2 0) x.1)=(c.args.toList.zipIdx.map λx=>ev T env (c.argTypes.getD x.2 0) x.1):=List.map_congr_left λx hx=>E _ x.1 (hargs x.1 (List.fst_mem_of_mem_zipIdx hx))
  try simp only[ho]
  split at h
  ·rename_i hc
   (try simp only[hc])
   split at h
   ·rename_i x h1 h2
    simp only[h1,h2,E _ x (hargs x (by rw[h1];simp))];exact h
   ·exact h.elim
  ·rename_i hc
   (try simp only[hc])
   split at h
   ·rename_i x y d h1 hd h2
    simp only[h1,h2,hd,E _ x (hargs x (by rw[h1];simp)),E _ y (hargs y (by rw[h1];simp))]
    exact Fg hm h
   ·exact h.elim
  ·rename_i hc
   (try simp only[hc])
   split at h
   ·rename_i x h1 h2
    simp only[h1,h2,E _ x (hargs x (by rw[h1];simp))];exact h
   ·exact h.elim
  ·rename_i hc;(try simp only[hc,hmap]);exact h
  ·rename_i hc;(try simp only[hc,hmap]);exact h
  ·rename_i f hc
   have hf:f∈o.op.operands:=by rw[ho];simp[Op.operands,Call.operands,hc]
   simp only[hc,E 0 f hf,hzip,R]
   split at h
   ·rename_i fid caps hv;(try simp only[hv]);exact tC hm h
   ·rename_i fid caps hv;(try simp only[hv]);exact tC hm h
   ·rename_i fid first hv;(try simp only[hv]);exact tC hm h
   ·rename_i y hv;(try simp only[hv]);exact Ah hm h
   ·exact h.elim
  ·exact h.elim
 ·rename_i hn
  have h2:Hf T env' K o next:=by
   unfold Hf at h ⊢
   split at h
   ·rename_i t r ho
    cases r with
    |none=>
     split at h
     ·rename_i d kt x hd ht hr
      split at h
      ·rename_i g l hk;simp only[hd,ht,hk];exact eG hm h
      ·exact h.elim
     ·exact h.elim
    |some z=>
     have hz:ev T env' 0 z=ev T env 0 z:=E 0 z (by rw[ho];simp[Op.operands])
     simp only[hz]
     split at h
     ·rename_i d kt x hd ht hr
      split at h
      ·rename_i g l hk;simp only[hd,ht,hk,hr];exact eG hm h
      ·exact h.elim
     ·exact h.elim
   ·rename_i t m k x ho
    simp only[ho,E _ m (by rw[ho];simp[Op.operands]),E _ k (by rw[ho];simp[Op.operands]),E _ x (by rw[ho];simp[Op.operands])];exact h
   ·rename_i t m k x ho
    simp only[ho,E _ m (by rw[ho];simp[Op.operands]),E _ k (by rw[ho];simp[Op.operands]),E _ x (by rw[ho];simp[Op.operands])];exact h
   ·rename_i t x k ok ho
    simp only[ho,E _ k (by rw[ho];simp[Op.operands]),E _ x (by rw[ho];simp[Op.operands])];exact h
   ·rename_i x xt as ok ho
    simp only[ho,E _ x (by rw[ho];simp[Op.operands])];exact h
   ·rename_i src dst x ho
    simp only[ho,E _ x (by rw[ho];simp[Op.operands])];exact h
   ·rename_i t l c ho
    simp only[ho,E _ l (by rw[ho];simp[Op.operands]),E _ c (by rw[ho];simp[Op.operands])]
    split at h
    ·rename_i d e hd hty
     (try simp only[hd,hty])
     split at h
     ·rename_i k n k' m hl hc
      (try simp only[hl,hc])
      split at h
      ·rename_i z0 z hk hz
       (try simp only[hk,hz])
       split at h
       ·rename_i ds hds
        (try simp only[hds])
        split at h
        ·rename_i hb
         (try simp only[hb])
         exact⟨h.1,iV (eG hm) (eG hm) h.2⟩
        ·exact h.elim
       ·exact h.elim
      ·exact h.elim
     ·exact h.elim
    ·exact h.elim
   ·exact h.elim
  exact h2
end
end Go.Fw
namespace Go.Fw
variable [af]
theorem geM_sem'{m:Env}{al:List (Nat×Bool)}:∀{G:List GE} {j:Nat},(geM al m G).get j=(kQ al m G).get j:=by
 intro G
 induction G with
 |nil=>intro j;rfl
 |cons e r ih=>
  grind[geM,kQ,Env.get_cons]
theorem tH{m:Env}{al:List (Nat×Bool)}{G:List GE}(h:GOk m G)(hal:chB (sem m G) al=true)(j:Nat):(geM al m G).get j = .top\/(geM al m G).get j=(sem m G).get j:=by
 grind[geM_sem',jW]
theorem zbi{m:Env}{al:List (Nat×Bool)}:∀{G:List GE} {j:Nat},(geM al m G).get j = .top\/(sem m G).get j=(geM al m G).get j\/(sem m G).get j = .data (.val undef):=by
 intro G
 induction G with
 |nil=>intro j;right;left;rfl
 |cons e r ih=>
  intro j
  simp[geM,sem]
  split
  ·simp[Env.get_cons]
   split<;>try exact ih
   cases e.g
   ·right;right;rfl
   ·right;left;rfl
  grind[Env.get_cons]
def allM(m:Env):List GE->Env
 | []=>m
 |e::r=>(e.d,e.v)::allM m r
theorem rX{id d:Nat}{v:AV}{r:Env}:fU id ((d,v)::r)=(v.men id || fU id r):=by
 rfl
theorem UH{m:Env}{al:List (Nat×Bool)}{id:Nat}:∀{G:List GE},fU id (geM al m G)=fU id (allM m G):=by
 intro G
 induction G with
 |nil=>rfl
 |cons e r ih=>
  grind[geM,allM,rX,AV.men]
structure zal(env:Env)(m:Env)(G:List GE):Prop where
 get:∀j,(sem m G).get j = .top\/(sem m G).get j=env.get j
 df:(sem m G).get gz=env.get gz
 men:∀id,fU id env=true->fU id (allM m G)=true
theorem Lu{ops:Array Oper}{G:List GE}{m:Env}{o:Oper}{ch:List (Nat×Bool)}{g:Bool}(h:guardOf ops G m o=some (ch,g))(hG:GOk m G) :
  chB (sem m G) ch=g/\((o.guard=none/\g=true/\ch = [])\/∃j want d,o.guard=some (j,want)/\rq ops j=some d/\((∃c,(sem m G).get d = .data (.val (.bool c))/\(c==want)=g)\/((sem m G).get d = .data (.val undef)/\g=false))):=by
 unfold guardOf at h
 split at h
 ·rename_i hg
  obtain⟨rfl,rfl⟩:=h
  exact⟨rfl,.inl ⟨hg,rfl,rfl⟩⟩
 ·rename_i j want hg
  split at h<;>try(simp at h)
  rename_i d hd
  split at h
  ·rename_i e he
   obtain⟨q1,q2,q3⟩:=Ov he hG
   split at h<;>try(simp at h;done)
   rename_i c hc
   have key:chB (sem m G) ((d,want)::e.ch)=(e.g&&wS c want)/\((∃c,(sem m G).get d = .data (.val (.bool c))/\(c==want)=(e.g&&wS c want))\/((sem m G).get d = .data (.val undef)/\(e.g&&wS c want)=false))/\(e.g=true->(sem m G).get d = .data (.val (.bool c))):=by
    cases hb:e.g with
    |true=>
     rw[hb,hc]at q1;simp only[Ky]at q1
     rw[hb]at q2
     simp[chB,q1,q2,zbg]
    |false=>
     rw[hb]at q1;rw[hb]at q2
     refine⟨?_,.inr ⟨q1,by simp⟩,λh=>by simp at h⟩
     simp[chB,q2]
   split at h
   ·rename_i hch
    rw[hch]at q2 key
    have hgt:e.g=true:=q2.symm
    grind
   grind
  ·rename_i he
   have q1:=Ox (m:=m) he
   split at h
   ·rename_i c hc
    obtain⟨rfl,rfl⟩:=h
    rw[hc]at q1
    exact⟨by simp only[chB,q1,Bool.and_true,zbg],.inr ⟨j,want,d,hg,hd,.inl ⟨c,q1,zbg⟩⟩⟩
   ·simp at h
structure Ce(T:Tbl)(a b:Rec):Prop where
 o:a.o=b.o
 K:a.K=b.K
 men:∀d,a.r.men d=true->b.r.men d=true
 ws:∀i∈a.ws T,i∈b.ws T
 nw:∀i∈a.nw T,i∈b.nw T
 rd:∀i∈a.rd,i∈b.rd
 run:a.run=true->b.run=true
 ld:a.run=true->Kr a.o=true->∀j,Operand.tmp j∈a.o.op.operands->a.env.get j=b.env.get j
inductive dW(T:Tbl):List Rec->List Rec->Prop where
 |nil:dW T [] []
 |cons {a b:Rec} {r s:List Rec} (h:Ce T a b) (t:dW T r s):dW T (a::r) (b::s)
variable {tr' tr : List Rec} {T : Tbl} {ops : Array Oper} {K : Heap} {env : Env} {ms : List Nat} {i : Nat}
theorem dW.app{a b c d:List Rec}(h:dW T a b)(h2:dW T c d):dW T (a++c) (b++d):=by
 induction h with
 |nil=>exact h2
 |cons h t ih=>exact .cons h ih
theorem dW.rev{a b:List Rec}(h:dW T a b):dW T a.reverse b.reverse:=by
 induction h with
 |nil=>exact .nil
 |cons h t ih=>simp;exact ih.app (.cons h .nil)
theorem Ai{a b a' b':List Nat}(ha:∀x∈a',x∈a)(hb:∀x∈b',x∈b)(h:meet a' b'=true):meet a b=true:=by
 grind[EX]
theorem QR{x x' y y':Rec}(hx:Ce T x' x)(hy:Ce T y' y)(h:clash T ops x' y'=true):clash T ops x y=true:=by
 simp[clash,hx.o,hy.o]at h ⊢
 rcases h with h |h |h |h |h |h
 ·exact .inl h
 ·simp_all
 ·simp_all
 ·exact .inr (.inr (.inr (.inl (Ai hx.ws hy.rd h))))
 ·exact .inr (.inr (.inr (.inr (.inl (Ai hx.ws hy.ws h)))))
 ·exact .inr (.inr (.inr (.inr (.inr (Ai hy.ws hx.rd h)))))
theorem IA{x x':Rec}(hx:Ce T x' x){ys' ys:List Rec}(h:dW T ys' ys):∀{ms:List Nat},pM T ops x i ys ms=true->pM T ops x' i ys' ms=true:=by
 induction h with
 |nil=>intro ms h;cases ms<;>exact h
 |cons hy t ih=>
  intro ms h
  cases ms with
  |nil=>simp[pM]at h
  |cons m ms=>
   simp[pM]at h ⊢
   grind[QR]
theorem Fh(h:dW T tr' tr):∀{i:Nat} {ms:List Nat},jV T ops i tr ms=true->jV T ops i tr' ms=true:=by
 induction h with
 |nil=>simp
 |cons hy t ih=>
  intro i ms h
  cases ms with
  |nil=>simp[jV]at h
  |cons m ms=>
   simp[jV]at h ⊢
   grind[IA]
theorem QS{d:Nat}{l:List Nat}:∀{l':List Nat},(∀i∈l',i∈l)->wo K d l'=true->wo K d l=true:=by
 have key:∀{l:List Nat} {i:Nat},i∈l->(match K.get i with |some b=>b.men d |none=>false)=true->wo K d l=true:=by
  intro l
  induction l with
  |nil=>simp
  |cons j r ih=>
   simp[wo]
   grind
 intro l'
 induction l' with
 |nil=>grind[wo]
 |cons j r ih=>
  intro hs h
  simp[wo]at h
  rcases h with h |h
  ·exact key (hs j (by simp)) h
  simp_all
theorem QT{d i:Nat}(h:dW T tr' tr):∀{k:Nat} {ms:List Nat},zA T d i k tr ms=true->zA T d i k tr' ms=true:=by
 induction h with
 |nil=>simp
 |cons hy t ih=>
  intro k ms h
  cases ms with
  |nil=>simp[zA]at h
  |cons m ms=>
   simp only[zA,Bool.and_eq_true,Bool.or_eq_true]at h ⊢
   refine⟨h.1.imp id λh=>h.imp (λh=>?_) id,ih h.2⟩
   simp at h ⊢
   refine⟨?_,?_⟩
   ·cases hb:AV.men d _ with
    |false=>rfl
    |true=>rw[hy.men d hb]at h;simp at h
   ·cases hb:wo _ d _ with
    |false=>rfl
    |true=>rw[hy.K]at hb;rw[QS hy.ws hb]at h;simp at h
theorem IB{all' all:List Rec}(h:dW T all' all){l:List Nat}:∀{l':List Nat},(∀d∈l',d∈l)->oq T env K all ms i l=true->oq T env K all' ms i l'=true:=by
 have key:∀{l:List Nat} {d:Nat},d∈l->oq T env K all ms i l=true->(!fU d env&&(!pI d K&&zA T d i 0 all ms))=true:=by
  intro l
  induction l with
  |nil=>simp
  |cons j r ih=>
   intro d h h2
   simp[oq]at h2
   grind
 intro l'
 induction l' with
 |nil=>intro _ _;rfl
 |cons j r ih=>
  intro hs h2
  have:=key (hs j (by simp)) h2
  simp[oq]at this ⊢
  grind[QT]
theorem LC{all' all:List Rec}(h:dW T all' all)(ht:dW T tr' tr):∀{i:Nat},zB T env K all ms i tr=true->zB T env K all' ms i tr'=true:=by
 induction ht with
 |nil=>intro i _;rfl
 |cons hy t ih=>
  intro i h2
  simp[zB]at h2 ⊢
  exact⟨IB h hy.nw h2.1,ih h2.2⟩
theorem Oz(h:dW T tr' tr)(hc:chk T ops env K tr=true):chk T ops env K tr'=true:=by
 simp[chk]at hc ⊢
 grind[Fh,LC]
theorem YB{a b:Rec}(h:Ce T a b):Ce T (mY a) (mY b):=by
 cases hop:Kr a.o with
 |true=>
  have hb:Kr b.o=true:=by rw[<-h.o];exact hop
  refine⟨by rw[KU,KU];exact h.o,by rw[KW,KW];exact h.K,λd=>by rw[KX,KX];exact h.men d,λi hi=>?_,λi hi=>?_,λi hi=>?_,λhr=>by rw[TZ]at hr ⊢;exact h.run hr,λ_ _ j _=>by grind[Oc]⟩
  ·rw[Oa]at hi ⊢;exact h.ws i hi
  ·rw[Ob]at hi ⊢;exact h.nw i hi
  grind[Oc]
 |false=>rw[H8 hop,H8 (by rw[<-h.o];exact hop)];exact h
theorem LD{env env':Env}{o:Oper}{c:AV}(hg:∀j,Operand.tmp j∈o.op.operands->env'.get j=env.get j)(h:readA T env o K c):readA T env' o K c:=by
 have E:∀t x,x∈o.op.operands->ev T env' t x=ev T env t x:=λt x hx=>Ff λj e=>hg j (e ▸ hx)
 grind[readA,Op.operands]
theorem Aj{env env':Env}{o:Oper}{id:Nat}{c:AV}{b:Option Block}(hg:∀j,Operand.tmp j∈o.op.operands->env'.get j=env.get j)(h:cellP T env o id c b):cellP T env' o id c b:=by
 unfold cellP at h ⊢
 grind[LD]
theorem IC{l:List (Nat×Nat)}(h:dW T tr' tr):∀{k:Nat},dW T (rC l k tr') (rC l k tr):=by
 induction h with
 |nil=>exact .nil
 |cons h t ih=>
  intro k
  simp[rC]
  cases Kt k l with
  |true=>exact .cons (YB h) ih
  |false=>exact .cons h ih
theorem QU{env env':Env}{o:Oper}{id:Nat}{c:AV}(hg:∀j,Operand.tmp j∈o.op.operands->env'.get j=env.get j)(h:dW T tr' tr):cellW T env o id c tr->cellW T env' o id c tr':=by
 induction h with
 |nil=>exact λh=>h
 |cons h t ih=>
  intro hc
  refine⟨?_,ih hc.2⟩
  split
  ·rename_i hw
   have:=bD.2 (h.ws _ (bD.1 hw))
   have h1:=hc.1
   rw[this]at h1
   rw[h.K];exact Aj hg h1
  ·trivial
theorem z4z(h:dW T tr' tr):∀(k:Nat) y,tr[k]? = some y->∃y',tr'[k]? = some y'/\Ce T y' y:=by
 induction h with
 |nil=>simp
 |cons h t ih=>
  grind
theorem wU(h:dW T tr' tr):∀{l:List (Nat×Nat)},yj T K tr l->yj T K tr' l
 | [],_=>trivial
 |q::r,hs=>by
  refine⟨?_,wU h hs.2⟩
  have h1:=hs.1
  unfold xN at h1 ⊢
  split at h1<;>try exact h1.elim
  rename_i y hy
  obtain⟨y',hy',hle⟩:=z4z h _ _ hy
  rw[hy']
  intro hr
  obtain⟨c,k3,k4⟩:=h1 (hle.run hr)
  have hrd:Kr y'.o=true:=by
   obtain⟨b,_,q⟩:=uM k3
   rw[hle.o]
   grind[readA,Kr]
  have hg:=hle.ld hr hrd
  rw[hle.o]at hg ⊢
  exact⟨c,Aj hg k3,QU hg h k4⟩
theorem UI(h:dW T tr' tr)(hc:chkP T ops env K tr):chkP T ops env K tr':=by
 obtain⟨l,h1,h2⟩:=hc
 exact⟨l,Oz (IC h) h1,wU h h2⟩
theorem UJ{kp:Nat}(h:dW T tr' tr)(hc:NP T ops env K tr kp):NP T ops env K tr' kp:=by
 obtain⟨l,h0,h1,h2⟩:=hc
 exact⟨l,h0,Oz (IC h) h1,wU h h2⟩
section
variable {T : Tbl} {A : FuncId → List D → nK → Prop} {B : FuncId → List AV → Heap → jU → Heap → Prop}
theorem oK{E env:Env}{l:List Nat}(h:fZ E l=true)(hE:∀j,E.get j = .top\/E.get j=env.get j):∀j∈l,env.get j=E.get j:=by
 induction l with
 |nil=>simp
 |cons k r ih=>
  simp[fZ]at h
  grind
theorem LG{j:Nat}:∀{l:List Operand},Operand.tmp j∈l->j∈tmpsOf l:=by
 intro l
 induction l with
 |nil=>simp
 |cons x r ih=>
  intro h
  cases x with
  |tmp k=>
   simp[tmpsOf]at h ⊢
   grind
  |_=>grind[tmpsOf]
theorem lG{env env':Env}{K K':Heap}{o:Oper}{v:AV}(hg:∀j,Operand.tmp j∈o.op.operands->env'.get j=env.get j):Ce T ⟨o,env',v,K,K',true⟩ ⟨o,env,v,K,K',true⟩:=by
 have E:∀t x,x∈o.op.operands->ev T env' t x=ev T env t x:=λt x hx=>Ff λj e=>hg j (e ▸ hx)
 have I:jh env' (tmpsOf o.op.operands.toList)=jh env (tmpsOf o.op.operands.toList):=Ag λj hj=>hg j (by simpa using DL hj)
 have R:fO env' K o=fO env K o:=by simp only[fO,I]
 have W:wids T env' K K' o=wids T env K K' o:=by
  simp only[wids,I]
  split<;>first |rfl |skip
  ·rename_i _ t a x ho;rw[E 0 a (by rw[ho];simp[Op.operands])]
  ·rename_i _ t a k x ho;rw[E 0 a (by rw[ho];simp[Op.operands])]
  ·rename_i _ t a k x ho;rw[E 0 a (by rw[ho];simp[Op.operands])]
  ·rename_i c ho
   split
   ·split
    ·rename_i x r hx
     rw [E _ x (by rw[ho];simp only[Op.operands,Call.operands,Array.mem_append];right;have:x∈c.args.toList:=by rw[hx];simp
                   simpa using this)]
    ·rfl
   ·split
    ·rename_i x r hx
     rw [E _ x (by rw[ho];simp only[Op.operands,Call.operands,Array.mem_append];right;have:x∈c.args.toList:=by rw[hx];simp
                   simpa using this)]
    ·rfl
   ·rename_i f hc
    obtain⟨m1,m2⟩:=wI ho hc
    have hzip:(c.args.toList.zipIdx.map λx=>ev T env' (c.argTypes.getD x.2 0) x.1)=(c.args.toList.zipIdx.map λx=>ev T env (c.argTypes.getD x.2 0) x.1):=List.map_congr_left λx hx=>E _ x.1 (m2 x.1 (List.fst_mem_of_mem_zipIdx hx))
    rw[E 0 f m1,hzip]
   ·rfl
 have Nw:fV T env' K K' o=fV T env K K' o:=by
  simp only[fV]
  split<;>first |rfl |skip
  rename_i c ho
  split
  ·split
   ·rename_i x r hx
    rw [E _ x (by rw[ho];simp only[Op.operands,Call.operands,Array.mem_append];right;have:x∈c.args.toList:=by rw[hx];simp
                  simpa using this)]
   ·rfl
  ·rfl
  ·rfl
 exact⟨rfl,rfl,λ_ h=>h,λi h=>by simpa only [Rec.ws,W]using h,λi h=>by simpa only [Rec.nw,Nw]using h,λi h=>by simpa only [Rec.rd,R]using h,λh=>h,λ_ _ j hj=>hg j hj⟩
theorem Fj{env env':Env}{K K':Heap}{o:Oper}{v:AV}{b:Bool}:Ce T ⟨o,env',.data (.val undef),K',K,false⟩ ⟨o,env,v,K',K,b⟩:=
 ⟨rfl,rfl,λd h=>by simp[AV.men]at h,λi h=>by simp[Rec.ws]at h,λi h=>by simp[Rec.nw]at h,λi h=>by simp[Rec.rd]at h,λh=>(by cases h),λh=>(by cases h)⟩
theorem uS{d:Option Nat}{ch:List (Nat×Bool)}{g:Bool}{v:AV}{G:List GE}{m:Env}{next:List GE->Env->Prop}(h:Kv d ch g v G m next)(hG:GOk m G)(hg:chB (sem m G) ch=g)(hd:∀e,d=some e->e≠gz){env:Env}(hr:zal env m G) :
  ∃G' m',next G' m'/\GOk m' G'/\zal (Env.set env d (Ky g v)) m' G':=by
 have men:∀e id,fU id (Env.set env (some e) (Ky g v))=true->(v.men id || fU id (allM m G))=true:=by
  intro e id h
  simp[Env.set,rX]at h ⊢
  rcases h with h |h
  ·cases g<;>grind[Ky,AV.men]
  ·exact .inr (hr.men id h)
 cases d with
 |none=>
  simp[Kv]at h
  split at h
  ·exact⟨G,m,h,hG,hr⟩
  ·exact h.elim
 |some d=>
  have get:∀j,Env.get ((d,Ky g v)::sem m G) j = .top\/Env.get ((d,Ky g v)::sem m G) j=(Env.set env (some d) (Ky g v)).get j:=by
   intro j;simp[Env.set,Env.get_cons];split
   ·right;rfl
   ·exact hr.get j
  have df:Env.get ((d,Ky g v)::sem m G) gz=(Env.set env (some d) (Ky g v)).get gz:=by
   simp[Env.set,Env.get_cons,hr.df]
  have key:(match !G7 d ch&&Fa d G with |true=>next (⟨d,ch,g,v⟩::G) m |false=>False)->∃G' m',next G' m'/\GOk m' G'/\zal (Env.set env (some d) (Ky g v)) m' G':=by
   intro h
   cases hf:(!G7 d ch&&Fa d G)with
   |true=>
    rw[hf]at h
    simp at hf
    exact⟨_,m,h,⟨hg.symm,hf.1,hf.2,hd d rfl,hG⟩,get,df,λid h=>by grind[allM,rX]⟩
   |false=>simp_all
  cases G with
  |nil=>
   cases ch with
   |nil=>
    have:g=true:=hg.symm
    subst this
    exact⟨[],(d,v)::m,h,trivial,get,df,λid h=>by grind[allM,rX]⟩
   |cons p q=>exact key h
  |cons p q=>exact key h
abbrev zet(T:Tbl)(ch:List (Nat×Bool))(m:Env)(G:List GE)(K:Heap)(o:Oper):Option AV:=match o.op with
 | .pick c x y=>match ev T (geM ch m G) o.type c with
  | .data (.val (.bool cv))=>E8 cv (ev T (geM (Om c ch true) m G) o.type x) (ev T (geM (Om c ch false) m G) o.type y)
  |_=>none
 |_=>match fZ (geM ch m G) (tmpsOf o.op.operands.toList)with |true=>z4n T (geM ch m G) K o |false=>none
theorem QV{c:Bool}{x y v:AV}(h:E8 c x y=some v):(x.ids = []/\x ≠ .top)/\(y.ids = []/\y ≠ .top):=by
 unfold E8 at h
 split at h<;>try exact⟨⟨rfl,by simp⟩,⟨rfl,by simp⟩⟩
 simp at h
theorem z5a{ch:List (Nat×Bool)}{m:Env}{G:List GE}{K:Heap}{o:Oper}{v:AV}{env:Env}{next pan:Next}
  (h:zet T ch m G K o=some v) (hG:GOk m G) (hch:chB (sem m G) ch=true) (hget:∀j,(sem m G).get j = .top\/(sem m G).get j=env.get j) (hmen:∀id,fU id env=true->fU id (allM m G)=true) (hn:next v K) :
  vOp T A B env K o next pan/\Ce T ⟨o,env,v,K,K,true⟩ ⟨o,geM ch m G,v,K,K,true⟩:=by
 unfold zet at h
 split at h
 ·rename_i c x y ho
  split at h<;>try(simp at h;done)
  rename_i cv hc
  have hv:=Oy h
  obtain⟨⟨ix,tx⟩,⟨iy,ty⟩⟩:=QV h
  have evs:∀al z w,ev T (geM al m G) o.type z=w->w ≠ .top->(ev T env o.type z=w\/ev T env o.type z = .data (.val undef)):=by
   intro al z w hz hw
   cases z with
   |tmp j=>
    have hz:(geM al m G).get j=w:=hz
    rcases zbi (m:=m) (al:=al) (G:=G) (j:=j)with q |q |q
    ·simp_all
    ·left;show env.get j=w;grind
    ·right;show env.get j=_;grind
   |const k=>left;exact hz
   |func f=>left;exact hz
   |global g=>left;exact hz
  have evk:∀al z w,chB (sem m G) al=true->ev T (geM al m G) o.type z=w->w ≠ .top->ev T env o.type z=w:=by
   intro al z w hal hz hw
   cases z with
   |tmp j=>
    have hz:(geM al m G).get j=w:=hz
    rcases tH hG hal j with q |q
    ·simp_all
    ·show env.get j=w;grind
   |const k=>exact hz
   |func f=>exact hz
   |global g=>exact hz
  have hcE:=evk ch c _ hch hc (by simp)
  have key:chB (sem m G) (Om c ch cv)=true:=by
   cases c with
   |tmp t=>
    have hs:(sem m G).get t = .data (.val (.bool cv)):=by
     rcases tH hG hch t with q |q
     ·have hc:(geM ch m G).get t = .data (.val (.bool cv)):=hc
      simp_all
     ·rw[<-q];exact hc
    simp only[Om,chB,hs,hch,Bool.and_true,beq_self_eq_true]
   |_=>exact hch
  refine⟨?_,?_⟩
  ·unfold vOp
   simp only[ho,hcE]
   cases cv
   ·have:=evk _ y _ key rfl ty
    show next (ev T env o.type y) K
    simp_all
   ·have:=evk _ x _ key rfl tx
    show next (ev T env o.type x) K
    simp_all
  ·have id0:∀z w,(ev T env o.type z=w\/ev T env o.type z = .data (.val undef))->w.ids = []->∀j,z = .tmp j->(env.get j).ids = []:=by
    intro z w hz hw j e
    subst e
    rcases hz with hz |hz
    ·have hz:env.get j=w:=hz;simp_all
    ·have hz:env.get j = .data (.val undef):=hz;rw[hz];rfl
   refine⟨rfl,rfl,λ_ h=>h,λi hi=>by grind[Rec.ws,wids],λi hi=>by grind[Rec.nw,fV],λi hi=>?_,λh=>h,λ_ hx'=>by grind[Kr]⟩
   have hids:jh env (tmpsOf [c,x,y]) = []:=by
    have h1:=id0 c _ (.inl hcE) rfl
    have h2:=id0 x _ (evs _ x _ rfl tx) ix
    have h3:=id0 y _ (evs _ y _ rfl ty) iy
    cases c<;>cases x<;>cases y<;>simp only[tmpsOf,jh]<;>simp_all
   grind[Rec.rd,fO,Op.operands]
 ·rename_i hnp
  split at h
  ·rename_i hk
   have hop:∀j,Operand.tmp j∈o.op.operands->env.get j=(geM ch m G).get j:=λj hj=>oK hk (λj=>(tH hG hch j).elim .inl λh=>(hget j).imp (λh2=>h.trans h2) λh2=>h.trans h2) j (LG (by simpa using hj))
   exact⟨nR hop (λid h=>by grind[UH,id]) (UF h (λc x y e=>hnp c x y e) hn),lG hop⟩
  ·simp at h
theorem dW.len{T:Tbl}{a b:List Rec}(h:dW T a b):a.length=b.length:=by induction h with |nil=>rfl |cons _ _ ih=>simp[ih]
theorem LH{T:Tbl}{N:List Nat}{kp:Nat}{a b:List Rec}(h:dW T a b):∀i,jm T N kp i b=true->jm T N kp i a=true:=by
 induction h with
 |nil=>simp
 |cons h t ih=>
  intro i q
  simp[jm]at q ⊢
  exact⟨q.1.imp id λq=>bJ.2 λx hx=>bJ.1 q x (h.ws x hx),ih _ q.2⟩
theorem Cf{E E':Env}{l:List Nat}(h:∀j∈l,E'.get j=E.get j):fZ E' l=fZ E l:=by
 induction l with
 |nil=>rfl
 |cons j r ih=>grind[fZ]
theorem LJ{kp:Nat}{Q Q':List Rec->Prop}(hQ:∀a b,dW T a b->Q b->Q' a):∀(l:List Oper) (ms:List Nat) (tr tr':List Rec) (env env':Env) (K:Heap),dW T tr' tr->(∀id,fU id env'=true->fU id env=true)->(∀j,env.get j = .top\/env.get j=env'.get j) ->
  lX T A B kp Q l ms tr env K->lX T A B kp Q' l ms tr' env' K:=by
 intro l
 induction l with
 |nil=>intro ms tr tr' env env' K ht _ _ h;exact hQ _ _ ht.rev h
 |cons o rest ih=>
  intro ms tr tr' env env' K ht hm hE h
  cases ms with
  |nil=>simp[lX]at h
  |cons m ms=>
   have hset:∀v:AV,∀id,fU id (Env.set env' o.dst v)=true->fU id (Env.set env o.dst v)=true:=by
    intro v id h
    cases hd:o.dst with
    |none=>rw[hd]at h;exact hm id h
    |some d=>rw[hd]at h;simp[Env.set,rX]at h ⊢;grind
   have hget:∀v:AV,∀j,(Env.set env o.dst v).get j = .top\/(Env.set env o.dst v).get j=(Env.set env' o.dst v).get j:=by
    intro v j
    cases hd:o.dst with
    |none=>exact hE j
    |some d=>
     simp[Env.set,Env.get_cons]
     grind
   simp[lX]at h ⊢
   split at h
   ·exact ih _ _ _ _ _ _ (.cons Fj ht) (hset _) (hget _) h
   ·split at h<;>try exact h.elim
    rename_i hg hk
    have hop:∀j,Operand.tmp j∈o.op.operands->env'.get j=env.get j:=λj hj=>oK hk hE j (LG (by simpa using hj))
    have hk':fZ env' (tmpsOf o.op.operands.toList)=true:=by
     grind[Cf,oK]
    simp[hk',hg]
    exact uO (λv K' q=>(ih _ _ _ _ _ _ (.cons (lG hop) ht) (hset _) (hget _) q)) (λ_ _ q=>q) (nR hop hm h)
theorem QW{ops:Array Oper}{Q:List Rec->Env->Heap->Prop}{QP:Nat->AV->Heap->List Rec->Prop}(o:Oper)(rest:List Oper)(tr:List Rec)(G:List GE)(m:Env)(K:Heap):Iw T A B ops Q QP (o::rest) tr G m K=(match guardOf ops G m o with
   |none=>False
   |some (ch,g)=>match zet T ch m G K o with
    |some v=>fc v λv=>Kv o.dst ch g v G m λG' m'=>Iw T A B ops Q QP rest (⟨o,geM ch m G,v,K,K,true⟩::tr) G' m' K
    |none=>match fZ (geM ch m G) (tmpsOf o.op.operands.toList)with
     |false=>False
     |true=>match ch with
      | []=>match(match G with | []=>false |_=>dZ o)with
       |true=>vOp T A B (geM [] m G) K o (λv K'=>K'=K/\fc v λv=>Kv o.dst [] true v G m λG' m'=>Iw T A B ops Q QP rest (⟨o,geM [] m G,v,K,K,true⟩::tr) G' m' K) (λ_ _=>False)
       |false=>vOp T A B (geM [] m G) K o (λv K'=>fc v λv=>fcK o K' λK'=>flatM m G λm'=>E5 o.dst v m' λm'=>Iw T A B ops Q QP rest (⟨o,geM [] m G,v,K,K',true⟩::tr) [] m' K') (λp K'=>Qj (lX T A B tr.length (QP tr.length p K') rest ((wu ops.toList []).drop (tr.length+1)) (⟨o,geM [] m G,.data (.val undef),K,K',true⟩::tr) (Env.set (geM [] m G) o.dst (.data (.val undef))) K'))
      |ch=>match dZ o with
       |true=>dZ o=true/\∃v,(g=true->vOp T A B (geM ch m G) K o (λv' K'=>v'=v/\K'=K) (λ_ _=>False))/\Kv o.dst ch g v G m λG' m'=>Iw T A B ops Q QP rest (⟨o,geM ch m G,v,K,K,true⟩::tr) G' m' K
       |false=>mi g (vOp T A B (geM ch m G) K o (λv K'=>fc v λv=>fcK o K' λK'=>geMK ch m G λm'=>E5 o.dst v m' λm'=>Iw T A B ops Q QP rest (⟨o,geM ch m G,v,K,K',true⟩::tr) [] m' K') (λ_ _=>False))):=rfl
end
section
variable {T : Tbl} {A : FuncId → List D → nK → Prop} {B : FuncId → List AV → Heap → jU → Heap → Prop}
theorem UK{ops:Array Oper}{env0:Env}{K0:Heap}{QQ:Env->Heap->Prop}{PP:AV->Env->Heap->Prop}:∀(l:List Oper) (tr:List Rec) (G:List GE) (m:Env) (K:Heap) (tr':List Rec) (env:Env),
  Iw T A B ops (λtr env K=>chkP T ops env0 K0 tr/\QQ env K) (λkp p K2 tr=>NP T ops env0 K0 tr kp/\jm T (z1b T kp 0 tr) kp 0 tr=true/\PP p (sQ ops.toList env0) (sS (z1b T kp 0 tr) K2)) l tr G m K->GOk m G->(∀o∈l,∀d,o.dst=some d->d≠gz)->zal env m G->dW T tr' tr ->
  rD T A B ops (λtr env K=>chkP T ops env0 K0 tr/\∃env2:Env,(∀j,env2.get j = .top\/env2.get j=env.get j)/\env2.get gz=env.get gz/\QQ env2 K) (λkp p K2 tr=>NP T ops env0 K0 tr kp/\∃N,jm T N kp 0 tr=true/\PP p (sQ ops.toList env0) (sS N K2)) l tr' env K:=by
 intro l
 induction l with
 |nil=>
  intro tr G m K tr' env h hG _ hr ht
  have h:flatG m G λenv=>chkP T ops env0 K0 tr.reverse/\QQ env K:=h
  rw[Fe]at h
  exact⟨UI ht.rev h.1,kQ [] m G,λj=>(jW hG rfl j).elim .inl λh=>(hr.get j).imp (λh2=>h.trans h2) λh2=>h.trans h2,(nC hG).trans hr.df,h.2⟩
 |cons o rest ih=>
  intro tr G m K tr' env h hG hdst hr ht
  have hdd:∀d,o.dst=some d->d≠gz:=hdst o (by simp)
  have hrest:∀o∈rest,∀d,o.dst=some d->d≠gz:=λo ho=>hdst o (by simp[ho])
  rw[QW]at h
  split at h<;>try exact h.elim
  rename_i ch g hgo
  obtain⟨hch,hgd⟩:=Lu hgo hG
  -- a path on which the operation runs
  have run:g=true->∀env1:Env,(∀j,env1.get j=env.get j)->(∀id,fU id env1=true->fU id env=true) ->
    vOp T A B env1 K o (λv K'=>rD T A B ops (λtr env K=>chkP T ops env0 K0 tr/\∃env2:Env,(∀j,env2.get j = .top\/env2.get j=env.get j)/\env2.get gz=env.get gz/\QQ env2 K) (λkp p K2 tr=>NP T ops env0 K0 tr kp/\∃N,jm T N kp 0 tr=true/\PP p (sQ ops.toList env0) (sS N K2)) rest (⟨o,env1,v,K,K',true⟩::tr') (env1.set o.dst v) K') (λp K'=>lX T A B tr'.length ((λkp p K2 tr=>NP T ops env0 K0 tr kp/\∃N,jm T N kp 0 tr=true/\PP p (sQ ops.toList env0) (sS N K2)) tr'.length p K') rest ((wu ops.toList []).drop (tr'.length+1)) (⟨o,env1,.data (.val undef),K,K',true⟩::tr') (env1.set o.dst (.data (.val undef))) K'):=by
   intro hg env1 hE1 hM1
   subst hg
   have hr1:zal env1 m G:=⟨λj=>by rw[hE1];exact hr.get j,by rw[hE1];exact hr.df,λid h=>hr.men id (hM1 id h)⟩
   split at h
   ·rename_i v hv
    rw[uP]at h
    have hok:=λnext pan=>z5a (A:=A) (B:=B) (next:=next) (pan:=pan) hv hG hch hr1.get hr1.men
    obtain⟨G',m',h',hG',hr'⟩:=uS h hG hch hdd hr1
    refine(hok _ _ ?_).1
    exact ih _ G' m' K _ _ h' hG' hrest hr' (.cons (hok (λ_ _=>True) (λ_ _=>True) trivial).2 ht)
   ·rename_i hvn
    split at h<;>try exact h.elim
    rename_i hk
    have hop:∀al,chB (sem m G) al=true->fZ (geM al m G) (tmpsOf o.op.operands.toList)=true->∀j,Operand.tmp j∈o.op.operands->env1.get j=(geM al m G).get j:=λal hal hk j hj=>
     oK hk (λj=>(tH hG hal j).elim .inl λh=>(hr1.get j).imp (λh2=>h.trans h2) λh2=>h.trans h2) j (LG (by simpa using hj))
    have hmen:∀al id,fU id env1=true->fU id (geM al m G)=true:=λal id h=>by rw[UH];exact hr1.men id h
    have hpanc:(∀j,Operand.tmp j∈o.op.operands->env1.get j=(geM [] m G).get j)->∀p K',lX T A B tr.length (λtr1=>NP T ops env0 K0 tr1 tr.length/\jm T (z1b T tr.length 0 tr1) tr.length 0 tr1=true/\PP p (sQ ops.toList env0) (sS (z1b T tr.length 0 tr1) K')) rest ((wu ops.toList []).drop (tr.length+1)) (⟨o,geM [] m G,.data (.val undef),K,K',true⟩::tr) (Env.set (geM [] m G) o.dst (.data (.val undef))) K'->((λp K'=>lX T A B tr'.length ((λkp p K2 tr=>NP T ops env0 K0 tr kp/\∃N,jm T N kp 0 tr=true/\PP p (sQ ops.toList env0) (sS N K2)) tr'.length p K') rest ((wu ops.toList []).drop (tr'.length+1)) (⟨o,env1,.data (.val undef),K,K',true⟩::tr') (env1.set o.dst (.data (.val undef))) K')) p K':=by
     intro hop p K' q
     rw[show tr'.length=tr.length from ht.len]
     refine LJ (λa b hab q=>⟨UJ hab q.1,_,LH hab 0 q.2.1,q.2.2⟩) _ _ _ _ _ _ _ (.cons (lG hop) ht) (λid h=>?_) (λj=>?_) q
     ·cases hod:o.dst with
      |none=>rw[hod]at h;exact hmen [] id h
      |some d=>rw[hod]at h;simp only[Env.set,rX,Bool.or_eq_true]at h ⊢;exact h.imp (λh=>h) (hmen [] id)
     ·have hE:(geM [] m G).get j = .top\/(geM [] m G).get j=env1.get j:=(tH hG rfl j).elim .inl λh=>(hr1.get j).imp (λh2=>h.trans h2) λh2=>h.trans h2
      cases hod:o.dst with
      |none=>exact hE
      |some d=>
       simp only[Env.set,Env.get_cons]
       split
       ·exact .inr rfl
       ·exact hE
    split at h
    ·have hop:=hop [] rfl hk
     split at h
     ·refine uO (λv K' q=>?_) (λ_ _ q=>q.elim) (nR hop (hmen []) h)
      obtain⟨rfl,q⟩:=q
      rw[uP]at q
      obtain⟨G',m',h',hG',hr'⟩:=uS q hG rfl hdd hr1
      exact ih _ G' m' _ _ _ h' hG' hrest hr' (.cons (lG hop) ht)
     ·refine uO (λv K' q=>?_) (λp K' q=>hpanc hop p K' (by rw[NR]at q;exact q)) (nR hop (hmen []) h)
      rw[uP,DK,Yv,oI]at q
      have hE:∀j,(geM [] m G).get j = .top\/(geM [] m G).get j=env1.get j:=λj=>(tH hG rfl j).elim .inl λh=>(hr1.get j).imp (λh2=>h.trans h2) λh2=>h.trans h2
      have hD:(geM [] m G).get gz=env1.get gz:=by rw[geM_sem',nC hG,hr1.df]
      refine ih _ [] _ _ _ _ q trivial hrest ⟨λj=>?_,?_,λid h=>?_⟩ (.cons (lG hop) ht)
      ·cases hod:o.dst with
       |none=>exact hE j
       |some d=>
        simp only[sem,Env.set,Env.get_cons]
        split
        ·right;rfl
        ·exact hE j
      ·cases hod:o.dst with
       |none=>exact hD
       |some d=>simp only[sem,Env.set,Env.get_cons,if_neg (hdd d hod),hD]
      ·cases hod:o.dst with
       |none=>rw[hod]at h;exact hmen [] id h
       |some d=>
        rw[hod]at h
        simp only[allM,Env.set,rX,Bool.or_eq_true]at h ⊢
        exact h.imp (λh=>h) (hmen [] id)
    ·have hop:=hop ch hch hk
     split at h
     ·obtain⟨hpk,v,hv,h⟩:=h
      refine uO (λv' K' q=>?_) (λ_ _ q=>q.elim) (nR hop (hmen ch) (hv rfl))
      obtain⟨rfl,rfl⟩:=q
      obtain⟨G',m',h',hG',hr'⟩:=uS h hG hch hdd hr1
      exact ih _ G' m' _ _ _ h' hG' hrest hr' (.cons (lG hop) ht)
     ·refine uO (λv K' q=>?_) (λ_ _ q=>q.elim) (nR hop (hmen ch) h.out.2)
      rw[uP,DK,z4o,oI]at q
      have hE:∀j,(geM ch m G).get j = .top\/(geM ch m G).get j=env1.get j:=λj=>(tH hG hch j).elim .inl λh=>(hr1.get j).imp (λh2=>h.trans h2) λh2=>h.trans h2
      have hD:(geM ch m G).get gz=env1.get gz:=by rw[geM_sem',nC hG,hr1.df]
      refine ih _ [] _ _ _ _ q trivial hrest ⟨λj=>?_,?_,λid h=>?_⟩ (.cons (lG hop) ht)
      ·cases hod:o.dst with
       |none=>exact hE j
       |some d=>
        simp only[sem,Env.set,Env.get_cons]
        split
        ·right;rfl
        ·exact hE j
      ·cases hod:o.dst with
       |none=>exact hD
       |some d=>simp only[sem,Env.set,Env.get_cons,if_neg (hdd d hod),hD]
      ·cases hod:o.dst with
       |none=>rw[hod]at h;exact hmen ch id h
       |some d=>
        rw[hod]at h
        simp only[allM,Env.set,rX,Bool.or_eq_true]at h ⊢
        exact h.imp (λh=>h) (hmen ch id)
  -- a path on which it does not
  have skip:g=false->∀env1:Env,(∀j,env1.get j=env.get j)->(∀id,fU id env1=true->fU id env=true) ->
    rD T A B ops (λtr env K=>chkP T ops env0 K0 tr/\∃env2:Env,(∀j,env2.get j = .top\/env2.get j=env.get j)/\env2.get gz=env.get gz/\QQ env2 K) (λkp p K2 tr=>NP T ops env0 K0 tr kp/\∃N,jm T N kp 0 tr=true/\PP p (sQ ops.toList env0) (sS N K2)) rest (⟨o,env1,.data (.val undef),K,K,false⟩::tr') (env1.set o.dst (.data (.val undef))) K:=by
   intro hg env1 hE1 hM1
   subst hg
   have hr1:zal env1 m G:=⟨λj=>by rw[hE1];exact hr.get j,by rw[hE1];exact hr.df,λid h=>hr.men id (hM1 id h)⟩
   split at h
   ·rename_i v hv
    rw[uP]at h
    obtain⟨G',m',h',hG',hr'⟩:=uS h hG hch hdd hr1
    exact ih _ G' m' K _ _ h' hG' hrest hr' (.cons Fj ht)
   ·split at h
    ·exact h.elim
    ·split at h
     ·simp[chB]at hch
     ·split at h
      ·obtain⟨hpk,v,hv,h⟩:=h
       obtain⟨G',m',h',hG',hr'⟩:=uS h hG hch hdd hr1
       exact ih _ G' m' _ _ _ h' hG' hrest hr' (.cons Fj ht)
      ·exact absurd h.out.1 (by decide)
  unfold rD
  rcases hgd with⟨hgn,hg,_⟩ |⟨j,want,d,hgs,hd,hgd⟩
  ·simp only[hgn]
   exact run hg env (λ_=>rfl) λ_ h=>h
  ·simp only[hgs,hd]
   rcases hgd with⟨c,hc,hcg⟩ |⟨hc,hg⟩
   ·have hcd:env.get d = .data (.val (.bool c)):=by
     rcases hr.get d with q |q
     ·rw[hc]at q;simp at q
     ·rw[<-q,hc]
    simp only[hcd]
    unfold Br
    cases hg:g with
    |true=>
     rw[hg]at hcg
     have:c=want:=by simpa using hcg
     subst this
     simp only[hcg]
     exact run hg _ (fun j => by rw[Env.get_cons];split;·rename_i e;rw[<-e,hcd];rfl
                                 ·rfl) λid h=>by rw[rX]at h;simpa[AV.b,AV.men]using h
    |false=>
     rw[hg]at hcg
     simp only[hcg]
     have hnw:(!want)=c:=by cases c<;>cases want<;>simp_all
     rw[hnw]
     exact skip hg _ (fun j => by rw[Env.get_cons];split;·rename_i e;rw[<-e,hcd];rfl
                                  ·rfl) λid h=>by rw[rX]at h;simpa[AV.b,AV.men]using h
   ·have hcd:env.get d = .data (.val undef):=by
     rcases hr.get d with q |q
     ·rw[hc]at q;simp at q
     ·rw[<-q,hc]
    simp only[hcd,undef]
    exact skip hg env (λ_=>rfl) λ_ h=>h
end
theorem eX.shift{N N':aT}{M M':Mem}{w w':World}{id:Nat}{blk:Block}(h:eX N M w id blk)(hid:M' id=M id)(k:fH w (Fb N M) w' (Fb N' M'))(hsz:w.heap.size<=w'.heap.size)
  (sh:∀b arr t,dI w b arr t->∃arr',dI w' b arr' t/\arr'.size=arr.size) (hb:∀b o,M.R b o->w'.heap[b]? = w.heap[b]?) (hm:∀id',blk.men id'=true->Tr M M' id'):eX N' M' w' id blk:=by
 cases blk with
 |cells cs=>
  obtain⟨b,arr,t,e1,e2,e3,e4⟩:=h
  exact⟨b,arr,t,hid.trans e1,(hb b 0 ⟨id,_,e1,rfl⟩).trans e2,e3,λi c e=>(e4 i c e).keep2 k sh λid' hi=>hm id' (by simp only[Block.men];exact lm e hi)⟩
 |arr vr sz es=>
  rcases h with⟨b,arr,t,e1,e2,e3,e4,e5⟩ |⟨e1,e2⟩
  ·exact .inl ⟨b,arr,t,hid.trans e1,(hb b 0 ⟨id,_,e1,rfl⟩).trans e2,e3,e4,λi j e d he hd=>⟨(e5 i j e d he hd).1.keep k,(e5 i j e d he hd).2⟩⟩
  ·exact .inr ⟨hid.trans e1,e2⟩
 |tok sz n=>
  rcases h with⟨e1,e2⟩ |⟨b,arr,t,e1,e2⟩
  ·exact .inl ⟨hid.trans e1,e2⟩
  ·obtain⟨arr',e3,_⟩:=sh b arr t e2
   exact .inr ⟨b,arr',t,hid.trans e1,e3⟩
 |map g l es=>
  obtain⟨b,mes,clock,e1,e2,e3,est,e4⟩:=h
  exact⟨b,mes,clock,hid.trans e1,(hb b 0 ⟨id,_,e1,rfl⟩).trans e2,e3,est,λi x e=>by
   obtain⟨f0,m',f1,f2,f3⟩:=e4 i x e
   exact⟨f0,m',f1,f2.keep k,f3.keep k⟩⟩
 |dead=>trivial
 |adr i b=>exact aH.keep2 h k sh λid' hi=>hm id' hi
 |rnd R=>
  obtain⟨l,S,e1,e2⟩:=h
  exact⟨l,S,hid.trans e1,R.keep e2 (λb o hS=>.inr ⟨_,_,hid.trans e1,o,Nat.le_refl _,hS⟩) hsz (λb o hS=>hb b o ⟨id,_,e1,o,Nat.le_refl _,hS⟩) k sh⟩
abbrev yR(F:aT)(Mb:Mem):aT:=λb o=>F b o/\¬Mb.R b o
structure RB(rec:Go.Loop)(l0:Nat)(bk:List Nat)(Mτ:Mem)(tmps:Array Value)(e0:Env)(H:Heap)(S:Nat->Nat->Prop)(F:aT)(w:World)(Mb:Mem):Prop where
 dom:∀id,id ∉ bk->Mb id=none
 own:∀b o,S b o↔b=l0\/Mb.R b o
 foe:∀b o,S b o->F b o
 lrec:w.heap[l0]? = some (.loop rec)
 lfree:∀o,¬Mb.R l0 o
 disj:∀id id' ow ow' b o,id≠id'->Mb id=some ow->Mb id'=some ow'->ow.has b o->ow'.has b o->False
 tr:∀id∈bk,Tr Mτ Mb id
 heap:∀id blk,H.get id=some blk->eX (yR F Mb) Mb w id blk
 env:∀j,aH (yR F Mb) Mb w (e0.get j) (tmps.getD j undef)
theorem OA{F:aT}{Mb:Mem}(h:∀b o,Mb.R b o->F b o):Fb (yR F Mb) Mb=F:=by
 funext b o
 apply propext
 constructor
 ·rintro(h1 |h1)<;>simp_all
 ·intro h1
  by_cases h2:Mb.R b o
  ·exact .inr h2
  ·exact .inl ⟨h1,h2⟩
section
variable {rec : Go.Loop} {l0 : Nat} {bk : List Nat} {Mτ : Mem} {tmps : Array Value} {e0 : Env} {H : Heap} {S : Nat → Nat → Prop} {F F' : aT} {w w' : World} {Mb : Mem}
theorem RB.sub(h:RB rec l0 bk Mτ tmps e0 H S F w Mb):∀b o,Mb.R b o->F b o:=λb o hR=>h.foe b o ((h.own b o).2 (.inr hR))
theorem RB.fb(h:RB rec l0 bk Mτ tmps e0 H S F w Mb):Fb (yR F Mb) Mb=F:=OA h.sub
theorem RB.keep(h:RB rec l0 bk Mτ tmps e0 H S F w Mb)(hF:∀b o,S b o->F' b o)(hsz:w.heap.size<=w'.heap.size)(hs:∀b o,S b o->w'.heap[b]? = w.heap[b]?)(k:fH w F w' F')
  (sh:∀b arr t,dI w b arr t->∃arr',dI w' b arr' t/\arr'.size=arr.size):RB rec l0 bk Mτ tmps e0 H S F' w' Mb:=by
 have e1:Fb (yR F' Mb) Mb=F':=OA λb o hR=>hF b o ((h.own b o).2 (.inr hR))
 have k':fH w (Fb (yR F Mb) Mb) w' (Fb (yR F' Mb) Mb):=by rw[h.fb,e1];exact k
 exact⟨h.dom,h.own,hF,(hs l0 0 ((h.own _ _).2 (.inl rfl))).trans h.lrec,h.lfree,h.disj,h.tr,
  λid blk hg=>(h.heap id blk hg).shift rfl k' hsz sh (λb o hR=>hs b o ((h.own b o).2 (.inr hR))) λ_ _=>.inl rfl,
  λj=>(h.env j).keep2 k' sh λ_ _=>.inl rfl⟩
end
def wV(rec:Go.Loop)(l0:Nat)(bk:List Nat)(Mτ:Mem)(tmps:Array Value)(e0:Env)(H:Heap):RP:=
 ⟨λl S F w=>l=l0/\∃Mb,RB rec l0 bk Mτ tmps e0 H S F w Mb,λh1 h2 h3 h4 h5 h6=>by
  obtain⟨e,Mb,rb⟩:=h1
  exact⟨e,Mb,rb.keep h2 h3 h4 h5 h6⟩⟩
theorem RB.memOk{rec:Go.Loop}{l0:Nat}{bk:List Nat}{Mτ:Mem}{tmps:Array Value}{e0:Env}{H:Heap}{S:Nat->Nat->Prop}{N:aT}{M:Mem}{w:World}{Mb:Mem}{y:Nat}
  (h:RB rec l0 bk Mτ tmps e0 H S (Fb N M) w Mb) (m:bW N M w) (hM:M y=some (.rnd l0 S)):bW (yR (Fb N M) Mb) Mb w:=by
 have hS:∀b o,Mb.R b o->M.R b o:=λb o hR=>⟨y,_,hM,o,Nat.le_refl _,(h.own b o).2 (.inr hR)⟩
 have hlt:∀b o,M.R b o->b<w.heap.size:=λb o ⟨id,ow,h1,h2⟩=>(m.dom id ow b o h1 h2).1
 refine⟨h.disj,λid ow b o h1 h2=>⟨hlt b o (hS b o ⟨id,ow,h1,h2⟩),λh3=>h3.2 ⟨id,ow,h1,h2⟩⟩,λb o h1=>?_,λg cs hg=>⟨λo ho=>⟨.inl ((m.glob g cs hg).1 o ho),?_⟩,(m.glob g cs hg).2.1,λj v hj=>⟨?_,((m.glob g cs hg).2.2 j v hj).2⟩⟩⟩
 ·rcases h1.1 with h2 |h2
  ·exact m.foes b o h2
  grind
 ·intro hR
  obtain⟨id,ow,h1,h2⟩:=hS g o hR
  exact m.globNone hg h1 h2
 ·rintro⟨h1 |⟨id,ow,h1,h2⟩,_⟩
  ·exact((m.glob g cs hg).2.2 j v hj).1 h1
  ·exact m.globFree hg hj h1 h2
theorem Ak{n:Nat}(hn:n<=gz):∀{ps:List Nat} {xs:List D} {e:Env},(∀p∈ps,p<n)->(iR ps xs e).get gz=e.get gz
 | [],_,e,_=>by simp[iR]
 |p::ps,[],e,_=>by simp[iR]
 |p::ps,x::xs,e,h=>by
  rw[iR,Ak hn λq hq=>h q (by simp[hq]),Env.get_cons,if_neg]
  have:=h p (by simp);omega
theorem Am{N:aT}{M:Mem}{w:World}{n:Nat}:∀{ps:List Nat} {xs:List D} {vs:List Value} {e:Env} {tmps:Array Value},(∀p∈ps,p<n)->tmps.size=n->ps.length=xs.length->vs.length=xs.length ->
  (∀(i:Nat) x,xs[i]? = some x->aH N M w (.data x) (vs.getD i undef))->(∀j,aH N M w (e.get j) (tmps.getD j undef)) ->
  ((ps.zip vs).foldl (λt (p:Nat×Value)=>t.setIfInBounds p.1 p.2) tmps).size=n/\∀j,aH N M w ((iR ps xs e).get j) (((ps.zip vs).foldl (λt (p:Nat×Value)=>t.setIfInBounds p.1 p.2) tmps).getD j undef)
 | [],[],vs,e,tmps,_,hs,_,_,_,he=>⟨hs,he⟩
 |p::ps,x::xs,[],e,tmps,_,_,_,h,_,_=>by simp at h
 |p::ps,x::xs,v::vs,e,tmps,h1,hs,h2,h3,hx,he=>by
  rw[List.zip_cons_cons]
  refine Am (λq hq=>h1 q (by simp[hq])) (by simpa using hs) (by simpa using h2) (by simpa using h3) (λi y hy=>by simpa using hx (i+1) y (by simpa using hy)) λj=>?_
  rw[Env.get_cons]
  split
  ·have:=hx 0 x rfl
   simp_all
  simp_all
def pg(rec:Go.Loop):Option RK->Go.Loop
 |some (.pan _)=>{ rec with state:=.busy }
 |k=>{ rec with state:=if(k.map RK.code).isNone then .ready else .done,pending:=k.map RK.code }
theorem Ap{w:World}{l:Nat}{o:Obj}(h:w.heap[l]? = some o):w.putObj l o=w:=by
 have e:w.heap.setIfInBounds l o=w.heap:=by
  grind
 unfold World.putObj;rw[e]
def QX(P:Program)(l:Nat)(R:Ending->World->Prop):Exit->Act->World->Prop
 | .panic chain,a,w=>a.defers = []/\R (.panicked chain) w
 |e,a,w=>roundPost P l R e a w
theorem QY{P:Program}{l:Nat}{f:FuncId}{tmps:Array Value}{assign body:Code}{w:World}{R:Ending->World->Prop}(hf:∃fn,P.funcs[f]? = some fn)
  (h:ny (some l) P assign (Exit.then (λa₁ w₁=>∃w₂,(Instr.beginRound l).run P w₁ = .ok () w₂/\ny (some l) P body (QX P l R) a₁ w₂) (λ_ _ _=>False)) { tmps:=tmps,defers:=[] } w) :
  RoundIn Fence.wide 0 P l f tmps assign body w R:=by
 refine⟨trivial,λc cs hr=>?_⟩
 let b:Frame:={ (default:Frame)with fn:=f,kind:=.normal,roundOf:=some l }
 have hb0:Frame.round l f tmps assign body .normal=b.atR { tmps:=tmps,defers:=[] } [.code assign,.beginRound,.code body]:=by
  rfl
 have room:∀n,(FR (some l)).room n:=ni _
 obtain⟨e,a1,w1,hq,harr⟩:=h b [.beginRound,.code body] (c::cs) rfl hf
 cases e with
 |normal=>
  obtain⟨w2,hbr,hbody⟩:=hq
  have s1:StepsIn (Machine.fenced P (FR (some l))) P (lone (b.atR a1 [.beginRound,.code body]) (c::cs) w1) (lone (b.atR a1 [.code body]) (c::cs) w2):=
   .one (fenced_calm (n:=0) (fr:=b.atR a1 [.beginRound,.code body]) trivial (room _) rfl) (stepR_beginRound rfl hbr)
  obtain⟨e2,a2,w3,hq2,harr2⟩:=hbody b [] (c::cs) rfl hf
  have go:=StepsIn.trans harr s1
  cases e2 with
  |normal=>
   obtain⟨v,w4,hend,hR⟩:=hq2
   exact⟨.returned v,w4,hR,go.trans (StepsIn.trans harr2 (.one (fenced_calm (n:=0) (fr:=b.atR a2 []) trivial (room _) rfl) (stepR_round_end rfl rfl hend)))⟩
  |ret=>
   obtain⟨v,w4,hend,hR⟩:=hq2
   obtain⟨k1,hs⟩:=harr2.2 rfl
   exact⟨.returned v,w4,hR,go.trans (StepsIn.trans hs (.one (fenced_calm (n:=0) (fr:=b.atR a2 (.code .ret::k1)) trivial (room _) rfl) (stepR_round_ret rfl rfl hend)))⟩
  |exit id=>
   obtain⟨v,w4,hend,hR⟩:=hq2
   obtain⟨k1,hk,hs⟩:=harr2.2 rfl rfl
   exact⟨.returned v,w4,hR,go.trans (StepsIn.trans hs (.one (fenced_calm (n:=0) (fr:=b.atR a2 (.code (.exit id)::k1)) trivial (room _) rfl) (stepR_round_exit rfl rfl hk hend)))⟩
  |goto t=>
   obtain⟨v,w4,hend,hR⟩:=hq2
   obtain⟨k1,hk,hs⟩:=harr2.2 rfl rfl
   exact⟨.returned v,w4,hR,go.trans (StepsIn.trans hs (.one (fenced_calm (n:=0) (fr:=b.atR a2 (.code (.goto t)::k1)) trivial (room _) rfl) (stepR_round_goto rfl rfl hk hend)))⟩
  |panic chain=>
   obtain⟨hd,hR⟩:=hq2
   obtain⟨todo,hs⟩:=harr2
   obtain⟨fn,hf⟩:=hf
   have hl:({ b.atR a2 todo with mode:=.panicking chain }:Frame).leaving P w3 (.panicked chain):=⟨rfl,hd,fn,hf⟩
   exact⟨.panicked chain,w3,hR,go.trans (StepsIn.trans hs (.one (fenced_leaving (n:=0) trivial (room _) hl) (step_leave_panicked hl)))⟩
  |outgrown=>exact hq2.elim
 |exit id=>exact hq.elim
 |goto t=>exact hq.elim
 |ret=>exact hq.elim
 |panic chain=>exact hq.elim
 |outgrown=>exact hq.elim
theorem UL{P:Program}{l:Nat}{r:Go.Loop}{w:World}{vs:List Value}(h:w.heap[l]? = some (.loop r))(hs:vs.length=r.params.size) :
  (Instr.yield l vs.toArray).run P w = .ok (.round l r.fn ((r.params.toList.zip vs).foldl (λt (p:Nat×Value)=>t.setIfInBounds p.1 p.2) r.tmps) r.assign r.body) w:=by
 rw[run_yield h (by simpa using hs)]
 rw[<-Array.foldl_toList,Array.toList_zip]
theorem YC{M0 M:Mem}{w0 w:World}{b:Nat}(e:Evo M0 w0 M w)(hb:b<w0.heap.size)(h:∀o,¬M0.R b o):∀o,¬M.R b o:=λo h2=>h o (e.own b o hb h2)
theorem UM{rec rec' recq:Go.Loop}{l0:Nat}{bk:List Nat}{Mτ:Mem}{tmps:Array Value}{e0:Env}{H H':Heap}{S:Nat->Nat->Prop}{N:aT}{M:Mem}{w:World}{Mb M2:Mem}{n:Nat}{a:Act}{wq:World}[Lo]
  (rb:RB rec l0 bk Mτ tmps e0 H S (Fb N M) w Mb) (m:bW N M w) (hM:M 1000000=some (.rnd l0 S)) (hlent:∀id∈bk,bP id=true) (hk:∀id b,H'.get id=some b->id∈bk)
  (hwq:wq.heap[l0]? = some (.loop recq)) (ho:wq.os=w.os/\wq.tape=w.tape/\wq.output=w.output) (hwsz:w.heap.size<=wq.heap.size)
  (heb:∀b,b<w.heap.size->(∀o,¬Mb.R b o)->b≠l0->wq.heap[b]? = w.heap[b]?) (hec:∀b o u,¬Mb.R b o->w.cell? ⟨b,o,none⟩=some u->wq.cell? ⟨b,o,none⟩=some u)
  (hes:∀b arr t,dI w b arr t->∃arr',dI wq b arr' t/\arr'.size=arr.size) (heo:∀b o,b<w.heap.size->M2.R b o->Mb.R b o) (het:∀id,bP id=true->Tr Mb M2 id)
  (s:St (yR (Fb N M) Mb) M2 n [] H' a wq) :
  ∃M',Step M w M' (wq.putObj l0 (.loop rec')) [1000000]/\Tr M M' 1000000/\eX N M' (wq.putObj l0 (.loop rec')) 1000000 (.rnd (wV rec' l0 bk Mτ tmps e0 H'))/\∀b o,Fb N M' b o->Fb (yR (Fb N M) Mb) M2 b o:=by
 have hl0:l0<wq.heap.size:=(Array.getElem?_eq_some_iff.1 hwq).1
 have hl1:l0<w.heap.size:=(Array.getElem?_eq_some_iff.1 rb.lrec).1
 have hfree:∀o,¬M2.R l0 o:=λo h=>rb.lfree o (heo l0 o hl1 h)
 have q:Quiet M2 wq (wq.putObj l0 (.loop rec')) l0:=qg hwq (λ_ _ _ h=>by cases h) hfree _
 obtain⟨Mr,hMr⟩:∃Mr:Mem,Mr=λid=>match og bk id with |true=>M2 id |false=>none:=⟨_,rfl⟩
 have hin:∀id,id∈bk->Mr id=M2 id:=λid h=>by grind[bD]
 have hout:∀id,id ∉ bk->Mr id=none:=λid h=>by
  grind[og,id,absurd,bD]
 have hRr:∀b o,Mr.R b o->M2.R b o:=by
  rintro b o ⟨id,ow,h1,h2⟩
  by_cases h:id∈bk
  ·rw[hin id h]at h1;exact⟨id,ow,h1,h2⟩
  simp_all
 obtain⟨S',hS'⟩:∃S':Nat->Nat->Prop,S'=λb o=>b=l0\/Mr.R b o:=⟨_,rfl⟩
 obtain⟨M',hM'⟩:∃M':Mem,M'=λid=>if id=1000000 then some (.rnd l0 S')else M id:=⟨_,rfl⟩
 have hMy:M' 1000000=some (.rnd l0 S'):=by rw[hM'];simp
 have hMo:∀id,id≠1000000->M' id=M id:=λid h=>by simp_all
 have hSl:∀o,M.R l0 o:=λo=>⟨_,_,hM,o,Nat.le_refl _,(rb.own _ _).2 (.inl rfl)⟩
 have hSb:∀b o,Mb.R b o->S b o:=λb o h=>(rb.own b o).2 (.inr h)
 have mR:∀b o,M2.R b o->b<wq.heap.size:=λb o ⟨id,ow,h1,h2⟩=>(s.mem.dom id ow b o h1 h2).1
 -- what is forbidden
 have hfb:∀b o,Fb N M' b o->Fb (yR (Fb N M) Mb) M2 b o:=by
  intro b o h
  have other:Fb N M b o->¬Mb.R b o->Fb (yR (Fb N M) Mb) M2 b o:=λh1 h2=>.inl ⟨h1,h2⟩
  rcases h with h |⟨id,ow,h1,h2⟩
  ·exact other (.inl h) λh3=>(m.dom _ _ b o hM ⟨o,Nat.le_refl _,hSb b o h3⟩).2 h
  ·by_cases hid:id=1000000
   ·subst hid
    rw[hMy]at h1
    simp only[Option.some.injEq]at h1;subst h1
    obtain⟨i,hi,h3⟩:=h2
    rw[hS']at h3
    rcases h3 with rfl |h3
    ·exact other (.inr (hSl o)) (rb.lfree o)
    ·obtain⟨id',ow',h4,h5⟩:=hRr b i h3
     exact .inr ⟨id',ow',h4,Own.has_of h5 hi⟩
   ·rw[hMo id hid]at h1
    exact other (.inr ⟨id,ow,h1,h2⟩) λh3=>m.disj id 1000000 ow _ b o hid h1 hM h2 ⟨o,Nat.le_refl _,hSb b o h3⟩
 have hsub:∀b o,Mr.R b o->Fb N M' b o:=λb o h=>.inr ⟨1000000,_,hMy,o,Nat.le_refl _,by simp_all⟩
 have efb:Fb (yR (Fb N M') Mr) Mr=Fb N M':=OA hsub
 have kq:fH wq (Fb (yR (Fb N M) Mb) M2) (wq.putObj l0 (.loop rec')) (Fb (yR (Fb N M') Mr) Mr):=by
  intro b o u hf hc
  rw[efb]
  exact⟨λh=>hf (hfb b o h),(q.keeps (λ_ _=>False) b o u (λh=>h) hc).2⟩
 have htrr:∀id,Tr M2 Mr id:=by
  intro id
  by_cases h:id∈bk
  ·exact .inl (hin id h)
  ·exact .inr (.inr (.inr (.inr (.inl (hout id h)))))
 have hpb:∀b,b≠l0->(wq.putObj l0 (.loop rec')).heap[b]? = wq.heap[b]?:=λb h=>q.other b h
 have ho2:=ho
 refine⟨M',⟨ho.1,ho.2.1,ho.2.2,by simp_all,?_,?_,?_,?_,?_,?_⟩,?_,⟨l0,S',hMy,rfl,Mr,⟨hout,λb o=>by rw[hS'],λb o h=>?_,World.putObj_heap_same hl0,λo h=>hfree o (hRr _ _ h),?_,?_,?_,?_⟩⟩,hfb⟩
 ·intro b hb h
  have hns:∀o,¬S b o:=λo hs=>h 1000000 (by simp) _ o hM ⟨o,Nat.le_refl _,hs⟩
  have hne:b≠l0:=λe=>hns 0 ((rb.own _ _).2 (.inl e))
  grind
 ·intro b o u h hc
  have hns:¬S b o:=λhs=>h 1000000 (by simp) _ hM ⟨o,Nat.le_refl _,hs⟩
  exact(q.keeps (λ_ _=>False) b o u (λh=>h) (hec b o u (λhR=>hns (hSb b o hR)) hc)).2
 ·grind
 ·simp_all
 ·intro id hid ow b o h1 h2
  have hid:id=1000000:=by simpa using hid
  subst hid
  rw[hMy]at h1
  simp only[Option.some.injEq]at h1;subst h1
  obtain⟨i,hi,h3⟩:=h2
  rw[hS']at h3
  rw[World.putObj_size]
  rcases h3 with rfl |h3
  ·exact⟨hl0,.inr ⟨1000000,by simp,_,hM,i,hi,(rb.own _ _).2 (.inl rfl)⟩⟩
  ·refine⟨mR b i (hRr b i h3),?_⟩
   rcases Nat.lt_or_ge b w.heap.size with hlt |hge
   ·exact .inr ⟨1000000,by simp,_,hM,i,hi,hSb b i (heo b i hlt (hRr b i h3))⟩
   omega
 ·simp
 ·exact .inr (.inr (.inr (.inr (.inr (.inl ⟨l0,S,S',hM,hMy⟩)))))
 ·exact .inr ⟨1000000,_,hMy,o,Nat.le_refl _,h⟩
 ·intro id id' ow ow' b o hne h1 h2
  by_cases h3:id∈bk
  ·by_cases h4:id'∈bk
   ·rw[hin id h3]at h1;rw[hin id' h4]at h2
    exact s.mem.disj id id' ow ow' b o hne h1 h2
   simp_all
  simp_all
 ·intro id hid
  have h1:=(rb.tr id hid).trans (het id (hlent id hid))
  grind[Tr,id]
 ·intro id blk hg
  exact(s.heap id blk hg).shift (hin id (hk id blk hg)) kq (Nat.le_of_eq q.size.symm) q.shape (λb o hR=>q.at hR) λid' _=>htrr id'
 ·intro j
  refine(rb.env j).keep2 (λb o u hf hc=>?_) (λb arr t h=>?_) λid _=>?_
  ·rw[rb.fb]at hf
   rw[efb]
   refine⟨λh=>?_,(q.keeps (λ_ _=>False) b o u (λh=>h) (hec b o u (λhR=>hf (rb.sub b o hR)) hc)).2⟩
   rcases hfb b o h with h1 |h1
   ·exact hf h1.1
   ·exact hf (rb.sub b o (heo b o (block_lt hc) h1))
  ·grind
  grind[id,Tr]
theorem DN{P:Program}{rec:Go.Loop}{n:Nat}{bk:List Nat}{l0:Nat}{Mτ:Mem}{e0:Env}{H H':Heap}{xs:List D}{k:Option RK}(hfn:∃fn,P.funcs[rec.fn]? = some fn)(hready:rec.state = .ready)
  (hsa:dw n rec.assign=true) (hsb:dw n rec.body=true) (hna:pY rec.assign=true) (hnb:pY rec.body=true) (hps:rec.params.size=xs.length) (hpn:∀p∈rec.params.toList,p<n) (hts:rec.tmps.size=n) (hn:n<=gz)
  (he0:e0.get gz = .top) (hlent:∀id∈bk,bP id=true) (hk:∀id b,H'.get id=some b->id∈bk)
  (hA:Uj P rec.assign (Oo λe K=>Uj P rec.body (Ot k H') e K) (iR rec.params.toList xs e0) H) :
  KJ (Yields P) (.yld 1000000::xs.map .data) [(1000000,.rnd (wV rec l0 bk Mτ rec.tmps e0 H))] (RK.yo k) [(1000000,.rnd (wV (pg rec k) l0 bk Mτ rec.tmps e0 H'))]:=by
 intro N M w args m _ hsz harg hblk
 obtain⟨l,S,hM,rfl,Mb,rb⟩:=hblk 1000000 _ (by rfl)
 -- the arguments
 obtain⟨x,vs,hargs⟩:∃x vs,args = #[x]++(vs:List Value).toArray:=by
  cases h:args.toList with
  |nil=>simp_all
  |cons x vs=>exact⟨x,vs,by grind⟩
 subst hargs
 have hvs:vs.length=xs.length:=by simpa using hsz
 have hx:x = .func (.yield l) #[] #[]:=by
  have h0:=harg 0 (.yld 1000000) rfl
  have e:(#[x]++vs.toArray).getD 0 undef=x:=by simp
  rw[e]at h0
  cases h0 with
  |yld _ l' h=>rw[h l S hM]
 subst hx
 have hvr:∀(i:Nat) y,xs[i]? = some y->aH (yR (Fb N M) Mb) Mb w (.data y) (vs.getD i undef):=by
  intro i y hy
  have h0:=harg (i+1) (.data y) (by simp[hy])
  have e:(#[Value.func (.yield l) #[] #[]]++vs.toArray).getD (i+1) undef=vs.getD i undef:=by simp
  rw[e]at h0
  cases h0 with
  |data _ _ h=>exact .data _ _ (by rw[rb.fb];exact h)
 have hrun:=UL (P:=P) rb.lrec (vs:=vs) (by rw[hvs,hps])
 refine⟨l,vs.toArray,rfl,_,_,_,_,hrun,QY hfn ?_⟩
 letI:Lo:=⟨λ_=>False⟩
 obtain⟨hsz1,henv1⟩:=Am (N:=yR (Fb N M) Mb) (M:=Mb) (w:=w) (n:=n) (vs:=vs) hpn hts (by omega) hvs hvr rb.env
 have hdf:(iR rec.params.toList xs e0).get gz = .top:=(Ak hn hpn).trans he0
 have st0:St (yR (Fb N M) Mb) Mb n (iR rec.params.toList xs e0) H { tmps:=_,defers:=[] } w:=
  ⟨hsz1,hn,yE.nil (λcs e=>by simp_all),henv1,rb.heap,rb.memOk m hM⟩
 refine hA (some l) _ n Mb w _ Mb _ w hsa (λ_=>hna) (λh=>by cases h) st0 (Evo.refl Mb w) ?_
 intro o env K M1 a w1 hQ s1 e1
 obtain⟨rfl,hB⟩:=hQ
 have hl1:l<w.heap.size:=(Array.getElem?_eq_some_iff.1 rb.lrec).1
 have hr1:w1.heap[l]? = some (.loop rec):=(e1.block l hl1 rb.lfree).trans rb.lrec
 have hfree1:=YC e1 hl1 rb.lfree
 have q1:Quiet M1 w1 (w1.putObj l (.loop { rec with state:=.busy })) l:=qg hr1 (λ_ _ _ h=>by cases h) hfree1 _
 refine⟨_,run_beginRound hr1 hready,?_⟩
 have sv:=q1.sv s1.sv
 have s2:St (yR (Fb N M) Mb) M1 n env K a (w1.putObj l (.loop { rec with state:=.busy })):=
  ⟨s1.size,s1.big,⟨s1.defers.real.keep (q1.keeps _) q1.shape λ_ _=>.inl rfl,s1.defers.nodup,λb hb=>(s1.defers.mark b hb).2.elim⟩,sv.env,sv.heap,sv.mem⟩
 refine hB (some l) _ n M1 _ _ M1 a _ hsb (λ_=>hnb) (λh=>by cases h) s2 (Evo.refl M1 _) ?_
 intro o env2 K2 M2 a2 w2 hQ s3 e3
 obtain⟨rfl,hw⟩:=hQ
 obtain⟨M3,s4,e4,hM3⟩:∃M3,St (yR (Fb N M) Mb) M3 n [] H' a2 w2/\Evo M1 (w1.putObj l (.loop { rec with state:=.busy })) M3 w2/\∀d,k=some (.pan d)->M3=M2:=by
  have weak:yx env2 K2 [] H'->∃M3,St (yR (Fb N M) Mb) M3 n [] H' a2 w2/\Evo M1 (w1.putObj l (.loop { rec with state:=.busy })) M3 w2:=λhw=>by
   rw[oJ]at hw
   exact s3.weak e3 hw
  match k,hw with
  |none,hw=>simp_all
  |some .ret,hw=>simp_all
  |some (.exit _),hw=>simp_all
  |some (.pan d),hw=>
   obtain⟨hd,hs⟩:=hw
   refine⟨M2,⟨s3.size,s3.big,?_,λj=>.top _,λid blk hg=>s3.heap id blk (Oq hs id blk hg),s3.mem⟩,e3,λ_ _=>rfl⟩
   have:=s3.defers
   rw[hd]at this
   exact this
 have hl2:l<(w1.putObj l (.loop { rec with state:=.busy })).heap.size:=by grind[World.putObj_size,Nat.lt_of_lt_of_le]
 have hr2:w2.heap[l]? = some (.loop { rec with state:=.busy }):=(e4.block l hl2 hfree1).trans (World.putObj_heap_same (Nat.lt_of_lt_of_le hl1 e1.size))
 have hos:w2.os=w.os:=e4.os.trans (q1.os.trans e1.os)
 have hcell:∀b o u,¬Mb.R b o->w.cell? ⟨b,o,none⟩=some u->w2.cell? ⟨b,o,none⟩=some u:=λb o u h hc=>
  e4.cell b o u (λh'=>h (e1.own b o (block_lt hc) h')) (q1.keeps (λ_ _=>False) b o u (λh=>h) (e1.cell b o u h hc)).2
 have hshape:∀b arr t,dI w b arr t->∃arr',dI w2 b arr' t/\arr'.size=arr.size:=by
  intro b arr t h
  obtain⟨a1,h1,h2⟩:=e1.shape b arr t h
  obtain⟨a2,h3,h4⟩:=q1.shape b a1 t h1
  obtain⟨a3,h5,h6⟩:=e4.shape b a2 t h3
  grind
 have hsz3:w.heap.size<=w2.heap.size:=Nat.le_trans e1.size (by have:=e4.size;simp_all)
 have key:=λrec'=>UM (rec':=rec') (bk:=bk) rb m hM hlent hk hr2 ⟨hos,e4.tape.trans (q1.tape.trans e1.tape),e4.output.trans (q1.output.trans e1.output)⟩ hsz3
  (λb hb h hne=>(e4.block b (by rw[World.putObj_size];exact Nat.lt_of_lt_of_le hb e1.size) (λo h'=>h o (e1.own b o hb h'))).trans ((q1.other b hne).trans (e1.block b hb h)))
  hcell hshape (λb o hb h=>e1.own b o hb (e4.own b o (by rw[World.putObj_size];exact Nat.lt_of_lt_of_le hb e1.size) h)) (λid h=>(e1.lent id h).trans (e4.lent id h)) s4
 have fin:∀jump:Option Code,pg rec k = { rec with state:=if jump.isNone then .ready else .done,pending:=jump }->∃v w',(Instr.endRound l jump).run P w2 = .ok v w' /\
   (∃M',Step M w M' w' (keys [(1000000,Block.rnd (wV (pg rec k) l bk Mτ rec.tmps e0 H'))])/\(∀id∈keys [(1000000,Block.rnd (wV rec l bk Mτ rec.tmps e0 H))],Tr M M' id)/\(∀id blk,Heap.get [(1000000,Block.rnd (wV (pg rec k) l bk Mτ rec.tmps e0 H'))] id=some blk->eX N M' w' id blk)/\(jU.ret (.b jump.isNone)).rel N M' w' (.returned v)):=by
  intro jump hj
  refine⟨_,_,run_endRound jump hr2,?_⟩
  have hj':({ { rec with state:=LoopState.busy } with state:=if jump.isNone then .ready else .done,pending:=jump }:Go.Loop)=pg rec k:=hj.symm
  rw[hj']
  obtain⟨M',h1,h2,h3,_⟩:=key (pg rec k)
  refine⟨M',h1,λid hid=>?_,λid blk hg=>?_,_,rfl,.data _ _ (.val _)⟩<;>grind[keys,List.mem_singleton,Heap.get_cons,Option.some.injEq,Heap.get]
 cases k with
 |none=>exact fin none rfl
 |some k=>
  cases k with
  |ret=>exact fin (some .ret) rfl
  |exit i=>exact fin (some (.exit i)) rfl
  |pan d=>
   intro v hv
   obtain rfl:=hM3 d rfl
   refine⟨s4.defers.none (λcs e=>by cases e) (λb h=>h),?_⟩
   obtain⟨M',h1,h2,h3,h4⟩:=key { rec with state:=.busy }
   rw[Ap hr2]at h1 h3
   refine⟨M',h1,λid hid=>?_,λid blk hg=>?_,v,rfl,?_⟩
   ·grind[keys,List.mem_singleton]
   ·rw[Heap.get_cons]at hg
    split at hg
    ·rename_i e;subst e;simp at hg;subst hg;exact h3
    grind[Heap.get]
   ·cases hv with
    |data _ _ h=>exact .data _ _ (h.keep λb o u hf hc=>⟨λh5=>hf (h4 b o h5),hc⟩)
end Go.Fw
namespace Go.Fw
variable [af] {N : aT} {rec : Go.Loop} {v : AV} {w : World} {P : Program} {R : lD}
theorem tJ{ρ:List (Nat×Nat)}:∀{x:AV} {id:Nat},(x.ren ρ).men id=true->∃k,x.men k=true/\rn ρ k=id:=by
 intro x id h
 have go:∀(cs:List AV),(∀c∈cs,(c.ren ρ).men id=true->∃k,c.men k=true/\rn ρ k=id)->AV.men.go id (AV.ren.go ρ cs)=true->∃k,AV.men.go k cs=true/\rn ρ k=id:=by
  intro cs
  induction cs with
  |nil=>intro _ h;simp[AV.men.go,AV.ren.go]at h
  |cons c r ih=>
   intro hc h
   simp only[AV.men.go,AV.ren.go]at h
   split at h
   ·rename_i hm
    obtain⟨k,h1,h2⟩:=hc c (by simp) hm
    exact⟨k,by simp[AV.men.go,h1],h2⟩
   ·obtain⟨k,h1,h2⟩:=ih (λc' h'=>hc c' (by simp[h'])) h
    refine⟨k,?_,h2⟩
    simp only[AV.men.go];split
    ·rfl
    ·exact h1
 match x with
 | .data _=>simp[AV.men,AV.ren]at h
 | .nilsl _=>simp[AV.men,AV.ren]at h
 | .top=>simp[AV.men,AV.ren]at h
 | .gs i _ _=>simp[AV.men,AV.ren]at h;exact⟨i,by simp[AV.men],h⟩
 | .own i _ _ _ _=>simp[AV.men,AV.ren]at h;exact⟨i,by simp[AV.men],h⟩
 | .ptr i _=>simp[AV.men,AV.ren]at h;exact⟨i,by simp[AV.men],h⟩
 | .eptr i _ _ _ _=>simp[AV.men,AV.ren]at h;exact⟨i,by simp[AV.men],h⟩
 | .map i=>simp[AV.men,AV.ren]at h;exact⟨i,by simp[AV.men],h⟩
 | .yld i=>simp[AV.men,AV.ren]at h;exact⟨i,by simp[AV.men],h⟩
 | .iface t v=>simp only[AV.men,AV.ren]at h;simp only[AV.men];exact tJ h
 | .fn f cs=>simp only[AV.men,AV.ren]at h;simp only[AV.men];exact go cs (λc hc hm=>tJ hm) h
 | .bnd f cs=>simp only[AV.men,AV.ren]at h;simp only[AV.men];exact go cs (λc hc hm=>tJ hm) h
 | .agg cs=>simp only[AV.men,AV.ren]at h;simp only[AV.men];exact go cs (λc hc hm=>tJ hm) h
 | .tuple cs=>simp only[AV.men,AV.ren]at h;simp only[AV.men];exact go cs (λc hc hm=>tJ hm) h
 | .dfr cs=>simp only[AV.men,AV.ren]at h;simp only[AV.men];exact go cs (λc hc hm=>tJ hm) h
termination_by x=>x
theorem LK{ρ:List (Nat×Nat)}{b:Block}{id:Nat}(h:(b.ren ρ).men id=true):∃k,b.men k=true/\rn ρ k=id:=by
 cases b with
 |cells cs=>
  have h:AV.men.go id (AV.ren.go ρ cs)=true:=h
  have:((AV.agg cs).ren ρ).men id=true:=by grind[AV.ren,AV.men]
  obtain⟨k,h1,h2⟩:=tJ this
  have h3:AV.men.go k cs=true:=by grind[AV.men]
  exact⟨k,h3,h2⟩
 |adr j c=>exact⟨j,Nat.beq_refl j,Nat.eq_of_beq_eq_true h⟩
 |_=>simp[Block.ren,Block.men]at h
theorem z5b{a b:List Nat}(h:meet a b=false):∀x∈a,x ∉ b:=by
 induction a with
 |nil=>simp
 |cons x r ih=>
  simp[meet]at h
  intro y hy hb
  rcases List.mem_cons.1 hy with rfl |hy<;>grind[bD]
theorem Step.trans{M M' M'':Mem}{w w' w'':World}{W W':List Nat}(m:bW N M w)(s:Step M w M' w' W)(k:Step M' w' M'' w'' W'):Step M w M'' w'' (W++W'):=by
 have own':∀id∈W',∀ow b o,M' id=some ow->ow.has b o->w.heap.size<=b\/∃id0∈W++W',∃ow0,M id0=some ow0/\ow0.has b o:=by
  intro id hid ow b o h1 h2
  by_cases h:id∈W
  ·rcases(s.own id h ow b o h1 h2).2 with h3 |⟨id0,h3,ow0,h4,h5⟩<;>grind
  ·rw[s.mem id h]at h1
   grind
 have m':=s.memOk m
 refine⟨k.os.trans s.os,k.tape.trans s.tape,k.output.trans s.output,Nat.le_trans s.size k.size,?_,?_,?_,?_,?_,?_⟩
 ·intro b hb h
  rw[k.block b (Nat.lt_of_lt_of_le hb s.size) λid hid ow o h1 h2=>?_,s.block b hb λid hid=>h id (by simp[hid])]
  grind
 ·intro b o u h hc
  refine k.cell b o u (λid hid ow h1 h2=>?_) (s.cell b o u (λid hid=>h id (by simp[hid])) hc)
  rcases own' id hid ow b o h1 h2 with h3 |⟨id0,h3,ow0,h4,h5⟩
  ·have:=block_lt hc;omega
  grind
 ·intro b arr t h
  obtain⟨a1,h1,h2⟩:=s.shape b arr t h
  obtain⟨a2,h3,h4⟩:=k.shape b a1 t h1
  grind
 ·intro id hid
  simp at hid
  rw[k.mem id hid.2,s.mem id hid.1]
 ·intro id hid ow b o h1 h2
  by_cases h:id∈W'
  ·obtain⟨h3,h4⟩:=k.own id h ow b o h1 h2
   refine⟨h3,?_⟩
   rcases h4 with h4 |⟨id0,h4,ow0,h5,h6⟩
   ·exact .inl (Nat.le_trans s.size h4)
   grind
  ·rw[k.mem id h]at h1
   have hW:id∈W:=by simp_all
   obtain⟨h3,h4⟩:=s.own id hW ow b o h1 h2
   exact⟨Nat.lt_of_lt_of_le h3 k.size,h4.imp_right λ⟨id0,q1,q2⟩=>⟨id0,by simp[q1],q2⟩⟩
 ·intro id hid id' hid' hne ow ow' b o h1 h2 h3 h4
  have key:∀(id id':Nat),id∈W'->id' ∉ W'->id'∈W->id≠id'->∀(ow ow':Own),M'' id=some ow->M'' id'=some ow'->ow.has b o->ow'.has b o->False:=by
   intro id id' q1 q2 q3 hne ow ow' h1 h2 h3 h4
   rw[k.mem id' q2]at h2
   rcases(k.own id q1 ow b o h1 h3).2 with h5 |⟨id0,h5,ow0,h6,h7⟩
   ·have:=(s.own id' q3 ow' b o h2 h4).1;omega
   ·exact m'.disj id0 id' ow0 ow' b o (λe=>q2 (e ▸ h5)) h6 h2 h7 h4
  by_cases g1:id∈W'<;>by_cases g2:id'∈W'<;>try grind
  ·exact k.disj id g1 id' g2 hne ow ow' b o h1 h2 h3 h4
  ·rw[k.mem id g1]at h1;rw[k.mem id' g2]at h2
   exact s.disj id (by simp_all) id' (by simp_all) hne ow ow' b o h1 h2 h3 h4
theorem Uj.mono{c:Code}{Q Q':Post}{env:Env}{K:Heap}(h:Uj P c Q env K)(hq:∀o e K,Q o e K->Q' o e K):Uj P c Q' env K:=by
 intro _ ρ N n M0 w0 Q2 M a w hs hnd hlo s e q
 exact h ρ N n M0 w0 Q2 M a w hs hnd hlo s e λo env K M a w hh=>q o env K M a w (hq _ _ _ hh)
theorem DR{τ:List (Nat×Nat)}{e1:Env}:∀{e0:Env},Ou τ e1 e0->∀j,e0.get j = .top\/(e0.get j).ren τ=e1.get j
 | [],_,_=>.inl rfl
 |(k,v)::r,h,j=>by
  rw[Env.get_cons]
  split
  ·rename_i e;subst e;exact .inr h.1
  ·exact DR h.2 j
theorem YD{M:Mem}{x:AV}{v:Value}{f:FuncId}{caps:List AV}(h:aH N M w x v)(hf:zbe x=some (f,caps)) :
  ∃vs,v = .func (.func f) #[] vs/\vs.size=caps.length/\∀(i:Nat) c,caps[i]? = some c->aH N M w c (vs.getD i undef):=by
 cases h<;>simp[zbe]at hf<;>try(simp at hf)
 ·rename_i d h
  cases h<;>simp at hf<;>try(done)
  rename_i hl h
  obtain⟨rfl,rfl⟩:=hf
  refine⟨_,rfl,by simp[hl],λi c hc=>?_⟩
  simp at hc
  obtain⟨d,hd,rfl⟩:=hc
  exact .data _ _ (h i d hd)
 simp_all
theorem YE{x:AV}{f:FuncId}{caps:List AV}(hf:zbe x=some (f,caps)){i:Nat}{c:AV}(hc:caps[i]? = some c){id:Nat}(hi:c.men id=true):x.men id=true:=by
 unfold zbe at hf
 split at hf
 ·grind[AV.men,lm]
 ·obtain⟨rfl,rfl⟩:=hf
  simp at hc
  obtain⟨d,_,rfl⟩:=hc
  simp[AV.men]at hi
 ·simp at hf
theorem DT(h1:rec.state = .ready)(h2:rec.pending=none):pg rec none=rec:=by
 cases rec;subst h1 h2;rfl
theorem OB{ρ:List (Nat×Nat)}{K:Heap}{y:Nat}{b:Block}(hy:K.get y=none):∀{K0:Heap},Heap.sub ρ K K0->Heap.sub ρ ((y,b)::K) K0
 | [],_=>trivial
 |(i,c)::r,h=>by
  refine⟨?_,OB hy h.2⟩
  rw[Heap.get_cons,if_neg]
  ·exact h.1
  ·intro e;have:=h.1;simp_all
theorem QZ{ρ:List (Nat×Nat)}{yl y:Nat}{R0 R0' R1 R1' R2 R2':RP}{J0 J1 K:Heap}{e:Env}{L:List Nat}(h:gG ρ ((yl,.rnd R0)::J0) ((yl,.rnd R1)::J1) v e ((y,.rnd R2)::K) L=true) :
  gG ρ ((yl,.rnd R0')::J0) ((yl,.rnd R1')::J1) v e ((y,.rnd R2')::K) L=true:=by
 simp only[gG,keys]at h ⊢
 rw[<-h]
 induction (aU ρ (minus (yl::keys J1) (yl::keys J0)))with
 |nil=>rfl
 |cons j r ih=>
  grind[kR,pI,Block.men,Heap.get_cons]
theorem Q3{N:aT}{M1:Mem}{w:World}{τ:List (Nat×Nat)}{e1 e0:Env}{K1 H0:Heap}{y:Nat}{tmps:Array Value}{rec:Go.Loop}(hinj:∀i∈keys H0,∀j∈keys H0,rn τ i=rn τ j->i=j)
  (hy:K1.get y=none) (henv:∀j,aH N M1 w (e1.get j) (tmps.getD j undef)) (hK:∀id blk,K1.get id=some blk->eX N M1 w id blk) (m:bW N M1 w) (he0:Ou τ e1 e0) (hH0:Heap.sub τ K1 H0) :
  ∃(Mp:Mem) (S0:Nat->Nat->Prop),Step M1 w Mp ((w.alloc (.deferred (some []))).alloc (.loop rec)) (y::aU τ (keys H0))/\Mp y=some (.rnd (w.heap.size+1) S0)/\(∀id,id≠y->Mp id=M1 id\/Mp id=none)/\(∀id,id≠y->id ∉ aU τ (keys H0)->Mp id=M1 id) /\
   RB rec (w.heap.size+1) (keys H0) (jI τ (keys H0) M1) tmps e0 H0 S0 (Fb N Mp) ((w.alloc (.deferred (some []))).alloc (.loop rec)) (jI τ (keys H0) M1) /\
   ((w.alloc (.deferred (some []))).alloc (.loop rec)).heap[w.heap.size]? = some (.deferred (some []))/\(∀o,¬Mp.R w.heap.size o)/\((w.alloc (.deferred (some []))).alloc (.loop rec)).heap.size=w.heap.size+2:=by
 obtain⟨W1,hW1⟩:∃W1,(w.alloc (.deferred (some []))).alloc (.loop rec)=W1:=⟨_,rfl⟩
 obtain⟨Mb,hMb⟩:∃Mb,jI τ (keys H0) M1=Mb:=⟨_,rfl⟩
 obtain⟨S0,hS0⟩:∃S0:Nat->Nat->Prop,S0=λb o=>b=w.heap.size+1\/Mb.R b o:=⟨_,rfl⟩
 obtain⟨Mp,hMp⟩:∃Mp:Mem,Mp=λid=>if id=y then some (.rnd (w.heap.size+1) S0)else if og (aU τ (keys H0)) id=true then none else M1 id:=⟨_,rfl⟩
 have sa:Step M1 w M1 W1 []:=by rw[<-hW1];exact Step.trans0 (Step.alloc0 M1 w _) (Step.alloc0 M1 _ _)
 have hsz:W1.heap.size=w.heap.size+2:=by grind[World.size_alloc]
 have hl:W1.heap[w.heap.size+1]? = some (.loop rec):=by
  grind[World.alloc_heap_new,World.size_alloc]
 have hD:W1.heap[w.heap.size]? = some (.deferred (some [])):=by
  rw[<-hW1]
  have h1:(w.alloc (.deferred (some []))).heap[w.heap.size]? = some (.deferred (some [])):=World.alloc_heap_new w _
  have h2:=(Step.alloc0 M1 (w.alloc (.deferred (some []))) (.loop rec)).block w.heap.size (by simp) (by simp)
  simp_all
 have hMy:Mp y=some (.rnd (w.heap.size+1) S0):=by rw[hMp];simp
 have hMo:∀id,id≠y->id ∉ aU τ (keys H0)->Mp id=M1 id:=λid h1 h2=>by
  have:¬og (aU τ (keys H0)) id=true:=λh=>h2 (bD.1 h)
  simp_all
 have hMt:∀id,id≠y->id∈aU τ (keys H0)->Mp id=none:=λid h1 h2=>by
  rw[hMp];simp only[if_neg h1,if_pos (bD.2 h2)]
 have hMb1:∀b o,Mb.R b o->∃i∈keys H0,∃ow,M1 (rn τ i)=some ow/\ow.has b o:=by
  rintro b o ⟨id,ow,h1,h2⟩
  rw[<-hMb]at h1
  grind[id,keys,fJ,iJ]
 have hlt:∀b o,Mb.R b o->b<w.heap.size:=λb o h=>by
  obtain⟨i,_,ow,h1,h2⟩:=hMb1 b o h
  exact(m.dom _ ow b o h1 h2).1
 have st:Step M1 w Mp W1 (y::aU τ (keys H0)):=by
  refine⟨sa.os,sa.tape,sa.output,sa.size,λb hb _=>sa.block b hb (by simp),λb o u _ hc=>sa.cell b o u (by simp) hc,sa.shape,λid hid=>?_,λid hid ow b o h1 h2=>?_,λid hid id' hid' hne ow ow' b o h1 h2=>?_⟩
  ·grind
  ·by_cases hid1:id=y
   ·subst hid1
    rw[hMy]at h1
    simp only[Option.some.injEq]at h1;subst h1
    obtain⟨i,hi,h3⟩:=h2
    rw[hS0]at h3
    rcases h3 with rfl |h3
    ·omega
    ·obtain⟨k,hk,ow,h4,h5⟩:=hMb1 b i h3
     exact⟨by grind,.inr ⟨rn τ k,List.mem_cons_of_mem _ (aI.2 ⟨k,hk,rfl⟩),ow,h4,Own.has_of h5 hi⟩⟩
   simp_all
  grind
 have hSF:∀b o,S0 b o->Fb N Mp b o:=λb o h=>.inr ⟨y,_,hMy,o,Nat.le_refl _,h⟩
 have efb:Fb (yR (Fb N Mp) Mb) Mb=Fb N Mp:=OA λb o h=>hSF b o (by grind)
 have hfo:∀b o,Fb N Mp b o->b<w.heap.size->Fb (uB τ (keys H0) N M1) Mb b o:=by
  intro b o h hb
  rcases h with h |⟨id,ow,h1,h2⟩
  ·exact .inl (.inl h)
  ·by_cases hid:id=y
   ·subst hid
    rw[hMy]at h1
    simp only[Option.some.injEq]at h1;subst h1
    obtain⟨i,hi,h3⟩:=h2
    rw[hS0]at h3
    rcases h3 with rfl |⟨id',ow',h4,h5⟩
    ·omega
    ·exact .inr ⟨id',ow',h4,Own.has_of h5 hi⟩
   ·by_cases hid2:id∈aU τ (keys H0)
    ·grind
    ·rw[hMo id hid hid2]at h1
     exact .inl (.inr ⟨id,ow,h1,h2,λi hi e=>hid2 (aI.2 ⟨i,hi,e⟩)⟩)
 have kk:fH w (Fb (uB τ (keys H0) N M1) Mb) W1 (Fb (yR (Fb N Mp) Mb) Mb):=by
  intro b o u hf hc
  rw[efb]
  exact⟨λh=>hf (hfo b o h (block_lt hc)),sa.cell b o u (by simp) hc⟩
 have hmm:∀id,Mb id=M1 (rn τ id)\/Mb id=none:=by
  intro id
  rw[<-hMb]
  grind[id,keys,fJ,iJ]
 have hin:∀b o,Fb (uB τ (keys H0) N M1) Mb b o->Fb N M1 b o:=by grind[Qu]
 have hW:∀b o,Mb.R b o->W1.heap[b]? = w.heap[b]?:=λb o h=>sa.block b (hlt b o h) (by simp)
 have mb:=ER m hinj
 refine⟨Mp,S0,hW1 ▸ st,hMy,λid h=>?_,hMo,?_⟩
 ·grind
 rw[hW1,hMb]
 refine⟨⟨λid h=>by rw[<-hMb];exact iJ h,λb o=>by rw[hS0],hSF,hl,λo h=>by grind,?_,λid _=>.inl rfl,λid blk hg=>?_,λj=>?_⟩,hD,?_,hsz⟩
 ·rw[hMb]at mb;exact mb.disj
 ·have h1:=hK (rn τ id) _ (ES hH0 id blk hg)
  have hid:id∈keys H0:=dG.2 ⟨blk,hg⟩
  have h2:eX (uB τ (keys H0) N M1) Mb w id blk:=eX.rn1 hin h1 (by rw[<-hMb];exact fJ hid) λid' _=>hmm id'
  exact h2.shift rfl kk sa.size sa.shape hW λ_ _=>.inl rfl
 ·rcases DR he0 j with h |h
  ·rw[h];exact .top _
  ·have h1:=henv j
   rw[<-h]at h1
   exact(aH.rn1 hin _ h1 λid _=>hmm id).keep2 kk sa.shape λ_ _=>.inl rfl
 ·rintro o ⟨id,ow,h1,h2⟩
  have:=st.memOk m
  by_cases hid:id=y
  ·subst hid
   rw[hMy]at h1
   simp only[Option.some.injEq]at h1;subst h1
   obtain⟨i,_,h3⟩:=h2
   grind
  ·by_cases hid2:id∈aU τ (keys H0)
   ·grind
   ·rw[hMo id hid hid2]at h1
    have:=(m.dom id ow _ o h1 h2).1;omega
theorem OC[Lo]{N:aT}{M1 Mp M3 Mb:Mem}{w w1 w3:World}{τ ρ:List (Nat×Nat)}{e1 e0:Env}{K1 H0 He J0 J1:Heap}{y yl l:Nat}{tmps:Array Value}{rec rec':Go.Loop}{S0 S3:Nat->Nat->Prop}{n:Nat}{a:Act}{v:AV}{R0 R1 R2:RP}
  (hinj:∀i∈keys H0,∀j∈keys H0,rn τ i=rn τ j->i=j) (hfy:bP y=false/\fU y e1=false/\pI y K1=false/\K1.get y=none) (hk1:∀i∈keys H0,i∈keys He) (hk2:∀i∈keys He,i∈keys H0) (hkb:∀i∈Ti He,i∈keys H0) (hH0:Heap.sub τ K1 H0)
  (s1:St N M1 n e1 K1 a w) (st1:Step M1 w Mp w1 (y::aU τ (keys H0))) (hMy:Mp y=some (.rnd l S0)) (hMo:∀id,id≠y->id ∉ aU τ (keys H0)->Mp id=M1 id)
  (hyl:rn ρ yl=y) (hok:gG ρ ((yl,.rnd R0)::J0) ((yl,.rnd R1)::J1) v e1 ((y,.rnd R2)::K1) (y::aU ρ (keys J0))=true) (hnm:yl ∉ Ti J1) (hdis:∀x∈aU ρ (keys J0),x ∉ aU τ (keys H0))
  (st2:Step Mp w1 M3 w3 (aU ρ (yl::keys J1))) (htr2:∀id∈aU ρ (yl::keys J0),Tr Mp M3 id) (hbl:∀id blk,(dD ρ J1).get id=some blk->eX N M3 w3 id blk)
  (hM3:M3 y=some (.rnd l S3)) (rb:RB rec l (keys H0) (jI τ (keys H0) M1) tmps e0 He S3 (Fb N M3) w3 Mb) :
  ∃(M4:Mem) (W nw:List Nat),Step M1 w M4 (w3.putObj l (.loop rec')) W/\(∀id∈W,id ∉ nw->Tr M1 M4 id)/\(∀d∈nw,bP d=false)/\(∀b o,M4.R b o->M3.R b o) /\
   St N M4 n e1 (mf τ He (mf ρ J1 (K1.put y (.tok 0 0)))) a (w3.putObj l (.loop rec')):=by
 simp only[gG,Bool.and_eq_true]at hok
 obtain⟨o1,o2,o3,o4,o5,o6⟩:=hok
 have oinj:=nP o1
 have o01:=bJ.1 o2
 have obl:=bJ.1 o6
 have hnew:=kz o4
 have m3:bW N M3 w3:=st2.memOk (st1.memOk s1.mem)
 have hτget:∀i∈keys H0,∃b,K1.get (rn τ i)=some b:=λi hi=>by
  obtain⟨b,hb⟩:=dG.1 hi
  exact⟨_,ES hH0 i b hb⟩
 have hτy:∀i∈keys H0,rn τ i≠y:=λi hi e=>by
  obtain⟨b,hb⟩:=hτget i hi
  rw[e,hfy.2.2.2]at hb;simp at hb
 obtain⟨M4,hM4⟩:∃M4:Mem,M4=λid=>if id=y then some .nil else match inv τ id (keys H0)with |some i=>Mb i |none=>M3 id:=⟨_,rfl⟩
 have h4y:M4 y=some .nil:=by rw[hM4];simp
 have h4τ:∀i∈keys H0,M4 (rn τ i)=Mb i:=λi hi=>by
  rw[hM4];simp only[if_neg (hτy i hi),z1g hinj hi]
 have h4o:∀id,id≠y->id ∉ aU τ (keys H0)->M4 id=M3 id:=λid h1 h2=>by
  have:inv τ id (keys H0)=none:=yG.2 λi hi e=>h2 (aI.2 ⟨i,hi,e⟩)
  rw[hM4];simp only[if_neg h1,this]
 have hSM:∀b o,Mb.R b o->M3.R b o:=λb o h=>⟨y,_,hM3,o,Nat.le_refl _,(rb.own b o).2 (.inr h)⟩
 have hRR:∀b o,M4.R b o->M3.R b o:=by
  rintro b o ⟨id,ow,h1,h2⟩
  by_cases hid:id=y
  ·subst hid;rw[h4y]at h1;simp only[Option.some.injEq]at h1;subst h1;exact h2.elim
  ·by_cases hid2:id∈aU τ (keys H0)
   ·obtain⟨i,hi,rfl⟩:=aI.1 hid2
    rw[h4τ i hi]at h1
    exact hSM b o ⟨i,ow,h1,h2⟩
   ·rw[h4o id hid hid2]at h1;exact⟨id,ow,h1,h2⟩
 have qb:Quiet Mb w3 (w3.putObj l (.loop rec')) l:=qg rb.lrec (λ_ _ _ h=>by cases h) rb.lfree _
 have st3:Step M3 w3 M4 (w3.putObj l (.loop rec')) (y::aU τ (keys H0)):=by
  refine⟨qb.os,qb.tape,qb.output,Nat.le_of_eq qb.size.symm,λb hb h=>?_,λb o u h hc=>(qb.keeps (λ_ _=>False) b o u (λh=>h) hc).2,qb.shape,λid hid=>?_,λid hid ow b o h1 h2=>?_,λid hid id' hid' hne ow ow' b o h1 h2 h3 h4=>?_⟩
  ·exact qb.other b λe=>h y (by simp) _ 0 hM3 ⟨0,Nat.le_refl _,(rb.own _ _).2 (.inl e)⟩
  ·simp only[List.mem_cons,not_or]at hid;exact h4o id hid.1 hid.2
  ·by_cases hid1:id=y
   ·subst hid1;rw[h4y]at h1;simp only[Option.some.injEq]at h1;subst h1;exact h2.elim
   ·obtain⟨i,hi,rfl⟩:=aI.1 (show id∈aU τ (keys H0)by simpa[hid1]using hid)
    rw[h4τ i hi]at h1
    have hS:S3 b o:=(rb.own b o).2 (.inr ⟨i,ow,h1,h2⟩)
    have hh:(Own.rnd l S3).has b o:=⟨o,Nat.le_refl _,hS⟩
    exact⟨by rw[World.putObj_size];exact(m3.dom y _ b o hM3 hh).1,.inr ⟨y,by simp,_,hM3,hh⟩⟩
  ·by_cases hid1:id=y
   ·subst hid1;rw[h4y]at h1;simp only[Option.some.injEq]at h1;subst h1;exact h3.elim
   ·by_cases hid2:id'=y
    ·subst hid2;rw[h4y]at h2;simp only[Option.some.injEq]at h2;subst h2;exact h4.elim
    ·obtain⟨i,hi,rfl⟩:=aI.1 (show id∈aU τ (keys H0)by simpa[hid1]using hid)
     obtain⟨j,hj,rfl⟩:=aI.1 (show id'∈aU τ (keys H0)by simpa[hid2]using hid')
     rw[h4τ i hi]at h1
     rw[h4τ j hj]at h2
     exact rb.disj i j ow ow' b o (λe=>hne (by rw[e])) h1 h2 h3 h4
 have st12:=Step.trans s1.mem st1 st2
 have st:=Step.trans s1.mem st12 st3
 have hyJ:y ∉ aU ρ (keys J1):=by
  intro h
  obtain⟨j,hj,e⟩:=aI.1 h
  have hjl:=oinj j (by simp[keys,hj]) yl (by simp[keys]) (e.trans hyl.symm)
  subst hjl
  simp only[keys,aU,xM,Bool.and_eq_true,Bool.not_eq_true']at o1
  rw[bD.2 (aI.2 ⟨j,hj,rfl⟩)]at o1
  simp at o1
 have hJτ:∀id∈aU ρ (keys J1),id ∉ aU τ (keys H0):=by
  intro id hid
  obtain⟨j,hj,rfl⟩:=aI.1 hid
  by_cases h0:j∈yl::keys J0
  ·rcases List.mem_cons.1 h0 with e |h0
   ·subst e;exact absurd (hyl ▸ aI.2 ⟨j,hj,rfl⟩) hyJ
   ·exact hdis _ (aI.2 ⟨j,h0,rfl⟩)
  ·intro h
   obtain⟨i,hi,e⟩:=aI.1 h
   obtain⟨b,hb⟩:=hτget i hi
   have:=(hnew (rn ρ j) (aI.2 ⟨j,jv.2 ⟨by simp[keys,hj],h0⟩,rfl⟩)).2.2.2
   rw[Heap.get_cons,if_neg (λe2=>hτy i hi (e.trans e2.symm)),<-e,hb]at this
   simp at this
 -- what is known through a name
 obtain⟨nw,hnw⟩:∃nw,nw=y::aU ρ (minus (yl::keys J1) (yl::keys J0)):=⟨_,rfl⟩
 have htr:∀id,id ∉ nw->Tr M1 M4 id:=by
  intro id hid
  rw[hnw]at hid
  simp only[List.mem_cons,not_or]at hid
  by_cases h1:id∈aU τ (keys H0)
  ·obtain⟨i,hi,rfl⟩:=aI.1 h1
   have:=rb.tr i hi
   unfold Tr at this ⊢
   rw[h4τ i hi]
   rwa[fJ hi]at this
  ·have e1:=hMo id hid.1 h1
   by_cases h2:id∈aU ρ (yl::keys J0)
   ·have:=htr2 id h2
    unfold Tr at this ⊢
    rw[h4o id hid.1 h1]
    rwa[e1]at this
   ·refine .inl ((h4o id hid.1 h1).trans ((st2.mem id λh3=>?_).trans e1))
    obtain⟨j,hj,rfl⟩:=aI.1 h3
    exact hid.2 (aI.2 ⟨j,jv.2 ⟨hj,λh4=>h2 (aI.2 ⟨j,h4,rfl⟩)⟩,rfl⟩)
 have hf:∀d∈nw,bP d=false/\fU d e1=false/\pI d K1=false:=by
  intro d hd
  rw[hnw]at hd
  rcases List.mem_cons.1 hd with rfl |hd
  ·exact⟨hfy.1,hfy.2.1,hfy.2.2.1⟩
  ·obtain⟨q1,q2,q3,_⟩:=hnew d hd
   exact⟨q1,q2,q3⟩
 obtain⟨Δ,hΔ⟩:∃Δ,Δ=uA (uA [(y,.tok 0 0)] (dD ρ J1)) (dD τ He):=⟨_,rfl⟩
 have kτ:∀id,(∃b,(dD τ He).get id=some b)↔id∈aU τ (keys H0):=by
  intro id
  rw[<-dG,lq]
  grind[aI]
 have kρ:∀id,(∃b,(dD ρ J1).get id=some b)↔id∈aU ρ (keys J1):=by
  intro id;rw[<-dG,lq]
 have hno:∀id,id∈((y::aU τ (keys H0))++aU ρ (yl::keys J1))++(y::aU τ (keys H0))↔∃b,Δ.get id=some b:=by
  intro id
  rw[hΔ,jw,jw,Heap.get_cons]
  have e1:=kτ id
  have e2:=kρ id
  constructor
  ·intro h
   have h:id=y\/id∈aU τ (keys H0)\/id∈aU ρ (keys J1):=by
    simp only[List.mem_append,List.mem_cons,aU,hyl]at h
    rcases h with((h |h) |h |h) |h |h
    ·exact .inl h
    ·exact .inr (.inl h)
    ·exact .inl h
    ·exact .inr (.inr h)
    ·exact .inl h
    ·exact .inr (.inl h)
   cases g1:(dD τ He).get id with
   |some b=>exact⟨b,rfl⟩
   |none=>
    cases g2:(dD ρ J1).get id with
    |some b=>exact⟨b,rfl⟩
    |none=>
     rcases h with h |h |h
     ·exact⟨_,by simp only[if_pos h.symm];rfl⟩
     ·obtain⟨b,hb⟩:=e1.2 h;rw[g1]at hb;simp at hb
     ·obtain⟨b,hb⟩:=e2.2 h;rw[g2]at hb;simp at hb
  grind[dD,get,id,aU,Heap.get]
 have hFb:∀b o,Fb N M4 b o->Fb (yR (Fb N M3) Mb) Mb b o:=by
  rw[rb.fb]
  rintro b o (h |h)
  ·exact .inl h
  ·exact .inr (hRR b o h)
 have hinjE:∀i∈keys He,∀j∈keys He,rn τ i=rn τ j->i=j:=λi hi j hj=>hinj i (hk2 i hi) j (hk2 j hj)
 have hδ:∀id blk,Δ.get id=some blk->eX N M4 (w3.putObj l (.loop rec')) id blk:=by
  intro id blk hg
  rw[hΔ,jw]at hg
  split at hg
  ·rename_i b hb
   simp only[Option.some.injEq]at hg;subst hg
   obtain⟨i,b0,q1,rfl,rfl⟩:=qK hinjE hb
   have hi:=hk2 i (dG.2 ⟨b0,q1⟩)
   exact(qb.brel (rb.heap i b0 q1)).rn2 hFb (h4τ i hi) λid' hm=>.inl (h4τ id' (hkb id' (yH q1 hm)))
  ·rw[jw]at hg
   split at hg
   ·rename_i b hb
    simp only[Option.some.injEq]at hg;subst hg
    have hid:=(kρ id).1 ⟨_,hb⟩
    refine(hbl id b hb).keep m3 st3 (λh=>?_) λid' hm=>.inl ?_
    ·rcases List.mem_cons.1 h with h |h
     ·exact hyJ (h ▸ hid)
     ·exact hJτ id hid h
    ·obtain⟨j,b0,q1,rfl,rfl⟩:=qK (λi hi j hj=>oinj i (by simp[keys,hi]) j (by simp[keys,hj])) hb
     obtain⟨k,hk,rfl⟩:=LK hm
     have hk0:=yH q1 hk
     have hk1:k∈keys J1:=by
      have:=obl k (by simpa[Ti,Block.ids]using hk0)
      simp only[keys,List.mem_cons]at this
      rcases this with h |h
      ·exact absurd (h ▸ hk0) hnm
      ·exact h
     have hm1:rn ρ k∈aU ρ (keys J1):=aI.2 ⟨k,hk1,rfl⟩
     exact h4o _ (λe=>hyJ (e ▸ hm1)) (hJτ _ hm1)
   ·rw[Heap.get_cons]at hg
    split at hg
    ·rename_i e
     subst e
     simp only[Option.some.injEq]at hg;subst hg
     exact .inl ⟨h4y,rfl⟩
    ·simp[Heap.get]at hg
 have s4:=s1.turn st (λid _ h=>htr id h) hf hδ hno
 refine⟨M4,_,nw,st,λid _ h=>htr id h,λd hd=>(hf d hd).1,hRR,s4.size,s4.big,s4.defers,s4.env,λid blk hg=>s4.heap id blk ?_,s4.mem⟩
 rw[<-hg,pV,pV,hΔ]
 simp only[jw,Heap.get_put,Heap.get_cons]
 cases (dD τ He).get id with
 |some b=>rfl
 |none=>
  cases (dD ρ J1).get id with
  |some b=>rfl
  |none=>
   simp only
   by_cases e:y=id
   ·simp[e]
   ·simp[e,Heap.get]
def Q4(P:Program)(l:Nat)(Q:Exit->Act->World->Prop)(a':Act):Ending->World->Prop
 | .returned _,w3=>∃jump w4,(Instr.endLoop l).run P w3 = .ok jump w4/\match jump with |none=>Q .normal a' w4 |some c=>ny none P c Q a' w4
 | .panicked chain,w3=>Q (.panic chain) a' w3
 | .outgrown,_=>LetsOut Q
theorem Aq{P:Program}{g:Operand}{ps:Array Tmp}{assign body:Code}{Q:Exit->Act->World->Prop}{a:Act}{w:World}
  (h:∀fn,(∃f,P.funcs[fn]? = some f)->∃(l:Nat) (mark:List Deferred) (w1:World) (d:Deferred) (w1':World) (f:FuncId) (args:Array Value) (w2:World),
   (Instr.enterLoop fn a.tmps ps assign body none).run P w = .ok (l,mark) w1/\(resolve a.eval (rangeCall g l) 0).run P w1 = .ok d w1'/\(invoke d.target d.args).run P w1' = .ok (.enter f args) w2 /\
   CallsIn (FR none) 0 P f args w2 (Q4 P l Q { a with defers:=mark++a.defers })):ny none P (.rangeFunc g ps assign body) Q a w:=by
 intro b k cs hro hx
 have room:∀n,(FR none).room n:=ni _
 obtain⟨l,mark,w1,d,w1',f,args,w2,he,hres,hinv,hF,hcall⟩:=h b.fn hx
 rw[<-hro]at he
 have h0:(lone (b.atR a (.code (.rangeFunc g ps assign body)::k)) cs w).fenced P (FR none):=fenced_lone (.inl trivial) (λ_ _=>trivial) (room _)
 have henter:=stepR_rangeFunc (P:=P) (b:=b) (a:=a) (k:=k) (cs:=cs) (w:=w) he hres hinv
 obtain⟨e,w3,fr,hR,hsteps,hfn,hleave⟩:=hcall (b.atR { a with defers:=mark++a.defers } (.inRangeFunc l::k)::cs) (room _)
 cases e with
 |outgrown=>
  obtain⟨a0,w0,hq⟩:=hR
  exact⟨.outgrown,a0,w0,hq,.inr (Outgrown.of_steps (.one henter) hsteps)⟩
 |returned v=>
  have hl:(lone fr (b.atR { a with defers:=mark++a.defers } (.inRangeFunc l::k)::cs) w3).fenced P (FR none):=fenced_leaving (n:=0) trivial (room _) hleave
  obtain⟨jump,w4,hend,hj⟩:=hR
  have sback:StepsIn (Machine.fenced P (FR none)) P (lone (b.atR a (.code (.rangeFunc g ps assign body)::k)) cs w) (lone (b.atR { a with defers:=mark++a.defers } ((jump.map Item.code).toList++k)) cs w4):=by
   refine .head h0 henter (StepsIn.trans hsteps (.head hl ?_ (.one (fenced_calm (n:=0) (fr:=b.atR { a with defers:=mark++a.defers } (.endRangeFunc l::k)) trivial (room _) rfl) (stepR_endRangeFunc hend))))
   exact step_leave_returned hleave
  cases jump with
  |none=>exact⟨.normal,_,w4,hj,sback⟩
  |some c=>
   obtain⟨e',a'',w5,hq,harr⟩:=hj b k cs hro hx
   exact⟨e',a'',w5,hq,.of_steps sback harr⟩
 |panicked chain=>
  have hl:(lone fr (b.atR { a with defers:=mark++a.defers } (.inRangeFunc l::k)::cs) w3).fenced P (FR none):=fenced_leaving (n:=0) trivial (room _) hleave
  exact⟨.panic chain,_,w3,hR,.inRangeFunc l::k,.head h0 henter (StepsIn.trans hsteps (.one hl (step_leave_panicked hleave)))⟩
theorem zbj(h:∀d,R.kind≠some (.pan d)):R.fo v = .ret v:=by
 unfold lD.fo
 unfold lD.kind at h
 grind
theorem zbk{d:D}(h:R.kind=some (.pan d)):R.fo v = .pan (.data d):=by
 grind[lD.fo,lD.kind]
theorem OD{k:Option RK}(h:∀d,k≠some (.pan d)):pg rec k = { rec with state:=if(k.map RK.code).isNone then .ready else .done,pending:=k.map RK.code }:=by
 cases k with
 |none=>rfl
 |some k=>
  cases k with
  |pan d=>simp_all
  |_=>rfl
theorem YF{P:Program}{T:Tbl}{g:Operand}{ps:Array Tmp}{assign body:Code}{R:lD}{Q:Post}{env:Env}{K:Heap}(hnn:(pY assign&&pY body)=true)
  (h:QM T (LCall P) R g ps.toList (λxs H k H'=>Uj P assign (Oo λe K=>Uj P body (Ot k H') e K) (iR ps.toList xs R.e0) H) Q env K):Uj P (.rangeFunc g ps assign body) Q env K:=by
 intro _ r N n M0 w0 Q' M a w hs hnd hlo s e q
 cases r with
 |some l=>have:=hnd (by simp);simp[pY]at this
 |none=>
 simp only[dw,Bool.and_eq_true]at hs
 obtain⟨hsp,hsa,hsb⟩:=hs
 rw[Bool.and_eq_true]at hnn
 have hpn:∀p∈ps.toList,p<n:=λp hp=>Nat.le_of_ble_eq_true (List.all_eq_true.1 hsp p hp)
 have hw:=h.weak
 rw[oJ]at hw
 obtain⟨M1,s1,e1⟩:=s.weak e hw
 have hnm:=h.names
 simp only[Bool.and_eq_true]at hnm
 obtain⟨k1,k2,k3,k4,k5,k6⟩:=hnm
 have hinj:=nP k1
 have hlent:∀id∈keys (R.H 0),bP id=true:=Aa k2
 have hfy:=kz k3 R.y (by simp)
 refine Aq λfn hfx=>?_
 obtain⟨rec,hrec⟩:∃rec:Go.Loop,rec = { state:=.ready,pending:=none,fn,tmps:=a.tmps,params:=ps,assign,body,defers:=w.heap.size }:=⟨_,rfl⟩
 have hr1:rec.state = .ready:=by rw[hrec]
 have hr2:rec.pending=none:=by rw[hrec]
 have hr3:rec.tmps=a.tmps:=by rw[hrec]
 have hr4:rec.params=ps:=by rw[hrec]
 have hr5:rec.assign=assign:=by rw[hrec]
 have hr6:rec.body=body:=by rw[hrec]
 obtain⟨Mp,S0,st1,hMy,hMn,hMo,rb0,hD,hDf,hsz⟩:=Q3 (rec:=rec) hinj hfy.2.2.2 s1.env s1.heap s1.mem h.env0 h.heap0
 obtain⟨W1,hW1⟩:∃W1,(w.alloc (.deferred (some []))).alloc (.loop rec)=W1:=⟨_,rfl⟩
 rw[hW1]at st1 rb0 hD hsz
 have mp:=st1.memOk s1.mem
 obtain⟨f,caps,hfn,hfy2,hit⟩:=h.it
 obtain⟨vs,hv1,hv2,hv3⟩:=YD (dV s1.mem (T:=T) (env:=R.e1) (a:=a) 0 g λj _=>s1.env j) hfn
 obtain⟨yl,cs0,J0,v,J1,ρ,hB,hargs,hsub,hok,hdis,hQ⟩:=hit (λi=>wV rec (w.heap.size+1) (keys (R.H 0)) (jI R.τ (keys (R.H 0)) M1) rec.tmps R.e0 (R.H i))
  (wV (pg rec R.kind) (w.heap.size+1) (keys (R.H 0)) (jI R.τ (keys (R.H 0)) M1) rec.tmps R.e0 R.He) (λi hi=>by
   obtain⟨q1,q2,q3⟩:=h.round i hi
   have:=DN (P:=P) (l0:=w.heap.size+1) (Mτ:=jI R.τ (keys (R.H 0)) M1) (n:=n) (rec:=rec) (xs:=R.xs i) (k:=none) (H:=R.H i) (H':=R.H (i+1)) (by rw[hrec];exact hfx) hr1 (hr5 ▸ hsa) (hr6 ▸ hsb) (hr5 ▸ hnn.1) (hr6 ▸ hnn.2) (by rw[hr4,q1,Array.length_toList]) (by rw[hr4];exact hpn) (hr3 ▸ s1.size) s1.big h.df hlent
    (λid b hg=>bJ.1 q2 id (dG.2 ⟨b,hg⟩)) (by rw[hr4,hr5,hr6];exact q3)
   rw[DT hr1 hr2]at this
   exact .inr ⟨rfl,this⟩) (λhl=>by
   cases hk:R.last with
   |none=>exact absurd hk hl
   |some x=>
    obtain⟨k,he⟩:=x
    obtain⟨q1,q3⟩:=h.lst k he hk
    have e1:R.kind=some k:=by simp only[lD.kind,hk]
    have e2:R.He=he:=by simp only[lD.He,hk]
    have:=DN (P:=P) (l0:=w.heap.size+1) (Mτ:=jI R.τ (keys (R.H 0)) M1) (n:=n) (rec:=rec) (xs:=R.xs R.n) (k:=some k) (H:=R.H R.n) (H':=he) (by rw[hrec];exact hfx) hr1 (hr5 ▸ hsa) (hr6 ▸ hsb) (hr5 ▸ hnn.1) (hr6 ▸ hnn.2) (by rw[hr4,q1,Array.length_toList]) (by rw[hr4];exact hpn) (hr3 ▸ s1.size) s1.big h.df hlent
     (λid b hg=>bJ.1 k4 id (by rw[e2];exact dG.2 ⟨b,hg⟩)) (by rw[hr4,hr5,hr6];exact q3)
    rw[e1,e2]
    exact .inr ⟨rfl,this⟩)
 have hend:∀(Rf:Nat->RP) (Re:RP),Rf R.n=wV rec (w.heap.size+1) (keys (R.H 0)) (jI R.τ (keys (R.H 0)) M1) rec.tmps R.e0 (R.H R.n)->Re=wV (pg rec R.kind) (w.heap.size+1) (keys (R.H 0)) (jI R.τ (keys (R.H 0)) M1) rec.tmps R.e0 R.He ->
   R.rp Rf Re=wV (pg rec R.kind) (w.heap.size+1) (keys (R.H 0)) (jI R.τ (keys (R.H 0)) M1) rec.tmps R.e0 R.He:=by
  grind[lD.kind,lD.He,lD.rp,DT]
 rw[hend _ _ rfl rfl]at hB
 have hfne:f≠xK:=λe=>by rw[e]at hfy2;simp at hfy2
 rcases hB with⟨_,hent,hlc⟩ |⟨e,_⟩
 rotate_left
 ·exact absurd e hfne
 have hyl:rn ρ yl=R.y:=by
  simp only[AV.ren.go,AV.ren,List.cons.injEq,AV.yld.injEq]at hargs
  exact hargs.1
 simp only[Bool.and_eq_true,Bool.not_eq_true']at hdis
 have hnm:yl ∉ Ti J1:=λhm=>by rw[bD.2 hm]at hdis;simp at hdis
 have hdis:=z5b hdis.2
 have hlen:caps.length=cs0.length:=by
  have:=congrArg List.length hargs
  simp only[dH,List.length_cons]at this
  omega
 refine⟨w.heap.size+1,[{ target:=.collected w.heap.size,args:=#[] }],W1,{ target:=.fn (.func f) vs,args:=#[.func (.yield (w.heap.size+1)) #[] #[]] },W1,f,
  #[.func (.yield (w.heap.size+1)) #[] #[]]++vs,W1,by rw[<-hW1,hrec];exact run_enterLoop_outer _ _ _ _ _,?_,?_,(callsIn_wide (n:=0)).2 ?_⟩
 ·simp only[resolve,hv1]
  simp[go_sem]
 ·have:=mg hent (#[.func (.yield (w.heap.size+1)) #[] #[]]++vs) W1
  simp[invoke,go_sem,this]
 have hTr:∀id,id≠R.y->Tr M1 Mp id:=λid hid=>by
  rcases hMn id hid with h |h
  ·exact .inl h
  ·exact .inr (.inr (.inr (.inr (.inl h))))
 obtain⟨RA,hRA⟩:∃RA,wV rec (w.heap.size+1) (keys (R.H 0)) (jI R.τ (keys (R.H 0)) M1) rec.tmps R.e0 (R.H 0)=RA:=⟨_,rfl⟩
 obtain⟨RZ,hRZ⟩:∃RZ,wV (pg rec R.kind) (w.heap.size+1) (keys (R.H 0)) (jI R.τ (keys (R.H 0)) M1) rec.tmps R.e0 R.He=RZ:=⟨_,rfl⟩
 have hlc:KJ (Calls P f) (.yld yl::cs0) ((yl,.rnd RA)::J0) (R.fo v) ((yl,.rnd RZ)::J1):=by rw[<-hRA,<-hRZ];exact hlc
 have hok:gG ρ ((yl,.rnd RA)::J0) ((yl,.rnd RZ)::J1) (R.fo v).av R.e1 ((R.y,.rnd RA)::R.K1) (R.y::aU ρ (keys J0))=true:=QZ hok
 have hsub':Heap.sub ρ ((R.y,.rnd RA)::R.K1) ((yl,.rnd RA)::J0):=And.intro (by rw[hyl,Heap.get_cons,if_pos rfl];rfl) (OB hfy.2.2.2 hsub)
 refine(wG (C:=Calls P f) (λh hr=>Calls.mono h hr) hlc hsub' hok mp ?_ ?_ ?_).mono ?_
 ·simp[hv2,hlen];omega
 ·rw[hargs]
  intro i x hx
  cases i with
  |zero=>
   simp only[List.getElem?_cons_zero,Option.some.injEq]at hx;subst hx
   have e:(#[Value.func (.yield (w.heap.size+1)) #[] #[]]++vs).getD 0 undef = .func (.yield (w.heap.size+1)) #[] #[]:=by
    rw[Array.getD_eq_getD_getElem?,Array.getElem?_append_left (by simp)];rfl
   rw[e]
   exact .yld _ _ λl' S e=>by rw[hMy]at e;simp only[Option.some.injEq,Own.rnd.injEq]at e;exact e.1
  |succ i=>
   have hx:caps[i]? = some x:=by simpa using hx
   have e:(#[Value.func (.yield (w.heap.size+1)) #[] #[]]++vs).getD (i+1) undef=vs.getD i undef:=by
    rw[Array.getD_eq_getD_getElem?,Array.getD_eq_getD_getElem?,Array.getElem?_append_right (by simp)];rfl
   rw[e]
   refine(hv3 i x hx).keep st1.keeps st1.shape λid hi=>hTr id λe=>?_
   subst e
   obtain⟨j,_,hj⟩:=Tz (YE hfn hx hi)
   have:=ou hj
   rw[hfy.2.1]at this;simp at this
 ·intro id hid blk hg
  rw[Heap.get_cons]at hg
  split at hg
  ·rename_i e;subst e
   simp only[Option.some.injEq]at hg;subst hg
   rw[<-hRA,hr3]
   exact⟨_,S0,hMy,rfl,_,rb0⟩
  ·rename_i hne
   have hid:id∈aU ρ (keys J0):=by
    rcases List.mem_cons.1 hid with h |h
    ·exact absurd h.symm hne
    ·exact h
   refine(s1.heap id blk hg).keep s1.mem st1 (λhm=>?_) λid' hm=>hTr id' λe=>?_
   ·rcases List.mem_cons.1 hm with h |h
    ·exact hne h.symm
    ·exact hdis id hid h
   ·subst e
    have:=qI hg hm
    rw[hfy.2.2.1]at this;simp at this
 rintro ee w3 ⟨M3,st2,htr2,hbl,hrel⟩
 have hby:=hbl R.y (.rnd RZ) (by
  simp only[dD]
  rw[Heap.get_cons,if_pos hyl];rfl)
 rw[<-hRZ]at hby
 obtain⟨l',S3,hM3,rfl,Mb,rb⟩:=hby
 rw[hr3]at rb
 obtain⟨o1,_,_,_,_,_⟩:(_/\_/\_/\_/\_/\_):=by simpa only [gG,Bool.and_eq_true]using hok
 have hbl':∀id blk,(dD ρ J1).get id=some blk->eX N M3 w3 id blk:=by
  intro id blk hg
  refine hbl id blk ?_
  simp only[dD]
  rw[Heap.get_cons,if_neg]
  ·exact hg
  ·intro e
   have hm:id∈aU ρ (keys J1):=by rw[<-lq];exact dG.2 ⟨blk,hg⟩
   simp only[keys,aU,xM,Bool.and_eq_true,Bool.not_eq_true']at o1
   rw[bD.2 (e ▸ hm)]at o1;simp at o1
 by_cases hpan:∃d,R.kind=some (.pan d)
 ·obtain⟨d,hd⟩:=hpan
  rw[zbk hd]at hrel
  obtain⟨v',rfl,hv⟩:=hrel
  obtain⟨M4,W,nw,st,htr,hnl,hRR,s4⟩:=OC (rec':=pg rec R.kind) hinj hfy (bJ.1 k5) (bJ.1 k4) (bJ.1 k6) h.heap0 s1 st1 hMy hMo hyl hok hnm hdis st2 htr2 hbl' hM3 rb
  rw[Ap rb.lrec]at st s4
  have e4:=e1.step st htr hnl
  have hD3:w3.heap[w.heap.size]? = some (.deferred (some [])):=(st2.block w.heap.size (by omega) λid _ ow o h1 h2=>hDf o ⟨id,ow,h1,h2⟩).trans hD
  have hmark:rM M4 w3 w.heap.size:=⟨hD3,λo ho=>hDf o (st2.R_old (by omega) (hRR _ _ ho))⟩
  have s5:St N M4 n R.e1 (mf R.τ R.He (mf ρ J1 (R.K1.put R.y (.tok 0 0)))) { a with defers:=[{ target:=.collected w.heap.size,args:=#[] }]++a.defers } w3:=by
   refine⟨s4.size,s4.big,s4.defers.pushMark hmark (hlo rfl _ e1.size) λhm=>?_,s4.env,s4.heap,s4.mem⟩
   have h1:=(s1.defers.mark _ hm).1.1
   have:=(Array.getElem?_eq_some_iff.1 h1).1
   omega
  have hq:=q (RK.out R.kind) R.e1 _ M4 _ _ hQ s5 e4
  rw[hd]at hq
  refine hq v' ?_
  cases hv with
  |data _ _ h=>exact .data _ _ (h.keep λb o u hf hc=>⟨λh5=>hf (h5.imp id (hRR b o)),hc⟩)
 have hnp:∀d,R.kind≠some (.pan d):=λd e=>hpan ⟨d,e⟩
 rw[zbj hnp]at hrel
 obtain⟨v',rfl,_⟩:=hrel
 have hbusy:(pg rec R.kind).state ≠ .busy:=by
  rw[OD hnp];simp only;split<;>simp
 obtain⟨M4,W,nw,st,htr,hnl,hRR,s4⟩:=OC (rec':={ pg rec R.kind with state:=.exhausted }) hinj hfy (bJ.1 k5) (bJ.1 k4) (bJ.1 k6) h.heap0 s1 st1 hMy hMo hyl hok hnm hdis st2 htr2 hbl' hM3 rb
 have e4:=e1.step st htr hnl
 have hD3:w3.heap[w.heap.size]? = some (.deferred (some [])):=(st2.block w.heap.size (by omega) λid _ ow o h1 h2=>hDf o ⟨id,ow,h1,h2⟩).trans hD
 have hmark:rM M4 (w3.putObj (w.heap.size+1) (.loop { pg rec R.kind with state:=.exhausted })) w.heap.size:=
  ⟨(World.putObj_heap_other (by omega)).trans hD3,λo ho=>hDf o (st2.R_old (by omega) (hRR _ _ ho))⟩
 have s5:St N M4 n R.e1 (mf R.τ R.He (mf ρ J1 (R.K1.put R.y (.tok 0 0)))) { a with defers:=[{ target:=.collected w.heap.size,args:=#[] }]++a.defers } (w3.putObj (w.heap.size+1) (.loop { pg rec R.kind with state:=.exhausted })):=by
  refine⟨s4.size,s4.big,s4.defers.pushMark hmark (hlo rfl _ e1.size) λhm=>?_,s4.env,s4.heap,s4.mem⟩
  have h1:=(s1.defers.mark _ hm).1.1
  have:=(Array.getElem?_eq_some_iff.1 h1).1
  omega
 refine⟨_,_,run_endLoop rb.lrec hbusy,?_⟩
 have hq:=q (RK.out R.kind) R.e1 _ M4 _ _ hQ s5 e4
 have hpe:(pg rec R.kind).pending=R.kind.map RK.code:=by rw[OD hnp]
 rw[hpe]
 cases hk:R.kind with
 |none=>rw[hk]at hq;exact hq
 |some k=>
  rw[hk]at hq
  cases k with
  |ret=>exact H6 hq
  |exit i=>exact Dv hq
  |pan d=>exact absurd hk (hnp d)
end Go.Fw
namespace Go.Fw
variable [af]
section
variable {P : Program} {T : Tbl} (hT : iZ P T)
include hT
theorem zeu(hmix:P.follows .mixedOrders=true){An:zak}:∀(c:Code) (la:Nat) (Q:Post) (env:Env) (K:Heap),wc T (PCall P) (LCall P) An c la Q env K->Uj P c Q env K:=by
 intro c
 induction c with
 |skip=>intro la Q env K h _ ρ N n M0 w0 Q' M a w hs hnd hlo s e q;exact Qz (q .normal env K M a w h s e)
 |region id ops draw=>
  intro la Q env K h _ ρ N n M0 w0 Q' M a w hs hnd hlo s e q
  cases draw with
  |true=>
   have hd:∀o∈ops.toList,∀d,o.dst=some d->d≠gz:=λo ho d hd=>Nat.ne_of_lt (Nat.lt_of_lt_of_le (qL hs o ho d hd) s.big)
   refine uJ ?_
   exact Dx hT hmix (PP:=λp env K=>Q (.panic p) env K) (qL hs) (λhr=>Du (hnd hr)) (UK ops.toList [] [] env K [] env h trivial hd ⟨λ_=>.inr rfl,rfl,λ_ h=>h⟩ .nil) s e (λenv K M a w h s e=>by
    obtain⟨env2,h1,h2,h3⟩:=h
    exact q .normal env2 K M a w h3 (s.view h1 h2) e) (λp env K M a w h s e=>q (.panic p) env K M a w h s e)
  |false=>
   refine uJ ?_
   exact uI (z4y hT (λenv K M a w h s e=>q .normal env K M a w h s e) (λx env K M a w h s e=>q (.panic x) env K M a w h s e) ops.toList [] env K M a w (qL hs) (λhr=>Du (hnd hr)) h trivial s e)
 |seq x y ihx ihy=>
  intro la Q env K h _ ρ N n M0 w0 Q' M a w hs hnd hlo s e q
  simp only[dw,Bool.and_eq_true]at hs
  simp only[pY,Bool.and_eq_true]at hnd
  have h:(match An.cut y with
   |none=>wc T (PCall P) (LCall P) An x 0 (Post.then (λenv K=>wc T (PCall P) (LCall P) An y 0 Q env K) Q) env K
   |some i=>ak i (∃L:Loop,wc T (PCall P) (LCall P) An x 0 (Post.then (λenv' K'=>Cb K' λK'=>∃s,L.I s/\L.enter env K s (yx env' K')) Q) env K/\∀s,L.I s->L.enter env K s λenv K=>wc T (PCall P) (LCall P) An y 0 Q env K)):=h
  split at h
  ·refine H7 (ihx _ _ env K h ρ N n M0 w0 _ M a w hs.1 (λhr=>(hnd hr).1) hlo s e λo env K M a w h s e=>?_)
   cases o with
   |normal=>exact ihy _ Q env K h ρ N n M0 w0 Q' M a w hs.2 (λhr=>(hnd hr).2) hlo s e q
   |exit i=>exact q (.exit i) env K M a w h s e
   |ret=>exact q .ret env K M a w h s e
   |panic x=>exact q (.panic x) env K M a w h s e
  ·obtain⟨L,h,h2⟩:=h.out
   refine H7 (ihx _ _ env K h ρ N n M0 w0 _ M a w hs.1 (λhr=>(hnd hr).1) hlo s e λo env1 K1 M a w h s e=>?_)
   cases o with
   |normal=>
    obtain⟨K2,s,st,h3,h4⟩:∃K2,St N M n env1 K2 a w/\∃st,L.I st/\L.enter env K st (yx env1 K2):=by
     rcases Cb.out h with h |⟨g,id,⟨cs,hc⟩,h⟩
     ·grind
     ·obtain⟨b,hb⟩:=s.named g hc
      exact⟨_,hb,h b⟩
    rw[uQ,oJ]at h4
    obtain⟨M',s',e'⟩:=s.weak e h4
    have h5:=h2 st h3
    rw[uQ]at h5
    exact ihy _ Q _ _ h5 ρ N n M0 w0 Q' M' a w hs.2 (λhr=>(hnd hr).2) hlo s' e' q
   |exit i=>exact q (.exit i) env1 K1 M a w h s e
   |ret=>exact q .ret env1 K1 M a w h s e
   |panic x=>exact q (.panic x) env1 K1 M a w h s e
 |cond c x y ihx ihy=>
  intro la Q env K h _ ρ N n M0 w0 Q' M a w hs hnd hlo s e q
  simp only[dw,Bool.and_eq_true]at hs
  simp only[pY,Bool.and_eq_true]at hnd
  have h:(match ev T env 0 c with
   | .data (.val (.bool t))=>BrI t (UC c true env λenv=>wc T (PCall P) (LCall P) An x 0 Q env K) (UC c false env λenv=>wc T (PCall P) (LCall P) An y 0 Q env K)
   |_=>False):=h
  split at h<;>try exact h.elim
  rename_i t ht
  rw[zbf,Ol,Ol]at h
  have hc:a.eval c = .bool t:=by
   have:=dV s.mem (T:=T) (env:=env) (a:=a) 0 c λj _=>s.env j
   rw[ht]at this;exact this.bool
  have hset:St N M n (zai c t env) K a w:=by
   cases c with
   |tmp j=>
    have hj:env.get j = .data (.val (.bool t)):=ht
    refine s.env_cons (λej=>?_) ?_
    ·subst ej;have:=s.defers;rw[hj]at this;exact this.view λh=>h
    ·have:=s.env j;rw[hj]at this;exact this
   |_=>exact s
  cases t with
  |true=>exact zQ hc (ihx _ Q _ K h ρ N n M0 w0 Q' M a w hs.1 (λhr=>(hnd hr).1) hlo hset e q)
  |false=>exact yu hc (ihy _ Q _ K h ρ N n M0 w0 Q' M a w hs.2 (λhr=>(hnd hr).2) hlo hset e q)
 |block id c ih=>
  intro la Q env K h _ ρ N n M0 w0 Q' M a w hs hnd hlo s e q
  refine KT (ih _ _ env K h ρ N n M0 w0 _ M a w hs hnd hlo s e λo env K M a w h s e=>?_)
  cases o with
  |normal=>exact q .normal env K M a w h s e
  |exit i=>
   simp only[Post.block]at h
   simp only[Exit.inBlock]
   split at h
   ·rename_i hb
    rw[if_pos (Nat.eq_of_beq_eq_true hb)]
    exact q .normal env K M a w h s e
   ·rename_i hb
    rw[if_neg (λe=>by simp_all)]
    exact q (.exit i) env K M a w h s e
  |ret=>exact q .ret env K M a w h s e
  |panic x=>exact q (.panic x) env K M a w h s e
 |loop c ih=>
  intro la Q env K h _ ρ N n M0 w0 Q' M a w hs hnd hlo s e q
  obtain⟨L,⟨s0,hI0,hw0⟩,hround⟩:=h.out
  rw[uQ,oJ]at hw0
  obtain⟨M1,st1,e1⟩:=s.weak e hw0
  refine QA (S:={ s:L.S // L.I s }) (λs a w=>∃M,St N M n (L.mkE env s.1) (L.mkH env K s.1) a w/\Evo M0 w0 M w) (λs=>L.μ s.1) (λs a w hJ=>?_) ⟨s0,hI0⟩ a w ⟨M1,st1,e1⟩
  obtain⟨M,st,e⟩:=hJ
  have hr:=hround s.1 s.2
  rw[uQ]at hr
  refine ih _ _ _ _ hr ρ N n M0 w0 _ M a w hs hnd hlo st e λo env K M a w h st e=>?_
  cases o with
  |normal=>
   obtain⟨s',h1,h2,h3⟩:=h
   rw[uQ,oJ]at h3
   obtain⟨M',st',e'⟩:=st.weak e h3
   exact⟨⟨s',h1⟩,h2,M',st',e'⟩
  |exit i=>exact q (.exit i) env K M a w h st e
  |ret=>exact q .ret env K M a w h st e
  |panic x=>exact q (.panic x) env K M a w h st e
 |rangeFunc g ps x y ihx ihy=>
  intro la Q env K h
  have h:(match ps.toList with
   | []=>False
   |p::r=>lF p ((pY x&&pY y)=true/\∃R:lD,QM T (LCall P) R g (p::r) (λxs H k H'=>wc T (PCall P) (LCall P) An x 0 (Oo λe K=>wc T (PCall P) (LCall P) An y 0 (Ot k H') e K) (iR (p::r) xs R.e0) H) Q env K)):=h
  split at h
  ·exact h.elim
  ·rename_i p r hps
   obtain⟨h1,R,h2⟩:=h.out
   rw[<-hps]at h2
   exact @YF _ P T g ps x y R Q env K h1 (h2.mono λxs H k H' hh=>Uj.mono (@ihx _ _ _ _ hh) λo e K hq=>⟨hq.1,@ihy _ _ _ _ hq.2⟩)
 |exit id=>intro la Q env K h _ ρ N n M0 w0 Q' M a w _ _ _ s e q;exact Dv (q (.exit id) env K M a w h s e)
 |scope c ih=>intro la Q env K h;exact h.elim
 |label l=>intro la Q env K h;exact h.elim
 |goto l=>intro la Q env K h;exact h.elim
 |ret=>intro la Q env K h _ ρ N n M0 w0 Q' M a w _ _ _ s e q;exact H6 (q .ret env K M a w h s e)
 |refuse why=>intro la Q env K h;exact h.elim
end
section
variable {P : Program} {T : Tbl} (hT : iZ P T)
include hT
theorem oL(hmix:P.follows .mixedOrders=true)(An:zak){f:FuncId}{fn:Func}{c:Code}{as:List AV}{K0 K1:Heap}{out:jU}(hf:P.funcs[f]? = some fn)(hb:fn.body=some c)(hname:(fn.name == "runtime.NumGoroutine")=false)(hs:dw fn.ntmps c=true)
  (hn:(Nat.ble as.length fn.ntmps&&Nat.ble fn.ntmps 999999&&nz (keys K0) && !(Nat.beq f xK))=true)
  (h:(∀x∈as,wR x)->wc T (PCall P) (LCall P) An c 0 (rV T (qh P) fn.results.toList K0 out K1) (kC 0 as) K0):LCall P f as K0 out K1:=
 Io hT hf hb hname hs hn λhx=>zeu hT hmix c 0 _ _ _ (h hx)
theorem gI(hmix:P.follows .mixedOrders=true)(An:zak){f:FuncId}{fn:Func}{c:Code}{ds:List D}{out:nK}(hf:P.funcs[f]? = some fn)(hb:fn.body=some c)(hname:(fn.name == "runtime.NumGoroutine")=false)(hs:dw fn.ntmps c=true)
  (hn:(Nat.ble ds.length fn.ntmps&&Nat.ble fn.ntmps 999999 && !(Nat.beq f xK))=true)
  (h:(∀d∈ds,Fits d)->wc T (PCall P) (LCall P) An c 0 (rV T (qh P) fn.results.toList [] out.toA []) (kC 0 (ds.map .data)) []):PCall P f ds out:=
 BZ (oL hT hmix An hf hb hname hs (by simp at hn ⊢;exact⟨⟨⟨by simp_all,hn.1.2⟩,rfl⟩,hn.2⟩) λhx=>h λd hd=>(hx (.data d) (List.mem_map_of_mem hd)).data) (λe=>by simp_all)
end
section
variable {P : Program} {T : Tbl} [af] {f : FuncId} {fn : Func} {c : Code}
theorem jK{az:List AV}{K0 K1:Heap}{out:jU}(hf:P.funcs[f]? = some fn)
  (h:(∀x∈az,wR x)->wc T (PCall P) (LCall P) ⟨[],[]⟩ c 0 (rV T (qh P) fn.results.toList K0 out K1) (kC 0 az) K0)
  (hT:iZ P T:=by exact tok) (hm:P.follows .mixedOrders=true:=by exact hmix) (hb:fn.body=some c:=by rfl) (hname:(fn.name == "runtime.NumGoroutine")=false:=by kernel_rfl) (hs:dw fn.ntmps c=true:=by kernel_rfl)
  (hn:(Nat.ble az.length fn.ntmps&&Nat.ble fn.ntmps 999999&&nz (keys K0) && !(Nat.beq f xK))=true:=by kernel_rfl):LCall P f az K0 out K1:=oL hT hm ⟨[],[]⟩ hf hb hname hs hn h
theorem dC{az:List AV}{K0 K1:Heap}{out:jU}(hf:P.funcs[f]? = some fn)
  (h:wc T (PCall P) (LCall P) ⟨[],[]⟩ c 0 (rV T (qh P) fn.results.toList K0 out K1) (kC 0 az) K0)
  (hT:iZ P T:=by exact tok) (hm:P.follows .mixedOrders=true:=by exact hmix) (hb:fn.body=some c:=by rfl) (hname:(fn.name == "runtime.NumGoroutine")=false:=by kernel_rfl) (hs:dw fn.ntmps c=true:=by kernel_rfl)
  (hn:(Nat.ble az.length fn.ntmps&&Nat.ble fn.ntmps 999999&&nz (keys K0) && !(Nat.beq f xK))=true:=by kernel_rfl):LCall P f az K0 out K1:=oL hT hm ⟨[],[]⟩ hf hb hname hs hn λ_=>h
theorem dh{ds:List D}{out:nK}(hf:P.funcs[f]? = some fn)
  (h:(∀d∈ds,Fits d)->wc T (PCall P) (LCall P) ⟨[],[]⟩ c 0 (rV T (qh P) fn.results.toList [] out.toA []) (kC 0 (ds.map .data)) [])
  (hT:iZ P T:=by exact tok) (hm:P.follows .mixedOrders=true:=by exact hmix) (hb:fn.body=some c:=by rfl) (hname:(fn.name == "runtime.NumGoroutine")=false:=by kernel_rfl) (hs:dw fn.ntmps c=true:=by kernel_rfl)
  (hn:(Nat.ble ds.length fn.ntmps&&Nat.ble fn.ntmps 999999 && !(Nat.beq f xK))=true:=by kernel_rfl):PCall P f ds out:=gI hT hm ⟨[],[]⟩ hf hb hname hs hn h
theorem ay{ds:List D}{out:nK}(hf:P.funcs[f]? = some fn)
  (h:wc T (PCall P) (LCall P) ⟨[],[]⟩ c 0 (rV T (qh P) fn.results.toList [] out.toA []) (kC 0 (ds.map .data)) [])
  (hT:iZ P T:=by exact tok) (hm:P.follows .mixedOrders=true:=by exact hmix) (hb:fn.body=some c:=by rfl) (hname:(fn.name == "runtime.NumGoroutine")=false:=by kernel_rfl) (hs:dw fn.ntmps c=true:=by kernel_rfl)
  (hn:(Nat.ble ds.length fn.ntmps&&Nat.ble fn.ntmps 999999 && !(Nat.beq f xK))=true:=by kernel_rfl):PCall P f ds out:=gI hT hm ⟨[],[]⟩ hf hb hname hs hn λ_=>h
end
theorem cO{A B q:Prop}(h:B)(e:B->A:=by exact λh=>⟨[],rfl,h,trivial⟩):A\/q:=.inl (e h)
end Go.Fw
