/- Loops over maps, at the end of a function's text: the order is the machine's. -/
import Derived.Maps.RangeRun
import Derived.Test.YtmfehangcmbidaaGreatDoorZKA
set_option linter.unusedSectionVars false
set_option linter.unusedSimpArgs false
set_option linter.unusedVariables false
namespace Go.Fw
variable [ae]
def PG:List Oper->Option (List Oper×Oper)
 | []=>none
 | [o]=>some ([],o)
 |o::r=>match PG r with |some (p,x)=>some (o::p,x) |none=>none
theorem NM:∀{l:List Oper} {p:List Oper} {x:Oper},PG l=some (p,x)->l=p++[x]
 | [],_,_,h=>by simp[PG]at h
 | [o],p,x,h=>by simp only[PG,Option.some.injEq,Prod.mk.injEq]at h;obtain⟨rfl,rfl⟩:=h;rfl
 |o::o2::r,p,x,h=>by
  simp only[PG]at h
  split at h
  ·rename_i p' x' hl
   simp only[Option.some.injEq,Prod.mk.injEq]at h
   obtain⟨rfl,rfl⟩:=h
   rw[NM hl];rfl
  ·simp at h
def EX(o:Oper):Option (TypeId×Operand×Nat):=match o.guard with
 |some _=>none
 |none=>match o.op with
  | .range t m=>match o.dst with |some d=>some (t,m,d) |none=>none
  |_=>none
def NP(it:Nat)(o:Oper):Option Nat:=match o.guard with
 |some _=>none
 |none=>match o.op with
  | .next (.tmp j) false=>match o.dst with |some d=>(match Nat.beq j it with |true=>some d |false=>none) |none=>none
  |_=>none
def Xr(d:Nat)(o:Oper):Option Nat:=match o.guard with
 |some _=>none
 |none=>match o.op with
  | .extract (.tmp j) 0=>match o.dst with |some e=>(match Nat.beq j d with |true=>some e |false=>none) |none=>none
  |_=>none
def EY(it:Nat)(o:Oper):Option Nat:=match o.guard with
 |some _=>none
 |none=>match o.op with
  | .entry (.tmp j)=>match o.dst with |some e=>(match Nat.beq j it with |true=>some e |false=>none) |none=>none
  |_=>none
theorem PH{o:Oper}{t:TypeId}{m:Operand}{d:Nat}(h:EX o=some (t,m,d)):o.guard=none/\o.op = .range t m/\o.dst=some d:=by
 unfold EX at h
 split at h
 ·simp at h
 ·split at h
  ·split at h
   ·simp_all
   ·simp at h
  ·simp at h
theorem UW{o:Oper}{it d:Nat}(h:NP it o=some d):o.guard=none/\o.op = .next (.tmp it) false/\o.dst=some d:=by
 unfold NP at h
 split at h
 ·simp at h
 ·split at h
  ·split at h
   ·split at h
    ·rename_i hb;have:=Nat.eq_of_beq_eq_true hb;simp_all
    ·simp at h
   ·simp at h
  ·simp at h
theorem Xt{o:Oper}{d e:Nat}(h:Xr d o=some e):o.guard=none/\o.op = .extract (.tmp d) 0/\o.dst=some e:=by
 unfold Xr at h
 split at h
 ·simp at h
 ·split at h
  ·split at h
   ·split at h
    ·rename_i hb;have:=Nat.eq_of_beq_eq_true hb;simp_all
    ·simp at h
   ·simp at h
  ·simp at h
theorem PI{o:Oper}{it d:Nat}(h:EY it o=some d):o.guard=none/\o.op = .entry (.tmp it)/\o.dst=some d:=by
 unfold EY at h
 split at h
 ·simp at h
 ·split at h
  ·split at h
   ·split at h
    ·rename_i hb;have:=Nat.eq_of_beq_eq_true hb;simp_all
    ·simp at h
   ·simp at h
  ·simp at h
structure Dx where
 ops8:Array Oper
 pre:List Oper
 t:TypeId
 mo:Operand
 it:Nat
 d:Nat
 ec:Nat
 lb3:Nat
 ops10:Array Oper
 en:Nat
 r10:List Oper
 rest:Code
def J4:Code->Option (Nat×Array Oper×Operand×Nat×Nat×Array Oper×Code)
 | .block lb (.loop (.seq (.region _ ops9 false) (.seq (.cond c .skip (.exit lb')) (.block lb3 (.seq (.region _ ops10 false) rest)))))=>some (lb,ops9,c,lb',lb3,ops10,rest)
 |_=>none
theorem PK{b:Code}{lb:Nat}{ops9:Array Oper}{c:Operand}{lb' lb3:Nat}{ops10:Array Oper}{rest:Code}(h:J4 b=some (lb,ops9,c,lb',lb3,ops10,rest)) :
  ∃i9 i10,b = .block lb (.loop (.seq (.region i9 ops9 false) (.seq (.cond c .skip (.exit lb')) (.block lb3 (.seq (.region i10 ops10 false) rest))))):=by
 unfold J4 at h
 split at h
 ·simp only[Option.some.injEq,Prod.mk.injEq]at h
  obtain⟨rfl,rfl,rfl,rfl,rfl,rfl,rfl⟩:=h
  exact⟨_,_,rfl⟩
 ·simp at h
def lastOf:Code->Option (Array Oper×List Oper×Oper)
 | .region _ ops false=>match PG ops.toList with |some (p,x)=>some (ops,p,x) |none=>none
 |_=>none
theorem UX{a:Code}{ops:Array Oper}{p:List Oper}{x:Oper}(h:lastOf a=some (ops,p,x)):∃i,a = .region i ops false/\ops.toList=p++[x]:=by
 unfold lastOf at h
 split at h
 ·split at h
  ·rename_i hl
   simp only[Option.some.injEq,Prod.mk.injEq]at h
   obtain⟨rfl,rfl,rfl⟩:=h
   exact⟨_,rfl,NM hl⟩
  ·simp at h
 ·simp at h
def z6f(j:Nat):Operand->Bool | .tmp i=>Nat.beq i j |_=>false
def qL(a b:Code):Option Dx:=match lastOf a with
 |none=>none
 |some (ops8,pre,o8)=>match EX o8 with
  |none=>none
  |some (t,mo,it)=>match J4 b with
   |none=>none
   |some (lb,ops9,c,lb',lb3,ops10,rest)=>match ops9.toList with
    | [o9,o9b]=>match NP it o9 with
     |none=>none
     |some d=>match Xr d o9b with
      |none=>none
      |some ec=>match ops10.toList with
       | []=>none
       |o10::r10=>match EY it o10 with
        |none=>none
        |some en=>match z6f ec c&&(Nat.beq lb lb'&&(!Nat.beq lb lb3&&(!Nat.beq it d && !Nat.beq it ec)))with
         |true=>some ⟨ops8,pre,t,mo,it,d,ec,lb3,ops10,en,r10,rest⟩
         |false=>none
    |_=>none
theorem J5{a b:Code}{sh:Dx}(h:qL a b=some sh):∃i8 o8 lb i9 ops9 o9 o9b i10 o10,a = .region i8 sh.ops8 false/\sh.ops8.toList=sh.pre++[o8]/\EX o8=some (sh.t,sh.mo,sh.it) /\
  b = .block lb (.loop (.seq (.region i9 ops9 false) (.seq (.cond (.tmp sh.ec) .skip (.exit lb)) (.block sh.lb3 (.seq (.region i10 sh.ops10 false) sh.rest)))))/\ops9.toList = [o9,o9b]/\NP sh.it o9=some sh.d/\Xr sh.d o9b=some sh.ec /\
  sh.ops10.toList=o10::sh.r10/\EY sh.it o10=some sh.en/\lb≠sh.lb3/\sh.it≠sh.d/\sh.it≠sh.ec:=by
 unfold qL at h
 split at h
 ·simp at h
 rename_i ops8 pre o8 h8
 split at h
 ·simp at h
 rename_i t mo it hr
 split at h
 ·simp at h
 rename_i lb ops9 c lb' lb3 ops10 rest hl
 split at h
 rotate_left
 ·simp at h
 rename_i o9 o9b h9
 split at h
 ·simp at h
 rename_i d hn
 split at h
 ·simp at h
 rename_i ec he
 split at h
 ·simp at h
 rename_i o10 r10 h10
 split at h
 ·simp at h
 rename_i en hen
 split at h
 rotate_left
 ·simp at h
 rename_i hb
 simp only[Option.some.injEq]at h
 subst h
 simp only[Bool.and_eq_true,Bool.not_eq_true']at hb
 obtain⟨hc,hb1,hb2,hb3,hb4⟩:=hb
 have e1:=Nat.eq_of_beq_eq_true hb1
 subst e1
 have hc':c = .tmp ec:=by
  unfold z6f at hc
  split at hc
  ·rw[Nat.eq_of_beq_eq_true hc]
  ·simp at hc
 subst hc'
 obtain⟨i8,ha,h8'⟩:=UX h8
 obtain⟨i9,i10,hbb⟩:=PK hl
 exact⟨i8,o8,lb,i9,ops9,o9,o9b,i10,o10,ha,h8',hr,hbb,h9,hn,he,h10,hen,λe=>by simp only at e;subst e;simp at hb2,λe=>by simp only at e;subst e;simp at hb3,λe=>by simp only at e;subst e;simp at hb4⟩
def sbA(m bm:Nat):AV->AV
 | .map i=>match Nat.beq i m with |true=>.data (.val (.map (some bm))) |false=>.map i
 |x=>x
def sbL(m bm:Nat):List AV->List AV
 | []=>[]
 |x::r=>sbA m bm x::sbL m bm r
def sbB(m bm:Nat):Block->Block
 | .cells cs=>.cells (sbL m bm cs)
 |b=>b
def sbH(m bm:Nat):Heap->Heap
 | []=>[]
 |(i,b)::r=>(i,sbB m bm b)::sbH m bm r
structure z6g where
 S:Type
 e:Env
 H:S->Heap
 I:S->List (D×D)->Prop
def itv(r:Nat):AV:=.data (.val (.pointer (some ⟨r,0,none⟩)))
def z6h(e:Env):List Nat->Bool
 | []=>true
 |j::r=>(match e.get j with | .top=>true |_=>false)&&z6h e r
theorem nX{e:Env}:∀{l:List Nat} {j:Nat},z6h e l=true->j∈l->e.get j = .top
 | [],_,_,h=>by simp at h
 |i::r,j,h,hj=>by
  simp only[z6h,Bool.and_eq_true]at h
  rcases List.mem_cons.1 hj with rfl |hj
  ·have:=h.1
   split at this
   ·assumption
   ·simp at this
  ·exact nX h.2 hj
def retM(m:Nat)(g:Bool)(l:List KS)(es:List (D×D))(b:Nat)(Qr:Env->Heap->Prop)(env':Env)(K':Heap):Prop:=
 ∃(Ke:Env) (He:Heap),qX env' K' Ke (sbH m b He)/\(eG m Ke=false/\nZ m (sbH m b He)=false/\He.get m=none/\z6h Ke [dfId]=true)/\Qr Ke ((m,.map g l es)::He)
structure z8n(R:z6g)(sh:List Nat)(it m:Nat)(g:Bool)(l:List KS)(es:List (D×D))(rnd:Env->D×D->Heap->(Env->Heap->Prop)->(Env->Heap->Prop)->Prop)(Q Qr:Env->Heap->Prop)(env:Env)(K:Heap):Prop where
 start:∃s,R.I s es/\∀b,qX env (sbH m b (K.del m)) R.e (sbH m b (R.H s))
 men:eG m R.e=false
 menh:∀s b,nZ m (sbH m b (R.H s))=false
 no:∀s,(R.H s).get m=none
 df:z6h R.e (dfId::sh)=true
 round:∀s l1 x l2 b r,R.I s (l1++x::l2)->rnd ((it,itv r)::R.e) x (sbH m b (R.H s)) (λenv' K'=>∃s',R.I s' (l1++l2)/\qX env' K' ((it,itv r)::R.e) (sbH m b (R.H s'))) (retM m g l es b Qr)
 fin:∀s,R.I s []->Q R.e ((m,.map g l es)::R.H s)
@[irreducible] def MapAt (_:Nat) (p:Prop):Prop:=p
theorem MapAt.mk(i:Nat){p:Prop}(h:p):MapAt i p:=by unfold MapAt;exact h
theorem MapAt.out{i:Nat}{p:Prop}(h:MapAt i p):p:=by unfold MapAt at h;exact h
section
variable (T : Tbl) (A : FuncId → List D → oz → Prop) (B : FuncId → List AV → Heap → gp → Heap → Prop)
def z9y(lb:Nat)(k kr:Env->Heap->Prop):Post:=λo env K=>match o with
 | .ret=>kr env K
 |o=>(o = .normal\/o = .exit lb)/\k env K
noncomputable def Yx(An:Ql)(sh:Dx)(e:Env)(x:D×D)(H:Heap)(k kr:Env->Heap->Prop):Prop:=
 Fp T A B sh.ops10 (λenv K=>wc T A B An sh.rest 0 (z9y sh.lb3 k kr) env K) (λ_ _ _=>False) sh.r10 [] ((sh.en,.data (.tuple [x.1,x.2]))::(sh.ec,.b true)::(sh.d,.data (.tuple [.b true,x.1,x.2]))::e) H
noncomputable def z6i(An:Ql)(sh:Dx)(Q:Post)(env:Env)(K:Heap):Prop:=
 Fp T A B sh.ops8 (λenv K=>MapAt sh.it (∃m g l es,(ev T env 0 sh.mo = .map m/\K.get m=some (.map g l es))/\(∃k e,(T.at sh.t).ty = .map k e)/\∃R:z6g,z8n R [sh.it,sh.d,sh.ec] sh.it m g l es (Yx T A B An sh) (Q .normal) (Q .ret) env K)) (λenv v K=>Q (.panic v) env K) sh.pre [] env K
def EZ:Code->Option Dx
 | .seq x y=>qL x y
 |_=>none
noncomputable def wcM(An:Ql)(c:Code):Post->Env->Heap->Prop:=
 Code.rec (motive:=λ_=>Post->Env->Heap->Prop)
  (λQ env K=>wc T A B An .skip 0 Q env K)
  (λid ops draw Q env K=>wc T A B An (.region id ops draw) 0 Q env K)
  (λa b _ ihb Q env K=>match qL a b with
   |some sh=>z6i T A B An sh Q env K
   |none=>match EZ a with
    |some sh=>z6i T A B An sh (Post.then (λenv K=>ihb Q env K) Q) env K
    |none=>wc T A B An a 0 (Post.then (λenv K=>ihb Q env K) Q) env K)
  (λc a b _ _ Q env K=>wc T A B An (.cond c a b) 0 Q env K)
  (λid c _ Q env K=>wc T A B An (.block id c) 0 Q env K)
  (λc _ Q env K=>wc T A B An (.loop c) 0 Q env K)
  (λg ps a b _ _ Q env K=>wc T A B An (.rangeFunc g ps a b) 0 Q env K)
  (λid Q env K=>wc T A B An (.exit id) 0 Q env K)
  (λ_ _ _ _ _=>False)
  (λ_ _ _ _=>False)
  (λ_ _ _ _=>False)
  (λQ env K=>wc T A B An .ret 0 Q env K)
  (λ_ _ _ _=>False) c
end
theorem Oper.wq_mono2{P:Program}{o:Oper}{a:Act}{w:World}{next next':Act->World->Prop}{Q Q':Exit->Act->World->Prop}(hn:∀a w,next a w->next' a w)(hq:∀e a w,e ≠ .normal->Q e a w->Q' e a w)
  (h:Oper.wq P o a w next Q):Oper.wq P o a w next' Q':=by
 have lo:LetsOut Q->LetsOut Q':=λ⟨a,w,h⟩=>⟨a,w,hq _ _ _ (by simp) h⟩
 rcases h with h |⟨l,f,tmps,assign,body,hr,hR⟩
 ·left
  unfold Oper.wp at h ⊢
  generalize (execOp a.eval o).run P w=r at h ⊢
  unfold Oper.upon at h ⊢
  split at h
  ·exact hn _ _ h
  ·exact hn _ _ h
  ·exact hn _ _ h
  ·refine Calls.mono h λe w'' he=>?_
   cases e with
   |returned v=>exact hn _ _ he
   |panicked c=>exact hq _ _ _ (by simp) he
   |outgrown=>exact lo he
  ·exact Rows.mono h λv w'' he=>hn _ _ he
  ·exact hq _ _ _ (by simp) h
  ·exact h.elim
 ·refine .inr ⟨l,f,tmps,assign,body,hr,RoundIn.mono hR λe w'' he=>?_⟩
  cases e with
  |returned v=>exact hn _ _ he
  |panicked c=>exact hq _ _ _ (by simp) he
  |outgrown=>exact lo he
theorem J6{ρ:Option Nat}{P:Program}{ops:Array Oper}{Q Q':Exit->Act->World->Prop}{l2:List Oper}(hn:∀a w,Q' .normal a w->wpL ρ P ops Q l2 a w)(hq:∀e a w,e ≠ .normal->Q' e a w->Q e a w):∀{l1:List Oper} {a:Act} {w:World},wpL ρ P ops Q' l1 a w->wpL ρ P ops Q (l1++l2) a w
 | [],a,w,h=>hn a w h
 |o::r,a,w,h=>by
  simp only[List.cons_append,wpL]at h ⊢
  split at h
  ·rename_i hw
   rw[if_pos hw]
   exact⟨h.1,Oper.wq_mono2 (λa w h=>J6 hn hq h) hq h.2⟩
  ·rename_i hw
   rw[if_neg hw]
   exact J6 hn hq h
theorem lh{o:Oper}(h:o.guard=none)(v:Nat->Option Bool):Region.wanted o v=true:=by simp[Region.wanted,h]
end Go.Fw
namespace Go.Fw
variable [ae] {M : Mem} {mes : Array MapEntry} {m bm : Nat} {w : World} {N : aK} {ρ : Operand → Value} {a : Act} {env : Env} {o : Oper} {n : Nat} {x : Operand} {K : Heap}
def yu(mes:List MapEntry)(es:List (D×D))(seen:Array Nat):List (D×D):=((mes.zip es).filter λp=>!seen.contains p.1.born).map (·.2)
theorem J7{mes:List MapEntry}{es:List (D×D)}(h:mes.length=es.length):yu mes es #[]=es:=by
 have:(mes.zip es).filter (λp=>!(#[]:Array Nat).contains p.1.born)=mes.zip es:=List.filter_eq_self.2 λp _=>by simp
 unfold yu
 rw[this]
 exact List.map_snd_zip (by omega)
theorem UY{es:List (D×D)}{seen:Array Nat}(h:(leftOf mes seen).size=0):yu mes.toList es seen = []:=by
 unfold yu
 have:(mes.toList.zip es).filter (λp=>!seen.contains p.1.born) = []:=List.filter_eq_nil_iff.2 λp hp=>by
  have h1:p.1∈mes.toList:=(List.of_mem_zip (a:=p.1) (b:=p.2) hp).1
  intro hs
  have h2:p.1∈leftOf mes seen:=Array.mem_filter.2 ⟨Array.mem_toList_iff.1 h1,hs⟩
  have h3:leftOf mes seen = #[]:=Array.eq_empty_of_size_eq_zero h
  rw[h3]at h2
  simp at h2
 rw[this];rfl
theorem J8{es:List (D×D)}{seen:Array Nat}{e:MapEntry}(hs:mes.size=es.length)(hn:(mes.toList.map (·.born)).Nodup)(he:e∈(leftOf mes seen).toList) :
  ∃(l1:List (D×D)) (x:D×D) (l2:List (D×D)) (i:Nat),es[i]? = some x/\mes[i]? = some e/\yu mes.toList es seen=l1++x::l2/\yu mes.toList es (seen.push e.born)=l1++l2:=by
 obtain⟨h1,h2⟩:=mem_left he
 obtain⟨i,hi⟩:=List.getElem?_of_mem h1
 have hlt:i<mes.size:=by
  obtain⟨h,_⟩:=List.getElem?_eq_some_iff.1 hi
  simpa using h
 obtain⟨x,hx⟩:∃x,es[i]? = some x:=⟨es[i]'(by omega),by simp⟩
 have hz:(mes.toList.zip es)[i]? = some (e,x):=by rw[List.getElem?_zip_eq_some];exact⟨hi,hx⟩
 obtain⟨hzl,hze⟩:=List.getElem?_eq_some_iff.1 hz
 have hsp:mes.toList.zip es=(mes.toList.zip es).take i++(e,x)::(mes.toList.zip es).drop (i+1):=by
  rw[<-hze,List.getElem_cons_drop,List.take_append_drop]
 generalize hz1:(mes.toList.zip es).take i=z1 at hsp
 generalize hz2:(mes.toList.zip es).drop (i+1)=z2 at hsp
 have hb:((mes.toList.zip es).map (λp=>p.1.born)).Nodup:=by
  have e1:(mes.toList.zip es).map (λp=>p.1.born)=mes.toList.map (·.born):=by
   have e2:=List.map_fst_zip (l₁:=mes.toList) (l₂:=es) (by simp;omega)
   calc (mes.toList.zip es).map (λp=>p.1.born)=((mes.toList.zip es).map Prod.fst).map (·.born):=by rw[List.map_map];rfl
    _=_:=by rw[e2]
  rw[e1];exact hn
 rw[hsp]at hb
 simp only[List.map_append,List.map_cons,List.nodup_append,List.nodup_cons,List.mem_map,List.mem_cons]at hb
 obtain⟨_,⟨hb2,_⟩,hb1⟩:=hb
 have f1:∀p∈z1,(!(seen.push e.born).contains p.1.born) = !seen.contains p.1.born:=λp hp=>by
  have:p.1.born≠e.born:=λe'=>hb1 p.1.born ⟨p,hp,rfl⟩ e.born (.inl rfl) e'
  rw[contains_push]
  simp[this]
 have f2:∀p∈z2,(!(seen.push e.born).contains p.1.born) = !seen.contains p.1.born:=λp hp=>by
  have:p.1.born≠e.born:=λe'=>hb2 ⟨p,hp,e'⟩
  rw[contains_push]
  simp[this]
 refine⟨(z1.filter λp=>!seen.contains p.1.born).map (·.2),x,(z2.filter λp=>!seen.contains p.1.born).map (·.2),i,hx,by rw[<-Array.getElem?_toList];exact hi,?_,?_⟩
 ·unfold yu
  rw[hsp,List.filter_append,List.filter_cons_of_pos (by simp only[h2];rfl),List.map_append,List.map_cons]
 ·unfold yu
  rw[hsp,List.filter_append,List.filter_cons_of_neg (by simp only[contains_push,beq_self_eq_true,Bool.or_true];decide),List.map_append,List.filter_congr f1,List.filter_congr f2]
def Nb(N:aK)(bm:Nat):aK:=λb o=>N b o\/b=bm
def Mx(M:Mem)(m:Nat):Mem:=λid=>if id=m then none else M id
def My(M:Mem)(m bm:Nat):Mem:=λid=>if id=m then some (.blk bm)else M id
theorem J9:∀{cs:List AV} {i:Nat},(sbL m bm cs)[i]? = (cs[i]?).map (sbA m bm)
 | [],i=>by simp[sbL]
 |x::r,0=>by simp[sbL]
 |x::r,i+1=>by simp[sbL,J9]
theorem Ko:∀{cs:List AV},(sbL m bm cs).length=cs.length
 | []=>rfl
 |x::r=>by simp[sbL,Ko]
theorem Kq{m bm id:Nat}:∀{K:Heap},(sbH m bm K).get id=(K.get id).map (sbB m bm)
 | []=>rfl
 |(i,b)::r=>by
  rw[sbH,Heap.get_cons,Heap.get_cons]
  split
  ·rfl
  ·exact Kq
theorem z9l(hm:bI N M w)(hM:M m=some (.blk bm)){b o:Nat}(h:(Mx M m).R b o):M.R b o/\b≠bm:=by
 obtain⟨id,ow,h1,h2⟩:=h
 unfold Mx at h1
 split at h1
 ·simp at h1
 ·rename_i hne
  exact⟨⟨id,ow,h1,h2⟩,λe=>hm.disj id m ow _ b o hne h1 hM h2 e⟩
theorem Mx_R'{m:Nat}{b o:Nat}(h:(Mx M m).R b o):M.R b o:=by
 obtain⟨id,ow,h1,h2⟩:=h
 unfold Mx at h1
 split at h1
 ·simp at h1
 ·exact⟨id,ow,h1,h2⟩
theorem z6p{m bm b o:Nat}(h:(My M m bm).R b o):b=bm\/M.R b o:=by
 obtain⟨id,ow,h1,h2⟩:=h
 unfold My at h1
 split at h1
 ·simp only[Option.some.injEq]at h1;subst h1;exact .inl h2
 ·exact .inr ⟨id,ow,h1,h2⟩
theorem shR(w:World):∀b arr t,bP w b arr t->∃arr',bP w b arr' t/\arr'.size=arr.size:=λ_ arr _ h=>⟨arr,h,rfl⟩
theorem Ik{x:AV}{ds:List Deferred}(hx:∀cs,x ≠ .dfr cs)(h:ds = []):FK N M w x ds:=by
 subst h
 cases x<;>first |rfl |exact absurd rfl (hx _)
theorem z1g{m:Nat}(id:Nat):Tr M (Mx M m) id:=by
 by_cases h:id=m
 ·exact .inr (.inr (.inr (.inr (.inl (by simp[Mx,h])))))
 ·exact .inl (by simp[Mx,h])
theorem St.mapIn[Lo]{clock:Nat}(s:St N M n env K a w)(hM:M m=some (.blk bm))(hh:w.heap[bm]? = some (.map mes clock))
  (hdf:∀cs,env.get dfId ≠ .dfr cs):St (Nb N bm) (Mx M m) n env (sbH m bm (K.del m)) a w:=by
 have hlt:bm<w.heap.size:=(Array.getElem?_eq_some_iff.1 hh).1
 have hfb:∀b o,Fb (Nb N bm) (Mx M m) b o->Fb N M b o:=by
  rintro b o ((h |h) |h)
  ·exact .inl h
  ·exact .inr ⟨m,_,hM,h⟩
  ·exact .inr (Mx_R' h)
 have k:dU w (Fb N M) w (Fb (Nb N bm) (Mx M m)):=λb o u hf hc=>⟨λh=>hf (hfb b o h),hc⟩
 refine⟨s.size,s.big,⟨Ik hdf (oO s.defers hdf),s.defers.nodup,λb hb=>⟨⟨(s.defers.mark b hb).1.1,λo h=>(s.defers.mark b hb).1.2 o (Mx_R' h)⟩,(s.defers.mark b hb).2⟩⟩,
  λj=>(s.env j).keep2 k (shR w) λid _=>z1g id,?_,?_⟩
 ·intro id blk hget
  rw[Kq,Heap.get_del]at hget
  split at hget
  ·simp at hget
  rename_i hne
  simp only[Option.map_eq_some_iff]at hget
  obtain⟨b0,hb0,rfl⟩:=hget
  have hid:Mx M m id=M id:=by unfold Mx;rw[if_neg λe=>hne e.symm]
  have hb:=s.heap id b0 hb0
  cases b0 with
  |cells cs=>
   obtain⟨b,arr,t,e1,e2,e3,e4⟩:=hb
   refine⟨b,arr,t,hid.trans e1,e2,by rw[Ko];exact e3,λi c hc=>?_⟩
   rw[J9]at hc
   simp only[Option.map_eq_some_iff]at hc
   obtain⟨x,hx,rfl⟩:=hc
   have hr:=e4 i x hx
   have hr2:=hr.keep2 k (shR w) λid _=>z1g id
   unfold sbA
   split
   ·rename_i j
    split
    ·rename_i hj
     have:=Nat.eq_of_beq_eq_true hj
     subst this
     generalize hv:arr.getD i undef=v at hr
     cases hr with
     |map _ r h=>rw[h bm hM];exact .data _ _ (.val _)
    ·exact hr2
   ·exact hr2
  |_=>exact hb.shift hid k (Nat.le_refl _) (shR w) (λ_ _ _=>rfl) λid _=>z1g id
 ·refine⟨λid id' ow ow' b o hne h1 h2 h3 h4=>?_,λid ow b o h1 h2=>?_,λb o h=>?_,λg cs hg=>?_⟩
  ·unfold Mx at h1 h2
   split at h1
   ·simp at h1
   split at h2
   ·simp at h2
   exact s.mem.disj id id' ow ow' b o hne h1 h2 h3 h4
  ·have hR:=z9l s.mem hM ⟨id,ow,h1,h2⟩
   obtain⟨⟨id',ow',h3,h4⟩,h5⟩:=hR
   have:=s.mem.dom id' ow' b o h3 h4
   exact⟨this.1,λh=>h.elim this.2 h5⟩
  ·rcases h with h |h
   ·exact s.mem.foes b o h
   ·rw[h];exact hlt
  ·obtain⟨g1,⟨t,fr,g2⟩,g3⟩:=s.mem.glob g cs hg
   refine⟨λo ho=>.inl (g1 o ho),⟨t,fr,g2⟩,λj v hj=>⟨λh=>h.elim (g3 j v hj).1 λe=>?_,(g3 j v hj).2⟩⟩
   rw[e,hh]at g2
   simp at g2
theorem St.mapOut[Lo]{H:Heap}{mes:Array MapEntry}{clock:Nat}{g:Bool}{l:List KS}{es:List (D×D)}(s:St (Nb N bm) M n env (sbH m bm H) a w)
  (hh:w.heap[bm]? = some (.map mes clock)) (hsz:mes.size=es.length) (hst:MapKept.Stamped mes clock) (hX:∀(i:Nat) (x:D×D),es[i]? = some x->fP g l x.1=true/\∃m':MapEntry,mes[i]? = some m'/\DRel (Fb (Nb N bm) M) w x.1 m'.key/\DRel (Fb (Nb N bm) M) w x.2 m'.val)
  (hN:∀o,¬N bm o) (hg:∀g cs,oJ g=some cs->∀o,cs.length<=o->N g o) (hme:eG m env=false) (hmh:nZ m (sbH m bm H)=false) (hdf:∀cs,env.get dfId ≠ .dfr cs):St N (My M m bm) n env ((m,.map g l es)::H) a w:=by
 have hlt:bm<w.heap.size:=(Array.getElem?_eq_some_iff.1 hh).1
 have hfb:∀b o,Fb N (My M m bm) b o->Fb (Nb N bm) M b o:=by
  rintro b o (h |h)
  ·exact .inl (.inl h)
  ·rcases z6p h with h |h
   ·exact .inl (.inr h)
   ·exact .inr h
 have k:dU w (Fb (Nb N bm) M) w (Fb N (My M m bm)):=λb o u hf hc=>⟨λh=>hf (hfb b o h),hc⟩
 have hmy:My M m bm m=some (.blk bm):=by simp[My]
 have tr:∀id,id≠m->Tr M (My M m bm) id:=λid h=>.inl (by simp[My,h])
 refine⟨s.size,s.big,⟨Ik hdf (oO s.defers hdf),s.defers.nodup,λb hb=>⟨⟨(s.defers.mark b hb).1.1,λo h=>?_⟩,(s.defers.mark b hb).2⟩⟩,
  λj=>(s.env j).keep2 k (shR w) λid hi=>tr id λe=>?_,?_,?_⟩
 ·rcases z6p h with h |h
  ·have h1:=(s.defers.mark b hb).1.1
   rw[h,hh]at h1
   simp at h1
  ·exact(s.defers.mark b hb).1.2 o h
 ·subst e
  have:=lD hi
  rw[hme]at this;simp at this
 ·intro id blk hget
  rw[Heap.get_cons]at hget
  split at hget
  ·rename_i e
   subst e
   simp only[Option.some.injEq]at hget
   subst hget
   exact⟨bm,mes,clock,hmy,hh,hsz,hst,λi x hx=>by
    obtain⟨k1,m',k2,k3,k4⟩:=hX i x hx
    exact⟨k1,m',k2,k3.keep k,k4.keep k⟩⟩
  rename_i hne
  have hne:id≠m:=λe=>hne e.symm
  have hget2:(sbH m bm H).get id=some (sbB m bm blk):=by rw[Kq,hget];rfl
  have hb:=s.heap id _ hget2
  have hmen:∀id',(sbB m bm blk).men id'=true->id'≠m:=λid' h e=>by
   subst e
   have:=ng hget2 h
   rw[hmh]at this;simp at this
  have hid:My M m bm id=M id:=by simp[My,hne]
  cases blk with
  |cells cs=>
   obtain⟨b,arr,t,e1,e2,e3,e4⟩:=hb
   refine⟨b,arr,t,hid.trans e1,e2,by rw[<-Ko (m:=m) (bm:=bm)];exact e3,λi x hx=>?_⟩
   have hs:(sbL m bm cs)[i]? = some (sbA m bm x):=by rw[J9,hx];rfl
   have hr:=e4 i _ hs
   have hr2:=hr.keep2 k (shR w) λid' h=>tr id' (hmen id' (by simp only[sbB,Block.men];exact jY hs h))
   unfold sbA at hr hr2
   split at hr2
   ·rename_i j
    split at hr2
    ·rename_i hj
     have:=Nat.eq_of_beq_eq_true hj
     subst this
     simp only[hj]at hr
     generalize hv:arr.getD i undef=v at hr
     cases hr with
     |data _ _ h=>
      cases h
      exact .map _ _ λb e=>by rw[hmy]at e;simp only[Option.some.injEq,Own.blk.injEq]at e;exact e
    ·exact hr2
   ·exact hr2
  |_=>exact hb.shift hid k (Nat.le_refl _) (shR w) (λ_ _ _=>rfl) λid' h=>tr id' (hmen id' h)
 ·refine⟨λid id' ow ow' b o hne h1 h2 h3 h4=>?_,λid ow b o h1 h2=>?_,λb o h=>s.mem.foes b o (.inl h),λg' cs hg'=>?_⟩
  ·unfold My at h1 h2
   split at h1<;>split at h2
   ·rename_i e e';exact hne (e.trans e'.symm)
   ·simp only[Option.some.injEq]at h1;subst h1
    exact(s.mem.dom id' ow' b o h2 h4).2 (.inr h3)
   ·simp only[Option.some.injEq]at h2;subst h2
    exact(s.mem.dom id ow b o h1 h3).2 (.inr h4)
   ·exact s.mem.disj id id' ow ow' b o hne h1 h2 h3 h4
  ·rcases z6p ⟨id,ow,h1,h2⟩with h |⟨id',ow',h3,h4⟩
   ·rw[h];exact⟨hlt,hN o⟩
   ·have:=s.mem.dom id' ow' b o h3 h4
    exact⟨this.1,λh=>this.2 (.inl h)⟩
  ·obtain⟨g1,g2,g3⟩:=s.mem.glob g' cs hg'
   exact⟨hg g' cs hg',g2,λj v hj=>⟨λh=>(g3 j v hj).1 (.inl h),(g3 j v hj).2⟩⟩
theorem UZ{M0 M1 M:Mem}{w0 w1 w:World}(e1:Evo M0 w0 M1 w1)(hM:M1 m=some (.blk bm))(e:Evo (Mx M1 m) w1 M w):Evo M0 w0 (My M m bm) w:=by
 refine e1.trans ⟨e.os,e.tape,e.output,e.size,λb hb hR=>e.block b hb λo h=>hR o (Mx_R' h),λb o u hR hc=>e.cell b o u (λh=>hR (Mx_R' h)) hc,e.shape,λb o hb h=>?_,λid hid=>?_⟩
 ·rcases z6p h with h |h
  ·exact⟨m,_,hM,h⟩
  ·exact Mx_R' (e.own b o hb h)
 ·by_cases h:id=m
  ·subst h;exact .inl (by simp[My,hM])
  ·have h1:=e.lent id hid
   unfold Tr at h1 ⊢
   have e2:My M m bm id=M id:=by simp[My,h]
   have e3:Mx M1 m id=M1 id:=by simp[Mx,h]
   rw[e2];rw[e3]at h1;exact h1
theorem Evo.keeps{M M':Mem}{w w':World}(e:Evo M w M' w')(N:aK):dU w (Fb N M) w' (Fb N M'):=λb o u hf hc=>⟨by
 rintro(h |h)
 ·exact hf (.inl h)
 ·exact hf (.inr (e.own b o (block_lt hc) h)),e.cell b o u (λh=>hf (.inr h)) hc⟩
theorem St.quiet[Lo]{w w':World}{b:Nat}(s:St N M n env K a w)(q:Quiet M w w' b)(hb:∀ds,w.heap[b]? ≠ some (.deferred ds)):St N M n env K a w':=by
 have sv:=q.sv s.sv
 exact⟨s.size,s.big,⟨s.defers.real.keep (q.keeps _) q.shape (λ_ _=>.inl rfl),s.defers.nodup,λc hc=>⟨⟨(q.other c (λe=>hb _ (e ▸ (s.defers.mark c hc).1.1))).trans (s.defers.mark c hc).1.1,(s.defers.mark c hc).1.2⟩,(s.defers.mark c hc).2⟩⟩,sv.env,sv.heap,sv.mem⟩
theorem St.alloc0[Lo](s:St N M n env K a w)(o:Obj):St N M n env K a (w.alloc o):=by
 have h:=St.turn (Δ:=[]) (nw:=[]) s (Step.alloc0 M w o) (λid h=>by simp at h) (λd h=>by simp at h) (λid blk h=>by simp[Heap.get]at h) (λid=>by simp[Heap.get])
 refine⟨h.size,h.big,h.defers,h.env,λid blk hg=>h.heap id blk ?_,h.mem⟩
 rw[iF]
 simpa[Heap.get]using hg
theorem Evo.alloc0(o:Obj):Evo M w M (w.alloc o):=(Evo.refl M w).step (nw:=[]) (Step.alloc0 M w o) (λid h=>by simp at h) λd h=>by simp at h
theorem PL{t:TypeId}(ho:o.op = .range t x):execOp ρ o=(do pure (.value (<-Instr.range t (ρ x)))):=by cases o;simp only at ho;subst ho;rfl
theorem Il{b:Bool}(ho:o.op = .next x b):execOp ρ o=(do pure (.value (<-Instr.next (ρ x) b o.type))):=by cases o;simp only at ho;subst ho;rfl
theorem PN(ho:o.op = .entry x):execOp ρ o=(do pure (.value (<-Instr.entry (ρ x)))):=by cases o;simp only at ho;subst ho;rfl
theorem Dy{P:Program}{w w':World}{v:Value}{next:Act->World->Prop}{Q:Exit->Act->World->Prop}(h:(execOp a.eval o).run P w = .ok (.value v) w')(hn:next (a.put o.dst v) w'):Oper.wq P o a w next Q:=by
 left
 unfold Oper.wp
 rw[h]
 exact hn
end Go.Fw
namespace Go.Fw
variable [ae]
theorem yc{P:Program}{xs:Array Value}{w:World}{v:Value}(h:xs[0]? = some v):(Instr.extract (.tuple xs) 0).run P w = .ok v w:=by
 simp[Instr.extract,h,Sem.run]
section
variable {P : Program} {T : Tbl} (hT : gY P T)
include hT
theorem map_ok(hmix:P.follows .mixedOrders=true){An:Ql}{ca cb:Code}{sh:Dx}(hsh:qL ca cb=some sh){Q:Post}{env:Env}{K:Heap}(h:z6i T (aj P) (ax P) An sh Q env K):Lh P (.seq ca cb) Q env K:=by
 intro _ ρ N n M0 w0 Q' M a w hs hnd hlo s e q
 obtain⟨i8,o8,lb,i9,ops9,o9,o9b,i10,o10,rfl,h8,hr,rfl,h9,hn,he,h10,hen,hlb,hnd1,hnd2⟩:=J5 hsh
 obtain⟨r1,r2,r3⟩:=PH hr
 obtain⟨n1,n2,n3⟩:=UW hn
 obtain⟨x1,x2,x3⟩:=Xt he
 obtain⟨y1,y2,y3⟩:=PI hen
 simp only[bn,Bool.and_eq_true]at hs
 simp only[nC,Bool.and_eq_true]at hnd
 obtain⟨hs8,hs9,-,hs10,hsr⟩:=hs
 have d8:=kz hs8
 have d9:=kz hs9
 have d10:=kz hs10
 rw[h8]at d8
 rw[h9]at d9
 rw[h10]at d10
 have hnr10:ρ≠none->∀o∈sh.r10,∀c,o.op ≠ .defer c:=λhr o ho=>qm (hnd hr).2.2.2.1 o (by rw[h10];simp[ho])
 have hnpre:ρ≠none->∀o∈sh.pre,∀c,o.op ≠ .defer c:=λhr o ho=>qm (hnd hr).1 o (by rw[h8];simp[ho])
 refine jG (lJ (jb ?_))
 rw[h8]
 refine J6 (Q':=λe a w=>match e with
  | .normal=>wpL ρ P sh.ops8 (Exit.then (CodeE ρ P (.block lb (.loop (.seq (.region i9 ops9 false) (.seq (.cond (.tmp sh.ec) .skip (.exit lb)) (.block sh.lb3 (.seq (.region i10 sh.ops10 false) sh.rest)))))) Q') Q') [o8] a w
  |e=>Exit.then (CodeE ρ P (.block lb (.loop (.seq (.region i9 ops9 false) (.seq (.cond (.tmp sh.ec) .skip (.exit lb)) (.block sh.lb3 (.seq (.region i10 sh.ops10 false) sh.rest)))))) Q') Q' e a w) (λ_ _ h=>h) (λe a w hne h=>by
   cases e<;>first |exact absurd rfl hne |exact h) ?_
 refine Js hT ?_ ?_ sh.pre [] env K M a w (λo ho=>d8 o (by simp[ho])) hnpre h trivial s e
 rotate_left
 ·exact λx env K M a w h s e=>q (.panic x) env K M a w h s e
 intro env1 K1 M1 a1 w1 hmap s1 e1
 -- the loop begins
 obtain⟨m,g,l,es,⟨hm,hK⟩,⟨kt,et,hty⟩,R,fit⟩:=hmap.out
 obtain⟨bm,mes,clock,b1,b2,b3,bst,b4⟩:=s1.heap m _ hK
 have hv8:a1.eval sh.mo = .map (some bm):=by
  have:=dh s1.mem (T:=T) (env:=env1) (a:=a1) 0 sh.mo λj _=>s1.env j
  rw[hm]at this
  generalize hv:a1.eval sh.mo=v at this
  cases this with
  |map _ r h=>rw[h bm b1]
 have hdf1:∀cs,env1.get dfId ≠ .dfr cs:=λcs h=>by
  obtain⟨s0,_,hW⟩:=fit.start
  have h1:=(hW 0).2.2
  rw[h,nX fit.df (by simp)]at h1
  cases h1
 simp only[wpL]
 rw[if_pos (lh r1 _)]
 refine⟨λ_ c hc=>(by rw[r2]at hc;cases hc),Dy (w':=w1.alloc (.mapIter (some bm) clock #[] clock)) (v:=.pointer (some ⟨w1.heap.size,0,none⟩)) (by
  rw[PL r2]
  simp only[Sem.run_bind,hv8,run_range_map w1 sh.t kt et bm mes clock (tbl_map' hT hty) b2,Result.andThen_ok,Sem.run_pure]) ?_⟩
 -- the memory without the map
 have hitn:sh.it<n:=d8 o8 (by simp) _ r3
 have sI:=s1.mapIn b1 b2 hdf1
 have hbR:∀o,¬(Mx M1 m).R bm o:=λo h=>(z9l s1.mem b1 h).2 rfl
 have hb1lt:bm<w1.heap.size:=(Array.getElem?_eq_some_iff.1 b2).1
 obtain⟨s0,hI0,hW0⟩:=fit.start
 have hW0:=hW0 bm
 rw[kE]at hW0
 obtain⟨M2,sW,eW⟩:=sI.weak (Evo.refl (Mx M1 m) w1) hW0
 have sA:=sW.alloc0 (.mapIter (some bm) clock #[] clock)
 have eA:Evo (Mx M1 m) w1 M2 (w1.alloc (.mapIter (some bm) clock #[] clock)):=eW.trans (Evo.alloc0 _)
 obtain⟨r,hrw⟩:∃r,r=w1.heap.size:=⟨_,rfl⟩
 rw[<-hrw]
 have hrN:∀o,¬M2.R r o:=λo ⟨id,ow,h1,h2⟩=>by
  have:=(sW.mem.dom id ow r o h1 h2).1
  omega
 have sP:St (Nb N bm) M2 n ((sh.it,itv r)::R.e) (sbH m bm (R.H s0)) (a1.put o8.dst (.pointer (some ⟨r,0,none⟩))) (w1.alloc (.mapIter (some bm) clock #[] clock)):=by
  have:=sA.put (dst:=o8.dst) (x:=itv r) (v:=.pointer (some ⟨r,0,none⟩)) (λd hd=>by rw[r3]at hd;simp only[Option.some.injEq]at hd;omega) (.data _ _ (.val _))
  rw[r3]at this ⊢
  exact this
 have hX0:∀(i:Nat) (x:D×D),es[i]? = some x->fP g l x.1=true/\∃m':MapEntry,mes[i]? = some m'/\DRel (Fb (Nb N bm) M2) (w1.alloc (.mapIter (some bm) clock #[] clock)) x.1 m'.key/\DRel (Fb (Nb N bm) M2) (w1.alloc (.mapIter (some bm) clock #[] clock)) x.2 m'.val:=by
  intro i x hx
  obtain⟨k1,m',k2,k3,k4⟩:=b4 i x hx
  have kk:dU w1 (Fb N M1) w1 (Fb (Nb N bm) (Mx M1 m)):=λb o u hf hc=>⟨by
   rintro((h |h) |h)
   ·exact hf (.inl h)
   ·exact hf (.inr ⟨m,_,b1,h⟩)
   ·exact hf (.inr (Mx_R' h)),hc⟩
  exact⟨k1,m',k2,(k3.keep kk).keep (eA.keeps _),(k4.keep kk).keep (eA.keeps _)⟩
 -- the rounds
 refine sO ?_
 refine Cj (S:=R.S×Array Nat) (λst a w=>R.I st.1 (yu mes.toList es st.2)/\∃M,St (Nb N bm) M n ((sh.it,itv r)::R.e) (sbH m bm (R.H st.1)) a w/\Evo (Mx M1 m) w1 M w/\(∀o,¬M.R r o) /\
   (∃last,clock<=last/\w.heap[r]? = some (.mapIter (some bm) clock st.2 last))/\∀(i:Nat) (x:D×D),es[i]? = some x->fP g l x.1=true/\∃m':MapEntry,mes[i]? = some m'/\DRel (Fb (Nb N bm) M) w x.1 m'.key/\DRel (Fb (Nb N bm) M) w x.2 m'.val)
  (λst=>(leftOf mes st.2).size) (λst a w hJ=>?_) (s0,#[]) _ _ ⟨by rw[J7 (by simpa using b3)];exact hI0,M2,sP,eA,hrN,⟨clock,Nat.le_refl _,by rw[hrw];exact heap_alloc_new _ _⟩,hX0⟩
 obtain⟨hI,M,st1,ev1,hfree,⟨last,hlast,hri⟩,hX⟩:=hJ
 have hbm:w.heap[bm]? = some (.map mes clock):=(ev1.block bm hb1lt hbR).trans b2
 have hit:a.eval (.tmp sh.it) = .pointer (some ⟨r,0,none⟩):=by
  have h1:=st1.env sh.it
  rw[Env.get_cons,if_pos rfl]at h1
  generalize hv:a.tmps.getD sh.it undef=v at h1
  cases h1 with
  |data _ _ h=>cases h;exact hv
 refine jG (lJ (jb ?_))
 rw[h9]
 simp only[wpL]
 rw[if_pos (lh n1 _)]
 have hd9:∀d,o9.dst=some d->d<n:=d9 o9 (by simp)
 have hd9b:∀d,o9b.dst=some d->d<n:=d9 o9b (by simp)
 have hdn:sh.d<n:=hd9 _ n3
 rcases run_next_at (P:=P) w o9.type r bm clock last st.2 mes clock hri hbm bst.1 hlast with⟨h0,hrun⟩ |⟨ent,hent,w2,hal,hrun⟩
 ·-- nothing is left
  refine⟨λ_ c hc=>(by rw[n2]at hc;cases hc),Dy (w':=w) (v:=.tuple #[.bool false]) (by
   rw[Il n2]
   simp only[Sem.run_bind,hit,hrun,Result.andThen_ok,Sem.run_pure]) ?_⟩
  rw[if_pos (lh x1 _)]
  have stA:=st1.put (dst:=o9.dst) (x:=.data (.tuple [.b false])) (v:=.tuple #[.bool false]) hd9 (.data _ _ (.tuple _ _ rfl λi d hd=>by
   cases i with
   |zero=>simp at hd;subst hd;exact .val _
   |succ i=>simp at hd))
  have hev:(a.put o9.dst (.tuple #[.bool false])).eval (.tmp sh.d) = .tuple #[.bool false]:=by
   rw[n3];simp[Act.eval,Act.put,st1.size,hdn]
  refine⟨λ_ c hc=>(by rw[x2]at hc;cases hc),Dy (w':=w) (v:=.bool false) (by
   rw[lG x2,hev]
   simp only[Sem.run_bind,yc (xs:=#[.bool false]) (v:=.bool false) rfl,Result.andThen_ok,Sem.run_pure]) ?_⟩
  have stB:=stA.put (dst:=o9b.dst) (x:=.b false) (v:=.bool false) hd9b (.data _ _ (.val _))
  refine jG (oh (by
   rw[x3]
   have hlt:sh.ec<n:=hd9b _ x3
   simp[Act.eval,Act.put,st1.size,hlt,n3]) (wH ?_))
  show Exit.inBlock lb Q' (.exit lb) _ w
  simp only[Exit.inBlock,if_true]
  have hIe:=hI
  rw[UY h0]at hIe
  have stC:St (Nb N bm) M n R.e (sbH m bm (R.H st.1)) ((a.put o9.dst (.tuple #[.bool false])).put o9b.dst (.bool false)) w:=stB.view (λj=>by
   rw[n3,x3]
   simp only[Env.set]
   rw[Env.get_cons,Env.get_cons,Env.get_cons]
   split
   ·rename_i e;subst e;exact .inl (nX fit.df (by simp))
   ·split
    ·rename_i e;subst e;exact .inl (nX fit.df (by simp))
    ·split
     ·rename_i e;subst e;exact .inl (nX fit.df (by simp))
     ·exact .inr rfl) (by
   have hlt:sh.ec<n:=hd9b _ x3
   have hbig:=st1.big
   rw[n3,x3]
   simp only[Env.set]
   rw[Env.get_cons,Env.get_cons,Env.get_cons,if_neg (by omega),if_neg (by omega),if_neg (by omega)])
  have hdfe:∀cs,R.e.get dfId ≠ .dfr cs:=λcs h=>by rw[nX fit.df (by simp)]at h;cases h
  have stD:=stC.mapOut (g:=g) (l:=l) (es:=es) hbm b3 bst hX (λo h=>(s1.mem.dom m _ bm o b1 rfl).2 h) (λg cs hg=>(s1.mem.glob g cs hg).1) fit.men (fit.menh st.1 bm) hdfe
  exact q .normal R.e _ _ _ w (fit.fin st.1 hIe) stD (UZ e1 b1 ev1)
 ·-- an entry
  obtain⟨l1,x,l2,i,hx,hmi,hl,hl'⟩:=J8 (es:=es) b3 bst.2.1 hent
  obtain⟨-,m',hm',hkey,hval⟩:=hX i x hx
  rw[hmi]at hm'
  simp only[Option.some.injEq]at hm'
  subst hm'
  obtain⟨w3,hw3⟩:∃w3,w3=ChangeMaps.setBlock w2 r (.mapIter (some bm) clock (st.2.push ent.born) clock):=⟨_,rfl⟩
  rw[<-hw3]at hrun
  have hrlt:r<w.heap.size:=(Array.getElem?_eq_some_iff.1 hri).1
  have qt:Quiet M w w3 r:=by
   have base:w3.os=w.os/\w3.tape=w.tape/\w3.output=w.output/\w3.heap=w.heap.setIfInBounds r (.mapIter (some bm) clock (st.2.push ent.born) clock):=by
    rcases hal with rfl |rfl<;>(rw[hw3];exact⟨rfl,rfl,rfl,rfl⟩)
   obtain⟨q1,q2,q3,q4⟩:=base
   refine⟨q1,q2,q3,by rw[q4];simp,λb' hne=>by rw[q4];exact Array.getElem?_setIfInBounds_ne (λe=>hne e.symm),Gl hri (λ_ _ _ h=>by cases h),λarr t fr e=>by rw[hri]at e;simp at e,hfree⟩
  have hri3:w3.heap[r]? = some (.mapIter (some bm) clock (st.2.push ent.born) clock):=by
   have hsz2:w2.heap.size=w.heap.size:=by rcases hal with rfl |rfl<;>rfl
   rw[hw3]
   simp only[ChangeMaps.setBlock]
   rw[Array.getElem?_setIfInBounds_self_of_lt (by omega)]
  have hnds:∀ds,w.heap[r]? ≠ some (.deferred ds):=λds h=>by rw[hri]at h;simp at h
  have st3:=st1.quiet qt hnds
  have ev3:=qt.evo ev1 (by omega)
  have hbm3:w3.heap[bm]? = some (.map mes clock):=(ev3.block bm hb1lt hbR).trans b2
  have hkey3:DRel (Fb (Nb N bm) M) w3 x.1 ent.key:=qt.drel hkey
  have hval3:DRel (Fb (Nb N bm) M) w3 x.2 ent.val:=qt.drel hval
  refine⟨λ_ c hc=>(by rw[n2]at hc;cases hc),Dy (w':=w3) (v:=.tuple #[.bool true,ent.key,ent.val]) (by
   rw[Il n2]
   simp only[Sem.run_bind,hit,hrun,Result.andThen_ok,Sem.run_pure]) ?_⟩
  rw[if_pos (lh x1 _)]
  have stA:=st3.put (dst:=o9.dst) (x:=.data (.tuple [.b true,x.1,x.2])) (v:=.tuple #[.bool true,ent.key,ent.val]) hd9 (.data _ _ (.tuple _ _ rfl λi d hd=>by
   match i,hd with
   | 0,hd=>simp at hd;subst hd;exact .val _
   | 1,hd=>simp at hd;subst hd;exact hkey3
   | 2,hd=>simp at hd;subst hd;exact hval3
   |i+3,hd=>simp at hd))
  have hev:(a.put o9.dst (.tuple #[.bool true,ent.key,ent.val])).eval (.tmp sh.d) = .tuple #[.bool true,ent.key,ent.val]:=by
   rw[n3];simp[Act.eval,Act.put,st1.size,hdn]
  refine⟨λ_ c hc=>(by rw[x2]at hc;cases hc),Dy (w':=w3) (v:=.bool true) (by
   rw[lG x2,hev]
   simp only[Sem.run_bind,yc (xs:=#[.bool true,ent.key,ent.val]) (v:=.bool true) rfl,Result.andThen_ok,Sem.run_pure]) ?_⟩
  have stB:=stA.put (dst:=o9b.dst) (x:=.b true) (v:=.bool true) hd9b (.data _ _ (.val _))
  refine jG (pg (by
   rw[x3]
   have hlt:sh.ec<n:=hd9b _ x3
   simp[Act.eval,Act.put,st1.size,hlt,n3]) (Ci ?_))
  show CodeE ρ P _ _ _ w3
  refine sO (jG (lJ (jb ?_)))
  rw[h10]
  simp only[wpL]
  rw[if_pos (lh y1 _)]
  have hit3:((a.put o9.dst (.tuple #[.bool true,ent.key,ent.val])).put o9b.dst (.bool true)).eval (.tmp sh.it) = .pointer (some ⟨r,0,none⟩):=by
   have h1:=hit
   simp only[Act.eval]at h1 ⊢
   rw[n3,x3]
   simp only[Act.put,Array.getD_eq_getD_getElem?]
   rw[Array.getElem?_setIfInBounds_ne (λe=>hnd2 e.symm),Array.getElem?_setIfInBounds_ne (λe=>hnd1 e.symm)]
   simpa only [Array.getD_eq_getD_getElem?]using h1
  refine⟨λ_ c hc=>(by rw[y2]at hc;cases hc),Dy (w':=w3) (v:=.tuple #[ent.key,ent.val]) (by
   rw[PN y2,hit3]
   simp only[Sem.run_bind,run_entry_at w3 r bm clock st.2 mes clock ent hri3 hbm3 (mem_left hent).1 bst.2.1,Result.andThen_ok,Sem.run_pure]) ?_⟩
  have stE:=stB.put (dst:=o10.dst) (x:=.data (.tuple [x.1,x.2])) (v:=.tuple #[ent.key,ent.val]) (d10 o10 (by simp)) (.data _ _ (.tuple _ _ rfl λi d hd=>by
   match i,hd with
   | 0,hd=>simp at hd;subst hd;exact hkey3
   | 1,hd=>simp at hd;subst hd;exact hval3
   |i+2,hd=>simp at hd))
  have hE:Env.set (Env.set (Env.set ((sh.it,itv r)::R.e) o9.dst (.data (.tuple [.b true,x.1,x.2]))) o9b.dst (.b true)) o10.dst (.data (.tuple [x.1,x.2]))=(sh.en,.data (.tuple [x.1,x.2]))::(sh.ec,.b true)::(sh.d,.data (.tuple [.b true,x.1,x.2]))::(sh.it,itv r)::R.e:=by
   rw[n3,x3,y3];rfl
  rw[hE]at stE
  rw[hl]at hI
  have hrnd:=fit.round st.1 l1 x l2 bm r hI
  unfold Yx at hrnd
  have hfree3:∀o,¬M.R r o:=hfree
  have hrlt3:r<w3.heap.size:=by rw[qt.size];exact hrlt
  -- the end of a round
  have back:∀env' K' M' a' w',(∃s',R.I s' (l1++l2)/\qX env' K' ((sh.it,itv r)::R.e) (sbH m bm (R.H s')))->St (Nb N bm) M' n env' K' a' w'->Evo M w3 M' w' ->
    ∃st':R.S×Array Nat,(leftOf mes st'.2).size<(leftOf mes st.2).size/\R.I st'.1 (yu mes.toList es st'.2)/\∃M,St (Nb N bm) M n ((sh.it,itv r)::R.e) (sbH m bm (R.H st'.1)) a' w'/\Evo (Mx M1 m) w1 M w'/\(∀o,¬M.R r o) /\
     (∃last,clock<=last/\w'.heap[r]? = some (.mapIter (some bm) clock st'.2 last))/\∀(i:Nat) (x:D×D),es[i]? = some x->fP g l x.1=true/\∃m':MapEntry,mes[i]? = some m'/\DRel (Fb (Nb N bm) M) w' x.1 m'.key/\DRel (Fb (Nb N bm) M) w' x.2 m'.val:=by
   intro env' K' M' a' w' ⟨s',hs',hW⟩ st' ev'
   rw[kE]at hW
   obtain⟨M'',st'',ev''⟩:=st'.weak ev' hW
   refine⟨(s',st.2.push ent.born),left_shrinks mes st.2 ent hent,by rw[hl'];exact hs',M'',st'',ev3.trans ev'',LM ev'' hrlt3 hfree3,⟨clock,Nat.le_refl _,(ev''.block r hrlt3 hfree3).trans hri3⟩,λi x hx=>?_⟩
   obtain⟨k1,m',k2,k3,k4⟩:=hX i x hx
   exact⟨k1,m',k2,(qt.drel k3).keep (ev''.keeps _),(qt.drel k4).keep (ev''.keeps _)⟩
  have go:=Js hT (ρ:=ρ) (n:=n) (N:=Nb N bm) (M0:=M) (w0:=w3) (Q':=Exit.then (CodeE ρ P sh.rest (Exit.inBlock sh.lb3 (Exit.then (λa' w'=>∃st':R.S×Array Nat,(leftOf mes st'.2).size<(leftOf mes st.2).size/\R.I st'.1 (yu mes.toList es st'.2)/\∃M,St (Nb N bm) M n ((sh.it,itv r)::R.e) (sbH m bm (R.H st'.1)) a' w'/\Evo (Mx M1 m) w1 M w'/\(∀o,¬M.R r o) /\
     (∃last,clock<=last/\w'.heap[r]? = some (.mapIter (some bm) clock st'.2 last))/\∀(i:Nat) (x:D×D),es[i]? = some x->fP g l x.1=true/\∃m':MapEntry,mes[i]? = some m'/\DRel (Fb (Nb N bm) M) w' x.1 m'.key/\DRel (Fb (Nb N bm) M) w' x.2 m'.val) (Exit.inBlock lb Q')))) (Exit.inBlock sh.lb3 (Exit.then (λa' w'=>∃st':R.S×Array Nat,(leftOf mes st'.2).size<(leftOf mes st.2).size/\R.I st'.1 (yu mes.toList es st'.2)/\∃M,St (Nb N bm) M n ((sh.it,itv r)::R.e) (sbH m bm (R.H st'.1)) a' w'/\Evo (Mx M1 m) w1 M w'/\(∀o,¬M.R r o) /\
     (∃last,clock<=last/\w'.heap[r]? = some (.mapIter (some bm) clock st'.2 last))/\∀(i:Nat) (x:D×D),es[i]? = some x->fP g l x.1=true/\∃m':MapEntry,mes[i]? = some m'/\DRel (Fb (Nb N bm) M) w' x.1 m'.key/\DRel (Fb (Nb N bm) M) w' x.2 m'.val) (Exit.inBlock lb Q'))))
   (λenv' K' M' a' w' hq s' e'=>zV hT hmix sh.rest 0 _ env' K' hq ρ (Nb N bm) n M w3 _ M' a' w' hsr (λhr=>(hnd hr).2.2.2.2) (λhρ b hb=>hlo hρ b (by have:=e1.size;have:=ev3.size;omega)) s' e' λo env2 K2 M2 a2 w2 hq2 s2 e2=>by
    cases o with
    |ret=>
     obtain⟨Ke,He,hW,⟨k1,k2,k3,k4⟩,hq3⟩:=(show retM m g l es bm (Q .ret) env2 K2 from hq2)
     rw[kE]at hW
     obtain⟨M4,s4,e4⟩:=s2.weak e2 hW
     have hbm4:w2.heap[bm]? = some (.map mes clock):=((ev3.trans e4).block bm hb1lt hbR).trans b2
     have hdfe:∀cs,Ke.get dfId ≠ .dfr cs:=λcs h=>by rw[nX k4 (by simp)]at h;cases h
     have stD:=s4.mapOut (g:=g) (l:=l) (es:=es) hbm4 b3 bst (λi x hx=>by
      obtain⟨q1,m',q2,q3,q4⟩:=hX i x hx
      exact⟨q1,m',q2,(qt.drel q3).keep (e4.keeps _),(qt.drel q4).keep (e4.keeps _)⟩) (λo h=>(s1.mem.dom m _ bm o b1 rfl).2 h) (λg cs hg=>(s1.mem.glob g cs hg).1) k1 k2 hdfe
     exact q .ret Ke _ _ _ w2 hq3 stD (UZ e1 b1 (ev3.trans e4))
    |normal=>exact back env2 K2 M2 a2 w2 hq2.2 s2 e2
    |exit i=>
     obtain⟨ho,hb⟩:=(show((Out.exit i = .normal\/Out.exit i = .exit sh.lb3)/\_)from hq2)
     rcases ho with ho |ho
     ·cases ho
     ·cases ho
      simp only[Exit.inBlock,if_true]
      exact back env2 K2 M2 a2 w2 hb s2 e2
    |panic x=>
     obtain⟨ho,hb⟩:=(show((Out.panic x = .normal\/Out.panic x = .exit sh.lb3)/\_)from hq2)
     rcases ho with ho |ho<;>cases ho)
   (λx env K M a w h=>h.elim) sh.r10 [] _ _ M _ w3 (λo ho=>d10 o (by simp[ho])) hnr10 hrnd trivial stE (Evo.refl M w3)
  exact go
theorem z6j(hmix:P.follows .mixedOrders=true){An:Ql}:∀(c:Code) (Q:Post) (env:Env) (K:Heap),wcM T (aj P) (ax P) An c Q env K->Lh P c Q env K:=by
 intro c
 induction c with
 |seq x y ihx ihy=>
  intro Q env K h
  have h2:(match qL x y with
   |some sh=>z6i T (aj P) (ax P) An sh Q env K
   |none=>match EZ x with
    |some sh=>z6i T (aj P) (ax P) An sh (Post.then (λenv K=>wcM T (aj P) (ax P) An y Q env K) Q) env K
    |none=>wc T (aj P) (ax P) An x 0 (Post.then (λenv K=>wcM T (aj P) (ax P) An y Q env K) Q) env K):=h
  clear h
  split at h2
  ·rename_i sh hsh
   intro _;exact map_ok hT hmix hsh h2
  ·have hx:Lh P x (Post.then (λenv K=>wcM T (aj P) (ax P) An y Q env K) Q) env K:=by
    split at h2
    ·rename_i sh hsh
     unfold EZ at hsh
     split at hsh
     ·intro _;exact map_ok hT hmix hsh h2
     ·cases hsh
    ·exact zV hT hmix x 0 _ env K h2
   intro _ ρ N n M0 w0 Q' M a w hs hnd hlo s e q
   simp only[bn,Bool.and_eq_true]at hs
   simp only[nC,Bool.and_eq_true]at hnd
   refine jG (hx ρ N n M0 w0 _ M a w hs.1 (λhr=>(hnd hr).1) hlo s e λo env K M a w h s e=>?_)
   cases o with
   |normal=>exact ihy Q env K h ρ N n M0 w0 Q' M a w hs.2 (λhr=>(hnd hr).2) hlo s e q
   |exit i=>exact q (.exit i) env K M a w h s e
   |ret=>exact q .ret env K M a w h s e
   |panic x=>exact q (.panic x) env K M a w h s e
 |skip=>intro Q env K h;exact zV hT hmix (An:=An) .skip 0 Q env K h
 |region id ops draw=>intro Q env K h;exact zV hT hmix (An:=An) (.region id ops draw) 0 Q env K h
 |cond c x y=>intro Q env K h;exact zV hT hmix (An:=An) (.cond c x y) 0 Q env K h
 |block id c=>intro Q env K h;exact zV hT hmix (An:=An) (.block id c) 0 Q env K h
 |loop c=>intro Q env K h;exact zV hT hmix (An:=An) (.loop c) 0 Q env K h
 |rangeFunc g ps x y=>intro Q env K h;exact zV hT hmix (An:=An) (.rangeFunc g ps x y) 0 Q env K h
 |exit id=>intro Q env K h;exact zV hT hmix (An:=An) (.exit id) 0 Q env K h
 |ret=>intro Q env K h;exact zV hT hmix (An:=An) .ret 0 Q env K h
 |scope c ih=>intro Q env K h;exact h.elim
 |label l=>intro Q env K h;exact h.elim
 |goto l=>intro Q env K h;exact h.elim
 |refuse l=>intro Q env K h;exact h.elim
theorem Io(hmix:P.follows .mixedOrders=true)(An:Ql){f:FuncId}{fn:Func}{c:Code}{as:List AV}{K0 K1:Heap}{out:gp}(hf:P.funcs[f]? = some fn)(hb:fn.body=some c)(hname:(fn.name == "runtime.NumGoroutine")=false)(hs:bn fn.ntmps c=true)
  (hn:(Nat.ble as.length fn.ntmps&&Nat.ble fn.ntmps 999999&&jT (keys K0) && !(Nat.beq f DJ))=true)
  (h:(∀x∈as,yh x)->wcM T (aj P) (ax P) An c (pz T (lK P) fn.results.toList K0 out K1) (gZ 0 as) K0):ax P f as K0 out K1:=
 xP hT hf hb hname hs hn λhx=>z6j hT hmix c _ _ _ (h hx)
end
end Go.Fw
