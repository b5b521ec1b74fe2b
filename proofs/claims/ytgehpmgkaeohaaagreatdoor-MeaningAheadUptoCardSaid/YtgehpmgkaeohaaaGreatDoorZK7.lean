/- A part of the proof. -/
import Derived.Test.YtgehpmgkaeohaaaGreatDoorRows
import Derived.WideKeyArgs
import Derived.RowKit
import Derived.ProofKit
import Derived.OpenShut
import Derived.JoinedCond
import Derived.Test.YtgehpmgkaeohaaaGreatDoorZKA
set_option linter.all false
namespace Go.Fw
open Go.ChangeShapes Go.WideShapes Go.RowKit Go.Proofs.YtgehpmgkaeohaaaGreatDoor
variable [ae]
def xE(p:TypeId->Nat->List D->Prop):List (Nat×TypeId)->Nat->List D->Prop
 | [],_,ds=>ds = []
 |(_,t)::r,m,ds=>∃m1 m2 d1 d2,m1+m2<=m/\ds=d1++d2/\p t m1 d1/\xE p r m2 d2
def Gh(p:Nat->List D->Prop):List (List D)->Nat->Prop
 | [],_=>True
 |x::r,m=>∃m1 m2,m1+m2<=m/\p m1 x/\Gh p r m2
def typed(T:Tbl):Nat->TypeId->Nat->List D->Prop
 | 0,_,_,_=>False
 |n+1,t,m,ds=>match(T.at t).ty with
  | .int k=>1<=m/\∃v,ds = [.val (.int k v)]/\k.min<=v/\v<=k.max
  | .bool=>1<=m/\∃b,ds = [.val (.bool b)]
  | .str=>∃s,ds = [.str s]/\s.length+1<=m
  | .slice e=>∃m' es,m'+1<=m/\ds = [.sl (T.at e).size es]/\Gh (typed T n e) es m'
  | .struct fs=>∃m',m'+1<=m/\xE (typed T n) fs m' ds
  |_=>False
def Jb(T:Tbl)(L:Nat):List (Nat×TypeId)->Nat->Bool
 | [],off=>Nat.beq off L
 |(o,t)::r,off=>Nat.beq o off&&Jb T L r (off+(T.at t).size)
def inN(S:List Nat)(t:Nat):Bool:=nU S t
def qp(T:Tbl)(S:List Nat):List Nat->Bool
 | []=>true
 |t::r=>(match(T.at t).ty with
  | .int _ | .bool | .str=>true
  | .slice e=>inN S e&&Nat.blt 0 (T.at e).size
  | .struct fs=>Jb T (T.at t).size fs 0&&(fs.all λf=>inN S f.2)
  |_=>false)&&qp T S r
theorem qR{T:Tbl}{S:List Nat}:∀{l:List Nat},qp T S l=true->∀t∈l,(match(T.at t).ty with
  | .int _ | .bool | .str=>true
  | .slice e=>inN S e&&Nat.blt 0 (T.at e).size
  | .struct fs=>Jb T (T.at t).size fs 0&&(fs.all λf=>inN S f.2)
  |_=>false)=true:=by
 intro l
 induction l with
 |nil=>simp
 |cons x r ih=>
  intro h t ht
  simp[qp]at h
  grind
theorem Vx{S:List Nat}{t:Nat}(h:inN S t=true):t∈S:=by
 unfold inN at h
 induction S with
 |nil=>simp[nU]at h
 |cons x r ih=>
  simp[nU]at h
  grind[Nat.eq_of_beq_eq_true]
theorem Ph{T:Tbl}{L:Nat}:∀{fs:List (Nat×TypeId)} {off:Nat},Jb T L fs off=true->off<=L
 | [],off,h=>by rw[Nat.eq_of_beq_eq_true h];omega
 |(o,t)::r,off,h=>by
  simp[Jb]at h
  have:=Ph h.2
  omega
omit [ae] in
theorem Vy{T:Tbl}{n:Nat}{t:TypeId}{m:Nat}{ds:List D}(h:typed T n t m ds):1<=m:=by
 cases n with
 |zero=>exact h.elim
 |succ n=>
  unfold typed at h
  split at h
  ·exact h.1
  ·exact h.1
  ·obtain⟨s,_,h⟩:=h;omega
  ·obtain⟨m',es,h,_⟩:=h;omega
  ·obtain⟨m',h,_⟩:=h;omega
  ·exact h.elim
theorem add_add(a:Addr)(m j:Nat):(a.add m).add j=a.add (m+j):=by
 grind[Addr.add]
theorem Pi(b o m:Nat):(⟨b,o,none⟩:Addr).add m=⟨b,o+m,none⟩:=by
 grind[Addr.add]
theorem cell_spot{w:World}{a:Addr}{u:Value}(h:w.cell? a=some u):a.spot=none:=by
 simp[World.cell?]at h
 split at h<;>simp_all
section
variable {P : Program} {T : Tbl} (hT : iQ P T)
include hT
theorem xG{t:TypeId}(h:(T.at t).ty.sh≠none):P.cellsOf t=(T.at t).size:=by
 obtain⟨i,h1,h2,_⟩:=(hT t).info h
 grind[Program.cellsOf]
variable {H : Type} {enc : TypeId × Value → H} {w : World} {base : Nat} {sp : Nat → Bool} {held : Bool} {F : aS} (hF : ∀ b o u, w.cell? ⟨b, o, none⟩ = some u → ¬ F b o)
abbrev Bh(F:aS)(w:World)(d:D)(u:Value):Prop:=DRel F w d u/\u.oneCell'=true
omit hT in
theorem zdp{n:Nat}{cs:List Value}:∀(fs:List (Nat×TypeId)) (off:Nat) (xs:List (DataW H×List MemPlace)),Jb T cs.length fs off=true->xs.length=fs.length ->
  (∀(i:Nat) (f:Nat×TypeId) (x:DataW H×List MemPlace),fs[i]? = some f->xs[i]? = some x->∃ds,typed T n f.2 (Rows.uptoBulk x.1) ds/\ds.length=((cs.drop f.1).take (T.at f.2).size).length/\∀(i:Nat) d,ds[i]? = some d->Bh F w d (((cs.drop f.1).take (T.at f.2).size).getD i undef)) ->
  ∃ds,xE (typed T n) fs (Rows.uptoBulkAll (xs.map (·.1))) ds/\off+ds.length=cs.length/\∀(i:Nat) d,ds[i]? = some d->Bh F w d (cs.getD (off+i) undef)
 | [],off,xs,ht,hl,_=>by
  simp only[Jb]at ht
  exact⟨[],rfl,by simpa using Nat.eq_of_beq_eq_true ht,by simp⟩
 |(o,t)::r,off,[],ht,hl,_=>by simp at hl
 |(o,t)::r,off,x::xs,ht,hl,h=>by
  simp only[Jb,Bool.and_eq_true]at ht
  obtain⟨ho,ht⟩:=ht
  have ho:=Nat.eq_of_beq_eq_true ho
  subst ho
  have hle:=Ph ht
  obtain⟨d1,h1,h2,h3⟩:=h 0 (o,t) x rfl rfl
  have hl1:d1.length=(T.at t).size:=by rw[h2,List.length_take,List.length_drop];simp only;omega
  obtain⟨d2,q1,q2,q3⟩:=zdp r (o+(T.at t).size) xs ht (by simpa using hl) (λi f x hf hx=>h (i+1) f x (by simpa using hf) (by simpa using hx))
  refine⟨d1++d2,⟨_,_,d1,d2,Nat.le_refl _,rfl,h1,q1⟩,by rw[List.length_append];omega,?_⟩
  intro i d hd
  rw[List.getElem?_append]at hd
  split at hd
  ·rename_i hi
   have:=h3 i d hd
   have e:((cs.drop o).take (T.at t).size).getD i undef=cs.getD (o+i) undef:=by
    simp only[List.getD_eq_getElem?_getD,List.getElem?_take,List.getElem?_drop]
    rw[if_pos (by omega)]
   simp only at this
   rw[e]at this;exact this
  ·rename_i hi
   have:=q3 _ d hd
   rw[show o+i=o+(T.at t).size+(i-d1.length)by omega];exact this
omit hT in
theorem zdq{n:Nat}{e:TypeId}{sz:Nat}{a:Addr}:∀(xs:List (DataW H×List MemPlace)) (k:Nat),
  (∀(i:Nat) (x:DataW H×List MemPlace),xs[i]? = some x->∃ds,typed T n e (Rows.uptoBulk x.1) ds/\ds.length=sz/\∀(j:Nat) d,ds[j]? = some d->∃u,w.cell? (a.add ((k+i) * sz+j))=some u/\Bh F w d u) ->
  ∃es:List (List D),es.length=xs.length/\Gh (typed T n e) es (Rows.uptoBulkAll (xs.map (·.1)))/\(∀x∈es,x.length=sz) /\
   ∀(i j:Nat) x d,es[i]? = some x->x[j]? = some d->∃u,w.cell? (a.add ((k+i) * sz+j))=some u/\Bh F w d u
 | [],k,_=>⟨[],rfl,trivial,by simp,by simp⟩
 |x::xs,k,h=>by
  obtain⟨ds,h1,h2,h3⟩:=h 0 x rfl
  obtain⟨es,q1,q2,q3,q4⟩:=zdq (n:=n) (e:=e) (sz:=sz) (a:=a) xs (k+1) (λi y hy=>by
   have:=h (i+1) y (by simpa using hy)
   rw[show k+1+i=k+(i+1)by omega];exact this)
  refine⟨ds::es,by simp[q1],⟨_,_,Nat.le_refl _,h1,q2⟩,?_,?_⟩
  ·intro y hy
   rcases List.mem_cons.1 hy with rfl |hy
   ·exact h2
   ·exact q3 y hy
  ·intro i j y d hy hd
   cases i with
   |zero=>simp only[List.getElem?_cons_zero,Option.some.injEq]at hy;subst hy;exact h3 j d hd
   |succ i=>
    have:=q4 i j y d (by simpa using hy) hd
    rw[show k+(i+1)=k+1+i by omega];exact this
theorem Vz{w:World}{base:Nat}{a:Addr}{n:Nat}{cs:List Value}(h:w.cells? base a n=some cs):cs.length=n/\∀j,j<n->∃u,w.cell? (a.add j)=some u/\cs[j]? = some u:=by
 unfold World.cells? at h
 split at h
 ·refine⟨by simpa using mapM_some_length h,λj hj=>?_⟩
  have:=mapM_some_get h j j (by simp[hj])
  have hl:=mapM_some_length h
  simp_all
 ·simp at h
include hF in
theorem Zp{S:List Nat}(hS:qp T S S=true):∀(n:Nat) (t:TypeId) (cs:List Value) (x:DataW H×List MemPlace),t∈S->DataW.trod enc P w base sp held n t cs=some x ->
  ∃ds,typed T n t (Rows.uptoBulk x.1) ds/\ds.length=cs.length/\∀(i:Nat) d,ds[i]? = some d->Bh F w d (cs.getD i undef):=by
 intro n
 induction n with
 |zero=>intro t cs x _ h;simp[DataW.trod]at h
 |succ n ih=>
  intro t cs x ht h
  have hk:=qR hS t ht
  unfold typed
  split at hk
  ·rename_i k hty
   obtain⟨v,rfl,rfl,hw⟩:=DataW.trod_int (tu hT hty) h
   try simp only[hty]
   refine⟨[.val (.int k v)],⟨by simp[Rows.uptoBulk],v,rfl,?_⟩,rfl,?_⟩
   ·simpa[Lit.wf]using hw
   ·intro i d hd
    cases i with
    |zero=>simp at hd;subst hd;exact⟨.val _,rfl⟩
    |succ i=>simp at hd
  ·rename_i hty
   obtain⟨b,rfl,rfl⟩:=DataW.trod_bool (uJ hT hty) h
   try simp only[hty]
   refine⟨[.val (.bool b)],⟨by simp[Rows.uptoBulk],b,rfl⟩,rfl,?_⟩
   intro i d hd
   cases i with
   |zero=>simp at hd;subst hd;exact⟨.val _,rfl⟩
   |succ i=>simp at hd
  ·rename_i hty
   obtain⟨s,rfl,rfl,hw⟩:=DataW.trod_string (mM hT hty) h
   try simp only[hty]
   refine⟨[.str s.data.toList],⟨_,rfl,by simp[Rows.uptoBulk]⟩,rfl,?_⟩
   intro i d hd
   cases i with
   |zero=>simp at hd;subst hd;exact⟨by simpa using DRel.str (F:=F) (w:=w) s.data.toList,rfl⟩
   |succ i=>simp at hd
  ·rename_i e hty
   simp only[Bool.and_eq_true]at hk
   have he:=Vx hk.1
   have hpos:0<(T.at e).size:=by simpa using hk.2
   have hu:=aQ hT hty
   try simp only[hty]
   have hsz:P.cellsOf e=(T.at e).size:=xG hT (by
    have:=qR hS e he
    split at this<;>simp_all[Ty.sh])
   rcases DataW.trod_slice hu h with⟨rfl,rfl⟩ |⟨a,len,cap,elems,rest,n',hn,rfl,rfl,hb,hlen,hcap,hel,hget,_⟩
   ·refine⟨[.sl (T.at e).size []],⟨0,[],by simp[Rows.uptoBulk],rfl,trivial⟩,rfl,?_⟩
    intro i d hd
    cases i with
    |zero=>simp at hd;subst hd;exact⟨.sl0 _ _ _ (Nat.zero_le _),rfl⟩
    |succ i=>simp at hd
   ·obtain rfl:n=n':=by omega
    rw[hsz]at hget
    obtain⟨es,q1,q2,q3,q4⟩:=zdq (T:=T) (F:=F) (w:=w) (n:=n) (e:=e) (sz:=(T.at e).size) (a:=a) elems 0 (λi x hx=>by
     have hi:i<len:=by
      rcases Nat.lt_or_ge i elems.length with h1 |h1
      ·omega
      ·rw[List.getElem?_eq_none h1]at hx;simp at hx
     have hg:=hget i hi
     rw[hx]at hg
     simp only[Option.bind_eq_some_iff]at hg
     obtain⟨cs',hc,htr⟩:=hg
     obtain⟨ds,r1,r2,r3⟩:=ih e cs' x he htr
     obtain⟨c1,c2⟩:=Vz hT hc
     refine⟨ds,r1,by omega,λj d hd=>?_⟩
     have hj:j<(T.at e).size:=by
      rcases Nat.lt_or_ge j ds.length with h1 |h1
      ·omega
      ·rw[List.getElem?_eq_none h1]at hd;simp at hd
     obtain⟨u,hu1,hu2⟩:=c2 j hj
     have:=r3 j d hd
     rw[show cs'.getD j undef=u by simp[hu2]]at this
     refine⟨u,?_,this⟩
     rw[Nat.zero_add,<-add_add]
     exact hu1)
    refine⟨[.sl (T.at e).size es],⟨_,es,by simp only[Rows.uptoBulk];omega,rfl,q2⟩,rfl,?_⟩
    intro i d hd
    cases i with
    |succ i=>simp at hd
    |zero=>
     simp at hd;subst hd
     refine⟨?_,rfl⟩
     show DRel F w _ (Value.slice (some a) len cap)
     cases es with
     |nil=>
      have:len=0:=by simpa[hel]using q1.symm
      subst this
      exact .sl0 _ _ _ hcap
     |cons y ys=>
      have hy:y.length=(T.at e).size:=q3 y (by simp)
      obtain⟨d0,hd0⟩:∃d0,y[0]? = some d0:=⟨_,List.getElem?_eq_getElem (by omega)⟩
      obtain⟨u0,hu0,_⟩:=q4 0 0 y d0 rfl hd0
      have hsp:a.spot=none:=by
       rw[show(0+0) * (T.at e).size+0=0 by simp]at hu0
       exact cell_spot (by simpa[Addr.add]using hu0)
      obtain⟨b,off,spot⟩:=a
      simp only at hsp;subst hsp
      refine .sl (T.at e).size (y::ys) b off cap len (λi j=>(w.cell? ⟨b,off+i * (T.at e).size+j,none⟩).getD undef) (by rw[q1,hel]) hlen hcap q3 ?_ ?_
      ·intro i j x d hx hd
       obtain⟨u,hu,hr⟩:=q4 i j x d hx hd
       rw[Nat.zero_add]at hu
       rw[Pi,<-Nat.add_assoc]at hu
       rw[hu]
       exact⟨hF _ _ _ hu,rfl,hr.2⟩
      ·intro i j x d hx hd
       obtain⟨u,hu,hr⟩:=q4 i j x d hx hd
       rw[Nat.zero_add]at hu
       rw[Pi,<-Nat.add_assoc]at hu
       rw[hu];exact hr.1
  ·rename_i fs hty
   simp only[Bool.and_eq_true,List.all_eq_true]at hk
   obtain⟨fields,hu,hfs⟩:∃fields:Array Field,P.underlying t=some (.struct fields)/\fields.toList.map (λf=>(f.offset,f.type))=fs:=by
    have:=(hT t).desc;rw[hty]at this;exact this
   obtain⟨xs,n',hn,rfl,hl,hxl,hget⟩:=DataW.trod_struct hu h
   obtain rfl:n=n':=by omega
   try simp only[hty]
   have hsz:P.cellsOf t=(T.at t).size:=xG hT (by rw[hty];simp[Ty.sh])
   obtain⟨ds,r1,r2,r3⟩:=zdp (T:=T) (F:=F) (w:=w) (n:=n) (cs:=cs) fs 0 xs (by rw[hl,hsz];exact hk.1) (by rw[hxl,<-hfs];simp) (λi f x hf hx=>by
    have hmem:f.2∈S:=Vx (hk.2 f (List.mem_of_getElem? hf))
    rw[<-hfs]at hf
    simp only[List.getElem?_map,Option.map_eq_some_iff]at hf
    obtain⟨fd,hfd,rfl⟩:=hf
    have hg:=hget i fd (by simpa using hfd)
    rw[hx]at hg
    have hsz':P.cellsOf fd.type=(T.at fd.type).size:=xG hT (by
     have:=qR hS _ hmem
     split at this<;>simp_all[Ty.sh])
    rw[hsz']at hg
    exact ih _ _ x hmem hg)
   exact⟨ds,⟨_,by simp only[Rows.uptoBulk];omega,r1⟩,by omega,λi d hd=>by have:=r3 i d hd;rwa[Nat.zero_add]at this⟩
  ·simp at hk
end
end Go.Fw
namespace Go.Fw
open Go.ChangeShapes Go.WideShapes Go.RowKit Go.Proofs.YtgehpmgkaeohaaaGreatDoor
def asD(T:Tbl)(t:TypeId)(ds:List D):D:=match(T.at t).ty with | .struct _=>.agg ds |_=>ds.headD default
def lq{H:Type}(T:Tbl):List TypeId->List (DataW H)->List D->Prop
 | [],[],[]=>True
 |t::ts,d::ds,x::xs=>(∃n l,typed T n t (Rows.uptoBulk d) l/\x=asD T t l)/\lq T ts ds xs
 |_,_,_=>False
section
variable {P : Program} {T : Tbl} (hT : iQ P T)
include hT
variable {H : Type} {enc : TypeId × Value → H} {w : World}
theorem zdr[ae]{F:aS}(hF:∀b o u,w.cell? ⟨b,o,none⟩=some u->¬F b o){S:List Nat}(hS:qp T S S=true){t:TypeId}(ht:t∈S){r:Reach}{b0:Nat}{v:Value}{d:DataW H}{ps:List MemPlace}
  (hval:Value.okWide P w r b0 t v) (h:DataW.Trod enc P w 0 (λ_=>true) true t v d ps):∃n l,typed T n t (Rows.uptoBulk d) l/\DRel F w (asD T t l) v:=by
 obtain⟨n,hn⟩:=h
 obtain⟨ds,h1,h2,h3⟩:=Zp hT hF hS n t _ _ ht hn
 refine⟨n,ds,h1,?_⟩
 have hk:=qR hS t ht
 unfold Value.okWide at hval
 unfold asD
 have hsc:∀{u:Value},v=u->v.cells = #[u]->DRel F w (ds.headD default) v:=by
  intro u hu hc
  rw[hc]at h2 h3
  match ds,h2 with
  | [d],_=>
   have:=(h3 0 d rfl).1
   simp_all
 split at hk
 ·rename_i k hty
  have hu:=tu hT hty
  rw[hu]at hval
  simp only[hty]
  simp only[Cell.okWide,hu]at hval
  unfold Cell.ok at hval
  rw[hu]at hval
  cases v<;>simp at hval
  exact hsc rfl rfl
 ·rename_i hty
  have hu:=uJ hT hty
  simp only[hty]
  simp only[Cell.okWide,hu]at hval
  unfold Cell.ok at hval
  rw[hu]at hval
  cases v<;>simp at hval
  exact hsc rfl rfl
 ·rename_i hty
  have hu:=mM hT hty
  simp only[hty]
  simp only[Cell.okWide,hu]at hval
  unfold Cell.ok at hval
  rw[hu]at hval
  cases v<;>simp at hval
  exact hsc rfl rfl
 ·rename_i e hty
  have hu:=aQ hT hty
  simp only[hty]
  simp only[Cell.okWide,hu]at hval
  unfold Cell.ok at hval
  cases v<;>simp at hval
  all_goals exact hsc rfl rfl
 ·rename_i fs hty
  obtain⟨fields,hu,_⟩:∃fields:Array Field,P.underlying t=some (.struct fields)/\fields.toList.map (λf=>(f.offset,f.type))=fs:=by
   have:=(hT t).desc;rw[hty]at this;exact this
  rw[hu]at hval
  obtain⟨cs,rfl,_,_⟩:=hval
  simp only[hty]
  refine .agg ds cs (by grind[Value.cells]) λi d hd=>?_
  have:=(h3 i d hd).1
  simpa[Value.cells]using this
 ·simp at hk
theorem Gi[ae]{F:aS}(hF:∀b o u,w.cell? ⟨b,o,none⟩=some u->¬F b o){S:List Nat}(hS:qp T S S=true){r:Reach}{b0:Nat}:∀(ts:List TypeId) (vs:List Value) (ds:List (DataW H)) (ps:List MemPlace),
  (∀t∈ts,t∈S)->(∀(j:Nat) t v,ts[j]? = some t->vs[j]? = some v->Value.okWide P w r b0 t v)->DataW.TrodAll enc P w 0 (λ_=>true) true ts vs ds ps ->
  ∃xs:List D,lq T ts ds xs/\vs.length=xs.length/\∀(i:Nat) d,xs[i]? = some d->DRel F w d (vs.getD i undef)
 | [],vs,ds,ps,_,_,h=>by
  cases vs<;>cases ds<;>simp[DataW.TrodAll]at h
  exact⟨[],trivial,rfl,by simp⟩
 |t::ts,vs,ds,ps,hm,hval,h=>by
  cases vs<;>cases ds<;>simp only[DataW.TrodAll]at h
  rename_i v vs d ds
  obtain⟨p,q,h1,h2,_⟩:=h
  obtain⟨n,l,r1,r2⟩:=zdr hT hF hS (hm t (by simp)) (hval 0 t v rfl rfl) h1
  obtain⟨xs,q1,q2,q3⟩:=Gi hF hS ts vs ds q (λt ht=>hm t (List.mem_cons_of_mem _ ht)) (λj t v a b=>hval (j+1) t v (by simpa using a) (by simpa using b)) h2
  refine⟨asD T t l::xs,⟨⟨n,l,r1,rfl⟩,q1⟩,by simp[q2],?_⟩
  grind
omit hT in
theorem vK(hl:laidOutB P=true){w':World}{sp':Nat->Bool}:∀(ts:List TypeId) (vs:List Value) (ds:List (DataW H)) (ps:List MemPlace),(∀t∈ts,P.readableRec t=true/\t<P.types.size) ->
  DataW.TrodAll enc P w 0 (λ_=>true) true ts vs ds ps->(∀p∈ps,w.sameAt w' p)->(∀p∈ps,sp' p.block=true)->DataW.TrodAll enc P w' 0 sp' true ts vs ds ps
 | [],vs,ds,ps,_,h,_,_=>by
  cases vs<;>cases ds<;>simp[DataW.TrodAll]at h ⊢
  exact h
 |t::ts,vs,ds,ps,hr,h,hs,hsp=>by
  cases vs<;>cases ds<;>simp only[DataW.TrodAll]at h ⊢
  obtain⟨p,q,h1,h2,rfl⟩:=h
  exact⟨p,q,WideElems.Trod_stays hl (hr t (by simp)).1 (hr t (by simp)).2 h1 (λx hx=>hs x (by simp[hx])) (λx hx=>hsp x (by simp[hx])),
   vK hl ts _ _ q (λt ht=>hr t (List.mem_cons_of_mem _ ht)) h2 (λx hx=>hs x (by simp[hx])) (λx hx=>hsp x (by simp[hx])),rfl⟩
omit hT in
theorem VA[ae]{f:FuncId}{ds:List D}{out:lY}(he:lZ P f)(h:PCall P f ds out):Oy P f ds out:=by
 rcases h with h |⟨d,rfl,h⟩
 ·exact h
 ·refine⟨he,λN w args hm hl hr=>?_⟩
  obtain⟨v,h1,_⟩:=h N w args hm hl hr
  have h2:=l9 he args w
  rw[h2]at h1
  simp at h1
structure z7n[ae](w:World):Prop where
 cell:∀g cs,rU g=some cs->(∃t fr,w.heap[g]? = some (Obj.cells cs.toArray t fr))/\∀(j:Nat) v,cs[j]? = some v->v.oneCell'=true
theorem Jc{S:List Nat}(hS:qp T S S=true){f:FuncId}{fn:Func}{s:ChangeSpec}(hv:s.vars = []){tb:TypeId}(hres:fn.resultTypes = #[tb])(hb:P.underlying tb=some .bool)(hl:laidOutB P=true)
  (hrd:∀t∈fn.params.toList,t∈S/\P.readableRec t=true/\t<P.types.size) {W:World} (hg:∃I:ae,@z7n I W) {r:Reach} {b0:Nat} {args:Array Value} {ds gs:List (DataW H)} {before:List MemPlace}
  (hval:∀(j:Nat) t v,fn.params[j]? = some t->args[j]? = some v->Value.okWide P W r b0 t v)
  (hW:DataW.Whole enc P fn.params.toList s.vars false W args.toList ds gs before)
  (hspec:∀xs,lq T fn.params.toList ds xs->s.fn H ds = { results:=[.lit (.bool true)],args:=ds })
  (hcall:∀ [ae],∀xs,lq T fn.params.toList ds xs->Oy P f xs (.ret (.b true))) :
  Calls P f args W λe W'=>∃v,e = .returned v/\s.post enc P fn false true false false W args v W':=by
 obtain⟨I,hg⟩:=hg
 have hW0:=hW
 obtain⟨p,q,hA,hV,rfl,hz,_⟩:=hW
 have hgs:gs = []:=by grind[DataW.TrodVars]
 subst hgs
 have hq:q = []:=by grind[DataW.TrodVars]
 subst hq
 have hF:∀b o u,W.cell? ⟨b,o,none⟩=some u->¬(∃cs,rU b=some cs/\cs.length<=o):=by
  rintro b o u hc ⟨cs,h1,h2⟩
  obtain⟨t,fr,hr⟩:=(hg.cell b cs h1).1
  grind[World.cell?]
 obtain⟨xs,x1,x2,x3⟩:=Gi hT (F:=λb o=>∃cs,rU b=some cs/\cs.length<=o) hF hS fn.params.toList args.toList ds p (λt ht=>(hrd t ht).1) (λj t v a b=>hval j t v (by simpa using a) (by simpa using b)) hA
 refine((hcall xs x1).2 _ W args ⟨by simp[yA],by simp[yA],?_,?_⟩ (by simpa using x2) (λi d hd=>by simpa using x3 i d hd)).mono λe W'=>?_
 ·rintro b o ⟨cs,h1,_⟩
  obtain⟨t,fr,hr⟩:=(hg.cell b cs h1).1
  grind
 ·intro g cs h1
  obtain⟨t,fr,hr⟩:=(hg.cell g cs h1).1
  refine⟨λo ho=>⟨cs,h1,ho⟩,⟨t,fr,hr⟩,λj v hj=>⟨?_,?_,(hg.cell g cs h1).2 j v hj⟩⟩<;>grind[World.cell?]
 ·rintro⟨st,v,rfl,hd⟩
  have:v = .bool true:=by cases hd;rfl
  subst this
  refine⟨_,rfl,ds,[],p++[],[],p,[],hW0,?_,?_,?_,?_,by simp⟩
  ·simp
   rw[hspec xs x1,hres]
   exact⟨[],[],shut_bool hb true,rfl,rfl⟩
  ·simp
   rw[hspec xs x1]
   refine vK hl _ _ _ _ (λt ht=>(hrd t ht).2) hA (λx hx=>?_) (λx hx=>?_)
   ·have hlt:=hW0.lt x (by simpa using hx)
    cases x with
    |cell b o=>
     have:=st.block b hlt (by simp)
     grind[World.sameAt,World.cell?]
    |map b=>exact st.block b hlt (by simp)
   ·simpa using hW0.lt x (by simpa using hx)
  ·rw[hv]
   simp
   rw[hspec xs x1];rfl
  ·refine⟨st.os,st.output,λi hi=>?_⟩
   have:=st.block i hi (by simp)
   grind
end
end Go.Fw
