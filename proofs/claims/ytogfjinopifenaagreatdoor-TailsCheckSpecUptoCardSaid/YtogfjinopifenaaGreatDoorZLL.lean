/- Loops over lists: the annotations and the lemmas of their walks. -/
import Derived.Test.YtogfjinopifenaaGreatDoorZDA
set_option linter.unusedSectionVars false
set_option linter.unusedSimpArgs false
set_option linter.unusedVariables false
namespace Go.Fw
variable [GlobInt] {i : Nat} {env : Env} {T : Tbl} {q : Prop} {K0 K K1 : Heap} {tr : List Rec} {l : List Ex} {B : FuncId → List AV → Heap → AOut → Heap → Prop} {es es' : List (List D)} {rs : List ResultVar} {t : TypeId} {ops : Array Oper} {out : AOut} {f : FuncId} {a b : Nat}
theorem BrI.tt{p q:Prop}(h:p):BrI true p q:=BrI.intro (λ_=>h) (λe=>by simp at e)
theorem BrI.ff{p q:Prop}(h:q):BrI false p q:=BrI.intro (λe=>by simp at e) (λ_=>h)
theorem drop_lt{α:Type}{l:List α}{x:α}{r:List α}(h:l.drop i=x::r):i<l.length:=by
 grind[List.drop_eq_nil_of_le]
abbrev rangeL{α β:Type}(l:List α)(slot:Nat)(ev:β->Env)(hv:β->Heap)(keep:List Nat)(I:Nat->List α->β->Prop):Loop where
 S:=Nat×List α×β
 ev s:=match s with |(i,_,b)=>(slot,.data (.val (.int .i64 (i:Int))))::ev b
 hv s:=match s with |(_,_,b)=>hv b
 keep:=keep
 I s:=match s with |(i,r,b)=>l.drop i=r/\I i r b
 μ s:=match s with |(_,r,_)=>r.length
theorem rangeL_rule{α β:Type}{l:List α}{slot:Nat}{ev:β->Env}{hv:β->Heap}{keep:List Nat}{I:Nat->List α->β->Prop}{E F:Nat×List α×β->Prop}(b:β)
  (hW:E (0,l,b)) (hI:I 0 l b) (h0:∀i b,l.drop i = []->I i [] b->F (i,[],b)) (h1:∀i x r b,l.drop i=x::r->i<l.length->I i (x::r) b->F (i,x::r,b)) :
  (∃s,(rangeL l slot ev hv keep I).I s/\E s)/\∀s,(rangeL l slot ev hv keep I).I s->F s:=by
 refine⟨⟨(0,l,b),⟨rfl,hI⟩,hW⟩,?_⟩
 rintro⟨i,r,b⟩ ⟨hd,h⟩
 cases r with
 |nil=>simp_all
 |cons x r=>grind[drop_lt]
theorem drop_next{α:Type}{l:List α}{x:α}{r:List α}(h:l.drop i=x::r):l.drop (i+1)=r:=by
 grind[drop_lt,List.drop_eq_getElem_cons]
theorem drop_get{α:Type}{l:List α}{x:α}{r:List α}(h:l.drop i=x::r):l[i]? = some x:=by
 grind[drop_lt,List.drop_eq_getElem_cons]
theorem drop_mem{α:Type}{l:List α}{x:α}{r:List α}(h:l.drop i=x::r):x∈l:=List.mem_of_getElem? (drop_get h)
theorem drop_ge{α:Type}{l:List α}(h:l.drop i = []):l.length<=i:=by simpa using h
theorem range_nil{α β:Type}{l:List α}{f:α->β}(h:l.drop i = []):decide ((i:Int)<((l.map f).length:Int))=false:=by
 simp_all
theorem range_cons{α β:Type}{l:List α}{f:α->β}{x:α}{r:List α}(h:l.drop i=x::r):decide ((i:Int)<((l.map f).length:Int))=true:=by
 have:=drop_lt h
 simp;omega
theorem br_nil{α β:Type}{l:List α}{f:α->β}{p q:Prop}(h:l.drop i = [])(hq:q):BrI (decide ((i:Int)<((l.map f).length:Int))) p q:=by
 grind[range_nil,BrI.ff]
theorem br_cons{α β:Type}{l:List α}{f:α->β}{x:α}{r:List α}{p q:Prop}(h:l.drop i=x::r)(hp:p):BrI (decide ((i:Int)<((l.map f).length:Int))) p q:=by
 grind[range_cons,BrI.tt]
theorem idx_drop{α β:Type}{l:List α}{f:α->β}{x:α}{r:List α}(h:l.drop i=x::r):0<=(i:Int)/\(l.map f)[(i:Int).toNat]? = some (f x):=
 ⟨by omega,by simp[drop_get h]⟩
theorem idx_next{α:Type}{l:List α}{x:α}{r:List α}(h:l.drop i=x::r)(hl:l.length<=9223372036854775807):AV.data (.val (.int .i64 (IntKind.i64.wrap ((i:Int)+1))))=AV.data (.val (.int .i64 ((i+1:Nat):Int))):=by
 have:=drop_lt h
 grind[wrap_ok]
theorem rangeL_next{α β:Type}{l:List α}{slot:Nat}{ev:β->Env}{hv:β->Heap}{keep:List Nat}{I:Nat->List α->β->Prop}{E:Nat×List α×β->Prop}{x:α}{r:List α}{b0:β}(hd:l.drop i=x::r)(b:β)
  (hW:E (i+1,r,b)) (hI:I (i+1) r b) :
  ∃s,(rangeL l slot ev hv keep I).I s/\(rangeL l slot ev hv keep I).μ s<(rangeL l slot ev hv keep I).μ (i,x::r,b0)/\E s:=
 ⟨(i+1,r,b),⟨drop_next hd,hI⟩,Nat.lt_succ_self _,hW⟩
theorem chk_stepP{K:Heap}(h:chk T ops env K tr=true)(hq:q):chkP T ops env K tr/\q:=⟨⟨[],by rw[markS_nil];exact h,trivial⟩,hq⟩
theorem chk_stepQ{K:Heap}{kp:Nat}(h:chk T ops env K tr=true)(hq:q):chkQ T ops env K tr kp/\q:=⟨⟨[],rfl,by rw[markS_nil];exact h,trivial⟩,hq⟩
theorem chk_soft{K:Heap}(l:List (Nat×Nat))(h:chk T ops env K (markS l 0 tr)=true)(h2:softL T K tr l)(hq:q):chkP T ops env K tr/\q:=⟨⟨l,h,h2⟩,hq⟩
theorem softL_nil{K:Heap}:softL T K tr []:=trivial
theorem cellW_nil{o:Oper}{id:Nat}{c:AV}:cellW T env o id c []:=trivial
theorem softL_cons{K:Heap}{q:Nat×Nat}{l:List (Nat×Nat)}(h:softAt T K tr q)(h2:softL T K tr l):softL T K tr (q::l):=⟨h,h2⟩
theorem soft_one{K:Heap}{q id:Nat}{y:Rec}{a:Operand}{off:Nat}{cs:List AV}{c:AV}(h:tr[q]? = some y)(hop:y.o.op = .load t a)(h1:T.sh t=some false)(h2:ev T y.env 0 a = .ptr id off)(h3:K.get id=some (.cells cs))(h3':cs[off]? = some c)(h4:cellW T y.env y.o id c tr):softAt T K tr (q,id):=by
 unfold softAt
 simp[h]
 intro _
 refine⟨c,?_,h4⟩
 rw[h3]
 simp[cellP,readA,hop,vLoad,h2,one_get,if_true,h1,h3']
theorem cellW_cons{o:Oper}{id:Nat}{c:AV}{x:Rec}{r:List Rec}(h1:match hasN (x.ws T) id with |true=>cellP T env o id c (x.K.get id) |false=>True)(h2:cellW T env o id c r):cellW T env o id c (x::r):=⟨h1,h2⟩
theorem br_nil_e{p q:Prop}(h:l.drop i = [])(hq:q):BrI (decide ((i:Int)<((Ex.css l).length:Int))) p q:=by
 grind[Ex.css_eq,br_nil]
theorem br_cons_e{x:Ex}{r:List Ex}{p q:Prop}(h:l.drop i=x::r)(hp:p):BrI (decide ((i:Int)<((Ex.css l).length:Int))) p q:=by
 grind[Ex.css_eq,br_cons]
theorem idx_drop_e{x:Ex}{r:List Ex}(h:l.drop i=x::r):0<=(i:Int)/\(Ex.css l)[(i:Int).toNat]? = some (Ex.cs x):=by
 rw[Ex.css_eq];exact idx_drop h
theorem Ex.css_len(l:List Ex):(Ex.css l).length=l.length:=by rw[Ex.css_eq];simp
theorem csimp:(∀c f:Bool,cond c true f=(c || f))/\(∀c t:Bool,cond c t false=(c&&t))/\(∀c f:Bool,cond c false f=(!c&&f))/\(∀c t:Bool,cond c t true=(!c || t))/\(∀b:Bool,((!b)=true)=(b=false))/\(∀b:Bool,((!b)=false)=(b=true)) /\
  (∀(α:Type) (_:BEq α) (a b:α),(a != b) = !(a==b))/\(∀l:List Ex,(Ex.css l).length=l.length)/\(∀(α β:Type) (f:α->β) (l:List α),(l.map f).length=l.length)/\(0:Int).toNat=0:=
 ⟨Bool.cond_true_left,Bool.cond_false_right,Bool.cond_false_left,Bool.cond_true_right,λb=>by cases b<;>simp,λb=>by cases b<;>simp,λ_ _ _ _=>rfl,Ex.css_len,λ_ _ _ _=>List.length_map _,rfl⟩
theorem wrap_nat(h:a+b<=9223372036854775807):IntKind.i64.wrap ((a:Int)+(b:Int))=((a+b:Nat):Int):=by
 grind[wrap_ok]
theorem idx_step{k:Bool}{n:Int}{es:List (List D)}{q:List D->Prop}(h1:k=true)(h2:a=b)(c:List D)(h3:0<=n/\es[n.toNat]? = some c)(h4:q c):(k=true/\a=b)/\∃c,(0<=n/\es[n.toNat]? = some c)/\q c:=⟨⟨h1,h2⟩,c,h3,h4⟩
theorem len_step{cs:List D}{t:TI}(h1:cs.length=t.size)(h:q):cs.length=t.size/\q:=⟨h1,h⟩
theorem guard_step{p g:Bool}{A B:AV->Prop}(h1:p=true)(v:AV)(h2:g=true->A v)(h3:B v):(p=true/\∃v,(g=true->A v)/\B v)\/q:=.inl ⟨h1,v,h2,h3⟩
theorem guard_stepT{p g:Bool}{A B:AV->Prop}(h1:p=true)(v:AV)(h2:g=true->A v)(h3:B v):p=true/\∃v,(g=true->A v)/\B v:=⟨h1,v,h2,h3⟩
theorem val_step{a v:AV}{b c:Heap}(h:a=v)(h2:b=c):a=v/\b=c:=⟨h,h2⟩
theorem same_step{b c:Heap}(h:b=c)(h2:q):b=c/\q:=⟨h,h2⟩
theorem call_step{A M:DOut->Prop}{V:Prop}(out:DOut)(h:A out)(h2:M out):(∃out,A out/\M out)\/V:=.inl ⟨out,h,h2⟩
theorem ret_step(h:finR T rs K0 out K1 env K):finR T rs K0 out K1 env K\/q:=.inl h
theorem gs_eq{id id' sz sz':Nat}(h0:id=id')(h:sz=sz')(h2:es=es'):AV.gs id sz es=AV.gs id' sz' es':=by rw[h0,h,h2]
theorem tok_eq{sz sz':Nat}(h:sz=sz')(h2:es=es'):Block.tok sz es.length=Block.tok sz' es'.length:=by rw[h,h2]
theorem map_snoc{α:Type}{l:List α}{f:α->List D}{x:α}:l.map f++[f x]=(l++[x]).map f:=by simp
theorem map_app{α:Type}{l m:List α}{f:α->List D}:l.map f++m.map f=(l++m).map f:=by simp
theorem map_app4{α:Type}{l m k o:List α}{f:α->List D}:l.map f++m.map f++k.map f++o.map f=(l++m++k++o).map f:=by simp
theorem app_le{a y b:Nat}(h1:a<=1073741824)(h2:y<=1073741824)(h3:Nat.ble b 65536=true):(a+y) * b<=140737488355328:=
 Nat.le_trans (Nat.mul_le_mul (show a+y<=2147483648 by omega) (Nat.le_of_ble_eq_true h3)) (by decide)
theorem ble_le(h:Nat.ble a b=true):a<=b:=Nat.le_of_ble_eq_true h
theorem app_step'{a b c n m x y w:Nat}(h1:a=b)(h2:b=c)(h3:n=m)(hb:Nat.ble w 65536=true)(hx:x<=1073741824)(hy:y<=1073741824)(h:q):(a=b/\b=c/\n=m)/\(x+y) * w<=140737488355328/\q:=⟨⟨h1,h2,h3⟩,app_le hx hy hb,h⟩
theorem lent_step{L:List Nat}{as as0:List AV}{K K0 K1:Heap}{next pan:Next}{Z:Prop}(ρ:List (Nat×Nat))(h:B f as0 K0 out K1)(h1:AV.ren.go ρ as0=as)(h2:Heap.sub ρ K K0)(h3:lentOk ρ K0 K1 out.av env K L=true)
  (h4:outGo ρ K1 K next pan out):Z\/vLent B L f as env K next pan:=.inr ⟨as0,K0,out,K1,ρ,h,h1,h2,h3,h4⟩
theorem lent_step'{L:List Nat}{as as0:List AV}{K K0 K1:Heap}{next pan:Next}(ρ:List (Nat×Nat))(h:B f as0 K0 out K1)(h1:AV.ren.go ρ as0=as)(h2:Heap.sub ρ K K0)(h3:lentOk ρ K0 K1 out.av env K L=true)
  (h4:outGo ρ K1 K next pan out) :
  ∃(as0:List AV) (K0:Heap) (out:AOut) (K1:Heap) (ρ:List (Nat×Nat)),B f as0 K0 out K1/\AV.ren.go ρ as0=as/\Heap.sub ρ K K0/\lentOk ρ K0 K1 out.av env K L=true /\
  outGo ρ K1 K next pan out:=⟨as0,K0,out,K1,ρ,h,h1,h2,h3,h4⟩
theorem fin_step'{x y:AV}(τ:List (Nat×Nat))(h1:finOk τ K0 K1 y=true)(h2:covA K (mapRn τ (keys K1)) τ 100 x y)(h3:covH K (mapRn τ (keys K1)) τ K1):∃τ,finOk τ K0 K1 y=true/\covA K (mapRn τ (keys K1)) τ 100 x y/\covH K (mapRn τ (keys K1)) τ K1:=⟨τ,h1,h2,h3⟩
theorem gs_ren{τ:List (Nat×Nat)}{id id' sz sz':Nat}(h:id=rn τ id')(h0:sz=sz')(h1:es=es'):AV.gs id sz es=AV.ren τ (AV.gs id' sz' es'):=by
 grind[AV.ren]
theorem ren_guard{τ:List (Nat×Nat)}{x y:AV}(h:x=AV.ren τ y):x=AV.ren τ y:=h
theorem br_nil_k{α:Type}{l:List α}{i k:Nat}{p q:Prop}(h:l.drop i = [])(hk:l.length=k)(hq:q):BrI (decide ((i:Int)<(k:Int))) p q:=by
 have:=drop_ge h
 grind[BrI.ff]
theorem br_cons_k{α:Type}{l:List α}{i k:Nat}{x:α}{r:List α}{p q:Prop}(h:l.drop i=x::r)(hk:l.length=k)(hp:p):BrI (decide ((i:Int)<(k:Int))) p q:=by
 have:=drop_lt h
 grind[BrI.tt]
theorem idx_take{α β:Type}{l:List α}{f:α->β}{i k:Nat}{x:α}{r:List α}(h:(l.take k).drop i=x::r):0<=(i:Int)/\(l.map f)[(i:Int).toNat]? = some (f x):=by
 have h1:=drop_get h
 grind
theorem idx_get{α β:Type}{l:List α}{f:α->β}{x:α}(h:l[i]? = some x):0<=(i:Int)/\(l.map f)[(i:Int).toNat]? = some (f x):=⟨by omega,by simp[h]⟩
theorem idx_str{l:List UInt8}{x:UInt8}{r:List UInt8}(h:l.drop i=x::r):0<=(i:Int)/\l[(i:Int).toNat]? = some x:=⟨by omega,by simp[drop_get h]⟩
theorem idx_getD{l:List UInt8}{n:Int}(h0:0<=n)(h:n<l.length):0<=n/\l[n.toNat]? = some (l.getD n.toNat 0):=by
 simp_all
theorem Ex.css_map(l:List Ex):l.map Ex.cs=Ex.css l:=(Ex.css_eq l).symm
theorem zip_get{α β:Type}{l:List α}{m:List β}{x:α×β}{r:List (α×β)}(h:(l.zip m).drop i=x::r):l[i]? = some x.1/\m[i]? = some x.2:=by
 have:=drop_get h
 grind
theorem idx_zip1{α β γ:Type}{l:List α}{m:List β}{f:α->γ}{x:α×β}{r:List (α×β)}(h:(l.zip m).drop i=x::r):0<=(i:Int)/\(l.map f)[(i:Int).toNat]? = some (f x.1):=idx_get (zip_get h).1
theorem idx_zip2{α β γ:Type}{l:List α}{m:List β}{f:β->γ}{x:α×β}{r:List (α×β)}(h:(l.zip m).drop i=x::r):0<=(i:Int)/\(m.map f)[(i:Int).toNat]? = some (f x.2):=idx_get (zip_get h).2
theorem idx_zip1e{m:List Ex}{x:Ex×Ex}{r:List (Ex×Ex)}(h:(l.zip m).drop i=x::r):0<=(i:Int)/\(Ex.css l)[(i:Int).toNat]? = some (Ex.cs x.1):=by rw[Ex.css_eq];exact idx_zip1 h
theorem idx_zip2e{m:List Ex}{x:Ex×Ex}{r:List (Ex×Ex)}(h:(l.zip m).drop i=x::r):0<=(i:Int)/\(Ex.css m)[(i:Int).toNat]? = some (Ex.cs x.2):=by rw[Ex.css_eq];exact idx_zip2 h
theorem zip_len{α β:Type}{l:List α}{m:List β}(h:l.length=m.length):(l.zip m).length=l.length:=by simp[h]
theorem str_idx{l:List UInt8}{x:UInt8}{r:List UInt8}{q:UInt8->Prop}(h:l.drop i=x::r)(h4:q x):∃c,(0<=(i:Int)/\l[(i:Int).toNat]? = some c)/\q c:=⟨x,idx_str h,h4⟩
theorem str_getD{l:List UInt8}{n:Int}{q:UInt8->Prop}(h0:0<=n)(h:n<l.length)(h4:q (l.getD n.toNat 0)):∃c,(0<=n/\l[n.toNat]? = some c)/\q c:=⟨_,idx_getD h0 h,h4⟩
theorem nilgs_step{s s' id:Nat}{es:List (List D)}{e:Env}{K:Heap}(h1:s=s')(h2:es = [])(h3:K.get id=none)(h4:isLent id=false)(h5:menE id e=false)(h6:menH id K=false):s=s'/\es = []/\K.get id=none/\isLent id=false/\menE id e=false/\menH id K=false:=⟨h1,h2,h3,h4,h5,h6⟩
theorem tok0_step{b:Block}{id:Nat}{e:Env}{K:Heap}(h3:b.isTok0=true)(h4:isLent id=false)(h5:menE id e=false)(h6:menH id K=false):b.isTok0=true/\isLent id=false/\menE id e=false/\menH id K=false:=⟨h3,h4,h5,h6⟩
theorem kok_step{a b:Bool}(h1:a=true)(h2:b=true)(h:q):(a=true/\b=true)/\q:=⟨⟨h1,h2⟩,h⟩
def needOut(t:TypeId)(b:Bool)(e:Int):DOut:=match b with |true=>.ret (.tuple []) |false=>.pan (.iface t (.i e))
theorem need_step{A M:DOut->Prop}{V:Prop}{b:Bool}{e:Int}(hA:A (needOut t b e))(h1:b=true->M (.ret (.tuple [])))(h2:b=false->M (.pan (.iface t (.i e)))):(∃out,A out/\M out)\/V:=by
 refine .inl ⟨_,hA,?_⟩
 cases b
 ·exact h2 rfl
 ·exact h1 rfl
theorem ret_need{b:Bool}{e:Int}(hb:b=true)(h:finR T rs K0 (.ret (.data (.tuple []))) K1 env K):finR T rs K0 (needOut t b e).toA K1 env K\/q:=by
 subst hb;exact .inl h
theorem pan_need{x:AV}{b:Bool}{e:Int}(hb:b=false)(h:fin K0 K x (.data (.iface t (.i e))) K1):panR K0 K x K1 (needOut t b e).toA:=by
 subst hb;unfold panR;exact h
theorem pan_step{x:AV}{d:D}(h:fin K0 K x (.data d) K1):panR K0 K x K1 (DOut.pan d).toA:=by
 unfold panR;exact h
theorem pan_stepA{x y:AV}(h:fin K0 K x y K1):panR K0 K x K1 (.pan y):=by
 grind[panR]
theorem dfrP_rt{Df:FuncId->List AV->Option D->Bool->Heap->Heap->Prop}{az:List AV}{d y:D}{K0:Heap}{K K1:Heap}(h:vDfr Df f az (some d) false env K λK=>finR T rs K0 (.ret (.data y)) K1 env K):dfrP T Df f az d rs K0 env K K1 (DOut.ret y).toA:=dfrP.ret h
end Go.Fw
namespace Go.Fw
variable [GlobInt]
theorem own_idx_step{a b v v' len:Nat}{k:Bool}{n:Int}{q:Prop}(h1:k=true)(h2:a=b)(h3:v=v')(h4:0<=n/\n<len)(h:q):(k=true/\a=b/\v=v')/\(0<=n/\n<len)/\q:=⟨⟨h1,h2,h3⟩,h4,h⟩
theorem own_load_step{v v' s s' off i:Nat}{es:List (List D)}{q:D->Prop}(h1:v=v')(h2:s=s')(e:List D)(c:D)(h3:es[i]? = some e)(h4:e[off]? = some c)(h:q c):(v=v'/\s=s')/\∃e,es[i]? = some e/\∃c,e[off]? = some c/\q c:=⟨⟨h1,h2⟩,e,h3,c,h4,h⟩
theorem own_store_step{k sc:Bool}{v v' s s' l m off i:Nat}{es:List (List D)}{q:List D->Prop}(h1:k=true)(h2:v=v')(h3:s=s')(h4:l=m)(h5:off+l<=s')(h6:sc=true)(e:List D)(h7:es[i]? = some e)(h:q e) :
  k=true/\(v=v'/\s=s')/\l=m/\off+l<=s'/\sc=true/\∃e,es[i]? = some e/\q e:=⟨h1,⟨h2,h3⟩,h4,h5,h6,e,h7,h⟩
theorem mk_step{n m:Int}{c:Nat}{q:Prop}(h1:0<=n)(h2:n<=m)(hb:Nat.ble c 65536=true)(h3:m<=1073741824)(h:q):(0<=n/\n<=m/\m * (c:Int)<=140737488355328)/\q:=by
 refine⟨⟨h1,h2,?_⟩,h⟩
 have hb:=Nat.le_of_ble_eq_true hb
 have:m * (c:Int)<=1073741824 * 65536:=Int.mul_le_mul h3 (by omega) (by omega) (by omega)
 omega
theorem set_at{α:Type}{dn:List α}{x y:α}{r:List α}{i:Nat}(h:dn.length=i):(dn++x::r).set i y=dn++y::r:=by
 subst h;simp
abbrev whileL{β:Type}(ev:β->Env)(hv:β->Heap)(keep:List Nat)(I:β->Prop)(μ:β->Nat):Loop where
 S:=β
 ev:=ev
 hv:=hv
 keep:=keep
 I:=I
 μ:=μ
theorem whileL_rule{β:Type}{ev:β->Env}{hv:β->Heap}{keep:List Nat}{I:β->Prop}{μ:β->Nat}{E F:β->Prop}(b:β)(hW:E b)(hI:I b)(h:∀b,I b->F b) :
  (∃s,(whileL ev hv keep I μ).I s/\E s)/\∀s,(whileL ev hv keep I μ).I s->F s:=⟨⟨b,hI,hW⟩,h⟩
theorem whileL_next{β:Type}{ev:β->Env}{hv:β->Heap}{keep:List Nat}{I:β->Prop}{μ:β->Nat}{E:β->Prop}{b0:β}(b:β)(hW:E b)(hI:I b)(hm:μ b<μ b0) :
  ∃s,(whileL ev hv keep I μ).I s/\(whileL ev hv keep I μ).μ s<(whileL ev hv keep I μ).μ b0/\E s:=⟨b,hI,hm,hW⟩
theorem read_step{A M:DOut->Prop}(out:DOut)(h:A out)(h2:M out):∃out,A out/\M out:=⟨out,h,h2⟩
theorem flat_step{d:D}{q:Prop}(h1:D.flat d=true)(h2:q):D.flat d=true/\q:=⟨h1,h2⟩
end Go.Fw
