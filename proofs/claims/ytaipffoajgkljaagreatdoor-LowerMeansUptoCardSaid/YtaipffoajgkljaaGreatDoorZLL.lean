/- A part of the proof. -/
import Derived.Test.YtaipffoajgkljaaGreatDoorZDA
set_option linter.all false
namespace Go.Fw
variable [af] {i : Nat} {q : Prop} {env : Env} {T : Tbl} {tr : List Rec} {K : Heap} {ops : Array Oper} {B : FuncId → List AV → Heap → jU → Heap → Prop} {l : List UInt8} {es es' : List (List D)} {rs : List ResultVar} {t : TypeId} {out : jU} {f : FuncId} {a b : Nat}
theorem BrI.tt{p q:Prop}(h:p):BrI true p q:=BrI.intro (λ_=>h) (λe=>by simp at e)
theorem BrI.ff{p q:Prop}(h:q):BrI false p q:=BrI.intro (λe=>by simp at e) (λ_=>h)
theorem lK{α:Type}{l:List α}{x:α}{r:List α}(h:l.drop i=x::r):i<l.length:=by
 grind[List.drop_eq_nil_of_le]
abbrev aB{α β:Type}(l:List α)(slot:Nat)(ev:β->Env)(hv:β->Heap)(keep:List Nat)(I:Nat->List α->β->Prop):Loop where
 S:=Nat×List α×β
 ev s:=match s with |(i,_,b)=>(slot,.data (.val (.int .i64 (i:Int))))::ev b
 hv s:=match s with |(_,_,b)=>hv b
 keep:=keep
 I s:=match s with |(i,r,b)=>l.drop i=r/\I i r b
 μ s:=match s with |(_,r,_)=>r.length
theorem ag{α β:Type}{l:List α}{slot:Nat}{ev:β->Env}{hv:β->Heap}{keep:List Nat}{I:Nat->List α->β->Prop}{E F:Nat×List α×β->Prop}(b:β)
  (hW:E (0,l,b)) (hI:I 0 l b) (h0:∀i b,l.drop i = []->I i [] b->F (i,[],b)) (h1:∀i x r b,l.drop i=x::r->i<l.length->I i (x::r) b->F (i,x::r,b)) :
  (∃s,(aB l slot ev hv keep I).I s/\E s)/\∀s,(aB l slot ev hv keep I).I s->F s:=by
 refine⟨⟨(0,l,b),⟨rfl,hI⟩,hW⟩,?_⟩
 rintro⟨i,r,b⟩ ⟨hd,h⟩
 cases r with
 |nil=>simp_all
 |cons x r=>grind[lK]
theorem Az{α:Type}{l:List α}{x:α}{r:List α}(h:l.drop i=x::r):l.drop (i+1)=r:=by
 grind[lK,List.drop_eq_getElem_cons]
theorem mD{α:Type}{l:List α}{x:α}{r:List α}(h:l.drop i=x::r):l[i]? = some x:=by
 grind[lK,List.drop_eq_getElem_cons]
theorem aX{α:Type}{l:List α}{x:α}{r:List α}(h:l.drop i=x::r):x∈l:=List.mem_of_getElem? (mD h)
theorem z5i{α:Type}{l:List α}(h:l.drop i = []):l.length<=i:=by simpa using h
theorem II{α β:Type}{l:List α}{f:α->β}(h:l.drop i = []):decide ((i:Int)<((l.map f).length:Int))=false:=by
 simp_all
theorem DX{α β:Type}{l:List α}{f:α->β}{x:α}{r:List α}(h:l.drop i=x::r):decide ((i:Int)<((l.map f).length:Int))=true:=by
 have:=lK h
 simp;omega
theorem aZ{α β:Type}{l:List α}{f:α->β}{p q:Prop}(h:l.drop i = [])(hq:q):BrI (decide ((i:Int)<((l.map f).length:Int))) p q:=by
 grind[II,BrI.ff]
theorem aK{α β:Type}{l:List α}{f:α->β}{x:α}{r:List α}{p q:Prop}(h:l.drop i=x::r)(hp:p):BrI (decide ((i:Int)<((l.map f).length:Int))) p q:=by
 grind[DX,BrI.tt]
theorem ax{α β:Type}{l:List α}{f:α->β}{x:α}{r:List α}(h:l.drop i=x::r):0<=(i:Int)/\(l.map f)[(i:Int).toNat]? = some (f x):=
 ⟨by omega,by simp[mD h]⟩
theorem aj{α:Type}{l:List α}{x:α}{r:List α}(h:l.drop i=x::r)(hl:l.length<=9223372036854775807):AV.data (.val (.int .i64 (IntKind.i64.wrap ((i:Int)+1))))=AV.data (.val (.int .i64 ((i+1:Nat):Int))):=by
 have:=lK h
 grind[aO]
theorem ah{α β:Type}{l:List α}{slot:Nat}{ev:β->Env}{hv:β->Heap}{keep:List Nat}{I:Nat->List α->β->Prop}{E:Nat×List α×β->Prop}{x:α}{r:List α}{b0:β}(hd:l.drop i=x::r)(b:β)
  (hW:E (i+1,r,b)) (hI:I (i+1) r b) :
  ∃s,(aB l slot ev hv keep I).I s/\(aB l slot ev hv keep I).μ s<(aB l slot ev hv keep I).μ (i,x::r,b0)/\E s:=
 ⟨(i+1,r,b),⟨Az hd,hI⟩,Nat.lt_succ_self _,hW⟩
theorem AA(h:chk T ops env K tr=true)(hq:q):chkP T ops env K tr/\q:=⟨⟨[],by rw[zV];exact h,trivial⟩,hq⟩
theorem lL{kp:Nat}(h:chk T ops env K tr=true)(hq:q):NP T ops env K tr kp/\q:=⟨⟨[],rfl,by rw[zV];exact h,trivial⟩,hq⟩
theorem OH(l:List (Nat×Nat))(h:chk T ops env K (rC l 0 tr)=true)(h2:yj T K tr l)(hq:q):chkP T ops env K tr/\q:=⟨⟨l,h,h2⟩,hq⟩
theorem AB:yj T K tr []:=trivial
theorem AC{o:Oper}{id:Nat}{c:AV}:cellW T env o id c []:=trivial
theorem wY{q:Nat×Nat}{l:List (Nat×Nat)}(h:xN T K tr q)(h2:yj T K tr l):yj T K tr (q::l):=⟨h,h2⟩
theorem Fq{q id:Nat}{y:Rec}{a:Operand}{off:Nat}{cs:List AV}{c:AV}(h:tr[q]? = some y)(hop:y.o.op = .load t a)(h1:T.sh t=some false)(h2:ev T y.env 0 a = .ptr id off)(h3:K.get id=some (.cells cs))(h3':cs[off]? = some c)(h4:cellW T y.env y.o id c tr):xN T K tr (q,id):=by
 unfold xN
 simp[h]
 intro _
 refine⟨c,?_,h4⟩
 rw[h3]
 simp[cellP,readA,hop,jZ,h2,zX,if_true,h1,h3']
theorem wZ{o:Oper}{id:Nat}{c:AV}{x:Rec}{r:List Rec}(h1:match og (x.ws T) id with |true=>cellP T env o id c (x.K.get id) |false=>True)(h2:cellW T env o id c r):cellW T env o id c (x::r):=⟨h1,h2⟩
theorem jA{l:List Ex}{p q:Prop}(h:l.drop i = [])(hq:q):BrI (decide ((i:Int)<((Ex.css l).length:Int))) p q:=by
 grind[Ex.css_eq,aZ]
theorem fK{l:List Ex}{x:Ex}{r:List Ex}{p q:Prop}(h:l.drop i=x::r)(hp:p):BrI (decide ((i:Int)<((Ex.css l).length:Int))) p q:=by
 grind[Ex.css_eq,aK]
theorem dR{l:List Ex}{x:Ex}{r:List Ex}(h:l.drop i=x::r):0<=(i:Int)/\(Ex.css l)[(i:Int).toNat]? = some (Ex.cs x):=by
 rw[Ex.css_eq];exact ax h
theorem Ex.css_len(l:List Ex):(Ex.css l).length=l.length:=by rw[Ex.css_eq];simp
theorem xe:(∀c f:Bool,cond c true f=(c || f))/\(∀c t:Bool,cond c t false=(c&&t))/\(∀c f:Bool,cond c false f=(!c&&f))/\(∀c t:Bool,cond c t true=(!c || t))/\(∀b:Bool,((!b)=true)=(b=false))/\(∀b:Bool,((!b)=false)=(b=true)) /\
  (∀(α:Type) (_:BEq α) (a b:α),(a != b) = !(a==b))/\(∀l:List Ex,(Ex.css l).length=l.length)/\(∀(α β:Type) (f:α->β) (l:List α),(l.map f).length=l.length)/\(0:Int).toNat=0:=
 ⟨Bool.cond_true_left,Bool.cond_false_right,Bool.cond_false_left,Bool.cond_true_right,λb=>by cases b<;>simp,λb=>by cases b<;>simp,λ_ _ _ _=>rfl,Ex.css_len,λ_ _ _ _=>List.length_map _,rfl⟩
theorem uV(h:a+b<=9223372036854775807):IntKind.i64.wrap ((a:Int)+(b:Int))=((a+b:Nat):Int):=by
 grind[aO]
theorem au{k:Bool}{n:Int}{es:List (List D)}{q:List D->Prop}(h1:k=true)(h2:a=b)(c:List D)(h3:0<=n/\es[n.toNat]? = some c)(h4:q c):(k=true/\a=b)/\∃c,(0<=n/\es[n.toNat]? = some c)/\q c:=⟨⟨h1,h2⟩,c,h3,h4⟩
theorem Fv{cs:List D}{t:TI}(h1:cs.length=t.size)(h:q):cs.length=t.size/\q:=⟨h1,h⟩
theorem aY{p g:Bool}{A B:AV->Prop}(h1:p=true)(v:AV)(h2:g=true->A v)(h3:B v):(p=true/\∃v,(g=true->A v)/\B v)\/q:=.inl ⟨h1,v,h2,h3⟩
theorem tK{p g:Bool}{A B:AV->Prop}(h1:p=true)(v:AV)(h2:g=true->A v)(h3:B v):p=true/\∃v,(g=true->A v)/\B v:=⟨h1,v,h2,h3⟩
theorem bY{a v:AV}{b c:Heap}(h:a=v)(h2:b=c):a=v/\b=c:=⟨h,h2⟩
theorem gJ{b c:Heap}(h:b=c)(h2:q):b=c/\q:=⟨h,h2⟩
theorem ai{A M:nK->Prop}{V:Prop}(out:nK)(h:A out)(h2:M out):(∃out,A out/\M out)\/V:=.inl ⟨out,h,h2⟩
theorem aP{K0 K K1:Heap}(h:finR T rs K0 out K1 env K):finR T rs K0 out K1 env K\/q:=.inl h
theorem qo{id id' sz sz':Nat}(h0:id=id')(h:sz=sz')(h2:es=es'):AV.gs id sz es=AV.gs id' sz' es':=by rw[h0,h,h2]
theorem iK{sz sz':Nat}(h:sz=sz')(h2:es=es'):Block.tok sz es.length=Block.tok sz' es'.length:=by rw[h,h2]
theorem dU{α:Type}{l:List α}{f:α->List D}{x:α}:l.map f++[f x]=(l++[x]).map f:=by simp
theorem Fz{α:Type}{l m:List α}{f:α->List D}:l.map f++m.map f=(l++m).map f:=by simp
theorem iL{a y b:Nat}(h1:a<=1073741824)(h2:y<=1073741824)(h3:Nat.ble b 65536=true):(a+y) * b<=140737488355328:=
 Nat.le_trans (Nat.mul_le_mul (show a+y<=2147483648 by omega) (Nat.le_of_ble_eq_true h3)) (by decide)
theorem fA(h:Nat.ble a b=true):a<=b:=Nat.le_of_ble_eq_true h
theorem app_step'{a b c n m x y w:Nat}(h1:a=b)(h2:b=c)(h3:n=m)(hb:Nat.ble w 65536=true)(hx:x<=1073741824)(hy:y<=1073741824)(h:q):(a=b/\b=c/\n=m)/\(x+y) * w<=140737488355328/\q:=⟨⟨h1,h2,h3⟩,iL hx hy hb,h⟩
theorem eP{L:List Nat}{as as0:List AV}{K K0 K1:Heap}{next pan:Next}{Z:Prop}(ρ:List (Nat×Nat))(h:B f as0 K0 out K1)(h1:AV.ren.go ρ as0=as)(h2:Heap.sub ρ K K0)(h3:gG ρ K0 K1 out.av env K L=true)
  (h4:outGo ρ K1 K next pan out):Z\/EK B L f as env K next pan:=.inr ⟨as0,K0,out,K1,ρ,h,h1,h2,h3,h4⟩
theorem lent_step'{L:List Nat}{as as0:List AV}{K K0 K1:Heap}{next pan:Next}(ρ:List (Nat×Nat))(h:B f as0 K0 out K1)(h1:AV.ren.go ρ as0=as)(h2:Heap.sub ρ K K0)(h3:gG ρ K0 K1 out.av env K L=true)
  (h4:outGo ρ K1 K next pan out) :
  ∃(as0:List AV) (K0:Heap) (out:jU) (K1:Heap) (ρ:List (Nat×Nat)),B f as0 K0 out K1/\AV.ren.go ρ as0=as/\Heap.sub ρ K K0/\gG ρ K0 K1 out.av env K L=true /\
  outGo ρ K1 K next pan out:=⟨as0,K0,out,K1,ρ,h,h1,h2,h3,h4⟩
theorem fin_step'{K0 K K1:Heap}{x y:AV}(τ:List (Nat×Nat))(h1:Yj τ K0 K1 y=true)(h2:Oi K (aU τ (keys K1)) τ 100 x y)(h3:zaj K (aU τ (keys K1)) τ K1):∃τ,Yj τ K0 K1 y=true/\Oi K (aU τ (keys K1)) τ 100 x y/\zaj K (aU τ (keys K1)) τ K1:=⟨τ,h1,h2,h3⟩
theorem fB{τ:List (Nat×Nat)}{id id' sz sz':Nat}(h:id=rn τ id')(h0:sz=sz')(h1:es=es'):AV.gs id sz es=AV.ren τ (AV.gs id' sz' es'):=by
 grind[AV.ren]
theorem bz{τ:List (Nat×Nat)}{x y:AV}(h:x=AV.ren τ y):x=AV.ren τ y:=h
theorem fD(hq:q)(h:chk T ops env K tr=true:=by kernel_rfl):chkP T ops env K tr/\q:=AA h hq
theorem lY{cs:List D}{t:TI}(h:q)(h1:cs.length=t.size:=by exact rfl):cs.length=t.size/\q:=⟨h1,h⟩
theorem FB{a b c n m x y w:Nat}(hx:x<=1073741824)(hy:y<=1073741824)(h:q)(h1:a=b:=by exact rfl)(h2:b=c:=by exact rfl)(h3:n=m:=by exact rfl)(hb:Nat.ble w 65536=true:=by exact rfl):(a=b/\b=c/\n=m)/\(x+y) * w<=140737488355328/\q:=app_step' h1 h2 h3 hb hx hy h
theorem dB{α:Type}{l:List α}{i k:Nat}{p q:Prop}(h:l.drop i = [])(hk:l.length=k)(hq:q):BrI (decide ((i:Int)<(k:Int))) p q:=by
 have:=z5i h
 grind[BrI.ff]
theorem bK{α:Type}{l:List α}{i k:Nat}{x:α}{r:List α}{p q:Prop}(h:l.drop i=x::r)(hk:l.length=k)(hp:p):BrI (decide ((i:Int)<(k:Int))) p q:=by
 have:=lK h
 grind[BrI.tt]
theorem DY{α β:Type}{l:List α}{f:α->β}{c:Bool}{p q:Prop}(h:l.drop i = [])(hq:q):BrI (bif decide ((i:Int)<((l.map f).length:Int))then c else false) p q:=by
 grind[II,BrI.ff]
theorem AL{α β:Type}{l:List α}{f:α->β}{x:α}{r:List α}{c:Bool}{p q:Prop}(h:l.drop i=x::r)(hp:BrI c p q):BrI (bif decide ((i:Int)<((l.map f).length:Int))then c else false) p q:=by
 grind[DX]
theorem UV{α β:Type}{l:List α}{f:α->β}{x:α}(h:l[i]? = some x):0<=(i:Int)/\(l.map f)[(i:Int).toNat]? = some (f x):=⟨by omega,by simp[h]⟩
theorem z5j{x:UInt8}{r:List UInt8}(h:l.drop i=x::r):0<=(i:Int)/\l[(i:Int).toNat]? = some x:=⟨by omega,by simp[mD h]⟩
theorem YI{n:Int}(h0:0<=n)(h:n<l.length):0<=n/\l[n.toNat]? = some (l.getD n.toNat 0):=by
 simp_all
theorem Ex.css_map(l:List Ex):l.map Ex.cs=Ex.css l:=(Ex.css_eq l).symm
theorem UW{α β:Type}{l:List α}{m:List β}{x:α×β}{r:List (α×β)}(h:(l.zip m).drop i=x::r):l[i]? = some x.1/\m[i]? = some x.2:=by
 have:=mD h
 grind
theorem gp{α β γ:Type}{l:List α}{m:List β}{f:α->γ}{x:α×β}{r:List (α×β)}(h:(l.zip m).drop i=x::r):0<=(i:Int)/\(l.map f)[(i:Int).toNat]? = some (f x.1):=UV (UW h).1
theorem gq{α β γ:Type}{l:List α}{m:List β}{f:β->γ}{x:α×β}{r:List (α×β)}(h:(l.zip m).drop i=x::r):0<=(i:Int)/\(m.map f)[(i:Int).toNat]? = some (f x.2):=UV (UW h).2
theorem dX{α β:Type}{l:List α}{m:List β}(h:l.length=m.length):(l.zip m).length=l.length:=by simp[h]
theorem z5k{x:UInt8}{r:List UInt8}{q:UInt8->Prop}(h:l.drop i=x::r)(h4:q x):∃c,(0<=(i:Int)/\l[(i:Int).toNat]? = some c)/\q c:=⟨x,z5j h,h4⟩
theorem YJ{n:Int}{q:UInt8->Prop}(h0:0<=n)(h:n<l.length)(h4:q (l.getD n.toNat 0)):∃c,(0<=n/\l[n.toNat]? = some c)/\q c:=⟨_,YI h0 h,h4⟩
theorem dS{s s' id:Nat}{es:List (List D)}{e:Env}(h1:s=s')(h2:es = [])(h3:K.get id=none)(h4:bP id=false)(h5:fU id e=false)(h6:pI id K=false):s=s'/\es = []/\K.get id=none/\bP id=false/\fU id e=false/\pI id K=false:=⟨h1,h2,h3,h4,h5,h6⟩
theorem dL{b:Block}{id:Nat}{e:Env}(h3:b.isTok0=true)(h4:bP id=false)(h5:fU id e=false)(h6:pI id K=false):b.isTok0=true/\bP id=false/\fU id e=false/\pI id K=false:=⟨h3,h4,h5,h6⟩
theorem qO{a b:Bool}(h1:a=true)(h2:b=true)(h:q):(a=true/\b=true)/\q:=⟨⟨h1,h2⟩,h⟩
def lM(t:TypeId)(b:Bool)(e:Int):nK:=match b with |true=>.ret (.tuple []) |false=>.pan (.iface t (.i e))
theorem aQ{A M:nK->Prop}{V:Prop}{b:Bool}{e:Int}(hA:A (lM t b e))(h1:b=true->M (.ret (.tuple [])))(h2:b=false->M (.pan (.iface t (.i e)))):(∃out,A out/\M out)\/V:=by
 refine .inl ⟨_,hA,?_⟩
 cases b
 ·exact h2 rfl
 ·exact h1 rfl
theorem mF{K0 K K1:Heap}{b:Bool}{e:Int}(hb:b=true)(h:finR T rs K0 (.ret (.data (.tuple []))) K1 env K):finR T rs K0 (lM t b e).toA K1 env K\/q:=by
 subst hb;exact .inl h
theorem mG{K0 K K1:Heap}{x:AV}{b:Bool}{e:Int}(hb:b=false)(h:fin K0 K x (.data (.iface t (.i e))) K1):QF K0 K x K1 (lM t b e).toA:=by
 subst hb;unfold QF;exact h
theorem yT{K0 K K1:Heap}{x:AV}{d:D}(h:fin K0 K x (.data d) K1):QF K0 K x K1 (nK.pan d).toA:=by
 unfold QF;exact h
theorem jB{K0 K K1:Heap}{x y:AV}(h:fin K0 K x y K1):QF K0 K x K1 (.pan y):=by
 grind[QF]
theorem qp{Df:FuncId->List AV->Option D->Bool->Heap->Heap->Prop}{az:List AV}{d y:D}{K0:Heap}{K K1:Heap}(h:z1l Df f az (some d) false env K λK=>finR T rs K0 (.ret (.data y)) K1 env K):Uk T Df f az d rs K0 env K K1 (nK.ret y).toA:=Uk.ret h
end Go.Fw
namespace Go.Fw
variable [af]
theorem jd{a b v v' len:Nat}{k:Bool}{n:Int}{q:Prop}(h1:k=true)(h2:a=b)(h3:v=v')(h4:0<=n/\n<len)(h:q):(k=true/\a=b/\v=v')/\(0<=n/\n<len)/\q:=⟨⟨h1,h2,h3⟩,h4,h⟩
theorem jC{v v' s s' off i:Nat}{es:List (List D)}{q:D->Prop}(h1:v=v')(h2:s=s')(e:List D)(c:D)(h3:es[i]? = some e)(h4:e[off]? = some c)(h:q c):(v=v'/\s=s')/\∃e,es[i]? = some e/\∃c,e[off]? = some c/\q c:=⟨⟨h1,h2⟩,e,h3,c,h4,h⟩
theorem fQ{k sc:Bool}{v v' s s' l m off i:Nat}{es:List (List D)}{q:List D->Prop}(h1:k=true)(h2:v=v')(h3:s=s')(h4:l=m)(h5:off+l<=s')(h6:sc=true)(e:List D)(h7:es[i]? = some e)(h:q e) :
  k=true/\(v=v'/\s=s')/\l=m/\off+l<=s'/\sc=true/\∃e,es[i]? = some e/\q e:=⟨h1,⟨h2,h3⟩,h4,h5,h6,e,h7,h⟩
theorem mJ{v v' s s' t n m x w:Nat}{q:Prop}(h1:v=v')(h2:s=s')(h3:s=t)(h4:n<=m)(hb:Nat.ble w 65536=true)(hx:n<=1073741824)(hy:x<=1073741824)(h:q):((v=v'/\s'=s)/\s=t/\n<=m)/\(n+x) * w<=140737488355328/\q:=
 ⟨⟨⟨h1,h2.symm⟩,h3,h4⟩,iL hx hy hb,h⟩
theorem LP{n m:Int}{c:Nat}{q:Prop}(h1:0<=n)(h2:n<=m)(hb:Nat.ble c 65536=true)(h3:m<=1073741824)(h:q):(0<=n/\n<=m/\m * (c:Int)<=140737488355328)/\q:=by
 refine⟨⟨h1,h2,?_⟩,h⟩
 have hb:=Nat.le_of_ble_eq_true hb
 have:m * (c:Int)<=1073741824 * 65536:=Int.mul_le_mul h3 (by omega) (by omega) (by omega)
 omega
theorem IJ{A M:nK->Prop}(out:nK)(h:A out)(h2:M out):∃out,A out/\M out:=⟨out,h,h2⟩
theorem uX{d:D}{q:Prop}(h1:D.flat d=true)(h2:q):D.flat d=true/\q:=⟨h1,h2⟩
end Go.Fw
