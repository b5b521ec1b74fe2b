/- A part of the proof. -/
import Derived.Test.YtgehpmgkaeohaaaGreatDoorZDA
set_option linter.all false
namespace Go.Fw
variable [ae] {i : Nat} {q : Prop} {env : Env} {T : Tbl} {tr : List Rec} {K : Heap} {ops : Array Oper} {es es' : List (List D)} {B : FuncId → List AV → Heap → gG → Heap → Prop} {l : List UInt8} {rs : List ResultVar} {id id' sz sz' : Nat} {t : TypeId} {p g : Bool} {out : gG} {f : FuncId} {a b : Nat}
theorem BrI.tt{p q:Prop}(h:p):BrI true p q:=BrI.intro (λ_=>h) (λe=>by simp at e)
theorem BrI.ff{p q:Prop}(h:q):BrI false p q:=BrI.intro (λe=>by simp at e) (λ_=>h)
theorem oJ{α:Type}{l:List α}{x:α}{r:List α}(h:l.drop i=x::r):i<l.length:=by
 grind[List.drop_eq_nil_of_le]
abbrev aH{α β:Type}(l:List α)(slot:Nat)(ev:β->Env)(hv:β->Heap)(keep:List Nat)(I:Nat->List α->β->Prop):Loop where
 S:=Nat×List α×β
 ev s:=match s with |(i,_,b)=>(slot,.data (.val (.int .i64 (i:Int))))::ev b
 hv s:=match s with |(_,_,b)=>hv b
 keep:=keep
 I s:=match s with |(i,r,b)=>l.drop i=r/\I i r b
 μ s:=match s with |(_,r,_)=>r.length
theorem af{α β:Type}{l:List α}{slot:Nat}{ev:β->Env}{hv:β->Heap}{keep:List Nat}{I:Nat->List α->β->Prop}{E F:Nat×List α×β->Prop}(b:β)
  (hW:E (0,l,b)) (hI:I 0 l b) (h0:∀i b,l.drop i = []->I i [] b->F (i,[],b)) (h1:∀i x r b,l.drop i=x::r->i<l.length->I i (x::r) b->F (i,x::r,b)) :
  (∃s,(aH l slot ev hv keep I).I s/\E s)/\∀s,(aH l slot ev hv keep I).I s->F s:=by
 refine⟨⟨(0,l,b),⟨rfl,hI⟩,hW⟩,?_⟩
 rintro⟨i,r,b⟩ ⟨hd,h⟩
 cases r with
 |nil=>simp_all
 |cons x r=>grind[oJ]
theorem VC{α:Type}{l:List α}{x:α}{r:List α}(h:l.drop i=x::r):l.drop (i+1)=r:=by
 grind[oJ,List.drop_eq_getElem_cons]
theorem vN{α:Type}{l:List α}{x:α}{r:List α}(h:l.drop i=x::r):l[i]? = some x:=by
 grind[oJ,List.drop_eq_getElem_cons]
theorem bU{α:Type}{l:List α}{x:α}{r:List α}(h:l.drop i=x::r):x∈l:=List.mem_of_getElem? (vN h)
theorem z7s{α:Type}{l:List α}(h:l.drop i = []):l.length<=i:=by simpa using h
theorem Jd{α β:Type}{l:List α}{f:α->β}(h:l.drop i = []):decide ((i:Int)<((l.map f).length:Int))=false:=by
 simp_all
theorem ED{α β:Type}{l:List α}{f:α->β}{x:α}{r:List α}(h:l.drop i=x::r):decide ((i:Int)<((l.map f).length:Int))=true:=by
 have:=oJ h
 simp;omega
theorem bu{α β:Type}{l:List α}{f:α->β}{p q:Prop}(h:l.drop i = [])(hq:q):BrI (decide ((i:Int)<((l.map f).length:Int))) p q:=by
 grind[Jd,BrI.ff]
theorem aP{α β:Type}{l:List α}{f:α->β}{x:α}{r:List α}{p q:Prop}(h:l.drop i=x::r)(hp:p):BrI (decide ((i:Int)<((l.map f).length:Int))) p q:=by
 grind[ED,BrI.tt]
theorem ay{α β:Type}{l:List α}{f:α->β}{x:α}{r:List α}(h:l.drop i=x::r):0<=(i:Int)/\(l.map f)[(i:Int).toNat]? = some (f x):=
 ⟨by omega,by simp[vN h]⟩
theorem ai{α:Type}{l:List α}{x:α}{r:List α}(h:l.drop i=x::r)(hl:l.length<=9223372036854775807):AV.data (.val (.int .i64 (IntKind.i64.wrap ((i:Int)+1))))=AV.data (.val (.int .i64 ((i+1:Nat):Int))):=by
 have:=oJ h
 grind[bM]
theorem ag{α β:Type}{l:List α}{slot:Nat}{ev:β->Env}{hv:β->Heap}{keep:List Nat}{I:Nat->List α->β->Prop}{E:Nat×List α×β->Prop}{x:α}{r:List α}{b0:β}(hd:l.drop i=x::r)(b:β)
  (hW:E (i+1,r,b)) (hI:I (i+1) r b) :
  ∃s,(aH l slot ev hv keep I).I s/\(aH l slot ev hv keep I).μ s<(aH l slot ev hv keep I).μ (i,x::r,b0)/\E s:=
 ⟨(i+1,r,b),⟨VC hd,hI⟩,Nat.lt_succ_self _,hW⟩
theorem Zr(h:chk T ops env K tr=true)(hq:q):chk T ops env K tr=true/\q:=⟨h,hq⟩
theorem VD(h:chk T ops env K tr=true)(hq:q):QZ T ops env K tr/\q:=⟨⟨[],by rw[Au];exact h,trivial⟩,hq⟩
theorem eF{kp:Nat}(h:chk T ops env K tr=true)(hq:q):Ou T ops env K tr kp/\q:=⟨⟨[],rfl,by rw[Au];exact h,trivial⟩,hq⟩
theorem Zt(l:List (Nat×Nat))(h:chk T ops env K (rM l 0 tr)=true)(h2:yP T K tr l)(hq:q):QZ T ops env K tr/\q:=⟨⟨l,h,h2⟩,hq⟩
theorem Je:yP T K tr []:=trivial
theorem Jf{o:Oper}{id:Nat}{c:AV}:cellW T env o id c []:=trivial
theorem EE{q:Nat×Nat}{l:List (Nat×Nat)}(h:yz T K tr q)(h2:yP T K tr l):yP T K tr (q::l):=⟨h,h2⟩
theorem Pj{q id:Nat}{y:Rec}{a:Operand}{off:Nat}{cs:List AV}{c:AV}(h:tr[q]? = some y)(hop:y.o.op = .load t a)(h1:T.sh t=some false)(h2:ev T y.env 0 a = .ptr id off)(h3:K.get id=some (.cells cs))(h3':cs[off]? = some c)(h4:cellW T y.env y.o id c tr):yz T K tr (q,id):=by
 unfold yz
 simp[h]
 intro _
 refine⟨c,?_,h4⟩
 rw[h3]
 simp[cellP,readA,hop,jM,h2,Az,if_true,h1,h3']
theorem EF{o:Oper}{id:Nat}{c:AV}{x:Rec}{r:List Rec}(h1:match nU (x.ws T) id with |true=>cellP T env o id c (x.K.get id) |false=>True)(h2:cellW T env o id c r):cellW T env o id c (x::r):=⟨h1,h2⟩
theorem kG{l:List Ex}{p q:Prop}(h:l.drop i = [])(hq:q):BrI (decide ((i:Int)<((Ex.css l).length:Int))) p q:=by
 grind[Ex.css_eq,bu]
theorem iw{l:List Ex}{x:Ex}{r:List Ex}{p q:Prop}(h:l.drop i=x::r)(hp:p):BrI (decide ((i:Int)<((Ex.css l).length:Int))) p q:=by
 grind[Ex.css_eq,aP]
theorem eY{l:List Ex}{x:Ex}{r:List Ex}(h:l.drop i=x::r):0<=(i:Int)/\(Ex.css l)[(i:Int).toNat]? = some (Ex.cs x):=by
 rw[Ex.css_eq];exact ay h
theorem Ex.css_len(l:List Ex):(Ex.css l).length=l.length:=by rw[Ex.css_eq];simp
theorem csmp:(∀c f:Bool,cond c true f=(c || f))/\(∀c t:Bool,cond c t false=(c&&t))/\(∀c f:Bool,cond c false f=(!c&&f))/\(∀c t:Bool,cond c t true=(!c || t))/\(∀b:Bool,((!b)=true)=(b=false))/\(∀b:Bool,((!b)=false)=(b=true)) /\
  (∀(α:Type) (_:BEq α) (a b:α),(a != b) = !(a==b))/\(∀l:List Ex,(Ex.css l).length=l.length)/\(∀(α β:Type) (f:α->β) (l:List α),(l.map f).length=l.length)/\(0:Int).toNat=0:=
 ⟨Bool.cond_true_left,Bool.cond_false_right,Bool.cond_false_left,Bool.cond_true_right,λb=>by cases b<;>simp,λb=>by cases b<;>simp,λ_ _ _ _=>rfl,Ex.css_len,λ_ _ _ _=>List.length_map _,rfl⟩
theorem zu(h:a+b<=9223372036854775807):IntKind.i64.wrap ((a:Int)+(b:Int))=((a+b:Nat):Int):=by
 grind[bM]
theorem aB{k:Bool}{n:Int}{es:List (List D)}{q:List D->Prop}(h1:k=true)(h2:a=b)(c:List D)(h3:0<=n/\es[n.toNat]? = some c)(h4:q c):(k=true/\a=b)/\∃c,(0<=n/\es[n.toNat]? = some c)/\q c:=⟨⟨h1,h2⟩,c,h3,h4⟩
theorem aK{A B:AV->Prop}(h1:p=true)(v:AV)(h2:g=true->A v)(h3:B v):(p=true/\∃v,(g=true->A v)/\B v)\/q:=.inl ⟨h1,v,h2,h3⟩
theorem uf{A B:AV->Prop}(h1:p=true)(v:AV)(h2:g=true->A v)(h3:B v):p=true/\∃v,(g=true->A v)/\B v:=⟨h1,v,h2,h3⟩
theorem EG{A B:AV->Prop}(v:AV)(h1:p=true)(hg:g=false)(h3:B v):(p=true/\∃v,(g=true->A v)/\B v)\/q:=.inl ⟨h1,v,λh=>absurd (hg.symm.trans h) Bool.noConfusion,h3⟩
theorem Jg{g:Bool}{z p:Prop}(hg:g=true)(h:p):z\/kz g p:=.inr (kz.mk hg h)
theorem aY{a v:AV}{b c:Heap}(h:a=v)(h2:b=c):a=v/\b=c:=⟨h,h2⟩
theorem gu{b c:Heap}(h:b=c)(h2:q):b=c/\q:=⟨h,h2⟩
theorem ah{A M:lY->Prop}{V:Prop}(out:lY)(h:A out)(h2:M out):(∃out,A out/\M out)\/V:=.inl ⟨out,h,h2⟩
theorem bg{K0 K K1:Heap}(h:finR T rs K0 out K1 env K):finR T rs K0 out K1 env K\/q:=.inl h
theorem mZ(h0:id=id')(h:sz=sz')(h2:es=es'):AV.gs id sz es=AV.gs id' sz' es':=by rw[h0,h,h2]
theorem gy{sz sz':Nat}(h:sz=sz')(h2:es=es'):Block.tok sz es.length=Block.tok sz' es'.length:=by rw[h,h2]
theorem bC{α:Type}{l:List α}{f:α->List D}{x:α}:l.map f++[f x]=(l++[x]).map f:=by simp
theorem VE{α:Type}{l m:List α}{f:α->List D}:l.map f++m.map f=(l++m).map f:=by simp
theorem iD{a y b:Nat}(h1:a<=1073741824)(h2:y<=1073741824)(h3:Nat.ble b 65536=true):(a+y) * b<=140737488355328:=
 Nat.le_trans (Nat.mul_le_mul (show a+y<=2147483648 by omega) (Nat.le_of_ble_eq_true h3)) (by decide)
theorem dQ(h:Nat.ble a b=true):a<=b:=Nat.le_of_ble_eq_true h
theorem app_step'{a b c n m x y w:Nat}(h1:a=b)(h2:b=c)(h3:n=m)(hb:Nat.ble w 65536=true)(hx:x<=1073741824)(hy:y<=1073741824)(h:q):(a=b/\b=c/\n=m)/\(x+y) * w<=140737488355328/\q:=⟨⟨h1,h2,h3⟩,iD hx hy hb,h⟩
theorem fM{L:List Nat}{as as0:List AV}{K K0 K1:Heap}{next pan:Next}{Z:Prop}(ρ:List (Nat×Nat))(h:B f as0 K0 out K1)(h1:AV.ren.go ρ as0=as)(h2:Heap.sub ρ K K0)(h3:bV ρ K0 K1 out.av env K L=true)
  (h4:outGo ρ K1 K next pan out):Z\/FH B L f as env K next pan:=.inr ⟨as0,K0,out,K1,ρ,h,h1,h2,h3,h4⟩
theorem lent_step'{L:List Nat}{as as0:List AV}{K K0 K1:Heap}{next pan:Next}(ρ:List (Nat×Nat))(h:B f as0 K0 out K1)(h1:AV.ren.go ρ as0=as)(h2:Heap.sub ρ K K0)(h3:bV ρ K0 K1 out.av env K L=true)
  (h4:outGo ρ K1 K next pan out) :
  ∃(as0:List AV) (K0:Heap) (out:gG) (K1:Heap) (ρ:List (Nat×Nat)),B f as0 K0 out K1/\AV.ren.go ρ as0=as/\Heap.sub ρ K K0/\bV ρ K0 K1 out.av env K L=true /\
  outGo ρ K1 K next pan out:=⟨as0,K0,out,K1,ρ,h,h1,h2,h3,h4⟩
theorem fin_step'{K0 K K1:Heap}{x y:AV}(τ:List (Nat×Nat))(h1:Y4 τ K0 K1 y=true)(h2:OU K (aO τ (keys K1)) τ 100 x y)(h3:zcm K (aO τ (keys K1)) τ K1):∃τ,Y4 τ K0 K1 y=true/\OU K (aO τ (keys K1)) τ 100 x y/\zcm K (aO τ (keys K1)) τ K1:=⟨τ,h1,h2,h3⟩
theorem gZ{τ:List (Nat×Nat)}(h:id=rn τ id')(h0:sz=sz')(h1:es=es'):AV.gs id sz es=AV.ren τ (AV.gs id' sz' es'):=by
 grind[AV.ren]
theorem bP{τ:List (Nat×Nat)}{x y:AV}(h:x=AV.ren τ y):x=AV.ren τ y:=h
theorem eQ(hq:q)(h:chk T ops env K tr=true:=by kernel_rfl):QZ T ops env K tr/\q:=VD h hq
theorem oK{cs:List D}{t:TI}(h:q)(h1:cs.length=t.size:=by exact rfl):cs.length=t.size/\q:=⟨h1,h⟩
theorem wP{a b c n m x y w:Nat}(hx:x<=1073741824)(hy:y<=1073741824)(h:q)(h1:a=b:=by exact rfl)(h2:b=c:=by exact rfl)(h3:n=m:=by exact rfl)(hb:Nat.ble w 65536=true:=by exact rfl):(a=b/\b=c/\n=m)/\(x+y) * w<=140737488355328/\q:=app_step' h1 h2 h3 hb hx hy h
theorem Zu{τ:List (Nat×Nat)}(h1:es=es')(h:id=rn τ id':=by exact rfl)(h0:sz=sz':=by exact rfl):AV.gs id sz es=AV.ren τ (AV.gs id' sz' es'):=gZ h h0 h1
theorem eU{α:Type}{l:List α}{i k:Nat}{p q:Prop}(h:l.drop i = [])(hk:l.length=k)(hq:q):BrI (decide ((i:Int)<(k:Int))) p q:=by
 have:=z7s h
 grind[BrI.ff]
theorem dM{α:Type}{l:List α}{i k:Nat}{x:α}{r:List α}{p q:Prop}(h:l.drop i=x::r)(hk:l.length=k)(hp:p):BrI (decide ((i:Int)<(k:Int))) p q:=by
 have:=oJ h
 grind[BrI.tt]
theorem xH{α β:Type}{l:List α}{f:α->β}{c:Bool}{p q:Prop}(h:l.drop i = [])(hq:q):BrI (bif decide ((i:Int)<((l.map f).length:Int))then c else false) p q:=by
 grind[Jd,BrI.ff]
theorem ug{α β:Type}{l:List α}{f:α->β}{x:α}{r:List α}{c:Bool}{p q:Prop}(h:l.drop i=x::r)(hp:BrI c p q):BrI (bif decide ((i:Int)<((l.map f).length:Int))then c else false) p q:=by
 grind[ED]
theorem VF{α β:Type}{l:List α}{f:α->β}{x:α}(h:l[i]? = some x):0<=(i:Int)/\(l.map f)[(i:Int).toNat]? = some (f x):=⟨by omega,by simp[h]⟩
theorem z7t{x:UInt8}{r:List UInt8}(h:l.drop i=x::r):0<=(i:Int)/\l[(i:Int).toNat]? = some x:=⟨by omega,by simp[vN h]⟩
theorem Zv{n:Int}(h0:0<=n)(h:n<l.length):0<=n/\l[n.toNat]? = some (l.getD n.toNat 0):=by
 simp_all
theorem Ex.css_map(l:List Ex):l.map Ex.cs=Ex.css l:=(Ex.css_eq l).symm
theorem VG{α β:Type}{l:List α}{m:List β}{x:α×β}{r:List (α×β)}(h:(l.zip m).drop i=x::r):l[i]? = some x.1/\m[i]? = some x.2:=by
 have:=vN h
 grind
theorem jI{α β γ:Type}{l:List α}{m:List β}{f:α->γ}{x:α×β}{r:List (α×β)}(h:(l.zip m).drop i=x::r):0<=(i:Int)/\(l.map f)[(i:Int).toNat]? = some (f x.1):=VF (VG h).1
theorem jJ{α β γ:Type}{l:List α}{m:List β}{f:β->γ}{x:α×β}{r:List (α×β)}(h:(l.zip m).drop i=x::r):0<=(i:Int)/\(m.map f)[(i:Int).toNat]? = some (f x.2):=VF (VG h).2
theorem jh{α β:Type}{l:List α}{m:List β}(h:l.length=m.length):(l.zip m).length=l.length:=by simp[h]
theorem VH{x:UInt8}{r:List UInt8}{q:UInt8->Prop}(h:l.drop i=x::r)(h4:q x):∃c,(0<=(i:Int)/\l[(i:Int).toNat]? = some c)/\q c:=⟨x,z7t h,h4⟩
theorem Gj{n:Int}{q:UInt8->Prop}(h0:0<=n)(h:n<l.length)(h4:q (l.getD n.toNat 0)):∃c,(0<=n/\l[n.toNat]? = some c)/\q c:=⟨_,Zv h0 h,h4⟩
theorem bY{s s' id:Nat}{es:List (List D)}{e:Env}(h1:s=s')(h2:es = [])(h3:K.get id=none)(h4:bI id=false)(h5:fU id e=false)(h6:pK id K=false):s=s'/\es = []/\K.get id=none/\bI id=false/\fU id e=false/\pK id K=false:=⟨h1,h2,h3,h4,h5,h6⟩
theorem di{b:Block}{id:Nat}{e:Env}(h3:b.isTok0=true)(h4:bI id=false)(h5:fU id e=false)(h6:pK id K=false):b.isTok0=true/\bI id=false/\fU id e=false/\pK id K=false:=⟨h3,h4,h5,h6⟩
theorem zx{a b:Bool}(h1:a=true)(h2:b=true)(h:q):(a=true/\b=true)/\q:=⟨⟨h1,h2⟩,h⟩
def lF(t:TypeId)(b:Bool)(e:Int):lY:=match b with |true=>.ret (.tuple []) |false=>.pan (.iface t (.i e))
theorem aU{A M:lY->Prop}{V:Prop}{b:Bool}{e:Int}(hA:A (lF t b e))(h1:b=true->M (.ret (.tuple [])))(h2:b=false->M (.pan (.iface t (.i e)))):(∃out,A out/\M out)\/V:=by
 refine .inl ⟨_,hA,?_⟩
 cases b
 ·exact h2 rfl
 ·exact h1 rfl
theorem mf{K0 K K1:Heap}{b:Bool}{e:Int}(hb:b=true)(h:finR T rs K0 (.ret (.data (.tuple []))) K1 env K):finR T rs K0 (lF t b e).toA K1 env K\/q:=by
 subst hb;exact .inl h
theorem mg{K0 K K1:Heap}{x:AV}{b:Bool}{e:Int}(hb:b=false)(h:fin K0 K x (.data (.iface t (.i e))) K1):Dc K0 K x K1 (lF t b e).toA:=by
 subst hb;unfold Dc;exact h
theorem zy{K0 K K1:Heap}{x:AV}{d:D}(h:fin K0 K x (.data d) K1):Dc K0 K x K1 (lY.pan d).toA:=by
 unfold Dc;exact h
theorem dB{K0 K K1:Heap}{x y:AV}(h:fin K0 K x y K1):Dc K0 K x K1 (.pan y):=by
 grind[Dc]
theorem qx{Df:FuncId->List AV->Option D->Bool->Heap->Heap->Prop}{az:List AV}{d y:D}{K0:Heap}{K K1:Heap}(h:YE Df f az (some d) false env K λK=>finR T rs K0 (.ret (.data y)) K1 env K):Eh T Df f az d rs K0 env K K1 (lY.ret y).toA:=Eh.ret h
end Go.Fw
namespace Go.Fw
variable [ae]
theorem yF{a b v v' len:Nat}{k:Bool}{n:Int}{q:Prop}(h1:k=true)(h2:a=b)(h3:v=v')(h4:0<=n/\n<len)(h:q):(k=true/\a=b/\v=v')/\(0<=n/\n<len)/\q:=⟨⟨h1,h2,h3⟩,h4,h⟩
theorem Gl{v v' s s' off i:Nat}{es:List (List D)}{q:D->Prop}(h1:v=v')(h2:s=s')(e:List D)(c:D)(h3:es[i]? = some e)(h4:e[off]? = some c)(h:q c):(v=v'/\s=s')/\∃e,es[i]? = some e/\∃c,e[off]? = some c/\q c:=⟨⟨h1,h2⟩,e,h3,c,h4,h⟩
theorem sH{k sc:Bool}{v v' s s' l m off i:Nat}{es:List (List D)}{q:List D->Prop}(h1:k=true)(h2:v=v')(h3:s=s')(h4:l=m)(h5:off+l<=s')(h6:sc=true)(e:List D)(h7:es[i]? = some e)(h:q e) :
  k=true/\(v=v'/\s=s')/\l=m/\off+l<=s'/\sc=true/\∃e,es[i]? = some e/\q e:=⟨h1,⟨h2,h3⟩,h4,h5,h6,e,h7,h⟩
theorem yG{v v' s s' t n m x w:Nat}{q:Prop}(h1:v=v')(h2:s=s')(h3:s=t)(h4:n<=m)(hb:Nat.ble w 65536=true)(hx:n<=1073741824)(hy:x<=1073741824)(h:q):((v=v'/\s'=s)/\s=t/\n<=m)/\(n+x) * w<=140737488355328/\q:=
 ⟨⟨⟨h1,h2.symm⟩,h3,h4⟩,iD hx hy hb,h⟩
theorem z7u{n m:Int}{c:Nat}{q:Prop}(h1:0<=n)(h2:n<=m)(hb:Nat.ble c 65536=true)(h3:m<=1073741824)(h:q):(0<=n/\n<=m/\m * (c:Int)<=140737488355328)/\q:=by
 refine⟨⟨h1,h2,?_⟩,h⟩
 have hb:=Nat.le_of_ble_eq_true hb
 have:m * (c:Int)<=1073741824 * 65536:=Int.mul_le_mul h3 (by omega) (by omega) (by omega)
 omega
abbrev lG{β:Type}(ev:β->Env)(hv:β->Heap)(keep:List Nat)(I:β->Prop)(μ:β->Nat):Loop where
 S:=β
 ev:=ev
 hv:=hv
 keep:=keep
 I:=I
 μ:=μ
theorem eH{β:Type}{ev:β->Env}{hv:β->Heap}{keep:List Nat}{I:β->Prop}{μ:β->Nat}{E F:β->Prop}(b:β)(hW:E b)(hI:I b)(h:∀b,I b->F b) :
  (∃s,(lG ev hv keep I μ).I s/\E s)/\∀s,(lG ev hv keep I μ).I s->F s:=⟨⟨b,hI,hW⟩,h⟩
theorem dm{β:Type}{ev:β->Env}{hv:β->Heap}{keep:List Nat}{I:β->Prop}{μ:β->Nat}{E:β->Prop}{b0:β}(b:β)(hW:E b)(hI:I b)(hm:μ b<μ b0) :
  ∃s,(lG ev hv keep I μ).I s/\(lG ev hv keep I μ).μ s<(lG ev hv keep I μ).μ b0/\E s:=⟨b,hI,hm,hW⟩
theorem Pm{n:Nat}(h:n<=9223372036854775806):AV.data (.val (.int .i64 (IntKind.i64.wrap ((n:Int)+1))))=AV.data (.val (.int .i64 ((n+1:Nat):Int))):=by
 grind[bM]
theorem VI{n k:Nat}(h:n+k<=9223372036854775807):IntKind.i64.wrap ((n:Int)+(k:Int))=((n+k:Nat):Int):=zu h
theorem zds{p:UInt8->Bool}{s:List UInt8}{n:Nat}(h:s.length<=n):(s.drop n).takeWhile p = []:=by rw[List.drop_eq_nil_of_le h];rfl
theorem drop_cons{s:List UInt8}{n:Nat}(h:n<s.length):s.drop n=s.getD n 0::s.drop (n+1):=by
 simp_all
theorem zhx{p:UInt8->Bool}{s:List UInt8}{n:Nat}(h:n<s.length)(hp:p (s.getD n 0)=false):(s.drop n).takeWhile p = []:=by
 grind[drop_cons,List.takeWhile_cons_of_neg]
theorem zdt{p:UInt8->Bool}{s:List UInt8}{n:Nat}(h:n<s.length)(hp:p (s.getD n 0)=true):(s.drop n).takeWhile p=s.getD n 0::(s.drop (n+1)).takeWhile p:=by
 rw[drop_cons h,List.takeWhile_cons_of_pos hp]
structure zdu(p:UInt8->Bool)(s:List UInt8)(a n:Nat):Prop where
 le:a<=n
 end_:n<=s.length
 eq:((s.drop a).takeWhile p).length+a=((s.drop n).takeWhile p).length+n
variable {p : UInt8 → Bool} {s : List UInt8} {a n : Nat}
theorem zdv:∀l:List UInt8,(l.takeWhile p).length<=l.length
 | []=>Nat.le_refl _
 |c::r=>by
  simp[List.takeWhile_cons];split
  ·simpa using zdv r
  ·simp
theorem SC{a:Nat}(h:a<=s.length):zdu p s a a:=⟨Nat.le_refl _,h,rfl⟩
theorem VJ(h:zdu p s a n)(hl:n<s.length)(hp:p (s.getD n 0)=true):zdu p s a (n+1):=by
 refine⟨by have:=h.le;omega,hl,?_⟩
 have:=h.eq
 grind[zdt]
theorem VK:∀l:List UInt8,l.take (l.takeWhile p).length=l.takeWhile p
 | []=>rfl
 |c::r=>by
  simp[List.takeWhile_cons];split
  ·simp[VK r]
  ·simp
theorem Zw(h:zdu p s a n)(he:s.length<=n\/(n<s.length/\p (s.getD n 0)=false)):n=a+((s.drop a).takeWhile p).length:=by
 have h0:=h.eq
 grind[zds,zhx]
theorem Zx(h:n=a+((s.drop a).takeWhile p).length):(s.take n).drop a=(s.drop a).takeWhile p:=by
 grind[VK]
theorem uh{a:Nat}(h:a<=s.length):a+((s.drop a).takeWhile p).length<=s.length:=by
 grind[zdv]
theorem dU{A M:lY->Prop}(out:lY)(h:A out)(h2:M out):∃out,A out/\M out:=⟨out,h,h2⟩
theorem dE{d:D}{q:Prop}(h1:D.flat d=true)(h2:q):D.flat d=true/\q:=⟨h1,h2⟩
end Go.Fw
