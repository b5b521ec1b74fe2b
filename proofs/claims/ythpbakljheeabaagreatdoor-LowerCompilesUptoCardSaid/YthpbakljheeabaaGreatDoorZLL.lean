/- Loops over lists: the annotations and the lemmas of their walks. -/
import Derived.Test.YthpbakljheeabaaGreatDoorZDA
set_option linter.unusedSectionVars false
set_option linter.unusedSimpArgs false
set_option linter.unusedVariables false
namespace Go.Fw
variable [ah] {i : Nat} {p q : Prop} {env : Env} {T : Tbl} {K0 K K1 : Heap} {tr : List Rec} {B : FuncId → List AV → Heap → jV → Heap → Prop} {l : List UInt8} {es es' : List (List D)} {t : TypeId} {ops : Array Oper} {out : jV} {a b : Nat}
theorem BrI.tt(h:p):BrI true p q:=BrI.intro (λ_=>h) (λe=>by simp at e)
theorem BrI.ff(h:q):BrI false p q:=BrI.intro (λe=>by simp at e) (λ_=>h)
theorem kQ{α:Type}{l:List α}{x:α}{r:List α}(h:l.drop i=x::r):i<l.length:=by
 rcases Nat.lt_or_ge i l.length with h1 |h1
 ·exact h1
 ·rw[List.drop_eq_nil_of_le h1]at h;simp at h
abbrev aF{α β:Type}(l:List α)(slot:Nat)(ev:β->Env)(hv:β->Heap)(keep:List Nat)(I:Nat->List α->β->Prop):Loop where
 S:=Nat×List α×β
 ev s:=match s with |(i,_,b)=>(slot,.data (.val (.int .i64 (i:Int))))::ev b
 hv s:=match s with |(_,_,b)=>hv b
 keep:=keep
 I s:=match s with |(i,r,b)=>l.drop i=r/\I i r b
 μ s:=match s with |(_,r,_)=>r.length
theorem af{α β:Type}{l:List α}{slot:Nat}{ev:β->Env}{hv:β->Heap}{keep:List Nat}{I:Nat->List α->β->Prop}{E F:Nat×List α×β->Prop}(b:β)
  (hW:E (0,l,b)) (hI:I 0 l b) (h0:∀i b,l.drop i = []->I i [] b->F (i,[],b)) (h1:∀i x r b,l.drop i=x::r->i<l.length->I i (x::r) b->F (i,x::r,b)) :
  (∃s,(aF l slot ev hv keep I).I s/\E s)/\∀s,(aF l slot ev hv keep I).I s->F s:=by
 refine⟨⟨(0,l,b),⟨rfl,hI⟩,hW⟩,?_⟩
 rintro⟨i,r,b⟩ ⟨hd,h⟩
 cases r with
 |nil=>exact h0 i b hd h
 |cons x r=>exact h1 i x r b hd (kQ hd) h
theorem zB{α:Type}{l:List α}{x:α}{r:List α}(h:l.drop i=x::r):l.drop (i+1)=r:=by
 have h1:=kQ h
 rw[List.drop_eq_getElem_cons h1]at h
 exact(List.cons.inj h).2
theorem nK{α:Type}{l:List α}{x:α}{r:List α}(h:l.drop i=x::r):l[i]? = some x:=by
 have h1:=kQ h
 rw[List.drop_eq_getElem_cons h1]at h
 rw[List.getElem?_eq_getElem h1,(List.cons.inj h).1]
theorem bn{α:Type}{l:List α}{x:α}{r:List α}(h:l.drop i=x::r):x∈l:=List.mem_of_getElem? (nK h)
theorem Ru{α:Type}{l:List α}(h:l.drop i = []):l.length<=i:=by simpa using h
theorem Gl{α β:Type}{l:List α}{f:α->β}(h:l.drop i = []):decide ((i:Int)<((l.map f).length:Int))=false:=by
 have:=Ru h
 simp;omega
theorem BV{α β:Type}{l:List α}{f:α->β}{x:α}{r:List α}(h:l.drop i=x::r):decide ((i:Int)<((l.map f).length:Int))=true:=by
 have:=kQ h
 simp;omega
theorem bu{α β:Type}{l:List α}{f:α->β}(h:l.drop i = [])(hq:q):BrI (decide ((i:Int)<((l.map f).length:Int))) p q:=by
 rw[Gl h];exact BrI.ff hq
theorem aN{α β:Type}{l:List α}{f:α->β}{x:α}{r:List α}(h:l.drop i=x::r)(hp:p):BrI (decide ((i:Int)<((l.map f).length:Int))) p q:=by
 rw[BV h];exact BrI.tt hp
theorem ax{α β:Type}{l:List α}{f:α->β}{x:α}{r:List α}(h:l.drop i=x::r):0<=(i:Int)/\(l.map f)[(i:Int).toNat]? = some (f x):=
 ⟨by omega,by simp[nK h]⟩
theorem aj{α:Type}{l:List α}{x:α}{r:List α}(h:l.drop i=x::r)(hl:l.length<=9223372036854775807):AV.data (.val (.int .i64 (IntKind.i64.wrap ((i:Int)+1))))=AV.data (.val (.int .i64 ((i+1:Nat):Int))):=by
 have:=kQ h
 rw[bJ (by omega) (by omega)];rfl
theorem ag{α β:Type}{l:List α}{slot:Nat}{ev:β->Env}{hv:β->Heap}{keep:List Nat}{I:Nat->List α->β->Prop}{E:Nat×List α×β->Prop}{x:α}{r:List α}{b0:β}(hd:l.drop i=x::r)(b:β)
  (hW:E (i+1,r,b)) (hI:I (i+1) r b) :
  ∃s,(aF l slot ev hv keep I).I s/\(aF l slot ev hv keep I).μ s<(aF l slot ev hv keep I).μ (i,x::r,b0)/\E s:=
 ⟨(i+1,r,b),⟨zB hd,hI⟩,Nat.lt_succ_self _,hW⟩
theorem ak{K:Heap}{q:Prop}(h:chk T ops env K tr=true)(hq:q):chkP T ops env K tr/\q:=⟨⟨[],by rw[yU];exact h,trivial⟩,hq⟩
theorem kR{K:Heap}{kp:Nat}{q:Prop}(h:chk T ops env K tr=true)(hq:q):KL T ops env K tr kp/\q:=⟨⟨[],rfl,by rw[yU];exact h,trivial⟩,hq⟩
theorem LX{K:Heap}{q:Prop}(l:List (Nat×Nat))(h:chk T ops env K (oG l 0 tr)=true)(h2:xq T K tr l)(hq:q):chkP T ops env K tr/\q:=⟨⟨l,h,h2⟩,hq⟩
theorem zC{K:Heap}:xq T K tr []:=trivial
theorem zD{o:Oper}{id:Nat}{c:AV}:cellW T env o id c []:=trivial
theorem vU{K:Heap}{q:Nat×Nat}{l:List (Nat×Nat)}(h:wS T K tr q)(h2:xq T K tr l):xq T K tr (q::l):=⟨h,h2⟩
theorem DV{K:Heap}{q id:Nat}{y:Rec}{a:Operand}{off:Nat}{cs:List AV}{c:AV}(h:tr[q]? = some y)(hop:y.o.op = .load t a)(h1:T.sh t=some false)(h2:ev T y.env 0 a = .ptr id off)(h3:K.get id=some (.cells cs))(h3':cs[off]? = some c)(h4:cellW T y.env y.o id c tr):wS T K tr (q,id):=by
 unfold wS
 simp only[h]
 intro _
 refine⟨c,?_,h4⟩
 rw[h3]
 simp only[cellP,readA,hop,jo,h2,yX,if_true,h1,h3']
theorem vV{o:Oper}{id:Nat}{c:AV}{x:Rec}{r:List Rec}(h1:match lh (x.ws T) id with |true=>cellP T env o id c (x.K.get id) |false=>True)(h2:cellW T env o id c r):cellW T env o id c (x::r):=⟨h1,h2⟩
theorem jB{l:List Ex}(h:l.drop i = [])(hq:q):BrI (decide ((i:Int)<((Ex.css l).length:Int))) p q:=by
 rw[Ex.css_eq];exact bu h hq
theorem fV{l:List Ex}{x:Ex}{r:List Ex}(h:l.drop i=x::r)(hp:p):BrI (decide ((i:Int)<((Ex.css l).length:Int))) p q:=by
 rw[Ex.css_eq];exact aN h hp
theorem dS{l:List Ex}{x:Ex}{r:List Ex}(h:l.drop i=x::r):0<=(i:Int)/\(Ex.css l)[(i:Int).toNat]? = some (Ex.cs x):=by
 rw[Ex.css_eq];exact ax h
theorem Ex.css_len(l:List Ex):(Ex.css l).length=l.length:=by rw[Ex.css_eq];simp
theorem csimp:(∀c f:Bool,cond c true f=(c || f))/\(∀c t:Bool,cond c t false=(c&&t))/\(∀c f:Bool,cond c false f=(!c&&f))/\(∀c t:Bool,cond c t true=(!c || t))/\(∀b:Bool,((!b)=true)=(b=false))/\(∀b:Bool,((!b)=false)=(b=true)) /\
  (∀(α:Type) (_:BEq α) (a b:α),(a != b) = !(a==b))/\(∀l:List Ex,(Ex.css l).length=l.length)/\(∀(α β:Type) (f:α->β) (l:List α),(l.map f).length=l.length)/\(0:Int).toNat=0:=
 ⟨Bool.cond_true_left,Bool.cond_false_right,Bool.cond_false_left,Bool.cond_true_right,λb=>by cases b<;>simp,λb=>by cases b<;>simp,λ_ _ _ _=>rfl,Ex.css_len,λ_ _ _ _=>List.length_map _,rfl⟩
theorem uj(h:a+b<=9223372036854775807):IntKind.i64.wrap ((a:Int)+(b:Int))=((a+b:Nat):Int):=by
 rw[bJ (by omega) (by omega)];omega
theorem ay{k:Bool}{n:Int}{es:List (List D)}{q:List D->Prop}(h1:k=true)(h2:a=b)(c:List D)(h3:0<=n/\es[n.toNat]? = some c)(h4:q c):(k=true/\a=b)/\∃c,(0<=n/\es[n.toNat]? = some c)/\q c:=⟨⟨h1,h2⟩,c,h3,h4⟩
theorem aK{cs:List D}{t:TI}{q:Prop}(h1:cs.length=t.size)(h:q):cs.length=t.size/\q:=⟨h1,h⟩
theorem bD{p g:Bool}{A B:AV->Prop}(h1:p=true)(v:AV)(h2:g=true->A v)(h3:B v):p=true/\∃v,(g=true->A v)/\B v:=⟨h1,v,h2,h3⟩
theorem dK{a v:AV}{b c:Heap}(h:a=v)(h2:b=c):a=v/\b=c:=⟨h,h2⟩
theorem fZ{b c:Heap}{q:Prop}(h:b=c)(h2:q):b=c/\q:=⟨h,h2⟩
theorem ai{A M:mD->Prop}{V:Prop}(out:mD)(h:A out)(h2:M out):(∃out,A out/\M out)\/V:=.inl ⟨out,h,h2⟩
theorem aI{rs:List ResultVar}{q:Prop}(h:FP T rs K0 out K1 env K):FP T rs K0 out K1 env K\/q:=.inl h
theorem rP{id id' sz sz':Nat}(h0:id=id')(h:sz=sz')(h2:es=es'):AV.gs id sz es=AV.gs id' sz' es':=by rw[h0,h,h2]
theorem jl{sz sz':Nat}(h:sz=sz')(h2:es=es'):Block.tok sz es.length=Block.tok sz' es'.length:=by rw[h,h2]
theorem fK{α:Type}{l:List α}{f:α->List D}{x:α}:l.map f++[f x]=(l++[x]).map f:=by simp
theorem DW{α:Type}{l m:List α}{f:α->List D}:l.map f++m.map f=(l++m).map f:=by simp
theorem gZ{a y b:Nat}(h1:a<=1073741824)(h2:y<=1073741824)(h3:Nat.ble b 65536=true):(a+y) * b<=140737488355328:=
 Nat.le_trans (Nat.mul_le_mul (show a+y<=2147483648 by omega) (Nat.le_of_ble_eq_true h3)) (by decide)
theorem jm(h:Nat.ble a b=true):a<=b:=Nat.le_of_ble_eq_true h
theorem app_step'{a b c n m x y w:Nat}{q:Prop}(h1:a=b)(h2:b=c)(h3:n=m)(hb:Nat.ble w 65536=true)(hx:x<=1073741824)(hy:y<=1073741824)(h:q):(a=b/\b=c/\n=m)/\(x+y) * w<=140737488355328/\q:=⟨⟨h1,h2,h3⟩,gZ hx hy hb,h⟩
theorem gm{L:List Nat}{f:FuncId}{as as0:List AV}{K K0 K1:Heap}{next pan:Next}{Z:Prop}(ρ:List (Nat×Nat))(h:B f as0 K0 out K1)(h1:AV.ren.go ρ as0=as)(h2:Heap.sub ρ K K0)(h3:fQ ρ K0 K1 out.av env K L=true)
  (h4:outGo ρ K1 K next pan out):Z\/Dj B L f as env K next pan:=.inr ⟨as0,K0,out,K1,ρ,h,h1,h2,h3,h4⟩
theorem lent_step'{L:List Nat}{f:FuncId}{as as0:List AV}{K K0 K1:Heap}{next pan:Next}(ρ:List (Nat×Nat))(h:B f as0 K0 out K1)(h1:AV.ren.go ρ as0=as)(h2:Heap.sub ρ K K0)(h3:fQ ρ K0 K1 out.av env K L=true)
  (h4:outGo ρ K1 K next pan out) :
  ∃(as0:List AV) (K0:Heap) (out:jV) (K1:Heap) (ρ:List (Nat×Nat)),B f as0 K0 out K1/\AV.ren.go ρ as0=as/\Heap.sub ρ K K0/\fQ ρ K0 K1 out.av env K L=true /\
  outGo ρ K1 K next pan out:=⟨as0,K0,out,K1,ρ,h,h1,h2,h3,h4⟩
theorem fin_step'{x y:AV}(τ:List (Nat×Nat))(h1:VD τ K0 K1 y=true)(h2:Lp K (aS τ (keys K1)) τ 100 x y)(h3:z2x K (aS τ (keys K1)) τ K1):∃τ,VD τ K0 K1 y=true/\Lp K (aS τ (keys K1)) τ 100 x y/\z2x K (aS τ (keys K1)) τ K1:=⟨τ,h1,h2,h3⟩
theorem gp{τ:List (Nat×Nat)}{id id' sz sz':Nat}(h:id=rn τ id')(h0:sz=sz')(h1:es=es'):AV.gs id sz es=AV.ren τ (AV.gs id' sz' es'):=by
 subst h h0 h1;simp only[AV.ren]
theorem bF{τ:List (Nat×Nat)}{x y:AV}(h:x=AV.ren τ y):x=AV.ren τ y:=h
theorem dF{α:Type}{l:List α}{i k:Nat}(h:l.drop i = [])(hk:l.length=k)(hq:q):BrI (decide ((i:Int)<(k:Int))) p q:=by
 have:=Ru h
 rw[show decide ((i:Int)<(k:Int))=false by simp;omega];exact BrI.ff hq
theorem bV{α:Type}{l:List α}{i k:Nat}{x:α}{r:List α}(h:l.drop i=x::r)(hk:l.length=k)(hp:p):BrI (decide ((i:Int)<(k:Int))) p q:=by
 have:=kQ h
 rw[show decide ((i:Int)<(k:Int))=true by simp;omega];exact BrI.tt hp
theorem BX{α β:Type}{l:List α}{f:α->β}{c:Bool}(h:l.drop i = [])(hq:q):BrI (bif decide ((i:Int)<((l.map f).length:Int))then c else false) p q:=by
 rw[Gl h];exact BrI.ff hq
theorem zF{α β:Type}{l:List α}{f:α->β}{x:α}{r:List α}{c:Bool}(h:l.drop i=x::r)(hp:BrI c p q):BrI (bif decide ((i:Int)<((l.map f).length:Int))then c else false) p q:=by
 rw[BV h];exact hp
theorem Rw{α β:Type}{l:List α}{f:α->β}{x:α}(h:l[i]? = some x):0<=(i:Int)/\(l.map f)[(i:Int).toNat]? = some (f x):=⟨by omega,by simp[h]⟩
theorem ZL{x:UInt8}{r:List UInt8}(h:l.drop i=x::r):0<=(i:Int)/\l[(i:Int).toNat]? = some x:=⟨by omega,by simp[nK h]⟩
theorem V6{n:Int}(h0:0<=n)(h:n<l.length):0<=n/\l[n.toNat]? = some (l.getD n.toNat 0):=by
 refine⟨h0,?_⟩
 have:n.toNat<l.length:=by omega
 rw[List.getD_eq_getElem?_getD,List.getElem?_eq_getElem this];rfl
theorem Ex.css_map(l:List Ex):l.map Ex.cs=Ex.css l:=(Ex.css_eq l).symm
theorem Rx{α β:Type}{l:List α}{m:List β}{x:α×β}{r:List (α×β)}(h:(l.zip m).drop i=x::r):l[i]? = some x.1/\m[i]? = some x.2:=by
 have:=nK h
 rw[List.getElem?_zip_eq_some]at this
 exact this
theorem ig{α β γ:Type}{l:List α}{m:List β}{f:α->γ}{x:α×β}{r:List (α×β)}(h:(l.zip m).drop i=x::r):0<=(i:Int)/\(l.map f)[(i:Int).toNat]? = some (f x.1):=Rw (Rx h).1
theorem ik{α β γ:Type}{l:List α}{m:List β}{f:β->γ}{x:α×β}{r:List (α×β)}(h:(l.zip m).drop i=x::r):0<=(i:Int)/\(m.map f)[(i:Int).toNat]? = some (f x.2):=Rw (Rx h).2
theorem dR{α β:Type}{l:List α}{m:List β}(h:l.length=m.length):(l.zip m).length=l.length:=by simp[h]
theorem ZM{x:UInt8}{r:List UInt8}{q:UInt8->Prop}(h:l.drop i=x::r)(h4:q x):∃c,(0<=(i:Int)/\l[(i:Int).toNat]? = some c)/\q c:=⟨x,ZL h,h4⟩
theorem V7{n:Int}{q:UInt8->Prop}(h0:0<=n)(h:n<l.length)(h4:q (l.getD n.toNat 0)):∃c,(0<=n/\l[n.toNat]? = some c)/\q c:=⟨_,V6 h0 h,h4⟩
theorem eH{s s' id:Nat}{es:List (List D)}{e:Env}{K:Heap}(h1:s=s')(h2:es = [])(h3:K.get id=none)(h4:bK id=false)(h5:eQ id e=false)(h6:oq id K=false):s=s'/\es = []/\K.get id=none/\bK id=false/\eQ id e=false/\oq id K=false:=⟨h1,h2,h3,h4,h5,h6⟩
theorem fE{b:Block}{id:Nat}{e:Env}{K:Heap}(h3:b.isTok0=true)(h4:bK id=false)(h5:eQ id e=false)(h6:oq id K=false):b.isTok0=true/\bK id=false/\eQ id e=false/\oq id K=false:=⟨h3,h4,h5,h6⟩
theorem pW{a b:Bool}{q:Prop}(h1:a=true)(h2:b=true)(h:q):(a=true/\b=true)/\q:=⟨⟨h1,h2⟩,h⟩
def kS(t:TypeId)(b:Bool)(e:Int):mD:=match b with |true=>.ret (.tuple []) |false=>.pan (.iface t (.i e))
theorem aP{A M:mD->Prop}{V:Prop}{b:Bool}{e:Int}(hA:A (kS t b e))(h1:b=true->M (.ret (.tuple [])))(h2:b=false->M (.pan (.iface t (.i e)))):(∃out,A out/\M out)\/V:=by
 refine .inl ⟨_,hA,?_⟩
 cases b
 ·exact h2 rfl
 ·exact h1 rfl
theorem lD{rs:List ResultVar}{q:Prop}{b:Bool}{e:Int}(hb:b=true)(h:FP T rs K0 (.ret (.data (.tuple []))) K1 env K):FP T rs K0 (kS t b e).toA K1 env K\/q:=by
 subst hb;exact .inl h
theorem lF{x:AV}{b:Bool}{e:Int}(hb:b=false)(h:fin K0 K x (.data (.iface t (.i e))) K1):Vb K0 K x K1 (kS t b e).toA:=by
 subst hb;unfold Vb;exact h
theorem xQ{x:AV}{d:D}(h:fin K0 K x (.data d) K1):Vb K0 K x K1 (mD.pan d).toA:=by
 unfold Vb;exact h
theorem jc{x y:AV}(h:fin K0 K x y K1):Vb K0 K x K1 (.pan y):=by
 unfold Vb;exact h
end Go.Fw
namespace Go.Fw
variable [ah]
theorem lG{a b v v' len:Nat}{k:Bool}{n:Int}{q:Prop}(h1:k=true)(h2:a=b)(h3:v=v')(h4:0<=n/\n<len)(h:q):(k=true/\a=b/\v=v')/\(0<=n/\n<len)/\q:=⟨⟨h1,h2,h3⟩,h4,h⟩
theorem kC{v v' s s' off i:Nat}{es:List (List D)}{q:D->Prop}(h1:v=v')(h2:s=s')(e:List D)(c:D)(h3:es[i]? = some e)(h4:e[off]? = some c)(h:q c):(v=v'/\s=s')/\∃e,es[i]? = some e/\∃c,e[off]? = some c/\q c:=⟨⟨h1,h2⟩,e,h3,c,h4,h⟩
theorem jC{k sc:Bool}{v v' s s' l m off i:Nat}{es:List (List D)}{q:List D->Prop}(h1:k=true)(h2:v=v')(h3:s=s')(h4:l=m)(h5:off+l<=s')(h6:sc=true)(e:List D)(h7:es[i]? = some e)(h:q e) :
  k=true/\(v=v'/\s=s')/\l=m/\off+l<=s'/\sc=true/\∃e,es[i]? = some e/\q e:=⟨h1,⟨h2,h3⟩,h4,h5,h6,e,h7,h⟩
theorem wZ{v v' s s' t n m x w:Nat}{q:Prop}(h1:v=v')(h2:s=s')(h3:s=t)(h4:n<=m)(hb:Nat.ble w 65536=true)(hx:n<=1073741824)(hy:x<=1073741824)(h:q):((v=v'/\s'=s)/\s=t/\n<=m)/\(n+x) * w<=140737488355328/\q:=
 ⟨⟨⟨h1,h2.symm⟩,h3,h4⟩,gZ hx hy hb,h⟩
theorem Js{n m:Int}{c:Nat}{q:Prop}(h1:0<=n)(h2:n<=m)(hb:Nat.ble c 65536=true)(h3:m<=1073741824)(h:q):(0<=n/\n<=m/\m * (c:Int)<=140737488355328)/\q:=by
 refine⟨⟨h1,h2,?_⟩,h⟩
 have hb:=Nat.le_of_ble_eq_true hb
 have:m * (c:Int)<=1073741824 * 65536:=Int.mul_le_mul h3 (by omega) (by omega) (by omega)
 omega
theorem Ry{A M:mD->Prop}(out:mD)(h:A out)(h2:M out):∃out,A out/\M out:=⟨out,h,h2⟩
theorem zG{d:D}{q:Prop}(h1:D.flat d=true)(h2:q):D.flat d=true/\q:=⟨h1,h2⟩
end Go.Fw
