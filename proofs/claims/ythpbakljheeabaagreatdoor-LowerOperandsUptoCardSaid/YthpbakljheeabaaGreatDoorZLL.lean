/- Loops over lists: the annotations and the lemmas of their walks. -/
import Derived.Test.YthpbakljheeabaaGreatDoorZDA
set_option linter.unusedSectionVars false
set_option linter.unusedSimpArgs false
set_option linter.unusedVariables false
namespace Go.Fw
variable [af] {i : Nat} {p q : Prop} {env : Env} {T : Tbl} {K0 K K1 : Heap} {tr : List Rec} {B : FuncId → List AV → Heap → jR → Heap → Prop} {l : List UInt8} {es es' : List (List D)} {t : TypeId} {ops : Array Oper} {out : jR} {a b : Nat}
theorem BrI.tt(h:p):BrI true p q:=BrI.intro (λ_=>h) (λe=>by simp at e)
theorem BrI.ff(h:q):BrI false p q:=BrI.intro (λe=>by simp at e) (λ_=>h)
theorem kE{α:Type}{l:List α}{x:α}{r:List α}(h:l.drop i=x::r):i<l.length:=by
 rcases Nat.lt_or_ge i l.length with h1 |h1
 ·exact h1
 ·rw[List.drop_eq_nil_of_le h1]at h;simp at h
abbrev aI{α β:Type}(l:List α)(slot:Nat)(ev:β->Env)(hv:β->Heap)(keep:List Nat)(I:Nat->List α->β->Prop):Loop where
 S:=Nat×List α×β
 ev s:=match s with |(i,_,b)=>(slot,.data (.val (.int .i64 (i:Int))))::ev b
 hv s:=match s with |(_,_,b)=>hv b
 keep:=keep
 I s:=match s with |(i,r,b)=>l.drop i=r/\I i r b
 μ s:=match s with |(_,r,_)=>r.length
theorem ag{α β:Type}{l:List α}{slot:Nat}{ev:β->Env}{hv:β->Heap}{keep:List Nat}{I:Nat->List α->β->Prop}{E F:Nat×List α×β->Prop}(b:β)
  (hW:E (0,l,b)) (hI:I 0 l b) (h0:∀i b,l.drop i = []->I i [] b->F (i,[],b)) (h1:∀i x r b,l.drop i=x::r->i<l.length->I i (x::r) b->F (i,x::r,b)) :
  (∃s,(aI l slot ev hv keep I).I s/\E s)/\∀s,(aI l slot ev hv keep I).I s->F s:=by
 refine⟨⟨(0,l,b),⟨rfl,hI⟩,hW⟩,?_⟩
 rintro⟨i,r,b⟩ ⟨hd,h⟩
 cases r with
 |nil=>exact h0 i b hd h
 |cons x r=>exact h1 i x r b hd (kE hd) h
theorem yY{α:Type}{l:List α}{x:α}{r:List α}(h:l.drop i=x::r):l.drop (i+1)=r:=by
 have h1:=kE h
 rw[List.drop_eq_getElem_cons h1]at h
 exact(List.cons.inj h).2
theorem o9{α:Type}{l:List α}{x:α}{r:List α}(h:l.drop i=x::r):l[i]? = some x:=by
 have h1:=kE h
 rw[List.drop_eq_getElem_cons h1]at h
 rw[List.getElem?_eq_getElem h1,(List.cons.inj h).1]
theorem bJ{α:Type}{l:List α}{x:α}{r:List α}(h:l.drop i=x::r):x∈l:=List.mem_of_getElem? (o9 h)
theorem QJ{α:Type}{l:List α}(h:l.drop i = []):l.length<=i:=by simpa using h
theorem FB{α β:Type}{l:List α}{f:α->β}(h:l.drop i = []):decide ((i:Int)<((l.map f).length:Int))=false:=by
 have:=QJ h
 simp;omega
theorem Bz{α β:Type}{l:List α}{f:α->β}{x:α}{r:List α}(h:l.drop i=x::r):decide ((i:Int)<((l.map f).length:Int))=true:=by
 have:=kE h
 simp;omega
theorem bi{α β:Type}{l:List α}{f:α->β}(h:l.drop i = [])(hq:q):BrI (decide ((i:Int)<((l.map f).length:Int))) p q:=by
 rw[FB h];exact BrI.ff hq
theorem aK{α β:Type}{l:List α}{f:α->β}{x:α}{r:List α}(h:l.drop i=x::r)(hp:p):BrI (decide ((i:Int)<((l.map f).length:Int))) p q:=by
 rw[Bz h];exact BrI.tt hp
theorem aC{α β:Type}{l:List α}{f:α->β}{x:α}{r:List α}(h:l.drop i=x::r):0<=(i:Int)/\(l.map f)[(i:Int).toNat]? = some (f x):=
 ⟨by omega,by simp[o9 h]⟩
theorem au{α:Type}{l:List α}{x:α}{r:List α}(h:l.drop i=x::r)(hl:l.length<=9223372036854775807):AV.data (.val (.int .i64 (IntKind.i64.wrap ((i:Int)+1))))=AV.data (.val (.int .i64 ((i+1:Nat):Int))):=by
 have:=kE h
 rw[bH (by omega) (by omega)];rfl
theorem ah{α β:Type}{l:List α}{slot:Nat}{ev:β->Env}{hv:β->Heap}{keep:List Nat}{I:Nat->List α->β->Prop}{E:Nat×List α×β->Prop}{x:α}{r:List α}{b0:β}(hd:l.drop i=x::r)(b:β)
  (hW:E (i+1,r,b)) (hI:I (i+1) r b) :
  ∃s,(aI l slot ev hv keep I).I s/\(aI l slot ev hv keep I).μ s<(aI l slot ev hv keep I).μ (i,x::r,b0)/\E s:=
 ⟨(i+1,r,b),⟨yY hd,hI⟩,Nat.lt_succ_self _,hW⟩
theorem ay{K:Heap}{q:Prop}(h:chk T ops env K tr=true)(hq:q):chkP T ops env K tr/\q:=⟨⟨[],by rw[yz];exact h,trivial⟩,hq⟩
theorem kF{K:Heap}{kp:Nat}{q:Prop}(h:chk T ops env K tr=true)(hq:q):JV T ops env K tr kp/\q:=⟨⟨[],rfl,by rw[yz];exact h,trivial⟩,hq⟩
theorem KU{K:Heap}{q:Prop}(l:List (Nat×Nat))(h:chk T ops env K (nP l 0 tr)=true)(h2:wF T K tr l)(hq:q):chkP T ops env K tr/\q:=⟨⟨l,h,h2⟩,hq⟩
theorem yZ{K:Heap}:wF T K tr []:=trivial
theorem y5{o:Oper}{id:Nat}{c:AV}:cellW T env o id c []:=trivial
theorem uY{K:Heap}{q:Nat×Nat}{l:List (Nat×Nat)}(h:vU T K tr q)(h2:wF T K tr l):wF T K tr (q::l):=⟨h,h2⟩
theorem Dj{K:Heap}{q id:Nat}{y:Rec}{a:Operand}{off:Nat}{cs:List AV}{c:AV}(h:tr[q]? = some y)(hop:y.o.op = .load t a)(h1:T.sh t=some false)(h2:ev T y.env 0 a = .ptr id off)(h3:K.get id=some (.cells cs))(h3':cs[off]? = some c)(h4:cellW T y.env y.o id c tr):vU T K tr (q,id):=by
 unfold vU
 simp only[h]
 intro _
 refine⟨c,?_,h4⟩
 rw[h3]
 simp only[cellP,readA,hop,jb,h2,yB,if_true,h1,h3']
theorem uZ{o:Oper}{id:Nat}{c:AV}{x:Rec}{r:List Rec}(h1:match kQ (x.ws T) id with |true=>cellP T env o id c (x.K.get id) |false=>True)(h2:cellW T env o id c r):cellW T env o id c (x::r):=⟨h1,h2⟩
theorem jO{l:List Ex}(h:l.drop i = [])(hq:q):BrI (decide ((i:Int)<((Ex.css l).length:Int))) p q:=by
 rw[Ex.css_eq];exact bi h hq
theorem gJ{l:List Ex}{x:Ex}{r:List Ex}(h:l.drop i=x::r)(hp:p):BrI (decide ((i:Int)<((Ex.css l).length:Int))) p q:=by
 rw[Ex.css_eq];exact aK h hp
theorem dV{l:List Ex}{x:Ex}{r:List Ex}(h:l.drop i=x::r):0<=(i:Int)/\(Ex.css l)[(i:Int).toNat]? = some (Ex.cs x):=by
 rw[Ex.css_eq];exact aC h
theorem Ex.css_len(l:List Ex):(Ex.css l).length=l.length:=by rw[Ex.css_eq];simp
theorem sW(h:a+b<=9223372036854775807):IntKind.i64.wrap ((a:Int)+(b:Int))=((a+b:Nat):Int):=by
 rw[bH (by omega) (by omega)];omega
theorem aG{k:Bool}{n:Int}{es:List (List D)}{q:List D->Prop}(h1:k=true)(h2:a=b)(c:List D)(h3:0<=n/\es[n.toNat]? = some c)(h4:q c):(k=true/\a=b)/\∃c,(0<=n/\es[n.toNat]? = some c)/\q c:=⟨⟨h1,h2⟩,c,h3,h4⟩
theorem aN{cs:List D}{t:TI}{q:Prop}(h1:cs.length=t.size)(h:q):cs.length=t.size/\q:=⟨h1,h⟩
theorem bu{p g:Bool}{A B:AV->Prop}(h1:p=true)(v:AV)(h2:g=true->A v)(h3:B v):p=true/\∃v,(g=true->A v)/\B v:=⟨h1,v,h2,h3⟩
theorem dB{a v:AV}{b c:Heap}(h:a=v)(h2:b=c):a=v/\b=c:=⟨h,h2⟩
theorem fK{b c:Heap}{q:Prop}(h:b=c)(h2:q):b=c/\q:=⟨h,h2⟩
theorem ak{A M:mr->Prop}{V:Prop}(out:mr)(h:A out)(h2:M out):(∃out,A out/\M out)\/V:=.inl ⟨out,h,h2⟩
theorem ai{rs:List ResultVar}{q:Prop}(h:Hu T rs K0 out K1 env K):Hu T rs K0 out K1 env K\/q:=.inl h
theorem qU{id id' sz sz':Nat}(h0:id=id')(h:sz=sz')(h2:es=es'):AV.gs id sz es=AV.gs id' sz' es':=by rw[h0,h,h2]
theorem ja{sz sz':Nat}(h:sz=sz')(h2:es=es'):Block.tok sz es.length=Block.tok sz' es'.length:=by rw[h,h2]
theorem fB{α:Type}{l:List α}{f:α->List D}{x:α}:l.map f++[f x]=(l++[x]).map f:=by simp
theorem Dk{α:Type}{l m:List α}{f:α->List D}:l.map f++m.map f=(l++m).map f:=by simp
theorem gK{a y b:Nat}(h1:a<=1073741824)(h2:y<=1073741824)(h3:Nat.ble b 65536=true):(a+y) * b<=140737488355328:=
 Nat.le_trans (Nat.mul_le_mul (show a+y<=2147483648 by omega) (Nat.le_of_ble_eq_true h3)) (by decide)
theorem iP(h:Nat.ble a b=true):a<=b:=Nat.le_of_ble_eq_true h
theorem app_step'{a b c n m x y w:Nat}{q:Prop}(h1:a=b)(h2:b=c)(h3:n=m)(hb:Nat.ble w 65536=true)(hx:x<=1073741824)(hy:y<=1073741824)(h:q):(a=b/\b=c/\n=m)/\(x+y) * w<=140737488355328/\q:=⟨⟨h1,h2,h3⟩,gK hx hy hb,h⟩
theorem fM{L:List Nat}{f:FuncId}{as as0:List AV}{K K0 K1:Heap}{next pan:Next}{Z:Prop}(ρ:List (Nat×Nat))(h:B f as0 K0 out K1)(h1:AV.ren.go ρ as0=as)(h2:Heap.sub ρ K K0)(h3:fH ρ K0 K1 out.av env K L=true)
  (h4:outGo ρ K1 K next pan out):Z\/Cc B L f as env K next pan:=.inr ⟨as0,K0,out,K1,ρ,h,h1,h2,h3,h4⟩
theorem lent_step'{L:List Nat}{f:FuncId}{as as0:List AV}{K K0 K1:Heap}{next pan:Next}(ρ:List (Nat×Nat))(h:B f as0 K0 out K1)(h1:AV.ren.go ρ as0=as)(h2:Heap.sub ρ K K0)(h3:fH ρ K0 K1 out.av env K L=true)
  (h4:outGo ρ K1 K next pan out) :
  ∃(as0:List AV) (K0:Heap) (out:jR) (K1:Heap) (ρ:List (Nat×Nat)),B f as0 K0 out K1/\AV.ren.go ρ as0=as/\Heap.sub ρ K K0/\fH ρ K0 K1 out.av env K L=true /\
  outGo ρ K1 K next pan out:=⟨as0,K0,out,K1,ρ,h,h1,h2,h3,h4⟩
theorem fin_step'{x y:AV}(τ:List (Nat×Nat))(h1:UX τ K0 K1 y=true)(h2:Kz K (aS τ (keys K1)) τ 100 x y)(h3:z1x K (aS τ (keys K1)) τ K1):∃τ,UX τ K0 K1 y=true/\Kz K (aS τ (keys K1)) τ 100 x y/\z1x K (aS τ (keys K1)) τ K1:=⟨τ,h1,h2,h3⟩
theorem fO{τ:List (Nat×Nat)}{id id' sz sz':Nat}(h:id=rn τ id')(h0:sz=sz')(h1:es=es'):AV.gs id sz es=AV.ren τ (AV.gs id' sz' es'):=by
 subst h h0 h1;simp only[AV.ren]
theorem bD{τ:List (Nat×Nat)}{x y:AV}(h:x=AV.ren τ y):x=AV.ren τ y:=h
theorem eu{α:Type}{l:List α}{i k:Nat}(h:l.drop i = [])(hk:l.length=k)(hq:q):BrI (decide ((i:Int)<(k:Int))) p q:=by
 have:=QJ h
 rw[show decide ((i:Int)<(k:Int))=false by simp;omega];exact BrI.ff hq
theorem dI{α:Type}{l:List α}{i k:Nat}{x:α}{r:List α}(h:l.drop i=x::r)(hk:l.length=k)(hp:p):BrI (decide ((i:Int)<(k:Int))) p q:=by
 have:=kE h
 rw[show decide ((i:Int)<(k:Int))=true by simp;omega];exact BrI.tt hp
theorem N9{α β:Type}{l:List α}{f:α->β}{c:Bool}(h:l.drop i = [])(hq:q):BrI (bif decide ((i:Int)<((l.map f).length:Int))then c else false) p q:=by
 rw[FB h];exact BrI.ff hq
theorem IU{α β:Type}{l:List α}{f:α->β}{x:α}{r:List α}{c:Bool}(h:l.drop i=x::r)(hp:BrI c p q):BrI (bif decide ((i:Int)<((l.map f).length:Int))then c else false) p q:=by
 rw[Bz h];exact hp
theorem QK{α β:Type}{l:List α}{f:α->β}{x:α}(h:l[i]? = some x):0<=(i:Int)/\(l.map f)[(i:Int).toNat]? = some (f x):=⟨by omega,by simp[h]⟩
theorem Zb{x:UInt8}{r:List UInt8}(h:l.drop i=x::r):0<=(i:Int)/\l[(i:Int).toNat]? = some x:=⟨by omega,by simp[o9 h]⟩
theorem Vq{n:Int}(h0:0<=n)(h:n<l.length):0<=n/\l[n.toNat]? = some (l.getD n.toNat 0):=by
 refine⟨h0,?_⟩
 have:n.toNat<l.length:=by omega
 rw[List.getD_eq_getElem?_getD,List.getElem?_eq_getElem this];rfl
theorem Ex.css_map(l:List Ex):l.map Ex.cs=Ex.css l:=(Ex.css_eq l).symm
theorem QL{α β:Type}{l:List α}{m:List β}{x:α×β}{r:List (α×β)}(h:(l.zip m).drop i=x::r):l[i]? = some x.1/\m[i]? = some x.2:=by
 have:=o9 h
 rw[List.getElem?_zip_eq_some]at this
 exact this
theorem kV{α β γ:Type}{l:List α}{m:List β}{f:α->γ}{x:α×β}{r:List (α×β)}(h:(l.zip m).drop i=x::r):0<=(i:Int)/\(l.map f)[(i:Int).toNat]? = some (f x.1):=QK (QL h).1
theorem kW{α β γ:Type}{l:List α}{m:List β}{f:β->γ}{x:α×β}{r:List (α×β)}(h:(l.zip m).drop i=x::r):0<=(i:Int)/\(m.map f)[(i:Int).toNat]? = some (f x.2):=QK (QL h).2
theorem iQ{α β:Type}{l:List α}{m:List β}(h:l.length=m.length):(l.zip m).length=l.length:=by simp[h]
theorem Zc{x:UInt8}{r:List UInt8}{q:UInt8->Prop}(h:l.drop i=x::r)(h4:q x):∃c,(0<=(i:Int)/\l[(i:Int).toNat]? = some c)/\q c:=⟨x,Zb h,h4⟩
theorem Vr{n:Int}{q:UInt8->Prop}(h0:0<=n)(h:n<l.length)(h4:q (l.getD n.toNat 0)):∃c,(0<=n/\l[n.toNat]? = some c)/\q c:=⟨_,Vq h0 h,h4⟩
theorem dW{s s' id:Nat}{es:List (List D)}{e:Env}{K:Heap}(h1:s=s')(h2:es = [])(h3:K.get id=none)(h4:bI id=false)(h5:dY id e=false)(h6:nJ id K=false):s=s'/\es = []/\K.get id=none/\bI id=false/\dY id e=false/\nJ id K=false:=⟨h1,h2,h3,h4,h5,h6⟩
theorem eQ{b:Block}{id:Nat}{e:Env}{K:Heap}(h3:b.isTok0=true)(h4:bI id=false)(h5:dY id e=false)(h6:nJ id K=false):b.isTok0=true/\bI id=false/\dY id e=false/\nJ id K=false:=⟨h3,h4,h5,h6⟩
theorem xh{a b:Bool}{q:Prop}(h1:a=true)(h2:b=true)(h:q):(a=true/\b=true)/\q:=⟨⟨h1,h2⟩,h⟩
def kG(t:TypeId)(b:Bool)(e:Int):mr:=match b with |true=>.ret (.tuple []) |false=>.pan (.iface t (.i e))
theorem aP{A M:mr->Prop}{V:Prop}{b:Bool}{e:Int}(hA:A (kG t b e))(h1:b=true->M (.ret (.tuple [])))(h2:b=false->M (.pan (.iface t (.i e)))):(∃out,A out/\M out)\/V:=by
 refine .inl ⟨_,hA,?_⟩
 cases b
 ·exact h2 rfl
 ·exact h1 rfl
theorem kX{rs:List ResultVar}{q:Prop}{b:Bool}{e:Int}(hb:b=true)(h:Hu T rs K0 (.ret (.data (.tuple []))) K1 env K):Hu T rs K0 (kG t b e).toA K1 env K\/q:=by
 subst hb;exact .inl h
theorem kY{x:AV}{b:Bool}{e:Int}(hb:b=false)(h:fin K0 K x (.data (.iface t (.i e))) K1):Ux K0 K x K1 (kG t b e).toA:=by
 subst hb;unfold Ux;exact h
theorem xk{x:AV}{d:D}(h:fin K0 K x (.data d) K1):Ux K0 K x K1 (mr.pan d).toA:=by
 unfold Ux;exact h
theorem iR{x y:AV}(h:fin K0 K x y K1):Ux K0 K x K1 (.pan y):=by
 unfold Ux;exact h
end Go.Fw
namespace Go.Fw
variable [af]
theorem jr{a b v v' len:Nat}{k:Bool}{n:Int}{q:Prop}(h1:k=true)(h2:a=b)(h3:v=v')(h4:0<=n/\n<len)(h:q):(k=true/\a=b/\v=v')/\(0<=n/\n<len)/\q:=⟨⟨h1,h2,h3⟩,h4,h⟩
theorem jP{v v' s s' off i:Nat}{es:List (List D)}{q:D->Prop}(h1:v=v')(h2:s=s')(e:List D)(c:D)(h3:es[i]? = some e)(h4:e[off]? = some c)(h:q c):(v=v'/\s=s')/\∃e,es[i]? = some e/\∃c,e[off]? = some c/\q c:=⟨⟨h1,h2⟩,e,h3,c,h4,h⟩
theorem gQ{k sc:Bool}{v v' s s' l m off i:Nat}{es:List (List D)}{q:List D->Prop}(h1:k=true)(h2:v=v')(h3:s=s')(h4:l=m)(h5:off+l<=s')(h6:sc=true)(e:List D)(h7:es[i]? = some e)(h:q e) :
  k=true/\(v=v'/\s=s')/\l=m/\off+l<=s'/\sc=true/\∃e,es[i]? = some e/\q e:=⟨h1,⟨h2,h3⟩,h4,h5,h6,e,h7,h⟩
theorem oH{v v' s s' t n m x w:Nat}{q:Prop}(h1:v=v')(h2:s=s')(h3:s=t)(h4:n<=m)(hb:Nat.ble w 65536=true)(hx:n<=1073741824)(hy:x<=1073741824)(h:q):((v=v'/\s'=s)/\s=t/\n<=m)/\(n+x) * w<=140737488355328/\q:=
 ⟨⟨⟨h1,h2.symm⟩,h3,h4⟩,gK hx hy hb,h⟩
theorem IV{n m:Int}{c:Nat}{q:Prop}(h1:0<=n)(h2:n<=m)(hb:Nat.ble c 65536=true)(h3:m<=1073741824)(h:q):(0<=n/\n<=m/\m * (c:Int)<=140737488355328)/\q:=by
 refine⟨⟨h1,h2,?_⟩,h⟩
 have hb:=Nat.le_of_ble_eq_true hb
 have:m * (c:Int)<=1073741824 * 65536:=Int.mul_le_mul h3 (by omega) (by omega) (by omega)
 omega
theorem FC{A M:mr->Prop}(out:mr)(h:A out)(h2:M out):∃out,A out/\M out:=⟨out,h,h2⟩
theorem sZ{d:D}{q:Prop}(h1:D.flat d=true)(h2:q):D.flat d=true/\q:=⟨h1,h2⟩
end Go.Fw
