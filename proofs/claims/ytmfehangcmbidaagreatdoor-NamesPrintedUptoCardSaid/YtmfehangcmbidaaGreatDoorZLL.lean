/- Loops over lists: the annotations and the lemmas of their walks. -/
import Derived.Test.YtmfehangcmbidaaGreatDoorZDA
set_option linter.unusedSectionVars false
set_option linter.unusedSimpArgs false
set_option linter.unusedVariables false
namespace Go.Fw
variable [ae] {i : Nat} {p q : Prop} {env : Env} {K0 K K1 : Heap} {l : List Ex} {B : FuncId → List AV → Heap → gp → Heap → Prop} {es es' : List (List D)} {T : Tbl} {ops : Array Oper} {tr : List Rec} {out : gp} {t : TypeId} {a b : Nat}
theorem BrI.tt(h:p):BrI true p q:=BrI.intro (λ_=>h) (λe=>by simp at e)
theorem BrI.ff(h:q):BrI false p q:=BrI.intro (λe=>by simp at e) (λ_=>h)
theorem tu{α:Type}{l:List α}{x:α}{r:List α}(h:l.drop i=x::r):i<l.length:=by
 rcases Nat.lt_or_ge i l.length with h1 |h1
 ·exact h1
 ·rw[List.drop_eq_nil_of_le h1]at h;simp at h
abbrev aF{α β:Type}(l:List α)(slot:Nat)(ev:β->Env)(hv:β->Heap)(keep:List Nat)(I:Nat->List α->β->Prop):Loop where
 S:=Nat×List α×β
 ev s:=match s with |(i,_,b)=>(slot,.data (.val (.int .i64 (i:Int))))::ev b
 hv s:=match s with |(_,_,b)=>hv b
 keep:=keep
 I s:=match s with |(i,r,b)=>l.drop i=r/\I i r b
 μ s:=match s with |(_,r,_)=>r.length
theorem ag{α β:Type}{l:List α}{slot:Nat}{ev:β->Env}{hv:β->Heap}{keep:List Nat}{I:Nat->List α->β->Prop}{E F:Nat×List α×β->Prop}(b:β)
  (hW:E (0,l,b)) (hI:I 0 l b) (h0:∀i b,l.drop i = []->I i [] b->F (i,[],b)) (h1:∀i x r b,l.drop i=x::r->i<l.length->I i (x::r) b->F (i,x::r,b)) :
  (∃s,(aF l slot ev hv keep I).I s/\E s)/\∀s,(aF l slot ev hv keep I).I s->F s:=by
 refine⟨⟨(0,l,b),⟨rfl,hI⟩,hW⟩,?_⟩
 rintro⟨i,r,b⟩ ⟨hd,h⟩
 cases r with
 |nil=>exact h0 i b hd h
 |cons x r=>exact h1 i x r b hd (tu hd) h
theorem SB{α:Type}{l:List α}{x:α}{r:List α}(h:l.drop i=x::r):l.drop (i+1)=r:=by
 have h1:=tu h
 rw[List.drop_eq_getElem_cons h1]at h
 exact(List.cons.inj h).2
theorem yL{α:Type}{l:List α}{x:α}{r:List α}(h:l.drop i=x::r):l[i]? = some x:=by
 have h1:=tu h
 rw[List.drop_eq_getElem_cons h1]at h
 rw[List.getElem?_eq_getElem h1,(List.cons.inj h).1]
theorem dB{α:Type}{l:List α}{x:α}{r:List α}(h:l.drop i=x::r):x∈l:=List.mem_of_getElem? (yL h)
theorem SC{α:Type}{l:List α}(h:l.drop i = []):l.length<=i:=by simpa using h
theorem GL{α β:Type}{l:List α}{f:α->β}(h:l.drop i = []):decide ((i:Int)<((l.map f).length:Int))=false:=by
 have:=SC h
 simp;omega
theorem CW{α β:Type}{l:List α}{f:α->β}{x:α}{r:List α}(h:l.drop i=x::r):decide ((i:Int)<((l.map f).length:Int))=true:=by
 have:=tu h
 simp;omega
theorem bz{α β:Type}{l:List α}{f:α->β}(h:l.drop i = [])(hq:q):BrI (decide ((i:Int)<((l.map f).length:Int))) p q:=by
 rw[GL h];exact BrI.ff hq
theorem aS{α β:Type}{l:List α}{f:α->β}{x:α}{r:List α}(h:l.drop i=x::r)(hp:p):BrI (decide ((i:Int)<((l.map f).length:Int))) p q:=by
 rw[CW h];exact BrI.tt hp
theorem aA{α β:Type}{l:List α}{f:α->β}{x:α}{r:List α}(h:l.drop i=x::r):0<=(i:Int)/\(l.map f)[(i:Int).toNat]? = some (f x):=
 ⟨by omega,by simp[yL h]⟩
theorem ah{α:Type}{l:List α}{x:α}{r:List α}(h:l.drop i=x::r)(hl:l.length<=9223372036854775807):AV.data (.val (.int .i64 (IntKind.i64.wrap ((i:Int)+1))))=AV.data (.val (.int .i64 ((i+1:Nat):Int))):=by
 have:=tu h
 rw[eQ (by omega) (by omega)];rfl
theorem af{α β:Type}{l:List α}{slot:Nat}{ev:β->Env}{hv:β->Heap}{keep:List Nat}{I:Nat->List α->β->Prop}{E:Nat×List α×β->Prop}{x:α}{r:List α}{b0:β}(hd:l.drop i=x::r)(b:β)
  (hW:E (i+1,r,b)) (hI:I (i+1) r b) :
  ∃s,(aF l slot ev hv keep I).I s/\(aF l slot ev hv keep I).μ s<(aF l slot ev hv keep I).μ (i,x::r,b0)/\E s:=
 ⟨(i+1,r,b),⟨SB hd,hI⟩,Nat.lt_succ_self _,hW⟩
theorem VW{K:Heap}{q:Prop}(h:chk T ops env K tr=true)(hq:q):chk T ops env K tr=true/\q:=⟨h,hq⟩
theorem aH{K:Heap}{q:Prop}(h:chk T ops env K tr=true)(hq:q):Qp T ops env K tr/\q:=⟨⟨[],by rw[zy];exact h,trivial⟩,hq⟩
theorem je{K:Heap}{kp:Nat}{q:Prop}(h:chk T ops env K tr=true)(hq:q):NV T ops env K tr kp/\q:=⟨⟨[],rfl,by rw[zy];exact h,trivial⟩,hq⟩
theorem nK(h:l.drop i = [])(hq:q):BrI (decide ((i:Int)<((Ex.css l).length:Int))) p q:=by
 rw[Ex.css_eq];exact bz h hq
theorem kR{x:Ex}{r:List Ex}(h:l.drop i=x::r)(hp:p):BrI (decide ((i:Int)<((Ex.css l).length:Int))) p q:=by
 rw[Ex.css_eq];exact aS h hp
theorem jq{x:Ex}{r:List Ex}(h:l.drop i=x::r):0<=(i:Int)/\(Ex.css l)[(i:Int).toNat]? = some (Ex.cs x):=by
 rw[Ex.css_eq];exact aA h
theorem Ex.css_len(l:List Ex):(Ex.css l).length=l.length:=by rw[Ex.css_eq];simp
theorem csimp:(∀c f:Bool,cond c true f=(c || f))/\(∀c t:Bool,cond c t false=(c&&t))/\(∀c f:Bool,cond c false f=(!c&&f))/\(∀c t:Bool,cond c t true=(!c || t))/\(∀b:Bool,((!b)=true)=(b=false))/\(∀b:Bool,((!b)=false)=(b=true)) /\
  (∀(α:Type) (_:BEq α) (a b:α),(a != b) = !(a==b))/\(∀l:List Ex,(Ex.css l).length=l.length)/\(∀(α β:Type) (f:α->β) (l:List α),(l.map f).length=l.length)/\(0:Int).toNat=0:=
 ⟨Bool.cond_true_left,Bool.cond_false_right,Bool.cond_false_left,Bool.cond_true_right,λb=>by cases b<;>simp,λb=>by cases b<;>simp,λ_ _ _ _=>rfl,Ex.css_len,λ_ _ _ _=>List.length_map _,rfl⟩
theorem yM(h:a+b<=9223372036854775807):IntKind.i64.wrap ((a:Int)+(b:Int))=((a+b:Nat):Int):=by
 rw[eQ (by omega) (by omega)];omega
theorem aJ{k:Bool}{n:Int}{es:List (List D)}{q:List D->Prop}(h1:k=true)(h2:a=b)(c:List D)(h3:0<=n/\es[n.toNat]? = some c)(h4:q c):(k=true/\a=b)/\∃c,(0<=n/\es[n.toNat]? = some c)/\q c:=⟨⟨h1,h2⟩,c,h3,h4⟩
theorem aV{cs:List D}{t:TI}{q:Prop}(h1:cs.length=t.size)(h:q):cs.length=t.size/\q:=⟨h1,h⟩
theorem aP{p g:Bool}{A B:AV->Prop}{q:Prop}(h1:p=true)(v:AV)(h2:g=true->A v)(h3:B v):(p=true/\∃v,(g=true->A v)/\B v)\/q:=.inl ⟨h1,v,h2,h3⟩
theorem nM{p g:Bool}{A B:AV->Prop}(h1:p=true)(v:AV)(h2:g=true->A v)(h3:B v):p=true/\∃v,(g=true->A v)/\B v:=⟨h1,v,h2,h3⟩
theorem wW{p g:Bool}{A B:AV->Prop}{q:Prop}(v:AV)(h1:p=true)(hg:g=false)(h3:B v):(p=true/\∃v,(g=true->A v)/\B v)\/q:=.inl ⟨h1,v,λh=>absurd (hg.symm.trans h) Bool.noConfusion,h3⟩
theorem GM{g:Bool}{z p:Prop}(hg:g=true)(h:p):z\/lL g p:=.inr (lL.mk hg h)
theorem bH{a v:AV}{b c:Heap}(h:a=v)(h2:b=c):a=v/\b=c:=⟨h,h2⟩
theorem ig{b c:Heap}{q:Prop}(h:b=c)(h2:q):b=c/\q:=⟨h,h2⟩
theorem ai{A M:oz->Prop}{V:Prop}(out:oz)(h:A out)(h2:M out):(∃out,A out/\M out)\/V:=.inl ⟨out,h,h2⟩
theorem aC{rs:List ResultVar}{q:Prop}(h:finR T rs K0 out K1 env K):finR T rs K0 out K1 env K\/q:=.inl h
theorem oD{id id' sz sz':Nat}(h0:id=id')(h:sz=sz')(h2:es=es'):AV.gs id sz es=AV.gs id' sz' es':=by rw[h0,h,h2]
theorem fH{sz sz':Nat}(h:sz=sz')(h2:es=es'):Block.tok sz es.length=Block.tok sz' es'.length:=by rw[h,h2]
theorem dO{α:Type}{l:List α}{f:α->List D}{x:α}:l.map f++[f x]=(l++[x]).map f:=by simp
theorem SE{α:Type}{l m:List α}{f:α->List D}:l.map f++m.map f=(l++m).map f:=by simp
theorem ik{a y b:Nat}(h1:a<=1073741824)(h2:y<=1073741824)(h3:Nat.ble b 65536=true):(a+y) * b<=140737488355328:=
 Nat.le_trans (Nat.mul_le_mul (show a+y<=2147483648 by omega) (Nat.le_of_ble_eq_true h3)) (by decide)
theorem eX(h:Nat.ble a b=true):a<=b:=Nat.le_of_ble_eq_true h
theorem app_step'{a b c n m x y w:Nat}{q:Prop}(h1:a=b)(h2:b=c)(h3:n=m)(hb:Nat.ble w 65536=true)(hx:x<=1073741824)(hy:y<=1073741824)(h:q):(a=b/\b=c/\n=m)/\(x+y) * w<=140737488355328/\q:=⟨⟨h1,h2,h3⟩,ik hx hy hb,h⟩
theorem iq{L:List Nat}{f:FuncId}{as as0:List AV}{K K0 K1:Heap}{next pan:Next}{Z:Prop}(ρ:List (Nat×Nat))(h:B f as0 K0 out K1)(h1:AV.ren.go ρ as0=as)(h2:Heap.sub ρ K K0)(h3:bG ρ K0 K1 out.av env K L=true)
  (h4:outGo ρ K1 K next pan out):Z\/DN B L f as env K next pan:=.inr ⟨as0,K0,out,K1,ρ,h,h1,h2,h3,h4⟩
theorem lent_step'{L:List Nat}{f:FuncId}{as as0:List AV}{K K0 K1:Heap}{next pan:Next}(ρ:List (Nat×Nat))(h:B f as0 K0 out K1)(h1:AV.ren.go ρ as0=as)(h2:Heap.sub ρ K K0)(h3:bG ρ K0 K1 out.av env K L=true)
  (h4:outGo ρ K1 K next pan out) :
  ∃(as0:List AV) (K0:Heap) (out:gp) (K1:Heap) (ρ:List (Nat×Nat)),B f as0 K0 out K1/\AV.ren.go ρ as0=as/\Heap.sub ρ K K0/\bG ρ K0 K1 out.av env K L=true /\
  outGo ρ K1 K next pan out:=⟨as0,K0,out,K1,ρ,h,h1,h2,h3,h4⟩
theorem fin_step'{x y:AV}(τ:List (Nat×Nat))(h1:Vy τ K0 K1 y=true)(h2:Lm K (aI τ (keys K1)) τ 100 x y)(h3:z1o K (aI τ (keys K1)) τ K1):∃τ,Vy τ K0 K1 y=true/\Lm K (aI τ (keys K1)) τ 100 x y/\z1o K (aI τ (keys K1)) τ K1:=⟨τ,h1,h2,h3⟩
theorem dN{τ:List (Nat×Nat)}{id id' sz sz':Nat}(h:id=rn τ id')(h0:sz=sz')(h1:es=es'):AV.gs id sz es=AV.ren τ (AV.gs id' sz' es'):=by
 subst h h0 h1;simp only[AV.ren]
theorem aO{τ:List (Nat×Nat)}{x y:AV}(h:x=AV.ren τ y):x=AV.ren τ y:=h
theorem dC{α:Type}{l:List α}{i k:Nat}(h:l.drop i = [])(hk:l.length=k)(hq:q):BrI (decide ((i:Int)<(k:Int))) p q:=by
 have:=SC h
 rw[show decide ((i:Int)<(k:Int))=false by simp;omega];exact BrI.ff hq
theorem bT{α:Type}{l:List α}{i k:Nat}{x:α}{r:List α}(h:l.drop i=x::r)(hk:l.length=k)(hp:p):BrI (decide ((i:Int)<(k:Int))) p q:=by
 have:=tu h
 rw[show decide ((i:Int)<(k:Int))=true by simp;omega];exact BrI.tt hp
theorem CX{α β:Type}{l:List α}{f:α->β}{c:Bool}(h:l.drop i = [])(hq:q):BrI (bif decide ((i:Int)<((l.map f).length:Int))then c else false) p q:=by
 rw[GL h];exact BrI.ff hq
theorem zX{α β:Type}{l:List α}{f:α->β}{x:α}{r:List α}{c:Bool}(h:l.drop i=x::r)(hp:BrI c p q):BrI (bif decide ((i:Int)<((l.map f).length:Int))then c else false) p q:=by
 rw[CW h];exact hp
theorem SG{α β:Type}{l:List α}{f:α->β}{x:α}(h:l[i]? = some x):0<=(i:Int)/\(l.map f)[(i:Int).toNat]? = some (f x):=⟨by omega,by simp[h]⟩
theorem Zg{l:List UInt8}{x:UInt8}{r:List UInt8}(h:l.drop i=x::r):0<=(i:Int)/\l[(i:Int).toNat]? = some x:=⟨by omega,by simp[yL h]⟩
theorem VX{l:List UInt8}{n:Int}(h0:0<=n)(h:n<l.length):0<=n/\l[n.toNat]? = some (l.getD n.toNat 0):=by
 refine⟨h0,?_⟩
 have:n.toNat<l.length:=by omega
 rw[List.getD_eq_getElem?_getD,List.getElem?_eq_getElem this];rfl
theorem Ex.css_map(l:List Ex):l.map Ex.cs=Ex.css l:=(Ex.css_eq l).symm
theorem SH{α β:Type}{l:List α}{m:List β}{x:α×β}{r:List (α×β)}(h:(l.zip m).drop i=x::r):l[i]? = some x.1/\m[i]? = some x.2:=by
 have:=yL h
 rw[List.getElem?_zip_eq_some]at this
 exact this
theorem gQ{α β γ:Type}{l:List α}{m:List β}{f:α->γ}{x:α×β}{r:List (α×β)}(h:(l.zip m).drop i=x::r):0<=(i:Int)/\(l.map f)[(i:Int).toNat]? = some (f x.1):=SG (SH h).1
theorem gU{α β γ:Type}{l:List α}{m:List β}{f:β->γ}{x:α×β}{r:List (α×β)}(h:(l.zip m).drop i=x::r):0<=(i:Int)/\(m.map f)[(i:Int).toNat]? = some (f x.2):=SG (SH h).2
theorem SI{m:List Ex}{x:Ex×Ex}{r:List (Ex×Ex)}(h:(l.zip m).drop i=x::r):0<=(i:Int)/\(Ex.css l)[(i:Int).toNat]? = some (Ex.cs x.1):=by rw[Ex.css_eq];exact gQ h
theorem SK{m:List Ex}{x:Ex×Ex}{r:List (Ex×Ex)}(h:(l.zip m).drop i=x::r):0<=(i:Int)/\(Ex.css m)[(i:Int).toNat]? = some (Ex.cs x.2):=by rw[Ex.css_eq];exact gU h
theorem di{α β:Type}{l:List α}{m:List β}(h:l.length=m.length):(l.zip m).length=l.length:=by simp[h]
theorem SL{l:List UInt8}{x:UInt8}{r:List UInt8}{q:UInt8->Prop}(h:l.drop i=x::r)(h4:q x):∃c,(0<=(i:Int)/\l[(i:Int).toNat]? = some c)/\q c:=⟨x,Zg h,h4⟩
theorem Ei{l:List UInt8}{n:Int}{q:UInt8->Prop}(h0:0<=n)(h:n<l.length)(h4:q (l.getD n.toNat 0)):∃c,(0<=n/\l[n.toNat]? = some c)/\q c:=⟨_,VX h0 h,h4⟩
theorem bW{s s' id:Nat}{es:List (List D)}{e:Env}{K:Heap}(h1:s=s')(h2:es = [])(h3:K.get id=none)(h4:bF id=false)(h5:eG id e=false)(h6:nZ id K=false):s=s'/\es = []/\K.get id=none/\bF id=false/\eG id e=false/\nZ id K=false:=⟨h1,h2,h3,h4,h5,h6⟩
theorem dm{b:Block}{id:Nat}{e:Env}{K:Heap}(h3:b.isTok0=true)(h4:bF id=false)(h5:eG id e=false)(h6:nZ id K=false):b.isTok0=true/\bF id=false/\eG id e=false/\nZ id K=false:=⟨h3,h4,h5,h6⟩
theorem yN{a b:Bool}{q:Prop}(h1:a=true)(h2:b=true)(h:q):(a=true/\b=true)/\q:=⟨⟨h1,h2⟩,h⟩
def kS(t:TypeId)(b:Bool)(e:Int):oz:=match b with |true=>.ret (.tuple []) |false=>.pan (.iface t (.i e))
theorem aQ{A M:oz->Prop}{V:Prop}{b:Bool}{e:Int}(hA:A (kS t b e))(h1:b=true->M (.ret (.tuple [])))(h2:b=false->M (.pan (.iface t (.i e)))):(∃out,A out/\M out)\/V:=by
 refine .inl ⟨_,hA,?_⟩
 cases b
 ·exact h2 rfl
 ·exact h1 rfl
theorem lN{rs:List ResultVar}{q:Prop}{b:Bool}{e:Int}(hb:b=true)(h:finR T rs K0 (.ret (.data (.tuple []))) K1 env K):finR T rs K0 (kS t b e).toA K1 env K\/q:=by
 subst hb;exact .inl h
theorem lQ{x:AV}{b:Bool}{e:Int}(hb:b=false)(h:fin K0 K x (.data (.iface t (.i e))) K1):Fg K0 K x K1 (kS t b e).toA:=by
 subst hb;unfold Fg;exact h
theorem fJ{x y:AV}(h:fin K0 K x y K1):Fg K0 K x K1 (.pan y):=by
 unfold Fg;exact h
end Go.Fw
namespace Go.Fw
variable [ae]
theorem xR{a b v v' len:Nat}{k:Bool}{n:Int}{q:Prop}(h1:k=true)(h2:a=b)(h3:v=v')(h4:0<=n/\n<len)(h:q):(k=true/\a=b/\v=v')/\(0<=n/\n<len)/\q:=⟨⟨h1,h2,h3⟩,h4,h⟩
theorem rO{k sc:Bool}{v v' s s' l m off i:Nat}{es:List (List D)}{q:List D->Prop}(h1:k=true)(h2:v=v')(h3:s=s')(h4:l=m)(h5:off+l<=s')(h6:sc=true)(e:List D)(h7:es[i]? = some e)(h:q e) :
  k=true/\(v=v'/\s=s')/\l=m/\off+l<=s'/\sc=true/\∃e,es[i]? = some e/\q e:=⟨h1,⟨h2,h3⟩,h4,h5,h6,e,h7,h⟩
theorem GN{v v' s s' i:Nat}{es:List (List D)}{q:List D->Prop}(h1:v=v')(h2:s=s')(e:List D)(h4:es[i]? = some e)(h:q e):(v=v'/\s=s')/\∃e,es[i]? = some e/\q e:=⟨⟨h1,h2⟩,e,h4,h⟩
theorem GR{v v' s s' t n m x w:Nat}{q:Prop}(h1:v=v')(h2:s=s')(h3:s=t)(h4:n<=m)(hb:Nat.ble w 65536=true)(hx:n<=1073741824)(hy:x<=1073741824)(h:q):((v=v'/\s'=s)/\s=t/\n<=m)/\(n+x) * w<=140737488355328/\q:=
 ⟨⟨⟨h1,h2.symm⟩,h3,h4⟩,ik hx hy hb,h⟩
theorem Zh{n m:Int}{c:Nat}{q:Prop}(h1:0<=n)(h2:n<=m)(hb:Nat.ble c 65536=true)(h3:m<=1073741824)(h:q):(0<=n/\n<=m/\m * (c:Int)<=140737488355328)/\q:=by
 refine⟨⟨h1,h2,?_⟩,h⟩
 have hb:=Nat.le_of_ble_eq_true hb
 have:m * (c:Int)<=1073741824 * 65536:=Int.mul_le_mul h3 (by omega) (by omega) (by omega)
 omega
abbrev jI{β:Type}(ev:β->Env)(hv:β->Heap)(keep:List Nat)(I:β->Prop)(μ:β->Nat):Loop where
 S:=β
 ev:=ev
 hv:=hv
 keep:=keep
 I:=I
 μ:=μ
theorem dD{β:Type}{ev:β->Env}{hv:β->Heap}{keep:List Nat}{I:β->Prop}{μ:β->Nat}{E F:β->Prop}(b:β)(hW:E b)(hI:I b)(h:∀b,I b->F b) :
  (∃s,(jI ev hv keep I μ).I s/\E s)/\∀s,(jI ev hv keep I μ).I s->F s:=⟨⟨b,hI,hW⟩,h⟩
theorem bD{β:Type}{ev:β->Env}{hv:β->Heap}{keep:List Nat}{I:β->Prop}{μ:β->Nat}{E:β->Prop}{b0:β}(b:β)(hW:E b)(hI:I b)(hm:μ b<μ b0) :
  ∃s,(jI ev hv keep I μ).I s/\(jI ev hv keep I μ).μ s<(jI ev hv keep I μ).μ b0/\E s:=⟨b,hI,hm,hW⟩
theorem LY{n:Nat}(h:n<=9223372036854775806):AV.data (.val (.int .i64 (IntKind.i64.wrap ((n:Int)+1))))=AV.data (.val (.int .i64 ((n+1:Nat):Int))):=by
 rw[eQ (by omega) (by omega)];rfl
theorem SN{n k:Nat}(h:n+k<=9223372036854775807):IntKind.i64.wrap ((n:Int)+(k:Int))=((n+k:Nat):Int):=yM h
theorem z2u{p:UInt8->Bool}{s:List UInt8}{n:Nat}(h:s.length<=n):(s.drop n).takeWhile p = []:=by rw[List.drop_eq_nil_of_le h];rfl
theorem drop_cons{s:List UInt8}{n:Nat}(h:n<s.length):s.drop n=s.getD n 0::s.drop (n+1):=by
 rw[List.drop_eq_getElem_cons h];simp[List.getD_eq_getElem?_getD,List.getElem?_eq_getElem h]
theorem z6x{p:UInt8->Bool}{s:List UInt8}{n:Nat}(h:n<s.length)(hp:p (s.getD n 0)=false):(s.drop n).takeWhile p = []:=by
 rw[drop_cons h,List.takeWhile_cons_of_neg (by simpa using hp)]
theorem z2v{p:UInt8->Bool}{s:List UInt8}{n:Nat}(h:n<s.length)(hp:p (s.getD n 0)=true):(s.drop n).takeWhile p=s.getD n 0::(s.drop (n+1)).takeWhile p:=by
 rw[drop_cons h,List.takeWhile_cons_of_pos hp]
structure z2w(p:UInt8->Bool)(s:List UInt8)(a n:Nat):Prop where
 le:a<=n
 end_:n<=s.length
 eq:((s.drop a).takeWhile p).length+a=((s.drop n).takeWhile p).length+n
variable {p : UInt8 → Bool} {s : List UInt8} {a n : Nat}
theorem z2x:∀l:List UInt8,(l.takeWhile p).length<=l.length
 | []=>Nat.le_refl _
 |c::r=>by
  simp only[List.takeWhile_cons];split
  ·simpa using z2x r
  ·simp
theorem OU{a:Nat}(h:a<=s.length):z2w p s a a:=⟨Nat.le_refl _,h,rfl⟩
theorem SQ(h:z2w p s a n)(hl:n<s.length)(hp:p (s.getD n 0)=true):z2w p s a (n+1):=by
 refine⟨by have:=h.le;omega,hl,?_⟩
 have:=h.eq
 rw[z2v hl hp]at this
 simp only[List.length_cons]at this;omega
theorem zY:∀l:List UInt8,l.take (l.takeWhile p).length=l.takeWhile p
 | []=>rfl
 |c::r=>by
  simp only[List.takeWhile_cons];split
  ·simp[zY r]
  ·simp
theorem VY(h:z2w p s a n)(he:s.length<=n\/(n<s.length/\p (s.getD n 0)=false)):n=a+((s.drop a).takeWhile p).length:=by
 have h0:=h.eq
 have:(s.drop n).takeWhile p = []:=by
  rcases he with he |⟨h1,h2⟩
  ·exact z2u he
  ·exact z6x h1 h2
 rw[this]at h0
 simp only[List.length_nil]at h0;omega
theorem VZ(h:n=a+((s.drop a).takeWhile p).length):(s.take n).drop a=(s.drop a).takeWhile p:=by
 rw[<-zY (s.drop a),List.drop_take,h,Nat.add_sub_cancel_left]
theorem tC{a:Nat}(h:a<=s.length):a+((s.drop a).takeWhile p).length<=s.length:=by
 have:=z2x (p:=p) (s.drop a)
 simp only[List.length_drop]at this;omega
theorem dZ{A M:oz->Prop}(out:oz)(h:A out)(h2:M out):∃out,A out/\M out:=⟨out,h,h2⟩
theorem ed{d:D}{q:Prop}(h1:D.flat d=true)(h2:q):D.flat d=true/\q:=⟨h1,h2⟩
end Go.Fw
