/- Loops over lists: the annotations and the lemmas of their walks. -/
import Derived.Test.YtmfehangcmbidaaGreatDoorZDA
set_option linter.unusedSectionVars false
set_option linter.unusedSimpArgs false
set_option linter.unusedVariables false
namespace Go.Fw
variable [ae] {i : Nat} {p q : Prop} {env : Env} {l : List Ex} {B : FuncId → List AV → Heap → fP → Heap → Prop} {es es' : List (List D)} {K : Heap} {ops : Array Oper} {tr : List Rec} {T : Tbl} {out : fP} {a b : Nat}
theorem BrI.tt(h:p):BrI true p q:=BrI.intro (λ_=>h) (λe=>by simp at e)
theorem BrI.ff(h:q):BrI false p q:=BrI.intro (λe=>by simp at e) (λ_=>h)
theorem vg{α:Type}{l:List α}{x:α}{r:List α}(h:l.drop i=x::r):i<l.length:=by
 rcases Nat.lt_or_ge i l.length with h1 |h1
 ·exact h1
 ·rw[List.drop_eq_nil_of_le h1]at h;simp at h
abbrev bQ{α β:Type}(l:List α)(slot:Nat)(ev:β->Env)(hv:β->Heap)(keep:List Nat)(I:Nat->List α->β->Prop):Loop where
 S:=Nat×List α×β
 ev s:=match s with |(i,_,b)=>(slot,.data (.val (.int .i64 (i:Int))))::ev b
 hv s:=match s with |(_,_,b)=>hv b
 keep:=keep
 I s:=match s with |(i,r,b)=>l.drop i=r/\I i r b
 μ s:=match s with |(_,r,_)=>r.length
theorem ay{α β:Type}{l:List α}{slot:Nat}{ev:β->Env}{hv:β->Heap}{keep:List Nat}{I:Nat->List α->β->Prop}{E F:Nat×List α×β->Prop}(b:β)
  (hW:E (0,l,b)) (hI:I 0 l b) (h0:∀i b,l.drop i = []->I i [] b->F (i,[],b)) (h1:∀i x r b,l.drop i=x::r->i<l.length->I i (x::r) b->F (i,x::r,b)) :
  (∃s,(bQ l slot ev hv keep I).I s/\E s)/\∀s,(bQ l slot ev hv keep I).I s->F s:=by
 refine⟨⟨(0,l,b),⟨rfl,hI⟩,hW⟩,?_⟩
 rintro⟨i,r,b⟩ ⟨hd,h⟩
 cases r with
 |nil=>exact h0 i b hd h
 |cons x r=>exact h1 i x r b hd (vg hd) h
theorem PN{α:Type}{l:List α}{x:α}{r:List α}(h:l.drop i=x::r):l.drop (i+1)=r:=by
 have h1:=vg h
 rw[List.drop_eq_getElem_cons h1]at h
 exact(List.cons.inj h).2
theorem xu{α:Type}{l:List α}{x:α}{r:List α}(h:l.drop i=x::r):l[i]? = some x:=by
 have h1:=vg h
 rw[List.drop_eq_getElem_cons h1]at h
 rw[List.getElem?_eq_getElem h1,(List.cons.inj h).1]
theorem mg{α:Type}{l:List α}{x:α}{r:List α}(h:l.drop i=x::r):x∈l:=List.mem_of_getElem? (xu h)
theorem PO{α:Type}{l:List α}(h:l.drop i = []):l.length<=i:=by simpa using h
theorem PQ{α β:Type}{l:List α}{f:α->β}(h:l.drop i = []):decide ((i:Int)<((l.map f).length:Int))=false:=by
 have:=PO h
 simp;omega
theorem Md{α β:Type}{l:List α}{f:α->β}{x:α}{r:List α}(h:l.drop i=x::r):decide ((i:Int)<((l.map f).length:Int))=true:=by
 have:=vg h
 simp;omega
theorem jm{α β:Type}{l:List α}{f:α->β}(h:l.drop i = [])(hq:q):BrI (decide ((i:Int)<((l.map f).length:Int))) p q:=by
 rw[PQ h];exact BrI.ff hq
theorem fH{α β:Type}{l:List α}{f:α->β}{x:α}{r:List α}(h:l.drop i=x::r)(hp:p):BrI (decide ((i:Int)<((l.map f).length:Int))) p q:=by
 rw[Md h];exact BrI.tt hp
theorem dF{α β:Type}{l:List α}{f:α->β}{x:α}{r:List α}(h:l.drop i=x::r):0<=(i:Int)/\(l.map f)[(i:Int).toNat]? = some (f x):=
 ⟨by omega,by simp[xu h]⟩
theorem aT{α:Type}{l:List α}{x:α}{r:List α}(h:l.drop i=x::r)(hl:l.length<=9223372036854775807):AV.data (.val (.int .i64 (IntKind.i64.wrap ((i:Int)+1))))=AV.data (.val (.int .i64 ((i+1:Nat):Int))):=by
 have:=vg h
 rw[dX (by omega) (by omega)];rfl
theorem au{α β:Type}{l:List α}{slot:Nat}{ev:β->Env}{hv:β->Heap}{keep:List Nat}{I:Nat->List α->β->Prop}{E:Nat×List α×β->Prop}{x:α}{r:List α}{b0:β}(hd:l.drop i=x::r)(b:β)
  (hW:E (i+1,r,b)) (hI:I (i+1) r b) :
  ∃s,(bQ l slot ev hv keep I).I s/\(bQ l slot ev hv keep I).μ s<(bQ l slot ev hv keep I).μ (i,x::r,b0)/\E s:=
 ⟨(i+1,r,b),⟨PN hd,hI⟩,Nat.lt_succ_self _,hW⟩
theorem xw{q:Prop}(h:chk T ops env K tr=true)(hq:q):chk T ops env K tr=true/\q:=⟨h,hq⟩
theorem aH{q:Prop}(h:chk T ops env K tr=true)(hq:q):NU T ops env K tr/\q:=⟨⟨[],by rw[yx];exact h,trivial⟩,hq⟩
theorem gB{kp:Nat}{q:Prop}(h:chk T ops env K tr=true)(hq:q):KP T ops env K tr kp/\q:=⟨⟨[],rfl,by rw[yx];exact h,trivial⟩,hq⟩
theorem Ug(h:l.drop i = [])(hq:q):BrI (decide ((i:Int)<((Ex.css l).length:Int))) p q:=by
 rw[Ex.css_eq];exact jm h hq
theorem PR{x:Ex}{r:List Ex}(h:l.drop i=x::r)(hp:p):BrI (decide ((i:Int)<((Ex.css l).length:Int))) p q:=by
 rw[Ex.css_eq];exact fH h hp
theorem Me{x:Ex}{r:List Ex}(h:l.drop i=x::r):0<=(i:Int)/\(Ex.css l)[(i:Int).toNat]? = some (Ex.cs x):=by
 rw[Ex.css_eq];exact dF h
theorem Ex.css_len(l:List Ex):(Ex.css l).length=l.length:=by rw[Ex.css_eq];simp
theorem Uh(h:a+b<=9223372036854775807):IntKind.i64.wrap ((a:Int)+(b:Int))=((a+b:Nat):Int):=by
 rw[dX (by omega) (by omega)];omega
theorem bf{k:Bool}{n:Int}{es:List (List D)}{q:List D->Prop}(h1:k=true)(h2:a=b)(c:List D)(h3:0<=n/\es[n.toNat]? = some c)(h4:q c):(k=true/\a=b)/\∃c,(0<=n/\es[n.toNat]? = some c)/\q c:=⟨⟨h1,h2⟩,c,h3,h4⟩
theorem bZ{cs:List D}{t:TI}{q:Prop}(h1:cs.length=t.size)(h:q):cs.length=t.size/\q:=⟨h1,h⟩
theorem aQ{p g:Bool}{A B:AV->Prop}{q:Prop}(h1:p=true)(v:AV)(h2:g=true->A v)(h3:B v):(p=true/\∃v,(g=true->A v)/\B v)\/q:=.inl ⟨h1,v,h2,h3⟩
theorem ku{p g:Bool}{A B:AV->Prop}(h1:p=true)(v:AV)(h2:g=true->A v)(h3:B v):p=true/\∃v,(g=true->A v)/\B v:=⟨h1,v,h2,h3⟩
theorem vk{p g:Bool}{A B:AV->Prop}{q:Prop}(v:AV)(h1:p=true)(hg:g=false)(h3:B v):(p=true/\∃v,(g=true->A v)/\B v)\/q:=.inl ⟨h1,v,λh=>absurd (hg.symm.trans h) Bool.noConfusion,h3⟩
theorem EI{g:Bool}{z p:Prop}(hg:g=true)(h:p):z\/jK g p:=.inr (jK.mk hg h)
theorem bK{a v:AV}{b c:Heap}(h:a=v)(h2:b=c):a=v/\b=c:=⟨h,h2⟩
theorem ak{A M:pM->Prop}{V:Prop}(out:pM)(h:A out)(h2:M out):(∃out,A out/\M out)\/V:=.inl ⟨out,h,h2⟩
theorem ai{rs:List ResultVar}{K0 K K1:Heap}{q:Prop}(h:finR T rs K0 out K1 env K):finR T rs K0 out K1 env K\/q:=.inl h
theorem vw{id id' sz sz':Nat}(h0:id=id')(h:sz=sz')(h2:es=es'):AV.gs id sz es=AV.gs id' sz' es':=by rw[h0,h,h2]
theorem gq{sz sz':Nat}(h:sz=sz')(h2:es=es'):Block.tok sz es.length=Block.tok sz' es'.length:=by rw[h,h2]
theorem dA{α:Type}{l:List α}{f:α->List D}{x:α}:l.map f++[f x]=(l++[x]).map f:=by simp
theorem Wn{a y b:Nat}(h1:a<=1073741824)(h2:y<=1073741824)(h3:Nat.ble b 65536=true):(a+y) * b<=140737488355328:=
 Nat.le_trans (Nat.mul_le_mul (show a+y<=2147483648 by omega) (Nat.le_of_ble_eq_true h3)) (by decide)
theorem gu(h:Nat.ble a b=true):a<=b:=Nat.le_of_ble_eq_true h
theorem app_step'{a b c n m x y w:Nat}{q:Prop}(h1:a=b)(h2:b=c)(h3:n=m)(hb:Nat.ble w 65536=true)(hx:x<=1073741824)(hy:y<=1073741824)(h:q):(a=b/\b=c/\n=m)/\(x+y) * w<=140737488355328/\q:=⟨⟨h1,h2,h3⟩,Wn hx hy hb,h⟩
theorem tN{L:List Nat}{f:FuncId}{as as0:List AV}{K K0 K1:Heap}{next pan:Next}{Z:Prop}(ρ:List (Nat×Nat))(h:B f as0 K0 out K1)(h1:AV.ren.go ρ as0=as)(h2:Heap.sub ρ K K0)(h3:bz ρ K0 K1 out.av env K L=true)
  (h4:outGo ρ K1 K next pan out):Z\/BH B L f as env K next pan:=.inr ⟨as0,K0,out,K1,ρ,h,h1,h2,h3,h4⟩
theorem lent_step'{L:List Nat}{f:FuncId}{as as0:List AV}{K K0 K1:Heap}{next pan:Next}(ρ:List (Nat×Nat))(h:B f as0 K0 out K1)(h1:AV.ren.go ρ as0=as)(h2:Heap.sub ρ K K0)(h3:bz ρ K0 K1 out.av env K L=true)
  (h4:outGo ρ K1 K next pan out) :
  ∃(as0:List AV) (K0:Heap) (out:fP) (K1:Heap) (ρ:List (Nat×Nat)),B f as0 K0 out K1/\AV.ren.go ρ as0=as/\Heap.sub ρ K K0/\bz ρ K0 K1 out.av env K L=true /\
  outGo ρ K1 K next pan out:=⟨as0,K0,out,K1,ρ,h,h1,h2,h3,h4⟩
theorem fin_step'{K0 K K1:Heap}{x y:AV}(τ:List (Nat×Nat))(h1:TF τ K0 K1 y=true)(h2:Jb K (aI τ (keys K1)) τ 100 x y)(h3:ZQ K (aI τ (keys K1)) τ K1):∃τ,TF τ K0 K1 y=true/\Jb K (aI τ (keys K1)) τ 100 x y/\ZQ K (aI τ (keys K1)) τ K1:=⟨τ,h1,h2,h3⟩
theorem dC{τ:List (Nat×Nat)}{id id' sz sz':Nat}(h:id=rn τ id')(h0:sz=sz')(h1:es=es'):AV.gs id sz es=AV.ren τ (AV.gs id' sz' es'):=by
 subst h h0 h1;simp only[AV.ren]
theorem aJ{τ:List (Nat×Nat)}{x y:AV}(h:x=AV.ren τ y):x=AV.ren τ y:=h
theorem dS{α:Type}{l:List α}{i k:Nat}(h:l.drop i = [])(hk:l.length=k)(hq:q):BrI (decide ((i:Int)<(k:Int))) p q:=by
 have:=PO h
 rw[show decide ((i:Int)<(k:Int))=false by simp;omega];exact BrI.ff hq
theorem dw{α:Type}{l:List α}{i k:Nat}{x:α}{r:List α}(h:l.drop i=x::r)(hk:l.length=k)(hp:p):BrI (decide ((i:Int)<(k:Int))) p q:=by
 have:=vg h
 rw[show decide ((i:Int)<(k:Int))=true by simp;omega];exact BrI.tt hp
theorem yU{α β:Type}{l:List α}{f:α->β}{x:α}(h:l[i]? = some x):0<=(i:Int)/\(l.map f)[(i:Int).toNat]? = some (f x):=⟨by omega,by simp[h]⟩
theorem XP{l:List UInt8}{x:UInt8}{r:List UInt8}(h:l.drop i=x::r):0<=(i:Int)/\l[(i:Int).toNat]? = some x:=⟨by omega,by simp[xu h]⟩
theorem Ui{l:List UInt8}{n:Int}(h0:0<=n)(h:n<l.length):0<=n/\l[n.toNat]? = some (l.getD n.toNat 0):=by
 refine⟨h0,?_⟩
 have:n.toNat<l.length:=by omega
 rw[List.getD_eq_getElem?_getD,List.getElem?_eq_getElem this];rfl
theorem Ex.css_map(l:List Ex):l.map Ex.cs=Ex.css l:=(Ex.css_eq l).symm
theorem PS{α β:Type}{l:List α}{m:List β}{x:α×β}{r:List (α×β)}(h:(l.zip m).drop i=x::r):l[i]? = some x.1/\m[i]? = some x.2:=by
 have:=xu h
 rw[List.getElem?_zip_eq_some]at this
 exact this
theorem fB{α β γ:Type}{l:List α}{m:List β}{f:α->γ}{x:α×β}{r:List (α×β)}(h:(l.zip m).drop i=x::r):0<=(i:Int)/\(l.map f)[(i:Int).toNat]? = some (f x.1):=yU (PS h).1
theorem fC{α β γ:Type}{l:List α}{m:List β}{f:β->γ}{x:α×β}{r:List (α×β)}(h:(l.zip m).drop i=x::r):0<=(i:Int)/\(m.map f)[(i:Int).toNat]? = some (f x.2):=yU (PS h).2
theorem PT{m:List Ex}{x:Ex×Ex}{r:List (Ex×Ex)}(h:(l.zip m).drop i=x::r):0<=(i:Int)/\(Ex.css l)[(i:Int).toNat]? = some (Ex.cs x.1):=by rw[Ex.css_eq];exact fB h
theorem PU{m:List Ex}{x:Ex×Ex}{r:List (Ex×Ex)}(h:(l.zip m).drop i=x::r):0<=(i:Int)/\(Ex.css m)[(i:Int).toNat]? = some (Ex.cs x.2):=by rw[Ex.css_eq];exact fC h
theorem bT{α β:Type}{l:List α}{m:List β}(h:l.length=m.length):(l.zip m).length=l.length:=by simp[h]
theorem XQ{l:List UInt8}{x:UInt8}{r:List UInt8}{q:UInt8->Prop}(h:l.drop i=x::r)(h4:q x):∃c,(0<=(i:Int)/\l[(i:Int).toNat]? = some c)/\q c:=⟨x,XP h,h4⟩
theorem Ju{l:List UInt8}{n:Int}{q:UInt8->Prop}(h0:0<=n)(h:n<l.length)(h4:q (l.getD n.toNat 0)):∃c,(0<=n/\l[n.toNat]? = some c)/\q c:=⟨_,Ui h0 h,h4⟩
theorem dD{s s' id:Nat}{es:List (List D)}{e:Env}(h1:s=s')(h2:es = [])(h3:K.get id=none)(h4:bu id=false)(h5:dU id e=false)(h6:mZ id K=false):s=s'/\es = []/\K.get id=none/\bu id=false/\dU id e=false/\mZ id K=false:=⟨h1,h2,h3,h4,h5,h6⟩
theorem dO{b:Block}{id:Nat}{e:Env}(h3:b.isTok0=true)(h4:bu id=false)(h5:dU id e=false)(h6:mZ id K=false):b.isTok0=true/\bu id=false/\dU id e=false/\mZ id K=false:=⟨h3,h4,h5,h6⟩
theorem mi{a b:Bool}{q:Prop}(h1:a=true)(h2:b=true)(h:q):(a=true/\b=true)/\q:=⟨⟨h1,h2⟩,h⟩
theorem iL{K0 K K1:Heap}{x y:AV}(h:fin K0 K x y K1):F5 K0 K x K1 (.pan y):=by
 unfold F5;exact h
end Go.Fw
namespace Go.Fw
variable [ae]
theorem ww{a b v v' len:Nat}{k:Bool}{n:Int}{q:Prop}(h1:k=true)(h2:a=b)(h3:v=v')(h4:0<=n/\n<len)(h:q):(k=true/\a=b/\v=v')/\(0<=n/\n<len)/\q:=⟨⟨h1,h2,h3⟩,h4,h⟩
theorem qx{k sc:Bool}{v v' s s' l m off i:Nat}{es:List (List D)}{q:List D->Prop}(h1:k=true)(h2:v=v')(h3:s=s')(h4:l=m)(h5:off+l<=s')(h6:sc=true)(e:List D)(h7:es[i]? = some e)(h:q e) :
  k=true/\(v=v'/\s=s')/\l=m/\off+l<=s'/\sc=true/\∃e,es[i]? = some e/\q e:=⟨h1,⟨h2,h3⟩,h4,h5,h6,e,h7,h⟩
theorem EJ{v v' s s' i:Nat}{es:List (List D)}{q:List D->Prop}(h1:v=v')(h2:s=s')(e:List D)(h4:es[i]? = some e)(h:q e):(v=v'/\s=s')/\∃e,es[i]? = some e/\q e:=⟨⟨h1,h2⟩,e,h4,h⟩
theorem EK{v v' s s' t n m x w:Nat}{q:Prop}(h1:v=v')(h2:s=s')(h3:s=t)(h4:n<=m)(hb:Nat.ble w 65536=true)(hx:n<=1073741824)(hy:x<=1073741824)(h:q):((v=v'/\s'=s)/\s=t/\n<=m)/\(n+x) * w<=140737488355328/\q:=
 ⟨⟨⟨h1,h2.symm⟩,h3,h4⟩,Wn hx hy hb,h⟩
theorem XR{n m:Int}{c:Nat}{q:Prop}(h1:0<=n)(h2:n<=m)(hb:Nat.ble c 65536=true)(h3:m<=1073741824)(h:q):(0<=n/\n<=m/\m * (c:Int)<=140737488355328)/\q:=by
 refine⟨⟨h1,h2,?_⟩,h⟩
 have hb:=Nat.le_of_ble_eq_true hb
 have:m * (c:Int)<=1073741824 * 65536:=Int.mul_le_mul h3 (by omega) (by omega) (by omega)
 omega
abbrev ik{β:Type}(ev:β->Env)(hv:β->Heap)(keep:List Nat)(I:β->Prop)(μ:β->Nat):Loop where
 S:=β
 ev:=ev
 hv:=hv
 keep:=keep
 I:=I
 μ:=μ
theorem bG{β:Type}{ev:β->Env}{hv:β->Heap}{keep:List Nat}{I:β->Prop}{μ:β->Nat}{E F:β->Prop}(b:β)(hW:E b)(hI:I b)(h:∀b,I b->F b) :
  (∃s,(ik ev hv keep I μ).I s/\E s)/\∀s,(ik ev hv keep I μ).I s->F s:=⟨⟨b,hI,hW⟩,h⟩
theorem aX{β:Type}{ev:β->Env}{hv:β->Heap}{keep:List Nat}{I:β->Prop}{μ:β->Nat}{E:β->Prop}{b0:β}(b:β)(hW:E b)(hI:I b)(hm:μ b<μ b0) :
  ∃s,(ik ev hv keep I μ).I s/\(ik ev hv keep I μ).μ s<(ik ev hv keep I μ).μ b0/\E s:=⟨b,hI,hm,hW⟩
theorem xx{n:Nat}(h:n<=9223372036854775806):AV.data (.val (.int .i64 (IntKind.i64.wrap ((n:Int)+1))))=AV.data (.val (.int .i64 ((n+1:Nat):Int))):=by
 rw[dX (by omega) (by omega)];rfl
theorem PV{n k:Nat}(h:n+k<=9223372036854775807):IntKind.i64.wrap ((n:Int)+(k:Int))=((n+k:Nat):Int):=Uh h
theorem z0v{p:UInt8->Bool}{s:List UInt8}{n:Nat}(h:s.length<=n):(s.drop n).takeWhile p = []:=by rw[List.drop_eq_nil_of_le h];rfl
theorem drop_cons{s:List UInt8}{n:Nat}(h:n<s.length):s.drop n=s.getD n 0::s.drop (n+1):=by
 rw[List.drop_eq_getElem_cons h];simp[List.getD_eq_getElem?_getD,List.getElem?_eq_getElem h]
theorem z5c{p:UInt8->Bool}{s:List UInt8}{n:Nat}(h:n<s.length)(hp:p (s.getD n 0)=false):(s.drop n).takeWhile p = []:=by
 rw[drop_cons h,List.takeWhile_cons_of_neg (by simpa using hp)]
theorem z0w{p:UInt8->Bool}{s:List UInt8}{n:Nat}(h:n<s.length)(hp:p (s.getD n 0)=true):(s.drop n).takeWhile p=s.getD n 0::(s.drop (n+1)).takeWhile p:=by
 rw[drop_cons h,List.takeWhile_cons_of_pos hp]
structure z0x(p:UInt8->Bool)(s:List UInt8)(a n:Nat):Prop where
 le:a<=n
 end_:n<=s.length
 eq:((s.drop a).takeWhile p).length+a=((s.drop n).takeWhile p).length+n
variable {p : UInt8 → Bool} {s : List UInt8} {a n : Nat}
theorem z0y:∀l:List UInt8,(l.takeWhile p).length<=l.length
 | []=>Nat.le_refl _
 |c::r=>by
  simp only[List.takeWhile_cons];split
  ·simpa using z0y r
  ·simp
theorem MB{a:Nat}(h:a<=s.length):z0x p s a a:=⟨Nat.le_refl _,h,rfl⟩
theorem PW(h:z0x p s a n)(hl:n<s.length)(hp:p (s.getD n 0)=true):z0x p s a (n+1):=by
 refine⟨by have:=h.le;omega,hl,?_⟩
 have:=h.eq
 rw[z0w hl hp]at this
 simp only[List.length_cons]at this;omega
theorem yV:∀l:List UInt8,l.take (l.takeWhile p).length=l.takeWhile p
 | []=>rfl
 |c::r=>by
  simp only[List.takeWhile_cons];split
  ·simp[yV r]
  ·simp
theorem Uj(h:z0x p s a n)(he:s.length<=n\/(n<s.length/\p (s.getD n 0)=false)):n=a+((s.drop a).takeWhile p).length:=by
 have h0:=h.eq
 have:(s.drop n).takeWhile p = []:=by
  rcases he with he |⟨h1,h2⟩
  ·exact z0v he
  ·exact z5c h1 h2
 rw[this]at h0
 simp only[List.length_nil]at h0;omega
theorem Uk(h:n=a+((s.drop a).takeWhile p).length):(s.take n).drop a=(s.drop a).takeWhile p:=by
 rw[<-yV (s.drop a),List.drop_take,h,Nat.add_sub_cancel_left]
theorem rE{a:Nat}(h:a<=s.length):a+((s.drop a).takeWhile p).length<=s.length:=by
 have:=z0y (p:=p) (s.drop a)
 simp only[List.length_drop]at this;omega
theorem dP{A M:pM->Prop}(out:pM)(h:A out)(h2:M out):∃out,A out/\M out:=⟨out,h,h2⟩
theorem dQ{d:D}{q:Prop}(h1:D.flat d=true)(h2:q):D.flat d=true/\q:=⟨h1,h2⟩
end Go.Fw
