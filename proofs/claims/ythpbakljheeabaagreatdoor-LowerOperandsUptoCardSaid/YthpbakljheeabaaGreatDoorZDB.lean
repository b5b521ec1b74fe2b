/- The functions of package names, as plain functions: declaring. -/
import Derived.Lib.IndexMore
import Derived.Test.YthpbakljheeabaaGreatDoorZLL
set_option linter.unusedSectionVars false
set_option linter.unusedSimpArgs false
set_option linter.unusedVariables false
namespace Go.Fw.Nam
variable [af]
open Ref15
def signs:Str:=[123,125,40,41,59,44,61,58,46,60,62,33,43,45,42,47]
def cls(c:UInt8):Int:=
 if Ref03.letter c then 2 else if Ref03.figure c then 3 else if(c.toNat:Int)==95 then 5
 else if((c.toNat:Int)==32 || (c.toNat:Int)==9 || (c.toNat:Int)==10 || (c.toNat:Int)==13)then 1
 else if decide (Lib.indexByte signs c>=0)then 4 else 0
def IW(c:UInt8):Bool:=!(cls c != 2&&cls c != 3&&cls c != 5)
def Dl(s:Str):Bool:=!((s==[] || decide ((s.length:Int)>32)) || cls (s.getD 0 0) != 2)&&s.all IW
structure En where
 kind:Int
 index:Int
 frm:Int
variable {s : Str} {p : Pr} {f : D → Prop}
abbrev Pe:=Str×En
variable {l : List Pe}
abbrev nmC(x:Pe):List D:=[.str x.1]
abbrev enC(x:Pe):List D:=[.i x.2.kind,.i x.2.index,.i x.2.frm]
def jG(k:Int):List Str->Nat->List Pe
 | [],_=>[]
 |s::r,i=>(s,⟨k,i,0⟩)::jG k r (i+1)
def xm:List Sm->Nat->List Pe
 | [],_=>[]
 |s::r,i=>if s.kind==1 then(s.name,⟨5,i,i+1⟩)::xm r (i+1)else xm r (i+1)
theorem tq(k:Int):∀(l:List Str) (i:Nat),(jG k l i).length=l.length
 | [],_=>rfl
 |_::r,i=>by simp[jG,tq k r]
theorem KW:∀(l:List Sm) (i:Nat),(xm l i).length<=l.length
 | [],_=>Nat.le_refl _
 |s::r,i=>by
  have:=KW r (i+1)
  simp only[xm];split<;>simp<;>omega
def T1(p:Pr):List Pe:=jG 3 (bounds p.params) 0
def T2(p:Pr):List Pe:=T1 p++jG 4 (bounds p.states) 0
def T3(p:Pr):List Pe:=T2 p++jG 8 (lines p) 0
def T4(p:Pr):List Pe:=T3 p++jG 9 (tables p) 0
def decl(p:Pr):List Pe:=T4 p++xm p.stmts 0
theorem KX(h:p.Small):(T1 p).length<=67108864:=by have:=h.params;simp[T1,tq,bounds];omega
theorem KY(h:p.Small):(T2 p).length<=134217728:=by have:=KX h;have:=h.states;simp[T2,tq,bounds];omega
theorem KZ(h:p.Small):(T3 p).length<=201326592:=by have:=KY h;have:=h.lines;simp[T3,tq,lines];omega
theorem La(h:p.Small):(T4 p).length<=268435456:=by have:=KZ h;have:=h.tables;simp[T4,tq,tables];omega
theorem Dn(h:p.Small):(decl p).length<=335544320:=by have:=La h;have:=h.stmts;have:=KW p.stmts 0;simp[decl];omega
theorem gK{α:Type}{a b c:List α}{n:Nat}(h:a++b=c)(hc:c.length<=n):a.length<=n:=by
 have:=congrArg List.length h;simp at this;omega
def Lc:Str:=[32,112,114,111,99,101,115,115,111,114,32,108,97,116,101,110,99,121,32,116,97,105,108,32,102,111,114,101,118,101,114,32,112,97,114,97,109,32,115,116,97,116,101,32,108,105,110,101,32,116,97,98,108,101,32,102,114,111,109,32,116,111,32,108,101,116,32,115,101,116,32,112,117,115,104,32,111,117,116,32,105,102,32,116,104,101,110,32,101,108,115,101,32,105,110,32,115,105,100,101,32,116,97,112,32,108,111,111,107,32,115,97,116,32,109,105,110,32,109,97,120,32,97,98,115,32]
def nmOk(s:Str):Bool:=Dl s && !Lib.contains Lc ([32]++s++[32])
theorem y7(h:Dl s=true):s.length<=32:=by
 simp[Dl]at h;omega
abbrev mC(x:Pe):D×D:=(.str x.1,.agg (enC x))
def mkM(l:List Pe):List (D×D):=l.map mC
def iW(l:List Pe):List Str:=l.map (·.1)
theorem mX(a b:Str):dD (.str a) (.str b)=(a==b):=rfl
theorem y8:∀{l:List Pe},s ∉ iW l->nI (.str s) (mkM l)=none
 | [],_=>rfl
 |x::r,h=>by
  simp only[iW,List.map_cons,List.mem_cons,not_or]at h
  have hb:(s==x.1)=false:=by simpa using h.1
  simp only[mkM,List.map_cons,nI,mX,hb]
  exact y8 (l:=r) h.2
theorem Ld{v:D}:∀{l:List Pe},s ∉ iW l->mput (.str s) v (mkM l)=mkM l++[(.str s,v)]
 | [],_=>rfl
 |x::r,h=>by
  simp only[iW,List.map_cons,List.mem_cons,not_or]at h
  have hb:(s==x.1)=false:=by simpa using h.1
  simp only[mkM,List.map_cons,mput,mX,hb,List.cons_append]
  exact congrArg _ (Ld (l:=r) h.2)
theorem FD{x:Pe}{d:List Pe}(h:x.1 ∉ iW d):mput (.str x.1) (.agg (enC x)) (mkM d)=mkM (d++[x]):=by
 rw[Ld h];simp[mkM]
theorem ve{n:Nat}(h:n<=9223372036854775807):(IntKind.i64.max-(n:Int)).NonNeg:=by
 have:(n:Int)<=IntKind.i64.max:=by simp[IntKind.max,IntKind.signed,IntKind.bits];omega
 exact this
theorem opt_none{o:Option D}{g:Prop}(h:o=none)(hg:g):rD o f g:=by subst h;exact hg
theorem opt_some{o:Option D}{g:Prop}{d:D}(h:o=some d)(hg:f d):rD o f g:=by subst h;exact hg
def uniq(l:List Pe):Prop:=(iW l).Nodup
theorem FH:∀{l:List Pe},s∈iW l->∃e:En,nI (.str s) (mkM l)=some (.agg [.i e.kind,.i e.index,.i e.frm])
 | [],h=>by simp[iW]at h
 |x::r,h=>by
  simp only[mkM,List.map_cons,nI,mX]
  cases hb:(s==x.1)with
  |true=>exact⟨x.2,rfl⟩
  |false=>
   simp only[iW,List.map_cons,List.mem_cons]at h
   rcases h with h |h
   ·subst h;simp at hb
   ·exact FH (l:=r) h
theorem QM{g:Prop}(h1:∀e:En,s∈iW l->f (.agg [.i e.kind,.i e.index,.i e.frm]))(h2:s ∉ iW l->g):rD (nI (.str s) (mkM l)) f g:=by
 by_cases hm:s∈iW l
 ·obtain⟨e,he⟩:=FH hm
  exact opt_some he (h1 e hm)
 ·exact opt_none (y8 hm) (h2 hm)
theorem QN{d:List Pe}{x:Pe}(h:uniq d)(hm:x.1 ∉ iW d):uniq (d++[x]):=by
 unfold uniq iW at h ⊢
 rw[List.map_append,List.nodup_append]
 refine⟨h,by simp,?_⟩
 intro a ha b hb hab
 simp only[List.map_cons,List.map_nil,List.mem_singleton]at hb
 subst hb;subst hab
 exact hm ha
theorem QO{l d r:List Pe}{x:Pe}(h:uniq l)(e:d++x::r=l):x.1 ∉ iW d:=by
 subst e
 unfold uniq iW at h
 rw[List.map_append,List.nodup_append]at h
 intro hm
 exact h.2.2 _ hm _ (by simp) rfl
end Go.Fw.Nam
namespace Go.Fw
abbrev QR(l:List Bd):List D:=[.sl 3 (l.map Bd.cs)]
def lens{α:Type}(ls:List (List α)):Nat:=(ls.map List.length).sum
theorem lens_cons{α:Type}(l:List α)(r:List (List α)):lens (l::r)=l.length+lens r:=by simp[lens]
theorem Dp{α:Type}:lens ([]:List (List α))=0:=rfl
theorem y9{α:Type}(ls:List (List α)):ls.flatten.length=lens ls:=by simp[lens,List.length_flatten]
end Go.Fw
namespace Go.Fw.Nam
variable [af]
abbrev lnB(l:Ln):Bd:=⟨[],l.lo,l.hi⟩
def allB(p:Pr):List Bd:=[p.params,p.states].flatten++p.lines.map lnB
def bd1(b:Bd):Bool:=(sample b.lo&&sample b.hi)&&decide (b.lo<=b.hi)
def tb2(t:Tb):Bool:=!bad t.values
def sm2(s:Sm):Bool:=every lI s.x
def ranged(p:Pr):Bool:=(allB p).all bd1&&(p.tables.all tb2&&p.stmts.all sm2)
theorem Vs{p:Pr}(h:p.Small):(allB p).length<=201326592:=by
 have:=h.params;have:=h.states;have:=h.lines
 simp[allB];omega
end Go.Fw.Nam
namespace Go.Fw
theorem quiet_step[af]{T:Tbl}{N:List Nat}{kp i:Nat}{tr:List Rec}{q:Prop}(h:iH T N kp i tr=true)(h2:q):iH T N kp i tr=true/\q:=⟨h,h2⟩
end Go.Fw
namespace Go.Fw.Nam
variable [af]
def lk(n:Str):List Pe->Option En
 | []=>none
 |x::r=>if n==x.1 then some x.2 else lk n r
theorem IX(n:Str):∀l:List Pe,nI (.str n) (mkM l)=(lk n l).map λe=>.agg [.i e.kind,.i e.index,.i e.frm]
 | []=>rfl
 |x::r=>by
  simp only[mkM,List.map_cons,nI,mX,lk]
  cases hb:(n==x.1)with
  |true=>rfl
  |false=>exact IX n r
theorem QS{n:Str}{l:List Pe}{f:D->Prop}{g:Prop}(h1:∀e:En,lk n l=some e->f (.agg [.i e.kind,.i e.index,.i e.frm]))(h2:lk n l=none->g):rD (nI (.str n) (mkM l)) f g:=by
 cases hk:lk n l with
 |none=>exact opt_none (by rw[IX,hk];rfl) (h2 hk)
 |some e=>exact opt_some (d:=.agg [.i e.kind,.i e.index,.i e.frm]) (by rw[IX,hk];rfl) (h1 e hk)
def arr(k:Int):Bool:=k==8 || k==9
def eok(i k:Int)(e:En):Bool:=decide (i>=e.frm)&&(e.kind==k || (!arr e.kind && !arr k))
def vok(l:List Pe)(i k:Int)(n:Str):Bool:=!(arity k).2 || (match lk n l with |some e=>eok i k e |none=>false)
def Dq(l:List Pe)(k:Int)(n:Str):Int:=if(arity k).2 then(match lk n l with |some e=>e.kind |none=>0)else k
def Vt(l:List Pe)(k:Int)(n:Str):Int:=if(arity k).2 then(match lk n l with |some e=>e.index |none=>0)else 0
mutual
def zL(l:List Pe)(i:Int):Ex->Bool
 | .mk k n _ _ ys=>vok l i k n&&qV l i ys
def qV(l:List Pe)(i:Int):List Ex->Bool
 | []=>true
 |y::r=>zL l i y&&qV l i r
end
mutual
def vis(l:List Pe):Ex->Ex
 | .mk k n _ m ys=>.mk (Dq l k n) n (Vt l k n) m (Uy l ys)
def Uy(l:List Pe):List Ex->List Ex
 | []=>[]
 |y::r=>vis l y::Uy l r
end
theorem Dt(l:List Pe)(i:Int)(x:Ex):zL l i x=(vok l i x.kind x.name&&qV l i x.l):=by cases x;rw[zL];rfl
theorem XH(l:List Pe)(x:Ex):vis l x = .mk (Dq l x.kind x.name) x.name (Vt l x.kind x.name) x.n (Uy l x.l):=by cases x;rw[vis];rfl
theorem QT{l:List Pe}{i:Int}:qV l i []=true:=by simp[qV]
theorem Oa{l:List Pe}{i:Int}{x:Ex}{r:List Ex}(h:qV l i (x::r)=false):(zL l i x=true/\qV l i r=false)\/zL l i x=false:=by
 simp only[qV]at h
 cases hb:zL l i x with
 |true=>left;rw[hb]at h;exact⟨rfl,h⟩
 |false=>exact .inr rfl
def Eh(k:Int):Bool:=k==2 || k==3
def kindOf(k:Int):Int:=if k==2 then 4 else 8
def target(l:List Pe)(s:Sm):Option En:=match lk s.name l with |some e=>if e.kind==kindOf s.kind then some e else none |none=>none
def Zd(l:List Pe)(s:Sm):Int:=if Eh s.kind then(match target l s with |some e=>e.index |none=>0)else 0
def outS(l:List Pe)(s:Sm):Sm:=⟨s.kind,s.name,Zd l s,vis l s.x⟩
def kR(l:List Pe)(s:Sm)(i:Nat)(done:List (Int×Int))(out:Bool):Int:=
 if !zL l i s.x then 150
 else if Eh s.kind then
  match target l s with
  |none=>150
  |some e=>if !out && !(done.any λd=>d.1==e.kind&&d.2==e.index)then(if !out then 0 else 151)else 151
 else if !out then 0 else 151
def vg(l:List Pe)(s:Sm)(done:List (Int×Int)):List (Int×Int):=if Eh s.kind then(match target l s with |some e=>done++[(e.kind,e.index)] |none=>done)else done
def FI(l:List Pe):List Sm->Nat->List (Int×Int)->Bool->Except Int (List Sm)
 | [],_,_,out=>if out then .ok []else .error 150
 |s::r,i,done,out=>
  if kR l s i done out != 0 then .error (kR l s i done out)
  else match FI l r (i+1) (vg l s done) (s.kind==4)with
   | .error e=>.error e
   | .ok t=>.ok (outS l s::t)
end Go.Fw.Nam
namespace Go.Fw.Nam
variable [af] {l : List Pe} {s : Sm} {o : Bool} {i : Nat} {ts : List Sm} {e : En} {r : List Sm} {p : Pr}
abbrev dnC(d:Int×Int):D×D:=(.agg [.i d.1,.i d.2],.b true)
def lK(d:List (Int×Int))(a b:Int):Bool:=d.any λx=>x.1==a&&x.2==b
theorem Ze(b:Bool):b=true\/b=false:=by cases b<;>simp
theorem wo(a b c d:Int):dD (.agg [.i a,.i b]) (.agg [.i c,.i d])=(a==c&&b==d):=by
 simp[dD,sameL,sameS]
theorem FK(a b:Int):∀d:List (Int×Int),nI (.agg [.i a,.i b]) (d.map dnC)=if lK d a b then some (.b true)else none
 | []=>rfl
 |x::r=>by
  have e:lK (x::r) a b=((x.1==a&&x.2==b) || lK r a b):=rfl
  simp only[List.map_cons,nI,wo]
  rw[e]
  by_cases h:(a==x.1&&b==x.2)=true
  ·have h':(x.1==a&&x.2==b)=true:=by simp at h ⊢;exact⟨h.1.symm,h.2.symm⟩
   simp[h,h']
  ·have h0:(a==x.1&&b==x.2)=false:=by simpa using h
   have h':(x.1==a&&x.2==b)=false:=by
    cases hb:(x.1==a&&x.2==b)with
    |false=>rfl
    |true=>simp at hb;simp[hb.1,hb.2]at h0
   rw[h0,h']
   simpa using FK a b r
theorem Vu{a b:Int}{d:List (Int×Int)}{f:D->Prop}{g:Prop}(h1:lK d a b=true->f (.b true))(h2:lK d a b=false->g):rD (nI (.agg [.i a,.i b]) (d.map dnC)) f g:=by
 rw[FK]
 cases h:lK d a b with
 |true=>exact h1 h
 |false=>exact h2 h
theorem FM{a b:Int}:∀{d:List (Int×Int)},lK d a b=false->mput (.agg [.i a,.i b]) (.b true) (d.map dnC)=(d++[(a,b)]).map dnC
 | [],_=>rfl
 |x::r,h=>by
  have e:lK (x::r) a b=((x.1==a&&x.2==b) || lK r a b):=rfl
  rw[e,Bool.or_eq_false_iff]at h
  have h0:(a==x.1&&b==x.2)=false:=by
   cases hb:(a==x.1&&b==x.2)with
   |false=>rfl
   |true=>simp at hb;simp[hb.1,hb.2]at h
  simp only[List.map_cons,mput,wo,h0,List.cons_append]
  exact congrArg _ (FM h.2)
theorem QU{k:Int}{f:D->Prop}{g:Prop}(hk:(bif k==2 then true else k==3)=true)(h:f (.i (kindOf k))):rD (nI (.i k) (mput (.i 3) (.i 8) (mput (.i 2) (.i 4) []))) f g:=by
 have e:nI (.i k) (mput (.i 3) (.i 8) (mput (.i 2) (.i 4) []))=some (.i (kindOf k)):=by
  rw[show mput (.i 3) (.i 8) (mput (.i 2) (.i 4) []) = [(.i 2,.i 4),(.i 3,.i 8)]from rfl]
  simp only[nI,dD,sameS,kindOf]
  cases h2:(k==2)with
  |true=>simp
  |false=>rw[h2]at hk;simp only[cond_false]at hk;simp[hk]
 rw[e];exact h
theorem zf{d:List (Int×Int)}{e:Int}(h:kR l s i d o=e)(he:e≠0):Ref15.fin p ts (FI l (s::r) i d o)=(Pr.none,e):=by
 simp only[FI]
 rw[if_pos (by rw[h];simpa using he),h];rfl
theorem XI{d:List (Int×Int)}(h:kR l s i d o=0):Ref15.fin p ts (FI l (s::r) i d o)=Ref15.fin p (ts++[outS l s]) (FI l r (i+1) (vg l s d) (s.kind==4)):=by
 simp only[FI]
 rw[if_neg (by rw[h];simp)]
 exact Ref15.fin_cons
theorem Vw{d:List (Int×Int)}(h:zL l i s.x=false):kR l s i d o=150:=by simp[kR,h]
theorem lL(k:Int):(bif k==2 then true else k==3)=Eh k:=by simp[Eh]
theorem QV{d:List (Int×Int)}(h:zL l i s.x=true)(hk:(bif s.kind==2 then true else s.kind==3)=true)(ht:lk s.name l=none):kR l s i d o=150:=by
 rw[lL]at hk;simp[kR,h,hk,target,ht]
theorem QW{d:List (Int×Int)}(h:zL l i s.x=true)(hk:(bif s.kind==2 then true else s.kind==3)=true)(ht:lk s.name l=some e)(he:(bif true then e.kind==kindOf s.kind else false)=false):kR l s i d o=150:=by
 rw[lL]at hk;simp only[cond_true]at he;simp[kR,h,hk,target,ht,he]
theorem tu(ht:lk s.name l=some e)(he:(bif true then e.kind==kindOf s.kind else false)=true):target l s=some e:=by
 simp only[cond_true]at he;simp[target,ht,he]
theorem QX{d:List (Int×Int)}(h:zL l i s.x=true)(hk:(bif s.kind==2 then true else s.kind==3)=true)(ht:target l s=some e)(hd:(bif !o then !lK d e.kind e.index else false)=false):kR l s i d o=151:=by
 rw[lL]at hk;simp only[kR,h,hk,ht]
 have:(!o && !d.any λx=>x.1==e.kind&&x.2==e.index)=false:=by simpa[lK,Bool.cond_false_right]using hd
 simp[this]
theorem Zf{d:List (Int×Int)}(h:zL l i s.x=true)(hk:(bif s.kind==2 then true else s.kind==3)=true)(ht:target l s=some e)(hd:(bif !o then !lK d e.kind e.index else false)=true):kR l s i d o=0:=by
 rw[lL]at hk;simp only[kR,h,hk,ht]
 have:(!o && !d.any λx=>x.1==e.kind&&x.2==e.index)=true:=by simpa[lK,Bool.cond_false_right]using hd
 have ho:o=false:=by cases o<;>simp_all
 subst ho
 simp only[Bool.not_false,Bool.not_true,Bool.false_eq_true,if_false,if_true,reduceIte]at this ⊢
 rw[if_pos this]
theorem Vx{d:List (Int×Int)}(h:zL l i s.x=true)(hk:(bif s.kind==2 then true else s.kind==3)=false)(ho:(!o)=false):kR l s i d o=151:=by
 rw[lL]at hk;simp_all[kR]
theorem stop_ok'{d:List (Int×Int)}(h:zL l i s.x=true)(hk:(bif s.kind==2 then true else s.kind==3)=false)(ho:(!o)=true):kR l s i d o=0:=by
 rw[lL]at hk;simp_all[kR]
theorem Vy{d:List (Int×Int)}(hk:(bif s.kind==2 then true else s.kind==3)=true)(ht:target l s=some e):vg l s d=d++[(e.kind,e.index)]:=by
 rw[lL]at hk;simp[vg,hk,ht]
theorem Vz{d:List (Int×Int)}(hk:(bif s.kind==2 then true else s.kind==3)=false):vg l s d=d:=by
 rw[lL]at hk;simp[vg,hk]
theorem Zg(hk:(bif s.kind==2 then true else s.kind==3)=true)(ht:target l s=some e):Zd l s=e.index:=by
 rw[lL]at hk;simp[Zd,hk,ht]
theorem Zh(hk:(bif s.kind==2 then true else s.kind==3)=false):Zd l s=0:=by
 rw[lL]at hk;simp[Zd,hk]
theorem Zi{d:List (Int×Int)}(ho:o=true):Ref15.fin p ts (FI l [] i d o)=({ p with stmts:=ts },0):=by
 subst ho;simp[FI,Ref15.fin]
theorem Zj{d:List (Int×Int)}(ho:o=false):Ref15.fin p ts (FI l [] i d o)=(Pr.none,150):=by
 subst ho;simp[FI,Ref15.fin]
theorem zg{q:Pr×Int}{x:Pr}{e:Int}(h:q=(x,e)):D.tuple [x.d,.val (.int .i64 e)]=D.tuple [q.1.d,.i q.2]:=by subst h;rfl
theorem QY{xs:List Sm}{x:Sm}{A B q:Prop}(l:List Pe)(_:xs.drop i=x::r)(hI:A/\B)(h1:zL l (i:Int) x.x=true->A->B->q)(h2:zL l (i:Int) x.x=false->A->B->q):q:=by
 rcases Ze (zL l (i:Int) x.x)with h |h
 ·exact h1 h hI.1 hI.2
 ·exact h2 h hI.1 hI.2
theorem z7r(hk:(bif s.kind==2 then true else s.kind==3)=false):ts.map Sm.cs++[[.i s.kind,.str s.name,.i 0,.i (vis l s.x).kind,.str (vis l s.x).name,.i (vis l s.x).index,.i (vis l s.x).n,.sl 5 (Ex.css (vis l s.x).l)]]=(ts++[outS l s]).map Sm.cs:=by
 simp[outS,Zh hk]
theorem z7s(hk:(bif s.kind==2 then true else s.kind==3)=true)(ht:target l s=some e):ts.map Sm.cs++[[.i s.kind,.str s.name,.i e.index,.i (vis l s.x).kind,.str (vis l s.x).name,.i (vis l s.x).index,.i (vis l s.x).n,.sl 5 (Ex.css (vis l s.x).l)]]=(ts++[outS l s]).map Sm.cs:=by
 simp[outS,Zg hk ht]
theorem Ob{o b:Bool}{q:Prop}(h1:(bif !o then b else false)=true)(h2:(!o)=false):q:=by rw[h2]at h1;cases h1
theorem z3g{d:List (Int×Int)}(hk:(bif s.kind==2 then true else s.kind==3)=false):Block.map true [.int .i64,.int .i64] (d.map dnC)=Block.map true [.int .i64,.int .i64] ((vg l s d).map dnC):=by
 rw[Vz hk]
theorem z3h{d:List (Int×Int)}(hk:(bif s.kind==2 then true else s.kind==3)=true)(ht:target l s=some e)(hd:(bif !o then !lK d e.kind e.index else false)=true):Block.map true [.int .i64,.int .i64] (mput (.agg [.i e.kind,.i e.index]) (.b true) (d.map dnC))=Block.map true [.int .i64,.int .i64] ((vg l s d).map dnC):=by
 have hd':lK d e.kind e.index=false:=by cases o<;>simp_all
 rw[Vy hk ht,FM hd']
end Go.Fw.Nam
namespace Go.Fw.Nam
variable [af]
open Ref15
def CV(s:Str):List Str->Bool
 | []=>false
 |x::r=>x==s || CV s r
def zY:List Str->Bool
 | []=>true
 |x::r=>!CV x r&&zY r
theorem tC{s:Str}:∀{l:List Str},CV s l=true↔s∈l
 | []=>by simp[CV]
 |x::r=>by
  simp only[CV,Bool.or_eq_true,List.mem_cons,tC (l:=r),beq_iff_eq]
  constructor
  ·rintro(h |h)
   ·exact .inl h.symm
   ·exact .inr h
  ·rintro(h |h)
   ·exact .inl h.symm
   ·exact .inr h
theorem oI:∀{l:List Str},zY l=true↔l.Nodup
 | []=>by simp[zY]
 |x::r=>by
  simp only[zY,Bool.and_eq_true,Bool.not_eq_true',List.nodup_cons,oI (l:=r)]
  constructor
  ·rintro⟨h,h2⟩
   exact⟨λhm=>by rw[tC.2 hm]at h;simp at h,h2⟩
  ·rintro⟨h,h2⟩
   refine⟨?_,h2⟩
   cases hb:CV x r with
   |false=>rfl
   |true=>exact absurd (tC.1 hb) h
def resolveC(p:Pr):Pr×Int:=
 if !formed p then(Pr.none,1)
 else if !limited p then(Pr.none,2)
 else if !((p.name::iW (decl p)).all nmOk)then(Pr.none,150)
 else if !zY (iW (decl p))then(Pr.none,151)
 else if !ranged p then(Pr.none,161)
 else Ref15.fin p [] (FI (decl p) p.stmts 0 [] false)
end Go.Fw.Nam
