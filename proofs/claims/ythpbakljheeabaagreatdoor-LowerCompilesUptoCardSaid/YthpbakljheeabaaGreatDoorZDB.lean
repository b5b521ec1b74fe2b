/- The functions of package names, as plain functions: declaring. -/
import Derived.Lib.IndexMore
import Derived.Test.YthpbakljheeabaaGreatDoorZLL
set_option linter.unusedSectionVars false
set_option linter.unusedSimpArgs false
set_option linter.unusedVariables false
namespace Go.Fw.Nam
variable [ah]
open Ref15
def signs:Str:=[123,125,40,41,59,44,61,58,46,60,62,33,43,45,42,47]
def cls(c:UInt8):Int:=
 if Ref03.letter c then 2 else if Ref03.figure c then 3 else if(c.toNat:Int)==95 then 5
 else if((c.toNat:Int)==32 || (c.toNat:Int)==9 || (c.toNat:Int)==10 || (c.toNat:Int)==13)then 1
 else if decide (Lib.indexByte signs c>=0)then 4 else 0
def Jt(c:UInt8):Bool:=!(cls c != 2&&cls c != 3&&cls c != 5)
def DX(s:Str):Bool:=!((s==[] || decide ((s.length:Int)>32)) || cls (s.getD 0 0) != 2)&&s.all Jt
structure En where
 kind:Int
 index:Int
 frm:Int
variable {s : Str} {p : Pr} {f : D → Prop}
abbrev Pe:=Str×En
variable {l : List Pe}
abbrev nmC(x:Pe):List D:=[.str x.1]
abbrev enC(x:Pe):List D:=[.i x.2.kind,.i x.2.index,.i x.2.frm]
def jW(k:Int):List Str->Nat->List Pe
 | [],_=>[]
 |s::r,i=>(s,⟨k,i,0⟩)::jW k r (i+1)
def xR:List Sm->Nat->List Pe
 | [],_=>[]
 |s::r,i=>if s.kind==1 then(s.name,⟨5,i,i+1⟩)::xR r (i+1)else xR r (i+1)
theorem uk(k:Int):∀(l:List Str) (i:Nat),(jW k l i).length=l.length
 | [],_=>rfl
 |_::r,i=>by simp[jW,uk k r]
theorem LY:∀(l:List Sm) (i:Nat),(xR l i).length<=l.length
 | [],_=>Nat.le_refl _
 |s::r,i=>by
  have:=LY r (i+1)
  simp only[xR];split<;>simp<;>omega
def T1(p:Pr):List Pe:=jW 3 (bounds p.params) 0
def T2(p:Pr):List Pe:=T1 p++jW 4 (bounds p.states) 0
def T3(p:Pr):List Pe:=T2 p++jW 8 (lines p) 0
def T4(p:Pr):List Pe:=T3 p++jW 9 (tables p) 0
def decl(p:Pr):List Pe:=T4 p++xR p.stmts 0
theorem LZ(h:p.Small):(T1 p).length<=67108864:=by have:=h.params;simp[T1,uk,bounds];omega
theorem L6(h:p.Small):(T2 p).length<=134217728:=by have:=LZ h;have:=h.states;simp[T2,uk,bounds];omega
theorem L8(h:p.Small):(T3 p).length<=201326592:=by have:=L6 h;have:=h.lines;simp[T3,uk,lines];omega
theorem L9(h:p.Small):(T4 p).length<=268435456:=by have:=L8 h;have:=h.tables;simp[T4,uk,tables];omega
theorem DY(h:p.Small):(decl p).length<=335544320:=by have:=L9 h;have:=h.stmts;have:=LY p.stmts 0;simp[decl];omega
theorem gZ{α:Type}{a b c:List α}{n:Nat}(h:a++b=c)(hc:c.length<=n):a.length<=n:=by
 have:=congrArg List.length h;simp at this;omega
def Md:Str:=[32,112,114,111,99,101,115,115,111,114,32,108,97,116,101,110,99,121,32,116,97,105,108,32,102,111,114,101,118,101,114,32,112,97,114,97,109,32,115,116,97,116,101,32,108,105,110,101,32,116,97,98,108,101,32,102,114,111,109,32,116,111,32,108,101,116,32,115,101,116,32,112,117,115,104,32,111,117,116,32,105,102,32,116,104,101,110,32,101,108,115,101,32,105,110,32,115,105,100,101,32,116,97,112,32,108,111,111,107,32,115,97,116,32,109,105,110,32,109,97,120,32,97,98,115,32]
def nmOk(s:Str):Bool:=DX s && !Lib.contains Md ([32]++s++[32])
theorem zH(h:DX s=true):s.length<=32:=by
 simp[DX]at h;omega
abbrev mC(x:Pe):D×D:=(.str x.1,.agg (enC x))
def mkM(l:List Pe):List (D×D):=l.map mC
def jg(l:List Pe):List Str:=l.map (·.1)
theorem nM(a b:Str):dH (.str a) (.str b)=(a==b):=rfl
theorem zI:∀{l:List Pe},s ∉ jg l->oh (.str s) (mkM l)=none
 | [],_=>rfl
 |x::r,h=>by
  simp only[jg,List.map_cons,List.mem_cons,not_or]at h
  have hb:(s==x.1)=false:=by simpa using h.1
  simp only[mkM,List.map_cons,oh,nM,hb]
  exact zI (l:=r) h.2
theorem Me{v:D}:∀{l:List Pe},s ∉ jg l->mput (.str s) v (mkM l)=mkM l++[(.str s,v)]
 | [],_=>rfl
 |x::r,h=>by
  simp only[jg,List.map_cons,List.mem_cons,not_or]at h
  have hb:(s==x.1)=false:=by simpa using h.1
  simp only[mkM,List.map_cons,mput,nM,hb,List.cons_append]
  exact congrArg _ (Me (l:=r) h.2)
theorem Gm{x:Pe}{d:List Pe}(h:x.1 ∉ jg d):mput (.str x.1) (.agg (enC x)) (mkM d)=mkM (d++[x]):=by
 rw[Me h];simp[mkM]
theorem vW{n:Nat}(h:n<=9223372036854775807):(IntKind.i64.max-(n:Int)).NonNeg:=by
 have:(n:Int)<=IntKind.i64.max:=by simp[IntKind.max,IntKind.signed,IntKind.bits];omega
 exact this
theorem opt_none{o:Option D}{g:Prop}(h:o=none)(hg:g):sF o f g:=by subst h;exact hg
theorem opt_some{o:Option D}{g:Prop}{d:D}(h:o=some d)(hg:f d):sF o f g:=by subst h;exact hg
def uniq(l:List Pe):Prop:=(jg l).Nodup
theorem Gn:∀{l:List Pe},s∈jg l->∃e:En,oh (.str s) (mkM l)=some (.agg [.i e.kind,.i e.index,.i e.frm])
 | [],h=>by simp[jg]at h
 |x::r,h=>by
  simp only[mkM,List.map_cons,oh,nM]
  cases hb:(s==x.1)with
  |true=>exact⟨x.2,rfl⟩
  |false=>
   simp only[jg,List.map_cons,List.mem_cons]at h
   rcases h with h |h
   ·subst h;simp at hb
   ·exact Gn (l:=r) h
theorem Rz{g:Prop}(h1:∀e:En,s∈jg l->f (.agg [.i e.kind,.i e.index,.i e.frm]))(h2:s ∉ jg l->g):sF (oh (.str s) (mkM l)) f g:=by
 by_cases hm:s∈jg l
 ·obtain⟨e,he⟩:=Gn hm
  exact opt_some he (h1 e hm)
 ·exact opt_none (zI hm) (h2 hm)
theorem RD{d:List Pe}{x:Pe}(h:uniq d)(hm:x.1 ∉ jg d):uniq (d++[x]):=by
 unfold uniq jg at h ⊢
 rw[List.map_append,List.nodup_append]
 refine⟨h,by simp,?_⟩
 intro a ha b hb hab
 simp only[List.map_cons,List.map_nil,List.mem_singleton]at hb
 subst hb;subst hab
 exact hm ha
theorem RF{l d r:List Pe}{x:Pe}(h:uniq l)(e:d++x::r=l):x.1 ∉ jg d:=by
 subst e
 unfold uniq jg at h
 rw[List.map_append,List.nodup_append]at h
 intro hm
 exact h.2.2 _ hm _ (by simp) rfl
end Go.Fw.Nam
namespace Go.Fw
abbrev RG(l:List Bd):List D:=[.sl 3 (l.map Bd.cs)]
def lens{α:Type}(ls:List (List α)):Nat:=(ls.map List.length).sum
theorem lens_cons{α:Type}(l:List α)(r:List (List α)):lens (l::r)=l.length+lens r:=by simp[lens]
theorem DZ{α:Type}:lens ([]:List (List α))=0:=rfl
theorem zJ{α:Type}(ls:List (List α)):ls.flatten.length=lens ls:=by simp[lens,List.length_flatten]
end Go.Fw
namespace Go.Fw.Nam
variable [ah]
abbrev lnB(l:Ln):Bd:=⟨[],l.lo,l.hi⟩
def allB(p:Pr):List Bd:=[p.params,p.states].flatten++p.lines.map lnB
def bd1(b:Bd):Bool:=(sample b.lo&&sample b.hi)&&decide (b.lo<=b.hi)
def tb2(t:Tb):Bool:=!bad t.values
def sm2(s:Sm):Bool:=every lX s.x
def ranged(p:Pr):Bool:=(allB p).all bd1&&(p.tables.all tb2&&p.stmts.all sm2)
theorem V8{p:Pr}(h:p.Small):(allB p).length<=201326592:=by
 have:=h.params;have:=h.states;have:=h.lines
 simp[allB];omega
end Go.Fw.Nam
namespace Go.Fw
theorem quiet_step[ah]{T:Tbl}{N:List Nat}{kp i:Nat}{tr:List Rec}{q:Prop}(h:iU T N kp i tr=true)(h2:q):iU T N kp i tr=true/\q:=⟨h,h2⟩
end Go.Fw
namespace Go.Fw.Nam
variable [ah]
def lk(n:Str):List Pe->Option En
 | []=>none
 |x::r=>if n==x.1 then some x.2 else lk n r
theorem Ju(n:Str):∀l:List Pe,oh (.str n) (mkM l)=(lk n l).map λe=>.agg [.i e.kind,.i e.index,.i e.frm]
 | []=>rfl
 |x::r=>by
  simp only[mkM,List.map_cons,oh,nM,lk]
  cases hb:(n==x.1)with
  |true=>rfl
  |false=>exact Ju n r
theorem RH{n:Str}{l:List Pe}{f:D->Prop}{g:Prop}(h1:∀e:En,lk n l=some e->f (.agg [.i e.kind,.i e.index,.i e.frm]))(h2:lk n l=none->g):sF (oh (.str n) (mkM l)) f g:=by
 cases hk:lk n l with
 |none=>exact opt_none (by rw[Ju,hk];rfl) (h2 hk)
 |some e=>exact opt_some (d:=.agg [.i e.kind,.i e.index,.i e.frm]) (by rw[Ju,hk];rfl) (h1 e hk)
def arr(k:Int):Bool:=k==8 || k==9
def eok(i k:Int)(e:En):Bool:=decide (i>=e.frm)&&(e.kind==k || (!arr e.kind && !arr k))
def vok(l:List Pe)(i k:Int)(n:Str):Bool:=!(arity k).2 || (match lk n l with |some e=>eok i k e |none=>false)
def D5(l:List Pe)(k:Int)(n:Str):Int:=if(arity k).2 then(match lk n l with |some e=>e.kind |none=>0)else k
def V9(l:List Pe)(k:Int)(n:Str):Int:=if(arity k).2 then(match lk n l with |some e=>e.index |none=>0)else 0
mutual
def Ak(l:List Pe)(i:Int):Ex->Bool
 | .mk k n _ _ ys=>vok l i k n&&rQ l i ys
def rQ(l:List Pe)(i:Int):List Ex->Bool
 | []=>true
 |y::r=>Ak l i y&&rQ l i r
end
mutual
def vis(l:List Pe):Ex->Ex
 | .mk k n _ m ys=>.mk (D5 l k n) n (V9 l k n) m (Vd l ys)
def Vd(l:List Pe):List Ex->List Ex
 | []=>[]
 |y::r=>vis l y::Vd l r
end
theorem D6(l:List Pe)(i:Int)(x:Ex):Ak l i x=(vok l i x.kind x.name&&rQ l i x.l):=by cases x;rw[Ak];rfl
theorem Yl(l:List Pe)(x:Ex):vis l x = .mk (D5 l x.kind x.name) x.name (V9 l x.kind x.name) x.n (Vd l x.l):=by cases x;rw[vis];rfl
theorem RI{l:List Pe}{i:Int}:rQ l i []=true:=by simp[rQ]
theorem OQ{l:List Pe}{i:Int}{x:Ex}{r:List Ex}(h:rQ l i (x::r)=false):(Ak l i x=true/\rQ l i r=false)\/Ak l i x=false:=by
 simp only[rQ]at h
 cases hb:Ak l i x with
 |true=>left;rw[hb]at h;exact⟨rfl,h⟩
 |false=>exact .inr rfl
def ER(k:Int):Bool:=k==2 || k==3
def kindOf(k:Int):Int:=if k==2 then 4 else 8
def target(l:List Pe)(s:Sm):Option En:=match lk s.name l with |some e=>if e.kind==kindOf s.kind then some e else none |none=>none
def ZN(l:List Pe)(s:Sm):Int:=if ER s.kind then(match target l s with |some e=>e.index |none=>0)else 0
def outS(l:List Pe)(s:Sm):Sm:=⟨s.kind,s.name,ZN l s,vis l s.x⟩
def lm(l:List Pe)(s:Sm)(i:Nat)(done:List (Int×Int))(out:Bool):Int:=
 if !Ak l i s.x then 150
 else if ER s.kind then
  match target l s with
  |none=>150
  |some e=>if !out && !(done.any λd=>d.1==e.kind&&d.2==e.index)then(if !out then 0 else 151)else 151
 else if !out then 0 else 151
def vX(l:List Pe)(s:Sm)(done:List (Int×Int)):List (Int×Int):=if ER s.kind then(match target l s with |some e=>done++[(e.kind,e.index)] |none=>done)else done
def Gp(l:List Pe):List Sm->Nat->List (Int×Int)->Bool->Except Int (List Sm)
 | [],_,_,out=>if out then .ok []else .error 150
 |s::r,i,done,out=>
  if lm l s i done out != 0 then .error (lm l s i done out)
  else match Gp l r (i+1) (vX l s done) (s.kind==4)with
   | .error e=>.error e
   | .ok t=>.ok (outS l s::t)
end Go.Fw.Nam
namespace Go.Fw.Nam
variable [ah] {l : List Pe} {s : Sm} {o : Bool} {i : Nat} {ts : List Sm} {e : En} {r : List Sm} {p : Pr}
abbrev dnC(d:Int×Int):D×D:=(.agg [.i d.1,.i d.2],.b true)
def lZ(d:List (Int×Int))(a b:Int):Bool:=d.any λx=>x.1==a&&x.2==b
theorem ZO(b:Bool):b=true\/b=false:=by cases b<;>simp
theorem xe(a b c d:Int):dH (.agg [.i a,.i b]) (.agg [.i c,.i d])=(a==c&&b==d):=by
 simp[dH,sameL,sameS]
theorem Gq(a b:Int):∀d:List (Int×Int),oh (.agg [.i a,.i b]) (d.map dnC)=if lZ d a b then some (.b true)else none
 | []=>rfl
 |x::r=>by
  have e:lZ (x::r) a b=((x.1==a&&x.2==b) || lZ r a b):=rfl
  simp only[List.map_cons,oh,xe]
  rw[e]
  by_cases h:(a==x.1&&b==x.2)=true
  ·have h':(x.1==a&&x.2==b)=true:=by simp at h ⊢;exact⟨h.1.symm,h.2.symm⟩
   simp[h,h']
  ·have h0:(a==x.1&&b==x.2)=false:=by simpa using h
   have h':(x.1==a&&x.2==b)=false:=by
    cases hb:(x.1==a&&x.2==b)with
    |false=>rfl
    |true=>simp at hb;simp[hb.1,hb.2]at h0
   rw[h0,h']
   simpa using Gq a b r
theorem We{a b:Int}{d:List (Int×Int)}{f:D->Prop}{g:Prop}(h1:lZ d a b=true->f (.b true))(h2:lZ d a b=false->g):sF (oh (.agg [.i a,.i b]) (d.map dnC)) f g:=by
 rw[Gq]
 cases h:lZ d a b with
 |true=>exact h1 h
 |false=>exact h2 h
theorem Gs{a b:Int}:∀{d:List (Int×Int)},lZ d a b=false->mput (.agg [.i a,.i b]) (.b true) (d.map dnC)=(d++[(a,b)]).map dnC
 | [],_=>rfl
 |x::r,h=>by
  have e:lZ (x::r) a b=((x.1==a&&x.2==b) || lZ r a b):=rfl
  rw[e,Bool.or_eq_false_iff]at h
  have h0:(a==x.1&&b==x.2)=false:=by
   cases hb:(a==x.1&&b==x.2)with
   |false=>rfl
   |true=>simp at hb;simp[hb.1,hb.2]at h
  simp only[List.map_cons,mput,xe,h0,List.cons_append]
  exact congrArg _ (Gs h.2)
theorem RJ{k:Int}{f:D->Prop}{g:Prop}(hk:(bif k==2 then true else k==3)=true)(h:f (.i (kindOf k))):sF (oh (.i k) (mput (.i 3) (.i 8) (mput (.i 2) (.i 4) []))) f g:=by
 have e:oh (.i k) (mput (.i 3) (.i 8) (mput (.i 2) (.i 4) []))=some (.i (kindOf k)):=by
  rw[show mput (.i 3) (.i 8) (mput (.i 2) (.i 4) []) = [(.i 2,.i 4),(.i 3,.i 8)]from rfl]
  simp only[oh,dH,sameS,kindOf]
  cases h2:(k==2)with
  |true=>simp
  |false=>rw[h2]at hk;simp only[cond_false]at hk;simp[hk]
 rw[e];exact h
theorem zK{d:List (Int×Int)}{e:Int}(h:lm l s i d o=e)(he:e≠0):Ref15.fin p ts (Gp l (s::r) i d o)=(Pr.none,e):=by
 simp only[Gp]
 rw[if_pos (by rw[h];simpa using he),h];rfl
theorem Ym{d:List (Int×Int)}(h:lm l s i d o=0):Ref15.fin p ts (Gp l (s::r) i d o)=Ref15.fin p (ts++[outS l s]) (Gp l r (i+1) (vX l s d) (s.kind==4)):=by
 simp only[Gp]
 rw[if_neg (by rw[h];simp)]
 exact Ref15.fin_cons
theorem Wh{d:List (Int×Int)}(h:Ak l i s.x=false):lm l s i d o=150:=by simp[lm,h]
theorem l9(k:Int):(bif k==2 then true else k==3)=ER k:=by simp[ER]
theorem RN{d:List (Int×Int)}(h:Ak l i s.x=true)(hk:(bif s.kind==2 then true else s.kind==3)=true)(ht:lk s.name l=none):lm l s i d o=150:=by
 rw[l9]at hk;simp[lm,h,hk,target,ht]
theorem RQ{d:List (Int×Int)}(h:Ak l i s.x=true)(hk:(bif s.kind==2 then true else s.kind==3)=true)(ht:lk s.name l=some e)(he:(bif true then e.kind==kindOf s.kind else false)=false):lm l s i d o=150:=by
 rw[l9]at hk;simp only[cond_true]at he;simp[lm,h,hk,target,ht,he]
theorem ul(ht:lk s.name l=some e)(he:(bif true then e.kind==kindOf s.kind else false)=true):target l s=some e:=by
 simp only[cond_true]at he;simp[target,ht,he]
theorem RU{d:List (Int×Int)}(h:Ak l i s.x=true)(hk:(bif s.kind==2 then true else s.kind==3)=true)(ht:target l s=some e)(hd:(bif !o then !lZ d e.kind e.index else false)=false):lm l s i d o=151:=by
 rw[l9]at hk;simp only[lm,h,hk,ht]
 have:(!o && !d.any λx=>x.1==e.kind&&x.2==e.index)=false:=by simpa[lZ,Bool.cond_false_right]using hd
 simp[this]
theorem ZP{d:List (Int×Int)}(h:Ak l i s.x=true)(hk:(bif s.kind==2 then true else s.kind==3)=true)(ht:target l s=some e)(hd:(bif !o then !lZ d e.kind e.index else false)=true):lm l s i d o=0:=by
 rw[l9]at hk;simp only[lm,h,hk,ht]
 have:(!o && !d.any λx=>x.1==e.kind&&x.2==e.index)=true:=by simpa[lZ,Bool.cond_false_right]using hd
 have ho:o=false:=by cases o<;>simp_all
 subst ho
 simp only[Bool.not_false,Bool.not_true,Bool.false_eq_true,if_false,if_true,reduceIte]at this ⊢
 rw[if_pos this]
theorem Wi{d:List (Int×Int)}(h:Ak l i s.x=true)(hk:(bif s.kind==2 then true else s.kind==3)=false)(ho:(!o)=false):lm l s i d o=151:=by
 rw[l9]at hk;simp_all[lm]
theorem stop_ok'{d:List (Int×Int)}(h:Ak l i s.x=true)(hk:(bif s.kind==2 then true else s.kind==3)=false)(ho:(!o)=true):lm l s i d o=0:=by
 rw[l9]at hk;simp_all[lm]
theorem Wj{d:List (Int×Int)}(hk:(bif s.kind==2 then true else s.kind==3)=true)(ht:target l s=some e):vX l s d=d++[(e.kind,e.index)]:=by
 rw[l9]at hk;simp[vX,hk,ht]
theorem Wl{d:List (Int×Int)}(hk:(bif s.kind==2 then true else s.kind==3)=false):vX l s d=d:=by
 rw[l9]at hk;simp[vX,hk]
theorem ZQ(hk:(bif s.kind==2 then true else s.kind==3)=true)(ht:target l s=some e):ZN l s=e.index:=by
 rw[l9]at hk;simp[ZN,hk,ht]
theorem ZR(hk:(bif s.kind==2 then true else s.kind==3)=false):ZN l s=0:=by
 rw[l9]at hk;simp[ZN,hk]
theorem ZT{d:List (Int×Int)}(ho:o=true):Ref15.fin p ts (Gp l [] i d o)=({ p with stmts:=ts },0):=by
 subst ho;simp[Gp,Ref15.fin]
theorem ZU{d:List (Int×Int)}(ho:o=false):Ref15.fin p ts (Gp l [] i d o)=(Pr.none,150):=by
 subst ho;simp[Gp,Ref15.fin]
theorem zL{q:Pr×Int}{x:Pr}{e:Int}(h:q=(x,e)):D.tuple [x.d,.val (.int .i64 e)]=D.tuple [q.1.d,.i q.2]:=by subst h;rfl
theorem RV{xs:List Sm}{x:Sm}{A B q:Prop}(l:List Pe)(_:xs.drop i=x::r)(hI:A/\B)(h1:Ak l (i:Int) x.x=true->A->B->q)(h2:Ak l (i:Int) x.x=false->A->B->q):q:=by
 rcases ZO (Ak l (i:Int) x.x)with h |h
 ·exact h1 h hI.1 hI.2
 ·exact h2 h hI.1 hI.2
theorem z8a(hk:(bif s.kind==2 then true else s.kind==3)=false):ts.map Sm.cs++[[.i s.kind,.str s.name,.i 0,.i (vis l s.x).kind,.str (vis l s.x).name,.i (vis l s.x).index,.i (vis l s.x).n,.sl 5 (Ex.css (vis l s.x).l)]]=(ts++[outS l s]).map Sm.cs:=by
 simp[outS,ZR hk]
theorem z8b(hk:(bif s.kind==2 then true else s.kind==3)=true)(ht:target l s=some e):ts.map Sm.cs++[[.i s.kind,.str s.name,.i e.index,.i (vis l s.x).kind,.str (vis l s.x).name,.i (vis l s.x).index,.i (vis l s.x).n,.sl 5 (Ex.css (vis l s.x).l)]]=(ts++[outS l s]).map Sm.cs:=by
 simp[outS,ZQ hk ht]
theorem OT{o b:Bool}{q:Prop}(h1:(bif !o then b else false)=true)(h2:(!o)=false):q:=by rw[h2]at h1;cases h1
theorem z4i{d:List (Int×Int)}(hk:(bif s.kind==2 then true else s.kind==3)=false):Block.map true [.int .i64,.int .i64] (d.map dnC)=Block.map true [.int .i64,.int .i64] ((vX l s d).map dnC):=by
 rw[Wl hk]
theorem z4j{d:List (Int×Int)}(hk:(bif s.kind==2 then true else s.kind==3)=true)(ht:target l s=some e)(hd:(bif !o then !lZ d e.kind e.index else false)=true):Block.map true [.int .i64,.int .i64] (mput (.agg [.i e.kind,.i e.index]) (.b true) (d.map dnC))=Block.map true [.int .i64,.int .i64] ((vX l s d).map dnC):=by
 have hd':lZ d e.kind e.index=false:=by cases o<;>simp_all
 rw[Wj hk ht,Gs hd']
end Go.Fw.Nam
namespace Go.Fw.Nam
variable [ah]
open Ref15
def DF(s:Str):List Str->Bool
 | []=>false
 |x::r=>x==s || DF s r
def AC:List Str->Bool
 | []=>true
 |x::r=>!DF x r&&AC r
theorem um{s:Str}:∀{l:List Str},DF s l=true↔s∈l
 | []=>by simp[DF]
 |x::r=>by
  simp only[DF,Bool.or_eq_true,List.mem_cons,um (l:=r),beq_iff_eq]
  constructor
  ·rintro(h |h)
   ·exact .inl h.symm
   ·exact .inr h
  ·rintro(h |h)
   ·exact .inl h.symm
   ·exact .inr h
theorem o8:∀{l:List Str},AC l=true↔l.Nodup
 | []=>by simp[AC]
 |x::r=>by
  simp only[AC,Bool.and_eq_true,Bool.not_eq_true',List.nodup_cons,o8 (l:=r)]
  constructor
  ·rintro⟨h,h2⟩
   exact⟨λhm=>by rw[um.2 hm]at h;simp at h,h2⟩
  ·rintro⟨h,h2⟩
   refine⟨?_,h2⟩
   cases hb:DF x r with
   |false=>rfl
   |true=>exact absurd (um.1 hb) h
def resolveC(p:Pr):Pr×Int:=
 if !formed p then(Pr.none,1)
 else if !limited p then(Pr.none,2)
 else if !((p.name::jg (decl p)).all nmOk)then(Pr.none,150)
 else if !AC (jg (decl p))then(Pr.none,151)
 else if !ranged p then(Pr.none,161)
 else Ref15.fin p [] (Gp (decl p) p.stmts 0 [] false)
end Go.Fw.Nam
