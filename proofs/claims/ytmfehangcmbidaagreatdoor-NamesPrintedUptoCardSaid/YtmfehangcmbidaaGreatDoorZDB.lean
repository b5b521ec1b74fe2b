/- The functions of package names, as plain functions: declaring. -/
import Derived.Lib.IndexMore
import Derived.Test.YtmfehangcmbidaaGreatDoorZLL
set_option linter.unusedSectionVars false
set_option linter.unusedSimpArgs false
set_option linter.unusedVariables false
namespace Go.Fw.Nam
variable [ae]
open Ref15
def signs:Str:=[123,125,40,41,59,44,61,58,46,60,62,33,43,45,42,47]
def cls(c:UInt8):Int:=
 if Ref03.letter c then 2 else if Ref03.figure c then 3 else if(c.toNat:Int)==95 then 5
 else if((c.toNat:Int)==32 || (c.toNat:Int)==9 || (c.toNat:Int)==10 || (c.toNat:Int)==13)then 1
 else if decide (Lib.indexByte signs c>=0)then 4 else 0
def BC(c:UInt8):Bool:=!(cls c != 2&&cls c != 3&&cls c != 5)
def uV(s:Str):Bool:=!((s==[] || decide ((s.length:Int)>32)) || cls (s.getD 0 0) != 2)&&s.all BC
structure En where
 kind:Int
 index:Int
 frm:Int
variable {s : Str} {p : Pr} {f : D → Prop}
abbrev Pe:=Str×En
variable {l : List Pe}
abbrev nmC(x:Pe):List D:=[.str x.1]
abbrev enC(x:Pe):List D:=[.i x.2.kind,.i x.2.index,.i x.2.frm]
def kJ(k:Int):List Str->Nat->List Pe
 | [],_=>[]
 |s::r,i=>(s,⟨k,i,0⟩)::kJ k r (i+1)
def xY:List Sm->Nat->List Pe
 | [],_=>[]
 |s::r,i=>if s.kind==1 then(s.name,⟨5,i,i+1⟩)::xY r (i+1)else xY r (i+1)
theorem vJ(k:Int):∀(l:List Str) (i:Nat),(kJ k l i).length=l.length
 | [],_=>rfl
 |_::r,i=>by simp[kJ,vJ k r]
theorem Nl:∀(l:List Sm) (i:Nat),(xY l i).length<=l.length
 | [],_=>Nat.le_refl _
 |s::r,i=>by
  have:=Nl r (i+1)
  simp only[xY];split<;>simp<;>omega
def T1(p:Pr):List Pe:=kJ 3 (bounds p.params) 0
def T2(p:Pr):List Pe:=T1 p++kJ 4 (bounds p.states) 0
def T3(p:Pr):List Pe:=T2 p++kJ 8 (lines p) 0
def T4(p:Pr):List Pe:=T3 p++kJ 9 (tables p) 0
def decl(p:Pr):List Pe:=T4 p++xY p.stmts 0
theorem Np(h:p.Small):(T1 p).length<=67108864:=by have:=h.params;simp[T1,vJ,bounds];omega
theorem Nq(h:p.Small):(T2 p).length<=134217728:=by have:=Np h;have:=h.states;simp[T2,vJ,bounds];omega
theorem Nr(h:p.Small):(T3 p).length<=201326592:=by have:=Nq h;have:=h.lines;simp[T3,vJ,lines];omega
theorem Ns(h:p.Small):(T4 p).length<=268435456:=by have:=Nr h;have:=h.tables;simp[T4,vJ,tables];omega
theorem EN(h:p.Small):(decl p).length<=335544320:=by have:=Ns h;have:=h.stmts;have:=Nl p.stmts 0;simp[decl];omega
theorem ik{α:Type}{a b c:List α}{n:Nat}(h:a++b=c)(hc:c.length<=n):a.length<=n:=by
 have:=congrArg List.length h;simp at this;omega
def Um:Str:=[32,112,114,111,99,101,115,115,111,114,32,108,97,116,101,110,99,121,32,116,97,105,108,32,102,111,114,101,118,101,114,32,112,97,114,97,109,32,115,116,97,116,101,32,108,105,110,101,32,116,97,98,108,101,32,102,114,111,109,32,116,111,32,108,101,116,32,115,101,116,32,112,117,115,104,32,111,117,116,32,105,102,32,116,104,101,110,32,101,108,115,101,32,105,110,32,115,105,100,101,32,116,97,112,32,108,111,111,107,32,115,97,116,32,109,105,110,32,109,97,120,32,97,98,115,32]
def nmOk(s:Str):Bool:=uV s && !Lib.contains Um ([32]++s++[32])
theorem AA(h:uV s=true):s.length<=32:=by
 simp[uV]at h;omega
abbrev mC(x:Pe):D×D:=(.str x.1,.agg (enC x))
def mkM(l:List Pe):List (D×D):=l.map mC
def jM(l:List Pe):List Str:=l.map (·.1)
theorem nV(a b:Str):eH (.str a) (.str b)=(a==b):=rfl
theorem AB:∀{l:List Pe},s ∉ jM l->su (.str s) (mkM l)=none
 | [],_=>rfl
 |x::r,h=>by
  simp only[jM,List.map_cons,List.mem_cons,not_or]at h
  have hb:(s==x.1)=false:=by simpa using h.1
  simp only[mkM,List.map_cons,su,nV,hb]
  exact AB (l:=r) h.2
theorem Nu{v:D}:∀{l:List Pe},s ∉ jM l->mput (.str s) v (mkM l)=mkM l++[(.str s,v)]
 | [],_=>rfl
 |x::r,h=>by
  simp only[jM,List.map_cons,List.mem_cons,not_or]at h
  have hb:(s==x.1)=false:=by simpa using h.1
  simp only[mkM,List.map_cons,mput,nV,hb,List.cons_append]
  exact congrArg _ (Nu (l:=r) h.2)
theorem H5{x:Pe}{d:List Pe}(h:x.1 ∉ jM d):mput (.str x.1) (.agg (enC x)) (mkM d)=mkM (d++[x]):=by
 rw[Nu h];simp[mkM]
theorem xy{n:Nat}(h:n<=9223372036854775807):(IntKind.i64.max-(n:Int)).NonNeg:=by
 have:(n:Int)<=IntKind.i64.max:=by simp[IntKind.max,IntKind.signed,IntKind.bits];omega
 exact this
theorem EO{o:Option D}{g:Prop}(h:o=none)(hg:g):vT o f g:=by subst h;exact hg
theorem Nv{o:Option D}{g:Prop}{d:D}(h:o=some d)(hg:f d):vT o f g:=by subst h;exact hg
def uniq(l:List Pe):Prop:=(jM l).Nodup
theorem H6:∀{l:List Pe},s∈jM l->∃e:En,su (.str s) (mkM l)=some (.agg [.i e.kind,.i e.index,.i e.frm])
 | [],h=>by simp[jM]at h
 |x::r,h=>by
  simp only[mkM,List.map_cons,su,nV]
  cases hb:(s==x.1)with
  |true=>exact⟨x.2,rfl⟩
  |false=>
   simp only[jM,List.map_cons,List.mem_cons]at h
   rcases h with h |h
   ·subst h;simp at hb
   ·exact H6 (l:=r) h
theorem Un{g:Prop}(h1:∀e:En,s∈jM l->f (.agg [.i e.kind,.i e.index,.i e.frm]))(h2:s ∉ jM l->g):vT (su (.str s) (mkM l)) f g:=by
 by_cases hm:s∈jM l
 ·obtain⟨e,he⟩:=H6 hm
  exact Nv he (h1 e hm)
 ·exact EO (AB hm) (h2 hm)
theorem Uo{d:List Pe}{x:Pe}(h:uniq d)(hm:x.1 ∉ jM d):uniq (d++[x]):=by
 unfold uniq jM at h ⊢
 rw[List.map_append,List.nodup_append]
 refine⟨h,by simp,?_⟩
 intro a ha b hb hab
 simp only[List.map_cons,List.map_nil,List.mem_singleton]at hb
 subst hb;subst hab
 exact hm ha
theorem Ur{l d r:List Pe}{x:Pe}(h:uniq l)(e:d++x::r=l):x.1 ∉ jM d:=by
 subst e
 unfold uniq jM at h
 rw[List.map_append,List.nodup_append]at h
 intro hm
 exact h.2.2 _ hm _ (by simp) rfl
end Go.Fw.Nam
namespace Go.Fw
abbrev z5m(l:List Bd):List D:=[.sl 3 (l.map Bd.cs)]
def lens{α:Type}(ls:List (List α)):Nat:=(ls.map List.length).sum
theorem lens_cons{α:Type}(l:List α)(r:List (List α)):lens (l::r)=l.length+lens r:=by simp[lens]
theorem Xe{α:Type}:lens ([]:List (List α))=0:=rfl
theorem Us{α:Type}(ls:List (List α)):ls.flatten.length=lens ls:=by simp[lens,List.length_flatten]
end Go.Fw
namespace Go.Fw.Nam
variable [ae]
abbrev lnB(l:Ln):Bd:=⟨[],l.lo,l.hi⟩
def allB(p:Pr):List Bd:=[p.params,p.states].flatten++p.lines.map lnB
def bd1(b:Bd):Bool:=(sample b.lo&&sample b.hi)&&decide (b.lo<=b.hi)
def tb2(t:Tb):Bool:=!bad t.values
def sm2(s:Sm):Bool:=every eU s.x
def ranged(p:Pr):Bool:=(allB p).all bd1&&(p.tables.all tb2&&p.stmts.all sm2)
theorem Xf{p:Pr}(h:p.Small):(allB p).length<=201326592:=by
 have:=h.params;have:=h.states;have:=h.lines
 simp[allB];omega
end Go.Fw.Nam
namespace Go.Fw
theorem quiet_step[ae]{T:Tbl}{N:List Nat}{kp i:Nat}{tr:List Rec}{q:Prop}(h:gX T N kp i tr=true)(h2:q):gX T N kp i tr=true/\q:=⟨h,h2⟩
end Go.Fw
namespace Go.Fw.Nam
variable [ae]
def lk(n:Str):List Pe->Option En
 | []=>none
 |x::r=>if n==x.1 then some x.2 else lk n r
theorem JS(n:Str):∀l:List Pe,su (.str n) (mkM l)=(lk n l).map λe=>.agg [.i e.kind,.i e.index,.i e.frm]
 | []=>rfl
 |x::r=>by
  simp only[mkM,List.map_cons,su,nV,lk]
  cases hb:(n==x.1)with
  |true=>rfl
  |false=>exact JS n r
theorem Ut{n:Str}{l:List Pe}{f:D->Prop}{g:Prop}(h1:∀e:En,lk n l=some e->f (.agg [.i e.kind,.i e.index,.i e.frm]))(h2:lk n l=none->g):vT (su (.str n) (mkM l)) f g:=by
 cases hk:lk n l with
 |none=>exact EO (by rw[JS,hk];rfl) (h2 hk)
 |some e=>exact Nv (d:=.agg [.i e.kind,.i e.index,.i e.frm]) (by rw[JS,hk];rfl) (h1 e hk)
def arr(k:Int):Bool:=k==8 || k==9
def eok(i k:Int)(e:En):Bool:=decide (i>=e.frm)&&(e.kind==k || (!arr e.kind && !arr k))
def vok(l:List Pe)(i k:Int)(n:Str):Bool:=!(arity k).2 || (match lk n l with |some e=>eok i k e |none=>false)
def iK(l:List Pe)(k:Int)(n:Str):Int:=if(arity k).2 then(match lk n l with |some e=>e.kind |none=>0)else k
def H7(l:List Pe)(k:Int)(n:Str):Int:=if(arity k).2 then(match lk n l with |some e=>e.index |none=>0)else 0
mutual
def visB(l:List Pe)(i:Int):Ex->Bool
 | .mk k n _ _ ys=>vok l i k n&&oI l i ys
def oI(l:List Pe)(i:Int):List Ex->Bool
 | []=>true
 |y::r=>visB l i y&&oI l i r
end
mutual
def vis(l:List Pe):Ex->Ex
 | .mk k n _ m ys=>.mk (iK l k n) n (H7 l k n) m (xA l ys)
def xA(l:List Pe):List Ex->List Ex
 | []=>[]
 |y::r=>vis l y::xA l r
end
theorem tZ(l:List Pe)(i:Int)(x:Ex):visB l i x=(vok l i x.kind x.name&&oI l i x.l):=by cases x;rw[visB];rfl
theorem vK(l:List Pe)(x:Ex):vis l x = .mk (iK l x.kind x.name) x.name (H7 l x.kind x.name) x.n (xA l x.l):=by cases x;rw[vis];rfl
theorem AC{l:List Pe}{i:Int}:oI l i []=true:=by simp[oI]
theorem Pi{l:List Pe}{i:Int}{x:Ex}{r:List Ex}(h:oI l i (x::r)=false):(visB l i x=true/\oI l i r=false)\/visB l i x=false:=by
 simp only[oI]at h
 cases hb:visB l i x with
 |true=>left;rw[hb]at h;exact⟨rfl,h⟩
 |false=>exact .inr rfl
def z0w(k:Int):Bool:=k==2 || k==3
def kindOf(k:Int):Int:=if k==2 then 4 else 8
def target(l:List Pe)(s:Sm):Option En:=match lk s.name l with |some e=>if e.kind==kindOf s.kind then some e else none |none=>none
def Fz(l:List Pe)(s:Sm):Int:=if z0w s.kind then(match target l s with |some e=>e.index |none=>0)else 0
def outS(l:List Pe)(s:Sm):Sm:=⟨s.kind,s.name,Fz l s,vis l s.x⟩
def jw(l:List Pe)(s:Sm)(i:Nat)(done:List (Int×Int))(out:Bool):Int:=
 if !visB l i s.x then 150
 else if z0w s.kind then
  match target l s with
  |none=>150
  |some e=>if !out && !(done.any λd=>d.1==e.kind&&d.2==e.index)then(if !out then 0 else 151)else 151
 else if !out then 0 else 151
def qZ(l:List Pe)(s:Sm)(done:List (Int×Int)):List (Int×Int):=if z0w s.kind then(match target l s with |some e=>done++[(e.kind,e.index)] |none=>done)else done
def rf(l:List Pe):List Sm->Nat->List (Int×Int)->Bool->Except Int (List Sm)
 | [],_,_,out=>if out then .ok []else .error 150
 |s::r,i,done,out=>
  if jw l s i done out != 0 then .error (jw l s i done out)
  else match rf l r (i+1) (qZ l s done) (s.kind==4)with
   | .error e=>.error e
   | .ok t=>.ok (outS l s::t)
end Go.Fw.Nam
namespace Go.Fw.Nam
variable [ae] {l : List Pe} {s : Sm} {o : Bool} {i : Nat} {ts : List Sm} {e : En} {r : List Sm} {p : Pr}
abbrev dnC(d:Int×Int):D×D:=(.agg [.i d.1,.i d.2],.b true)
def pX(d:List (Int×Int))(a b:Int):Bool:=d.any λx=>x.1==a&&x.2==b
theorem z0x(b:Bool):b=true\/b=false:=by cases b<;>simp
theorem xZ(a b c d:Int):eH (.agg [.i a,.i b]) (.agg [.i c,.i d])=(a==c&&b==d):=by
 simp[eH,sameL,sameS]
theorem H8(a b:Int):∀d:List (Int×Int),su (.agg [.i a,.i b]) (d.map dnC)=if pX d a b then some (.b true)else none
 | []=>rfl
 |x::r=>by
  have e:pX (x::r) a b=((x.1==a&&x.2==b) || pX r a b):=rfl
  simp only[List.map_cons,su,xZ]
  rw[e]
  by_cases h:(a==x.1&&b==x.2)=true
  ·have h':(x.1==a&&x.2==b)=true:=by simp at h ⊢;exact⟨h.1.symm,h.2.symm⟩
   simp[h,h']
  ·have h0:(a==x.1&&b==x.2)=false:=by simpa using h
   have h':(x.1==a&&x.2==b)=false:=by
    cases hb:(x.1==a&&x.2==b)with
    |false=>rfl
    |true=>simp at hb;simp[hb.1,hb.2]at h0
   rw[h0,h']
   simpa using H8 a b r
theorem Xg{a b:Int}{d:List (Int×Int)}{f:D->Prop}{g:Prop}(h1:pX d a b=true->f (.b true))(h2:pX d a b=false->g):vT (su (.agg [.i a,.i b]) (d.map dnC)) f g:=by
 rw[H8]
 cases h:pX d a b with
 |true=>exact h1 h
 |false=>exact h2 h
theorem H9{a b:Int}:∀{d:List (Int×Int)},pX d a b=false->mput (.agg [.i a,.i b]) (.b true) (d.map dnC)=(d++[(a,b)]).map dnC
 | [],_=>rfl
 |x::r,h=>by
  have e:pX (x::r) a b=((x.1==a&&x.2==b) || pX r a b):=rfl
  rw[e,Bool.or_eq_false_iff]at h
  have h0:(a==x.1&&b==x.2)=false:=by
   cases hb:(a==x.1&&b==x.2)with
   |false=>rfl
   |true=>simp at hb;simp[hb.1,hb.2]at h
  simp only[List.map_cons,mput,xZ,h0,List.cons_append]
  exact congrArg _ (H9 h.2)
theorem Uu{k:Int}{f:D->Prop}{g:Prop}(hk:(bif k==2 then true else k==3)=true)(h:f (.i (kindOf k))):vT (su (.i k) (mput (.i 3) (.i 8) (mput (.i 2) (.i 4) []))) f g:=by
 have e:su (.i k) (mput (.i 3) (.i 8) (mput (.i 2) (.i 4) []))=some (.i (kindOf k)):=by
  rw[show mput (.i 3) (.i 8) (mput (.i 2) (.i 4) []) = [(.i 2,.i 4),(.i 3,.i 8)]from rfl]
  simp only[su,eH,sameS,kindOf]
  cases h2:(k==2)with
  |true=>simp
  |false=>rw[h2]at hk;simp only[cond_false]at hk;simp[hk]
 rw[e];exact h
theorem AL{d:List (Int×Int)}{e:Int}(h:jw l s i d o=e)(he:e≠0):Ref15.fin p ts (rf l (s::r) i d o)=(Pr.none,e):=by
 simp only[rf]
 rw[if_pos (by rw[h];simpa using he),h];rfl
theorem Ym{d:List (Int×Int)}(h:jw l s i d o=0):Ref15.fin p ts (rf l (s::r) i d o)=Ref15.fin p (ts++[outS l s]) (rf l r (i+1) (qZ l s d) (s.kind==4)):=by
 simp only[rf]
 rw[if_neg (by rw[h];simp)]
 exact Ref15.fin_cons
theorem Ny{d:List (Int×Int)}(h:visB l i s.x=false):jw l s i d o=150:=by simp[jw,h]
theorem mg(k:Int):(bif k==2 then true else k==3)=z0w k:=by simp[z0w]
theorem Uw{d:List (Int×Int)}(h:visB l i s.x=true)(hk:(bif s.kind==2 then true else s.kind==3)=true)(ht:lk s.name l=none):jw l s i d o=150:=by
 rw[mg]at hk;simp[jw,h,hk,target,ht]
theorem Ux{d:List (Int×Int)}(h:visB l i s.x=true)(hk:(bif s.kind==2 then true else s.kind==3)=true)(ht:lk s.name l=some e)(he:(bif true then e.kind==kindOf s.kind else false)=false):jw l s i d o=150:=by
 rw[mg]at hk;simp only[cond_true]at he;simp[jw,h,hk,target,ht,he]
theorem vM(ht:lk s.name l=some e)(he:(bif true then e.kind==kindOf s.kind else false)=true):target l s=some e:=by
 simp only[cond_true]at he;simp[target,ht,he]
theorem Uy{d:List (Int×Int)}(h:visB l i s.x=true)(hk:(bif s.kind==2 then true else s.kind==3)=true)(ht:target l s=some e)(hd:(bif !o then !pX d e.kind e.index else false)=false):jw l s i d o=151:=by
 rw[mg]at hk;simp only[jw,h,hk,ht]
 have:(!o && !d.any λx=>x.1==e.kind&&x.2==e.index)=false:=by simpa[pX,Bool.cond_false_right]using hd
 simp[this]
theorem z0y{d:List (Int×Int)}(h:visB l i s.x=true)(hk:(bif s.kind==2 then true else s.kind==3)=true)(ht:target l s=some e)(hd:(bif !o then !pX d e.kind e.index else false)=true):jw l s i d o=0:=by
 rw[mg]at hk;simp only[jw,h,hk,ht]
 have:(!o && !d.any λx=>x.1==e.kind&&x.2==e.index)=true:=by simpa[pX,Bool.cond_false_right]using hd
 have ho:o=false:=by cases o<;>simp_all
 subst ho
 simp only[Bool.not_false,Bool.not_true,Bool.false_eq_true,if_false,if_true,reduceIte]at this ⊢
 rw[if_pos this]
theorem Xh{d:List (Int×Int)}(h:visB l i s.x=true)(hk:(bif s.kind==2 then true else s.kind==3)=false)(ho:(!o)=false):jw l s i d o=151:=by
 rw[mg]at hk;simp_all[jw]
theorem stop_ok'{d:List (Int×Int)}(h:visB l i s.x=true)(hk:(bif s.kind==2 then true else s.kind==3)=false)(ho:(!o)=true):jw l s i d o=0:=by
 rw[mg]at hk;simp_all[jw]
theorem Xi{d:List (Int×Int)}(hk:(bif s.kind==2 then true else s.kind==3)=true)(ht:target l s=some e):qZ l s d=d++[(e.kind,e.index)]:=by
 rw[mg]at hk;simp[qZ,hk,ht]
theorem Xj{d:List (Int×Int)}(hk:(bif s.kind==2 then true else s.kind==3)=false):qZ l s d=d:=by
 rw[mg]at hk;simp[qZ,hk]
theorem z0z(hk:(bif s.kind==2 then true else s.kind==3)=true)(ht:target l s=some e):Fz l s=e.index:=by
 rw[mg]at hk;simp[Fz,hk,ht]
theorem z00(hk:(bif s.kind==2 then true else s.kind==3)=false):Fz l s=0:=by
 rw[mg]at hk;simp[Fz,hk]
theorem z01{d:List (Int×Int)}(ho:o=true):Ref15.fin p ts (rf l [] i d o)=({ p with stmts:=ts },0):=by
 subst ho;simp[rf,Ref15.fin]
theorem z02{d:List (Int×Int)}(ho:o=false):Ref15.fin p ts (rf l [] i d o)=(Pr.none,150):=by
 subst ho;simp[rf,Ref15.fin]
theorem AO{q:Pr×Int}{x:Pr}{e:Int}(h:q=(x,e)):D.tuple [x.d,.val (.int .i64 e)]=D.tuple [q.1.d,.i q.2]:=by subst h;rfl
theorem Uz{xs:List Sm}{x:Sm}{A B q:Prop}(l:List Pe)(_:xs.drop i=x::r)(hI:A/\B)(h1:visB l (i:Int) x.x=true->A->B->q)(h2:visB l (i:Int) x.x=false->A->B->q):q:=by
 rcases z0x (visB l (i:Int) x.x)with h |h
 ·exact h1 h hI.1 hI.2
 ·exact h2 h hI.1 hI.2
theorem z8b(hk:(bif s.kind==2 then true else s.kind==3)=false):ts.map Sm.cs++[[.i s.kind,.str s.name,.i 0,.i (vis l s.x).kind,.str (vis l s.x).name,.i (vis l s.x).index,.i (vis l s.x).n,.sl 5 (Ex.css (vis l s.x).l)]]=(ts++[outS l s]).map Sm.cs:=by
 simp[outS,z00 hk]
theorem z8c(hk:(bif s.kind==2 then true else s.kind==3)=true)(ht:target l s=some e):ts.map Sm.cs++[[.i s.kind,.str s.name,.i e.index,.i (vis l s.x).kind,.str (vis l s.x).name,.i (vis l s.x).index,.i (vis l s.x).n,.sl 5 (Ex.css (vis l s.x).l)]]=(ts++[outS l s]).map Sm.cs:=by
 simp[outS,z0z hk ht]
theorem Pj{o b:Bool}{q:Prop}(h1:(bif !o then b else false)=true)(h2:(!o)=false):q:=by rw[h2]at h1;cases h1
theorem z5n{d:List (Int×Int)}(hk:(bif s.kind==2 then true else s.kind==3)=false):Block.map true [.int .i64,.int .i64] (d.map dnC)=Block.map true [.int .i64,.int .i64] ((qZ l s d).map dnC):=by
 rw[Xj hk]
theorem z5o{d:List (Int×Int)}(hk:(bif s.kind==2 then true else s.kind==3)=true)(ht:target l s=some e)(hd:(bif !o then !pX d e.kind e.index else false)=true):Block.map true [.int .i64,.int .i64] (mput (.agg [.i e.kind,.i e.index]) (.b true) (d.map dnC))=Block.map true [.int .i64,.int .i64] ((qZ l s d).map dnC):=by
 have hd':pX d e.kind e.index=false:=by cases o<;>simp_all
 rw[Xi hk ht,H9 hd']
end Go.Fw.Nam
namespace Go.Fw.Nam
variable [ae]
open Ref15
def Fj(s:Str):List Str->Bool
 | []=>false
 |x::r=>x==s || Fj s r
def Ia:List Str->Bool
 | []=>true
 |x::r=>!Fj x r&&Ia r
theorem EP{s:Str}:∀{l:List Str},Fj s l=true↔s∈l
 | []=>by simp[Fj]
 |x::r=>by
  simp only[Fj,Bool.or_eq_true,List.mem_cons,EP (l:=r),beq_iff_eq]
  constructor
  ·rintro(h |h)
   ·exact .inl h.symm
   ·exact .inr h
  ·rintro(h |h)
   ·exact .inl h.symm
   ·exact .inr h
theorem vN:∀{l:List Str},Ia l=true↔l.Nodup
 | []=>by simp[Ia]
 |x::r=>by
  simp only[Ia,Bool.and_eq_true,Bool.not_eq_true',List.nodup_cons,vN (l:=r)]
  constructor
  ·rintro⟨h,h2⟩
   exact⟨λhm=>by rw[EP.2 hm]at h;simp at h,h2⟩
  ·rintro⟨h,h2⟩
   refine⟨?_,h2⟩
   cases hb:Fj x r with
   |false=>rfl
   |true=>exact absurd (EP.1 hb) h
def resolveC(p:Pr):Pr×Int:=
 if !formed p then(Pr.none,1)
 else if !limited p then(Pr.none,2)
 else if !((p.name::jM (decl p)).all nmOk)then(Pr.none,150)
 else if !Ia (jM (decl p))then(Pr.none,151)
 else if !ranged p then(Pr.none,161)
 else Ref15.fin p [] (rf (decl p) p.stmts 0 [] false)
def kV(l:List Sm):Pr:=⟨[112],0,0,[⟨[103],0,9⟩],[⟨[115],-5,5⟩],[⟨[100],3,0,0⟩],[⟨[116],[4,2]⟩],l⟩
def Nz(x:Ex):Sm:=⟨4,[],0,x⟩
def ou(s:Str):Ex:=⟨2,s,0,0,[]⟩
def one:Ex:=⟨1,[],0,1,[]⟩
theorem z9t{c:Bool}{p q:Prop}(h:c=false)(hp:q):BrI c p q:=by subst h;exact BrI.ff hp
theorem Xk{n:Int}{es:List (List D)}(h0:decide (0<=n)=true)(h:(es[n.toNat]?).isSome=true):0<=n/\es[n.toNat]? = some (es.getD n.toNat []):=by
 refine⟨by simpa using h0,?_⟩
 rw[List.getD_eq_getElem?_getD]
 cases hh:es[n.toNat]? with
 |none=>rw[hh]at h;simp at h
 |some c=>rfl
theorem z03{k:Bool}{a b:Nat}{n:Int}{es:List (List D)}{q:List D->Prop}(h1:k=true)(h2:a=b)(h0:decide (0<=n)=true)(h:(es[n.toNat]?).isSome=true)(h4:q (es.getD n.toNat [])):(k=true/\a=b)/\∃c,(0<=n/\es[n.toNat]? = some c)/\q c:=⟨⟨h1,h2⟩,_,Xk h0 h,h4⟩
theorem Yn{l:List Pe}:∀{r:List Sm} {i:Nat} {d:List (Int×Int)} {o:Bool} {t:List Sm},rf l r i d o = .ok t->t=r.map (outS l)
 | [],i,d,o,t,h=>by
  simp only[rf]at h
  split at h
  ·cases h;rfl
  ·cases h
 |s::r,i,d,o,t,h=>by
  simp only[rf]at h
  split at h
  ·cases h
  ·cases hr:rf l r (i+1) (qZ l s d) (s.kind==4)with
   |error e=>rw[hr]at h;cases h
   |ok t'=>rw[hr]at h;cases h;rw[Yn hr];rfl
theorem resolved_form{p:Pr}(h:(resolveC p).2=0):formed p=true/\limited p=true/\(p.name::jM (decl p)).all nmOk=true/\Ia (jM (decl p))=true/\ranged p=true/\rf (decl p) p.stmts 0 [] false = .ok (p.stmts.map (outS (decl p)))/\(resolveC p).1 = { p with stmts:=p.stmts.map (outS (decl p)) }:=by
 unfold resolveC at h ⊢
 split at h
 ·simp at h
 split at h
 ·simp at h
 split at h
 ·simp at h
 split at h
 ·simp at h
 split at h
 ·simp at h
 rename_i h1 h2 h3 h4 h5
 have g1:formed p=true:=by simpa using h1
 have g2:limited p=true:=by simpa using h2
 have g3:(p.name::jM (decl p)).all nmOk=true:=by
  cases hh:(p.name::jM (decl p)).all nmOk with
  |true=>rfl
  |false=>rw[hh]at h3;exact absurd rfl h3
 have g4:Ia (jM (decl p))=true:=by simpa using h4
 have g5:ranged p=true:=by simpa using h5
 cases hr:rf (decl p) p.stmts 0 [] false with
 |error e=>
  exfalso
  rw[hr]at h
  simp only[Ref15.fin]at h
  -- an error is no 0
  have:∀{r:List Sm} {i:Nat} {d:List (Int×Int)} {o:Bool} {e:Int},rf (decl p) r i d o = .error e->e≠0:=by
   intro r
   induction r with
   |nil=>intro i d o e h;simp only[rf]at h;split at h<;>cases h;decide
   |cons s r ih=>
    intro i d o e h
    simp only[rf]at h
    split at h
    ·rename_i hs;cases h;simpa using hs
    ·cases hr:rf (decl p) r (i+1) (qZ (decl p) s d) (s.kind==4)with
     |error e'=>rw[hr]at h;cases h;exact ih hr
     |ok t'=>rw[hr]at h;cases h
  exact this hr h
 |ok t=>
  have:=Yn hr
  subst this
  refine⟨g1,g2,g3,g4,g5,rfl,?_⟩
  simp only[g1,g2,g3,g4,g5,Bool.not_true,Bool.false_eq_true,if_false,hr]
  rfl
end Go.Fw.Nam
