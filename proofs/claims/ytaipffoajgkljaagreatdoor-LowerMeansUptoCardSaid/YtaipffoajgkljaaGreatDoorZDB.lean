/- A part of the proof. -/
import Derived.Lib.IndexMore
import Derived.Test.YtaipffoajgkljaaGreatDoorZLL
set_option linter.all false
namespace Go.Fw.Nam
variable [af]
open Ref15
def signs:Str:=[123,125,40,41,59,44,61,58,46,60,62,33,43,45,42,47]
def cls(c:UInt8):Int:=
 if Ref03.letter c then 2 else if Ref03.figure c then 3 else if(c.toNat:Int)==95 then 5
 else if((c.toNat:Int)==32 || (c.toNat:Int)==9 || (c.toNat:Int)==10 || (c.toNat:Int)==13)then 1
 else if decide (Lib.indexByte signs c>=0)then 4 else 0
def Q5(c:UInt8):Bool:=!(cls c != 2&&cls c != 3&&cls c != 5)
def FC(s:Str):Bool:=!((s==[] || decide ((s.length:Int)>32)) || cls (s.getD 0 0) != 2)&&s.all Q5
structure En where
 kind:Int
 index:Int
 frm:Int
variable {p : Pr} {f : D → Prop} {s : Str}
abbrev Pe:=Str×En
variable {l : List Pe}
abbrev nmC(x:Pe):List D:=[.str x.1]
abbrev enC(x:Pe):List D:=[.i x.2.kind,.i x.2.index,.i x.2.frm]
def kX(k:Int):List Str->Nat->List Pe
 | [],_=>[]
 |s::r,i=>(s,⟨k,i,0⟩)::kX k r (i+1)
def AO:List Sm->Nat->List Pe
 | [],_=>[]
 |s::r,i=>if s.kind==1 then(s.name,⟨5,i,i+1⟩)::AO r (i+1)else AO r (i+1)
theorem uY(k:Int):∀(l:List Str) (i:Nat),(kX k l i).length=l.length
 | [],_=>rfl
 |_::r,i=>by simp[kX,uY k r]
theorem OI:∀(l:List Sm) (i:Nat),(AO l i).length<=l.length
 | [],_=>Nat.le_refl _
 |s::r,i=>by
  have:=OI r (i+1)
  grind[AO]
def T1(p:Pr):List Pe:=kX 3 (bounds p.params) 0
def T2(p:Pr):List Pe:=T1 p++kX 4 (bounds p.states) 0
def T3(p:Pr):List Pe:=T2 p++kX 8 (lines p) 0
def T4(p:Pr):List Pe:=T3 p++kX 9 (tables p) 0
def decl(p:Pr):List Pe:=T4 p++AO p.stmts 0
theorem OJ(h:p.Small):(T1 p).length<=67108864:=by have:=h.params;simp[T1,uY,bounds];omega
theorem OL(h:p.Small):(T2 p).length<=134217728:=by have:=OJ h;have:=h.states;grind[T2,uY,bounds]
theorem OM(h:p.Small):(T3 p).length<=201326592:=by have:=OL h;have:=h.lines;simp[T3,uY,lines];omega
theorem OO(h:p.Small):(T4 p).length<=268435456:=by have:=OM h;have:=h.tables;simp[T4,uY,tables];omega
theorem FD(h:p.Small):(decl p).length<=335544320:=by have:=OO h;have:=h.stmts;grind[OI,decl]
theorem iL{α:Type}{a b c:List α}{n:Nat}(h:a++b=c)(hc:c.length<=n):a.length<=n:=by
 grind
def OQ:Str:=[32,112,114,111,99,101,115,115,111,114,32,108,97,116,101,110,99,121,32,116,97,105,108,32,102,111,114,101,118,101,114,32,112,97,114,97,109,32,115,116,97,116,101,32,108,105,110,101,32,116,97,98,108,101,32,102,114,111,109,32,116,111,32,108,101,116,32,115,101,116,32,112,117,115,104,32,111,117,116,32,105,102,32,116,104,101,110,32,101,108,115,101,32,105,110,32,115,105,100,101,32,116,97,112,32,108,111,111,107,32,115,97,116,32,109,105,110,32,109,97,120,32,97,98,115,32]
def nmOk(s:Str):Bool:=FC s && !Lib.contains OQ ([32]++s++[32])
theorem AP(h:FC s=true):s.length<=32:=by
 grind[FC]
abbrev mC(x:Pe):D×D:=(.str x.1,.agg (enC x))
def mkM(l:List Pe):List (D×D):=l.map mC
def jL(l:List Pe):List Str:=l.map (·.1)
theorem oM(a b:Str):dJ (.str a) (.str b)=(a==b):=rfl
theorem AQ{s:Str}:∀{l:List Pe},s ∉ jL l->pG (.str s) (mkM l)=none
 | [],_=>rfl
 |x::r,h=>by
  simp only[jL,List.map_cons,List.mem_cons,not_or]at h
  have hb:(s==x.1)=false:=by simpa using h.1
  simp[mkM,pG,oM,hb]
  exact AQ (l:=r) h.2
theorem OT{s:Str}{v:D}:∀{l:List Pe},s ∉ jL l->mput (.str s) v (mkM l)=mkM l++[(.str s,v)]
 | [],_=>rfl
 |x::r,h=>by
  simp only[jL,List.map_cons,List.mem_cons,not_or]at h
  have hb:(s==x.1)=false:=by simpa using h.1
  simp only[mkM,List.map_cons,mput,oM,hb,List.cons_append]
  exact congrArg _ (OT (l:=r) h.2)
theorem IK{x:Pe}{d:List Pe}(h:x.1 ∉ jL d):mput (.str x.1) (.agg (enC x)) (mkM d)=mkM (d++[x]):=by
 grind[OT,mkM]
theorem xg{n:Nat}(h:n<=9223372036854775807):(IntKind.i64.max-(n:Int)).NonNeg:=by
 have:(n:Int)<=IntKind.i64.max:=by grind[IntKind.max,IntKind.bits]
 exact this
theorem opt_none{o:Option D}{g:Prop}(h:o=none)(hg:g):uj o f g:=by subst h;exact hg
theorem opt_some{o:Option D}{g:Prop}{d:D}(h:o=some d)(hg:f d):uj o f g:=by subst h;exact hg
def uniq(l:List Pe):Prop:=(jL l).Nodup
theorem IL{s:Str}:∀{l:List Pe},s∈jL l->∃e:En,pG (.str s) (mkM l)=some (.agg [.i e.kind,.i e.index,.i e.frm])
 | [],h=>by simp[jL]at h
 |x::r,h=>by
  simp only[mkM,List.map_cons,pG,oM]
  cases hb:(s==x.1)with
  |true=>exact⟨x.2,rfl⟩
  |false=>
   simp only[jL,List.map_cons,List.mem_cons]at h
   rcases h with h |h
   ·simp_all
   ·exact IL (l:=r) h
theorem UX{g:Prop}(h1:∀e:En,s∈jL l->f (.agg [.i e.kind,.i e.index,.i e.frm]))(h2:s ∉ jL l->g):uj (pG (.str s) (mkM l)) f g:=by
 grind[jL,IL,opt_some,opt_none,AQ]
theorem UY{d:List Pe}{x:Pe}(h:uniq d)(hm:x.1 ∉ jL d):uniq (d++[x]):=by
 unfold uniq jL at h ⊢
 rw[List.map_append,List.nodup_append]
 refine⟨h,by simp,?_⟩
 intro a ha b hb hab
 simp at hb
 subst hb;subst hab
 exact hm ha
theorem UZ{l d r:List Pe}{x:Pe}(h:uniq l)(e:d++x::r=l):x.1 ∉ jL d:=by
 subst e
 unfold uniq jL at h
 rw[List.map_append,List.nodup_append]at h
 intro hm
 exact h.2.2 _ hm _ (by simp) rfl
end Go.Fw.Nam
namespace Go.Fw
abbrev U0(l:List Bd):List D:=[.sl 3 (l.map Bd.cs)]
def lens{α:Type}(ls:List (List α)):Nat:=(ls.map List.length).sum
theorem lens_cons{α:Type}(l:List α)(r:List (List α)):lens (l::r)=l.length+lens r:=by simp[lens]
theorem FH{α:Type}:lens ([]:List (List α))=0:=rfl
theorem AU{α:Type}(ls:List (List α)):ls.flatten.length=lens ls:=by simp[lens]
end Go.Fw
namespace Go.Fw.Nam
variable [af]
abbrev lnB(l:Ln):Bd:=⟨[],l.lo,l.hi⟩
def allB(p:Pr):List Bd:=[p.params,p.states].flatten++p.lines.map lnB
def bd1(b:Bd):Bool:=(sample b.lo&&sample b.hi)&&decide (b.lo<=b.hi)
def tb2(t:Tb):Bool:=!bad t.values
def sm2(s:Sm):Bool:=every nD s.x
def ranged(p:Pr):Bool:=(allB p).all bd1&&(p.tables.all tb2&&p.stmts.all sm2)
theorem YK{p:Pr}(h:p.Small):(allB p).length<=201326592:=by
 have:=h.params;have:=h.states;have:=h.lines
 simp[allB];omega
end Go.Fw.Nam
namespace Go.Fw
theorem quiet_step[af]{T:Tbl}{N:List Nat}{kp i:Nat}{tr:List Rec}{q:Prop}(h:jm T N kp i tr=true)(h2:q):jm T N kp i tr=true/\q:=⟨h,h2⟩
end Go.Fw
namespace Go.Fw.Nam
variable [af]
def lk(n:Str):List Pe->Option En
 | []=>none
 |x::r=>if n==x.1 then some x.2 else lk n r
theorem LQ(n:Str):∀l:List Pe,pG (.str n) (mkM l)=(lk n l).map λe=>.agg [.i e.kind,.i e.index,.i e.frm]
 | []=>rfl
 |x::r=>by
  simp only[mkM,List.map_cons,pG,oM,lk]
  cases hb:(n==x.1)with
  |true=>rfl
  |false=>exact LQ n r
theorem U1{n:Str}{l:List Pe}{f:D->Prop}{g:Prop}(h1:∀e:En,lk n l=some e->f (.agg [.i e.kind,.i e.index,.i e.frm]))(h2:lk n l=none->g):uj (pG (.str n) (mkM l)) f g:=by
 cases hk:lk n l with
 |none=>grind[opt_none,LQ]
 |some e=>grind[opt_some,LQ]
def arr(k:Int):Bool:=k==8 || k==9
def eok(i k:Int)(e:En):Bool:=decide (i>=e.frm)&&(e.kind==k || (!arr e.kind && !arr k))
def vok(l:List Pe)(i k:Int)(n:Str):Bool:=!(arity k).2 || (match lk n l with |some e=>eok i k e |none=>false)
def FI(l:List Pe)(k:Int)(n:Str):Int:=if(arity k).2 then(match lk n l with |some e=>e.kind |none=>0)else k
def YL(l:List Pe)(k:Int)(n:Str):Int:=if(arity k).2 then(match lk n l with |some e=>e.index |none=>0)else 0
mutual
def FK(l:List Pe)(i:Int):Ex->Bool
 | .mk k n _ _ ys=>vok l i k n&&tN l i ys
def tN(l:List Pe)(i:Int):List Ex->Bool
 | []=>true
 |y::r=>FK l i y&&tN l i r
end
mutual
def vis(l:List Pe):Ex->Ex
 | .mk k n _ m ys=>.mk (FI l k n) n (YL l k n) m (XT l ys)
def XT(l:List Pe):List Ex->List Ex
 | []=>[]
 |y::r=>vis l y::XT l r
end
theorem FM(l:List Pe)(i:Int)(x:Ex):FK l i x=(vok l i x.kind x.name&&tN l i x.l):=by cases x;rfl
theorem z1w(l:List Pe)(x:Ex):vis l x = .mk (FI l x.kind x.name) x.name (YL l x.kind x.name) x.n (XT l x.l):=by cases x;rfl
theorem U2{l:List Pe}{i:Int}:tN l i []=true:=by simp[tN]
theorem Q7{l:List Pe}{i:Int}{x:Ex}{r:List Ex}(h:tN l i (x::r)=false):(FK l i x=true/\tN l i r=false)\/FK l i x=false:=by
 simp[tN]at h
 grind
def G8(k:Int):Bool:=k==2 || k==3
def kindOf(k:Int):Int:=if k==2 then 4 else 8
def target(l:List Pe)(s:Sm):Option En:=match lk s.name l with |some e=>if e.kind==kindOf s.kind then some e else none |none=>none
def z5l(l:List Pe)(s:Sm):Int:=if G8 s.kind then(match target l s with |some e=>e.index |none=>0)else 0
def outS(l:List Pe)(s:Sm):Sm:=⟨s.kind,s.name,z5l l s,vis l s.x⟩
def lZ(l:List Pe)(s:Sm)(i:Nat)(done:List (Int×Int))(out:Bool):Int:=
 if !FK l i s.x then 150
 else if G8 s.kind then
  match target l s with
  |none=>150
  |some e=>if !out && !(done.any λd=>d.1==e.kind&&d.2==e.index)then(if !out then 0 else 151)else 151
 else if !out then 0 else 151
def xh(l:List Pe)(s:Sm)(done:List (Int×Int)):List (Int×Int):=if G8 s.kind then(match target l s with |some e=>done++[(e.kind,e.index)] |none=>done)else done
def IM(l:List Pe):List Sm->Nat->List (Int×Int)->Bool->Except Int (List Sm)
 | [],_,_,out=>if out then .ok []else .error 150
 |s::r,i,done,out=>
  if lZ l s i done out != 0 then .error (lZ l s i done out)
  else match IM l r (i+1) (xh l s done) (s.kind==4)with
   | .error e=>.error e
   | .ok t=>.ok (outS l s::t)
end Go.Fw.Nam
namespace Go.Fw.Nam
variable [af] {l : List Pe} {s : Sm} {o : Bool} {i : Nat} {ts : List Sm} {e : En} {r : List Sm} {p : Pr}
abbrev dnC(d:Int×Int):D×D:=(.agg [.i d.1,.i d.2],.b true)
def nS(d:List (Int×Int))(a b:Int):Bool:=d.any λx=>x.1==a&&x.2==b
theorem xU(a b c d:Int):dJ (.agg [.i a,.i b]) (.agg [.i c,.i d])=(a==c&&b==d):=by
 simp[dJ,sameL,sameS]
theorem IP(a b:Int):∀d:List (Int×Int),pG (.agg [.i a,.i b]) (d.map dnC)=if nS d a b then some (.b true)else none
 | []=>rfl
 |x::r=>by
  have e:nS (x::r) a b=((x.1==a&&x.2==b) || nS r a b):=rfl
  simp only[List.map_cons,pG,xU]
  rw[e]
  by_cases h:(a==x.1&&b==x.2)=true
  ·simp_all
  ·have h0:(a==x.1&&b==x.2)=false:=by simpa using h
   have h':(x.1==a&&x.2==b)=false:=by
    grind
   rw[h0,h']
   simpa using IP a b r
theorem YM{a b:Int}{d:List (Int×Int)}{f:D->Prop}{g:Prop}(h1:nS d a b=true->f (.b true))(h2:nS d a b=false->g):uj (pG (.agg [.i a,.i b]) (d.map dnC)) f g:=by
 rw[IP]
 cases h:nS d a b with
 |true=>exact h1 h
 |false=>exact h2 h
theorem IQ{a b:Int}:∀{d:List (Int×Int)},nS d a b=false->mput (.agg [.i a,.i b]) (.b true) (d.map dnC)=(d++[(a,b)]).map dnC
 | [],_=>rfl
 |x::r,h=>by
  have e:nS (x::r) a b=((x.1==a&&x.2==b) || nS r a b):=rfl
  rw[e,Bool.or_eq_false_iff]at h
  have h0:(a==x.1&&b==x.2)=false:=by
   grind
  simp only[List.map_cons,mput,xU,h0]
  exact congrArg _ (IQ h.2)
theorem U3{k:Int}{f:D->Prop}{g:Prop}(hk:(bif k==2 then true else k==3)=true)(h:f (.i (kindOf k))):uj (pG (.i k) (mput (.i 3) (.i 8) (mput (.i 2) (.i 4) []))) f g:=by
 have e:pG (.i k) (mput (.i 3) (.i 8) (mput (.i 2) (.i 4) []))=some (.i (kindOf k)):=by
  rw[show mput (.i 3) (.i 8) (mput (.i 2) (.i 4) []) = [(.i 2,.i 4),(.i 3,.i 8)]from rfl]
  simp[pG,dJ,sameS,kindOf]
  grind
 rw[e];exact h
theorem AX{d:List (Int×Int)}{e:Int}(h:lZ l s i d o=e)(he:e≠0):Ref15.fin p ts (IM l (s::r) i d o)=(Pr.none,e):=by
 simp only[IM]
 rw[if_pos (by simp_all),h];rfl
theorem z1x{d:List (Int×Int)}(h:lZ l s i d o=0):Ref15.fin p ts (IM l (s::r) i d o)=Ref15.fin p (ts++[outS l s]) (IM l r (i+1) (xh l s d) (s.kind==4)):=by
 simp only[IM]
 rw[if_neg (by rw[h];simp)]
 exact Ref15.fin_cons
theorem YN{d:List (Int×Int)}(h:FK l i s.x=false):lZ l s i d o=150:=by simp[lZ,h]
theorem oN(k:Int):(bif k==2 then true else k==3)=G8 k:=by simp[G8]
theorem U4{d:List (Int×Int)}(h:FK l i s.x=true)(hk:(bif s.kind==2 then true else s.kind==3)=true)(ht:lk s.name l=none):lZ l s i d o=150:=by
 grind[oN,lZ,target]
theorem U5{d:List (Int×Int)}(h:FK l i s.x=true)(hk:(bif s.kind==2 then true else s.kind==3)=true)(ht:lk s.name l=some e)(he:(bif true then e.kind==kindOf s.kind else false)=false):lZ l s i d o=150:=by
 rw[oN]at hk;grind[lZ,target]
theorem uZ(ht:lk s.name l=some e)(he:(bif true then e.kind==kindOf s.kind else false)=true):target l s=some e:=by
 grind[target]
theorem U6{d:List (Int×Int)}(h:FK l i s.x=true)(hk:(bif s.kind==2 then true else s.kind==3)=true)(ht:target l s=some e)(hd:(bif !o then !nS d e.kind e.index else false)=false):lZ l s i d o=151:=by
 grind[oN,lZ,nS]
theorem z5m{d:List (Int×Int)}(h:FK l i s.x=true)(hk:(bif s.kind==2 then true else s.kind==3)=true)(ht:target l s=some e)(hd:(bif !o then !nS d e.kind e.index else false)=true):lZ l s i d o=0:=by
 simp[lZ]
 have:(!o && !d.any λx=>x.1==e.kind&&x.2==e.index)=true:=by grind[nS]
 grind
theorem YO{d:List (Int×Int)}(h:FK l i s.x=true)(hk:(bif s.kind==2 then true else s.kind==3)=false)(ho:(!o)=false):lZ l s i d o=151:=by
 grind[oN,lZ]
theorem stop_ok'{d:List (Int×Int)}(h:FK l i s.x=true)(hk:(bif s.kind==2 then true else s.kind==3)=false)(ho:(!o)=true):lZ l s i d o=0:=by
 grind[oN,lZ]
theorem YP{d:List (Int×Int)}(hk:(bif s.kind==2 then true else s.kind==3)=true)(ht:target l s=some e):xh l s d=d++[(e.kind,e.index)]:=by
 grind[oN,xh]
theorem YQ{d:List (Int×Int)}(hk:(bif s.kind==2 then true else s.kind==3)=false):xh l s d=d:=by
 grind[oN,xh]
theorem z5n(hk:(bif s.kind==2 then true else s.kind==3)=true)(ht:target l s=some e):z5l l s=e.index:=by
 grind[oN,z5l]
theorem z5o(hk:(bif s.kind==2 then true else s.kind==3)=false):z5l l s=0:=by
 grind[oN,z5l]
theorem z5p{d:List (Int×Int)}(ho:o=true):Ref15.fin p ts (IM l [] i d o)=({ p with stmts:=ts },0):=by
 grind[IM,Ref15.fin]
theorem z5q{d:List (Int×Int)}(ho:o=false):Ref15.fin p ts (IM l [] i d o)=(Pr.none,150):=by
 grind[IM,Ref15.fin]
theorem AY{q:Pr×Int}{x:Pr}{e:Int}(h:q=(x,e)):D.tuple [x.d,.val (.int .i64 e)]=D.tuple [q.1.d,.i q.2]:=by subst h;rfl
theorem U7{xs:List Sm}{x:Sm}{A B q:Prop}(l:List Pe)(_:xs.drop i=x::r)(hI:A/\B)(h1:FK l (i:Int) x.x=true->A->B->q)(h2:FK l (i:Int) x.x=false->A->B->q):q:=by
 grind
theorem zew(hk:(bif s.kind==2 then true else s.kind==3)=false):ts.map Sm.cs++[[.i s.kind,.str s.name,.i 0,.i (vis l s.x).kind,.str (vis l s.x).name,.i (vis l s.x).index,.i (vis l s.x).n,.sl 5 (Ex.css (vis l s.x).l)]]=(ts++[outS l s]).map Sm.cs:=by
 simp[outS,z5o hk]
theorem zex(hk:(bif s.kind==2 then true else s.kind==3)=true)(ht:target l s=some e):ts.map Sm.cs++[[.i s.kind,.str s.name,.i e.index,.i (vis l s.x).kind,.str (vis l s.x).name,.i (vis l s.x).index,.i (vis l s.x).n,.sl 5 (Ex.css (vis l s.x).l)]]=(ts++[outS l s]).map Sm.cs:=by
 simp[outS,z5n hk ht]
theorem Q8{o b:Bool}{q:Prop}(h1:(bif !o then b else false)=true)(h2:(!o)=false):q:=by simp_all
theorem zbo{d:List (Int×Int)}(hk:(bif s.kind==2 then true else s.kind==3)=false):Block.map true [.int .i64,.int .i64] (d.map dnC)=Block.map true [.int .i64,.int .i64] ((xh l s d).map dnC):=by
 rw[YQ hk]
theorem zbp{d:List (Int×Int)}(hk:(bif s.kind==2 then true else s.kind==3)=true)(ht:target l s=some e)(hd:(bif !o then !nS d e.kind e.index else false)=true):Block.map true [.int .i64,.int .i64] (mput (.agg [.i e.kind,.i e.index]) (.b true) (d.map dnC))=Block.map true [.int .i64,.int .i64] ((xh l s d).map dnC):=by
 grind[YP,IQ]
end Go.Fw.Nam
namespace Go.Fw.Nam
variable [af]
open Ref15
def G7(s:Str):List Str->Bool
 | []=>false
 |x::r=>x==s || G7 s r
def Ci:List Str->Bool
 | []=>true
 |x::r=>!G7 x r&&Ci r
theorem yU{s:Str}:∀{l:List Str},G7 s l=true↔s∈l
 | []=>by simp[G7]
 |x::r=>by
  simp[G7,yU (l:=r)]
  grind
theorem qw:∀{l:List Str},Ci l=true↔l.Nodup
 | []=>by simp[Ci]
 |x::r=>by
  simp[Ci,qw (l:=r)]
  grind[yU]
def resolveC(p:Pr):Pr×Int:=
 if !formed p then(Pr.none,1)
 else if !limited p then(Pr.none,2)
 else if !((p.name::jL (decl p)).all nmOk)then(Pr.none,150)
 else if !Ci (jL (decl p))then(Pr.none,151)
 else if !ranged p then(Pr.none,161)
 else Ref15.fin p [] (IM (decl p) p.stmts 0 [] false)
end Go.Fw.Nam
