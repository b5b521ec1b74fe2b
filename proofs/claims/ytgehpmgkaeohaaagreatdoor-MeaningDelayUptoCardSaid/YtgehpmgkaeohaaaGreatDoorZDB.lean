/- A part of the proof. -/
import Derived.Lib.IndexMore
import Derived.Test.YtgehpmgkaeohaaaGreatDoorZLL
set_option linter.all false
namespace Go.Fw.Nam
variable [ae]
open Ref15
def signs:Str:=[123,125,40,41,59,44,61,58,46,60,62,33,43,45,42,47]
def cls(c:UInt8):Int:=
 if Ref03.letter c then 2 else if Ref03.figure c then 3 else if(c.toNat:Int)==95 then 5
 else if((c.toNat:Int)==32 || (c.toNat:Int)==9 || (c.toNat:Int)==10 || (c.toNat:Int)==13)then 1
 else if decide (Lib.indexByte signs c>=0)then 4 else 0
def AU(c:UInt8):Bool:=!(cls c != 2&&cls c != 3&&cls c != 5)
def tN(s:Str):Bool:=!((s==[] || decide ((s.length:Int)>32)) || cls (s.getD 0 0) != 2)&&s.all AU
structure En where
 kind:Int
 index:Int
 frm:Int
variable {p : Pr} {f : D → Prop} {s : Str}
abbrev Pe:=Str×En
variable {l : List Pe}
abbrev nmC(x:Pe):List D:=[.str x.1]
abbrev enC(x:Pe):List D:=[.i x.2.kind,.i x.2.index,.i x.2.frm]
def kM(k:Int):List Str->Nat->List Pe
 | [],_=>[]
 |s::r,i=>(s,⟨k,i,0⟩)::kM k r (i+1)
def AX:List Sm->Nat->List Pe
 | [],_=>[]
 |s::r,i=>if s.kind==1 then(s.name,⟨5,i,i+1⟩)::AX r (i+1)else AX r (i+1)
theorem vw(k:Int):∀(l:List Str) (i:Nat),(kM k l i).length=l.length
 | [],_=>rfl
 |_::r,i=>by simp[kM,vw k r]
theorem OH:∀(l:List Sm) (i:Nat),(AX l i).length<=l.length
 | [],_=>Nat.le_refl _
 |s::r,i=>by
  have:=OH r (i+1)
  grind[AX]
def T1(p:Pr):List Pe:=kM 3 (bounds p.params) 0
def T2(p:Pr):List Pe:=T1 p++kM 4 (bounds p.states) 0
def T3(p:Pr):List Pe:=T2 p++kM 8 (lines p) 0
def T4(p:Pr):List Pe:=T3 p++kM 9 (tables p) 0
def decl(p:Pr):List Pe:=T4 p++AX p.stmts 0
theorem OI(h:p.Small):(T1 p).length<=67108864:=by have:=h.params;simp[T1,vw,bounds];omega
theorem OJ(h:p.Small):(T2 p).length<=134217728:=by have:=OI h;have:=h.states;grind[T2,vw,bounds]
theorem OL(h:p.Small):(T3 p).length<=201326592:=by have:=OJ h;have:=h.lines;simp[T3,vw,lines];omega
theorem OM(h:p.Small):(T4 p).length<=268435456:=by have:=OL h;have:=h.tables;simp[T4,vw,tables];omega
theorem FU(h:p.Small):(decl p).length<=335544320:=by have:=OM h;have:=h.stmts;grind[OH,decl]
theorem iE{α:Type}{a b c:List α}{n:Nat}(h:a++b=c)(hc:c.length<=n):a.length<=n:=by
 grind
def OO:Str:=[32,112,114,111,99,101,115,115,111,114,32,108,97,116,101,110,99,121,32,116,97,105,108,32,102,111,114,101,118,101,114,32,112,97,114,97,109,32,115,116,97,116,101,32,108,105,110,101,32,116,97,98,108,101,32,102,114,111,109,32,116,111,32,108,101,116,32,115,101,116,32,112,117,115,104,32,111,117,116,32,105,102,32,116,104,101,110,32,101,108,115,101,32,105,110,32,115,105,100,101,32,116,97,112,32,108,111,111,107,32,115,97,116,32,109,105,110,32,109,97,120,32,97,98,115,32]
def nmOk(s:Str):Bool:=tN s && !Lib.contains OO ([32]++s++[32])
theorem AY(h:tN s=true):s.length<=32:=by
 grind[tN]
abbrev mC(x:Pe):D×D:=(.str x.1,.agg (enC x))
def mkM(l:List Pe):List (D×D):=l.map mC
def jy(l:List Pe):List Str:=l.map (·.1)
theorem oI(a b:Str):dA (.str a) (.str b)=(a==b):=rfl
theorem AZ{s:Str}:∀{l:List Pe},s ∉ jy l->nS (.str s) (mkM l)=none
 | [],_=>rfl
 |x::r,h=>by
  simp only[jy,List.map_cons,List.mem_cons,not_or]at h
  have hb:(s==x.1)=false:=by simpa using h.1
  simp[mkM,nS,oI,hb]
  exact AZ (l:=r) h.2
theorem OQ{s:Str}{v:D}:∀{l:List Pe},s ∉ jy l->mput (.str s) v (mkM l)=mkM l++[(.str s,v)]
 | [],_=>rfl
 |x::r,h=>by
  simp only[jy,List.map_cons,List.mem_cons,not_or]at h
  have hb:(s==x.1)=false:=by simpa using h.1
  simp only[mkM,List.map_cons,mput,oI,hb,List.cons_append]
  exact congrArg _ (OQ (l:=r) h.2)
theorem IV{x:Pe}{d:List Pe}(h:x.1 ∉ jy d):mput (.str x.1) (.agg (enC x)) (mkM d)=mkM (d++[x]):=by
 grind[OQ,mkM]
theorem xk{n:Nat}(h:n<=9223372036854775807):(IntKind.i64.max-(n:Int)).NonNeg:=by
 have:(n:Int)<=IntKind.i64.max:=by grind[IntKind.max,IntKind.bits]
 exact this
theorem opt_none{o:Option D}{g:Prop}(h:o=none)(hg:g):rE o f g:=by subst h;exact hg
theorem opt_some{o:Option D}{g:Prop}{d:D}(h:o=some d)(hg:f d):rE o f g:=by subst h;exact hg
def uniq(l:List Pe):Prop:=(jy l).Nodup
theorem IW{s:Str}:∀{l:List Pe},s∈jy l->∃e:En,nS (.str s) (mkM l)=some (.agg [.i e.kind,.i e.index,.i e.frm])
 | [],h=>by simp[jy]at h
 |x::r,h=>by
  simp only[mkM,List.map_cons,nS,oI]
  cases hb:(s==x.1)with
  |true=>exact⟨x.2,rfl⟩
  |false=>
   simp only[jy,List.map_cons,List.mem_cons]at h
   rcases h with h |h
   ·simp_all
   ·exact IW (l:=r) h
theorem Vg{g:Prop}(h1:∀e:En,s∈jy l->f (.agg [.i e.kind,.i e.index,.i e.frm]))(h2:s ∉ jy l->g):rE (nS (.str s) (mkM l)) f g:=by
 grind[jy,IW,opt_some,opt_none,AZ]
theorem Vh{d:List Pe}{x:Pe}(h:uniq d)(hm:x.1 ∉ jy d):uniq (d++[x]):=by
 unfold uniq jy at h ⊢
 rw[List.map_append,List.nodup_append]
 refine⟨h,by simp,?_⟩
 intro a ha b hb hab
 simp at hb
 subst hb;subst hab
 exact hm ha
theorem Vj{l d r:List Pe}{x:Pe}(h:uniq l)(e:d++x::r=l):x.1 ∉ jy d:=by
 subst e
 unfold uniq jy at h
 rw[List.map_append,List.nodup_append]at h
 intro hm
 exact h.2.2 _ hm _ (by simp) rfl
end Go.Fw.Nam
namespace Go.Fw
abbrev zb4(l:List Bd):List D:=[.sl 3 (l.map Bd.cs)]
def lens{α:Type}(ls:List (List α)):Nat:=(ls.map List.length).sum
theorem lens_cons{α:Type}(l:List α)(r:List (List α)):lens (l::r)=l.length+lens r:=by simp[lens]
theorem YQ{α:Type}:lens ([]:List (List α))=0:=rfl
theorem Vk{α:Type}(ls:List (List α)):ls.flatten.length=lens ls:=by simp[lens]
end Go.Fw
namespace Go.Fw.Nam
variable [ae]
abbrev lnB(l:Ln):Bd:=⟨[],l.lo,l.hi⟩
def allB(p:Pr):List Bd:=[p.params,p.states].flatten++p.lines.map lnB
def bd1(b:Bd):Bool:=(sample b.lo&&sample b.hi)&&decide (b.lo<=b.hi)
def tb2(t:Tb):Bool:=!bad t.values
def sm2(s:Sm):Bool:=every mW s.x
def ranged(p:Pr):Bool:=(allB p).all bd1&&(p.tables.all tb2&&p.stmts.all sm2)
theorem YR{p:Pr}(h:p.Small):(allB p).length<=201326592:=by
 have:=h.params;have:=h.states;have:=h.lines
 simp[allB];omega
end Go.Fw.Nam
namespace Go.Fw
theorem quiet_step[ae]{T:Tbl}{N:List Nat}{kp i:Nat}{tr:List Rec}{q:Prop}(h:iq T N kp i tr=true)(h2:q):iq T N kp i tr=true/\q:=⟨h,h2⟩
end Go.Fw
namespace Go.Fw.Nam
variable [ae]
def lk(n:Str):List Pe->Option En
 | []=>none
 |x::r=>if n==x.1 then some x.2 else lk n r
theorem LW(n:Str):∀l:List Pe,nS (.str n) (mkM l)=(lk n l).map λe=>.agg [.i e.kind,.i e.index,.i e.frm]
 | []=>rfl
 |x::r=>by
  simp only[mkM,List.map_cons,nS,oI,lk]
  cases hb:(n==x.1)with
  |true=>rfl
  |false=>exact LW n r
theorem Vl{n:Str}{l:List Pe}{f:D->Prop}{g:Prop}(h1:∀e:En,lk n l=some e->f (.agg [.i e.kind,.i e.index,.i e.frm]))(h2:lk n l=none->g):rE (nS (.str n) (mkM l)) f g:=by
 cases hk:lk n l with
 |none=>grind[opt_none,LW]
 |some e=>grind[opt_some,LW]
def arr(k:Int):Bool:=k==8 || k==9
def eok(i k:Int)(e:En):Bool:=decide (i>=e.frm)&&(e.kind==k || (!arr e.kind && !arr k))
def vok(l:List Pe)(i k:Int)(n:Str):Bool:=!(arity k).2 || (match lk n l with |some e=>eok i k e |none=>false)
def FV(l:List Pe)(k:Int)(n:Str):Int:=if(arity k).2 then(match lk n l with |some e=>e.kind |none=>0)else k
def YS(l:List Pe)(k:Int)(n:Str):Int:=if(arity k).2 then(match lk n l with |some e=>e.index |none=>0)else 0
mutual
def FW(l:List Pe)(i:Int):Ex->Bool
 | .mk k n _ _ ys=>vok l i k n&&tV l i ys
def tV(l:List Pe)(i:Int):List Ex->Bool
 | []=>true
 |y::r=>FW l i y&&tV l i r
end
mutual
def vis(l:List Pe):Ex->Ex
 | .mk k n _ m ys=>.mk (FV l k n) n (YS l k n) m (XW l ys)
def XW(l:List Pe):List Ex->List Ex
 | []=>[]
 |y::r=>vis l y::XW l r
end
theorem FX(l:List Pe)(i:Int)(x:Ex):FW l i x=(vok l i x.kind x.name&&tV l i x.l):=by cases x;rfl
theorem z1v(l:List Pe)(x:Ex):vis l x = .mk (FV l x.kind x.name) x.name (YS l x.kind x.name) x.n (XW l x.l):=by cases x;rfl
theorem Vm{l:List Pe}{i:Int}:tV l i []=true:=by simp[tV]
theorem Rk{l:List Pe}{i:Int}{x:Ex}{r:List Ex}(h:tV l i (x::r)=false):(FW l i x=true/\tV l i r=false)\/FW l i x=false:=by
 simp[tV]at h
 grind
def Hm(k:Int):Bool:=k==2 || k==3
def kindOf(k:Int):Int:=if k==2 then 4 else 8
def target(l:List Pe)(s:Sm):Option En:=match lk s.name l with |some e=>if e.kind==kindOf s.kind then some e else none |none=>none
def FY(l:List Pe)(s:Sm):Int:=if Hm s.kind then(match target l s with |some e=>e.index |none=>0)else 0
def outS(l:List Pe)(s:Sm):Sm:=⟨s.kind,s.name,FY l s,vis l s.x⟩
def lU(l:List Pe)(s:Sm)(i:Nat)(done:List (Int×Int))(out:Bool):Int:=
 if !FW l i s.x then 150
 else if Hm s.kind then
  match target l s with
  |none=>150
  |some e=>if !out && !(done.any λd=>d.1==e.kind&&d.2==e.index)then(if !out then 0 else 151)else 151
 else if !out then 0 else 151
def xm(l:List Pe)(s:Sm)(done:List (Int×Int)):List (Int×Int):=if Hm s.kind then(match target l s with |some e=>done++[(e.kind,e.index)] |none=>done)else done
def IX(l:List Pe):List Sm->Nat->List (Int×Int)->Bool->Except Int (List Sm)
 | [],_,_,out=>if out then .ok []else .error 150
 |s::r,i,done,out=>
  if lU l s i done out != 0 then .error (lU l s i done out)
  else match IX l r (i+1) (xm l s done) (s.kind==4)with
   | .error e=>.error e
   | .ok t=>.ok (outS l s::t)
end Go.Fw.Nam
namespace Go.Fw.Nam
variable [ae] {l : List Pe} {s : Sm} {o : Bool} {i : Nat} {ts : List Sm} {e : En} {r : List Sm} {p : Pr}
abbrev dnC(d:Int×Int):D×D:=(.agg [.i d.1,.i d.2],.b true)
def nJ(d:List (Int×Int))(a b:Int):Bool:=d.any λx=>x.1==a&&x.2==b
theorem yg(a b c d:Int):dA (.agg [.i a,.i b]) (.agg [.i c,.i d])=(a==c&&b==d):=by
 simp[dA,sameL,sameS]
theorem IY(a b:Int):∀d:List (Int×Int),nS (.agg [.i a,.i b]) (d.map dnC)=if nJ d a b then some (.b true)else none
 | []=>rfl
 |x::r=>by
  have e:nJ (x::r) a b=((x.1==a&&x.2==b) || nJ r a b):=rfl
  simp only[List.map_cons,nS,yg]
  rw[e]
  by_cases h:(a==x.1&&b==x.2)=true
  ·simp_all
  ·have h0:(a==x.1&&b==x.2)=false:=by simpa using h
   have h':(x.1==a&&x.2==b)=false:=by
    grind
   rw[h0,h']
   simpa using IY a b r
theorem YT{a b:Int}{d:List (Int×Int)}{f:D->Prop}{g:Prop}(h1:nJ d a b=true->f (.b true))(h2:nJ d a b=false->g):rE (nS (.agg [.i a,.i b]) (d.map dnC)) f g:=by
 rw[IY]
 cases h:nJ d a b with
 |true=>exact h1 h
 |false=>exact h2 h
theorem IZ{a b:Int}:∀{d:List (Int×Int)},nJ d a b=false->mput (.agg [.i a,.i b]) (.b true) (d.map dnC)=(d++[(a,b)]).map dnC
 | [],_=>rfl
 |x::r,h=>by
  have e:nJ (x::r) a b=((x.1==a&&x.2==b) || nJ r a b):=rfl
  rw[e,Bool.or_eq_false_iff]at h
  have h0:(a==x.1&&b==x.2)=false:=by
   grind
  simp only[List.map_cons,mput,yg,h0]
  exact congrArg _ (IZ h.2)
theorem Vo{k:Int}{f:D->Prop}{g:Prop}(hk:(bif k==2 then true else k==3)=true)(h:f (.i (kindOf k))):rE (nS (.i k) (mput (.i 3) (.i 8) (mput (.i 2) (.i 4) []))) f g:=by
 have e:nS (.i k) (mput (.i 3) (.i 8) (mput (.i 2) (.i 4) []))=some (.i (kindOf k)):=by
  rw[show mput (.i 3) (.i 8) (mput (.i 2) (.i 4) []) = [(.i 2,.i 4),(.i 3,.i 8)]from rfl]
  simp[nS,dA,sameS,kindOf]
  grind
 rw[e];exact h
theorem A7{d:List (Int×Int)}{e:Int}(h:lU l s i d o=e)(he:e≠0):Ref15.fin p ts (IX l (s::r) i d o)=(Pr.none,e):=by
 simp only[IX]
 rw[if_pos (by simp_all),h];rfl
theorem z1w{d:List (Int×Int)}(h:lU l s i d o=0):Ref15.fin p ts (IX l (s::r) i d o)=Ref15.fin p (ts++[outS l s]) (IX l r (i+1) (xm l s d) (s.kind==4)):=by
 simp only[IX]
 rw[if_neg (by rw[h];simp)]
 exact Ref15.fin_cons
theorem YU{d:List (Int×Int)}(h:FW l i s.x=false):lU l s i d o=150:=by simp[lU,h]
theorem oJ(k:Int):(bif k==2 then true else k==3)=Hm k:=by simp[Hm]
theorem Vp{d:List (Int×Int)}(h:FW l i s.x=true)(hk:(bif s.kind==2 then true else s.kind==3)=true)(ht:lk s.name l=none):lU l s i d o=150:=by
 grind[oJ,lU,target]
theorem Vq{d:List (Int×Int)}(h:FW l i s.x=true)(hk:(bif s.kind==2 then true else s.kind==3)=true)(ht:lk s.name l=some e)(he:(bif true then e.kind==kindOf s.kind else false)=false):lU l s i d o=150:=by
 rw[oJ]at hk;grind[lU,target]
theorem vz(ht:lk s.name l=some e)(he:(bif true then e.kind==kindOf s.kind else false)=true):target l s=some e:=by
 grind[target]
theorem Vr{d:List (Int×Int)}(h:FW l i s.x=true)(hk:(bif s.kind==2 then true else s.kind==3)=true)(ht:target l s=some e)(hd:(bif !o then !nJ d e.kind e.index else false)=false):lU l s i d o=151:=by
 grind[oJ,lU,nJ]
theorem z5s{d:List (Int×Int)}(h:FW l i s.x=true)(hk:(bif s.kind==2 then true else s.kind==3)=true)(ht:target l s=some e)(hd:(bif !o then !nJ d e.kind e.index else false)=true):lU l s i d o=0:=by
 simp[lU]
 have:(!o && !d.any λx=>x.1==e.kind&&x.2==e.index)=true:=by grind[nJ]
 grind
theorem YV{d:List (Int×Int)}(h:FW l i s.x=true)(hk:(bif s.kind==2 then true else s.kind==3)=false)(ho:(!o)=false):lU l s i d o=151:=by
 grind[oJ,lU]
theorem stop_ok'{d:List (Int×Int)}(h:FW l i s.x=true)(hk:(bif s.kind==2 then true else s.kind==3)=false)(ho:(!o)=true):lU l s i d o=0:=by
 grind[oJ,lU]
theorem YW{d:List (Int×Int)}(hk:(bif s.kind==2 then true else s.kind==3)=true)(ht:target l s=some e):xm l s d=d++[(e.kind,e.index)]:=by
 grind[oJ,xm]
theorem YX{d:List (Int×Int)}(hk:(bif s.kind==2 then true else s.kind==3)=false):xm l s d=d:=by
 grind[oJ,xm]
theorem z5t(hk:(bif s.kind==2 then true else s.kind==3)=true)(ht:target l s=some e):FY l s=e.index:=by
 grind[oJ,FY]
theorem z5u(hk:(bif s.kind==2 then true else s.kind==3)=false):FY l s=0:=by
 grind[oJ,FY]
theorem z5v{d:List (Int×Int)}(ho:o=true):Ref15.fin p ts (IX l [] i d o)=({ p with stmts:=ts },0):=by
 grind[IX,Ref15.fin]
theorem z5w{d:List (Int×Int)}(ho:o=false):Ref15.fin p ts (IX l [] i d o)=(Pr.none,150):=by
 grind[IX,Ref15.fin]
theorem A8{q:Pr×Int}{x:Pr}{e:Int}(h:q=(x,e)):D.tuple [x.d,.val (.int .i64 e)]=D.tuple [q.1.d,.i q.2]:=by subst h;rfl
theorem Vs{xs:List Sm}{x:Sm}{A B q:Prop}(l:List Pe)(_:xs.drop i=x::r)(hI:A/\B)(h1:FW l (i:Int) x.x=true->A->B->q)(h2:FW l (i:Int) x.x=false->A->B->q):q:=by
 grind
theorem zfy(hk:(bif s.kind==2 then true else s.kind==3)=false):ts.map Sm.cs++[[.i s.kind,.str s.name,.i 0,.i (vis l s.x).kind,.str (vis l s.x).name,.i (vis l s.x).index,.i (vis l s.x).n,.sl 5 (Ex.css (vis l s.x).l)]]=(ts++[outS l s]).map Sm.cs:=by
 simp[outS,z5u hk]
theorem zfz(hk:(bif s.kind==2 then true else s.kind==3)=true)(ht:target l s=some e):ts.map Sm.cs++[[.i s.kind,.str s.name,.i e.index,.i (vis l s.x).kind,.str (vis l s.x).name,.i (vis l s.x).index,.i (vis l s.x).n,.sl 5 (Ex.css (vis l s.x).l)]]=(ts++[outS l s]).map Sm.cs:=by
 simp[outS,z5t hk ht]
theorem Rl{o b:Bool}{q:Prop}(h1:(bif !o then b else false)=true)(h2:(!o)=false):q:=by simp_all
theorem zb5{d:List (Int×Int)}(hk:(bif s.kind==2 then true else s.kind==3)=false):Block.map true [.int .i64,.int .i64] (d.map dnC)=Block.map true [.int .i64,.int .i64] ((xm l s d).map dnC):=by
 rw[YX hk]
theorem zb6{d:List (Int×Int)}(hk:(bif s.kind==2 then true else s.kind==3)=true)(ht:target l s=some e)(hd:(bif !o then !nJ d e.kind e.index else false)=true):Block.map true [.int .i64,.int .i64] (mput (.agg [.i e.kind,.i e.index]) (.b true) (d.map dnC))=Block.map true [.int .i64,.int .i64] ((xm l s d).map dnC):=by
 grind[YW,IZ]
end Go.Fw.Nam
namespace Go.Fw.Nam
variable [ae]
open Ref15
def Hg(s:Str):List Str->Bool
 | []=>false
 |x::r=>x==s || Hg s r
def C9:List Str->Bool
 | []=>true
 |x::r=>!Hg x r&&C9 r
theorem y7{s:Str}:∀{l:List Str},Hg s l=true↔s∈l
 | []=>by simp[Hg]
 |x::r=>by
  simp[Hg,y7 (l:=r)]
  grind
theorem qp:∀{l:List Str},C9 l=true↔l.Nodup
 | []=>by simp[C9]
 |x::r=>by
  simp[C9,qp (l:=r)]
  grind[y7]
def resolveC(p:Pr):Pr×Int:=
 if !formed p then(Pr.none,1)
 else if !limited p then(Pr.none,2)
 else if !((p.name::jy (decl p)).all nmOk)then(Pr.none,150)
 else if !C9 (jy (decl p))then(Pr.none,151)
 else if !ranged p then(Pr.none,161)
 else Ref15.fin p [] (IX (decl p) p.stmts 0 [] false)
end Go.Fw.Nam
