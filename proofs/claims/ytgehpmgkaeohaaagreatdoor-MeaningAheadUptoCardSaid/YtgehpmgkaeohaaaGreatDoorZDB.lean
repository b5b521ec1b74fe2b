/- A part of the proof. -/
import Derived.Lib.IndexMore
import Derived.Test.YtgehpmgkaeohaaaGreatDoorZLL
set_option linter.all false
namespace Go.Fw.Nam
variable [ae]
open Ref15
def signs:Str:=[123,125,40,41,59,44,61,58,46,60,62,33,43,45,42,47]
def cls(c:UInt8):Int:=
 if Ref03.letter c then 2 else if Ref03.figure c then 3 else if(c.toNat:Int)==95 then 5
 else if((c.toNat:Int)==32 || (c.toNat:Int)==9 || (c.toNat:Int)==10 || (c.toNat:Int)==13)then 1
 else if decide (Lib.indexByte signs c>=0)then 4 else 0
def Bo(c:UInt8):Bool:=!(cls c != 2&&cls c != 3&&cls c != 5)
def ui(s:Str):Bool:=!((s==[] || decide ((s.length:Int)>32)) || cls (s.getD 0 0) != 2)&&s.all Bo
structure En where
 kind:Int
 index:Int
 frm:Int
variable {p : Pr} {f : D → Prop} {s : Str}
abbrev Pe:=Str×En
variable {l : List Pe}
abbrev nmC(x:Pe):List D:=[.str x.1]
abbrev enC(x:Pe):List D:=[.i x.2.kind,.i x.2.index,.i x.2.frm]
def kN(k:Int):List Str->Nat->List Pe
 | [],_=>[]
 |s::r,i=>(s,⟨k,i,0⟩)::kN k r (i+1)
def Bq:List Sm->Nat->List Pe
 | [],_=>[]
 |s::r,i=>if s.kind==1 then(s.name,⟨5,i,i+1⟩)::Bq r (i+1)else Bq r (i+1)
theorem vO(k:Int):∀(l:List Str) (i:Nat),(kN k l i).length=l.length
 | [],_=>rfl
 |_::r,i=>by simp[kN,vO k r]
theorem Pn:∀(l:List Sm) (i:Nat),(Bq l i).length<=l.length
 | [],_=>Nat.le_refl _
 |s::r,i=>by
  have:=Pn r (i+1)
  grind[Bq]
def T1(p:Pr):List Pe:=kN 3 (bounds p.params) 0
def T2(p:Pr):List Pe:=T1 p++kN 4 (bounds p.states) 0
def T3(p:Pr):List Pe:=T2 p++kN 8 (lines p) 0
def T4(p:Pr):List Pe:=T3 p++kN 9 (tables p) 0
def decl(p:Pr):List Pe:=T4 p++Bq p.stmts 0
theorem Po(h:p.Small):(T1 p).length<=67108864:=by have:=h.params;simp[T1,vO,bounds];omega
theorem Pq(h:p.Small):(T2 p).length<=134217728:=by have:=Po h;have:=h.states;grind[T2,vO,bounds]
theorem Pv(h:p.Small):(T3 p).length<=201326592:=by have:=Pq h;have:=h.lines;simp[T3,vO,lines];omega
theorem Px(h:p.Small):(T4 p).length<=268435456:=by have:=Pv h;have:=h.tables;simp[T4,vO,tables];omega
theorem Gm(h:p.Small):(decl p).length<=335544320:=by have:=Px h;have:=h.stmts;grind[Pn,decl]
theorem iD{α:Type}{a b c:List α}{n:Nat}(h:a++b=c)(hc:c.length<=n):a.length<=n:=by
 grind
def Py:Str:=[32,112,114,111,99,101,115,115,111,114,32,108,97,116,101,110,99,121,32,116,97,105,108,32,102,111,114,101,118,101,114,32,112,97,114,97,109,32,115,116,97,116,101,32,108,105,110,101,32,116,97,98,108,101,32,102,114,111,109,32,116,111,32,108,101,116,32,115,101,116,32,112,117,115,104,32,111,117,116,32,105,102,32,116,104,101,110,32,101,108,115,101,32,105,110,32,115,105,100,101,32,116,97,112,32,108,111,111,107,32,115,97,116,32,109,105,110,32,109,97,120,32,97,98,115,32]
def nmOk(s:Str):Bool:=ui s && !Lib.contains Py ([32]++s++[32])
theorem Bv(h:ui s=true):s.length<=32:=by
 grind[ui]
abbrev mC(x:Pe):D×D:=(.str x.1,.agg (enC x))
def mkM(l:List Pe):List (D×D):=l.map mC
def jw(l:List Pe):List Str:=l.map (·.1)
theorem oL(a b:Str):dC (.str a) (.str b)=(a==b):=rfl
theorem Bz{s:Str}:∀{l:List Pe},s ∉ jw l->nV (.str s) (mkM l)=none
 | [],_=>rfl
 |x::r,h=>by
  simp only[jw,List.map_cons,List.mem_cons,not_or]at h
  have hb:(s==x.1)=false:=by simpa using h.1
  simp[mkM,nV,oL,hb]
  exact Bz (l:=r) h.2
theorem Pz{s:Str}{v:D}:∀{l:List Pe},s ∉ jw l->mput (.str s) v (mkM l)=mkM l++[(.str s,v)]
 | [],_=>rfl
 |x::r,h=>by
  simp only[jw,List.map_cons,List.mem_cons,not_or]at h
  have hb:(s==x.1)=false:=by simpa using h.1
  simp only[mkM,List.map_cons,mput,oL,hb,List.cons_append]
  exact congrArg _ (Pz (l:=r) h.2)
theorem Jh{x:Pe}{d:List Pe}(h:x.1 ∉ jw d):mput (.str x.1) (.agg (enC x)) (mkM d)=mkM (d++[x]):=by
 grind[Pz,mkM]
theorem xI{n:Nat}(h:n<=9223372036854775807):(IntKind.i64.max-(n:Int)).NonNeg:=by
 have:(n:Int)<=IntKind.i64.max:=by grind[IntKind.max,IntKind.bits]
 exact this
theorem opt_none{o:Option D}{g:Prop}(h:o=none)(hg:g):rH o f g:=by subst h;exact hg
theorem opt_some{o:Option D}{g:Prop}{d:D}(h:o=some d)(hg:f d):rH o f g:=by subst h;exact hg
def uniq(l:List Pe):Prop:=(jw l).Nodup
theorem Ji{s:Str}:∀{l:List Pe},s∈jw l->∃e:En,nV (.str s) (mkM l)=some (.agg [.i e.kind,.i e.index,.i e.frm])
 | [],h=>by simp[jw]at h
 |x::r,h=>by
  simp only[mkM,List.map_cons,nV,oL]
  cases hb:(s==x.1)with
  |true=>exact⟨x.2,rfl⟩
  |false=>
   simp only[jw,List.map_cons,List.mem_cons]at h
   rcases h with h |h
   ·simp_all
   ·exact Ji (l:=r) h
theorem VL{g:Prop}(h1:∀e:En,s∈jw l->f (.agg [.i e.kind,.i e.index,.i e.frm]))(h2:s ∉ jw l->g):rH (nV (.str s) (mkM l)) f g:=by
 grind[jw,Ji,opt_some,opt_none,Bz]
theorem VM{d:List Pe}{x:Pe}(h:uniq d)(hm:x.1 ∉ jw d):uniq (d++[x]):=by
 unfold uniq jw at h ⊢
 rw[List.map_append,List.nodup_append]
 refine⟨h,by simp,?_⟩
 intro a ha b hb hab
 simp at hb
 subst hb;subst hab
 exact hm ha
theorem VN{l d r:List Pe}{x:Pe}(h:uniq l)(e:d++x::r=l):x.1 ∉ jw d:=by
 subst e
 unfold uniq jw at h
 rw[List.map_append,List.nodup_append]at h
 intro hm
 exact h.2.2 _ hm _ (by simp) rfl
end Go.Fw.Nam
namespace Go.Fw
abbrev zdw(l:List Bd):List D:=[.sl 3 (l.map Bd.cs)]
def lens{α:Type}(ls:List (List α)):Nat:=(ls.map List.length).sum
theorem lens_cons{α:Type}(l:List α)(r:List (List α)):lens (l::r)=l.length+lens r:=by simp[lens]
theorem Zy{α:Type}:lens ([]:List (List α))=0:=rfl
theorem VO{α:Type}(ls:List (List α)):ls.flatten.length=lens ls:=by simp[lens]
end Go.Fw
namespace Go.Fw.Nam
variable [ae]
abbrev lnB(l:Ln):Bd:=⟨[],l.lo,l.hi⟩
def allB(p:Pr):List Bd:=[p.params,p.states].flatten++p.lines.map lnB
def bd1(b:Bd):Bool:=(sample b.lo&&sample b.hi)&&decide (b.lo<=b.hi)
def tb2(t:Tb):Bool:=!bad t.values
def sm2(s:Sm):Bool:=every mX s.x
def ranged(p:Pr):Bool:=(allB p).all bd1&&(p.tables.all tb2&&p.stmts.all sm2)
theorem Zz{p:Pr}(h:p.Small):(allB p).length<=201326592:=by
 have:=h.params;have:=h.states;have:=h.lines
 simp[allB];omega
end Go.Fw.Nam
namespace Go.Fw
theorem quiet_step[ae]{T:Tbl}{N:List Nat}{kp i:Nat}{tr:List Rec}{q:Prop}(h:ik T N kp i tr=true)(h2:q):ik T N kp i tr=true/\q:=⟨h,h2⟩
end Go.Fw
namespace Go.Fw.Nam
variable [ae]
def lk(n:Str):List Pe->Option En
 | []=>none
 |x::r=>if n==x.1 then some x.2 else lk n r
theorem MP(n:Str):∀l:List Pe,nV (.str n) (mkM l)=(lk n l).map λe=>.agg [.i e.kind,.i e.index,.i e.frm]
 | []=>rfl
 |x::r=>by
  simp only[mkM,List.map_cons,nV,oL,lk]
  cases hb:(n==x.1)with
  |true=>rfl
  |false=>exact MP n r
theorem VP{n:Str}{l:List Pe}{f:D->Prop}{g:Prop}(h1:∀e:En,lk n l=some e->f (.agg [.i e.kind,.i e.index,.i e.frm]))(h2:lk n l=none->g):rH (nV (.str n) (mkM l)) f g:=by
 cases hk:lk n l with
 |none=>grind[opt_none,MP]
 |some e=>grind[opt_some,MP]
def arr(k:Int):Bool:=k==8 || k==9
def eok(i k:Int)(e:En):Bool:=decide (i>=e.frm)&&(e.kind==k || (!arr e.kind && !arr k))
def vok(l:List Pe)(i k:Int)(n:Str):Bool:=!(arity k).2 || (match lk n l with |some e=>eok i k e |none=>false)
def Gn(l:List Pe)(k:Int)(n:Str):Int:=if(arity k).2 then(match lk n l with |some e=>e.kind |none=>0)else k
def ZA(l:List Pe)(k:Int)(n:Str):Int:=if(arity k).2 then(match lk n l with |some e=>e.index |none=>0)else 0
mutual
def Gp(l:List Pe)(i:Int):Ex->Bool
 | .mk k n _ _ ys=>vok l i k n&&uj l i ys
def uj(l:List Pe)(i:Int):List Ex->Bool
 | []=>true
 |y::r=>Gp l i y&&uj l i r
end
mutual
def vis(l:List Pe):Ex->Ex
 | .mk k n _ m ys=>.mk (Gn l k n) n (ZA l k n) m (YG l ys)
def YG(l:List Pe):List Ex->List Ex
 | []=>[]
 |y::r=>vis l y::YG l r
end
theorem Gq(l:List Pe)(i:Int)(x:Ex):Gp l i x=(vok l i x.kind x.name&&uj l i x.l):=by cases x;rfl
theorem z3s(l:List Pe)(x:Ex):vis l x = .mk (Gn l x.kind x.name) x.name (ZA l x.kind x.name) x.n (YG l x.l):=by cases x;rfl
theorem VQ{l:List Pe}{i:Int}:uj l i []=true:=by simp[uj]
theorem SE{l:List Pe}{i:Int}{x:Ex}{r:List Ex}(h:uj l i (x::r)=false):(Gp l i x=true/\uj l i r=false)\/Gp l i x=false:=by
 simp[uj]at h
 grind
def Ib(k:Int):Bool:=k==2 || k==3
def kindOf(k:Int):Int:=if k==2 then 4 else 8
def target(l:List Pe)(s:Sm):Option En:=match lk s.name l with |some e=>if e.kind==kindOf s.kind then some e else none |none=>none
def Gs(l:List Pe)(s:Sm):Int:=if Ib s.kind then(match target l s with |some e=>e.index |none=>0)else 0
def outS(l:List Pe)(s:Sm):Sm:=⟨s.kind,s.name,Gs l s,vis l s.x⟩
def lV(l:List Pe)(s:Sm)(i:Nat)(done:List (Int×Int))(out:Bool):Int:=
 if !Gp l i s.x then 150
 else if Ib s.kind then
  match target l s with
  |none=>150
  |some e=>if !out && !(done.any λd=>d.1==e.kind&&d.2==e.index)then(if !out then 0 else 151)else 151
 else if !out then 0 else 151
def xJ(l:List Pe)(s:Sm)(done:List (Int×Int)):List (Int×Int):=if Ib s.kind then(match target l s with |some e=>done++[(e.kind,e.index)] |none=>done)else done
def Jj(l:List Pe):List Sm->Nat->List (Int×Int)->Bool->Except Int (List Sm)
 | [],_,_,out=>if out then .ok []else .error 150
 |s::r,i,done,out=>
  if lV l s i done out != 0 then .error (lV l s i done out)
  else match Jj l r (i+1) (xJ l s done) (s.kind==4)with
   | .error e=>.error e
   | .ok t=>.ok (outS l s::t)
end Go.Fw.Nam
namespace Go.Fw.Nam
variable [ae] {l : List Pe} {s : Sm} {o : Bool} {i : Nat} {ts : List Sm} {e : En} {r : List Sm} {p : Pr}
abbrev dnC(d:Int×Int):D×D:=(.agg [.i d.1,.i d.2],.b true)
def nN(d:List (Int×Int))(a b:Int):Bool:=d.any λx=>x.1==a&&x.2==b
theorem yH(a b c d:Int):dC (.agg [.i a,.i b]) (.agg [.i c,.i d])=(a==c&&b==d):=by
 simp[dC,sameL,sameS]
theorem Jk(a b:Int):∀d:List (Int×Int),nV (.agg [.i a,.i b]) (d.map dnC)=if nN d a b then some (.b true)else none
 | []=>rfl
 |x::r=>by
  have e:nN (x::r) a b=((x.1==a&&x.2==b) || nN r a b):=rfl
  simp only[List.map_cons,nV,yH]
  rw[e]
  by_cases h:(a==x.1&&b==x.2)=true
  ·simp_all
  ·have h0:(a==x.1&&b==x.2)=false:=by simpa using h
   have h':(x.1==a&&x.2==b)=false:=by
    grind
   rw[h0,h']
   simpa using Jk a b r
theorem ZB{a b:Int}{d:List (Int×Int)}{f:D->Prop}{g:Prop}(h1:nN d a b=true->f (.b true))(h2:nN d a b=false->g):rH (nV (.agg [.i a,.i b]) (d.map dnC)) f g:=by
 rw[Jk]
 cases h:nN d a b with
 |true=>exact h1 h
 |false=>exact h2 h
theorem Jl{a b:Int}:∀{d:List (Int×Int)},nN d a b=false->mput (.agg [.i a,.i b]) (.b true) (d.map dnC)=(d++[(a,b)]).map dnC
 | [],_=>rfl
 |x::r,h=>by
  have e:nN (x::r) a b=((x.1==a&&x.2==b) || nN r a b):=rfl
  rw[e,Bool.or_eq_false_iff]at h
  have h0:(a==x.1&&b==x.2)=false:=by
   grind
  simp only[List.map_cons,mput,yH,h0]
  exact congrArg _ (Jl h.2)
theorem VR{k:Int}{f:D->Prop}{g:Prop}(hk:(bif k==2 then true else k==3)=true)(h:f (.i (kindOf k))):rH (nV (.i k) (mput (.i 3) (.i 8) (mput (.i 2) (.i 4) []))) f g:=by
 have e:nV (.i k) (mput (.i 3) (.i 8) (mput (.i 2) (.i 4) []))=some (.i (kindOf k)):=by
  rw[show mput (.i 3) (.i 8) (mput (.i 2) (.i 4) []) = [(.i 2,.i 4),(.i 3,.i 8)]from rfl]
  simp[nV,dC,sameS,kindOf]
  grind
 rw[e];exact h
theorem BA{d:List (Int×Int)}{e:Int}(h:lV l s i d o=e)(he:e≠0):Ref15.fin p ts (Jj l (s::r) i d o)=(Pr.none,e):=by
 simp only[Jj]
 rw[if_pos (by simp_all),h];rfl
theorem z3t{d:List (Int×Int)}(h:lV l s i d o=0):Ref15.fin p ts (Jj l (s::r) i d o)=Ref15.fin p (ts++[outS l s]) (Jj l r (i+1) (xJ l s d) (s.kind==4)):=by
 simp only[Jj]
 rw[if_neg (by rw[h];simp)]
 exact Ref15.fin_cons
theorem ZC{d:List (Int×Int)}(h:Gp l i s.x=false):lV l s i d o=150:=by simp[lV,h]
theorem oM(k:Int):(bif k==2 then true else k==3)=Ib k:=by simp[Ib]
theorem VS{d:List (Int×Int)}(h:Gp l i s.x=true)(hk:(bif s.kind==2 then true else s.kind==3)=true)(ht:lk s.name l=none):lV l s i d o=150:=by
 grind[oM,lV,target]
theorem VT{d:List (Int×Int)}(h:Gp l i s.x=true)(hk:(bif s.kind==2 then true else s.kind==3)=true)(ht:lk s.name l=some e)(he:(bif true then e.kind==kindOf s.kind else false)=false):lV l s i d o=150:=by
 rw[oM]at hk;grind[lV,target]
theorem vP(ht:lk s.name l=some e)(he:(bif true then e.kind==kindOf s.kind else false)=true):target l s=some e:=by
 grind[target]
theorem VU{d:List (Int×Int)}(h:Gp l i s.x=true)(hk:(bif s.kind==2 then true else s.kind==3)=true)(ht:target l s=some e)(hd:(bif !o then !nN d e.kind e.index else false)=false):lV l s i d o=151:=by
 grind[oM,lV,nN]
theorem z7v{d:List (Int×Int)}(h:Gp l i s.x=true)(hk:(bif s.kind==2 then true else s.kind==3)=true)(ht:target l s=some e)(hd:(bif !o then !nN d e.kind e.index else false)=true):lV l s i d o=0:=by
 simp[lV]
 have:(!o && !d.any λx=>x.1==e.kind&&x.2==e.index)=true:=by grind[nN]
 grind
theorem ZE{d:List (Int×Int)}(h:Gp l i s.x=true)(hk:(bif s.kind==2 then true else s.kind==3)=false)(ho:(!o)=false):lV l s i d o=151:=by
 grind[oM,lV]
theorem stop_ok'{d:List (Int×Int)}(h:Gp l i s.x=true)(hk:(bif s.kind==2 then true else s.kind==3)=false)(ho:(!o)=true):lV l s i d o=0:=by
 grind[oM,lV]
theorem ZF{d:List (Int×Int)}(hk:(bif s.kind==2 then true else s.kind==3)=true)(ht:target l s=some e):xJ l s d=d++[(e.kind,e.index)]:=by
 grind[oM,xJ]
theorem ZG{d:List (Int×Int)}(hk:(bif s.kind==2 then true else s.kind==3)=false):xJ l s d=d:=by
 grind[oM,xJ]
theorem z7w(hk:(bif s.kind==2 then true else s.kind==3)=true)(ht:target l s=some e):Gs l s=e.index:=by
 grind[oM,Gs]
theorem z7x(hk:(bif s.kind==2 then true else s.kind==3)=false):Gs l s=0:=by
 grind[oM,Gs]
theorem z7y{d:List (Int×Int)}(ho:o=true):Ref15.fin p ts (Jj l [] i d o)=({ p with stmts:=ts },0):=by
 grind[Jj,Ref15.fin]
theorem z7z{d:List (Int×Int)}(ho:o=false):Ref15.fin p ts (Jj l [] i d o)=(Pr.none,150):=by
 grind[Jj,Ref15.fin]
theorem BB{q:Pr×Int}{x:Pr}{e:Int}(h:q=(x,e)):D.tuple [x.d,.val (.int .i64 e)]=D.tuple [q.1.d,.i q.2]:=by subst h;rfl
theorem VV{xs:List Sm}{x:Sm}{A B q:Prop}(l:List Pe)(_:xs.drop i=x::r)(hI:A/\B)(h1:Gp l (i:Int) x.x=true->A->B->q)(h2:Gp l (i:Int) x.x=false->A->B->q):q:=by
 grind
theorem zhy(hk:(bif s.kind==2 then true else s.kind==3)=false):ts.map Sm.cs++[[.i s.kind,.str s.name,.i 0,.i (vis l s.x).kind,.str (vis l s.x).name,.i (vis l s.x).index,.i (vis l s.x).n,.sl 5 (Ex.css (vis l s.x).l)]]=(ts++[outS l s]).map Sm.cs:=by
 simp[outS,z7x hk]
theorem zhz(hk:(bif s.kind==2 then true else s.kind==3)=true)(ht:target l s=some e):ts.map Sm.cs++[[.i s.kind,.str s.name,.i e.index,.i (vis l s.x).kind,.str (vis l s.x).name,.i (vis l s.x).index,.i (vis l s.x).n,.sl 5 (Ex.css (vis l s.x).l)]]=(ts++[outS l s]).map Sm.cs:=by
 simp[outS,z7w hk ht]
theorem SG{o b:Bool}{q:Prop}(h1:(bif !o then b else false)=true)(h2:(!o)=false):q:=by simp_all
theorem zdx{d:List (Int×Int)}(hk:(bif s.kind==2 then true else s.kind==3)=false):Block.map true [.int .i64,.int .i64] (d.map dnC)=Block.map true [.int .i64,.int .i64] ((xJ l s d).map dnC):=by
 rw[ZG hk]
theorem zdy{d:List (Int×Int)}(hk:(bif s.kind==2 then true else s.kind==3)=true)(ht:target l s=some e)(hd:(bif !o then !nN d e.kind e.index else false)=true):Block.map true [.int .i64,.int .i64] (mput (.agg [.i e.kind,.i e.index]) (.b true) (d.map dnC))=Block.map true [.int .i64,.int .i64] ((xJ l s d).map dnC):=by
 grind[ZF,Jl]
end Go.Fw.Nam
namespace Go.Fw.Nam
variable [ae]
open Ref15
def Ia(s:Str):List Str->Bool
 | []=>false
 |x::r=>x==s || Ia s r
def Dw:List Str->Bool
 | []=>true
 |x::r=>!Ia x r&&Dw r
theorem zA{s:Str}:∀{l:List Str},Ia s l=true↔s∈l
 | []=>by simp[Ia]
 |x::r=>by
  simp[Ia,zA (l:=r)]
  grind
theorem qy:∀{l:List Str},Dw l=true↔l.Nodup
 | []=>by simp[Dw]
 |x::r=>by
  simp[Dw,qy (l:=r)]
  grind[zA]
def resolveC(p:Pr):Pr×Int:=
 if !formed p then(Pr.none,1)
 else if !limited p then(Pr.none,2)
 else if !((p.name::jw (decl p)).all nmOk)then(Pr.none,150)
 else if !Dw (jw (decl p))then(Pr.none,151)
 else if !ranged p then(Pr.none,161)
 else Ref15.fin p [] (Jj (decl p) p.stmts 0 [] false)
end Go.Fw.Nam
