/- The functions of package names, as plain functions: declaring. -/
import Derived.Lib.IndexMore
import Derived.Test.YtogfjinopifenaaGreatDoorZLL
set_option linter.unusedSectionVars false
set_option linter.unusedSimpArgs false
set_option linter.unusedVariables false
namespace Go.Fw.Nam
variable [GlobInt]
open Ref15
def signs:Str:=[123,125,40,41,59,44,61,58,46,60,62,33,43,45,42,47]
def cls(c:UInt8):Int:=
 if Ref03.letter c then 2 else if Ref03.figure c then 3 else if(c.toNat:Int)==95 then 5
 else if((c.toNat:Int)==32 || (c.toNat:Int)==9 || (c.toNat:Int)==10 || (c.toNat:Int)==13)then 1
 else if decide (Lib.indexByte signs c>=0)then 4 else 0
def clsOk(c:UInt8):Bool:=!(cls c != 2&&cls c != 3&&cls c != 5)
def lname(s:Str):Bool:=!((s==[] || decide ((s.length:Int)>32)) || cls (s.getD 0 0) != 2)&&s.all clsOk
structure En where
 kind:Int
 index:Int
 frm:Int
variable {p : Pr} {f : D → Prop} {s : Str}
abbrev Pe:=Str×En
variable {l : List Pe}
abbrev nmC(x:Pe):List D:=[.str x.1]
abbrev enC(x:Pe):List D:=[.i x.2.kind,.i x.2.index,.i x.2.frm]
def decN(k:Int):List Str->Nat->List Pe
 | [],_=>[]
 |s::r,i=>(s,⟨k,i,0⟩)::decN k r (i+1)
def decS:List Sm->Nat->List Pe
 | [],_=>[]
 |s::r,i=>if s.kind==1 then(s.name,⟨5,i,i+1⟩)::decS r (i+1)else decS r (i+1)
theorem decN_len(k:Int):∀(l:List Str) (i:Nat),(decN k l i).length=l.length
 | [],_=>rfl
 |_::r,i=>by simp[decN,decN_len k r]
theorem decS_len:∀(l:List Sm) (i:Nat),(decS l i).length<=l.length
 | [],_=>Nat.le_refl _
 |s::r,i=>by
  have:=decS_len r (i+1)
  grind[decS]
def T1(p:Pr):List Pe:=decN 3 (bounds p.params) 0
def T2(p:Pr):List Pe:=T1 p++decN 4 (bounds p.states) 0
def T3(p:Pr):List Pe:=T2 p++decN 8 (lines p) 0
def T4(p:Pr):List Pe:=T3 p++decN 9 (tables p) 0
def decl(p:Pr):List Pe:=T4 p++decS p.stmts 0
theorem T1_len(h:p.Small):(T1 p).length<=67108864:=by have:=h.params;simp[T1,decN_len,bounds];omega
theorem T2_len(h:p.Small):(T2 p).length<=134217728:=by have:=T1_len h;have:=h.states;grind[T2,decN_len,bounds]
theorem T3_len(h:p.Small):(T3 p).length<=201326592:=by have:=T2_len h;have:=h.lines;simp[T3,decN_len,lines];omega
theorem T4_len(h:p.Small):(T4 p).length<=268435456:=by have:=T3_len h;have:=h.tables;simp[T4,decN_len,tables];omega
theorem decl_len(h:p.Small):(decl p).length<=335544320:=by have:=T4_len h;have:=h.stmts;grind[decS_len,decl]
theorem app_le{α:Type}{a b c:List α}{n:Nat}(h:a++b=c)(hc:c.length<=n):a.length<=n:=by
 grind
def wordsT:Str:=[32,112,114,111,99,101,115,115,111,114,32,108,97,116,101,110,99,121,32,116,97,105,108,32,102,111,114,101,118,101,114,32,112,97,114,97,109,32,115,116,97,116,101,32,108,105,110,101,32,116,97,98,108,101,32,102,114,111,109,32,116,111,32,108,101,116,32,115,101,116,32,112,117,115,104,32,111,117,116,32,105,102,32,116,104,101,110,32,101,108,115,101,32,105,110,32,115,105,100,101,32,116,97,112,32,108,111,111,107,32,115,97,116,32,109,105,110,32,109,97,120,32,97,98,115,32]
def nmOk(s:Str):Bool:=lname s && !Lib.contains wordsT ([32]++s++[32])
theorem lname_len(h:lname s=true):s.length<=32:=by
 grind[lname]
abbrev mC(x:Pe):D×D:=(.str x.1,.agg (enC x))
def mkM(l:List Pe):List (D×D):=l.map mC
def fsts(l:List Pe):List Str:=l.map (·.1)
theorem keySame_str(a b:Str):keySame (.str a) (.str b)=(a==b):=rfl
theorem mget_none{s:Str}:∀{l:List Pe},s ∉ fsts l->mget (.str s) (mkM l)=none
 | [],_=>rfl
 |x::r,h=>by
  simp only[fsts,List.map_cons,List.mem_cons,not_or]at h
  have hb:(s==x.1)=false:=by simpa using h.1
  simp[mkM,mget,keySame_str,hb]
  exact mget_none (l:=r) h.2
theorem mput_new{s:Str}{v:D}:∀{l:List Pe},s ∉ fsts l->mput (.str s) v (mkM l)=mkM l++[(.str s,v)]
 | [],_=>rfl
 |x::r,h=>by
  simp only[fsts,List.map_cons,List.mem_cons,not_or]at h
  have hb:(s==x.1)=false:=by simpa using h.1
  simp only[mkM,List.map_cons,mput,keySame_str,hb,List.cons_append]
  exact congrArg _ (mput_new (l:=r) h.2)
theorem mput_snoc{x:Pe}{d:List Pe}(h:x.1 ∉ fsts d):mput (.str x.1) (.agg (enC x)) (mkM d)=mkM (d++[x]):=by
 grind[mput_new,mkM]
theorem nonneg_len{n:Nat}(h:n<=9223372036854775807):(IntKind.i64.max-(n:Int)).NonNeg:=by
 have:(n:Int)<=IntKind.i64.max:=by grind[IntKind.max,IntKind.bits]
 exact this
theorem opt_none{o:Option D}{g:Prop}(h:o=none)(hg:g):OptBr o f g:=by subst h;exact hg
theorem opt_some{o:Option D}{g:Prop}{d:D}(h:o=some d)(hg:f d):OptBr o f g:=by subst h;exact hg
def uniq(l:List Pe):Prop:=(fsts l).Nodup
theorem mget_some{s:Str}:∀{l:List Pe},s∈fsts l->∃e:En,mget (.str s) (mkM l)=some (.agg [.i e.kind,.i e.index,.i e.frm])
 | [],h=>by simp[fsts]at h
 |x::r,h=>by
  simp only[mkM,List.map_cons,mget,keySame_str]
  cases hb:(s==x.1)with
  |true=>exact⟨x.2,rfl⟩
  |false=>
   simp only[fsts,List.map_cons,List.mem_cons]at h
   rcases h with h |h
   ·simp_all
   ·exact mget_some (l:=r) h
theorem opt_cases{g:Prop}(h1:∀e:En,s∈fsts l->f (.agg [.i e.kind,.i e.index,.i e.frm]))(h2:s ∉ fsts l->g):OptBr (mget (.str s) (mkM l)) f g:=by
 grind[fsts,mget_some,opt_some,opt_none,mget_none]
theorem uniq_snoc{d:List Pe}{x:Pe}(h:uniq d)(hm:x.1 ∉ fsts d):uniq (d++[x]):=by
 unfold uniq fsts at h ⊢
 rw[List.map_append,List.nodup_append]
 refine⟨h,by simp,?_⟩
 intro a ha b hb hab
 simp at hb
 subst hb;subst hab
 exact hm ha
theorem uniq_at{l d r:List Pe}{x:Pe}(h:uniq l)(e:d++x::r=l):x.1 ∉ fsts d:=by
 subst e
 unfold uniq fsts at h
 rw[List.map_append,List.nodup_append]at h
 intro hm
 exact h.2.2 _ hm _ (by simp) rfl
end Go.Fw.Nam
namespace Go.Fw
abbrev bdsC(l:List Bd):List D:=[.sl 3 (l.map Bd.cs)]
def lens{α:Type}(ls:List (List α)):Nat:=(ls.map List.length).sum
theorem lens_cons{α:Type}(l:List α)(r:List (List α)):lens (l::r)=l.length+lens r:=by simp[lens]
theorem lens_nil{α:Type}:lens ([]:List (List α))=0:=rfl
theorem lens_flat{α:Type}(ls:List (List α)):ls.flatten.length=lens ls:=by simp[lens]
end Go.Fw
namespace Go.Fw.Nam
variable [GlobInt]
abbrev lnB(l:Ln):Bd:=⟨[],l.lo,l.hi⟩
def allB(p:Pr):List Bd:=[p.params,p.states].flatten++p.lines.map lnB
def bd1(b:Bd):Bool:=(sample b.lo&&sample b.hi)&&decide (b.lo<=b.hi)
def tb2(t:Tb):Bool:=!bad t.values
def sm2(s:Sm):Bool:=every ranged2 s.x
def ranged(p:Pr):Bool:=(allB p).all bd1&&(p.tables.all tb2&&p.stmts.all sm2)
theorem allB_len{p:Pr}(h:p.Small):(allB p).length<=201326592:=by
 have:=h.params;have:=h.states;have:=h.lines
 simp[allB];omega
end Go.Fw.Nam
namespace Go.Fw
theorem quiet_step[GlobInt]{T:Tbl}{N:List Nat}{kp i:Nat}{tr:List Rec}{q:Prop}(h:quietN T N kp i tr=true)(h2:q):quietN T N kp i tr=true/\q:=⟨h,h2⟩
end Go.Fw
namespace Go.Fw.Nam
variable [GlobInt]
def lk(n:Str):List Pe->Option En
 | []=>none
 |x::r=>if n==x.1 then some x.2 else lk n r
theorem mget_lk(n:Str):∀l:List Pe,mget (.str n) (mkM l)=(lk n l).map λe=>.agg [.i e.kind,.i e.index,.i e.frm]
 | []=>rfl
 |x::r=>by
  simp only[mkM,List.map_cons,mget,keySame_str,lk]
  cases hb:(n==x.1)with
  |true=>rfl
  |false=>exact mget_lk n r
theorem opt_lk{n:Str}{l:List Pe}{f:D->Prop}{g:Prop}(h1:∀e:En,lk n l=some e->f (.agg [.i e.kind,.i e.index,.i e.frm]))(h2:lk n l=none->g):OptBr (mget (.str n) (mkM l)) f g:=by
 cases hk:lk n l with
 |none=>grind[opt_none,mget_lk]
 |some e=>grind[opt_some,mget_lk]
def arr(k:Int):Bool:=k==8 || k==9
def eok(i k:Int)(e:En):Bool:=decide (i>=e.frm)&&(e.kind==k || (!arr e.kind && !arr k))
def vok(l:List Pe)(i k:Int)(n:Str):Bool:=!(arity k).2 || (match lk n l with |some e=>eok i k e |none=>false)
def vkind(l:List Pe)(k:Int)(n:Str):Int:=if(arity k).2 then(match lk n l with |some e=>e.kind |none=>0)else k
def vidx(l:List Pe)(k:Int)(n:Str):Int:=if(arity k).2 then(match lk n l with |some e=>e.index |none=>0)else 0
mutual
def visB(l:List Pe)(i:Int):Ex->Bool
 | .mk k n _ _ ys=>vok l i k n&&visBL l i ys
def visBL(l:List Pe)(i:Int):List Ex->Bool
 | []=>true
 |y::r=>visB l i y&&visBL l i r
end
mutual
def vis(l:List Pe):Ex->Ex
 | .mk k n _ m ys=>.mk (vkind l k n) n (vidx l k n) m (visL l ys)
def visL(l:List Pe):List Ex->List Ex
 | []=>[]
 |y::r=>vis l y::visL l r
end
theorem visB_eq(l:List Pe)(i:Int)(x:Ex):visB l i x=(vok l i x.kind x.name&&visBL l i x.l):=by cases x;rfl
theorem vis_eq(l:List Pe)(x:Ex):vis l x = .mk (vkind l x.kind x.name) x.name (vidx l x.kind x.name) x.n (visL l x.l):=by cases x;rfl
theorem visBL_nil{l:List Pe}{i:Int}:visBL l i []=true:=by simp[visBL]
theorem visL_cases{l:List Pe}{i:Int}{x:Ex}{r:List Ex}(h:visBL l i (x::r)=false):(visB l i x=true/\visBL l i r=false)\/visB l i x=false:=by
 simp[visBL]at h
 grind
def isSP(k:Int):Bool:=k==2 || k==3
def kindOf(k:Int):Int:=if k==2 then 4 else 8
def target(l:List Pe)(s:Sm):Option En:=match lk s.name l with |some e=>if e.kind==kindOf s.kind then some e else none |none=>none
def sidx(l:List Pe)(s:Sm):Int:=if isSP s.kind then(match target l s with |some e=>e.index |none=>0)else 0
def outS(l:List Pe)(s:Sm):Sm:=⟨s.kind,s.name,sidx l s,vis l s.x⟩
def stopS(l:List Pe)(s:Sm)(i:Nat)(done:List (Int×Int))(out:Bool):Int:=
 if !visB l i s.x then 150
 else if isSP s.kind then
  match target l s with
  |none=>150
  |some e=>if !out && !(done.any λd=>d.1==e.kind&&d.2==e.index)then(if !out then 0 else 151)else 151
 else if !out then 0 else 151
def doneS(l:List Pe)(s:Sm)(done:List (Int×Int)):List (Int×Int):=if isSP s.kind then(match target l s with |some e=>done++[(e.kind,e.index)] |none=>done)else done
def runS(l:List Pe):List Sm->Nat->List (Int×Int)->Bool->Except Int (List Sm)
 | [],_,_,out=>if out then .ok []else .error 150
 |s::r,i,done,out=>
  if stopS l s i done out != 0 then .error (stopS l s i done out)
  else match runS l r (i+1) (doneS l s done) (s.kind==4)with
   | .error e=>.error e
   | .ok t=>.ok (outS l s::t)
end Go.Fw.Nam
namespace Go.Fw.Nam
variable [GlobInt] {l : List Pe} {s : Sm} {o : Bool} {i : Nat} {ts : List Sm} {e : En} {r : List Sm} {p : Pr}
abbrev dnC(d:Int×Int):D×D:=(.agg [.i d.1,.i d.2],.b true)
def doneB(d:List (Int×Int))(a b:Int):Bool:=d.any λx=>x.1==a&&x.2==b
theorem keySame_pair(a b c d:Int):keySame (.agg [.i a,.i b]) (.agg [.i c,.i d])=(a==c&&b==d):=by
 simp[keySame,sameL,sameS]
theorem mget_done(a b:Int):∀d:List (Int×Int),mget (.agg [.i a,.i b]) (d.map dnC)=if doneB d a b then some (.b true)else none
 | []=>rfl
 |x::r=>by
  have e:doneB (x::r) a b=((x.1==a&&x.2==b) || doneB r a b):=rfl
  simp only[List.map_cons,mget,keySame_pair]
  rw[e]
  by_cases h:(a==x.1&&b==x.2)=true
  ·simp_all
  ·have h0:(a==x.1&&b==x.2)=false:=by simpa using h
   have h':(x.1==a&&x.2==b)=false:=by
    grind
   rw[h0,h']
   simpa using mget_done a b r
theorem opt_done{a b:Int}{d:List (Int×Int)}{f:D->Prop}{g:Prop}(h1:doneB d a b=true->f (.b true))(h2:doneB d a b=false->g):OptBr (mget (.agg [.i a,.i b]) (d.map dnC)) f g:=by
 rw[mget_done]
 cases h:doneB d a b with
 |true=>exact h1 h
 |false=>exact h2 h
theorem mput_done{a b:Int}:∀{d:List (Int×Int)},doneB d a b=false->mput (.agg [.i a,.i b]) (.b true) (d.map dnC)=(d++[(a,b)]).map dnC
 | [],_=>rfl
 |x::r,h=>by
  have e:doneB (x::r) a b=((x.1==a&&x.2==b) || doneB r a b):=rfl
  rw[e,Bool.or_eq_false_iff]at h
  have h0:(a==x.1&&b==x.2)=false:=by
   grind
  simp only[List.map_cons,mput,keySame_pair,h0]
  exact congrArg _ (mput_done h.2)
theorem opt_kinds{k:Int}{f:D->Prop}{g:Prop}(hk:(bif k==2 then true else k==3)=true)(h:f (.i (kindOf k))):OptBr (mget (.i k) (mput (.i 3) (.i 8) (mput (.i 2) (.i 4) []))) f g:=by
 have e:mget (.i k) (mput (.i 3) (.i 8) (mput (.i 2) (.i 4) []))=some (.i (kindOf k)):=by
  rw[show mput (.i 3) (.i 8) (mput (.i 2) (.i 4) []) = [(.i 2,.i 4),(.i 3,.i 8)]from rfl]
  simp[mget,keySame,sameS,kindOf]
  grind
 rw[e];exact h
theorem fin_err{d:List (Int×Int)}{e:Int}(h:stopS l s i d o=e)(he:e≠0):Ref15.fin p ts (runS l (s::r) i d o)=(Pr.none,e):=by
 simp only[runS]
 rw[if_pos (by simp_all),h];rfl
theorem fin_go{d:List (Int×Int)}(h:stopS l s i d o=0):Ref15.fin p ts (runS l (s::r) i d o)=Ref15.fin p (ts++[outS l s]) (runS l r (i+1) (doneS l s d) (s.kind==4)):=by
 simp only[runS]
 rw[if_neg (by rw[h];simp)]
 exact Ref15.fin_cons
theorem stop_vis{d:List (Int×Int)}(h:visB l i s.x=false):stopS l s i d o=150:=by simp[stopS,h]
theorem isSP_eq(k:Int):(bif k==2 then true else k==3)=isSP k:=by simp[isSP]
theorem stop_none{d:List (Int×Int)}(h:visB l i s.x=true)(hk:(bif s.kind==2 then true else s.kind==3)=true)(ht:lk s.name l=none):stopS l s i d o=150:=by
 grind[isSP_eq,stopS,target]
theorem stop_kind{d:List (Int×Int)}(h:visB l i s.x=true)(hk:(bif s.kind==2 then true else s.kind==3)=true)(ht:lk s.name l=some e)(he:(bif true then e.kind==kindOf s.kind else false)=false):stopS l s i d o=150:=by
 rw[isSP_eq]at hk;grind[stopS,target]
theorem target_eq(ht:lk s.name l=some e)(he:(bif true then e.kind==kindOf s.kind else false)=true):target l s=some e:=by
 grind[target]
theorem stop_done{d:List (Int×Int)}(h:visB l i s.x=true)(hk:(bif s.kind==2 then true else s.kind==3)=true)(ht:target l s=some e)(hd:(bif !o then !doneB d e.kind e.index else false)=false):stopS l s i d o=151:=by
 grind[isSP_eq,stopS,doneB]
theorem stop_ok{d:List (Int×Int)}(h:visB l i s.x=true)(hk:(bif s.kind==2 then true else s.kind==3)=true)(ht:target l s=some e)(hd:(bif !o then !doneB d e.kind e.index else false)=true):stopS l s i d o=0:=by
 simp[stopS]
 have:(!o && !d.any λx=>x.1==e.kind&&x.2==e.index)=true:=by grind[doneB]
 grind
theorem stop_out{d:List (Int×Int)}(h:visB l i s.x=true)(hk:(bif s.kind==2 then true else s.kind==3)=false)(ho:(!o)=false):stopS l s i d o=151:=by
 grind[isSP_eq,stopS]
theorem stop_ok'{d:List (Int×Int)}(h:visB l i s.x=true)(hk:(bif s.kind==2 then true else s.kind==3)=false)(ho:(!o)=true):stopS l s i d o=0:=by
 grind[isSP_eq,stopS]
theorem doneS_sp{d:List (Int×Int)}(hk:(bif s.kind==2 then true else s.kind==3)=true)(ht:target l s=some e):doneS l s d=d++[(e.kind,e.index)]:=by
 grind[isSP_eq,doneS]
theorem doneS_no{d:List (Int×Int)}(hk:(bif s.kind==2 then true else s.kind==3)=false):doneS l s d=d:=by
 grind[isSP_eq,doneS]
theorem sidx_sp(hk:(bif s.kind==2 then true else s.kind==3)=true)(ht:target l s=some e):sidx l s=e.index:=by
 grind[isSP_eq,sidx]
theorem sidx_no(hk:(bif s.kind==2 then true else s.kind==3)=false):sidx l s=0:=by
 grind[isSP_eq,sidx]
theorem fin_end{d:List (Int×Int)}(ho:o=true):Ref15.fin p ts (runS l [] i d o)=({ p with stmts:=ts },0):=by
 grind[runS,Ref15.fin]
theorem fin_bad{d:List (Int×Int)}(ho:o=false):Ref15.fin p ts (runS l [] i d o)=(Pr.none,150):=by
 grind[runS,Ref15.fin]
theorem tup_eq{q:Pr×Int}{x:Pr}{e:Int}(h:q=(x,e)):D.tuple [x.d,.val (.int .i64 e)]=D.tuple [q.1.d,.i q.2]:=by subst h;rfl
theorem vis_split{xs:List Sm}{x:Sm}{A B q:Prop}(l:List Pe)(_:xs.drop i=x::r)(hI:A/\B)(h1:visB l (i:Int) x.x=true->A->B->q)(h2:visB l (i:Int) x.x=false->A->B->q):q:=by
 grind
theorem gs_no(hk:(bif s.kind==2 then true else s.kind==3)=false):ts.map Sm.cs++[[.i s.kind,.str s.name,.i 0,.i (vis l s.x).kind,.str (vis l s.x).name,.i (vis l s.x).index,.i (vis l s.x).n,.sl 5 (Ex.css (vis l s.x).l)]]=(ts++[outS l s]).map Sm.cs:=by
 simp[outS,sidx_no hk]
theorem gs_sp(hk:(bif s.kind==2 then true else s.kind==3)=true)(ht:target l s=some e):ts.map Sm.cs++[[.i s.kind,.str s.name,.i e.index,.i (vis l s.x).kind,.str (vis l s.x).name,.i (vis l s.x).index,.i (vis l s.x).n,.sl 5 (Ex.css (vis l s.x).l)]]=(ts++[outS l s]).map Sm.cs:=by
 simp[outS,sidx_sp hk ht]
theorem absurd_out{o b:Bool}{q:Prop}(h1:(bif !o then b else false)=true)(h2:(!o)=false):q:=by simp_all
theorem map_no{d:List (Int×Int)}(hk:(bif s.kind==2 then true else s.kind==3)=false):Block.map true [.int .i64,.int .i64] (d.map dnC)=Block.map true [.int .i64,.int .i64] ((doneS l s d).map dnC):=by
 rw[doneS_no hk]
theorem map_sp{d:List (Int×Int)}(hk:(bif s.kind==2 then true else s.kind==3)=true)(ht:target l s=some e)(hd:(bif !o then !doneB d e.kind e.index else false)=true):Block.map true [.int .i64,.int .i64] (mput (.agg [.i e.kind,.i e.index]) (.b true) (d.map dnC))=Block.map true [.int .i64,.int .i64] ((doneS l s d).map dnC):=by
 grind[doneS_sp,mput_done]
end Go.Fw.Nam
namespace Go.Fw.Nam
variable [GlobInt]
open Ref15
def hasS(s:Str):List Str->Bool
 | []=>false
 |x::r=>x==s || hasS s r
def uniqB:List Str->Bool
 | []=>true
 |x::r=>!hasS x r&&uniqB r
theorem hasS_iff{s:Str}:∀{l:List Str},hasS s l=true↔s∈l
 | []=>by simp[hasS]
 |x::r=>by
  simp[hasS,hasS_iff (l:=r)]
  grind
theorem uniqB_iff:∀{l:List Str},uniqB l=true↔l.Nodup
 | []=>by simp[uniqB]
 |x::r=>by
  simp[uniqB,uniqB_iff (l:=r)]
  grind[hasS_iff]
def resolveC(p:Pr):Pr×Int:=
 if !formed p then(Pr.none,1)
 else if !limited p then(Pr.none,2)
 else if !((p.name::fsts (decl p)).all nmOk)then(Pr.none,150)
 else if !uniqB (fsts (decl p))then(Pr.none,151)
 else if !ranged p then(Pr.none,161)
 else Ref15.fin p [] (runS (decl p) p.stmts 0 [] false)
end Go.Fw.Nam
