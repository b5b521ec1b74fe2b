/- Package syntax, as plain functions: its parser. -/
import Derived.Test.YtmfehangcmbidaaGreatDoorZDL
set_option linter.unusedSectionVars false
set_option linter.unusedSimpArgs false
set_option linter.unusedVariables false
namespace Go.Fw.Sy
open Go.Fw.Lx (Tk)
abbrev Str:=List UInt8
abbrev wProcessor:Str:=[112,114,111,99,101,115,115,111,114]
abbrev cO:Str:=[108,97,116,101,110,99,121]
abbrev wTail:Str:=[116,97,105,108]
abbrev dR:Str:=[102,111,114,101,118,101,114]
abbrev tK:Str:=[112,97,114,97,109]
abbrev qj:Str:=[115,116,97,116,101]
abbrev Fh:Str:=[108,105,110,101]
abbrev ww:Str:=[116,97,98,108,101]
abbrev Ns:Str:=[102,114,111,109]
abbrev wTo:Str:=[116,111]
abbrev XZ:Str:=[108,101,116]
abbrev X0:Str:=[115,101,116]
abbrev Ij:Str:=[112,117,115,104]
abbrev X3:Str:=[111,117,116]
abbrev wIf:Str:=[105,102]
abbrev ku:Str:=[116,104,101,110]
abbrev kw:Str:=[101,108,115,101]
abbrev wIn:Str:=[105,110]
abbrev z0h:Str:=[115,105,100,101]
abbrev z4q:Str:=[116,97,112]
abbrev z0i:Str:=[108,111,111,107]
abbrev z4r:Str:=[115,97,116]
abbrev z4s:Str:=[109,105,110]
abbrev z4t:Str:=[109,97,120]
abbrev z4u:Str:=[97,98,115]
abbrev mO:Str:=[40]
abbrev tN:Str:=[41]
abbrev aS:Str:=[44]
abbrev dS:Str:=[59]
abbrev sEq:Str:=[61]
abbrev sLt:Str:=[60]
abbrev mQ:Str:=[43]
abbrev dZ:Str:=[45]
abbrev lm:Str:=[42]
abbrev jT:Str:=[47]
abbrev sBra:Str:=[123]
abbrev xk:Str:=[125]
def words:List Str:=[wProcessor,cO,wTail,dR,tK,qj,Fh,ww,Ns,wTo,XZ,X0,Ij,X3,wIf,ku,kw,wIn,z0h,z4q,z0i,z4r,z4s,z4t,z4u]
def hd:List Tk->Tk
 | []=>⟨0,[],0,0⟩
 |t::_=>t
def isT(s:Str)(l:List Tk):Bool:=(!l.isEmpty&&(hd l).kind != 2)&&(hd l).text==s
def Gv(l:List Tk):Bool:=(!l.isEmpty&&(hd l).kind==1) && !words.contains (hd l).text
def eG(l:List Tk):Bool:=(!l.isEmpty&&(hd l).kind==2)&&decide ((hd l).n<=2147483648)
abbrev PM(α:Type):=List Tk->Option α×List Tk
def bnd{α β:Type}(r:Option α×List Tk)(f:α->PM β):Option β×List Tk:=match r with
 |(none,l)=>(none,l)
 |(some x,l)=>f x l
def aC(s:Str):PM Unit:=λl=>if isT s l then(some (),l.drop 1)else(none,l)
def jg:PM Str:=λl=>if Gv l then(some (hd l).text,l.drop 1)else(none,l)
def mV:PM Int:=λl=>if eG l then(some (hd l).n,l.drop 1)else(none,l)
def Gw:PM Int:=λl=>if isT dZ l then bnd (mV (l.drop 1)) λn r=>(some (IntKind.i64.wrap (0-n)),r)else mV l
abbrev ex1(k:Int)(x:Ex):Ex:=.mk k [] 0 0 [x]
abbrev ex2(k:Int)(x y:Ex):Ex:=.mk k [] 0 0 [x,y]
def prodL(u:PM Ex):Nat->Ex->PM Ex
 | 0,x=>λl=>(some x,l)
 |n+1,x=>λl=>
  if isT lm l then bnd (u (l.drop 1)) λy=>prodL u n (ex2 17 x y)
  else if isT jT l then
   (if eG (l.drop 1)&&(hd (l.drop 1)).n==0 then(none,l.drop 1)else bnd (mV (l.drop 1)) λk=>prodL u n (.mk 18 [] 0 k [x]))
  else(some x,l)
def kz(u:PM Ex):PM Ex:=λl=>bnd (u l) λx r=>prodL u r.length x r
def sumL(u:PM Ex):Nat->Ex->PM Ex
 | 0,x=>λl=>(some x,l)
 |n+1,x=>λl=>
  if isT mQ l then bnd (kz u (l.drop 1)) λy=>sumL u n (ex2 15 x y)
  else if isT dZ l then bnd (kz u (l.drop 1)) λy=>sumL u n (ex2 16 x y)
  else(some x,l)
def sumM(u:PM Ex):PM Ex:=λl=>bnd (kz u l) λx r=>sumL u r.length x r
def exprF(u:PM Ex):Nat->PM Ex
 | 0=>λl=>(none,l)
 | n+1=>λl=>if isT wIf l then
   bnd (sumM u (l.drop 1)) λa l=>bnd (aC sLt l) λ_ l=>bnd (sumM u l) λb l=>bnd (aC ku l) λ_ l=>
    bnd (exprF u n l) λc l=>bnd (aC kw l) λ_ l=>bnd (exprF u n l) λd l=>(some (.mk 19 [] 0 0 [a,b,c,d]),l)
  else sumM u l
def rf(u:PM Ex):PM Ex:=λl=>exprF u (l.length+1) l
def CY:List (Str×Int×Int×Bool):=[(wIn,6,1,false),(z0h,7,1,false),(z4r,10,1,false),(z4u,13,1,false),(z4q,8,1,true),(z0i,9,1,true),(z4s,11,2,false),(z4t,12,2,false)]
def Nu(u:PM Ex):Nat->Nat->List Ex->PM (List Ex)
 | 0,_,acc=>λl=>(some acc,l)
 |m+1,i,acc=>λl=>bnd (if 0<i then aC aS l else(some (),l)) λ_ l=>bnd (rf u l) λx l=>Nu u m (i+1) (acc++[x]) l
def mW(u:PM Ex)(k:Int)(n:Nat)(named:Bool):PM Ex:=λl=>
 bnd (aC mO l) λ_ l=>bnd (if named then bnd (jg l) λs l=>bnd (aC aS l) λ_ l=>(some s,l)else(some [],l)) λs l=>
  bnd (Nu u n 0 [] l) λxs l=>bnd (aC tN l) λ_ l=>(some (.mk k s 0 0 xs),l)
def look(s:Str):List (Str×Int×Int×Bool)->Option (Int×Int×Bool)
 | []=>none
 |(w,f)::r=>if s==w then some f else look s r
def wJ(u:Option (PM Ex)):PM Ex:=λl=>
 if eG l then(some (.mk 1 [] 0 (hd l).n []),l.drop 1)
 else if Gv l then(some (.mk 2 (hd l).text 0 0 []),l.drop 1)
 else match u with
  |none=>(none,l)
  |some u=>
   if isT dZ l then bnd (u (l.drop 1)) λx l=>(some (ex1 14 x),l)
   else if isT mO l then bnd (rf u (l.drop 1)) λx l=>bnd (aC tN l) λ_ l=>(some x,l)
   else match look (hd l).text CY with
    |some f=>if(hd l).kind==1 then mW u f.1 f.2.1.toNat f.2.2 (l.drop 1)else(none,l)
    |none=>(none,l)
def Ik:Nat->PM Ex
 | 0=>wJ none
 |k+1=>wJ (some (Ik k))
def rq:PM (Int×Int):=λl=>bnd (aC Ns l) λ_ l=>bnd (Gw l) λlo l=>bnd (aC wTo l) λ_ l=>bnd (Gw l) λhi l=>(some (lo,hi),l)
def yU:PM Bd:=λl=>bnd (jg l) λs l=>bnd (rq l) λb l=>(some ⟨s,b.1,b.2⟩,l)
abbrev IM:=Pr->List Tk->Bool×Pr×List Tk
def itB{α:Type}(p:Pr)(r:Option α×List Tk)(f:α->List Tk->Bool×Pr×List Tk):Bool×Pr×List Tk:=match r with
 |(none,l)=>(false,p,l)
 |(some x,l)=>f x l
def yV:IM:=λp l=>itB p (yU l) λb l=>(true,{ p with params:=p.params++[b] },l)
def yX:IM:=λp l=>itB p (yU l) λb l=>(true,{ p with states:=p.states++[b] },l)
def Il:IM:=λp l=>itB p (jg l) λs l=>itB p (mV l) λn l=>itB p (rq l) λb l=>(true,{ p with lines:=p.lines++[⟨s,n,b.1,b.2⟩] },l)
def listL:Nat->List Int->PM (List Int)
 | 0,acc=>λl=>(some acc,l)
 |n+1,acc=>λl=>if isT aS l then bnd (Gw (l.drop 1)) λv l=>listL n (acc++[v]) l else(some acc,l)
def Fj:PM (List Int):=λl=>bnd (Gw l) λv l=>listL l.length [v] l
def yY:IM:=λp l=>itB p (jg l) λs l=>itB p (aC sEq l) λ_ l=>itB p (Fj l) λvs l=>(true,{ p with tables:=p.tables++[⟨s,vs⟩] },l)
def kU(k:Int):IM:=λp l=>itB p (if k != 4 then bnd (jg l) λs l=>bnd (aC sEq l) λ_ l=>(some s,l)else(some [],l)) λs l=>
 itB p (rf (Ik 63) l) λx l=>(true,{ p with stmts:=p.stmts++[⟨k,s,0,x⟩] },l)
def decls:List (Str×IM):=[(tK,yV),(qj,yX),(Fh,Il),(ww,yY)]
def stmts:List (Str×IM):=[(XZ,kU 1),(X0,kU 2),(Ij,kU 3),(X3,kU 4)]
def find(s:Str):List (Str×IM)->Option IM
 | []=>none
 |(w,f)::r=>if s==w then some f else find s r
def fF(t:List (Str×IM)):Nat->IM
 | 0=>λp l=>(true,p,l)
 |n+1=>λp l=>if l.isEmpty then(true,p,l)else match find (hd l).text t with
  |none=>(true,p,l)
  | some f=>if isT (hd l).text l then match f p (l.drop 1)with
    |(false,p,l)=>(false,p,l)
    |(true,p,l)=>itB p (aC dS l) λ_ l=>fF t n p l
   else(true,p,l)
def dD(t:List (Str×IM)):IM:=λp l=>fF t l.length p l
def jr:PM Pr:=λl=>bnd (aC wProcessor l) λ_ l=>bnd (jg l) λs l=>bnd (aC cO l) λ_ l=>bnd (mV l) λa l=>
 bnd (aC wTail l) λ_ l=>bnd (if eG l then mV l else bnd (aC dR l) λ_ l=>(some (-1),l)) λt l=>bnd (aC sBra l) λ_ l=>
  match dD decls ⟨s,a,t,[],[],[],[],[]⟩ l with
  |(false,_,l)=>(none,l)
  |(true,p,l)=>match dD stmts p l with
   |(false,_,l)=>(none,l)
   |(true,p,l)=>bnd (aC xk l) λ_ l=>(some p,l)
def readF:Nat->List Pr->PM (List Pr)
 | 0,ps=>λl=>(some ps,l)
 |n+1,ps=>λl=>if l.isEmpty then(some ps,l)else bnd (jr l) λp l=>readF n (ps++[p]) l
def bQ(l:List Tk):Option (List Pr)×List Tk:=readF l.length [] l
def at'(e:Int):List Tk->Int
 | []=>e
 |t::_=>t.pos
abbrev wd(s:Str):Tk:=⟨1,s,0,0⟩
abbrev sg(s:Str):Tk:=⟨3,s,0,0⟩
abbrev nu(n:Int):Tk:=⟨2,[],n,0⟩
def jh(n:Int):List Tk:=if n<0 then [sg dZ,nu (IntKind.i64.wrap (0-n))]else [nu n]
def level(k:Int):Int:=if k==19 then 0 else if k==15 || k==16 then 1 else if k==17 || k==18 then 2 else 3
abbrev Form:=List Str×List Int×Str
def forms:List (Int×Form):=[(19,[wIf,sLt,ku,kw],[1,1,0,0],[]),(15,[[],mQ],[1,2],[]),(16,[[],dZ],[1,2],[]),(17,[[],lm],[2,3],[]),(18,[[]],[2],jT),(14,[dZ],[3],[])]
def Io(k:Int):List (Int×Form)->Option Form
 | []=>none
 |(w,f)::r=>if k==w then some f else Io k r
def lq(k:Int):Option Form:=Io k forms
def z2p(k:Int):List (Str×Int×Int×Bool)->Option (Str×Int×Bool)
 | []=>none
 |(w,f,n,b)::r=>if f==k then some (w,n,b)else z2p k r
def Fp(k:Int):Option (Str×Int×Bool):=z2p k CY
def kV(s:Str):List Tk:=if s==wIf || s==ku || s==kw then [wd s]else if s==[]then []else [sg s]
mutual
def aZ:Ex->List Tk
 | .mk k nm _ n l=>match lq k with
  |some f=>opsT l f.1 f.2.1++(if f.2.2==[]then []else sg f.2.2::jh n)
  |none=>match Fp k with
   |some f=>wd f.1::sg mO::((if f.2.2 then [wd nm,sg aS]else [])++(WB l f.2.1.toNat 0++[sg tN]))
   |none=>if k==1 then jh n else [wd nm]
def opsT:List Ex->List Str->List Int->List Tk
 | [],hs,_=>hs.flatMap kV
 |_::_,[],_=>[]
 |x::xs,h::hs,lv=>kV h++((if level x.kind<lv.headD 0 then sg mO::(aZ x++[sg tN])else aZ x)++opsT xs hs lv.tail)
def WB:List Ex->Nat->Nat->List Tk
 | [],_,_=>[]
 |_::_,0,_=>[]
 |x::xs,m+1,i=>(if 0<i then [sg aS]else [])++(aZ x++WB xs m (i+1))
end
def dw(x:Ex)(least:Int):List Tk:=if level x.kind<least then sg mO::(aZ x++[sg tN])else aZ x
def fM(lo hi:Int):List Tk:=wd Ns::(jh lo++(wd wTo::(jh hi++[sg dS])))
def jv(s:Sm):List Tk:=(if s.kind==1 then [wd XZ,wd s.name,sg sEq]else if s.kind==2 then [wd X0,wd s.name,sg sEq]else if s.kind==3 then [wd Ij,wd s.name,sg sEq]else [wd X3])++(dw s.x 0++[sg dS])
def yZ:Nat->List Int->List Tk
 |_,[]=>[]
 |i,v::r=>(if 0<i then [sg aS]else [])++(jh v++yZ (i+1) r)
def bdT(w:Str)(b:Bd):List Tk:=wd w::wd b.name::fM b.lo b.hi
def lnT(b:Ln):List Tk:=wd Fh::wd b.name::(jh b.size++fM b.lo b.hi)
def tbT(t:Tb):List Tk:=wd ww::wd t.name::sg sEq::(yZ 0 t.values++[sg dS])
def iM(p:Pr):List Tk:=
 wd wProcessor::wd p.name::wd cO::(jh p.latency++(wd wTail::((if p.tail == -1 then [wd dR]else jh p.tail)++(sg sBra ::
  (p.params.flatMap (bdT tK)++(p.states.flatMap (bdT qj)++(p.lines.flatMap lnT++(p.tables.flatMap tbT++(p.stmts.flatMap jv++[sg xk])))))))))
mutual
def zM:Ex->Ex
 | .mk k nm _ n l=>.mk (if k==3 || k==4 || k==5 then 2 else k) nm 0 n (UX l)
def UX:List Ex->List Ex
 | []=>[]
 |x::r=>zM x::UX r
end
theorem UY(l:List Ex):UX l=l.map zM:=by
 induction l with
 |nil=>rfl
 |cons x r ih=>simp[UX,ih]
abbrev UZ(s:Sm):Sm:={ s with index:=0,x:=zM s.x }
abbrev Fq(p:Pr):Pr:={ p with stmts:=p.stmts.map UZ }
abbrev Sh{α:Type}(m:PM α):Prop:=∀l o r,m l=(o,r)->r.length<=l.length
def Le{α:Type}(n:Nat)(r:Option α×List Tk):Prop:=r.2.length<=n
theorem Sh.le{α:Type}{m:PM α}(h:Sh m)(l:List Tk):Le l.length (m l):=h l _ _ rfl
theorem Sh.of{α:Type}{m:PM α}(h:∀l,Le l.length (m l)):Sh m:=λl o r e=>by have:=h l;rw[e]at this;exact this
theorem Le.mono{α:Type}{n m:Nat}{r:Option α×List Tk}(h:Le n r)(hn:n<=m):Le m r:=Nat.le_trans h hn
theorem Le.bnd{α β:Type}{n:Nat}{r:Option α×List Tk}{f:α->PM β}(h:Le n r)(hf:∀x l,l.length<=n->Le n (f x l)):Le n (bnd r f):=by
 obtain⟨o,l⟩:=r
 cases o with
 |none=>exact h
 |some x=>exact hf x l h
theorem Le.drop{α:Type}{o:Option α}{l:List Tk}:Le l.length (o,l.drop 1):=by simp[Le]
theorem Le.drop'{α:Type}{o:Option α}{l:List Tk}{n:Nat}(h:l.length<=n):Le n (o,l.drop 1):=by simp[Le];omega
theorem Le.self{α:Type}{o:Option α}{l:List Tk}{n:Nat}(h:l.length<=n):Le n (o,l):=h
theorem lX{l:List Tk}{n:Nat}(h:l.length<=n):(l.drop 1).length<=n:=by simp;omega
theorem lY{s:Str}:Sh (aC s):=.of λl=>by unfold aC;split;exact .drop;exact .self (Nat.le_refl _)
theorem lZ:Sh jg:=.of λl=>by unfold jg;split;exact .drop;exact .self (Nat.le_refl _)
theorem tV:Sh mV:=.of λl=>by unfold mV;split;exact .drop;exact .self (Nat.le_refl _)
theorem y5:Sh Gw:=.of λl=>by
 unfold Gw;split
 ·exact(tV.le _).mono (by simp) |>.bnd λ_ _ h=>h
 ·exact tV.le _
section
variable {u : PM Ex} (hu : Sh u)
include hu
theorem CZ:∀(n:Nat) (x:Ex) (l:List Tk) (m:Nat),l.length<=m->Le m (prodL u n x l)
 | 0,_,_,_,h=>h
 |n+1,x,l,m,h=>by
  unfold prodL
  split
  ·exact((hu.le _).mono (lX h)).bnd λy r hr=>CZ n _ _ _ hr
  ·split
   ·split
    ·exact .drop' h
    ·exact((tV.le _).mono (lX h)).bnd λy r hr=>CZ n _ _ _ hr
   ·exact h
theorem y7:Sh (kz u):=.of λl=>(hu.le l).bnd λx r hr=>CZ hu _ _ _ _ hr
theorem Ip:∀(n:Nat) (x:Ex) (l:List Tk) (m:Nat),l.length<=m->Le m (sumL u n x l)
 | 0,_,_,_,h=>h
 |n+1,x,l,m,h=>by
  unfold sumL
  split
  ·exact(((y7 hu).le _).mono (lX h)).bnd λy r hr=>Ip n _ _ _ hr
  ·split
   ·exact(((y7 hu).le _).mono (lX h)).bnd λy r hr=>Ip n _ _ _ hr
   ·exact h
theorem WC:Sh (sumM u):=.of λl=>((y7 hu).le l).bnd λx r hr=>Ip hu _ _ _ _ hr
theorem xm:∀(n:Nat) (l:List Tk) (m:Nat),l.length<=m->Le m (exprF u n l)
 | 0,_,_,h=>h
 |n+1,l,m,h=>by
  have hs:∀l:List Tk,l.length<=m->Le m (sumM u l):=λl h=>((WC hu).le l).mono h
  have hw:∀(s:Str) (l:List Tk),l.length<=m->Le m (aC s l):=λs l h=>(lY.le l).mono h
  unfold exprF
  split
  ·exact(hs _ (lX h)).bnd λ_ _ h=>(hw _ _ h).bnd λ_ _ h=>(hs _ h).bnd λ_ _ h=>(hw _ _ h).bnd λ_ _ h=>(xm n _ _ h).bnd λ_ _ h=>(hw _ _ h).bnd λ_ _ h=>(xm n _ _ h).bnd λ_ _ h=>h
  ·exact hs _ h
theorem U0(n:Nat):Sh (exprF u n):=.of λl=>xm hu n l _ (Nat.le_refl _)
theorem Iq:Sh (rf u):=.of λl=>xm hu _ _ _ (Nat.le_refl _)
theorem QS:∀(n i:Nat) (a:List Ex) (l:List Tk) (m:Nat),l.length<=m->Le m (Nu u n i a l)
 | 0,_,_,_,_,h=>h
 |n+1,i,a,l,m,h=>by
  unfold Nu
  refine Le.bnd ?_ λ_ _ h=>(((Iq hu).le _).mono h).bnd λ_ _ h=>QS n _ _ _ _ h
  split
  ·exact(lY.le _).mono h
  ·exact h
theorem X4(k:Int)(n:Nat)(b:Bool):Sh (mW u k n b):=.of λl=>by
 have hw:∀(s:Str) (l':List Tk),l'.length<=l.length->Le l.length (aC s l'):=λs l h=>(lY.le l).mono h
 refine(hw _ _ (Nat.le_refl _)).bnd λ_ _ h=>Le.bnd ?_ λ_ _ h=>(QS hu _ _ _ _ _ h).bnd λ_ _ h=>(hw _ _ h).bnd λ_ _ h=>h
 split
 ·exact((lZ.le _).mono h).bnd λ_ _ h=>(hw _ _ h).bnd λ_ _ h=>h
 ·exact h
end
theorem J5{u:Option (PM Ex)}(hu:∀v,u=some v->Sh v):Sh (wJ u):=.of λl=>by
 unfold wJ
 split
 ·exact .drop
 ·split
  ·exact .drop
  ·split
   ·exact Nat.le_refl _
   ·rename_i v
    have hv:=hu v rfl
    split
    ·exact((hv.le _).mono (lX (Nat.le_refl _))).bnd λ_ _ h=>h
    ·split
     ·exact(((Iq hv).le _).mono (lX (Nat.le_refl _))).bnd λ_ _ h=>((lY.le _).mono h).bnd λ_ _ h=>h
     ·split
      ·split
       ·exact((X4 hv _ _ _).le _).mono (lX (Nat.le_refl _))
       ·exact Nat.le_refl _
      ·exact Nat.le_refl _
theorem y8:∀k,Sh (Ik k)
 | 0=>J5 λ_ h=>by cases h
 |k+1=>J5 λ_ h=>by cases h;exact y8 k
theorem jU{s:Str}{l:List Tk}(h:isT s l=true):l ≠ []:=by rintro rfl;simp[isT]at h
theorem l9{l:List Tk}{n:Nat}(h:l ≠ [])(hn:l.length<=n):∃m,n=m+1/\(l.drop 1).length<=m:=by
 cases l with
 |nil=>exact absurd rfl h
 |cons t r=>refine⟨n-1,?_,?_⟩<;>simp at hn ⊢ <;> omega
section
variable {u : PM Ex}
theorem Fv{n:Nat}{x:Ex}{l:List Tk}(hn:l.length<=n)(hT:isT lm l=true):prodL u n x l=bnd (u (l.drop 1)) λy=>prodL u (n-1) (ex2 17 x y):=by
 obtain⟨m,rfl,-⟩:=l9 (jU hT) hn
 show prodL u (m+1) x l=_;rw[Nat.add_sub_cancel];conv=>{ lhs;unfold prodL };rw[if_pos hT]
theorem vC{n:Nat}{x:Ex}{l:List Tk}(hn:l.length<=n)(h0:isT lm l=false)(hT:isT jT l=true):prodL u n x l=if eG (l.drop 1)&&(hd (l.drop 1)).n==0 then(none,l.drop 1)else bnd (mV (l.drop 1)) λk=>prodL u (n-1) (.mk 18 [] 0 k [x]):=by
 obtain⟨m,rfl,-⟩:=l9 (jU hT) hn
 show prodL u (m+1) x l=_;rw[Nat.add_sub_cancel];conv=>{ lhs;unfold prodL };rw[h0,if_neg (by simp),if_pos hT]
theorem U1{n:Nat}{x:Ex}{l:List Tk}(h0:isT lm l=false)(hT:isT jT l=false):prodL u n x l=(some x,l):=by
 cases n with
 |zero=>rfl
 |succ n=>unfold prodL;rw[h0,if_neg (by simp),hT,if_neg (by simp)]
theorem J6{n:Nat}{x:Ex}{l:List Tk}(hn:l.length<=n)(hT:isT mQ l=true):sumL u n x l=bnd (kz u (l.drop 1)) λy=>sumL u (n-1) (ex2 15 x y):=by
 obtain⟨m,rfl,-⟩:=l9 (jU hT) hn
 show sumL u (m+1) x l=_;rw[Nat.add_sub_cancel];conv=>{ lhs;unfold sumL };rw[if_pos hT]
theorem Fz{n:Nat}{x:Ex}{l:List Tk}(hn:l.length<=n)(h0:isT mQ l=false)(hT:isT dZ l=true):sumL u n x l=bnd (kz u (l.drop 1)) λy=>sumL u (n-1) (ex2 16 x y):=by
 obtain⟨m,rfl,-⟩:=l9 (jU hT) hn
 show sumL u (m+1) x l=_;rw[Nat.add_sub_cancel];conv=>{ lhs;unfold sumL };rw[h0,if_neg (by simp),if_pos hT]
theorem X5{n:Nat}{x:Ex}{l:List Tk}(h0:isT mQ l=false)(hT:isT dZ l=false):sumL u n x l=(some x,l):=by
 cases n with
 |zero=>rfl
 |succ n=>unfold sumL;rw[h0,if_neg (by simp),hT,if_neg (by simp)]
structure LI{α:Type}(f:Nat->α->PM Ex)(R:Option Ex×List Tk)(n:Nat)(x:α)(l:List Tk):Prop where
 eq:f n x l=R
 le:l.length<=n
theorem LI.mu{n:Nat}{l:List Tk}(hn:l.length<=n)(h:l ≠ []):n-1<n:=by
 cases l with
 |nil=>exact absurd rfl h
 |cons t r=>simp at hn;omega
theorem y9{α:Type}{m:PM α}(hm:Sh m){l r:List Tk}{n:Nat}{o:Option α}(hn:l.length<=n)(hl:l ≠ [])(h:m (l.drop 1)=(o,r)):r.length<=n-1:=by
 obtain⟨k,rfl,hk⟩:=l9 hl hn
 have:=hm _ _ _ h
 omega
end
section
variable {u : PM Ex} {o : Option Ex} {l l' l1 l2 l3 : List Tk} {n : Nat} {x y : Ex} {k : Int}
theorem vF{α β:Type}{a o:α}{b l:β}(h:(a,b)=(o,l)):o=a/\l=b:=by cases h;exact⟨rfl,rfl⟩
theorem X6(hM:kz u l=(o,l'))(h:u l=(none,l2)):o=none/\l'=l2:=by unfold kz at hM;rw[h]at hM;exact vF hM
theorem z0j(hM:kz u l=(o,l'))(h:u l=(some y,l2)):LI (prodL u) (o,l') l2.length y l2:=by unfold kz at hM;rw[h]at hM;exact⟨hM,Nat.le_refl _⟩
theorem z0k(hI:LI (prodL u) (o,l') n x l1)(h0:isT lm l1=false)(h1:isT jT l1=false):o=some x/\l'=l1:=by have h:=hI.eq;rw[U1 h0 h1]at h;exact vF h
theorem X7(hI:LI (prodL u) (o,l') n x l1)(hT:isT lm l1=true)(h:u (l1.drop 1)=(none,l2)):o=none/\l'=l2:=by have h1:=hI.eq;rw[Fv hI.le hT,h]at h1;exact vF h1
theorem X8(hs:Sh u)(hI:LI (prodL u) (o,l') n x l1)(hT:isT lm l1=true)(h:u (l1.drop 1)=(some y,l2)):LI (prodL u) (o,l') (n-1) (ex2 17 x y) l2:=by
 have h1:=hI.eq;rw[Fv hI.le hT,h]at h1;exact⟨h1,y9 hs hI.le (jU hT) h⟩
theorem z5c{b c:Bool}(h:(bif b then c else false)=true):(b&&c)=true:=by cases b with |true=>exact h |false=>cases h
theorem num0'{b c:Bool}(h:(bif b then c else false)=false):(b&&c)=false:=by cases b with |true=>exact h |false=>rfl
theorem X9(hI:LI (prodL u) (o,l') n x l1)(h0:isT lm l1=false)(hT:isT jT l1=true)(h:(bif eG (l1.drop 1)then(hd (l1.drop 1)).n==0 else false)=true):o=none/\l'=l1.drop 1:=by
 have h1:=hI.eq;rw[vC hI.le h0 hT,z5c h,if_pos rfl]at h1;exact vF h1
theorem Ya(hI:LI (prodL u) (o,l') n x l1)(h0:isT lm l1=false)(hT:isT jT l1=true)(h:(bif eG (l1.drop 1)then(hd (l1.drop 1)).n==0 else false)=false)(hk:mV (l1.drop 1)=(none,l3)):o=none/\l'=l3:=by
 have h1:=hI.eq;rw[vC hI.le h0 hT,num0' h,if_neg (by simp),hk]at h1;exact vF h1
theorem Yb(hI:LI (prodL u) (o,l') n x l1)(h0:isT lm l1=false)(hT:isT jT l1=true)(h:(bif eG (l1.drop 1)then(hd (l1.drop 1)).n==0 else false)=false)(hk:mV (l1.drop 1)=(some k,l3)):LI (prodL u) (o,l') (n-1) (.mk 18 [] 0 k [x]) l3:=by
 have h1:=hI.eq;rw[vC hI.le h0 hT,num0' h,if_neg (by simp),hk]at h1;exact⟨h1,y9 tV hI.le (jU hT) hk⟩
theorem z0l(hM:sumM u l=(o,l'))(h:kz u l=(none,l2)):o=none/\l'=l2:=by unfold sumM at hM;rw[h]at hM;exact vF hM
theorem z3f(hM:sumM u l=(o,l'))(h:kz u l=(some y,l2)):LI (sumL u) (o,l') l2.length y l2:=by unfold sumM at hM;rw[h]at hM;exact⟨hM,Nat.le_refl _⟩
theorem z3g(hI:LI (sumL u) (o,l') n x l1)(h0:isT mQ l1=false)(h1:isT dZ l1=false):o=some x/\l'=l1:=by have h:=hI.eq;rw[X5 h0 h1]at h;exact vF h
theorem z0m(hI:LI (sumL u) (o,l') n x l1)(hT:isT mQ l1=true)(h:kz u (l1.drop 1)=(none,l2)):o=none/\l'=l2:=by have h1:=hI.eq;rw[J6 hI.le hT,h]at h1;exact vF h1
theorem z0n(hs:Sh u)(hI:LI (sumL u) (o,l') n x l1)(hT:isT mQ l1=true)(h:kz u (l1.drop 1)=(some y,l2)):LI (sumL u) (o,l') (n-1) (ex2 15 x y) l2:=by
 have h1:=hI.eq;rw[J6 hI.le hT,h]at h1;exact⟨h1,y9 (y7 hs) hI.le (jU hT) h⟩
theorem z0o(hI:LI (sumL u) (o,l') n x l1)(h0:isT mQ l1=false)(hT:isT dZ l1=true)(h:kz u (l1.drop 1)=(none,l2)):o=none/\l'=l2:=by have h1:=hI.eq;rw[Fz hI.le h0 hT,h]at h1;exact vF h1
theorem z0p(hs:Sh u)(hI:LI (sumL u) (o,l') n x l1)(h0:isT mQ l1=false)(hT:isT dZ l1=true)(h:kz u (l1.drop 1)=(some y,l2)):LI (sumL u) (o,l') (n-1) (ex2 16 x y) l2:=by
 have h1:=hI.eq;rw[Fz hI.le h0 hT,h]at h1;exact⟨h1,y9 (y7 hs) hI.le (jU hT) h⟩
theorem U2{α:Type}{f:Nat->α->PM Ex}{R:Option Ex×List Tk}{x:α}{s:Str}(hI:LI f R n x l1)(hT:isT s l1=true):n-1<n:=LI.mu hI.le (jU hT)
end
variable [ae] {l : List Tk} {W : TypeId} {next pan : Next} {env : Env} {L : List Nat} {az : List AV} {f : FuncId} {e d : Int} {K : Heap}
abbrev pB(l:List Tk)(e d:Int):Block:=.cells [.data (.sl 4 (l.map Tk.cs)),.data (.i e),.data (.i d)]
def jV(W:TypeId)(e:Int)(l:List Tk):D:=.iface W (.agg [.i (at' e l)])
def jE{α:Type}(W:TypeId)(g:α->D)(e:Int)(o:Option α)(l:List Tk):fP:=match o with
 |some x=>.ret (.data (g x))
 |none=>.pan (.data (jV W e l))
theorem tX{α:Type}{g:α->D}{e:Int}{o:Option α}:(jE W g e o l).av.ids = []:=by cases o<;>rfl
abbrev B':=FuncId->List AV->Heap->fP->Heap->Prop
variable {B : B'}
theorem J7{ρ:List (Nat×Nat)}:∀ds:List D,AV.ren.go ρ (ds.map .data)=ds.map .data
 | []=>rfl
 |d::r=>by show AV.ren ρ (.data d)::AV.ren.go ρ (r.map .data)=_;rw[J7 r];rfl
theorem mf{s:Str}(h:isT s l=true):0<l.length:=by
 cases l with
 |nil=>simp[isT]at h
 |cons t r=>simp
theorem jL{α:Type}{B:B'}{L:List Nat}{f:FuncId}{az:List AV}{env:Env}{K:Heap}{next pan:Next}{M:PM α}{g:α->D}{W:TypeId}{e d:Int}(ds:List D)
  (H:∀l o l',M l=(o,l')->B f (.ptr 1000000 0::ds.map .data) [(1000000,pB l e d)] (jE W g e o l') [(1000000,pB l' e d)])
  (hk:∃X l,az = .ptr X 0::ds.map .data/\K.get X=some (pB l e d)/\allIn L [X]=true/\(∀x l',M l=(some x,l')->next (.data (g x)) (K.put X (pB l' e d))) /\
   (∀l',M l=(none,l')->pan (.data (jV W e l')) (K.put X (pB l' e d)))) :
  ∃(as0:List AV) (K0:Heap) (out:fP) (K1:Heap) (ρ:List (Nat×Nat)),B f as0 K0 out K1/\AV.ren.go ρ as0=az/\Heap.sub ρ K K0/\bu ρ K0 K1 out.av env K L=true /\
  outGo ρ K1 K next pan out:=by
 obtain⟨X,l,has,hK,hL,h1,h2⟩:=hk
 rcases hM:M l with⟨o,l'⟩
 refine⟨_,_,_,_,[(1000000,X)],H l o l' hM,?_,⟨hK,trivial⟩,?_,?_⟩
 ·rw[has]
  show AV.ren _ _::AV.ren.go _ (ds.map .data)=_
  rw[J7];rfl
 ·simp only[bu,tX,keys,aH,rn,Nat.beq_refl]
  rw[hL]
  rfl
 ·cases o with
  |some x=>exact h1 x l' hM
  |none=>exact h2 l' hM
theorem bZ(a:D)(ρ:List (Nat×Nat)):AV.ren.go ρ [.data a] = [.data a]:=rfl
theorem z0q(a b c:D)(ρ:List (Nat×Nat)):AV.ren.go ρ [.data a,.data b,.data c] = [.data a,.data b,.data c]:=rfl
theorem lentP'{α:Type}{B:B'}{L:List Nat}{f:FuncId}{az:List AV}{env:Env}{K:Heap}{next pan:Next}{M:PM α}{g:α->D}{W:TypeId}{e d:Int}{ds:List AV}(hr:∀ρ,AV.ren.go ρ ds=ds)
  (H:∀l o l',M l=(o,l')->B f (.ptr 1000000 0::ds) [(1000000,pB l e d)] (jE W g e o l') [(1000000,pB l' e d)])
  (hk:∃X es l,az = .ptr X 0::ds/\K.get X=some (.cells [.data (.sl 4 es),.data (.i e),.data (.i d)])/\es=l.map Tk.cs/\allIn L [X]=true/\(∀x l',M l=(some x,l')->next (.data (g x)) (K.put X (pB l' e d))) /\
   (∀l',M l=(none,l')->pan (.data (jV W e l')) (K.put X (pB l' e d)))) :
  ∃(as0:List AV) (K0:Heap) (out:fP) (K1:Heap) (ρ:List (Nat×Nat)),B f as0 K0 out K1/\AV.ren.go ρ as0=az/\Heap.sub ρ K K0/\bu ρ K0 K1 out.av env K L=true /\
  outGo ρ K1 K next pan out:=by
 obtain⟨X,es,l,has,hK,rfl,hL,h1,h2⟩:=hk
 rcases hM:M l with⟨o,l'⟩
 refine⟨_,_,_,_,[(1000000,X)],H l o l' hM,?_,⟨hK,trivial⟩,?_,?_⟩
 ·rw[has]
  show AV.ren _ _::AV.ren.go _ ds=_
  rw[hr];rfl
 ·simp only[bu,tX,keys,aH,rn,Nat.beq_refl]
  rw[hL]
  rfl
 ·cases o with
  |some x=>exact h1 x l' hM
  |none=>exact h2 l' hM
theorem z0r{α:Type}{B:B'}{L:List Nat}{f:FuncId}{az:List AV}{env:Env}{K:Heap}{next pan:Next}{M:PM α}{g:α->D}{W:TypeId}{e d:Int}(P:List Tk->Prop)(hs:∀l o r,M l=(o,r)->r.length<=l.length)
  (H:∀l o l',P l->M l=(o,l')->B f [.ptr 1000000 0] [(1000000,pB l e d)] (jE W g e o l') [(1000000,pB l' e d)])
  (hk:∃X l,az = [.ptr X 0]/\K.get X=some (pB l e d)/\allIn L [X]=true/\P l/\(∀x l',M l=(some x,l')->l'.length<=l.length->next (.data (g x)) (K.put X (pB l' e d))) /\
   (∀l',M l=(none,l')->pan (.data (jV W e l')) (K.put X (pB l' e d)))) :
  ∃(as0:List AV) (K0:Heap) (out:fP) (K1:Heap) (ρ:List (Nat×Nat)),B f as0 K0 out K1/\AV.ren.go ρ as0=az/\Heap.sub ρ K K0/\bu ρ K0 K1 out.av env K L=true /\
  outGo ρ K1 K next pan out:=by
 obtain⟨X,l,has,hK,hL,hP,h1,h2⟩:=hk
 rcases hM:M l with⟨o,l'⟩
 refine⟨_,_,_,_,[(1000000,X)],H l o l' hP hM,?_,⟨hK,trivial⟩,?_,?_⟩
 ·rw[has];rfl
 ·simp only[bu,tX,keys,aH,rn,Nat.beq_refl]
  rw[hL]
  rfl
 ·cases o with
  |some x=>exact h1 x l' hM (hs _ _ _ hM)
  |none=>exact h2 l' hM
theorem QT:mV=λl=>if eG l then(some (hd l).n,l.drop 1)else(none,l):=rfl
theorem QU:jg=λl=>if Gv l then(some (hd l).text,l.drop 1)else(none,l):=rfl
theorem QV{α:Type}{B:B'}{L:List Nat}{f:FuncId}{az:List AV}{env:Env}{K:Heap}{next pan:Next}{M:PM α}{g:α->D}{W:TypeId}{e d:Int}(c:List Tk->Bool)(v:List Tk->α)(hv:M=λl=>if c l then(some (v l),l.drop 1)else(none,l))
  (H:∀l o l',M l=(o,l')->B f [.ptr 1000000 0] [(1000000,pB l e d)] (jE W g e o l') [(1000000,pB l' e d)])
  (hk:∃X l,az = [.ptr X 0]/\K.get X=some (pB l e d)/\allIn L [X]=true/\(c l=true->next (.data (g (v l))) (K.put X (pB (l.drop 1) e d))) /\
   (c l=false->pan (.data (jV W e l)) (K.put X (pB l e d)))) :
  ∃(as0:List AV) (K0:Heap) (out:fP) (K1:Heap) (ρ:List (Nat×Nat)),B f as0 K0 out K1/\AV.ren.go ρ as0=az/\Heap.sub ρ K K0/\bu ρ K0 K1 out.av env K L=true /\
  outGo ρ K1 K next pan out:=by
 obtain⟨X,l,has,hK,hL,h1,h2⟩:=hk
 refine jL [] H ⟨X,l,has,hK,hL,λx l' h=>?_,λl' h=>?_⟩
 ·rw[hv]at h
  cases hc:c l with
  |true=>simp only[hc,if_true]at h;cases h;exact h1 hc
  |false=>simp only[hc,Bool.false_eq_true,if_false]at h;cases h
 ·rw[hv]at h
  cases hc:c l with
  |true=>simp only[hc,if_true]at h;cases h
  |false=>simp only[hc,Bool.false_eq_true,if_false]at h;cases h;exact h2 hc
theorem zN{B:B'}{L:List Nat}{f:FuncId}{az:List AV}{env:Env}{K:Heap}{next pan:Next}{e d:Int}
  (H:∀s l,B f [.ptr 1000000 0,.data (.str s)] [(1000000,pB l e d)] (.ret (.data (.b (isT s l)))) [(1000000,pB (bif isT s l then l.drop 1 else l) e d)])
  (hk:∃X s l,az = [.ptr X 0,.data (.str s)]/\K.get X=some (pB l e d)/\allIn L [X]=true/\(isT s l=true->0<l.length->next (.data (.b true)) (K.put X (pB (l.drop 1) e d))) /\
   (isT s l=false->next (.data (.b false)) (K.put X (pB l e d)))) :
  ∃(as0:List AV) (K0:Heap) (out:fP) (K1:Heap) (ρ:List (Nat×Nat)),B f as0 K0 out K1/\AV.ren.go ρ as0=az/\Heap.sub ρ K K0/\bu ρ K0 K1 out.av env K L=true /\
  outGo ρ K1 K next pan out:=by
 obtain⟨X,s,l,has,hK,hL,h1,h2⟩:=hk
 refine⟨_,_,_,_,[(1000000,X)],H s l,has.symm,⟨hK,trivial⟩,?_,?_⟩
 ·simp only[bu,keys,aH,rn,Nat.beq_refl]
  rw[hL]
  rfl
 ·cases h:isT s l with
  |true=>exact h1 h (mf h)
  |false=>exact h2 h
theorem zO{B:B'}{L:List Nat}{f:FuncId}{az:List AV}{env:Env}{K:Heap}{next pan:Next}{W:TypeId}{e d:Int}
  (H:∀s l o l',aC s l=(o,l')->B f [.ptr 1000000 0,.gs 1000001 1 [[.str s]]] [(1000000,pB l e d),(1000001,.tok 1 1)] (jE W (λ_:Unit=>.tuple []) e o l') [(1000000,pB l' e d),(1000001,.tok 1 1)])
  (hk:∃X Y s l,az = [.ptr X 0,.gs Y 1 [[.str s]]]/\K.get X=some (pB l e d)/\K.get Y=some (.tok 1 1)/\Nat.beq X Y=false/\allIn L [X,Y]=true/\(isT s l=true->0<l.length->next (.data (.tuple [])) ((K.put Y (.tok 1 1)).put X (pB (l.drop 1) e d))) /\
   (isT s l=false->pan (.data (jV W e l)) ((K.put Y (.tok 1 1)).put X (pB l e d)))) :
  ∃(as0:List AV) (K0:Heap) (out:fP) (K1:Heap) (ρ:List (Nat×Nat)),B f as0 K0 out K1/\AV.ren.go ρ as0=az/\Heap.sub ρ K K0/\bu ρ K0 K1 out.av env K L=true /\
  outGo ρ K1 K next pan out:=by
 obtain⟨X,Y,s,l,has,hK,hY,hXY,hL,h1,h2⟩:=hk
 rcases hM:aC s l with⟨o,l'⟩
 refine⟨_,_,_,_,[(1000000,X),(1000001,Y)],H s l o l' hM,has.symm,⟨hK,hY,trivial⟩,?_,?_⟩
 ·have hn:jB [X,Y]=true:=by
   simp only[jB,jZ,hXY];rfl
  show(jB [X,Y]&&(_&&(allIn L [X,Y]&&(_&&(allIn _ (jE W (λ_:Unit=>D.tuple []) e o l').av.ids&&_)))))=true
  rw[hn,hL,tX]
  rfl
 ·unfold aC at hM
  cases h:isT s l with
  |true=>rw[h,if_pos rfl]at hM;cases hM;exact h1 h (mf h)
  |false=>rw[h,if_neg (by simp)]at hM;cases hM;exact h2 h
theorem FB{B:B'}{L:List Nat}{f:FuncId}{az:List AV}{env:Env}{K:Heap}{next pan:Next}{W:TypeId}{e d:Int}
  (H:∀l,B f [.ptr 1000000 0] [(1000000,pB l e d)] (.pan (.data (jV W e l))) [(1000000,pB l e d)])
  (hk:∃X l,az = [.ptr X 0]/\K.get X=some (pB l e d)/\allIn L [X]=true/\pan (.data (jV W e l)) (K.put X (pB l e d))) :
  ∃(as0:List AV) (K0:Heap) (out:fP) (K1:Heap) (ρ:List (Nat×Nat)),B f as0 K0 out K1/\AV.ren.go ρ as0=az/\Heap.sub ρ K K0/\bu ρ K0 K1 out.av env K L=true /\
  outGo ρ K1 K next pan out:=by
 obtain⟨X,l,has,hK,hL,h1⟩:=hk
 refine⟨_,_,_,_,[(1000000,X)],H l,has.symm,⟨hK,trivial⟩,?_,h1⟩
 simp only[bu,keys,aH,rn,Nat.beq_refl]
 rw[hL]
 rfl
def C9:List Str->PM Unit
 | []=>λl=>(some (),l)
 |s::r=>λl=>if isT s l then C9 r (l.drop 1)else(none,l)
theorem QW{s:Str}:C9 [s] l=aC s l:=by simp[C9,aC]
theorem iV{α:Type}{T:Tbl}{rs:List ResultVar}{K0 K K1:Heap}{q:Prop}{g:α->D}{e:Int}{o:Option α}(h:finR T rs K0 (jE W g e o l) K1 env K):finR T rs K0 (jE W g e o l) K1 env K\/q:=.inl h
theorem gq{α:Type}{T:Tbl}{rs:List ResultVar}{K0 K K1:Heap}{g:α->D}{e:Int}{x:α}(h:finR T rs K0 (.ret (.data (g x))) K1 env K):finR T rs K0 (jE W g e (some x) l) K1 env K:=h
theorem aY{α:Type}{K0 K K1:Heap}{x:AV}{g:α->D}{e:Int}{o:Option α}(h:Gq K0 K x K1 (jE W g e o l)):Gq K0 K x K1 (jE W g e o l):=h
theorem aP{α:Type}{K0 K K1:Heap}{x:AV}{g:α->D}{e:Int}(h:fin K0 K x (.data (jV W e l)) K1):Gq K0 K x K1 (jE W g e (none:Option α) l):=by
 unfold Gq;exact h
theorem eH{α β:Type}{a o:α}{b l:β}(h:(a,b)=(o,l)):o=a/\l=b:=by cases h;exact⟨rfl,rfl⟩
theorem z0s(h:0<l.length):(l.map Tk.cs)[0]? = some (hd l).cs:=by
 cases l with
 |nil=>exact absurd h (by simp)
 |cons t r=>rfl
theorem qm{T:Prop}{n:Int}{q:List D->Prop}(hT:T)(hn:n=0)(h:0<l.length)(hq:q (hd l).cs):T/\∃c,(0<=n/\(l.map Tk.cs)[n.toNat]? = some c)/\q c:=by
 subst hn
 exact⟨hT,_,⟨Int.le_refl _,z0s h⟩,hq⟩
theorem Ir:decide (((l.map Tk.cs).length:Int)>0) = !l.isEmpty:=by cases l<;>simp
theorem U3:cut (some 1) none (l.map Tk.cs)=(l.drop 1).map Tk.cs:=by simp[cut]
theorem J8(h:Gv l=true):0<l.length:=by
 cases l with
 |nil=>simp[Gv]at h
 |cons t r=>simp
theorem zf(h:eG l=true):0<l.length:=by
 cases l with
 |nil=>simp[eG]at h
 |cons t r=>simp
theorem z2q(h:0<l.length):qx (some 1) none (l.map Tk.cs).length:=by
 simp only[qx,List.length_map];omega
end Go.Fw.Sy
namespace Go.Fw.Sy
open Go.Fw.Lx (Tk)
variable [ae]
def QX(v:Str):List Str->Int->Int
 | [],_=>-1
 |x::r,i=>if v==x then i else QX v r (i+1)
theorem QY{v:Str}:∀(l:List Str) (i:Int),0<=i->decide (QX v l i>=0)=l.contains v
 | [],i,_=>rfl
 |x::r,i,h=>by
  have ih:=QY r (i+1) (v:=v) (by omega)
  rw[List.contains_cons,<-ih]
  cases e:v==x with
  |true=>simp[QX,e,h]
  |false=>simp[QX,e]
theorem U4{v:Str}{l:List Str}:decide (QX v l 0>=0)=l.contains v:=QY l 0 (Int.le_refl 0)
theorem U5{W:TypeId}{e:Int}{l:List Tk}(h:decide (((l.map Tk.cs).length:Int)>0)=true):D.iface W (.agg [.val (.int .i64 (hd l).pos)])=jV W e l:=by
 cases l with
 |nil=>simp at h
 |cons t r=>rfl
theorem QZ{W:TypeId}{e:Int}{l:List Tk}(h:decide (((l.map Tk.cs).length:Int)>0)=false):D.iface W (.agg [.val (.int .i64 e)])=jV W e l:=by
 cases l with
 |nil=>rfl
 |cons t r=>simp at h;try omega
theorem mX{c:Bool}{p q:Prop}(h:c=false)(hq:q):BrI c p q:=by subst h;exact BrI.ff hq
theorem mg{c:Bool}{p q:Prop}(h:c=true)(hp:p):BrI c p q:=by subst h;exact BrI.tt hp
theorem gX(T:Tbl)(A:FuncId->List D->pq->Prop)(B:FuncId->List AV->Heap->fP->Heap->Prop){kp:Nat}{Q:List Rec->Prop}{l:List Oper}{ms:List Nat}{tr:List Rec}{env:Env}{K:Heap}(bs:List Bool)(_:l.length=bs.length)(h:(ms.map λm=>m.testBit kp)=bs)(h2:vS T A B Q l bs tr env K):LG (jo T A B kp Q l ms tr env K):=
 rest_step T A B bs h h2
theorem quiet_step{T:Tbl}{N:List Nat}{kp i:Nat}{tr:List Rec}{q:Prop}(h:ik T N kp i tr=true)(h2:q):ik T N kp i tr=true/\q:=⟨h,h2⟩
theorem z5d(x:Ex):AV.data (.sl 5 [x.cs])=AV.data (.sl 5 (Ex.css [x])):=by rw[Ex.css_cons];rfl
theorem z4v(x y:Ex):AV.data (.sl 5 [x.cs,y.cs])=AV.data (.sl 5 (Ex.css [x,y])):=by rw[Ex.css_cons,Ex.css_cons];rfl
theorem oN{p r:Prop}{q:Prop}(h1:p)(h2:r)(h:q):p/\r/\q:=⟨h1,h2,h⟩
structure AI(u:PM Ex)(k:Int)(s:Str)(R:Option Ex×List Tk)(m i j:Nat)(xs:List Ex)(l:List Tk):Prop where
 eq:bnd (Nu u j i xs l) (λxs l=>bnd (aC tN l) λ_ l=>(some (.mk k s 0 0 xs),l))=R
 le:i+j=m
 len:xs.length=i
section
variable {u : PM Ex} {k : Int} {s : Str} {o : Option Ex} {l l' l1 l2 : List Tk} {m i j : Nat} {xs : List Ex} {x : Ex}
theorem Nv(hI:AI u k s (o,l') m i j xs l1)(h:decide ((i:Int)<(m:Int))=true):∃j',j=j'+1:=by
 have h:=of_decide_eq_true h
 have:=hI.le
 exact⟨j-1,by omega⟩
theorem WE(hI:AI u k s (o,l') m i j xs l1)(h:decide ((i:Int)<(m:Int))=true)(h0:decide ((i:Int)>0)=true)(hW:isT aS l1=true)(hx:rf u (l1.drop 1)=(some x,l2)):AI u k s (o,l') m (i+1) (j-1) (xs++[x]) l2:=by
 obtain⟨j',rfl⟩:=Nv hI h
 have h0:=of_decide_eq_true h0
 refine⟨?_,by have:=hI.le;omega,by have:=hI.len;simp;omega⟩
 have h1:=hI.eq
 have h0:0<i:=by omega
 simp only[Nu,h0,bnd,aC,hW,if_true,hx]at h1
 exact h1
theorem WF(hI:AI u k s (o,l') m i j xs l1)(h:decide ((i:Int)<(m:Int))=true)(h0:decide ((i:Int)>0)=false)(hx:rf u l1=(some x,l2)):AI u k s (o,l') m (i+1) (j-1) (xs++[x]) l2:=by
 obtain⟨j',rfl⟩:=Nv hI h
 have h0:=of_decide_eq_false h0
 refine⟨?_,by have:=hI.le;omega,by have:=hI.len;simp;omega⟩
 have h1:=hI.eq
 have h0:¬0<i:=by omega
 simp only[Nu,h0,if_false,bnd,hx]at h1
 exact h1
theorem WG(hI:AI u k s (o,l') m i j xs l1)(h:decide ((i:Int)<(m:Int))=true)(h0:decide ((i:Int)>0)=true)(hW:isT aS l1=false):o=none/\l'=l1:=by
 obtain⟨j',rfl⟩:=Nv hI h
 have h0:=of_decide_eq_true h0
 have h1:=hI.eq
 have h0:0<i:=by omega
 simp only[Nu,h0,bnd,aC,hW,if_false,Bool.false_eq_true]at h1
 exact vF h1
theorem WH(hI:AI u k s (o,l') m i j xs l1)(h:decide ((i:Int)<(m:Int))=true)(h0:decide ((i:Int)>0)=true)(hW:isT aS l1=true)(hx:rf u (l1.drop 1)=(none,l2)):o=none/\l'=l2:=by
 obtain⟨j',rfl⟩:=Nv hI h
 have h0:=of_decide_eq_true h0
 have h1:=hI.eq
 have h0:0<i:=by omega
 simp only[Nu,h0,bnd,aC,hW,if_true,hx]at h1
 exact vF h1
theorem WI(hI:AI u k s (o,l') m i j xs l1)(h:decide ((i:Int)<(m:Int))=true)(h0:decide ((i:Int)>0)=false)(hx:rf u l1=(none,l2)):o=none/\l'=l2:=by
 obtain⟨j',rfl⟩:=Nv hI h
 have h0:=of_decide_eq_false h0
 have h1:=hI.eq
 have h0:¬0<i:=by omega
 simp only[Nu,h0,if_false,bnd,hx]at h1
 exact vF h1
theorem WJ(hI:AI u k s (o,l') m i j xs l1)(h:decide ((i:Int)<(m:Int))=false)(hW:isT tN l1=true):o=some (.mk k s 0 0 xs)/\l'=l1.drop 1:=by
 have h:=of_decide_eq_false h
 have:j=0:=by have:=hI.le;omega
 subst this
 have h1:=hI.eq
 simp only[Nu,bnd,aC,hW,if_true]at h1
 exact vF h1
theorem WL(hI:AI u k s (o,l') m i j xs l1)(h:decide ((i:Int)<(m:Int))=false)(hW:isT tN l1=false):o=none/\l'=l1:=by
 have h:=of_decide_eq_false h
 have:j=0:=by have:=hI.le;omega
 subst this
 have h1:=hI.eq
 simp only[Nu,bnd,aC,hW,if_false,Bool.false_eq_true]at h1
 exact vF h1
theorem J9(hI:AI u k s (o,l') m i j xs l1)(h:decide ((i:Int)<(m:Int))=true):j-1<j:=by
 obtain⟨j',rfl⟩:=Nv hI h;omega
theorem Yc(hM:mW u k m false l=(o,l'))(hW:isT mO l=true):AI u k [] (o,l') m 0 m [] (l.drop 1):=
 ⟨by rw[mW]at hM;simp only[bnd,aC,hW,if_true,Bool.false_eq_true,if_false]at hM;exact hM,by omega,rfl⟩
theorem Yd(hM:mW u k m true l=(o,l'))(hW:isT mO l=true)(hn:jg (l.drop 1)=(some s,l1))(hC:isT aS l1=true):AI u k s (o,l') m 0 m [] (l1.drop 1):=
 ⟨by rw[mW]at hM;simp only[bnd,aC,hW,if_true,hn,hC]at hM;exact hM,by omega,rfl⟩
theorem Q3{b:Bool}(hM:mW u k m b l=(o,l'))(hW:isT mO l=false):o=none/\l'=l:=by
 rw[mW]at hM;simp only[bnd,aC,hW,if_false,Bool.false_eq_true]at hM;exact vF hM
theorem Ye(hM:mW u k m true l=(o,l'))(hW:isT mO l=true)(hn:jg (l.drop 1)=(none,l1)):o=none/\l'=l1:=by
 rw[mW]at hM;simp only[bnd,aC,hW,if_true,hn]at hM;exact vF hM
theorem Yf(hM:mW u k m true l=(o,l'))(hW:isT mO l=true)(hn:jg (l.drop 1)=(some s,l1))(hC:isT aS l1=false):o=none/\l'=l1:=by
 rw[mW]at hM;simp only[bnd,aC,hW,if_true,hn,hC,if_false,Bool.false_eq_true]at hM;exact vF hM
end
abbrev TA(f:Str×Int×Int×Bool):D×D:=(.str f.1,.agg [.i f.2.1,.i f.2.2.1,.b f.2.2.2])
theorem Ko{t:Str}{F:D->Prop}{G:Prop}:∀(fs:List (Str×Int×Int×Bool)),(∀f,look t fs=some f->F (.agg [.i f.1,.i f.2.1,.b f.2.2]))->(look t fs=none->G)->Gy (DV (.str t) (fs.map TA)) F G
 | [],_,h2=>h2 rfl
 |(w,f)::r,h1,h2=>by
  simp only[List.map_cons,DV,gu,sameS,look]at h1 h2 ⊢
  cases h:t==w with
  |true=>
   simp only[h,if_true]at h1
   exact h1 f rfl
  |false=>
   simp only[h,Bool.false_eq_true,if_false]at h1 h2
   exact Ko r h1 h2
theorem WM{t:Str}{f:Int×Int×Bool}(h:look t CY=some f):0<=f.2.1/\f.2.1<=2:=by
 have:∀fs:List (Str×Int×Int×Bool),(∀x∈fs,0<=x.2.2.1/\x.2.2.1<=2)->look t fs=some f->0<=f.2.1/\f.2.1<=2:=by
  intro fs
  induction fs with
  |nil=>intro _ h;cases h
  |cons x r ih=>
   intro ha h
   simp only[look]at h
   split at h
   ·cases h;exact ha x (by simp)
   ·exact ih (λy hy=>ha y (by simp[hy])) h
 exact this CY (by decide) h
theorem FC{d:Int}(h0:0<=d)(h1:d<=63):IntKind.i64.wrap (IntKind.i64.wrap (d+1)-1)=d:=by
 rw[iR (n:=d+1) (by omega) (by omega),iR (by omega) (by omega)];omega
theorem Yg{d:Int}(h0:0<=d)(h1:d<=63):IntKind.i64.wrap (d+1)=d+1:=iR (by omega) (by omega)
theorem Q4{u:PM Ex}{k:Int}{s:Str}{R:Option Ex×List Tk}{m i j:Nat}{xs:List Ex}{l:List Tk}(hI:AI u k s R m i j xs l)(hm:m<=2):(xs.map Ex.cs).length<=1073741824:=by
 rw[List.length_map];have:=hI.le;have:=hI.len;omega
theorem Q5{k:Int}{s:Str}{xs:List Ex}:D.agg [.val (.int .i64 k),.str s,.val (.int .i64 0),.val (.int .i64 0),.sl 5 (xs.map Ex.cs)]=Ex.d (.mk k s 0 0 xs):=by
 rw[<-Ex.css_eq];rfl
theorem U6{k:Int}{a b c d:Ex}:D.agg [.val (.int .i64 k),.str [],.val (.int .i64 0),.val (.int .i64 0),.sl 5 [a.cs,b.cs,c.cs,d.cs]]=Ex.d (.mk k [] 0 0 [a,b,c,d]):=by
 show _=D.agg [.i k,.str [],.i 0,.i 0,.sl 5 (Ex.css [a,b,c,d])]
 simp only[Ex.css_cons];rfl
theorem U7{k n:Int}{a:Ex}:D.agg [.val (.int .i64 k),.str [],.val (.int .i64 0),.val (.int .i64 n),.sl 5 [a.cs]]=Ex.d (.mk k [] 0 n [a]):=by
 show _=D.agg [.i k,.str [],.i 0,.i n,.sl 5 (Ex.css [a])]
 simp only[Ex.css_cons];rfl
theorem WN{i m:Nat}(h:decide ((i:Int)<(m:Int))=true)(hm:m<=2):i<=9223372036854775806:=by have:=of_decide_eq_true h;omega
theorem Dc{n:Nat}(h:n<=9223372036854775806):AV.data (.val (.int .i64 (IntKind.i64.wrap ((n:Int)+1))))=AV.data (.val (.int .i64 ((n+1:Nat):Int))):=JU h
end Go.Fw.Sy
namespace Go.Fw.Sy
open Go.Fw.Lx (Tk)
variable [ae] {Df : FuncId → List AV → Option D → Bool → Heap → Heap → Prop}
theorem emp_len'{l:List Tk}(h:(((l.map Tk.cs).length:Int)==0)=false):0<l.length:=by
 cases l with
 |nil=>simp at h
 |cons t r=>simp
theorem Iu{Df:FuncId->List AV->Option D->Bool->Heap->Heap->Prop}{f:FuncId}{az:List AV}{env:Env}{K:Heap}{next:Heap->Prop}
  (h:∃(as0:List AV) (K0:Heap) (K1:Heap) (ρ:List (Nat×Nat)),Df f as0 none false K0 K1/\AV.ren.go ρ as0=az/\Heap.sub ρ K K0/\bu ρ K0 K1 .top env K (reach K 1000 (AV.ids.go az) [])=true/\next (jA ρ K1 K)) :
  ∃(as0:List AV) (K0:Heap) (K1:Heap) (ρ:List (Nat×Nat)),Df f as0 none false K0 K1/\AV.ren.go ρ as0=az/\Heap.sub ρ K K0/\bu ρ K0 K1 .top env K (reach K 1000 (AV.ids.go az) [])=true/\next (jA ρ K1 K):=h
theorem Yh{d:Int}(h:d=63):¬(decide (IntKind.i64.wrap (d+1)>=64)=false):=by subst h;decide
theorem U8{d:Int}(h0:0<=d)(h:d<63):¬(decide (IntKind.i64.wrap (d+1)>=64)=true):=by
 simp only[decide_eq_true_eq]
 rw[iR (by omega) (by omega)];omega
theorem Kq{uo:Option (PM Ex)}{o:Option Ex}{l l':List Tk}(hM:wJ uo l=(o,l'))(h:(((l.map Tk.cs).length:Int)==0)=true):o=none/\l'=l:=by
 have hl:l = []:=by cases l with
  |nil=>rfl
  |cons t r=>simp at h;omega
 subst hl
 cases uo with
 |none=>exact vF hM
 |some u=>exact vF hM
theorem Kr{α:Type}{T:Tbl}{f:FuncId}{az:List AV}{d:D}{rs:List ResultVar}{K0:Heap}{env:Env}{K K1:Heap}{W:TypeId}{g:α->D}{e:Int}{o:Option α}{l:List Tk}(h:Gs T Df f az d rs K0 env K K1 (jE W g e o l)):Gs T Df f az d rs K0 env K K1 (jE W g e o l):=h
end Go.Fw.Sy
namespace Go.Fw.Sy
open Go.Fw.Lx (Tk)
variable [ae]
abbrev xB(p:Pr):Block:=.cells [.data (.str p.name),.data (.i p.latency),.data (.i p.tail),.gs 1000002 3 (p.params.map Bd.cs),.gs 1000003 3 (p.states.map Bd.cs),.gs 1000004 4 (p.lines.map Ln.cs),.gs 1000005 2 (p.tables.map Tb.cs),.gs 1000006 8 (p.stmts.map Sm.cs)]
def FD(W:TypeId)(e:Int)(ok:Bool)(l:List Tk):fP:=match ok with
 |true=>.ret (.data (.tuple []))
 |false=>.pan (.data (jV W e l))
structure Sz(p:Pr)(l:List Tk):Prop where
 a:p.params.length+l.length<=1073741823
 b:p.states.length+l.length<=1073741823
 c:p.lines.length+l.length<=1073741823
 d:p.tables.length+l.length<=1073741823
 e:p.stmts.length+l.length<=1073741823
theorem Sz.le{p:Pr}{l l':List Tk}(h:Sz p l)(hl:l'.length<=l.length):Sz p l':=⟨by have:=h.a;omega,by have:=h.b;omega,by have:=h.c;omega,by have:=h.d;omega,by have:=h.e;omega⟩
theorem ru{T:Tbl}{rs:List ResultVar}{K0 K K1:Heap}{env:Env}{q:Prop}{W:TypeId}{e:Int}{ok:Bool}{l:List Tk}(h:finR T rs K0 (FD W e ok l) K1 env K):finR T rs K0 (FD W e ok l) K1 env K\/q:=.inl h
theorem jW{T:Tbl}{rs:List ResultVar}{K0 K K1:Heap}{env:Env}{W:TypeId}{e:Int}{l:List Tk}(h:finR T rs K0 (.ret (.data (.tuple []))) K1 env K):finR T rs K0 (FD W e true l) K1 env K:=h
theorem vG{K0 K K1:Heap}{x:AV}{W:TypeId}{e:Int}{ok:Bool}{l:List Tk}(h:Gq K0 K x K1 (FD W e ok l)):Gq K0 K x K1 (FD W e ok l):=h
theorem lu{K0 K K1:Heap}{x:AV}{W:TypeId}{e:Int}{l:List Tk}(h:fin K0 K x (.data (jV W e l)) K1):Gq K0 K x K1 (FD W e false l):=by
 unfold Gq;exact h
theorem ji{ok ok':Bool}{p p':Pr}{l l':List Tk}(h:(ok,p,l)=(ok',p',l')):ok'=ok/\p'=p/\l'=l:=by cases h;exact⟨rfl,rfl,rfl⟩
theorem tY{B:B'}{L:List Nat}{az:List AV}{env:Env}{K:Heap}{next pan:Next}(f:FuncId)(r:Bool×Pr×List Tk)
  (h:∀p l,(r=(true,p,l)->∃(as0:List AV) (K0:Heap) (out:fP) (K1:Heap) (ρ:List (Nat×Nat)),B f as0 K0 out K1/\AV.ren.go ρ as0=az/\Heap.sub ρ K K0/\bu ρ K0 K1 out.av env K L=true/\outGo ρ K1 K next pan out) /\
   (r=(false,p,l)->∃(as0:List AV) (K0:Heap) (out:fP) (K1:Heap) (ρ:List (Nat×Nat)),B f as0 K0 out K1/\AV.ren.go ρ as0=az/\Heap.sub ρ K K0/\bu ρ K0 K1 out.av env K L=true/\outGo ρ K1 K next pan out)) :
  ∃(as0:List AV) (K0:Heap) (out:fP) (K1:Heap) (ρ:List (Nat×Nat)),B f as0 K0 out K1/\AV.ren.go ρ as0=az/\Heap.sub ρ K K0/\bu ρ K0 K1 out.av env K L=true/\outGo ρ K1 K next pan out:=by
 obtain⟨ok,p,l⟩:=r
 cases ok with
 |true=>exact(h p l).1 rfl
 |false=>exact(h p l).2 rfl
theorem z4w{t a b c d:Str}{fa fb fc fd:D}{F:D->Prop}{G:Prop}(h1:(t==a)=true->F fa)(h2:(t==a)=false->(t==b)=true->F fb)(h3:(t==a)=false->(t==b)=false->(t==c)=true->F fc)
  (h4:(t==a)=false->(t==b)=false->(t==c)=false->(t==d)=true->F fd) (h5:(t==a)=false->(t==b)=false->(t==c)=false->(t==d)=false->G) :
  Gy (DV (.str t) [(.str a,fa),(.str b,fb),(.str c,fc),(.str d,fd)]) F G:=by
 simp only[DV,gu,sameS]
 cases ha:t==a with
 |true=>exact h1 ha
 |false=>
  cases hb:t==b with
  |true=>exact h2 ha hb
  |false=>
   cases hc:t==c with
   |true=>exact h3 ha hb hc
   |false=>
    cases hd:t==d with
    |true=>exact h4 ha hb hc hd
    |false=>exact h5 ha hb hc hd
theorem jX{α:Type}{l:List α}{f:α->List D}{x:α}{ys:List (List D)}(h:ys = [f x]):l.map f++ys=(l++[x]).map f:=by subst h;simp
theorem z0t{α:Type}{B:B'}{L:List Nat}{f:FuncId}{az:List AV}{env:Env}{K:Heap}{next pan:Next}{M:PM α}{g:α->D}{W:TypeId}{e d:Int}{ds:List AV}(hr:∀ρ,AV.ren.go ρ ds=ds)(P:List Tk->Prop)
  (H:∀l o l',P l->M l=(o,l')->B f (.ptr 1000000 0::ds) [(1000000,pB l e d)] (jE W g e o l') [(1000000,pB l' e d)])
  (hk:∃X l,az = .ptr X 0::ds/\K.get X=some (pB l e d)/\allIn L [X]=true/\P l/\(∀x l',M l=(some x,l')->next (.data (g x)) (K.put X (pB l' e d))) /\
   (∀l',M l=(none,l')->pan (.data (jV W e l')) (K.put X (pB l' e d)))) :
  ∃(as0:List AV) (K0:Heap) (out:fP) (K1:Heap) (ρ:List (Nat×Nat)),B f as0 K0 out K1/\AV.ren.go ρ as0=az/\Heap.sub ρ K K0/\bu ρ K0 K1 out.av env K L=true /\
  outGo ρ K1 K next pan out:=by
 obtain⟨X,l,has,hK,hL,hP,h1,h2⟩:=hk
 rcases hM:M l with⟨o,l'⟩
 refine⟨_,_,_,_,[(1000000,X)],H l o l' hP hM,?_,⟨hK,trivial⟩,?_,?_⟩
 ·rw[has]
  show AV.ren _ _::AV.ren.go _ ds=_
  rw[hr];rfl
 ·simp only[bu,tX,keys,aH,rn,Nat.beq_refl]
  rw[hL]
  rfl
 ·cases o with
  |some x=>exact h1 x l' hM
  |none=>exact h2 l' hM
theorem z0u(f:FuncId)(ρ:List (Nat×Nat)):AV.ren.go ρ [.fn f []] = [.fn f []]:=rfl
structure LsI(R:Option (List Int)×List Tk)(n:Nat)(vs:List Int)(l:List Tk):Prop where
 eq:listL n vs l=R
 le:l.length<=n
 sz:vs.length+l.length<=1073741824
theorem WO{n:Nat}{vs:List Int}{l:List Tk}(hn:l.length<=n)(hT:isT aS l=true):listL n vs l=bnd (Gw (l.drop 1)) λv l=>listL (n-1) (vs++[v]) l:=by
 obtain⟨m,rfl,-⟩:=l9 (jU hT) hn
 show listL (m+1) vs l=_
 rw[Nat.add_sub_cancel];conv=>{ lhs;unfold listL }
 rw[if_pos hT]
theorem z0v{n:Nat}{vs:List Int}{l:List Tk}(hT:isT aS l=false):listL n vs l=(some vs,l):=by
 cases n with
 |zero=>rfl
 |succ n=>unfold listL;rw[hT,if_neg (by simp)]
section
variable {o : Option (List Int)} {l l' l1 l2 : List Tk} {n : Nat} {vs : List Int} {v : Int}
theorem Yi(hM:Fj l=(o,l'))(h:Gw l=(none,l2)):o=none/\l'=l2:=by unfold Fj at hM;rw[h]at hM;exact vF hM
theorem z0w(hl:l.length<=1073741823)(hM:Fj l=(o,l'))(h:Gw l=(some v,l2)):LsI (o,l') l2.length [v] l2:=by
 have:=y5 _ _ _ h
 unfold Fj at hM;rw[h]at hM;exact⟨hM,Nat.le_refl _,by simp;omega⟩
theorem z0x(hI:LsI (o,l') n vs l1)(h0:isT aS l1=false):o=some vs/\l'=l1:=by have h:=hI.eq;rw[z0v h0]at h;exact vF h
theorem Yj(hI:LsI (o,l') n vs l1)(hT:isT aS l1=true)(h:Gw (l1.drop 1)=(none,l2)):o=none/\l'=l2:=by have h1:=hI.eq;rw[WO hI.le hT,h]at h1;exact vF h1
theorem z0y(hI:LsI (o,l') n vs l1)(hT:isT aS l1=true)(h:Gw (l1.drop 1)=(some v,l2)):LsI (o,l') (n-1) (vs++[v]) l2:=by
 have h1:=hI.eq;rw[WO hI.le hT,h]at h1;have h2:=y5 _ _ _ h;have h3:=hI.sz;have h4:=mf hT;simp only[List.length_drop]at h2;exact⟨h1,y9 y5 hI.le (jU hT) h,by simp only[List.length_append,List.length_cons,List.length_nil];omega⟩
theorem U9{R:Option (List Int)×List Tk}(hI:LsI R n vs l1):(vs.map Tz).length<=1073741824:=by have:=hI.sz;rw[List.length_map];omega
theorem Yk(hI:LsI (o,l') n vs l1)(hT:isT aS l1=true):n-1<n:=LI.mu hI.le (jU hT)
end
theorem Kt{l:List Tk}(h:decide (((l.map Tk.cs).length:Int)>0)=true):0<l.length:=by
 cases l with
 |nil=>simp at h
 |cons t r=>simp
def ISz(p:Pr)(l:List Tk)(p':Pr)(l':List Tk):Prop:=l'.length<=l.length/\p'.params.length<=p.params.length+1/\p'.states.length<=p.states.length+1/\p'.lines.length<=p.lines.length+1/\p'.tables.length<=p.tables.length+1/\p'.stmts.length<=p.stmts.length+1
theorem qo{α:Type}{p:Pr}{r:Option α×List Tk}{f:α->List Tk->Bool×Pr×List Tk}{p':Pr}{l l':List Tk}(h:itB p r f=(true,p',l'))(hr:Le l.length r)(hf:∀x m,m.length<=l.length->f x m=(true,p',l')->ISz p l p' l'):ISz p l p' l':=by
 obtain⟨o,m⟩:=r
 cases o with
 |none=>cases h
 |some x=>exact hf x m hr h
theorem FH:Sh rq:=.of λl=>(lY.le l).bnd λ_ _ h=>((y5.le _).mono h).bnd λ_ _ h=>((lY.le _).mono h).bnd λ_ _ h=>((y5.le _).mono h).bnd λ_ _ h=>h
theorem Ku:Sh yU:=.of λl=>(lZ.le l).bnd λ_ _ h=>((FH.le _).mono h).bnd λ_ _ h=>h
theorem Kv:∀(n:Nat) (vs:List Int) (l:List Tk) (m:Nat),l.length<=m->Le m (listL n vs l)
 | 0,_,_,_,h=>h
 |n+1,vs,l,m,h=>by
  unfold listL
  split
  ·exact((y5.le _).mono (lX h)).bnd λ_ _ h=>Kv n _ _ _ h
  ·exact h
theorem Yl:Sh Fj:=.of λl=>(y5.le l).bnd λ_ _ h=>Kv _ _ _ _ h
theorem Dh{p p':Pr}{l l':List Tk}(h:yV p l=(true,p',l')):ISz p l p' l':=qo h (Ku.le l) λb m hm h=>by
 cases h;exact⟨hm,by simp,by simp,by simp,by simp,by simp⟩
theorem Di{p p':Pr}{l l':List Tk}(h:yX p l=(true,p',l')):ISz p l p' l':=qo h (Ku.le l) λb m hm h=>by
 cases h;exact⟨hm,by simp,by simp,by simp,by simp,by simp⟩
theorem Iw{p p':Pr}{l l':List Tk}(h:Il p l=(true,p',l')):ISz p l p' l':=qo h (lZ.le l) λb m hm h=>qo h ((tV.le _).mono hm) λn m hm h=>qo h ((FH.le _).mono hm) λb m hm h=>by
 cases h;exact⟨hm,by simp,by simp,by simp,by simp,by simp⟩
theorem Dj{p p':Pr}{l l':List Tk}(h:yY p l=(true,p',l')):ISz p l p' l':=qo h (lZ.le l) λb m hm h=>qo h ((lY.le _).mono hm) λn m hm h=>qo h ((Yl.le _).mono hm) λb m hm h=>by
 cases h;exact⟨hm,by simp,by simp,by simp,by simp,by simp⟩
theorem vH{k:Int}{p p':Pr}{l l':List Tk}(h:kU k p l=(true,p',l')):ISz p l p' l':=qo h (by
  split
  ·exact(lZ.le l).bnd λ_ _ h=>((lY.le _).mono h).bnd λ_ _ h=>h
  ·exact Nat.le_refl _) λb m hm h=>qo h (((Iq (y8 63)).le _).mono hm) λn m hm h=>by
 cases h;exact⟨hm,by simp,by simp,by simp,by simp,by simp⟩
structure ItI(t:List (Str×IM))(R:Bool×Pr×List Tk)(n:Nat)(p:Pr)(l:List Tk):Prop where
 eq:fF t n p l=R
 le:l.length<=n
 sz:Sz p l
section
variable {t : List (Str × IM)} {ok : Bool} {p p' p1 : Pr} {l l' l1 l2 : List Tk} {n : Nat} {f : IM}
theorem ItI.start(hz:Sz p l)(hM:dD t p l=(ok,p',l')):ItI t (ok,p',l') l.length p l:=⟨hM,Nat.le_refl _,hz⟩
theorem Ym(hn:l1.length<=n)(hT:isT (hd l1).text l1=true)(hf:find (hd l1).text t=some f):fF t n p l1=match f p (l1.drop 1)with
  |(false,p,l)=>(false,p,l)
  |(true,p,l)=>itB p (aC dS l) λ_ l=>fF t (n-1) p l:=by
 obtain⟨m,rfl,-⟩:=l9 (jU hT) hn
 rw[Nat.add_sub_cancel];conv=>{ lhs;unfold fF }
 have:l1.isEmpty=false:=by cases l1 with |nil=>exact absurd rfl (jU hT) |cons a r=>rfl
 simp only[this,Bool.false_eq_true,if_false,hf,hT,if_true]
 all_goals rfl
theorem z0z(hI:ItI t (ok,p',l') n p l1)(hT:isT (hd l1).text l1=true)(hf:find (hd l1).text t=some f)(hR:f p (l1.drop 1)=(false,p1,l2)):ok=false/\p'=p1/\l'=l2:=by
 have h:=hI.eq;rw[Ym hI.le hT hf,hR]at h;exact ji h
theorem z00(hI:ItI t (ok,p',l') n p l1)(hT:isT (hd l1).text l1=true)(hf:find (hd l1).text t=some f)(hR:f p (l1.drop 1)=(true,p1,l2))(hW:isT dS l2=false):ok=false/\p'=p1/\l'=l2:=by
 have h:=hI.eq;rw[Ym hI.le hT hf,hR]at h
 simp only[aC,hW,Bool.false_eq_true,if_false,itB]at h
 exact ji h
theorem z4x(hI:ItI t (ok,p',l') n p l1)(hT:isT (hd l1).text l1=true)(hf:find (hd l1).text t=some f)(hR:f p (l1.drop 1)=(true,p1,l2))(hz:ISz p (l1.drop 1) p1 l2)(hW:isT dS l2=true):ItI t (ok,p',l') (n-1) p1 (l2.drop 1):=by
 have h:=hI.eq;rw[Ym hI.le hT hf,hR]at h
 simp only[aC,hW,if_true,itB]at h
 have h1:=mf hT
 have h2:=mf hW
 obtain⟨z1,z2,z3,z4,z5,z6⟩:=hz
 simp only[List.length_drop]at z1
 have hs:=hI.sz
 have:=hs.a;have:=hs.b;have:=hs.c;have:=hs.d;have:=hs.e
 have:=hI.le
 refine⟨h,by simp only[List.length_drop];omega,⟨?_,?_,?_,?_,?_⟩⟩<;>simp only[List.length_drop]<;>omega
theorem z01(hI:ItI t (ok,p',l') n p l1)(hT:isT (hd l1).text l1=true):n-1<n:=LI.mu hI.le (jU hT)
theorem z02(hI:ItI t (ok,p',l') n p l1)(h:decide (((l1.map Tk.cs).length:Int)>0)=false):ok=true/\p'=p/\l'=l1:=by
 have hl:l1 = []:=by cases l1 with
  |nil=>rfl
  |cons a r=>simp at h
 subst hl
 have h:=hI.eq
 cases n<;>exact ji h
theorem z03(hI:ItI t (ok,p',l') n p l1)(hf:find (hd l1).text t=none):ok=true/\p'=p/\l'=l1:=by
 have h:=hI.eq
 cases n with
 |zero=>exact ji h
 |succ n=>
  unfold fF at h
  simp only[hf]at h
  split at h<;>exact ji h
theorem z04(hI:ItI t (ok,p',l') n p l1)(hT:isT (hd l1).text l1=false):ok=true/\p'=p/\l'=l1:=by
 have h:=hI.eq
 cases n with
 |zero=>exact ji h
 |succ n=>
  unfold fF at h
  simp only[hT,Bool.false_eq_true,if_false]at h
  split at h
  ·exact ji h
  ·split at h<;>exact ji h
end
abbrev p0(s:Str)(a t:Int):Pr:=⟨s,a,t,[],[],[],[],[]⟩
def tZ(s:Str)(a t:Int):PM Pr:=λl=>match dD decls (p0 s a t) l with
 |(false,_,l)=>(none,l)
 |(true,p,l)=>match dD stmts p l with
  |(false,_,l)=>(none,l)
  |(true,p,l)=>bnd (aC xk l) λ_ l=>(some p,l)
theorem uf(l:List Tk):jr l=bnd (aC wProcessor l) λ_ l=>bnd (jg l) λs l=>bnd (aC cO l) λ_ l=>bnd (mV l) λa l=>
 bnd (aC wTail l) λ_ l=>bnd (if eG l then mV l else bnd (aC dR l) λ_ l=>(some (-1),l)) λt l=>bnd (aC sBra l) λ_ l=>tZ s a t l:=rfl
section
variable {o : Option Pr} {l l' l1 l2 l3 : List Tk} {s : Str} {a t : Int} {p1 p2 : Pr}
theorem Yn(hM:jr l=(o,l'))(h0:isT wProcessor l=true)(h1:jg (l.drop 1)=(some s,l1))(h2:isT cO l1=true)(h3:mV (l1.drop 1)=(some a,l2))(h4:isT wTail l2=true)(h5:eG (l2.drop 1)=true)
  (h6:isT sBra ((l2.drop 1).drop 1)=true):tZ s a (hd (l2.drop 1)).n (((l2.drop 1).drop 1).drop 1)=(o,l')/\(((l2.drop 1).drop 1).drop 1).length<=l.length:=by
 refine⟨?_,?_⟩
 ·rw[uf]at hM
  have e5:mV (l2.drop 1)=(some (hd (l2.drop 1)).n,(l2.drop 1).drop 1):=by unfold mV;rw[if_pos h5]
  simp only[aC,h0,if_true,bnd,h1,h2,h3,h4,h5,e5,h6]at hM
  exact hM
 ·have:=lZ _ _ _ h1;have:=tV _ _ _ h3;simp only[List.length_drop]at *;omega
theorem Yo(hM:jr l=(o,l'))(h0:isT wProcessor l=true)(h1:jg (l.drop 1)=(some s,l1))(h2:isT cO l1=true)(h3:mV (l1.drop 1)=(some a,l2))(h4:isT wTail l2=true)(h5:eG (l2.drop 1)=true)
  (h6:isT sBra ((l2.drop 1).drop 1)=false):o=none/\l'=(l2.drop 1).drop 1:=by
 rw[uf]at hM
 have e5:mV (l2.drop 1)=(some (hd (l2.drop 1)).n,(l2.drop 1).drop 1):=by unfold mV;rw[if_pos h5]
 simp only[aC,h0,if_true,bnd,h1,h2,h3,h4,h5,e5,h6,Bool.false_eq_true,if_false]at hM
 exact vF hM
theorem Yp(hM:jr l=(o,l'))(h0:isT wProcessor l=true)(h1:jg (l.drop 1)=(some s,l1))(h2:isT cO l1=true)(h3:mV (l1.drop 1)=(some a,l2))(h4:isT wTail l2=true)(h5:eG (l2.drop 1)=false)(h7:isT dR (l2.drop 1)=true)
  (h6:isT sBra ((l2.drop 1).drop 1)=true):tZ s a (-1) (((l2.drop 1).drop 1).drop 1)=(o,l')/\(((l2.drop 1).drop 1).drop 1).length<=l.length:=by
 refine⟨?_,?_⟩
 ·rw[uf]at hM
  simp only[aC,h0,if_true,bnd,h1,h2,h3,h4,h5,h7,h6,Bool.false_eq_true,if_false]at hM
  exact hM
 ·have:=lZ _ _ _ h1;have:=tV _ _ _ h3;simp only[List.length_drop]at *;omega
theorem Yq(hI:tZ s a t l=(o,l'))(h:dD decls (p0 s a t) l=(false,p1,l1)):o=none/\l'=l1:=by
 unfold tZ at hI;rw[h]at hI;exact vF hI
theorem Yr(hI:tZ s a t l=(o,l'))(h:dD decls (p0 s a t) l=(true,p1,l1))(h2:dD stmts p1 l1=(false,p2,l2)):o=none/\l'=l2:=by
 unfold tZ at hI;rw[h]at hI;simp only[h2]at hI;exact vF hI
theorem Yt(hI:tZ s a t l=(o,l'))(h:dD decls (p0 s a t) l=(true,p1,l1))(h2:dD stmts p1 l1=(true,p2,l2))(hW:isT xk l2=false):o=none/\l'=l2:=by
 unfold tZ at hI;rw[h]at hI;simp only[h2,aC,hW,Bool.false_eq_true,if_false,bnd]at hI;exact vF hI
theorem z05(hI:tZ s a t l=(o,l'))(h:dD decls (p0 s a t) l=(true,p1,l1))(h2:dD stmts p1 l1=(true,p2,l2))(hW:isT xk l2=true):o=some p2/\l'=l2.drop 1:=by
 unfold tZ at hI;rw[h]at hI;simp only[h2,aC,hW,if_true,bnd]at hI;exact vF hI
end
theorem sz0{s:Str}{a t:Int}{l:List Tk}(h:l.length<=1073741823):Sz (p0 s a t) l:=⟨by simpa using h,by simpa using h,by simpa using h,by simpa using h,by simpa using h⟩
theorem Q7{t:List (Str×IM)}(ht:∀x∈t,∀p l p' l',x.2 p l=(true,p',l')->ISz p l p' l'){s:Str}{f:IM}(h:find s t=some f){p p':Pr}{l l':List Tk}(hf:f p l=(true,p',l')):ISz p l p' l':=by
 induction t with
 |nil=>cases h
 |cons x r ih=>
  simp only[find]at h
  split at h
  ·cases h;exact ht x (by simp) _ _ _ _ hf
  ·exact ih (λy hy=>ht y (by simp[hy])) h
theorem Kw:∀x∈decls,∀p l p' l',x.2 p l=(true,p',l')->ISz p l p' l':=by
 intro x hx p l p' l' h
 simp only[decls,List.mem_cons,List.not_mem_nil,or_false]at hx
 rcases hx with rfl |rfl |rfl |rfl
 ·exact Dh h
 ·exact Di h
 ·exact Iw h
 ·exact Dj h
theorem Va:∀x∈stmts,∀p l p' l',x.2 p l=(true,p',l')->ISz p l p' l':=by
 intro x hx p l p' l' h
 simp only[stmts,List.mem_cons,List.not_mem_nil,or_false]at hx
 rcases hx with rfl |rfl |rfl |rfl
 ·exact vH (k:=1) h
 ·exact vH (k:=2) h
 ·exact vH (k:=3) h
 ·exact vH (k:=4) h
theorem FK{t:List (Str×IM)}(ht:∀x∈t,∀p l p' l',x.2 p l=(true,p',l')->ISz p l p' l'):∀(n:Nat) (p:Pr) (l:List Tk) (p':Pr) (l':List Tk),fF t n p l=(true,p',l')->Sz p l->Sz p' l'/\l'.length<=l.length
 | 0,p,l,p',l',h,hz=>by cases h;exact⟨hz,Nat.le_refl _⟩
 |n+1,p,l,p',l',h,hz=>by
  unfold fF at h
  split at h
  ·cases h;exact⟨hz,Nat.le_refl _⟩
  ·split at h
   ·cases h;exact⟨hz,Nat.le_refl _⟩
   ·rename_i f hf
    split at h
    ·rename_i hT
     split at h
     ·cases h
     ·rename_i p1 l1 hR
      have hi:=Q7 ht hf hR
      obtain⟨z1,z2,z3,z4,z5,z6⟩:=hi
      have hl:=mf hT
      simp only[List.length_drop]at z1
      by_cases hW:isT dS l1=true
      ·simp only[aC,hW,if_true,itB]at h
       have:=hz.a;have:=hz.b;have:=hz.c;have:=hz.d;have:=hz.e
       have:=mf hW
       have ih:=FK ht n p1 (l1.drop 1) p' l' h ⟨by simp only[List.length_drop];omega,by simp only[List.length_drop];omega,by simp only[List.length_drop];omega,by simp only[List.length_drop];omega,by simp only[List.length_drop];omega⟩
       refine⟨ih.1,?_⟩
       have:=ih.2
       simp only[List.length_drop]at this
       omega
      ·simp only[aC,hW,if_false,itB]at h
       cases h
    ·cases h;exact⟨hz,Nat.le_refl _⟩
theorem FM{p p':Pr}{l l':List Tk}(h:dD decls p l=(true,p',l'))(hz:Sz p l):Sz p' l':=(FK Kw _ _ _ _ _ h hz).1
structure RdI(R:Option (List Pr)×List Tk)(n:Nat)(ps:List Pr)(l:List Tk):Prop where
 eq:readF n ps l=R
 le:l.length<=n
 sz:ps.length+l.length<=1073741823
theorem Dk{t:List (Str×IM)}(ht:∀x∈t,∀p l p' l',x.2 p l=(true,p',l')->ISz p l p' l'):∀(n:Nat) (p:Pr) (l:List Tk) (p':Pr) (l':List Tk),fF t n p l=(true,p',l')->l'.length<=l.length
 | 0,p,l,p',l',h=>by cases h;exact Nat.le_refl _
 |n+1,p,l,p',l',h=>by
  unfold fF at h
  split at h
  ·cases h;exact Nat.le_refl _
  ·split at h
   ·cases h;exact Nat.le_refl _
   ·rename_i f hf
    split at h
    ·rename_i hT
     split at h
     ·cases h
     ·rename_i p1 l1 hR
      have z1:=(Q7 ht hf hR).1
      simp only[List.length_drop]at z1
      by_cases hW:isT dS l1=true
      ·simp only[aC,hW,if_true,itB]at h
       have ih:=Dk ht n p1 (l1.drop 1) p' l' h
       simp only[List.length_drop]at ih
       omega
      ·simp only[aC,hW,if_false,itB]at h
       cases h
    ·cases h;exact Nat.le_refl _
theorem iI{α β:Type}{r:Option α×List Tk}{f:α->PM β}{y:β}{m:List Tk}(h:bnd r f=(some y,m)):∃x l,r=(some x,l)/\f x l=(some y,m):=by
 obtain⟨o,l⟩:=r
 cases o with
 |none=>cases h
 |some x=>exact⟨x,l,rfl,h⟩
theorem lw{s:Str}{l m:List Tk}{y:Unit}(h:aC s l=(some y,m)):isT s l=true/\m=l.drop 1:=by
 unfold aC at h
 split at h
 ·rename_i hT;cases h;exact⟨hT,rfl⟩
 ·cases h
theorem Vb{s:Str}{a t:Int}{l m:List Tk}{p:Pr}(h:tZ s a t l=(some p,m)):m.length<=l.length:=by
 unfold tZ at h
 split at h
 ·cases h
 ·rename_i p1 l1 h1
  split at h
  ·cases h
  ·rename_i p2 l2 h2
   obtain⟨x,l3,h3,h4⟩:=iI h
   obtain⟨-,rfl⟩:=lw h3
   cases h4
   have:=Dk Kw _ _ _ _ _ h1
   have:=Dk Va _ _ _ _ _ h2
   simp only[List.length_drop];omega
theorem vI{l m:List Tk}{p:Pr}(h:jr l=(some p,m)):m.length<l.length:=by
 rw[uf]at h
 obtain⟨x,l1,h1,h⟩:=iI h
 obtain⟨hT,rfl⟩:=lw h1
 obtain⟨s,l2,h2,h⟩:=iI h
 obtain⟨x,l3,h3,h⟩:=iI h
 obtain⟨-,rfl⟩:=lw h3
 obtain⟨a,l4,h4,h⟩:=iI h
 obtain⟨x,l5,h5,h⟩:=iI h
 obtain⟨-,rfl⟩:=lw h5
 obtain⟨t,l6,h6,h⟩:=iI h
 obtain⟨x,l7,h7,h⟩:=iI h
 obtain⟨-,rfl⟩:=lw h7
 have e2:=lZ _ _ _ h2
 have e4:=tV _ _ _ h4
 have e6:l6.length<=(l4.drop 1).length:=by
  split at h6
  ·exact tV _ _ _ h6
  ·obtain⟨x,l8,h8,h9⟩:=iI h6
   have:=lY _ _ _ h8
   cases h9;exact this
 have e8:=Vb h
 have:=mf hT
 simp only[List.length_drop]at *
 omega
def readD(e:Int):Option (List Pr)×List Tk->D
 |(some ps,_)=>.tuple [.sl 8 (ps.map Pr.cs),.i 0,.i 0]
 |(none,l)=>.tuple [.sl 8 [],.i (at' e l),.i 140]
section
variable {l l1 l2 : List Tk} {n : Nat} {ps : List Pr} {p : Pr} {R : Option (List Pr) × List Tk}
theorem z06(hl:l.length<=1073741823):RdI (bQ l) l.length [] l:=⟨rfl,Nat.le_refl _,by simpa using hl⟩
theorem Q8(hn:l.length<=n)(h:decide (((l.map Tk.cs).length:Int)>0)=true):readF n ps l=bnd (jr l) λp l=>readF (n-1) (ps++[p]) l:=by
 have hp:=Kt h
 obtain⟨m,rfl⟩:∃m,n=m+1:=⟨n-1,by omega⟩
 rw[Nat.add_sub_cancel];conv=>{ lhs;unfold readF }
 have:l.isEmpty=false:=by cases l with |nil=>simp at hp |cons a r=>rfl
 simp only[this,Bool.false_eq_true,if_false]
theorem z07(hI:RdI R n ps l)(h:decide (((l.map Tk.cs).length:Int)>0)=true)(hp:jr l=(none,l2)):R=(none,l2):=by
 have h1:=hI.eq;rw[Q8 hI.le h,hp]at h1;exact h1.symm
theorem z08(hI:RdI R n ps l)(h:decide (((l.map Tk.cs).length:Int)>0)=true)(hp:jr l=(some p,l2)):RdI R (n-1) (ps++[p]) l2:=by
 have h1:=hI.eq;rw[Q8 hI.le h,hp]at h1
 have h2:=vI hp;have h3:=hI.le;have h4:=hI.sz
 exact⟨h1,by omega,by simp;omega⟩
theorem Yu(hI:RdI R n ps l)(h:decide (((l.map Tk.cs).length:Int)>0)=true):n-1<n:=by
 have:=Kt h;have:=hI.le;omega
theorem z09(hI:RdI R n ps l)(h:decide (((l.map Tk.cs).length:Int)>0)=false):R=(some ps,l):=by
 have hl:l = []:=by cases l with
  |nil=>rfl
  |cons a r=>simp at h
 subst hl
 have h:=hI.eq
 cases n<;>exact h.symm
theorem z3h(hI:RdI R n ps l):l.length<=1073741823:=by have:=hI.sz;omega
theorem Vd(hI:RdI R n ps l):(ps.map Pr.cs).length<=1073741824:=by have:=hI.sz;rw[List.length_map];omega
end
theorem Yv(ρ:List (Nat×Nat)):AV.ren.go ρ [] = []:=rfl
theorem zg{T:Tbl}{Df:FuncId->List AV->Option D->Bool->Heap->Heap->Prop}{f:FuncId}{az:List AV}{d y:D}{rs:List ResultVar}{K0:Heap}{env:Env}{K K1:Heap}(h:Uc Df f az (some d) false env K λK=>finR T rs K0 (.ret (.data y)) K1 env K):Gs T Df f az d rs K0 env K K1 (pq.ret y).toA:=Gs.ret h
abbrev wC(ts:List Tk):Block:=.cells [.gs 1000001 4 (ts.map Tk.cs)]
abbrev wT(ts:List Tk):Block:=.tok 4 (ts.map Tk.cs).length
theorem aV{B:B'}{L:List Nat}{f:FuncId}{az:List AV}{env:Env}{K:Heap}{next pan:Next}{ds:List AV}(Δ:List Tk)(hr:∀ρ,AV.ren.go ρ ds=ds)
  (H:∀ts:List Tk,ts.length+Δ.length<=1073741823->B f (.ptr 1000000 0::ds) [(1000000,wC ts),(1000001,wT ts)] (.ret (.data (.tuple []))) [(1000000,wC (ts++Δ)),(1000001,wT (ts++Δ))])
  (hk:∃(X Y:Nat) (ts:List Tk),az = .ptr X 0::ds/\K.get X=some (.cells [.gs Y 4 (ts.map Tk.cs)])/\K.get Y=some (.tok 4 (ts.map Tk.cs).length)/\Nat.beq X Y=false/\allIn L [X,Y]=true/\ts.length+Δ.length<=1073741823 /\
   next (.data (.tuple [])) ((K.put Y (.tok 4 ((ts++Δ).map Tk.cs).length)).put X (.cells [.gs Y 4 ((ts++Δ).map Tk.cs)]))) :
  ∃(as0:List AV) (K0:Heap) (out:fP) (K1:Heap) (ρ:List (Nat×Nat)),B f as0 K0 out K1/\AV.ren.go ρ as0=az/\Heap.sub ρ K K0/\bu ρ K0 K1 out.av env K L=true /\
  outGo ρ K1 K next pan out:=by
 obtain⟨X,Y,ts,has,hK,hY,hXY,hL,hn,h1⟩:=hk
 refine⟨_,_,_,_,[(1000000,X),(1000001,Y)],H ts hn,?_,⟨hK,hY,trivial⟩,?_,h1⟩
 ·rw[has]
  show AV.ren _ _::AV.ren.go _ ds=_
  rw[hr];rfl
 ·have hn:jB [X,Y]=true:=by
   simp only[jB,jZ,hXY];rfl
  show(jB [X,Y]&&(_&&(allIn L [X,Y]&&(_&&_))))=true
  rw[hn,hL]
  rfl
theorem jk{B:B'}{L:List Nat}{f:FuncId}{az:List AV}{env:Env}{K:Heap}{next pan:Next}
  (H:∀(ss:List Str) (ts:List Tk),ts.length+ss.length<=1073741823->B f [.ptr 1000000 0,.gs 1000002 1 (ss.map uX)] [(1000000,wC ts),(1000001,wT ts),(1000002,.tok 1 (ss.map uX).length)] (.ret (.data (.tuple []))) [(1000000,wC (ts++ss.map wd)),(1000001,wT (ts++ss.map wd)),(1000002,.tok 1 (ss.map uX).length)])
  (hk:∃(ss:List Str) (X Y Z:Nat) (ts:List Tk),az = [.ptr X 0,.gs Z 1 (ss.map uX)]/\K.get X=some (.cells [.gs Y 4 (ts.map Tk.cs)])/\K.get Y=some (.tok 4 (ts.map Tk.cs).length)/\K.get Z=some (.tok 1 (ss.map uX).length)/\jB [X,Y,Z]=true/\allIn L [X,Y,Z]=true/\ts.length+ss.length<=1073741823 /\
   next (.data (.tuple [])) (((K.put Z (.tok 1 (ss.map uX).length)).put Y (.tok 4 ((ts++ss.map wd).map Tk.cs).length)).put X (.cells [.gs Y 4 ((ts++ss.map wd).map Tk.cs)]))) :
  ∃(as0:List AV) (K0:Heap) (out:fP) (K1:Heap) (ρ:List (Nat×Nat)),B f as0 K0 out K1/\AV.ren.go ρ as0=az/\Heap.sub ρ K K0/\bu ρ K0 K1 out.av env K L=true /\
  outGo ρ K1 K next pan out:=by
 obtain⟨ss,X,Y,Z,ts,has,hK,hY,hZ,hXY,hL,hn,h1⟩:=hk
 refine⟨_,_,_,_,[(1000000,X),(1000001,Y),(1000002,Z)],H ss ts hn,has.symm,⟨hK,hY,hZ,trivial⟩,?_,h1⟩
 show(jB [X,Y,Z]&&(_&&(allIn L [X,Y,Z]&&(_&&_))))=true
 rw[hXY,hL]
 rfl
theorem ry(d:D)(n:D)(ρ:List (Nat×Nat)):AV.ren.go ρ [.data d,.data n] = [.data d,.data n]:=rfl
theorem Dl{n:Int}(h:decide (n<0)=true):[sg dZ]++[nu (IntKind.i64.wrap (0-n))]=jh n:=by
 have h:=of_decide_eq_true h
 unfold jh;rw[if_pos h];rfl
theorem Ky{n:Int}(h:decide (n<0)=false):[nu n]=jh n:=by
 have h:=of_decide_eq_false h
 unfold jh;rw[if_neg h]
abbrev z1a(f:Int×Form):D×D:=(.i f.1,.agg [.sl 1 (f.2.1.map uX),.sl 1 (f.2.2.1.map Tz),.str f.2.2.2])
theorem Kz{k:Int}{F:D->Prop}{G:Prop}:∀(fs:List (Int×Form)),(∀f,Io k fs=some f->F (.agg [.sl 1 (f.1.map uX),.sl 1 (f.2.1.map Tz),.str f.2.2]))->(Io k fs=none->G)->Gy (DV (.i k) (fs.map z1a)) F G
 | [],_,h2=>h2 rfl
 |(w,f)::r,h1,h2=>by
  simp only[List.map_cons,DV,gu,sameS,Io]at h1 h2 ⊢
  cases h:k==w with
  |true=>
   simp only[h,if_true]at h1
   exact h1 f rfl
  |false=>
   simp only[h,Bool.false_eq_true,if_false]at h1 h2
   exact Kz r h1 h2
end Go.Fw.Sy
namespace Go.Fw.Sy
open Go.Fw.Lx (Tk)
variable [ae] {ts : List Tk} {n : Int}
theorem z1b(h:decide (n<0)=true)(hn:ts.length+(jh n).length<=1073741823):ts.length+[sg dZ].length<=1073741823:=by
 rw[<-Dl h]at hn;simp at hn ⊢;omega
theorem z1c(h:decide (n<0)=true):((ts++[sg dZ]).map Tk.cs)++[[D.val (.int .i64 2),D.str [],D.val (.int .i64 (IntKind.i64.wrap (0-n))),D.val (.int .i64 0)]]=(ts++jh n).map Tk.cs:=by
 rw[<-Dl h];simp
theorem z1d(h:decide (n<0)=false):(ts.map Tk.cs)++[[D.val (.int .i64 2),D.str [],D.val (.int .i64 n),D.val (.int .i64 0)]]=(ts++jh n).map Tk.cs:=by
 rw[<-Ky h];simp
theorem Yw(h:decide (n<0)=true)(hn:ts.length+(jh n).length<=1073741823):((ts++[sg dZ]).map Tk.cs).length<=1073741824:=by
 rw[<-Dl h]at hn;simp at hn ⊢;omega
theorem Yx(h:decide (n<0)=false)(hn:ts.length+(jh n).length<=1073741823):(ts.map Tk.cs).length<=1073741824:=by
 rw[<-Ky h]at hn;simp at hn ⊢;omega
end Go.Fw.Sy
namespace Go.Fw.Sy
open Go.Fw.Lx (Tk)
variable [ae]
def tlT(x:Ex)(f:Form):List Tk:=if f.2.2==[]then []else sg f.2.2::jh x.n
theorem Ny{x:Ex}{f:Form}(h:lq x.kind=some f):aZ x=opsT x.l f.1 f.2.1++tlT x f:=by
 cases x with
 |mk k nm i n l=>
  simp only[Ex.kind]at h
  rw[aZ,h];rfl
theorem KA:∀(l:List Ex) (lv:List Int),opsT l [] lv = []
 | [],_=>rfl
 |_::_,_=>rfl
structure FI(x:Ex)(f:Form)(R:List Tk)(i:Nat)(hs:List Str)(t:List Tk):Prop where
 eq:t++(opsT (x.l.drop i) hs (f.2.1.drop i)++tlT x f)=R
section
variable {x y : Ex} {f : Form} {R ts t1 H : List Tk} {i : Nat} {s : Str} {r : List Str} {v : Int}
theorem Ve(hf:lq x.kind=some f):FI x f (ts++aZ x) 0 f.1 ts:=⟨by rw[Ny hf];rfl⟩
theorem Yy(hy:x.l[i]? = some y)(hv:f.2.1[i]? = some v):opsT (x.l.drop i) (s::r) (f.2.1.drop i)=kV s++(dw y v++opsT (x.l.drop (i+1)) r (f.2.1.drop (i+1))):=by
 obtain⟨h1,rfl⟩:=List.getElem?_eq_some_iff.1 hy
 obtain⟨h2,rfl⟩:=List.getElem?_eq_some_iff.1 hv
 rw[List.drop_eq_getElem_cons h1,List.drop_eq_getElem_cons h2]
 rfl
theorem Yz(hy:¬i<x.l.length):opsT (x.l.drop i) (s::r) (f.2.1.drop i)=kV s++opsT (x.l.drop (i+1)) r (f.2.1.drop (i+1)):=by
 rw[List.drop_eq_nil_of_le (show x.l.length<=i by omega),List.drop_eq_nil_of_le (show x.l.length<=i+1 by omega)]
 simp only[opsT,List.flatMap_cons]
theorem Zk(hI:FI x f R i (s::r) t1)(hh:kV s=H)(hy:x.l[i]? = some y)(hv:f.2.1[i]? = some v):FI x f R (i+1) r (t1++H++dw y v):=by
 have h:=hI.eq
 rw[Yy hy hv,hh]at h
 exact⟨by rw[<-h];simp only[List.append_assoc]⟩
theorem z3i(hI:FI x f R i (s::r) t1)(hh:kV s = [])(hy:x.l[i]? = some y)(hv:f.2.1[i]? = some v):FI x f R (i+1) r (t1++dw y v):=by
 have:=Zk hI hh hy hv;simpa using this
theorem z1e(hI:FI x f R i (s::r) t1)(hh:kV s=H)(hi:decide ((i:Int)<((Ex.css x.l).length:Int))=false):FI x f R (i+1) r (t1++H):=by
 have hi:¬i<x.l.length:=by have:=of_decide_eq_false hi;rw[Ex.css_eq,List.length_map]at this;omega
 have h:=hI.eq
 rw[Yz hi,hh]at h
 exact⟨by rw[<-h];simp only[List.append_assoc]⟩
theorem z3j(hI:FI x f R i (s::r) t1)(hh:kV s = [])(hi:decide ((i:Int)<((Ex.css x.l).length:Int))=false):FI x f R (i+1) r t1:=by
 have:=z1e hI hh hi;simpa using this
theorem Q9(hI:FI x f (ts++aZ x) i (s::r) t1)(hn:ts.length+(aZ x).length<=1073741823)(hh:kV s=H):t1.length+H.length<=1073741823:=by
 have h:=congrArg List.length hI.eq
 have h2:H.length<=(opsT (x.l.drop i) (s::r) (f.2.1.drop i)).length:=by
  cases x.l.drop i with
  |nil=>simp only[opsT,List.flatMap_cons,List.length_append,hh];omega
  |cons a b=>simp only[opsT,List.length_append,hh];omega
 simp only[List.length_append]at h
 omega
theorem Rh(hI:FI x f (ts++aZ x) i (s::r) t1)(hn:ts.length+(aZ x).length<=1073741823)(hh:kV s=H)(hy:x.l[i]? = some y)(hv:f.2.1[i]? = some v):(t1++H).length+(dw y v).length<=1073741823:=by
 have h:=congrArg List.length (Zk hI hh hy hv).eq
 simp only[List.length_append]at h ⊢
 omega
theorem z1f(hI:FI x f (ts++aZ x) i (s::r) t1)(hn:ts.length+(aZ x).length<=1073741823)(hh:kV s = [])(hy:x.l[i]? = some y)(hv:f.2.1[i]? = some v):t1.length+(dw y v).length<=1073741823:=by
 have:=Rh hI hn hh hy hv;simpa using this
theorem z3k(hI:FI x f R i [] t1)(h:(!(f.2.2==[]))=false):t1=R:=by
 have h1:=hI.eq
 have h:(f.2.2==[])=true:=by simpa using h
 rw[KA,tlT,h]at h1
 simpa using h1
theorem z1g(hI:FI x f R i [] t1)(h:(!(f.2.2==[]))=true):t1++[sg f.2.2]++jh x.n=R:=by
 have h1:=hI.eq
 have h:(f.2.2==[])=false:=by simpa using h
 rw[KA,tlT,h]at h1
 simpa using h1
theorem z1h(hI:FI x f (ts++aZ x) i [] t1)(hn:ts.length+(aZ x).length<=1073741823)(h:(!(f.2.2==[]))=true):t1.length+[sg f.2.2].length<=1073741823/\(t1++[sg f.2.2]).length+(jh x.n).length<=1073741823:=by
 have h:=congrArg List.length (z1g hI h)
 simp only[List.length_append]at h ⊢
 omega
theorem Dn(h:(s==wIf)=true):kV s = [wd s]:=by simp only[kV,h,Bool.true_or,if_true]
theorem ug(h:(s==ku)=true):kV s = [wd s]:=by simp only[kV,h,Bool.true_or,Bool.or_true,if_true]
theorem uh(h:(s==kw)=true):kV s = [wd s]:=by simp only[kV,h,Bool.or_true,if_true]
theorem Iy(h1:(s==wIf)=false)(h2:(s==ku)=false)(h3:(s==kw)=false)(h:(s==[])=true):kV s = []:=by simp only[kV,h1,h2,h3,Bool.or_self,Bool.false_eq_true,if_false,h,if_true]
theorem zh(h1:(s==wIf)=false)(h2:(s==ku)=false)(h3:(s==kw)=false)(h:(s==[])=false):kV s = [sg s]:=by simp only[kV,h1,h2,h3,Bool.or_self,Bool.false_eq_true,if_false,h]
end
theorem KC{k:Int}{f:Form}(h:lq k=some f):f.1.length=f.2.1.length/\f.1.length<=4:=by
 have:∀fs:List (Int×Form),(∀x∈fs,x.2.1.length=x.2.2.1.length/\x.2.1.length<=4)->Io k fs=some f->f.1.length=f.2.1.length/\f.1.length<=4:=by
  intro fs
  induction fs with
  |nil=>intro _ h;cases h
  |cons x r ih=>
   intro ha h
   simp only[Io]at h
   split at h
   ·cases h;exact ha x (by simp)
   ·exact ih (λy hy=>ha y (by simp[hy])) h
 exact this forms (by decide) h
theorem WP{T:Prop}{l:List Ex}{n:Int}{i:Nat}{q:List D->Prop}(hT:T)(hn:n=(i:Int))(h:i<l.length)(hq:∀y,l[i]? = some y->q y.cs):T/\∃c,(0<=n/\(Ex.css l)[n.toNat]? = some c)/\q c:=by
 subst hn
 have hy:l[i]? = some l[i]:=List.getElem?_eq_getElem h
 exact⟨hT,_,⟨Int.natCast_nonneg _,by rw[Ex.css_eq,Int.toNat_natCast,List.getElem?_map,hy];rfl⟩,hq _ hy⟩
theorem z1i{T:Prop}{l:List Int}{n:Int}{i:Nat}{q:List D->Prop}(hT:T)(hn:n=(i:Int))(h:i<l.length)(hq:∀v,l[i]? = some v->q (Tz v)):T/\∃c,(0<=n/\(l.map Tz)[n.toNat]? = some c)/\q c:=by
 subst hn
 have hy:l[i]? = some l[i]:=List.getElem?_eq_getElem h
 exact⟨hT,_,⟨Int.natCast_nonneg _,by rw[Int.toNat_natCast,List.getElem?_map,hy];rfl⟩,hq _ hy⟩
theorem z1j{l:List Ex}{i:Nat}(h:decide ((i:Int)<((Ex.css l).length:Int))=true):i<l.length:=by
 have:=of_decide_eq_true h;rw[Ex.css_eq,List.length_map]at this;omega
theorem z3l{f:Form}{k:Int}{i:Nat}{s:Str}{r:List Str}(h:lq k=some f)(hd:f.1.drop i=s::r):i<f.2.1.length:=by
 have:=KC h
 have:i<f.1.length:=by
  by_cases hi:i<f.1.length
  ·exact hi
  ·rw[List.drop_eq_nil_of_le (by omega)]at hd;cases hd
 omega
theorem Ri(x:Ex):dw x 0=aZ x:=by
 unfold dw
 rw[if_neg]
 unfold level
 split
 ·decide
 ·split
  ·decide
  ·split<;>decide
theorem xn{x:Ex}{v:Int}(h:decide (level x.kind<v)=true):dw x v=sg mO::(aZ x++[sg tN]):=by
 unfold dw;rw[if_pos (of_decide_eq_true h)]
theorem Vf{x:Ex}{v:Int}(h:decide (level x.kind<v)=false):dw x v=aZ x:=by
 unfold dw;rw[if_neg (of_decide_eq_false h)]
abbrev Fun:=Str×Int×Int×Bool
structure MI(k:Int)(es:List (D×D)):Prop where
 a:∀e∈es,∃f∈CY,e=TA f
 b:∀f∈CY,f.2.1=k->TA f∈es
theorem Vg(k:Int):MI k (CY.map TA):=⟨λe he=>by obtain⟨f,hf,rfl⟩:=List.mem_map.1 he;exact⟨f,hf,rfl⟩,λf hf _=>List.mem_map.2 ⟨f,hf,rfl⟩⟩
theorem YA{k:Int}{l1 l2:List (D×D)}{x:D×D}(h:MI k (l1++x::l2)):∃f,f∈CY/\x=TA f:=by
 obtain⟨f,hf,e⟩:=h.a x (by simp);exact⟨f,hf,e⟩
theorem YB{k:Int}{l1 l2:List (D×D)}{f:Fun}(h:MI k (l1++TA f::l2))(hk:(f.2.1 != k)=true):MI k (l1++l2):=by
 refine⟨λe he=>h.a e ?_,λg hg e=>?_⟩
 ·simp only[List.mem_append,List.mem_cons]at he ⊢
  rcases he with he |he
  ·exact .inl he
  ·exact .inr (.inr he)
 ·have:=h.b g hg e
  simp only[List.mem_append,List.mem_cons]at this ⊢
  rcases this with h1 |h1 |h1
  ·exact .inl h1
  ·exfalso
   have:f.2.1=g.2.1:=by
    have:=congrArg Prod.snd h1
    simp only[TA,D.agg.injEq,List.cons.injEq,D.val.injEq,Value.int.injEq]at this
    exact this.1.2.symm
   simp[this,e]at hk
  ·exact .inr h1
theorem KD{k:Int}(h:MI k []):Fp k=none:=by
 have:∀fs:List Fun,(∀f∈fs,f.2.1≠k)->z2p k fs=none:=by
  intro fs
  induction fs with
  |nil=>intro _;rfl
  |cons x r ih=>
   intro ha
   obtain⟨w,c,n,b⟩:=x
   have h1:(c==k)=false:=by simpa using ha (w,c,n,b) (by simp)
   simp only[z2p,h1,Bool.false_eq_true,if_false]
   exact ih λy hy=>ha y (by simp[hy])
 exact this CY λf hf e=>by simpa using h.b f hf e
theorem AZ{k:Int}{f:Fun}(hf:f∈CY)(hk:(f.2.1 != k)=false):Fp k=some (f.1,f.2.2):=by
 have hk:f.2.1=k:=by simpa using hk
 subst hk
 simp only[CY,List.mem_cons,List.not_mem_nil,or_false]at hf
 rcases hf with rfl |rfl |rfl |rfl |rfl |rfl |rfl |rfl<;>rfl
theorem z3m{f:Fun}(hf:f∈CY):0<=f.2.2.1/\f.2.2.1<=2:=by
 simp only[CY,List.mem_cons,List.not_mem_nil,or_false]at hf
 rcases hf with rfl |rfl |rfl |rfl |rfl |rfl |rfl |rfl<;>decide
theorem Rj{x:Ex}{f:Str×Int×Bool}(h0:lq x.kind=none)(h:Fp x.kind=some f):aZ x=wd f.1::sg mO::((if f.2.2 then [wd x.name,sg aS]else [])++(WB x.l f.2.1.toNat 0++[sg tN])):=by
 cases x with
 |mk k nm i n l=>
  simp only[Ex.kind]at h h0
  rw[aZ,h0];simp only[h];rfl
theorem FN{x:Ex}(h0:lq x.kind=none)(h:Fp x.kind=none)(h1:(x.kind==1)=true):aZ x=jh x.n:=by
 cases x with
 |mk k nm i n l=>
  simp only[Ex.kind]at h h0 h1
  rw[aZ,h0];simp only[h,h1,if_true];rfl
theorem A7{x:Ex}(h0:lq x.kind=none)(h:Fp x.kind=none)(h1:(x.kind==1)=false):aZ x = [wd x.name]:=by
 cases x with
 |mk k nm i n l=>
  simp only[Ex.kind]at h h0 h1
  rw[aZ,h0];simp only[h,h1,Bool.false_eq_true,if_false];rfl
section
variable {x : Ex} {v : Int} {ts : List Tk}
theorem z1k(h:decide (level x.kind<v)=true)(hn:ts.length+(dw x v).length<=1073741823):ts.length+[sg mO].length<=1073741823:=by
 rw[xn h]at hn;simp only[List.length_cons,List.length_append,List.length_nil]at hn ⊢;omega
theorem z1l(h:decide (level x.kind<v)=true)(hn:ts.length+(dw x v).length<=1073741823):(ts++[sg mO]).length+(aZ x).length<=1073741823:=by
 rw[xn h]at hn;simp only[List.length_cons,List.length_append,List.length_nil]at hn ⊢;omega
theorem z1m(h:decide (level x.kind<v)=true)(hn:ts.length+(dw x v).length<=1073741823):(ts++[sg mO]++aZ x).length+[sg tN].length<=1073741823:=by
 rw[xn h]at hn;simp only[List.length_cons,List.length_append,List.length_nil]at hn ⊢;omega
theorem z1o(h:decide (level x.kind<v)=true):List.map Tk.cs (ts++[sg mO]++aZ x++[sg tN])=List.map Tk.cs (ts++dw x v):=by
 rw[xn h];simp
theorem YC{f:Form}{k:Int}(he:lq k=some f):f.1.length<=9223372036854775807:=by have:=KC he;omega
end
structure AT(x:Ex)(g:Fun)(R:List Tk)(i:Nat)(t:List Tk):Prop where
 eq:t++(WB (x.l.drop i) (g.2.2.1.toNat-i) i++[sg tN])=R
section
variable {x y : Ex} {g : Fun} {ts t1 : List Tk} {i : Nat}
theorem Nz(he:lq x.kind=none)(hk:Fp x.kind=some (g.1,g.2.2)):aZ x=wd g.1::sg mO::((if g.2.2.2 then [wd x.name,sg aS]else [])++(WB x.l g.2.2.1.toNat 0++[sg tN])):=Rj he hk
theorem z3n(hn:ts.length+(aZ x).length<=1073741823)(he:lq x.kind=none)(hk:Fp x.kind=some (g.1,g.2.2)):ts.length+[g.1].length<=1073741823:=by
 rw[Nz he hk]at hn;simp only[List.length_cons,List.length_append,List.length_nil]at hn ⊢;omega
theorem z3o(hn:ts.length+(aZ x).length<=1073741823)(he:lq x.kind=none)(hk:Fp x.kind=some (g.1,g.2.2)):(ts++[g.1].map wd).length+[sg mO].length<=1073741823:=by
 rw[Nz he hk]at hn;simp only[List.length_cons,List.length_append,List.length_nil,List.length_map]at hn ⊢;omega
theorem z3p(hn:ts.length+(aZ x).length<=1073741823)(he:lq x.kind=none)(hk:Fp x.kind=some (g.1,g.2.2))(hb:g.2.2.2=true):(ts++[g.1].map wd++[sg mO]).length+[x.name].length<=1073741823:=by
 rw[Nz he hk,hb]at hn;simp only[List.length_cons,List.length_append,List.length_nil,List.length_map,if_true]at hn ⊢;omega
theorem z3q(hn:ts.length+(aZ x).length<=1073741823)(he:lq x.kind=none)(hk:Fp x.kind=some (g.1,g.2.2))(hb:g.2.2.2=true):(ts++[g.1].map wd++[sg mO]++[x.name].map wd).length+[sg aS].length<=1073741823:=by
 rw[Nz he hk,hb]at hn;simp only[List.length_cons,List.length_append,List.length_nil,List.length_map,if_true]at hn ⊢;omega
theorem z3r(he:lq x.kind=none)(hk:Fp x.kind=some (g.1,g.2.2))(hb:g.2.2.2=true):AT x g (ts++aZ x) 0 (ts++[g.1].map wd++[sg mO]++[x.name].map wd++[sg aS]):=
 ⟨by rw[Nz he hk,hb];simp⟩
theorem z3s(he:lq x.kind=none)(hk:Fp x.kind=some (g.1,g.2.2))(hb:g.2.2.2=false):AT x g (ts++aZ x) 0 (ts++[g.1].map wd++[sg mO]):=
 ⟨by rw[Nz he hk,hb];simp⟩
theorem Rk(h:decide ((i:Int)<mm2 false g.2.2.1 ((Ex.css x.l).length:Int))=true):i<x.l.length/\i<g.2.2.1.toNat:=by
 have h:=of_decide_eq_true h
 rw[Ex.css_eq,List.length_map]at h
 simp only[mm2]at h
 split at h<;>omega
theorem Rl(h:decide ((i:Int)<mm2 false g.2.2.1 ((Ex.css x.l).length:Int))=true)(hy:x.l[i]? = some y):WB (x.l.drop i) (g.2.2.1.toNat-i) i=(if 0<i then [sg aS]else [])++(dw y 0++WB (x.l.drop (i+1)) (g.2.2.1.toNat-(i+1)) (i+1)):=by
 obtain⟨h1,h2⟩:=Rk h
 obtain⟨h3,rfl⟩:=List.getElem?_eq_some_iff.1 hy
 rw[List.drop_eq_getElem_cons h1,Ri]
 obtain⟨m,hm⟩:∃m,g.2.2.1.toNat-i=m+1:=⟨g.2.2.1.toNat-i-1,by omega⟩
 rw[hm,show g.2.2.1.toNat-(i+1)=m by omega]
 rfl
theorem YD(hI:AT x g (ts++aZ x) i t1)(h:decide ((i:Int)<mm2 false g.2.2.1 ((Ex.css x.l).length:Int))=true)(h0:decide ((i:Int)>0)=true)(hy:x.l[i]? = some y):AT x g (ts++aZ x) (i+1) (t1++[sg aS]++dw y 0):=by
 have h1:=hI.eq
 have h0:=of_decide_eq_true h0
 rw[Rl h hy,if_pos (by omega)]at h1
 exact⟨by rw[<-h1];simp only[List.append_assoc]⟩
theorem z1p(hI:AT x g (ts++aZ x) i t1)(h:decide ((i:Int)<mm2 false g.2.2.1 ((Ex.css x.l).length:Int))=true)(h0:decide ((i:Int)>0)=false)(hy:x.l[i]? = some y):AT x g (ts++aZ x) (i+1) (t1++dw y 0):=by
 have h1:=hI.eq
 have h0:=of_decide_eq_false h0
 rw[Rl h hy,if_neg (by omega)]at h1
 exact⟨by rw[<-h1];simp only[List.nil_append,List.append_assoc]⟩
theorem z3t(hn:ts.length+(aZ x).length<=1073741823)(hI:AT x g (ts++aZ x) i t1)(h:decide ((i:Int)<mm2 false g.2.2.1 ((Ex.css x.l).length:Int))=true)(h0:decide ((i:Int)>0)=true):t1.length+[sg aS].length<=1073741823:=by
 obtain⟨h2,-⟩:=Rk h
 have h1:=congrArg List.length (YD hI h h0 (List.getElem?_eq_getElem h2)).eq
 simp only[List.length_append]at h1 ⊢;omega
theorem z3u(hn:ts.length+(aZ x).length<=1073741823)(hI:AT x g (ts++aZ x) i t1)(h:decide ((i:Int)<mm2 false g.2.2.1 ((Ex.css x.l).length:Int))=true)(h0:decide ((i:Int)>0)=true)(hy:x.l[i]? = some y):(t1++[sg aS]).length+(dw y 0).length<=1073741823:=by
 have h1:=congrArg List.length (YD hI h h0 hy).eq
 simp only[List.length_append]at h1 ⊢;omega
theorem z3v(hn:ts.length+(aZ x).length<=1073741823)(hI:AT x g (ts++aZ x) i t1)(h:decide ((i:Int)<mm2 false g.2.2.1 ((Ex.css x.l).length:Int))=true)(h0:decide ((i:Int)>0)=false)(hy:x.l[i]? = some y):t1.length+(dw y 0).length<=1073741823:=by
 have h1:=congrArg List.length (z1p hI h h0 hy).eq
 simp only[List.length_append]at h1 ⊢;omega
theorem z3w(hI:AT x g (ts++aZ x) i t1)(h:decide ((i:Int)<mm2 false g.2.2.1 ((Ex.css x.l).length:Int))=false):t1++[sg tN]=ts++aZ x:=by
 have h1:=hI.eq
 have h:=of_decide_eq_false h
 rw[Ex.css_eq,List.length_map]at h
 have h2:WB (x.l.drop i) (g.2.2.1.toNat-i) i = []:=by
  by_cases hi:i<x.l.length
  ·have:g.2.2.1.toNat-i=0:=by
    simp only[mm2]at h
    split at h<;>omega
   rw[this]
   cases x.l.drop i<;>rfl
  ·rw[List.drop_eq_nil_of_le (by omega)];rfl
 rw[h2]at h1
 exact h1
theorem z3x(hn:ts.length+(aZ x).length<=1073741823)(hI:AT x g (ts++aZ x) i t1)(h:decide ((i:Int)<mm2 false g.2.2.1 ((Ex.css x.l).length:Int))=false):t1.length+[sg tN].length<=1073741823:=by
 have h1:=congrArg List.length (z3w hI h)
 simp only[List.length_append]at h1 ⊢;omega
theorem z1q(h:decide ((i:Int)<mm2 false g.2.2.1 ((Ex.css x.l).length:Int))=true):x.l.length-(i+1)<x.l.length-i:=by
 have:=Rk h;omega
theorem z5e(hg:g∈CY)(h:decide ((i:Int)<mm2 false g.2.2.1 ((Ex.css x.l).length:Int))=true):i<=9223372036854775806:=by
 have:=Rk h;have:=z3m hg;omega
theorem z3y(hn:ts.length+(aZ x).length<=1073741823)(he:lq x.kind=none)(hk:Fp x.kind=none)(h:(x.kind==1)=true):ts.length+(jh x.n).length<=1073741823:=by rw[FN he hk h]at hn;exact hn
theorem z3z(hn:ts.length+(aZ x).length<=1073741823)(he:lq x.kind=none)(hk:Fp x.kind=none)(h:(x.kind==1)=false):ts.length+[x.name].length<=1073741823:=by rw[A7 he hk h]at hn;exact hn
theorem z4a(he:lq x.kind=none)(hk:Fp x.kind=none)(h:(x.kind==1)=true):List.map Tk.cs (ts++jh x.n)=List.map Tk.cs (ts++aZ x):=by rw[FN he hk h]
theorem z4b(he:lq x.kind=none)(hk:Fp x.kind=none)(h:(x.kind==1)=false):List.map Tk.cs (ts++[x.name].map wd)=List.map Tk.cs (ts++aZ x):=by rw[A7 he hk h];rfl
end
theorem z5f(k:Int):decide (level k<0)=false:=by
 have:dw (.mk k [] 0 0 []) 0=aZ (.mk k [] 0 0 []):=Ri _
 apply decide_eq_false
 unfold level
 split
 ·decide
 ·split
  ·decide
  ·split<;>decide
abbrev R5(p:Pr):List Tk:=[sg xk]
abbrev R4(p:Pr):List Tk:=p.stmts.flatMap jv++[sg xk]
abbrev R3(p:Pr):List Tk:=p.tables.flatMap tbT++(p.stmts.flatMap jv++[sg xk])
abbrev R2(p:Pr):List Tk:=p.lines.flatMap lnT++(p.tables.flatMap tbT++(p.stmts.flatMap jv++[sg xk]))
abbrev R1(p:Pr):List Tk:=p.states.flatMap (bdT qj)++(p.lines.flatMap lnT++(p.tables.flatMap tbT++(p.stmts.flatMap jv++[sg xk])))
abbrev R0(p:Pr):List Tk:=p.params.flatMap (bdT tK)++(p.states.flatMap (bdT qj)++(p.lines.flatMap lnT++(p.tables.flatMap tbT++(p.stmts.flatMap jv++[sg xk]))))
structure CI(rest R t:List Tk):Prop where
 eq:t++rest=R
variable {a b R t : List Tk}
theorem CI.len{n:Nat}(h:CI (a++b) R t)(hR:R.length<=n):t.length+a.length<=n:=by
 have:=congrArg List.length h.eq
 simp only[List.length_append]at this;omega
theorem CI.go(h:CI (a++b) R t):CI b R (t++a):=⟨by rw[<-h.eq];simp⟩
theorem CI.to(h:CI a R t)(e:a=b):CI b R t:=e ▸ h
section
variable {p : Pr} {ts : List Tk}
theorem pR(hn:ts.length+(iM p).length<=1073741823):(ts++iM p).length<=1073741823:=by simpa using hn
theorem pc1:CI ([wProcessor,p.name,cO].map wd++(jh p.latency++([wTail].map wd++((if p.tail == -1 then [wd dR]else jh p.tail)++([sg sBra]++R0 p))))) (ts++iM p) ts:=⟨by simp[iM]⟩
theorem pc2:CI ((if p.tail == -1 then [wd dR]else jh p.tail)++([sg sBra]++R0 p)) (ts++iM p) (ts++[wProcessor,p.name,cO].map wd++jh p.latency++[wTail].map wd):=pc1.go.go.go
theorem pc3(h:(p.tail == -1)=true):CI ([dR].map wd++([sg sBra]++R0 p)) (ts++iM p) (ts++[wProcessor,p.name,cO].map wd++jh p.latency++[wTail].map wd):=by
 have:=pc2 (p:=p) (ts:=ts);rw[if_pos h]at this;exact this
theorem pc4(h:(p.tail == -1)=false):CI (jh p.tail++([sg sBra]++R0 p)) (ts++iM p) (ts++[wProcessor,p.name,cO].map wd++jh p.latency++[wTail].map wd):=by
 have:=pc2 (p:=p) (ts:=ts);rw[if_neg (by simp[h])]at this;exact this
end
section
variable {R t : List Tk}
theorem NC{w:Str}{b:Bd}{r:List Bd}{X:List Tk}(h:CI ((b::r).flatMap (bdT w)++X) R t):CI ([w,b.name].map wd++(fM b.lo b.hi++(r.flatMap (bdT w)++X))) R t:=h.to (by simp[bdT])
theorem Vh{b:Ln}{r:List Ln}{X:List Tk}(h:CI ((b::r).flatMap lnT++X) R t):CI ([Fh,b.name].map wd++(jh b.size++(fM b.lo b.hi++(r.flatMap lnT++X)))) R t:=h.to (by simp[lnT])
theorem YE{b:Tb}{r:List Tb}{X:List Tk}(h:CI ((b::r).flatMap tbT++X) R t):CI ([ww,b.name].map wd++([sg sEq]++(yZ 0 b.values++([sg dS]++(r.flatMap tbT++X))))) R t:=h.to (by simp[tbT])
theorem z1r{b:Sm}{r:List Sm}{X:List Tk}(h:CI ((b::r).flatMap jv++X) R t):CI (jv b++(r.flatMap jv++X)) R t:=h.to (by simp)
theorem A8{α:Type}{f:α->List Tk}{X:List Tk}(h:CI (([]:List α).flatMap f++X) R t):CI X R t:=h.to (by simp)
theorem YF{i:Nat}{v:Int}{r:List Int}{X:List Tk}(h:CI (yZ i (v::r)++X) R t)(h0:decide ((i:Int)>0)=true):CI ([sg aS]++(jh v++(yZ (i+1) r++X))) R t:=h.to (by
 have h0:=of_decide_eq_true h0
 rw[yZ,if_pos (by omega)];simp)
theorem z1s{i:Nat}{v:Int}{r:List Int}{X:List Tk}(h:CI (yZ i (v::r)++X) R t)(h0:decide ((i:Int)>0)=false):CI (jh v++(yZ (i+1) r++X)) R t:=h.to (by
 have h0:=of_decide_eq_false h0
 rw[yZ,if_neg (by omega)];simp)
theorem z1t{i:Nat}{X:List Tk}(h:CI (yZ i []++X) R t):CI X R t:=h
end
theorem z5g{k:Int}{fa fb fc:D}{F:D->Prop}{G:Prop}(h1:(k==1)=true->F fa)(h2:(k==1)=false->(k==2)=true->F fb)(h3:(k==1)=false->(k==2)=false->(k==3)=true->F fc)(h5:(k==1)=false->(k==2)=false->(k==3)=false->G) :
  Gy (DV (.i k) [(.i 1,fa),(.i 2,fb),(.i 3,fc)]) F G:=by
 simp only[DV,gu,sameS]
 cases ha:k==1 with
 |true=>exact h1 ha
 |false=>
  cases hb:k==2 with
  |true=>exact h2 ha hb
  |false=>
   cases hc:k==3 with
   |true=>exact h3 ha hb hc
   |false=>exact h5 ha hb hc
section
variable {s : Sm} {ts : List Tk}
theorem sc1(h:(s.kind==1)=true):CI ([XZ,s.name].map wd++([sg sEq]++(dw s.x 0++([sg dS]++[])))) (ts++jv s) ts:=⟨by simp only[jv,h,if_true];simp⟩
theorem sc2(h1:(s.kind==1)=false)(h:(s.kind==2)=true):CI ([X0,s.name].map wd++([sg sEq]++(dw s.x 0++([sg dS]++[])))) (ts++jv s) ts:=⟨by simp only[jv,h1,h,if_true,Bool.false_eq_true,if_false];simp⟩
theorem sc3(h1:(s.kind==1)=false)(h2:(s.kind==2)=false)(h:(s.kind==3)=true):CI ([Ij,s.name].map wd++([sg sEq]++(dw s.x 0++([sg dS]++[])))) (ts++jv s) ts:=⟨by simp only[jv,h1,h2,h,if_true,Bool.false_eq_true,if_false];simp⟩
theorem sc4(h1:(s.kind==1)=false)(h2:(s.kind==2)=false)(h:(s.kind==3)=false):CI ([X3].map wd++(dw s.x 0++([sg dS]++[]))) (ts++jv s) ts:=⟨by simp only[jv,h1,h2,h,Bool.false_eq_true,if_false];simp⟩
theorem sR(hn:ts.length+(jv s).length<=1073741823):(ts++jv s).length<=1073741823:=by simpa using hn
theorem bc1{lo hi:Int}:CI ([Ns].map wd++(jh lo++([wTo].map wd++(jh hi++([sg dS]++[]))))) (ts++fM lo hi) ts:=⟨by simp[fM]⟩
theorem bR{lo hi:Int}(hn:ts.length+(fM lo hi).length<=1073741823):(ts++fM lo hi).length<=1073741823:=by simpa using hn
theorem Ba{R t a:List Tk}(h:CI (a++[]) R t):List.map Tk.cs (t++a)=List.map Tk.cs R:=by rw[<-h.eq];simp
end
end Go.Fw.Sy
namespace Go.Fw.Sy
open Go.Fw Go.Fw.Ref15
variable [ae]
theorem nY(a b:Bool):(bif a then true else b)=(a || b):=by cases a<;>rfl
def lenE{α:Type}(f:α×α->Bool)(l m:List α):Bool:=!((l.length:Int) != (m.length:Int))&&(l.zip m).all f
def YG(v:Int×Int):Bool:=!(v.1 != v.2)
def Dp(l m:List Int):Bool:=lenE YG l m
def exE(q:Ex×Ex):Bool:=dQ q.1 q.2
def z1u(l m:List Ex):Bool:=lenE exE l m
def tbE(q:Tb×Tb):Bool:=q.1.name==q.2.name&&Dp q.1.values q.2.values
def smE(q:Sm×Sm):Bool:=((q.1.kind==q.2.kind&&q.1.name==q.2.name)&&q.1.index==q.2.index)&&dQ q.1.x q.2.x
def FO(a b:Pr):Bool:=(a.name==b.name&&a.latency==b.latency)&&a.tail==b.tail
def fO(a b:Pr):Bool:=((((FO a b&&dX a.params b.params)&&dX a.states b.states)&&lenE jS a.lines b.lines)&&lenE tbE a.tables b.tables)&&lenE smE a.stmts b.stmts
theorem Dq(a b:Ex):(a.kind==b.kind&&a.name==b.name&&a.index==b.index&&a.n==b.n&&z1u a.l b.l)=dQ a b:=by
 rw[lU,z1u,lenE]
 by_cases hl:a.l.length=b.l.length
 ·rw[sU hl]
  have e:((a.l.length:Int) != (b.l.length:Int))=false:=by simp[hl]
  rw[e]
  by_cases h1:a.kind=b.kind<;>by_cases h2:a.name=b.name<;>by_cases h3:a.index=b.index<;>by_cases h4:a.n=b.n<;>simp[h1,h2,h3,h4]<;>rfl
 ·have e:((a.l.length:Int) != (b.l.length:Int))=true:=by simp;omega
  rw[e];simp
theorem Vj(l m:List Bd):dX l m=lenE vZ l m:=rfl
theorem Rn{α:Type}{f:α×α->Bool}(h:∀x y,f (x,y)=true↔x=y):∀l m:List α,l.length=m.length->((l.zip m).all f=true↔l=m)
 | [],[],_=>by simp
 |x::r,y::s,hl=>by
  have:=Rn h r s (by simpa using hl)
  simp only[List.zip_cons_cons,List.all_cons,Bool.and_eq_true,h x y,this,List.cons.injEq]
 | [],_::_,hl=>by simp at hl
 |_::_,[],hl=>by simp at hl
theorem oO{α:Type}{f:α×α->Bool}(h:∀x y,f (x,y)=true↔x=y)(l m:List α):lenE f l m=true↔l=m:=by
 unfold lenE
 by_cases hl:l.length=m.length
 ·have e:(!((l.length:Int) != (m.length:Int)))=true:=by simp[hl]
  rw[e,Bool.true_and]
  exact Rn h l m hl
 ·have e:(!((l.length:Int) != (m.length:Int)))=false:=by simp;omega
  rw[e,Bool.false_and]
  constructor
  ·intro h;cases h
  ·intro h;exact absurd (congrArg List.length h) hl
theorem Vk(x y:Int):YG (x,y)=true↔x=y:=by simp[YG]
theorem YH(x y:Bd):vZ (x,y)=true↔x=y:=by
 obtain⟨a,b,c⟩:=x
 obtain⟨d,e,f⟩:=y
 simp[vZ,Go.Fw.sameL,Go.Fw.sameS]
theorem YI(x y:Ln):jS (x,y)=true↔x=y:=by
 obtain⟨a,b,c,d⟩:=x
 obtain⟨e,f,g,h⟩:=y
 simp[jS,Go.Fw.sameL,Go.Fw.sameS]
theorem YJ(x y:Tb):tbE (x,y)=true↔x=y:=by
 obtain⟨a,b⟩:=x
 obtain⟨c,d⟩:=y
 simp only[tbE,Dp,Bool.and_eq_true,beq_iff_eq,oO Vk,Tb.mk.injEq]
theorem YK:∀x y:Ex,dQ x y=true↔x=y:=by
 refine Ex.ind λx ih y=>?_
 obtain⟨k,n,i,m,l⟩:=x
 obtain⟨k',n',i',m',l'⟩:=y
 have ih:∀z∈l,∀y,dQ z y=true↔z=y:=ih
 rw[lU]
 have key:∀l l':List Ex,l.length=l'.length->(∀z∈l,∀y,dQ z y=true↔z=y)->((l.zip l').all (λq=>dQ q.1 q.2)=true↔l=l'):=by
  intro l
  induction l with
  |nil=>intro l' hl _;cases l' with
   |nil=>simp
   |cons _ _=>simp at hl
  |cons x r ir=>
   intro l' hl hz
   cases l' with
   |nil=>simp at hl
   |cons y s=>
    have:=ir s (by simpa using hl) (λz hz'=>hz z (by simp[hz']))
    simp only[List.zip_cons_cons,List.all_cons,Bool.and_eq_true,hz x (by simp) y,this,List.cons.injEq]
 show(if(k != k' || n != n' || i != i' || m != m' || (l.length:Int) != (l'.length:Int))=true then false else Ref15.sameL l l')=true↔_
 by_cases hl:l.length=l'.length
 ·have:=key l l' hl ih
  rw[sU hl]
  rw[Ex.mk.injEq,<-this]
  by_cases h1:k=k'<;>by_cases h2:n=n'<;>by_cases h3:i=i'<;>by_cases h4:m=m'<;>simp[h1,h2,h3,h4,hl]
 ·have e:((l.length:Int) != (l'.length:Int))=true:=by simp;omega
  rw[e,Bool.or_true,if_pos rfl]
  constructor
  ·intro h;cases h
  ·intro h
   injection h with _ _ _ _ h
   exact absurd (congrArg List.length h) hl
theorem YL(x y:Sm):smE (x,y)=true↔x=y:=by
 obtain⟨a,b,c,d⟩:=x
 obtain⟨e,f,g,h⟩:=y
 simp only[smE,Bool.and_eq_true,beq_iff_eq,YK,Sm.mk.injEq,and_assoc]
def wz(a b:Pr):Bool:=bif (bif (bif (bif a.name != b.name then true else a.latency != b.latency)then true else a.tail != b.tail)then true else !(dX a.params b.params))then true else !(dX a.states b.states)
def zi(a b:Pr):Bool:=bif (bif ((a.lines.map Ln.cs).length:Int) != ((b.lines.map Ln.cs).length:Int)then true else((a.tables.map Tb.cs).length:Int) != ((b.tables.map Tb.cs).length:Int))then true else((a.stmts.map Sm.cs).length:Int) != ((b.stmts.map Sm.cs).length:Int)
theorem YM{a b:Pr}(h:wz a b=true):fO a b=false:=by
 simp only[wz,nY,Bool.or_eq_true,bne_iff_ne,Bool.not_eq_true']at h
 simp only[fO,FO]
 rcases h with(((h |h) |h) |h) |h<;>simp[h]
theorem YN{a b:Pr}(h:zi a b=true):fO a b=false:=by
 simp only[zi,nY,Bool.or_eq_true,List.length_map]at h
 simp only[fO,lenE]
 rcases h with(h |h) |h<;>simp[h]
theorem Ro{a b:Pr}(h1:wz a b=false)(h2:zi a b=false):fO a b=((a.lines.zip b.lines).all jS&&((a.tables.zip b.tables).all tbE&&(a.stmts.zip b.stmts).all smE))/\a.lines.length=b.lines.length/\a.tables.length=b.tables.length/\a.stmts.length=b.stmts.length:=by
 simp only[wz,nY,Bool.or_eq_false_iff,bne_eq_false_iff_eq,Bool.not_eq_false']at h1
 simp only[zi,nY,Bool.or_eq_false_iff,bne_eq_false_iff_eq,List.length_map]at h2
 obtain⟨⟨⟨⟨e1,e2⟩,e3⟩,e4⟩,e5⟩:=h1
 obtain⟨⟨e6,e7⟩,e8⟩:=h2
 refine⟨?_,by omega,by omega,by omega⟩
 simp only[fO,FO,lenE,e1,e2,e3,e4,e5,e6,e7,e8,bne_self_eq_false,Bool.not_false,Bool.true_and,beq_self_eq_true,Bool.and_assoc]
theorem KE(q:Sm×Sm):(bif (bif (bif q.1.kind != q.2.kind then true else q.1.name != q.2.name)then true else q.1.index != q.2.index)then true else !(dQ q.1.x q.2.x)) = !smE q:=by
 simp only[smE,nY,bne,Bool.not_and]
theorem KF(q:Tb×Tb):(bif q.1.name != q.2.name then true else !(Dp q.1.values q.2.values)) = !tbE q:=by
 simp only[tbE,nY,bne,Bool.not_and]
theorem z4c{q:Ln×Ln}(h:(!(Go.Fw.sameL q.1.cs q.2.cs))=true):jS q=false:=by
 show Go.Fw.sameL q.1.cs q.2.cs=false
 cases hq:Go.Fw.sameL q.1.cs q.2.cs with
 |false=>rfl
 |true=>rw[hq]at h;cases h
theorem z1v{q:Ln×Ln}(h:(!(Go.Fw.sameL q.1.cs q.2.cs))=false):jS q=true:=by
 show Go.Fw.sameL q.1.cs q.2.cs=true
 cases hq:Go.Fw.sameL q.1.cs q.2.cs with
 |true=>rfl
 |false=>rw[hq]at h;cases h
theorem Rq{α:Type}{f:α->Bool}{x:α}{r:List α}{b:Bool}(h:b=(x::r).all f)(hx:f x=false):b=false:=by rw[h,List.all_cons,hx];rfl
theorem Iz{α:Type}{f:α->Bool}{x:α}{r:List α}{b:Bool}(h:b=(x::r).all f)(hx:f x=true):b=r.all f:=by rw[h,List.all_cons,hx];rfl
theorem ND(a b:Pr):fO a b=true↔a=b:=by
 obtain⟨a1,a2,a3,a4,a5,a6,a7,a8⟩:=a
 obtain⟨b1,b2,b3,b4,b5,b6,b7,b8⟩:=b
 simp only[fO,FO,Vj,Bool.and_eq_true,beq_iff_eq,oO YH,oO YI,oO YJ,oO YL,Pr.mk.injEq,and_assoc]
end Go.Fw.Sy
namespace Go.Fw.Sy
open Go.Fw Go.Fw.Ref15
variable [ae] {k : Int}
def zQ(k:Int):Int:=if k==3 || k==4 || k==5 then 2 else k
theorem Vl(x:Ex):zM x=⟨zQ x.kind,x.name,0,x.n,x.l.map zM⟩:=by
 cases x;rw[zM,UY];rfl
theorem YO(h:(k==3)=true):zQ k=2:=by rw[zQ,h];rfl
theorem YP(h:(k==4)=true):zQ k=2:=by rw[zQ,h,Bool.or_true];rfl
theorem YQ(h:(k==5)=true):zQ k=2:=by rw[zQ,h,Bool.or_true];rfl
theorem YR(h1:(k==3)=false)(h2:(k==4)=false)(h3:(k==5)=false):zQ k=k:=by rw[zQ,h1,h2,h3];rfl
abbrev prs(l:List Pr):D:=.sl 8 (l.map Pr.cs)
end Go.Fw.Sy
namespace Go.Fw.Sy
open Go.Fw Go.Fw.Ref15
variable [ae]
structure BI(p:Pr)(dn rs r0:List Sm)(i0:Nat):Prop where
 r:rs=r0
 n:dn.length=i0
 l:dn++rs=p.stmts
variable {dn rs r0 : List Sm} {i0 : Nat} {p : Pr} {x0 : Sm}
abbrev smb(s:Sm):List D:=(UZ s).cs
theorem WQ(h:BI p dn rs (x0::r0) i0):(dn.map smb++rs.map Sm.cs)[0+(i0:Int).toNat]? = some x0.cs:=by
 obtain⟨rfl,rfl,_⟩:=h
 simp
theorem YS(h:BI p dn rs (x0::r0) i0){y:List D}:((dn.map smb++rs.map Sm.cs).set (0+(i0:Int).toNat) y)[0+(i0:Int).toNat]? = some y:=by
 obtain⟨rfl,rfl,_⟩:=h
 simp
theorem z1w(h:BI p dn rs (x0::r0) i0){y z:List D}(hz:z=smb x0):((dn.map smb++rs.map Sm.cs).set (0+(i0:Int).toNat) y).set (0+(i0:Int).toNat) z=(dn++[x0]).map smb++r0.map Sm.cs:=by
 obtain⟨rfl,rfl,_⟩:=h
 subst hz
 simp
theorem WR{dn rs:List Sm}(h:BI p dn rs [] i0):0+p.stmts.length<=(dn.map smb++rs.map Sm.cs).length/\(p.stmts.map UZ).map Sm.cs=((dn.map smb++rs.map Sm.cs).drop 0).take (0+p.stmts.length):=by
 obtain⟨rfl,rfl,h⟩:=h
 rw[List.append_nil]at h
 subst h
 simp only[List.map_nil,List.append_nil,List.drop_zero,Nat.zero_add,List.length_map,List.map_map]
 exact⟨Nat.le_refl _,(List.take_of_length_le (by simp)).symm⟩
theorem YT(h:BI p dn rs (x0::r0) i0):BI p (dn++[x0]) r0 r0 (i0+1):=by
 obtain⟨rfl,rfl,h⟩:=h
 exact⟨rfl,by simp,by simpa using h⟩
theorem z4d{l:List Sm}{i:Nat}(h:i<l.length):(i:Int)<((l.length:Nat):Int):=Int.ofNat_lt.2 h
theorem Vm{T:Tbl}{rs:List ResultVar}{K0 K K1:Heap}{out:fP}{env:Env}(env':Env)(K':Heap)(h1:pI env K env' K')(h2:Go.Fw.finR T rs K0 out K1 env' K'):Go.Fw.finR T rs K0 out K1 env K\/∃env' K',W9 env K env' K'/\Go.Fw.finR T rs K0 out K1 env' K':=.inr ⟨env',K',by rw[<-jK];exact h1,h2⟩
theorem YU{τ:List (Nat×Nat)}{i j v s n m:Nat}(h:i=rn τ j)(h2:n=m):AV.own i v s 0 n=AV.ren τ (AV.own j v s 0 m):=by
 subst h h2;simp only[AV.ren]
theorem Vo{v s:Nat}{k' l m:List (List D)}(h:l=m):Block.arr v s (List.take 0 k'++l)=Block.arr v s m:=by
 subst h;simp
end Go.Fw.Sy
namespace Go.Fw.Sy
open Go.Fw Go.Fw.Lx
variable [ae]
def allT(l:List Pr):List Tk:=l.flatMap iM
def Vp(l m:List Pr):Bool:=lenE (λq=>fO q.1 (Fq q.2)) l m
def textS(w:List Tk):Str:=Lib.join (w.map word) [32]
def Bc:D:=.tuple [.str [],.i 140]
def FP(l:List Pr):D:=
 if(allT l).all valid then(match(bQ (allT l)).1 with
  |none=>Bc
  |some ps=>if Vp ps l then .tuple [.str (textS (allT l)),.i 0]else Bc)
 else Bc
def gY(s:Str):D:=if decide ((s.length:Int)>65536)then .tuple [.sl 8 [],.i 0,.i 2]else match eX pStep s 0 with
 | .error a=>.tuple [.sl 8 [],.i (a:Nat),.i 30]
 | .ok l=>readD (s.length:Int) (bQ l)
theorem Vq{l:List Tk}(h:l.all valid=false):EU l = .tuple [.str [],.i 30]:=by rw[EU,h];rfl
theorem ui{l:List Tk}(h:l.all valid=true):EU l = .tuple [.str (textS l),.i 0]:=by rw[EU,h];rfl
theorem oP{e:Int}{r:Option (List Pr)×List Tk}{ps:List Pr}(h:r.1=some ps):readD e r = .tuple [.sl 8 (ps.map Pr.cs),.i 0,.i 0]:=by
 obtain⟨o,l⟩:=r;subst h;rfl
theorem vJ{e:Int}{r:Option (List Pr)×List Tk}(h:r.1=none):readD e r = .tuple [.sl 8 [],.i (at' e r.2),.i 140]:=by
 obtain⟨o,l⟩:=r;subst h;rfl
structure WrI(l r:List Pr)(ts:List Tk):Prop where
 e:allT l=ts++allT r
variable {ts : List Tk}
theorem KG{l r:List Pr}{p:Pr}(h:WrI l (p::r) ts)(hn:(allT l).length<=1073741823):ts.length+(iM p).length<=1073741823:=by
 have:=congrArg List.length h.e
 simp only[allT,List.flatMap_cons,List.length_append]at this hn
 omega
theorem Dt{l r:List Pr}{p:Pr}(h:WrI l (p::r) ts):WrI l r (ts++iM p):=⟨by rw[h.e];simp[allT]⟩
theorem xq(l:List Pr):WrI l l []:=⟨rfl⟩
theorem KH{l:List Pr}(h:WrI l [] ts):ts=allT l:=by rw[h.e];simp[allT]
theorem FQ{s:Str}{l:List Tk}(h:eX pStep s 0 = .ok l):l.length<=s.length/\l.all valid=true:=by
 rw[kT]at h
 have:=nX _ s 0 l (Nat.le_refl _) h
 exact⟨this.2.2,this.1⟩
theorem WS{s:Str}(hs:s.length<=1073741823):∀l,eX pStep s 0 = .ok l->l.length<=1073741823:=λ_ h=>Nat.le_trans (FQ h).1 hs
abbrev Rt(n:Int):Ex:=.mk 1 [] 0 n []
abbrev Be(s:Str):Ex:=.mk 2 s 0 0 []
def z1x:Str:=[112,114,111,99,101,115,115,111,114,32,105,110]
def Ru:Str:=[112,114,111,99,101,115,115,111,114,32,112,32,108,97,116,101,110,99,121,32,48,32,116,97,105,108,32,102,111,114,101,118,101,114,32,123,32,111,117,116,32,49,32,47,32,48,32,59,32,125]
def z1y:Str:=[112,114,111,99,101,115,115,111,114,32,112,32,108,97,116,101,110,99,121,32,48,32,116,97,105,108,32,51,32,123,32,111,117,116,32,97,32,45,32,49,32,45,32,50,32,59,32,125]
def z1z:Str:=[112,114,111,99,101,115,115,111,114,32,112,32,108,97,116,101,110,99,121,32,48,32,116,97,105,108,32,51,32,123,32,111,117,116,32,40,32,97,32,45,32,98,32,41,32,42,32,45,32,50,32,59,32,125]
abbrev KI:Pr:=⟨[112],0,3,[],[],[],[],[⟨4,[],0,ex2 16 (ex2 16 (Be [97]) (Rt 1)) (Rt 2)⟩]⟩
abbrev Rw:Pr:=⟨[112],0,3,[],[],[],[],[⟨4,[],0,ex2 17 (ex2 16 (Be [97]) (Be [98])) (ex1 14 (Rt 2))⟩]⟩
abbrev KJ:Pr:=⟨[],0,0,[],[],[],[],[]⟩
theorem IA(l m:List Pr):lenE (λq=>fO q.1 q.2) l m=true↔l=m:=oO (λx y=>ND x y) l m
theorem wB(l:List Pr):lenE (λq=>fO q.1 q.2) l l=true:=(IA l l).2 rfl
theorem YV:gY [] = .tuple [.sl 8 [],.i 0,.i 0]:=by kernel_rfl
theorem at_in:gY z1x = .tuple [.sl 8 [],.i 10,.i 140]:=by kernel_rfl
theorem YW:gY Ru = .tuple [.sl 8 [],.i 45,.i 140]:=by kernel_rfl
theorem z4e:gY z1y = .tuple [prs [KI],.i 0,.i 0]:=by kernel_rfl
theorem YX:FP [Rw] = .tuple [.str z1z,.i 0]:=by kernel_rfl
theorem z4f(k:Int)(x y:Ex):D.agg [.i k,.str [],.i 0,.i 0,.sl 5 [x.cs,y.cs]]=(ex2 k x y).d:=by
 show _=D.agg [.i k,.str [],.i 0,.i 0,.sl 5 (Ex.css [x,y])]
 rw[Ex.css_cons,Ex.css_cons];rfl
theorem Rx:FP [KJ] = .tuple [.str [],.i 140]:=by kernel_rfl
end Go.Fw.Sy
