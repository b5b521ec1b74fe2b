/- Package syntax, as plain functions: its parser. -/
import Derived.Test.YtmfehangcmbidaaGreatDoorZDL
set_option linter.unusedSectionVars false
set_option linter.unusedSimpArgs false
set_option linter.unusedVariables false
namespace Go.Fw.Sy
open Go.Fw.Lx (Tk)
abbrev Str:=List UInt8
abbrev wProcessor:Str:=[112,114,111,99,101,115,115,111,114]
abbrev dP:Str:=[108,97,116,101,110,99,121]
abbrev wTail:Str:=[116,97,105,108]
abbrev fC:Str:=[102,111,114,101,118,101,114]
abbrev rP:Str:=[112,97,114,97,109]
abbrev pU:Str:=[115,116,97,116,101]
abbrev G6:Str:=[108,105,110,101]
abbrev xW:Str:=[116,97,98,108,101]
abbrev O1:Str:=[102,114,111,109]
abbrev wTo:Str:=[116,111]
abbrev Zx:Str:=[108,101,116]
abbrev Zy:Str:=[115,101,116]
abbrev JF:Str:=[112,117,115,104]
abbrev Zz:Str:=[111,117,116]
abbrev wIf:Str:=[105,102]
abbrev lq:Str:=[116,104,101,110]
abbrev lu:Str:=[101,108,115,101]
abbrev wIn:Str:=[105,110]
abbrev z3j:Str:=[115,105,100,101]
abbrev z9c:Str:=[116,97,112]
abbrev z3k:Str:=[108,111,111,107]
abbrev z9d:Str:=[115,97,116]
abbrev z9e:Str:=[109,105,110]
abbrev z9f:Str:=[109,97,120]
abbrev z9g:Str:=[97,98,115]
abbrev nN:Str:=[40]
abbrev uj:Str:=[41]
abbrev aU:Str:=[44]
abbrev eu:Str:=[59]
abbrev sEq:Str:=[61]
abbrev sLt:Str:=[60]
abbrev oG:Str:=[43]
abbrev fA:Str:=[45]
abbrev mO:Str:=[42]
abbrev kT:Str:=[47]
abbrev sBra:Str:=[123]
abbrev C9:Str:=[125]
def words:List Str:=[wProcessor,dP,wTail,fC,rP,pU,G6,xW,O1,wTo,Zx,Zy,JF,Zz,wIf,lq,lu,wIn,z3j,z9c,z3k,z9d,z9e,z9f,z9g]
def hd:List Tk->Tk
 | []=>⟨0,[],0,0⟩
 |t::_=>t
def isT(s:Str)(l:List Tk):Bool:=(!l.isEmpty&&(hd l).kind != 2)&&(hd l).text==s
def IQ(l:List Tk):Bool:=(!l.isEmpty&&(hd l).kind==1) && !words.contains (hd l).text
def fZ(l:List Tk):Bool:=(!l.isEmpty&&(hd l).kind==2)&&decide ((hd l).n<=2147483648)
abbrev PM(α:Type):=List Tk->Option α×List Tk
def bnd{α β:Type}(r:Option α×List Tk)(f:α->PM β):Option β×List Tk:=match r with
 |(none,l)=>(none,l)
 |(some x,l)=>f x l
def aN(s:Str):PM Unit:=λl=>if isT s l then(some (),l.drop 1)else(none,l)
def kU:PM Str:=λl=>if IQ l then(some (hd l).text,l.drop 1)else(none,l)
def tK:PM Int:=λl=>if fZ l then(some (hd l).n,l.drop 1)else(none,l)
def IR:PM Int:=λl=>if isT fA l then bnd (tK (l.drop 1)) λn r=>(some (IntKind.i64.wrap (0-n)),r)else tK l
abbrev ex1(k:Int)(x:Ex):Ex:=.mk k [] 0 0 [x]
abbrev ex2(k:Int)(x y:Ex):Ex:=.mk k [] 0 0 [x,y]
def prodL(u:PM Ex):Nat->Ex->PM Ex
 | 0,x=>λl=>(some x,l)
 |n+1,x=>λl=>
  if isT mO l then bnd (u (l.drop 1)) λy=>prodL u n (ex2 17 x y)
  else if isT kT l then
   (if fZ (l.drop 1)&&(hd (l.drop 1)).n==0 then(none,l.drop 1)else bnd (tK (l.drop 1)) λk=>prodL u n (.mk 18 [] 0 k [x]))
  else(some x,l)
def lC(u:PM Ex):PM Ex:=λl=>bnd (u l) λx r=>prodL u r.length x r
def sumL(u:PM Ex):Nat->Ex->PM Ex
 | 0,x=>λl=>(some x,l)
 |n+1,x=>λl=>
  if isT oG l then bnd (lC u (l.drop 1)) λy=>sumL u n (ex2 15 x y)
  else if isT fA l then bnd (lC u (l.drop 1)) λy=>sumL u n (ex2 16 x y)
  else(some x,l)
def sumM(u:PM Ex):PM Ex:=λl=>bnd (lC u l) λx r=>sumL u r.length x r
def exprF(u:PM Ex):Nat->PM Ex
 | 0=>λl=>(none,l)
 | n+1=>λl=>if isT wIf l then
   bnd (sumM u (l.drop 1)) λa l=>bnd (aN sLt l) λ_ l=>bnd (sumM u l) λb l=>bnd (aN lq l) λ_ l=>
    bnd (exprF u n l) λc l=>bnd (aN lu l) λ_ l=>bnd (exprF u n l) λd l=>(some (.mk 19 [] 0 0 [a,b,c,d]),l)
  else sumM u l
def tN(u:PM Ex):PM Ex:=λl=>exprF u (l.length+1) l
def Dc:List (Str×Int×Int×Bool):=[(wIn,6,1,false),(z3j,7,1,false),(z9d,10,1,false),(z9g,13,1,false),(z9c,8,1,true),(z3k,9,1,true),(z9e,11,2,false),(z9f,12,2,false)]
def O3(u:PM Ex):Nat->Nat->List Ex->PM (List Ex)
 | 0,_,acc=>λl=>(some acc,l)
 |m+1,i,acc=>λl=>bnd (if 0<i then aN aU l else(some (),l)) λ_ l=>bnd (tN u l) λx l=>O3 u m (i+1) (acc++[x]) l
def oH(u:PM Ex)(k:Int)(n:Nat)(named:Bool):PM Ex:=λl=>
 bnd (aN nN l) λ_ l=>bnd (if named then bnd (kU l) λs l=>bnd (aN aU l) λ_ l=>(some s,l)else(some [],l)) λs l=>
  bnd (O3 u n 0 [] l) λxs l=>bnd (aN uj l) λ_ l=>(some (.mk k s 0 0 xs),l)
def look(s:Str):List (Str×Int×Int×Bool)->Option (Int×Int×Bool)
 | []=>none
 |(w,f)::r=>if s==w then some f else look s r
def yt(u:Option (PM Ex)):PM Ex:=λl=>
 if fZ l then(some (.mk 1 [] 0 (hd l).n []),l.drop 1)
 else if IQ l then(some (.mk 2 (hd l).text 0 0 []),l.drop 1)
 else match u with
  |none=>(none,l)
  |some u=>
   if isT fA l then bnd (u (l.drop 1)) λx l=>(some (ex1 14 x),l)
   else if isT nN l then bnd (tN u (l.drop 1)) λx l=>bnd (aN uj l) λ_ l=>(some x,l)
   else match look (hd l).text Dc with
    |some f=>if(hd l).kind==1 then oH u f.1 f.2.1.toNat f.2.2 (l.drop 1)else(none,l)
    |none=>(none,l)
def JG:Nat->PM Ex
 | 0=>yt none
 |k+1=>yt (some (JG k))
def tV:PM (Int×Int):=λl=>bnd (aN O1 l) λ_ l=>bnd (IR l) λlo l=>bnd (aN wTo l) λ_ l=>bnd (IR l) λhi l=>(some (lo,hi),l)
def Ad:PM Bd:=λl=>bnd (kU l) λs l=>bnd (tV l) λb l=>(some ⟨s,b.1,b.2⟩,l)
abbrev IM:=Pr->List Tk->Bool×Pr×List Tk
def itB{α:Type}(p:Pr)(r:Option α×List Tk)(f:α->List Tk->Bool×Pr×List Tk):Bool×Pr×List Tk:=match r with
 |(none,l)=>(false,p,l)
 |(some x,l)=>f x l
def Ae:IM:=λp l=>itB p (Ad l) λb l=>(true,{ p with params:=p.params++[b] },l)
def Af:IM:=λp l=>itB p (Ad l) λb l=>(true,{ p with states:=p.states++[b] },l)
def JH:IM:=λp l=>itB p (kU l) λs l=>itB p (tK l) λn l=>itB p (tV l) λb l=>(true,{ p with lines:=p.lines++[⟨s,n,b.1,b.2⟩] },l)
def listL:Nat->List Int->PM (List Int)
 | 0,acc=>λl=>(some acc,l)
 |n+1,acc=>λl=>if isT aU l then bnd (IR (l.drop 1)) λv l=>listL n (acc++[v]) l else(some acc,l)
def G7:PM (List Int):=λl=>bnd (IR l) λv l=>listL l.length [v] l
def Ag:IM:=λp l=>itB p (kU l) λs l=>itB p (aN sEq l) λ_ l=>itB p (G7 l) λvs l=>(true,{ p with tables:=p.tables++[⟨s,vs⟩] },l)
def mf(k:Int):IM:=λp l=>itB p (if k != 4 then bnd (kU l) λs l=>bnd (aN sEq l) λ_ l=>(some s,l)else(some [],l)) λs l=>
 itB p (tN (JG 63) l) λx l=>(true,{ p with stmts:=p.stmts++[⟨k,s,0,x⟩] },l)
def decls:List (Str×IM):=[(rP,Ae),(pU,Af),(G6,JH),(xW,Ag)]
def stmts:List (Str×IM):=[(Zx,mf 1),(Zy,mf 2),(JF,mf 3),(Zz,mf 4)]
def find(s:Str):List (Str×IM)->Option IM
 | []=>none
 |(w,f)::r=>if s==w then some f else find s r
def fV(t:List (Str×IM)):Nat->IM
 | 0=>λp l=>(true,p,l)
 |n+1=>λp l=>if l.isEmpty then(true,p,l)else match find (hd l).text t with
  |none=>(true,p,l)
  | some f=>if isT (hd l).text l then match f p (l.drop 1)with
    |(false,p,l)=>(false,p,l)
    |(true,p,l)=>itB p (aN eu l) λ_ l=>fV t n p l
   else(true,p,l)
def gy(t:List (Str×IM)):IM:=λp l=>fV t l.length p l
def kV:PM Pr:=λl=>bnd (aN wProcessor l) λ_ l=>bnd (kU l) λs l=>bnd (aN dP l) λ_ l=>bnd (tK l) λa l=>
 bnd (aN wTail l) λ_ l=>bnd (if fZ l then tK l else bnd (aN fC l) λ_ l=>(some (-1),l)) λt l=>bnd (aN sBra l) λ_ l=>
  match gy decls ⟨s,a,t,[],[],[],[],[]⟩ l with
  |(false,_,l)=>(none,l)
  |(true,p,l)=>match gy stmts p l with
   |(false,_,l)=>(none,l)
   |(true,p,l)=>bnd (aN C9 l) λ_ l=>(some p,l)
def vg:Nat->List Pr->PM (List Pr)
 | 0,ps=>λl=>(some ps,l)
 |n+1,ps=>λl=>if l.isEmpty then(some ps,l)else bnd (kV l) λp l=>vg n (ps++[p]) l
def jV(l:List Tk):Option (List Pr)×List Tk:=vg l.length [] l
def at'(e:Int):List Tk->Int
 | []=>e
 |t::_=>t.pos
abbrev wd(s:Str):Tk:=⟨1,s,0,0⟩
abbrev sg(s:Str):Tk:=⟨3,s,0,0⟩
abbrev nu(n:Int):Tk:=⟨2,[],n,0⟩
def gm(n:Int):List Tk:=if n<0 then [sg fA,nu (IntKind.i64.wrap (0-n))]else [nu n]
def level(k:Int):Int:=if k==19 then 0 else if k==15 || k==16 then 1 else if k==17 || k==18 then 2 else 3
abbrev Form:=List Str×List Int×Str
def forms:List (Int×Form):=[(19,[wIf,sLt,lq,lu],[1,1,0,0],[]),(15,[[],oG],[1,2],[]),(16,[[],fA],[1,2],[]),(17,[[],mO],[2,3],[]),(18,[[]],[2],kT),(14,[fA],[3],[])]
def G8(k:Int):List (Int×Form)->Option Form
 | []=>none
 |(w,f)::r=>if k==w then some f else G8 k r
def jJ(k:Int):Option Form:=G8 k forms
def z3l(k:Int):List (Str×Int×Int×Bool)->Option (Str×Int×Bool)
 | []=>none
 |(w,f,n,b)::r=>if f==k then some (w,n,b)else z3l k r
def Ah(k:Int):Option (Str×Int×Bool):=z3l k Dc
def kF(s:Str):List Tk:=if s==wIf || s==lq || s==lu then [wd s]else if s==[]then []else [sg s]
mutual
def aZ:Ex->List Tk
 | .mk k nm _ n l=>match jJ k with
  |some f=>opsT l f.1 f.2.1++(if f.2.2==[]then []else sg f.2.2::gm n)
  |none=>match Ah k with
   |some f=>wd f.1::sg nN::((if f.2.2 then [wd nm,sg aU]else [])++(Fv l f.2.1.toNat 0++[sg uj]))
   |none=>if k==1 then gm n else [wd nm]
def opsT:List Ex->List Str->List Int->List Tk
 | [],hs,_=>hs.flatMap kF
 |_::_,[],_=>[]
 |x::xs,h::hs,lv=>kF h++((if level x.kind<lv.headD 0 then sg nN::(aZ x++[sg uj])else aZ x)++opsT xs hs lv.tail)
def Fv:List Ex->Nat->Nat->List Tk
 | [],_,_=>[]
 |_::_,0,_=>[]
 |x::xs,m+1,i=>(if 0<i then [sg aU]else [])++(aZ x++Fv xs m (i+1))
end
def dE(x:Ex)(least:Int):List Tk:=if level x.kind<least then sg nN::(aZ x++[sg uj])else aZ x
def fD(lo hi:Int):List Tk:=wd O1::(gm lo++(wd wTo::(gm hi++[sg eu])))
def iV(s:Sm):List Tk:=(if s.kind==1 then [wd Zx,wd s.name,sg sEq]else if s.kind==2 then [wd Zy,wd s.name,sg sEq]else if s.kind==3 then [wd JF,wd s.name,sg sEq]else [wd Zz])++(dE s.x 0++[sg eu])
def xe:Nat->List Int->List Tk
 |_,[]=>[]
 |i,v::r=>(if 0<i then [sg aU]else [])++(gm v++xe (i+1) r)
def bdT(w:Str)(b:Bd):List Tk:=wd w::wd b.name::fD b.lo b.hi
def lnT(b:Ln):List Tk:=wd G6::wd b.name::(gm b.size++fD b.lo b.hi)
def tbT(t:Tb):List Tk:=wd xW::wd t.name::sg sEq::(xe 0 t.values++[sg eu])
def gW(p:Pr):List Tk:=
 wd wProcessor::wd p.name::wd dP::(gm p.latency++(wd wTail::((if p.tail == -1 then [wd fC]else gm p.tail)++(sg sBra ::
  (p.params.flatMap (bdT rP)++(p.states.flatMap (bdT pU)++(p.lines.flatMap lnT++(p.tables.flatMap tbT++(p.stmts.flatMap iV++[sg C9])))))))))
mutual
def bareX:Ex->Ex
 | .mk k nm _ n l=>.mk (if k==3 || k==4 || k==5 then 2 else k) nm 0 n (bareL l)
def bareL:List Ex->List Ex
 | []=>[]
 |x::r=>bareX x::bareL r
end
theorem bareL_eq(l:List Ex):bareL l=l.map bareX:=by
 induction l with
 |nil=>rfl
 |cons x r ih=>simp[bareL,ih]
abbrev bareS(s:Sm):Sm:={ s with index:=0,x:=bareX s.x }
abbrev bareP(p:Pr):Pr:={ p with stmts:=p.stmts.map bareS }
abbrev Sh{α:Type}(m:PM α):Prop:=∀l o r,m l=(o,r)->r.length<=l.length
def Le{α:Type}(n:Nat)(r:Option α×List Tk):Prop:=r.2.length<=n
theorem Sh.le{α:Type}{m:PM α}(h:Sh m)(l:List Tk):Le l.length (m l):=h l _ _ rfl
theorem Sh.of{α:Type}{m:PM α}(h:∀l,Le l.length (m l)):Sh m:=λl o r e=>by have:=h l;rw[e]at this;exact this
theorem Le.mono{α:Type}{n m:Nat}{r:Option α×List Tk}(h:Le n r)(hn:n<=m):Le m r:=Nat.le_trans h hn
theorem Le.bnd{α β:Type}{n:Nat}{r:Option α×List Tk}{f:α->PM β}(h:Le n r)(hf:∀x l,l.length<=n->Le n (f x l)):Le n (bnd r f):=by
 obtain⟨o,l⟩:=r
 cases o with
 |none=>exact h
 |some x=>exact hf x l h
theorem Le.drop{α:Type}{o:Option α}{l:List Tk}:Le l.length (o,l.drop 1):=by simp[Le]
theorem Le.drop'{α:Type}{o:Option α}{l:List Tk}{n:Nat}(h:l.length<=n):Le n (o,l.drop 1):=by simp[Le];omega
theorem Le.self{α:Type}{o:Option α}{l:List Tk}{n:Nat}(h:l.length<=n):Le n (o,l):=h
theorem nO{l:List Tk}{n:Nat}(h:l.length<=n):(l.drop 1).length<=n:=by simp;omega
theorem nP{s:Str}:Sh (aN s):=.of λl=>by unfold aN;split;exact .drop;exact .self (Nat.le_refl _)
theorem nR:Sh kU:=.of λl=>by unfold kU;split;exact .drop;exact .self (Nat.le_refl _)
theorem vk:Sh tK:=.of λl=>by unfold tK;split;exact .drop;exact .self (Nat.le_refl _)
theorem Ai:Sh IR:=.of λl=>by
 unfold IR;split
 ·exact(vk.le _).mono (by simp) |>.bnd λ_ _ h=>h
 ·exact vk.le _
section
variable {u : PM Ex} (hu : Sh u)
include hu
theorem Eu:∀(n:Nat) (x:Ex) (l:List Tk) (m:Nat),l.length<=m->Le m (prodL u n x l)
 | 0,_,_,_,h=>h
 |n+1,x,l,m,h=>by
  unfold prodL
  split
  ·exact((hu.le _).mono (nO h)).bnd λy r hr=>Eu n _ _ _ hr
  ·split
   ·split
    ·exact .drop' h
    ·exact((vk.le _).mono (nO h)).bnd λy r hr=>Eu n _ _ _ hr
   ·exact h
theorem Aj:Sh (lC u):=.of λl=>(hu.le l).bnd λx r hr=>Eu hu _ _ _ _ hr
theorem JI:∀(n:Nat) (x:Ex) (l:List Tk) (m:Nat),l.length<=m->Le m (sumL u n x l)
 | 0,_,_,_,h=>h
 |n+1,x,l,m,h=>by
  unfold sumL
  split
  ·exact(((Aj hu).le _).mono (nO h)).bnd λy r hr=>JI n _ _ _ hr
  ·split
   ·exact(((Aj hu).le _).mono (nO h)).bnd λy r hr=>JI n _ _ _ hr
   ·exact h
theorem X7:Sh (sumM u):=.of λl=>((Aj hu).le l).bnd λx r hr=>JI hu _ _ _ _ hr
theorem yO:∀(n:Nat) (l:List Tk) (m:Nat),l.length<=m->Le m (exprF u n l)
 | 0,_,_,h=>h
 |n+1,l,m,h=>by
  have hs:∀l:List Tk,l.length<=m->Le m (sumM u l):=λl h=>((X7 hu).le l).mono h
  have hw:∀(s:Str) (l:List Tk),l.length<=m->Le m (aN s l):=λs l h=>(nP.le l).mono h
  unfold exprF
  split
  ·exact(hs _ (nO h)).bnd λ_ _ h=>(hw _ _ h).bnd λ_ _ h=>(hs _ h).bnd λ_ _ h=>(hw _ _ h).bnd λ_ _ h=>(yO n _ _ h).bnd λ_ _ h=>(hw _ _ h).bnd λ_ _ h=>(yO n _ _ h).bnd λ_ _ h=>h
  ·exact hs _ h
theorem Wq(n:Nat):Sh (exprF u n):=.of λl=>yO hu n l _ (Nat.le_refl _)
theorem JJ:Sh (tN u):=.of λl=>yO hu _ _ _ (Nat.le_refl _)
theorem Tz:∀(n i:Nat) (a:List Ex) (l:List Tk) (m:Nat),l.length<=m->Le m (O3 u n i a l)
 | 0,_,_,_,_,h=>h
 |n+1,i,a,l,m,h=>by
  unfold O3
  refine Le.bnd ?_ λ_ _ h=>(((JJ hu).le _).mono h).bnd λ_ _ h=>Tz n _ _ _ _ h
  split
  ·exact(nP.le _).mono h
  ·exact h
theorem ZA(k:Int)(n:Nat)(b:Bool):Sh (oH u k n b):=.of λl=>by
 have hw:∀(s:Str) (l':List Tk),l'.length<=l.length->Le l.length (aN s l'):=λs l h=>(nP.le l).mono h
 refine(hw _ _ (Nat.le_refl _)).bnd λ_ _ h=>Le.bnd ?_ λ_ _ h=>(Tz hu _ _ _ _ _ h).bnd λ_ _ h=>(hw _ _ h).bnd λ_ _ h=>h
 split
 ·exact((nR.le _).mono h).bnd λ_ _ h=>(hw _ _ h).bnd λ_ _ h=>h
 ·exact h
end
theorem MC{u:Option (PM Ex)}(hu:∀v,u=some v->Sh v):Sh (yt u):=.of λl=>by
 unfold yt
 split
 ·exact .drop
 ·split
  ·exact .drop
  ·split
   ·exact Nat.le_refl _
   ·rename_i v
    have hv:=hu v rfl
    split
    ·exact((hv.le _).mono (nO (Nat.le_refl _))).bnd λ_ _ h=>h
    ·split
     ·exact(((JJ hv).le _).mono (nO (Nat.le_refl _))).bnd λ_ _ h=>((nP.le _).mono h).bnd λ_ _ h=>h
     ·split
      ·split
       ·exact((ZA hv _ _ _).le _).mono (nO (Nat.le_refl _))
       ·exact Nat.le_refl _
      ·exact Nat.le_refl _
theorem Ak:∀k,Sh (JG k)
 | 0=>MC λ_ h=>by cases h
 |k+1=>MC λ_ h=>by cases h;exact Ak k
theorem kW{s:Str}{l:List Tk}(h:isT s l=true):l ≠ []:=by rintro rfl;simp[isT]at h
theorem nS{l:List Tk}{n:Nat}(h:l ≠ [])(hn:l.length<=n):∃m,n=m+1/\(l.drop 1).length<=m:=by
 cases l with
 |nil=>exact absurd rfl h
 |cons t r=>refine⟨n-1,?_,?_⟩<;>simp at hn ⊢ <;> omega
section
variable {u : PM Ex}
theorem G9{n:Nat}{x:Ex}{l:List Tk}(hn:l.length<=n)(hT:isT mO l=true):prodL u n x l=bnd (u (l.drop 1)) λy=>prodL u (n-1) (ex2 17 x y):=by
 obtain⟨m,rfl,-⟩:=nS (kW hT) hn
 show prodL u (m+1) x l=_;rw[Nat.add_sub_cancel];conv=>{ lhs;unfold prodL };rw[if_pos hT]
theorem xg{n:Nat}{x:Ex}{l:List Tk}(hn:l.length<=n)(h0:isT mO l=false)(hT:isT kT l=true):prodL u n x l=if fZ (l.drop 1)&&(hd (l.drop 1)).n==0 then(none,l.drop 1)else bnd (tK (l.drop 1)) λk=>prodL u (n-1) (.mk 18 [] 0 k [x]):=by
 obtain⟨m,rfl,-⟩:=nS (kW hT) hn
 show prodL u (m+1) x l=_;rw[Nat.add_sub_cancel];conv=>{ lhs;unfold prodL };rw[h0,if_neg (by simp),if_pos hT]
theorem Ws{n:Nat}{x:Ex}{l:List Tk}(h0:isT mO l=false)(hT:isT kT l=false):prodL u n x l=(some x,l):=by
 cases n with
 |zero=>rfl
 |succ n=>unfold prodL;rw[h0,if_neg (by simp),hT,if_neg (by simp)]
theorem MF{n:Nat}{x:Ex}{l:List Tk}(hn:l.length<=n)(hT:isT oG l=true):sumL u n x l=bnd (lC u (l.drop 1)) λy=>sumL u (n-1) (ex2 15 x y):=by
 obtain⟨m,rfl,-⟩:=nS (kW hT) hn
 show sumL u (m+1) x l=_;rw[Nat.add_sub_cancel];conv=>{ lhs;unfold sumL };rw[if_pos hT]
theorem Ha{n:Nat}{x:Ex}{l:List Tk}(hn:l.length<=n)(h0:isT oG l=false)(hT:isT fA l=true):sumL u n x l=bnd (lC u (l.drop 1)) λy=>sumL u (n-1) (ex2 16 x y):=by
 obtain⟨m,rfl,-⟩:=nS (kW hT) hn
 show sumL u (m+1) x l=_;rw[Nat.add_sub_cancel];conv=>{ lhs;unfold sumL };rw[h0,if_neg (by simp),if_pos hT]
theorem ZB{n:Nat}{x:Ex}{l:List Tk}(h0:isT oG l=false)(hT:isT fA l=false):sumL u n x l=(some x,l):=by
 cases n with
 |zero=>rfl
 |succ n=>unfold sumL;rw[h0,if_neg (by simp),hT,if_neg (by simp)]
structure LI{α:Type}(f:Nat->α->PM Ex)(R:Option Ex×List Tk)(n:Nat)(x:α)(l:List Tk):Prop where
 eq:f n x l=R
 le:l.length<=n
theorem LI.mu{n:Nat}{l:List Tk}(hn:l.length<=n)(h:l ≠ []):n-1<n:=by
 cases l with
 |nil=>exact absurd rfl h
 |cons t r=>simp at hn;omega
theorem Am{α:Type}{m:PM α}(hm:Sh m){l r:List Tk}{n:Nat}{o:Option α}(hn:l.length<=n)(hl:l ≠ [])(h:m (l.drop 1)=(o,r)):r.length<=n-1:=by
 obtain⟨k,rfl,hk⟩:=nS hl hn
 have:=hm _ _ _ h
 omega
end
section
variable {u : PM Ex} {o : Option Ex} {l l' l1 l2 l3 : List Tk} {n : Nat} {x y : Ex} {k : Int}
theorem xh{α β:Type}{a o:α}{b l:β}(h:(a,b)=(o,l)):o=a/\l=b:=by cases h;exact⟨rfl,rfl⟩
theorem ZC(hM:lC u l=(o,l'))(h:u l=(none,l2)):o=none/\l'=l2:=by unfold lC at hM;rw[h]at hM;exact xh hM
theorem z3m(hM:lC u l=(o,l'))(h:u l=(some y,l2)):LI (prodL u) (o,l') l2.length y l2:=by unfold lC at hM;rw[h]at hM;exact⟨hM,Nat.le_refl _⟩
theorem z3n(hI:LI (prodL u) (o,l') n x l1)(h0:isT mO l1=false)(h1:isT kT l1=false):o=some x/\l'=l1:=by have h:=hI.eq;rw[Ws h0 h1]at h;exact xh h
theorem ZE(hI:LI (prodL u) (o,l') n x l1)(hT:isT mO l1=true)(h:u (l1.drop 1)=(none,l2)):o=none/\l'=l2:=by have h1:=hI.eq;rw[G9 hI.le hT,h]at h1;exact xh h1
theorem ZF(hs:Sh u)(hI:LI (prodL u) (o,l') n x l1)(hT:isT mO l1=true)(h:u (l1.drop 1)=(some y,l2)):LI (prodL u) (o,l') (n-1) (ex2 17 x y) l2:=by
 have h1:=hI.eq;rw[G9 hI.le hT,h]at h1;exact⟨h1,Am hs hI.le (kW hT) h⟩
theorem z9o{b c:Bool}(h:(bif b then c else false)=true):(b&&c)=true:=by cases b with |true=>exact h |false=>cases h
theorem num0'{b c:Bool}(h:(bif b then c else false)=false):(b&&c)=false:=by cases b with |true=>exact h |false=>rfl
theorem ZG(hI:LI (prodL u) (o,l') n x l1)(h0:isT mO l1=false)(hT:isT kT l1=true)(h:(bif fZ (l1.drop 1)then(hd (l1.drop 1)).n==0 else false)=true):o=none/\l'=l1.drop 1:=by
 have h1:=hI.eq;rw[xg hI.le h0 hT,z9o h,if_pos rfl]at h1;exact xh h1
theorem ZH(hI:LI (prodL u) (o,l') n x l1)(h0:isT mO l1=false)(hT:isT kT l1=true)(h:(bif fZ (l1.drop 1)then(hd (l1.drop 1)).n==0 else false)=false)(hk:tK (l1.drop 1)=(none,l3)):o=none/\l'=l3:=by
 have h1:=hI.eq;rw[xg hI.le h0 hT,num0' h,if_neg (by simp),hk]at h1;exact xh h1
theorem ZI(hI:LI (prodL u) (o,l') n x l1)(h0:isT mO l1=false)(hT:isT kT l1=true)(h:(bif fZ (l1.drop 1)then(hd (l1.drop 1)).n==0 else false)=false)(hk:tK (l1.drop 1)=(some k,l3)):LI (prodL u) (o,l') (n-1) (.mk 18 [] 0 k [x]) l3:=by
 have h1:=hI.eq;rw[xg hI.le h0 hT,num0' h,if_neg (by simp),hk]at h1;exact⟨h1,Am vk hI.le (kW hT) hk⟩
theorem z3o(hM:sumM u l=(o,l'))(h:lC u l=(none,l2)):o=none/\l'=l2:=by unfold sumM at hM;rw[h]at hM;exact xh hM
theorem z7c(hM:sumM u l=(o,l'))(h:lC u l=(some y,l2)):LI (sumL u) (o,l') l2.length y l2:=by unfold sumM at hM;rw[h]at hM;exact⟨hM,Nat.le_refl _⟩
theorem z7d(hI:LI (sumL u) (o,l') n x l1)(h0:isT oG l1=false)(h1:isT fA l1=false):o=some x/\l'=l1:=by have h:=hI.eq;rw[ZB h0 h1]at h;exact xh h
theorem z3p(hI:LI (sumL u) (o,l') n x l1)(hT:isT oG l1=true)(h:lC u (l1.drop 1)=(none,l2)):o=none/\l'=l2:=by have h1:=hI.eq;rw[MF hI.le hT,h]at h1;exact xh h1
theorem z3q(hs:Sh u)(hI:LI (sumL u) (o,l') n x l1)(hT:isT oG l1=true)(h:lC u (l1.drop 1)=(some y,l2)):LI (sumL u) (o,l') (n-1) (ex2 15 x y) l2:=by
 have h1:=hI.eq;rw[MF hI.le hT,h]at h1;exact⟨h1,Am (Aj hs) hI.le (kW hT) h⟩
theorem z3r(hI:LI (sumL u) (o,l') n x l1)(h0:isT oG l1=false)(hT:isT fA l1=true)(h:lC u (l1.drop 1)=(none,l2)):o=none/\l'=l2:=by have h1:=hI.eq;rw[Ha hI.le h0 hT,h]at h1;exact xh h1
theorem z3s(hs:Sh u)(hI:LI (sumL u) (o,l') n x l1)(h0:isT oG l1=false)(hT:isT fA l1=true)(h:lC u (l1.drop 1)=(some y,l2)):LI (sumL u) (o,l') (n-1) (ex2 16 x y) l2:=by
 have h1:=hI.eq;rw[Ha hI.le h0 hT,h]at h1;exact⟨h1,Am (Aj hs) hI.le (kW hT) h⟩
theorem Wu{α:Type}{f:Nat->α->PM Ex}{R:Option Ex×List Tk}{x:α}{s:Str}(hI:LI f R n x l1)(hT:isT s l1=true):n-1<n:=LI.mu hI.le (kW hT)
end
variable [ae] {l : List Tk} {W : TypeId} {next pan : Next} {env : Env} {L : List Nat} {az : List AV} {f : FuncId} {e d : Int} {K : Heap}
abbrev pB(l:List Tk)(e d:Int):Block:=.cells [.data (.sl 4 (l.map Tk.cs)),.data (.i e),.data (.i d)]
def kX(W:TypeId)(e:Int)(l:List Tk):D:=.iface W (.agg [.i (at' e l)])
def jZ{α:Type}(W:TypeId)(g:α->D)(e:Int)(o:Option α)(l:List Tk):gp:=match o with
 |some x=>.ret (.data (g x))
 |none=>.pan (.data (kX W e l))
theorem vz{α:Type}{g:α->D}{e:Int}{o:Option α}:(jZ W g e o l).av.ids = []:=by cases o<;>rfl
abbrev B':=FuncId->List AV->Heap->gp->Heap->Prop
variable {B : B'}
theorem MG{ρ:List (Nat×Nat)}:∀ds:List D,AV.ren.go ρ (ds.map .data)=ds.map .data
 | []=>rfl
 |d::r=>by show AV.ren ρ (.data d)::AV.ren.go ρ (r.map .data)=_;rw[MG r];rfl
theorem nT{s:Str}(h:isT s l=true):0<l.length:=by
 cases l with
 |nil=>simp[isT]at h
 |cons t r=>simp
theorem kG{α:Type}{B:B'}{L:List Nat}{f:FuncId}{az:List AV}{env:Env}{K:Heap}{next pan:Next}{M:PM α}{g:α->D}{W:TypeId}{e d:Int}(ds:List D)
  (H:∀l o l',M l=(o,l')->B f (.ptr 1000000 0::ds.map .data) [(1000000,pB l e d)] (jZ W g e o l') [(1000000,pB l' e d)])
  (hk:∃X l,az = .ptr X 0::ds.map .data/\K.get X=some (pB l e d)/\allIn L [X]=true/\(∀x l',M l=(some x,l')->next (.data (g x)) (K.put X (pB l' e d))) /\
   (∀l',M l=(none,l')->pan (.data (kX W e l')) (K.put X (pB l' e d)))) :
  ∃(as0:List AV) (K0:Heap) (out:gp) (K1:Heap) (ρ:List (Nat×Nat)),B f as0 K0 out K1/\AV.ren.go ρ as0=az/\Heap.sub ρ K K0/\bG ρ K0 K1 out.av env K L=true /\
  outGo ρ K1 K next pan out:=by
 obtain⟨X,l,has,hK,hL,h1,h2⟩:=hk
 rcases hM:M l with⟨o,l'⟩
 refine⟨_,_,_,_,[(1000000,X)],H l o l' hM,?_,⟨hK,trivial⟩,?_,?_⟩
 ·rw[has]
  show AV.ren _ _::AV.ren.go _ (ds.map .data)=_
  rw[MG];rfl
 ·simp only[bG,vz,keys,aI,rn,Nat.beq_refl]
  rw[hL]
  rfl
 ·cases o with
  |some x=>exact h1 x l' hM
  |none=>exact h2 l' hM
theorem cZ(a:D)(ρ:List (Nat×Nat)):AV.ren.go ρ [.data a] = [.data a]:=rfl
theorem z3t(a b c:D)(ρ:List (Nat×Nat)):AV.ren.go ρ [.data a,.data b,.data c] = [.data a,.data b,.data c]:=rfl
theorem lentP'{α:Type}{B:B'}{L:List Nat}{f:FuncId}{az:List AV}{env:Env}{K:Heap}{next pan:Next}{M:PM α}{g:α->D}{W:TypeId}{e d:Int}{ds:List AV}(hr:∀ρ,AV.ren.go ρ ds=ds)
  (H:∀l o l',M l=(o,l')->B f (.ptr 1000000 0::ds) [(1000000,pB l e d)] (jZ W g e o l') [(1000000,pB l' e d)])
  (hk:∃X es l,az = .ptr X 0::ds/\K.get X=some (.cells [.data (.sl 4 es),.data (.i e),.data (.i d)])/\es=l.map Tk.cs/\allIn L [X]=true/\(∀x l',M l=(some x,l')->next (.data (g x)) (K.put X (pB l' e d))) /\
   (∀l',M l=(none,l')->pan (.data (kX W e l')) (K.put X (pB l' e d)))) :
  ∃(as0:List AV) (K0:Heap) (out:gp) (K1:Heap) (ρ:List (Nat×Nat)),B f as0 K0 out K1/\AV.ren.go ρ as0=az/\Heap.sub ρ K K0/\bG ρ K0 K1 out.av env K L=true /\
  outGo ρ K1 K next pan out:=by
 obtain⟨X,es,l,has,hK,rfl,hL,h1,h2⟩:=hk
 rcases hM:M l with⟨o,l'⟩
 refine⟨_,_,_,_,[(1000000,X)],H l o l' hM,?_,⟨hK,trivial⟩,?_,?_⟩
 ·rw[has]
  show AV.ren _ _::AV.ren.go _ ds=_
  rw[hr];rfl
 ·simp only[bG,vz,keys,aI,rn,Nat.beq_refl]
  rw[hL]
  rfl
 ·cases o with
  |some x=>exact h1 x l' hM
  |none=>exact h2 l' hM
theorem z3u{α:Type}{B:B'}{L:List Nat}{f:FuncId}{az:List AV}{env:Env}{K:Heap}{next pan:Next}{M:PM α}{g:α->D}{W:TypeId}{e d:Int}(P:List Tk->Prop)(hs:∀l o r,M l=(o,r)->r.length<=l.length)
  (H:∀l o l',P l->M l=(o,l')->B f [.ptr 1000000 0] [(1000000,pB l e d)] (jZ W g e o l') [(1000000,pB l' e d)])
  (hk:∃X l,az = [.ptr X 0]/\K.get X=some (pB l e d)/\allIn L [X]=true/\P l/\(∀x l',M l=(some x,l')->l'.length<=l.length->next (.data (g x)) (K.put X (pB l' e d))) /\
   (∀l',M l=(none,l')->pan (.data (kX W e l')) (K.put X (pB l' e d)))) :
  ∃(as0:List AV) (K0:Heap) (out:gp) (K1:Heap) (ρ:List (Nat×Nat)),B f as0 K0 out K1/\AV.ren.go ρ as0=az/\Heap.sub ρ K K0/\bG ρ K0 K1 out.av env K L=true /\
  outGo ρ K1 K next pan out:=by
 obtain⟨X,l,has,hK,hL,hP,h1,h2⟩:=hk
 rcases hM:M l with⟨o,l'⟩
 refine⟨_,_,_,_,[(1000000,X)],H l o l' hP hM,?_,⟨hK,trivial⟩,?_,?_⟩
 ·rw[has];rfl
 ·simp only[bG,vz,keys,aI,rn,Nat.beq_refl]
  rw[hL]
  rfl
 ·cases o with
  |some x=>exact h1 x l' hM (hs _ _ _ hM)
  |none=>exact h2 l' hM
theorem TA:tK=λl=>if fZ l then(some (hd l).n,l.drop 1)else(none,l):=rfl
theorem TB:kU=λl=>if IQ l then(some (hd l).text,l.drop 1)else(none,l):=rfl
theorem TC{α:Type}{B:B'}{L:List Nat}{f:FuncId}{az:List AV}{env:Env}{K:Heap}{next pan:Next}{M:PM α}{g:α->D}{W:TypeId}{e d:Int}(c:List Tk->Bool)(v:List Tk->α)(hv:M=λl=>if c l then(some (v l),l.drop 1)else(none,l))
  (H:∀l o l',M l=(o,l')->B f [.ptr 1000000 0] [(1000000,pB l e d)] (jZ W g e o l') [(1000000,pB l' e d)])
  (hk:∃X l,az = [.ptr X 0]/\K.get X=some (pB l e d)/\allIn L [X]=true/\(c l=true->next (.data (g (v l))) (K.put X (pB (l.drop 1) e d))) /\
   (c l=false->pan (.data (kX W e l)) (K.put X (pB l e d)))) :
  ∃(as0:List AV) (K0:Heap) (out:gp) (K1:Heap) (ρ:List (Nat×Nat)),B f as0 K0 out K1/\AV.ren.go ρ as0=az/\Heap.sub ρ K K0/\bG ρ K0 K1 out.av env K L=true /\
  outGo ρ K1 K next pan out:=by
 obtain⟨X,l,has,hK,hL,h1,h2⟩:=hk
 refine kG [] H ⟨X,l,has,hK,hL,λx l' h=>?_,λl' h=>?_⟩
 ·rw[hv]at h
  cases hc:c l with
  |true=>simp only[hc,if_true]at h;cases h;exact h1 hc
  |false=>simp only[hc,Bool.false_eq_true,if_false]at h;cases h
 ·rw[hv]at h
  cases hc:c l with
  |true=>simp only[hc,if_true]at h;cases h
  |false=>simp only[hc,Bool.false_eq_true,if_false]at h;cases h;exact h2 hc
theorem BD{B:B'}{L:List Nat}{f:FuncId}{az:List AV}{env:Env}{K:Heap}{next pan:Next}{e d:Int}
  (H:∀s l,B f [.ptr 1000000 0,.data (.str s)] [(1000000,pB l e d)] (.ret (.data (.b (isT s l)))) [(1000000,pB (bif isT s l then l.drop 1 else l) e d)])
  (hk:∃X s l,az = [.ptr X 0,.data (.str s)]/\K.get X=some (pB l e d)/\allIn L [X]=true/\(isT s l=true->0<l.length->next (.data (.b true)) (K.put X (pB (l.drop 1) e d))) /\
   (isT s l=false->next (.data (.b false)) (K.put X (pB l e d)))) :
  ∃(as0:List AV) (K0:Heap) (out:gp) (K1:Heap) (ρ:List (Nat×Nat)),B f as0 K0 out K1/\AV.ren.go ρ as0=az/\Heap.sub ρ K K0/\bG ρ K0 K1 out.av env K L=true /\
  outGo ρ K1 K next pan out:=by
 obtain⟨X,s,l,has,hK,hL,h1,h2⟩:=hk
 refine⟨_,_,_,_,[(1000000,X)],H s l,has.symm,⟨hK,trivial⟩,?_,?_⟩
 ·simp only[bG,keys,aI,rn,Nat.beq_refl]
  rw[hL]
  rfl
 ·cases h:isT s l with
  |true=>exact h1 h (nT h)
  |false=>exact h2 h
theorem BF{B:B'}{L:List Nat}{f:FuncId}{az:List AV}{env:Env}{K:Heap}{next pan:Next}{W:TypeId}{e d:Int}
  (H:∀s l o l',aN s l=(o,l')->B f [.ptr 1000000 0,.gs 1000001 1 [[.str s]]] [(1000000,pB l e d),(1000001,.tok 1 1)] (jZ W (λ_:Unit=>.tuple []) e o l') [(1000000,pB l' e d),(1000001,.tok 1 1)])
  (hk:∃X Y s l,az = [.ptr X 0,.gs Y 1 [[.str s]]]/\K.get X=some (pB l e d)/\K.get Y=some (.tok 1 1)/\Nat.beq X Y=false/\allIn L [X,Y]=true/\(isT s l=true->0<l.length->next (.data (.tuple [])) ((K.put Y (.tok 1 1)).put X (pB (l.drop 1) e d))) /\
   (isT s l=false->pan (.data (kX W e l)) ((K.put Y (.tok 1 1)).put X (pB l e d)))) :
  ∃(as0:List AV) (K0:Heap) (out:gp) (K1:Heap) (ρ:List (Nat×Nat)),B f as0 K0 out K1/\AV.ren.go ρ as0=az/\Heap.sub ρ K K0/\bG ρ K0 K1 out.av env K L=true /\
  outGo ρ K1 K next pan out:=by
 obtain⟨X,Y,s,l,has,hK,hY,hXY,hL,h1,h2⟩:=hk
 rcases hM:aN s l with⟨o,l'⟩
 refine⟨_,_,_,_,[(1000000,X),(1000001,Y)],H s l o l' hM,has.symm,⟨hK,hY,trivial⟩,?_,?_⟩
 ·have hn:jX [X,Y]=true:=by
   simp only[jX,lm,hXY];rfl
  show(jX [X,Y]&&(_&&(allIn L [X,Y]&&(_&&(allIn _ (jZ W (λ_:Unit=>D.tuple []) e o l').av.ids&&_)))))=true
  rw[hn,hL,vz]
  rfl
 ·unfold aN at hM
  cases h:isT s l with
  |true=>rw[h,if_pos rfl]at hM;cases hM;exact h1 h (nT h)
  |false=>rw[h,if_neg (by simp)]at hM;cases hM;exact h2 h
theorem Hf{B:B'}{L:List Nat}{f:FuncId}{az:List AV}{env:Env}{K:Heap}{next pan:Next}{W:TypeId}{e d:Int}
  (H:∀l,B f [.ptr 1000000 0] [(1000000,pB l e d)] (.pan (.data (kX W e l))) [(1000000,pB l e d)])
  (hk:∃X l,az = [.ptr X 0]/\K.get X=some (pB l e d)/\allIn L [X]=true/\pan (.data (kX W e l)) (K.put X (pB l e d))) :
  ∃(as0:List AV) (K0:Heap) (out:gp) (K1:Heap) (ρ:List (Nat×Nat)),B f as0 K0 out K1/\AV.ren.go ρ as0=az/\Heap.sub ρ K K0/\bG ρ K0 K1 out.av env K L=true /\
  outGo ρ K1 K next pan out:=by
 obtain⟨X,l,has,hK,hL,h1⟩:=hk
 refine⟨_,_,_,_,[(1000000,X)],H l,has.symm,⟨hK,trivial⟩,?_,h1⟩
 simp only[bG,keys,aI,rn,Nat.beq_refl]
 rw[hL]
 rfl
def Ew:List Str->PM Unit
 | []=>λl=>(some (),l)
 |s::r=>λl=>if isT s l then Ew r (l.drop 1)else(none,l)
theorem TD{s:Str}:Ew [s] l=aN s l:=by simp[Ew,aN]
theorem jv{α:Type}{T:Tbl}{rs:List ResultVar}{K0 K K1:Heap}{q:Prop}{g:α->D}{e:Int}{o:Option α}(h:finR T rs K0 (jZ W g e o l) K1 env K):finR T rs K0 (jZ W g e o l) K1 env K\/q:=.inl h
theorem gV{α:Type}{T:Tbl}{rs:List ResultVar}{K0 K K1:Heap}{g:α->D}{e:Int}{x:α}(h:finR T rs K0 (.ret (.data (g x))) K1 env K):finR T rs K0 (jZ W g e (some x) l) K1 env K:=h
theorem bi{α:Type}{K0 K K1:Heap}{x:AV}{g:α->D}{e:Int}{o:Option α}(h:Fg K0 K x K1 (jZ W g e o l)):Fg K0 K x K1 (jZ W g e o l):=h
theorem aT{α:Type}{K0 K K1:Heap}{x:AV}{g:α->D}{e:Int}(h:fin K0 K x (.data (kX W e l)) K1):Fg K0 K x K1 (jZ W g e (none:Option α) l):=by
 unfold Fg;exact h
theorem fE{α β:Type}{a o:α}{b l:β}(h:(a,b)=(o,l)):o=a/\l=b:=by cases h;exact⟨rfl,rfl⟩
theorem z3v(h:0<l.length):(l.map Tk.cs)[0]? = some (hd l).cs:=by
 cases l with
 |nil=>exact absurd h (by simp)
 |cons t r=>rfl
theorem rQ{T:Prop}{n:Int}{q:List D->Prop}(hT:T)(hn:n=0)(h:0<l.length)(hq:q (hd l).cs):T/\∃c,(0<=n/\(l.map Tk.cs)[n.toNat]? = some c)/\q c:=by
 subst hn
 exact⟨hT,_,⟨Int.le_refl _,z3v h⟩,hq⟩
theorem JK:decide (((l.map Tk.cs).length:Int)>0) = !l.isEmpty:=by cases l<;>simp
theorem Wv:cut (some 1) none (l.map Tk.cs)=(l.drop 1).map Tk.cs:=by simp[cut]
theorem MH(h:IQ l=true):0<l.length:=by
 cases l with
 |nil=>simp[IQ]at h
 |cons t r=>simp
theorem Ap(h:fZ l=true):0<l.length:=by
 cases l with
 |nil=>simp[fZ]at h
 |cons t r=>simp
theorem z6o(h:0<l.length):rX (some 1) none (l.map Tk.cs).length:=by
 simp only[rX,List.length_map];omega
end Go.Fw.Sy
namespace Go.Fw.Sy
open Go.Fw.Lx (Tk)
variable [ae]
def Fz(v:Str):List Str->Int->Int
 | [],_=>-1
 |x::r,i=>if v==x then i else Fz v r (i+1)
theorem TE{v:Str}:∀(l:List Str) (i:Int),0<=i->decide (Fz v l i>=0)=l.contains v
 | [],i,_=>rfl
 |x::r,i,h=>by
  have ih:=TE r (i+1) (v:=v) (by omega)
  rw[List.contains_cons,<-ih]
  cases e:v==x with
  |true=>simp[Fz,e,h]
  |false=>simp[Fz,e]
theorem Wx{v:Str}{l:List Str}:decide (Fz v l 0>=0)=l.contains v:=TE l 0 (Int.le_refl 0)
theorem Wy{W:TypeId}{e:Int}{l:List Tk}(h:decide (((l.map Tk.cs).length:Int)>0)=true):D.iface W (.agg [.val (.int .i64 (hd l).pos)])=kX W e l:=by
 cases l with
 |nil=>simp at h
 |cons t r=>rfl
theorem TF{W:TypeId}{e:Int}{l:List Tk}(h:decide (((l.map Tk.cs).length:Int)>0)=false):D.iface W (.agg [.val (.int .i64 e)])=kX W e l:=by
 cases l with
 |nil=>rfl
 |cons t r=>simp at h;try omega
theorem mP{c:Bool}{p q:Prop}(h:c=false)(hq:q):BrI c p q:=by subst h;exact BrI.ff hq
theorem nU{c:Bool}{p q:Prop}(h:c=true)(hp:p):BrI c p q:=by subst h;exact BrI.tt hp
theorem iP(T:Tbl)(A:FuncId->List D->oz->Prop)(B:FuncId->List AV->Heap->gp->Heap->Prop){kp:Nat}{Q:List Rec->Prop}{l:List Oper}{ms:List Nat}{tr:List Rec}{env:Env}{K:Heap}(bs:List Bool)(_:l.length=bs.length)(h:(ms.map λm=>m.testBit kp)=bs)(h2:xJ T A B Q l bs tr env K):NW (jS T A B kp Q l ms tr env K):=
 rest_step T A B bs h h2
theorem quiet_step{T:Tbl}{N:List Nat}{kp i:Nat}{tr:List Rec}{q:Prop}(h:gX T N kp i tr=true)(h2:q):gX T N kp i tr=true/\q:=⟨h,h2⟩
theorem z9p(x:Ex):AV.data (.sl 5 [x.cs])=AV.data (.sl 5 (Ex.css [x])):=by rw[Ex.css_cons];rfl
theorem z9h(x y:Ex):AV.data (.sl 5 [x.cs,y.cs])=AV.data (.sl 5 (Ex.css [x,y])):=by rw[Ex.css_cons,Ex.css_cons];rfl
theorem qA{p r:Prop}{q:Prop}(h1:p)(h2:r)(h:q):p/\r/\q:=⟨h1,h2,h⟩
structure AI(u:PM Ex)(k:Int)(s:Str)(R:Option Ex×List Tk)(m i j:Nat)(xs:List Ex)(l:List Tk):Prop where
 eq:bnd (O3 u j i xs l) (λxs l=>bnd (aN uj l) λ_ l=>(some (.mk k s 0 0 xs),l))=R
 le:i+j=m
 len:xs.length=i
section
variable {u : PM Ex} {k : Int} {s : Str} {o : Option Ex} {l l' l1 l2 : List Tk} {m i j : Nat} {xs : List Ex} {x : Ex}
theorem O4(hI:AI u k s (o,l') m i j xs l1)(h:decide ((i:Int)<(m:Int))=true):∃j',j=j'+1:=by
 have h:=of_decide_eq_true h
 have:=hI.le
 exact⟨j-1,by omega⟩
theorem X8(hI:AI u k s (o,l') m i j xs l1)(h:decide ((i:Int)<(m:Int))=true)(h0:decide ((i:Int)>0)=true)(hW:isT aU l1=true)(hx:tN u (l1.drop 1)=(some x,l2)):AI u k s (o,l') m (i+1) (j-1) (xs++[x]) l2:=by
 obtain⟨j',rfl⟩:=O4 hI h
 have h0:=of_decide_eq_true h0
 refine⟨?_,by have:=hI.le;omega,by have:=hI.len;simp;omega⟩
 have h1:=hI.eq
 have h0:0<i:=by omega
 simp only[O3,h0,bnd,aN,hW,if_true,hx]at h1
 exact h1
theorem X9(hI:AI u k s (o,l') m i j xs l1)(h:decide ((i:Int)<(m:Int))=true)(h0:decide ((i:Int)>0)=false)(hx:tN u l1=(some x,l2)):AI u k s (o,l') m (i+1) (j-1) (xs++[x]) l2:=by
 obtain⟨j',rfl⟩:=O4 hI h
 have h0:=of_decide_eq_false h0
 refine⟨?_,by have:=hI.le;omega,by have:=hI.len;simp;omega⟩
 have h1:=hI.eq
 have h0:¬0<i:=by omega
 simp only[O3,h0,if_false,bnd,hx]at h1
 exact h1
theorem Ya(hI:AI u k s (o,l') m i j xs l1)(h:decide ((i:Int)<(m:Int))=true)(h0:decide ((i:Int)>0)=true)(hW:isT aU l1=false):o=none/\l'=l1:=by
 obtain⟨j',rfl⟩:=O4 hI h
 have h0:=of_decide_eq_true h0
 have h1:=hI.eq
 have h0:0<i:=by omega
 simp only[O3,h0,bnd,aN,hW,if_false,Bool.false_eq_true]at h1
 exact xh h1
theorem Yb(hI:AI u k s (o,l') m i j xs l1)(h:decide ((i:Int)<(m:Int))=true)(h0:decide ((i:Int)>0)=true)(hW:isT aU l1=true)(hx:tN u (l1.drop 1)=(none,l2)):o=none/\l'=l2:=by
 obtain⟨j',rfl⟩:=O4 hI h
 have h0:=of_decide_eq_true h0
 have h1:=hI.eq
 have h0:0<i:=by omega
 simp only[O3,h0,bnd,aN,hW,if_true,hx]at h1
 exact xh h1
theorem Yc(hI:AI u k s (o,l') m i j xs l1)(h:decide ((i:Int)<(m:Int))=true)(h0:decide ((i:Int)>0)=false)(hx:tN u l1=(none,l2)):o=none/\l'=l2:=by
 obtain⟨j',rfl⟩:=O4 hI h
 have h0:=of_decide_eq_false h0
 have h1:=hI.eq
 have h0:¬0<i:=by omega
 simp only[O3,h0,if_false,bnd,hx]at h1
 exact xh h1
theorem Yd(hI:AI u k s (o,l') m i j xs l1)(h:decide ((i:Int)<(m:Int))=false)(hW:isT uj l1=true):o=some (.mk k s 0 0 xs)/\l'=l1.drop 1:=by
 have h:=of_decide_eq_false h
 have:j=0:=by have:=hI.le;omega
 subst this
 have h1:=hI.eq
 simp only[O3,bnd,aN,hW,if_true]at h1
 exact xh h1
theorem Ye(hI:AI u k s (o,l') m i j xs l1)(h:decide ((i:Int)<(m:Int))=false)(hW:isT uj l1=false):o=none/\l'=l1:=by
 have h:=of_decide_eq_false h
 have:j=0:=by have:=hI.le;omega
 subst this
 have h1:=hI.eq
 simp only[O3,bnd,aN,hW,if_false,Bool.false_eq_true]at h1
 exact xh h1
theorem MJ(hI:AI u k s (o,l') m i j xs l1)(h:decide ((i:Int)<(m:Int))=true):j-1<j:=by
 obtain⟨j',rfl⟩:=O4 hI h;omega
theorem ZJ(hM:oH u k m false l=(o,l'))(hW:isT nN l=true):AI u k [] (o,l') m 0 m [] (l.drop 1):=
 ⟨by rw[oH]at hM;simp only[bnd,aN,hW,if_true,Bool.false_eq_true,if_false]at hM;exact hM,by omega,rfl⟩
theorem ZK(hM:oH u k m true l=(o,l'))(hW:isT nN l=true)(hn:kU (l.drop 1)=(some s,l1))(hC:isT aU l1=true):AI u k s (o,l') m 0 m [] (l1.drop 1):=
 ⟨by rw[oH]at hM;simp only[bnd,aN,hW,if_true,hn,hC]at hM;exact hM,by omega,rfl⟩
theorem TG{b:Bool}(hM:oH u k m b l=(o,l'))(hW:isT nN l=false):o=none/\l'=l:=by
 rw[oH]at hM;simp only[bnd,aN,hW,if_false,Bool.false_eq_true]at hM;exact xh hM
theorem ZL(hM:oH u k m true l=(o,l'))(hW:isT nN l=true)(hn:kU (l.drop 1)=(none,l1)):o=none/\l'=l1:=by
 rw[oH]at hM;simp only[bnd,aN,hW,if_true,hn]at hM;exact xh hM
theorem ZM(hM:oH u k m true l=(o,l'))(hW:isT nN l=true)(hn:kU (l.drop 1)=(some s,l1))(hC:isT aU l1=false):o=none/\l'=l1:=by
 rw[oH]at hM;simp only[bnd,aN,hW,if_true,hn,hC,if_false,Bool.false_eq_true]at hM;exact xh hM
end
abbrev U8(f:Str×Int×Int×Bool):D×D:=(.str f.1,.agg [.i f.2.1,.i f.2.2.1,.b f.2.2.2])
theorem MK{t:Str}{F:D->Prop}{G:Prop}:∀(fs:List (Str×Int×Int×Bool)),(∀f,look t fs=some f->F (.agg [.i f.1,.i f.2.1,.b f.2.2]))->(look t fs=none->G)->vT (su (.str t) (fs.map U8)) F G
 | [],_,h2=>h2 rfl
 |(w,f)::r,h1,h2=>by
  simp only[List.map_cons,su,eH,sameS,look]at h1 h2 ⊢
  cases h:t==w with
  |true=>
   simp only[h,if_true]at h1
   exact h1 f rfl
  |false=>
   simp only[h,Bool.false_eq_true,if_false]at h1 h2
   exact MK r h1 h2
theorem Yf{t:Str}{f:Int×Int×Bool}(h:look t Dc=some f):0<=f.2.1/\f.2.1<=2:=by
 have:∀fs:List (Str×Int×Int×Bool),(∀x∈fs,0<=x.2.2.1/\x.2.2.1<=2)->look t fs=some f->0<=f.2.1/\f.2.1<=2:=by
  intro fs
  induction fs with
  |nil=>intro _ h;cases h
  |cons x r ih=>
   intro ha h
   simp only[look]at h
   split at h
   ·cases h;exact ha x (by simp)
   ·exact ih (λy hy=>ha y (by simp[hy])) h
 exact this Dc (by decide) h
theorem Hg{d:Int}(h0:0<=d)(h1:d<=63):IntKind.i64.wrap (IntKind.i64.wrap (d+1)-1)=d:=by
 rw[eQ (n:=d+1) (by omega) (by omega),eQ (by omega) (by omega)];omega
theorem ZN{d:Int}(h0:0<=d)(h1:d<=63):IntKind.i64.wrap (d+1)=d+1:=eQ (by omega) (by omega)
theorem TJ{u:PM Ex}{k:Int}{s:Str}{R:Option Ex×List Tk}{m i j:Nat}{xs:List Ex}{l:List Tk}(hI:AI u k s R m i j xs l)(hm:m<=2):(xs.map Ex.cs).length<=1073741824:=by
 rw[List.length_map];have:=hI.le;have:=hI.len;omega
theorem TK{k:Int}{s:Str}{xs:List Ex}:D.agg [.val (.int .i64 k),.str s,.val (.int .i64 0),.val (.int .i64 0),.sl 5 (xs.map Ex.cs)]=Ex.d (.mk k s 0 0 xs):=by
 rw[<-Ex.css_eq];rfl
theorem WA{k:Int}{a b c d:Ex}:D.agg [.val (.int .i64 k),.str [],.val (.int .i64 0),.val (.int .i64 0),.sl 5 [a.cs,b.cs,c.cs,d.cs]]=Ex.d (.mk k [] 0 0 [a,b,c,d]):=by
 show _=D.agg [.i k,.str [],.i 0,.i 0,.sl 5 (Ex.css [a,b,c,d])]
 simp only[Ex.css_cons];rfl
theorem WB{k n:Int}{a:Ex}:D.agg [.val (.int .i64 k),.str [],.val (.int .i64 0),.val (.int .i64 n),.sl 5 [a.cs]]=Ex.d (.mk k [] 0 n [a]):=by
 show _=D.agg [.i k,.str [],.i 0,.i n,.sl 5 (Ex.css [a])]
 simp only[Ex.css_cons];rfl
theorem Yg{i m:Nat}(h:decide ((i:Int)<(m:Int))=true)(hm:m<=2):i<=9223372036854775806:=by have:=of_decide_eq_true h;omega
theorem Ey{n:Nat}(h:n<=9223372036854775806):AV.data (.val (.int .i64 (IntKind.i64.wrap ((n:Int)+1))))=AV.data (.val (.int .i64 ((n+1:Nat):Int))):=LY h
end Go.Fw.Sy
namespace Go.Fw.Sy
open Go.Fw.Lx (Tk)
variable [ae] {Df : FuncId → List AV → Option D → Bool → Heap → Heap → Prop}
theorem emp_len'{l:List Tk}(h:(((l.map Tk.cs).length:Int)==0)=false):0<l.length:=by
 cases l with
 |nil=>simp at h
 |cons t r=>simp
theorem JL{Df:FuncId->List AV->Option D->Bool->Heap->Heap->Prop}{f:FuncId}{az:List AV}{env:Env}{K:Heap}{next:Heap->Prop}
  (h:∃(as0:List AV) (K0:Heap) (K1:Heap) (ρ:List (Nat×Nat)),Df f as0 none false K0 K1/\AV.ren.go ρ as0=az/\Heap.sub ρ K K0/\bG ρ K0 K1 .top env K (reach K 1000 (AV.ids.go az) [])=true/\next (jW ρ K1 K)) :
  ∃(as0:List AV) (K0:Heap) (K1:Heap) (ρ:List (Nat×Nat)),Df f as0 none false K0 K1/\AV.ren.go ρ as0=az/\Heap.sub ρ K K0/\bG ρ K0 K1 .top env K (reach K 1000 (AV.ids.go az) [])=true/\next (jW ρ K1 K):=h
theorem ZO{d:Int}(h:d=63):¬(decide (IntKind.i64.wrap (d+1)>=64)=false):=by subst h;decide
theorem WC{d:Int}(h0:0<=d)(h:d<63):¬(decide (IntKind.i64.wrap (d+1)>=64)=true):=by
 simp only[decide_eq_true_eq]
 rw[eQ (by omega) (by omega)];omega
theorem ML{uo:Option (PM Ex)}{o:Option Ex}{l l':List Tk}(hM:yt uo l=(o,l'))(h:(((l.map Tk.cs).length:Int)==0)=true):o=none/\l'=l:=by
 have hl:l = []:=by cases l with
  |nil=>rfl
  |cons t r=>simp at h;omega
 subst hl
 cases uo with
 |none=>exact xh hM
 |some u=>exact xh hM
theorem MM{α:Type}{T:Tbl}{f:FuncId}{az:List AV}{d:D}{rs:List ResultVar}{K0:Heap}{env:Env}{K K1:Heap}{W:TypeId}{g:α->D}{e:Int}{o:Option α}{l:List Tk}(h:IK T Df f az d rs K0 env K K1 (jZ W g e o l)):IK T Df f az d rs K0 env K K1 (jZ W g e o l):=h
end Go.Fw.Sy
namespace Go.Fw.Sy
open Go.Fw.Lx (Tk)
variable [ae]
abbrev xB(p:Pr):Block:=.cells [.data (.str p.name),.data (.i p.latency),.data (.i p.tail),.gs 1000002 3 (p.params.map Bd.cs),.gs 1000003 3 (p.states.map Bd.cs),.gs 1000004 4 (p.lines.map Ln.cs),.gs 1000005 2 (p.tables.map Tb.cs),.gs 1000006 8 (p.stmts.map Sm.cs)]
def Hl(W:TypeId)(e:Int)(ok:Bool)(l:List Tk):gp:=match ok with
 |true=>.ret (.data (.tuple []))
 |false=>.pan (.data (kX W e l))
structure Sz(p:Pr)(l:List Tk):Prop where
 a:p.params.length+l.length<=1073741823
 b:p.states.length+l.length<=1073741823
 c:p.lines.length+l.length<=1073741823
 d:p.tables.length+l.length<=1073741823
 e:p.stmts.length+l.length<=1073741823
theorem Sz.le{p:Pr}{l l':List Tk}(h:Sz p l)(hl:l'.length<=l.length):Sz p l':=⟨by have:=h.a;omega,by have:=h.b;omega,by have:=h.c;omega,by have:=h.d;omega,by have:=h.e;omega⟩
theorem tX{T:Tbl}{rs:List ResultVar}{K0 K K1:Heap}{env:Env}{q:Prop}{W:TypeId}{e:Int}{ok:Bool}{l:List Tk}(h:finR T rs K0 (Hl W e ok l) K1 env K):finR T rs K0 (Hl W e ok l) K1 env K\/q:=.inl h
theorem kY{T:Tbl}{rs:List ResultVar}{K0 K K1:Heap}{env:Env}{W:TypeId}{e:Int}{l:List Tk}(h:finR T rs K0 (.ret (.data (.tuple []))) K1 env K):finR T rs K0 (Hl W e true l) K1 env K:=h
theorem xq{K0 K K1:Heap}{x:AV}{W:TypeId}{e:Int}{ok:Bool}{l:List Tk}(h:Fg K0 K x K1 (Hl W e ok l)):Fg K0 K x K1 (Hl W e ok l):=h
theorem mQ{K0 K K1:Heap}{x:AV}{W:TypeId}{e:Int}{l:List Tk}(h:fin K0 K x (.data (kX W e l)) K1):Fg K0 K x K1 (Hl W e false l):=by
 unfold Fg;exact h
theorem jK{ok ok':Bool}{p p':Pr}{l l':List Tk}(h:(ok,p,l)=(ok',p',l')):ok'=ok/\p'=p/\l'=l:=by cases h;exact⟨rfl,rfl,rfl⟩
theorem vC{B:B'}{L:List Nat}{az:List AV}{env:Env}{K:Heap}{next pan:Next}(f:FuncId)(r:Bool×Pr×List Tk)
  (h:∀p l,(r=(true,p,l)->∃(as0:List AV) (K0:Heap) (out:gp) (K1:Heap) (ρ:List (Nat×Nat)),B f as0 K0 out K1/\AV.ren.go ρ as0=az/\Heap.sub ρ K K0/\bG ρ K0 K1 out.av env K L=true/\outGo ρ K1 K next pan out) /\
   (r=(false,p,l)->∃(as0:List AV) (K0:Heap) (out:gp) (K1:Heap) (ρ:List (Nat×Nat)),B f as0 K0 out K1/\AV.ren.go ρ as0=az/\Heap.sub ρ K K0/\bG ρ K0 K1 out.av env K L=true/\outGo ρ K1 K next pan out)) :
  ∃(as0:List AV) (K0:Heap) (out:gp) (K1:Heap) (ρ:List (Nat×Nat)),B f as0 K0 out K1/\AV.ren.go ρ as0=az/\Heap.sub ρ K K0/\bG ρ K0 K1 out.av env K L=true/\outGo ρ K1 K next pan out:=by
 obtain⟨ok,p,l⟩:=r
 cases ok with
 |true=>exact(h p l).1 rfl
 |false=>exact(h p l).2 rfl
theorem z9i{t a b c d:Str}{fa fb fc fd:D}{F:D->Prop}{G:Prop}(h1:(t==a)=true->F fa)(h2:(t==a)=false->(t==b)=true->F fb)(h3:(t==a)=false->(t==b)=false->(t==c)=true->F fc)
  (h4:(t==a)=false->(t==b)=false->(t==c)=false->(t==d)=true->F fd) (h5:(t==a)=false->(t==b)=false->(t==c)=false->(t==d)=false->G) :
  vT (su (.str t) [(.str a,fa),(.str b,fb),(.str c,fc),(.str d,fd)]) F G:=by
 simp only[su,eH,sameS]
 cases ha:t==a with
 |true=>exact h1 ha
 |false=>
  cases hb:t==b with
  |true=>exact h2 ha hb
  |false=>
   cases hc:t==c with
   |true=>exact h3 ha hb hc
   |false=>
    cases hd:t==d with
    |true=>exact h4 ha hb hc hd
    |false=>exact h5 ha hb hc hd
theorem kZ{α:Type}{l:List α}{f:α->List D}{x:α}{ys:List (List D)}(h:ys = [f x]):l.map f++ys=(l++[x]).map f:=by subst h;simp
theorem z3w{α:Type}{B:B'}{L:List Nat}{f:FuncId}{az:List AV}{env:Env}{K:Heap}{next pan:Next}{M:PM α}{g:α->D}{W:TypeId}{e d:Int}{ds:List AV}(hr:∀ρ,AV.ren.go ρ ds=ds)(P:List Tk->Prop)
  (H:∀l o l',P l->M l=(o,l')->B f (.ptr 1000000 0::ds) [(1000000,pB l e d)] (jZ W g e o l') [(1000000,pB l' e d)])
  (hk:∃X l,az = .ptr X 0::ds/\K.get X=some (pB l e d)/\allIn L [X]=true/\P l/\(∀x l',M l=(some x,l')->next (.data (g x)) (K.put X (pB l' e d))) /\
   (∀l',M l=(none,l')->pan (.data (kX W e l')) (K.put X (pB l' e d)))) :
  ∃(as0:List AV) (K0:Heap) (out:gp) (K1:Heap) (ρ:List (Nat×Nat)),B f as0 K0 out K1/\AV.ren.go ρ as0=az/\Heap.sub ρ K K0/\bG ρ K0 K1 out.av env K L=true /\
  outGo ρ K1 K next pan out:=by
 obtain⟨X,l,has,hK,hL,hP,h1,h2⟩:=hk
 rcases hM:M l with⟨o,l'⟩
 refine⟨_,_,_,_,[(1000000,X)],H l o l' hP hM,?_,⟨hK,trivial⟩,?_,?_⟩
 ·rw[has]
  show AV.ren _ _::AV.ren.go _ ds=_
  rw[hr];rfl
 ·simp only[bG,vz,keys,aI,rn,Nat.beq_refl]
  rw[hL]
  rfl
 ·cases o with
  |some x=>exact h1 x l' hM
  |none=>exact h2 l' hM
theorem z3x(f:FuncId)(ρ:List (Nat×Nat)):AV.ren.go ρ [.fn f []] = [.fn f []]:=rfl
structure LsI(R:Option (List Int)×List Tk)(n:Nat)(vs:List Int)(l:List Tk):Prop where
 eq:listL n vs l=R
 le:l.length<=n
 sz:vs.length+l.length<=1073741824
theorem Yh{n:Nat}{vs:List Int}{l:List Tk}(hn:l.length<=n)(hT:isT aU l=true):listL n vs l=bnd (IR (l.drop 1)) λv l=>listL (n-1) (vs++[v]) l:=by
 obtain⟨m,rfl,-⟩:=nS (kW hT) hn
 show listL (m+1) vs l=_
 rw[Nat.add_sub_cancel];conv=>{ lhs;unfold listL }
 rw[if_pos hT]
theorem z3y{n:Nat}{vs:List Int}{l:List Tk}(hT:isT aU l=false):listL n vs l=(some vs,l):=by
 cases n with
 |zero=>rfl
 |succ n=>unfold listL;rw[hT,if_neg (by simp)]
section
variable {o : Option (List Int)} {l l' l1 l2 : List Tk} {n : Nat} {vs : List Int} {v : Int}
theorem ZP(hM:G7 l=(o,l'))(h:IR l=(none,l2)):o=none/\l'=l2:=by unfold G7 at hM;rw[h]at hM;exact xh hM
theorem z3z(hl:l.length<=1073741823)(hM:G7 l=(o,l'))(h:IR l=(some v,l2)):LsI (o,l') l2.length [v] l2:=by
 have:=Ai _ _ _ h
 unfold G7 at hM;rw[h]at hM;exact⟨hM,Nat.le_refl _,by simp;omega⟩
theorem z4a(hI:LsI (o,l') n vs l1)(h0:isT aU l1=false):o=some vs/\l'=l1:=by have h:=hI.eq;rw[z3y h0]at h;exact xh h
theorem ZQ(hI:LsI (o,l') n vs l1)(hT:isT aU l1=true)(h:IR (l1.drop 1)=(none,l2)):o=none/\l'=l2:=by have h1:=hI.eq;rw[Yh hI.le hT,h]at h1;exact xh h1
theorem z4b(hI:LsI (o,l') n vs l1)(hT:isT aU l1=true)(h:IR (l1.drop 1)=(some v,l2)):LsI (o,l') (n-1) (vs++[v]) l2:=by
 have h1:=hI.eq;rw[Yh hI.le hT,h]at h1;have h2:=Ai _ _ _ h;have h3:=hI.sz;have h4:=nT hT;simp only[List.length_drop]at h2;exact⟨h1,Am Ai hI.le (kW hT) h,by simp only[List.length_append,List.length_cons,List.length_nil];omega⟩
theorem WE{R:Option (List Int)×List Tk}(hI:LsI R n vs l1):(vs.map U7).length<=1073741824:=by have:=hI.sz;rw[List.length_map];omega
theorem ZR(hI:LsI (o,l') n vs l1)(hT:isT aU l1=true):n-1<n:=LI.mu hI.le (kW hT)
end
theorem MN{l:List Tk}(h:decide (((l.map Tk.cs).length:Int)>0)=true):0<l.length:=by
 cases l with
 |nil=>simp at h
 |cons t r=>simp
def ISz(p:Pr)(l:List Tk)(p':Pr)(l':List Tk):Prop:=l'.length<=l.length/\p'.params.length<=p.params.length+1/\p'.states.length<=p.states.length+1/\p'.lines.length<=p.lines.length+1/\p'.tables.length<=p.tables.length+1/\p'.stmts.length<=p.stmts.length+1
theorem rU{α:Type}{p:Pr}{r:Option α×List Tk}{f:α->List Tk->Bool×Pr×List Tk}{p':Pr}{l l':List Tk}(h:itB p r f=(true,p',l'))(hr:Le l.length r)(hf:∀x m,m.length<=l.length->f x m=(true,p',l')->ISz p l p' l'):ISz p l p' l':=by
 obtain⟨o,m⟩:=r
 cases o with
 |none=>cases h
 |some x=>exact hf x m hr h
theorem Hm:Sh tV:=.of λl=>(nP.le l).bnd λ_ _ h=>((Ai.le _).mono h).bnd λ_ _ h=>((nP.le _).mono h).bnd λ_ _ h=>((Ai.le _).mono h).bnd λ_ _ h=>h
theorem MO:Sh Ad:=.of λl=>(nR.le l).bnd λ_ _ h=>((Hm.le _).mono h).bnd λ_ _ h=>h
theorem MP:∀(n:Nat) (vs:List Int) (l:List Tk) (m:Nat),l.length<=m->Le m (listL n vs l)
 | 0,_,_,_,h=>h
 |n+1,vs,l,m,h=>by
  unfold listL
  split
  ·exact((Ai.le _).mono (nO h)).bnd λ_ _ h=>MP n _ _ _ h
  ·exact h
theorem ZT:Sh G7:=.of λl=>(Ai.le l).bnd λ_ _ h=>MP _ _ _ _ h
theorem Ez{p p':Pr}{l l':List Tk}(h:Ae p l=(true,p',l')):ISz p l p' l':=rU h (MO.le l) λb m hm h=>by
 cases h;exact⟨hm,by simp,by simp,by simp,by simp,by simp⟩
theorem EC{p p':Pr}{l l':List Tk}(h:Af p l=(true,p',l')):ISz p l p' l':=rU h (MO.le l) λb m hm h=>by
 cases h;exact⟨hm,by simp,by simp,by simp,by simp,by simp⟩
theorem JM{p p':Pr}{l l':List Tk}(h:JH p l=(true,p',l')):ISz p l p' l':=rU h (nR.le l) λb m hm h=>rU h ((vk.le _).mono hm) λn m hm h=>rU h ((Hm.le _).mono hm) λb m hm h=>by
 cases h;exact⟨hm,by simp,by simp,by simp,by simp,by simp⟩
theorem ED{p p':Pr}{l l':List Tk}(h:Ag p l=(true,p',l')):ISz p l p' l':=rU h (nR.le l) λb m hm h=>rU h ((nP.le _).mono hm) λn m hm h=>rU h ((ZT.le _).mono hm) λb m hm h=>by
 cases h;exact⟨hm,by simp,by simp,by simp,by simp,by simp⟩
theorem xu{k:Int}{p p':Pr}{l l':List Tk}(h:mf k p l=(true,p',l')):ISz p l p' l':=rU h (by
  split
  ·exact(nR.le l).bnd λ_ _ h=>((nP.le _).mono h).bnd λ_ _ h=>h
  ·exact Nat.le_refl _) λb m hm h=>rU h (((JJ (Ak 63)).le _).mono hm) λn m hm h=>by
 cases h;exact⟨hm,by simp,by simp,by simp,by simp,by simp⟩
structure ItI(t:List (Str×IM))(R:Bool×Pr×List Tk)(n:Nat)(p:Pr)(l:List Tk):Prop where
 eq:fV t n p l=R
 le:l.length<=n
 sz:Sz p l
section
variable {t : List (Str × IM)} {ok : Bool} {p p' p1 : Pr} {l l' l1 l2 : List Tk} {n : Nat} {f : IM}
theorem ItI.start(hz:Sz p l)(hM:gy t p l=(ok,p',l')):ItI t (ok,p',l') l.length p l:=⟨hM,Nat.le_refl _,hz⟩
theorem ZU(hn:l1.length<=n)(hT:isT (hd l1).text l1=true)(hf:find (hd l1).text t=some f):fV t n p l1=match f p (l1.drop 1)with
  |(false,p,l)=>(false,p,l)
  |(true,p,l)=>itB p (aN eu l) λ_ l=>fV t (n-1) p l:=by
 obtain⟨m,rfl,-⟩:=nS (kW hT) hn
 rw[Nat.add_sub_cancel];conv=>{ lhs;unfold fV }
 have:l1.isEmpty=false:=by cases l1 with |nil=>exact absurd rfl (kW hT) |cons a r=>rfl
 simp only[this,Bool.false_eq_true,if_false,hf,hT,if_true]
 all_goals rfl
theorem z4c(hI:ItI t (ok,p',l') n p l1)(hT:isT (hd l1).text l1=true)(hf:find (hd l1).text t=some f)(hR:f p (l1.drop 1)=(false,p1,l2)):ok=false/\p'=p1/\l'=l2:=by
 have h:=hI.eq;rw[ZU hI.le hT hf,hR]at h;exact jK h
theorem z4d(hI:ItI t (ok,p',l') n p l1)(hT:isT (hd l1).text l1=true)(hf:find (hd l1).text t=some f)(hR:f p (l1.drop 1)=(true,p1,l2))(hW:isT eu l2=false):ok=false/\p'=p1/\l'=l2:=by
 have h:=hI.eq;rw[ZU hI.le hT hf,hR]at h
 simp only[aN,hW,Bool.false_eq_true,if_false,itB]at h
 exact jK h
theorem z9j(hI:ItI t (ok,p',l') n p l1)(hT:isT (hd l1).text l1=true)(hf:find (hd l1).text t=some f)(hR:f p (l1.drop 1)=(true,p1,l2))(hz:ISz p (l1.drop 1) p1 l2)(hW:isT eu l2=true):ItI t (ok,p',l') (n-1) p1 (l2.drop 1):=by
 have h:=hI.eq;rw[ZU hI.le hT hf,hR]at h
 simp only[aN,hW,if_true,itB]at h
 have h1:=nT hT
 have h2:=nT hW
 obtain⟨z1,z2,z3,z4,z5,z6⟩:=hz
 simp only[List.length_drop]at z1
 have hs:=hI.sz
 have:=hs.a;have:=hs.b;have:=hs.c;have:=hs.d;have:=hs.e
 have:=hI.le
 refine⟨h,by simp only[List.length_drop];omega,⟨?_,?_,?_,?_,?_⟩⟩<;>simp only[List.length_drop]<;>omega
theorem z4e(hI:ItI t (ok,p',l') n p l1)(hT:isT (hd l1).text l1=true):n-1<n:=LI.mu hI.le (kW hT)
theorem z4f(hI:ItI t (ok,p',l') n p l1)(h:decide (((l1.map Tk.cs).length:Int)>0)=false):ok=true/\p'=p/\l'=l1:=by
 have hl:l1 = []:=by cases l1 with
  |nil=>rfl
  |cons a r=>simp at h
 subst hl
 have h:=hI.eq
 cases n<;>exact jK h
theorem z4g(hI:ItI t (ok,p',l') n p l1)(hf:find (hd l1).text t=none):ok=true/\p'=p/\l'=l1:=by
 have h:=hI.eq
 cases n with
 |zero=>exact jK h
 |succ n=>
  unfold fV at h
  simp only[hf]at h
  split at h<;>exact jK h
theorem z4h(hI:ItI t (ok,p',l') n p l1)(hT:isT (hd l1).text l1=false):ok=true/\p'=p/\l'=l1:=by
 have h:=hI.eq
 cases n with
 |zero=>exact jK h
 |succ n=>
  unfold fV at h
  simp only[hT,Bool.false_eq_true,if_false]at h
  split at h
  ·exact jK h
  ·split at h<;>exact jK h
end
abbrev p0(s:Str)(a t:Int):Pr:=⟨s,a,t,[],[],[],[],[]⟩
def vF(s:Str)(a t:Int):PM Pr:=λl=>match gy decls (p0 s a t) l with
 |(false,_,l)=>(none,l)
 |(true,p,l)=>match gy stmts p l with
  |(false,_,l)=>(none,l)
  |(true,p,l)=>bnd (aN C9 l) λ_ l=>(some p,l)
theorem vG(l:List Tk):kV l=bnd (aN wProcessor l) λ_ l=>bnd (kU l) λs l=>bnd (aN dP l) λ_ l=>bnd (tK l) λa l=>
 bnd (aN wTail l) λ_ l=>bnd (if fZ l then tK l else bnd (aN fC l) λ_ l=>(some (-1),l)) λt l=>bnd (aN sBra l) λ_ l=>vF s a t l:=rfl
section
variable {o : Option Pr} {l l' l1 l2 l3 : List Tk} {s : Str} {a t : Int} {p1 p2 : Pr}
theorem ZV(hM:kV l=(o,l'))(h0:isT wProcessor l=true)(h1:kU (l.drop 1)=(some s,l1))(h2:isT dP l1=true)(h3:tK (l1.drop 1)=(some a,l2))(h4:isT wTail l2=true)(h5:fZ (l2.drop 1)=true)
  (h6:isT sBra ((l2.drop 1).drop 1)=true):vF s a (hd (l2.drop 1)).n (((l2.drop 1).drop 1).drop 1)=(o,l')/\(((l2.drop 1).drop 1).drop 1).length<=l.length:=by
 refine⟨?_,?_⟩
 ·rw[vG]at hM
  have e5:tK (l2.drop 1)=(some (hd (l2.drop 1)).n,(l2.drop 1).drop 1):=by unfold tK;rw[if_pos h5]
  simp only[aN,h0,if_true,bnd,h1,h2,h3,h4,h5,e5,h6]at hM
  exact hM
 ·have:=nR _ _ _ h1;have:=vk _ _ _ h3;simp only[List.length_drop]at *;omega
theorem ZW(hM:kV l=(o,l'))(h0:isT wProcessor l=true)(h1:kU (l.drop 1)=(some s,l1))(h2:isT dP l1=true)(h3:tK (l1.drop 1)=(some a,l2))(h4:isT wTail l2=true)(h5:fZ (l2.drop 1)=true)
  (h6:isT sBra ((l2.drop 1).drop 1)=false):o=none/\l'=(l2.drop 1).drop 1:=by
 rw[vG]at hM
 have e5:tK (l2.drop 1)=(some (hd (l2.drop 1)).n,(l2.drop 1).drop 1):=by unfold tK;rw[if_pos h5]
 simp only[aN,h0,if_true,bnd,h1,h2,h3,h4,h5,e5,h6,Bool.false_eq_true,if_false]at hM
 exact xh hM
theorem ZX(hM:kV l=(o,l'))(h0:isT wProcessor l=true)(h1:kU (l.drop 1)=(some s,l1))(h2:isT dP l1=true)(h3:tK (l1.drop 1)=(some a,l2))(h4:isT wTail l2=true)(h5:fZ (l2.drop 1)=false)(h7:isT fC (l2.drop 1)=true)
  (h6:isT sBra ((l2.drop 1).drop 1)=true):vF s a (-1) (((l2.drop 1).drop 1).drop 1)=(o,l')/\(((l2.drop 1).drop 1).drop 1).length<=l.length:=by
 refine⟨?_,?_⟩
 ·rw[vG]at hM
  simp only[aN,h0,if_true,bnd,h1,h2,h3,h4,h5,h7,h6,Bool.false_eq_true,if_false]at hM
  exact hM
 ·have:=nR _ _ _ h1;have:=vk _ _ _ h3;simp only[List.length_drop]at *;omega
theorem ZY(hI:vF s a t l=(o,l'))(h:gy decls (p0 s a t) l=(false,p1,l1)):o=none/\l'=l1:=by
 unfold vF at hI;rw[h]at hI;exact xh hI
theorem ZZ(hI:vF s a t l=(o,l'))(h:gy decls (p0 s a t) l=(true,p1,l1))(h2:gy stmts p1 l1=(false,p2,l2)):o=none/\l'=l2:=by
 unfold vF at hI;rw[h]at hI;simp only[h2]at hI;exact xh hI
theorem Z4(hI:vF s a t l=(o,l'))(h:gy decls (p0 s a t) l=(true,p1,l1))(h2:gy stmts p1 l1=(true,p2,l2))(hW:isT C9 l2=false):o=none/\l'=l2:=by
 unfold vF at hI;rw[h]at hI;simp only[h2,aN,hW,Bool.false_eq_true,if_false,bnd]at hI;exact xh hI
theorem z4i(hI:vF s a t l=(o,l'))(h:gy decls (p0 s a t) l=(true,p1,l1))(h2:gy stmts p1 l1=(true,p2,l2))(hW:isT C9 l2=true):o=some p2/\l'=l2.drop 1:=by
 unfold vF at hI;rw[h]at hI;simp only[h2,aN,hW,if_true,bnd]at hI;exact xh hI
end
theorem sz0{s:Str}{a t:Int}{l:List Tk}(h:l.length<=1073741823):Sz (p0 s a t) l:=⟨by simpa using h,by simpa using h,by simpa using h,by simpa using h,by simpa using h⟩
theorem TL{t:List (Str×IM)}(ht:∀x∈t,∀p l p' l',x.2 p l=(true,p',l')->ISz p l p' l'){s:Str}{f:IM}(h:find s t=some f){p p':Pr}{l l':List Tk}(hf:f p l=(true,p',l')):ISz p l p' l':=by
 induction t with
 |nil=>cases h
 |cons x r ih=>
  simp only[find]at h
  split at h
  ·cases h;exact ht x (by simp) _ _ _ _ hf
  ·exact ih (λy hy=>ht y (by simp[hy])) h
theorem MQ:∀x∈decls,∀p l p' l',x.2 p l=(true,p',l')->ISz p l p' l':=by
 intro x hx p l p' l' h
 simp only[decls,List.mem_cons,List.not_mem_nil,or_false]at hx
 rcases hx with rfl |rfl |rfl |rfl
 ·exact Ez h
 ·exact EC h
 ·exact JM h
 ·exact ED h
theorem WF:∀x∈stmts,∀p l p' l',x.2 p l=(true,p',l')->ISz p l p' l':=by
 intro x hx p l p' l' h
 simp only[stmts,List.mem_cons,List.not_mem_nil,or_false]at hx
 rcases hx with rfl |rfl |rfl |rfl
 ·exact xu (k:=1) h
 ·exact xu (k:=2) h
 ·exact xu (k:=3) h
 ·exact xu (k:=4) h
theorem Ho{t:List (Str×IM)}(ht:∀x∈t,∀p l p' l',x.2 p l=(true,p',l')->ISz p l p' l'):∀(n:Nat) (p:Pr) (l:List Tk) (p':Pr) (l':List Tk),fV t n p l=(true,p',l')->Sz p l->Sz p' l'/\l'.length<=l.length
 | 0,p,l,p',l',h,hz=>by cases h;exact⟨hz,Nat.le_refl _⟩
 |n+1,p,l,p',l',h,hz=>by
  unfold fV at h
  split at h
  ·cases h;exact⟨hz,Nat.le_refl _⟩
  ·split at h
   ·cases h;exact⟨hz,Nat.le_refl _⟩
   ·rename_i f hf
    split at h
    ·rename_i hT
     split at h
     ·cases h
     ·rename_i p1 l1 hR
      have hi:=TL ht hf hR
      obtain⟨z1,z2,z3,z4,z5,z6⟩:=hi
      have hl:=nT hT
      simp only[List.length_drop]at z1
      by_cases hW:isT eu l1=true
      ·simp only[aN,hW,if_true,itB]at h
       have:=hz.a;have:=hz.b;have:=hz.c;have:=hz.d;have:=hz.e
       have:=nT hW
       have ih:=Ho ht n p1 (l1.drop 1) p' l' h ⟨by simp only[List.length_drop];omega,by simp only[List.length_drop];omega,by simp only[List.length_drop];omega,by simp only[List.length_drop];omega,by simp only[List.length_drop];omega⟩
       refine⟨ih.1,?_⟩
       have:=ih.2
       simp only[List.length_drop]at this
       omega
      ·simp only[aN,hW,if_false,itB]at h
       cases h
    ·cases h;exact⟨hz,Nat.le_refl _⟩
theorem Hq{p p':Pr}{l l':List Tk}(h:gy decls p l=(true,p',l'))(hz:Sz p l):Sz p' l':=(Ho MQ _ _ _ _ _ h hz).1
structure RdI(R:Option (List Pr)×List Tk)(n:Nat)(ps:List Pr)(l:List Tk):Prop where
 eq:vg n ps l=R
 le:l.length<=n
 sz:ps.length+l.length<=1073741823
theorem EE{t:List (Str×IM)}(ht:∀x∈t,∀p l p' l',x.2 p l=(true,p',l')->ISz p l p' l'):∀(n:Nat) (p:Pr) (l:List Tk) (p':Pr) (l':List Tk),fV t n p l=(true,p',l')->l'.length<=l.length
 | 0,p,l,p',l',h=>by cases h;exact Nat.le_refl _
 |n+1,p,l,p',l',h=>by
  unfold fV at h
  split at h
  ·cases h;exact Nat.le_refl _
  ·split at h
   ·cases h;exact Nat.le_refl _
   ·rename_i f hf
    split at h
    ·rename_i hT
     split at h
     ·cases h
     ·rename_i p1 l1 hR
      have z1:=(TL ht hf hR).1
      simp only[List.length_drop]at z1
      by_cases hW:isT eu l1=true
      ·simp only[aN,hW,if_true,itB]at h
       have ih:=EE ht n p1 (l1.drop 1) p' l' h
       simp only[List.length_drop]at ih
       omega
      ·simp only[aN,hW,if_false,itB]at h
       cases h
    ·cases h;exact Nat.le_refl _
theorem kH{α β:Type}{r:Option α×List Tk}{f:α->PM β}{y:β}{m:List Tk}(h:bnd r f=(some y,m)):∃x l,r=(some x,l)/\f x l=(some y,m):=by
 obtain⟨o,l⟩:=r
 cases o with
 |none=>cases h
 |some x=>exact⟨x,l,rfl,h⟩
theorem pV{s:Str}{l m:List Tk}{y:Unit}(h:aN s l=(some y,m)):isT s l=true/\m=l.drop 1:=by
 unfold aN at h
 split at h
 ·rename_i hT;cases h;exact⟨hT,rfl⟩
 ·cases h
theorem WG{s:Str}{a t:Int}{l m:List Tk}{p:Pr}(h:vF s a t l=(some p,m)):m.length<=l.length:=by
 unfold vF at h
 split at h
 ·cases h
 ·rename_i p1 l1 h1
  split at h
  ·cases h
  ·rename_i p2 l2 h2
   obtain⟨x,l3,h3,h4⟩:=kH h
   obtain⟨-,rfl⟩:=pV h3
   cases h4
   have:=EE MQ _ _ _ _ _ h1
   have:=EE WF _ _ _ _ _ h2
   simp only[List.length_drop];omega
theorem TM{l m:List Tk}{p:Pr}(h:kV l=(some p,m)):m.length<l.length:=by
 rw[vG]at h
 obtain⟨x,l1,h1,h⟩:=kH h
 obtain⟨hT,rfl⟩:=pV h1
 obtain⟨s,l2,h2,h⟩:=kH h
 obtain⟨x,l3,h3,h⟩:=kH h
 obtain⟨-,rfl⟩:=pV h3
 obtain⟨a,l4,h4,h⟩:=kH h
 obtain⟨x,l5,h5,h⟩:=kH h
 obtain⟨-,rfl⟩:=pV h5
 obtain⟨t,l6,h6,h⟩:=kH h
 obtain⟨x,l7,h7,h⟩:=kH h
 obtain⟨-,rfl⟩:=pV h7
 have e2:=nR _ _ _ h2
 have e4:=vk _ _ _ h4
 have e6:l6.length<=(l4.drop 1).length:=by
  split at h6
  ·exact vk _ _ _ h6
  ·obtain⟨x,l8,h8,h9⟩:=kH h6
   have:=nP _ _ _ h8
   cases h9;exact this
 have e8:=WG h
 have:=nT hT
 simp only[List.length_drop]at *
 omega
def readD(e:Int):Option (List Pr)×List Tk->D
 |(some ps,_)=>.tuple [.sl 8 (ps.map Pr.cs),.i 0,.i 0]
 |(none,l)=>.tuple [.sl 8 [],.i (at' e l),.i 140]
section
variable {l l1 l2 : List Tk} {n : Nat} {ps : List Pr} {p : Pr} {R : Option (List Pr) × List Tk}
theorem z4j(hl:l.length<=1073741823):RdI (jV l) l.length [] l:=⟨rfl,Nat.le_refl _,by simpa using hl⟩
theorem TN(hn:l.length<=n)(h:decide (((l.map Tk.cs).length:Int)>0)=true):vg n ps l=bnd (kV l) λp l=>vg (n-1) (ps++[p]) l:=by
 have hp:=MN h
 obtain⟨m,rfl⟩:∃m,n=m+1:=⟨n-1,by omega⟩
 rw[Nat.add_sub_cancel];conv=>{ lhs;unfold vg }
 have:l.isEmpty=false:=by cases l with |nil=>simp at hp |cons a r=>rfl
 simp only[this,Bool.false_eq_true,if_false]
theorem z4k(hI:RdI R n ps l)(h:decide (((l.map Tk.cs).length:Int)>0)=true)(hp:kV l=(none,l2)):R=(none,l2):=by
 have h1:=hI.eq;rw[TN hI.le h,hp]at h1;exact h1.symm
theorem z4l(hI:RdI R n ps l)(h:decide (((l.map Tk.cs).length:Int)>0)=true)(hp:kV l=(some p,l2)):RdI R (n-1) (ps++[p]) l2:=by
 have h1:=hI.eq;rw[TN hI.le h,hp]at h1
 have h2:=TM hp;have h3:=hI.le;have h4:=hI.sz
 exact⟨h1,by omega,by simp;omega⟩
theorem Z5(hI:RdI R n ps l)(h:decide (((l.map Tk.cs).length:Int)>0)=true):n-1<n:=by
 have:=MN h;have:=hI.le;omega
theorem z4m(hI:RdI R n ps l)(h:decide (((l.map Tk.cs).length:Int)>0)=false):R=(some ps,l):=by
 have hl:l = []:=by cases l with
  |nil=>rfl
  |cons a r=>simp at h
 subst hl
 have h:=hI.eq
 cases n<;>exact h.symm
theorem z7e(hI:RdI R n ps l):l.length<=1073741823:=by have:=hI.sz;omega
theorem WH(hI:RdI R n ps l):(ps.map Pr.cs).length<=1073741824:=by have:=hI.sz;rw[List.length_map];omega
end
theorem Z7(ρ:List (Nat×Nat)):AV.ren.go ρ [] = []:=rfl
theorem fK{T:Tbl}{Df:FuncId->List AV->Option D->Bool->Heap->Heap->Prop}{f:FuncId}{az:List AV}{d y:D}{rs:List ResultVar}{K0:Heap}{env:Env}{K K1:Heap}(h:Vz Df f az (some d) false env K λK=>finR T rs K0 (.ret (.data y)) K1 env K):IK T Df f az d rs K0 env K K1 (oz.ret y).toA:=IK.ret h
abbrev wC(ts:List Tk):Block:=.cells [.gs 1000001 4 (ts.map Tk.cs)]
abbrev wT(ts:List Tk):Block:=.tok 4 (ts.map Tk.cs).length
theorem bf{B:B'}{L:List Nat}{f:FuncId}{az:List AV}{env:Env}{K:Heap}{next pan:Next}{ds:List AV}(Δ:List Tk)(hr:∀ρ,AV.ren.go ρ ds=ds)
  (H:∀ts:List Tk,ts.length+Δ.length<=1073741823->B f (.ptr 1000000 0::ds) [(1000000,wC ts),(1000001,wT ts)] (.ret (.data (.tuple []))) [(1000000,wC (ts++Δ)),(1000001,wT (ts++Δ))])
  (hk:∃(X Y:Nat) (ts:List Tk),az = .ptr X 0::ds/\K.get X=some (.cells [.gs Y 4 (ts.map Tk.cs)])/\K.get Y=some (.tok 4 (ts.map Tk.cs).length)/\Nat.beq X Y=false/\allIn L [X,Y]=true/\ts.length+Δ.length<=1073741823 /\
   next (.data (.tuple [])) ((K.put Y (.tok 4 ((ts++Δ).map Tk.cs).length)).put X (.cells [.gs Y 4 ((ts++Δ).map Tk.cs)]))) :
  ∃(as0:List AV) (K0:Heap) (out:gp) (K1:Heap) (ρ:List (Nat×Nat)),B f as0 K0 out K1/\AV.ren.go ρ as0=az/\Heap.sub ρ K K0/\bG ρ K0 K1 out.av env K L=true /\
  outGo ρ K1 K next pan out:=by
 obtain⟨X,Y,ts,has,hK,hY,hXY,hL,hn,h1⟩:=hk
 refine⟨_,_,_,_,[(1000000,X),(1000001,Y)],H ts hn,?_,⟨hK,hY,trivial⟩,?_,h1⟩
 ·rw[has]
  show AV.ren _ _::AV.ren.go _ ds=_
  rw[hr];rfl
 ·have hn:jX [X,Y]=true:=by
   simp only[jX,lm,hXY];rfl
  show(jX [X,Y]&&(_&&(allIn L [X,Y]&&(_&&_))))=true
  rw[hn,hL]
  rfl
theorem jL{B:B'}{L:List Nat}{f:FuncId}{az:List AV}{env:Env}{K:Heap}{next pan:Next}
  (H:∀(ss:List Str) (ts:List Tk),ts.length+ss.length<=1073741823->B f [.ptr 1000000 0,.gs 1000002 1 (ss.map ui)] [(1000000,wC ts),(1000001,wT ts),(1000002,.tok 1 (ss.map ui).length)] (.ret (.data (.tuple []))) [(1000000,wC (ts++ss.map wd)),(1000001,wT (ts++ss.map wd)),(1000002,.tok 1 (ss.map ui).length)])
  (hk:∃(ss:List Str) (X Y Z:Nat) (ts:List Tk),az = [.ptr X 0,.gs Z 1 (ss.map ui)]/\K.get X=some (.cells [.gs Y 4 (ts.map Tk.cs)])/\K.get Y=some (.tok 4 (ts.map Tk.cs).length)/\K.get Z=some (.tok 1 (ss.map ui).length)/\jX [X,Y,Z]=true/\allIn L [X,Y,Z]=true/\ts.length+ss.length<=1073741823 /\
   next (.data (.tuple [])) (((K.put Z (.tok 1 (ss.map ui).length)).put Y (.tok 4 ((ts++ss.map wd).map Tk.cs).length)).put X (.cells [.gs Y 4 ((ts++ss.map wd).map Tk.cs)]))) :
  ∃(as0:List AV) (K0:Heap) (out:gp) (K1:Heap) (ρ:List (Nat×Nat)),B f as0 K0 out K1/\AV.ren.go ρ as0=az/\Heap.sub ρ K K0/\bG ρ K0 K1 out.av env K L=true /\
  outGo ρ K1 K next pan out:=by
 obtain⟨ss,X,Y,Z,ts,has,hK,hY,hZ,hXY,hL,hn,h1⟩:=hk
 refine⟨_,_,_,_,[(1000000,X),(1000001,Y),(1000002,Z)],H ss ts hn,has.symm,⟨hK,hY,hZ,trivial⟩,?_,h1⟩
 show(jX [X,Y,Z]&&(_&&(allIn L [X,Y,Z]&&(_&&_))))=true
 rw[hXY,hL]
 rfl
theorem tY(d:D)(n:D)(ρ:List (Nat×Nat)):AV.ren.go ρ [.data d,.data n] = [.data d,.data n]:=rfl
theorem EF{n:Int}(h:decide (n<0)=true):[sg fA]++[nu (IntKind.i64.wrap (0-n))]=gm n:=by
 have h:=of_decide_eq_true h
 unfold gm;rw[if_pos h];rfl
theorem MR{n:Int}(h:decide (n<0)=false):[nu n]=gm n:=by
 have h:=of_decide_eq_false h
 unfold gm;rw[if_neg h]
abbrev z4n(f:Int×Form):D×D:=(.i f.1,.agg [.sl 1 (f.2.1.map ui),.sl 1 (f.2.2.1.map U7),.str f.2.2.2])
theorem MS{k:Int}{F:D->Prop}{G:Prop}:∀(fs:List (Int×Form)),(∀f,G8 k fs=some f->F (.agg [.sl 1 (f.1.map ui),.sl 1 (f.2.1.map U7),.str f.2.2]))->(G8 k fs=none->G)->vT (su (.i k) (fs.map z4n)) F G
 | [],_,h2=>h2 rfl
 |(w,f)::r,h1,h2=>by
  simp only[List.map_cons,su,eH,sameS,G8]at h1 h2 ⊢
  cases h:k==w with
  |true=>
   simp only[h,if_true]at h1
   exact h1 f rfl
  |false=>
   simp only[h,Bool.false_eq_true,if_false]at h1 h2
   exact MS r h1 h2
end Go.Fw.Sy
namespace Go.Fw.Sy
open Go.Fw.Lx (Tk)
variable [ae] {ts : List Tk} {n : Int}
theorem z4o(h:decide (n<0)=true)(hn:ts.length+(gm n).length<=1073741823):ts.length+[sg fA].length<=1073741823:=by
 rw[<-EF h]at hn;simp at hn ⊢;omega
theorem z4p(h:decide (n<0)=true):((ts++[sg fA]).map Tk.cs)++[[D.val (.int .i64 2),D.str [],D.val (.int .i64 (IntKind.i64.wrap (0-n))),D.val (.int .i64 0)]]=(ts++gm n).map Tk.cs:=by
 rw[<-EF h];simp
theorem z4q(h:decide (n<0)=false):(ts.map Tk.cs)++[[D.val (.int .i64 2),D.str [],D.val (.int .i64 n),D.val (.int .i64 0)]]=(ts++gm n).map Tk.cs:=by
 rw[<-MR h];simp
theorem Z8(h:decide (n<0)=true)(hn:ts.length+(gm n).length<=1073741823):((ts++[sg fA]).map Tk.cs).length<=1073741824:=by
 rw[<-EF h]at hn;simp at hn ⊢;omega
theorem Z9(h:decide (n<0)=false)(hn:ts.length+(gm n).length<=1073741823):(ts.map Tk.cs).length<=1073741824:=by
 rw[<-MR h]at hn;simp at hn ⊢;omega
end Go.Fw.Sy
namespace Go.Fw.Sy
open Go.Fw.Lx (Tk)
variable [ae]
def tlT(x:Ex)(f:Form):List Tk:=if f.2.2==[]then []else sg f.2.2::gm x.n
theorem O5{x:Ex}{f:Form}(h:jJ x.kind=some f):aZ x=opsT x.l f.1 f.2.1++tlT x f:=by
 cases x with
 |mk k nm i n l=>
  simp only[Ex.kind]at h
  rw[aZ,h];rfl
theorem MV:∀(l:List Ex) (lv:List Int),opsT l [] lv = []
 | [],_=>rfl
 |_::_,_=>rfl
structure FI(x:Ex)(f:Form)(R:List Tk)(i:Nat)(hs:List Str)(t:List Tk):Prop where
 eq:t++(opsT (x.l.drop i) hs (f.2.1.drop i)++tlT x f)=R
section
variable {x y : Ex} {f : Form} {R ts t1 H : List Tk} {i : Nat} {s : Str} {r : List Str} {v : Int}
theorem WI(hf:jJ x.kind=some f):FI x f (ts++aZ x) 0 f.1 ts:=⟨by rw[O5 hf];rfl⟩
theorem z0a(hy:x.l[i]? = some y)(hv:f.2.1[i]? = some v):opsT (x.l.drop i) (s::r) (f.2.1.drop i)=kF s++(dE y v++opsT (x.l.drop (i+1)) r (f.2.1.drop (i+1))):=by
 obtain⟨h1,rfl⟩:=List.getElem?_eq_some_iff.1 hy
 obtain⟨h2,rfl⟩:=List.getElem?_eq_some_iff.1 hv
 rw[List.drop_eq_getElem_cons h1,List.drop_eq_getElem_cons h2]
 rfl
theorem z0b(hy:¬i<x.l.length):opsT (x.l.drop i) (s::r) (f.2.1.drop i)=kF s++opsT (x.l.drop (i+1)) r (f.2.1.drop (i+1)):=by
 rw[List.drop_eq_nil_of_le (show x.l.length<=i by omega),List.drop_eq_nil_of_le (show x.l.length<=i+1 by omega)]
 simp only[opsT,List.flatMap_cons]
theorem z1r(hI:FI x f R i (s::r) t1)(hh:kF s=H)(hy:x.l[i]? = some y)(hv:f.2.1[i]? = some v):FI x f R (i+1) r (t1++H++dE y v):=by
 have h:=hI.eq
 rw[z0a hy hv,hh]at h
 exact⟨by rw[<-h];simp only[List.append_assoc]⟩
theorem z7f(hI:FI x f R i (s::r) t1)(hh:kF s = [])(hy:x.l[i]? = some y)(hv:f.2.1[i]? = some v):FI x f R (i+1) r (t1++dE y v):=by
 have:=z1r hI hh hy hv;simpa using this
theorem z4r(hI:FI x f R i (s::r) t1)(hh:kF s=H)(hi:decide ((i:Int)<((Ex.css x.l).length:Int))=false):FI x f R (i+1) r (t1++H):=by
 have hi:¬i<x.l.length:=by have:=of_decide_eq_false hi;rw[Ex.css_eq,List.length_map]at this;omega
 have h:=hI.eq
 rw[z0b hi,hh]at h
 exact⟨by rw[<-h];simp only[List.append_assoc]⟩
theorem z7g(hI:FI x f R i (s::r) t1)(hh:kF s = [])(hi:decide ((i:Int)<((Ex.css x.l).length:Int))=false):FI x f R (i+1) r t1:=by
 have:=z4r hI hh hi;simpa using this
theorem TP(hI:FI x f (ts++aZ x) i (s::r) t1)(hn:ts.length+(aZ x).length<=1073741823)(hh:kF s=H):t1.length+H.length<=1073741823:=by
 have h:=congrArg List.length hI.eq
 have h2:H.length<=(opsT (x.l.drop i) (s::r) (f.2.1.drop i)).length:=by
  cases x.l.drop i with
  |nil=>simp only[opsT,List.flatMap_cons,List.length_append,hh];omega
  |cons a b=>simp only[opsT,List.length_append,hh];omega
 simp only[List.length_append]at h
 omega
theorem TQ(hI:FI x f (ts++aZ x) i (s::r) t1)(hn:ts.length+(aZ x).length<=1073741823)(hh:kF s=H)(hy:x.l[i]? = some y)(hv:f.2.1[i]? = some v):(t1++H).length+(dE y v).length<=1073741823:=by
 have h:=congrArg List.length (z1r hI hh hy hv).eq
 simp only[List.length_append]at h ⊢
 omega
theorem z4s(hI:FI x f (ts++aZ x) i (s::r) t1)(hn:ts.length+(aZ x).length<=1073741823)(hh:kF s = [])(hy:x.l[i]? = some y)(hv:f.2.1[i]? = some v):t1.length+(dE y v).length<=1073741823:=by
 have:=TQ hI hn hh hy hv;simpa using this
theorem z7h(hI:FI x f R i [] t1)(h:(!(f.2.2==[]))=false):t1=R:=by
 have h1:=hI.eq
 have h:(f.2.2==[])=true:=by simpa using h
 rw[MV,tlT,h]at h1
 simpa using h1
theorem z4t(hI:FI x f R i [] t1)(h:(!(f.2.2==[]))=true):t1++[sg f.2.2]++gm x.n=R:=by
 have h1:=hI.eq
 have h:(f.2.2==[])=false:=by simpa using h
 rw[MV,tlT,h]at h1
 simpa using h1
theorem z4u(hI:FI x f (ts++aZ x) i [] t1)(hn:ts.length+(aZ x).length<=1073741823)(h:(!(f.2.2==[]))=true):t1.length+[sg f.2.2].length<=1073741823/\(t1++[sg f.2.2]).length+(gm x.n).length<=1073741823:=by
 have h:=congrArg List.length (z4t hI h)
 simp only[List.length_append]at h ⊢
 omega
theorem EG(h:(s==wIf)=true):kF s = [wd s]:=by simp only[kF,h,Bool.true_or,if_true]
theorem vH(h:(s==lq)=true):kF s = [wd s]:=by simp only[kF,h,Bool.true_or,Bool.or_true,if_true]
theorem vI(h:(s==lu)=true):kF s = [wd s]:=by simp only[kF,h,Bool.or_true,if_true]
theorem JO(h1:(s==wIf)=false)(h2:(s==lq)=false)(h3:(s==lu)=false)(h:(s==[])=true):kF s = []:=by simp only[kF,h1,h2,h3,Bool.or_self,Bool.false_eq_true,if_false,h,if_true]
theorem Aq(h1:(s==wIf)=false)(h2:(s==lq)=false)(h3:(s==lu)=false)(h:(s==[])=false):kF s = [sg s]:=by simp only[kF,h1,h2,h3,Bool.or_self,Bool.false_eq_true,if_false,h]
end
theorem MW{k:Int}{f:Form}(h:jJ k=some f):f.1.length=f.2.1.length/\f.1.length<=4:=by
 have:∀fs:List (Int×Form),(∀x∈fs,x.2.1.length=x.2.2.1.length/\x.2.1.length<=4)->G8 k fs=some f->f.1.length=f.2.1.length/\f.1.length<=4:=by
  intro fs
  induction fs with
  |nil=>intro _ h;cases h
  |cons x r ih=>
   intro ha h
   simp only[G8]at h
   split at h
   ·cases h;exact ha x (by simp)
   ·exact ih (λy hy=>ha y (by simp[hy])) h
 exact this forms (by decide) h
theorem Yi{T:Prop}{l:List Ex}{n:Int}{i:Nat}{q:List D->Prop}(hT:T)(hn:n=(i:Int))(h:i<l.length)(hq:∀y,l[i]? = some y->q y.cs):T/\∃c,(0<=n/\(Ex.css l)[n.toNat]? = some c)/\q c:=by
 subst hn
 have hy:l[i]? = some l[i]:=List.getElem?_eq_getElem h
 exact⟨hT,_,⟨Int.natCast_nonneg _,by rw[Ex.css_eq,Int.toNat_natCast,List.getElem?_map,hy];rfl⟩,hq _ hy⟩
theorem z4v{T:Prop}{l:List Int}{n:Int}{i:Nat}{q:List D->Prop}(hT:T)(hn:n=(i:Int))(h:i<l.length)(hq:∀v,l[i]? = some v->q (U7 v)):T/\∃c,(0<=n/\(l.map U7)[n.toNat]? = some c)/\q c:=by
 subst hn
 have hy:l[i]? = some l[i]:=List.getElem?_eq_getElem h
 exact⟨hT,_,⟨Int.natCast_nonneg _,by rw[Int.toNat_natCast,List.getElem?_map,hy];rfl⟩,hq _ hy⟩
theorem z4w{l:List Ex}{i:Nat}(h:decide ((i:Int)<((Ex.css l).length:Int))=true):i<l.length:=by
 have:=of_decide_eq_true h;rw[Ex.css_eq,List.length_map]at this;omega
theorem z7i{f:Form}{k:Int}{i:Nat}{s:Str}{r:List Str}(h:jJ k=some f)(hd:f.1.drop i=s::r):i<f.2.1.length:=by
 have:=MW h
 have:i<f.1.length:=by
  by_cases hi:i<f.1.length
  ·exact hi
  ·rw[List.drop_eq_nil_of_le (by omega)]at hd;cases hd
 omega
theorem Ar(x:Ex):dE x 0=aZ x:=by
 unfold dE
 rw[if_neg]
 unfold level
 split
 ·decide
 ·split
  ·decide
  ·split<;>decide
theorem yP{x:Ex}{v:Int}(h:decide (level x.kind<v)=true):dE x v=sg nN::(aZ x++[sg uj]):=by
 unfold dE;rw[if_pos (of_decide_eq_true h)]
theorem WJ{x:Ex}{v:Int}(h:decide (level x.kind<v)=false):dE x v=aZ x:=by
 unfold dE;rw[if_neg (of_decide_eq_false h)]
abbrev Fun:=Str×Int×Int×Bool
structure MI(k:Int)(es:List (D×D)):Prop where
 a:∀e∈es,∃f∈Dc,e=U8 f
 b:∀f∈Dc,f.2.1=k->U8 f∈es
theorem WL(k:Int):MI k (Dc.map U8):=⟨λe he=>by obtain⟨f,hf,rfl⟩:=List.mem_map.1 he;exact⟨f,hf,rfl⟩,λf hf _=>List.mem_map.2 ⟨f,hf,rfl⟩⟩
theorem z0c{k:Int}{l1 l2:List (D×D)}{x:D×D}(h:MI k (l1++x::l2)):∃f,f∈Dc/\x=U8 f:=by
 obtain⟨f,hf,e⟩:=h.a x (by simp);exact⟨f,hf,e⟩
theorem z0d{k:Int}{l1 l2:List (D×D)}{f:Fun}(h:MI k (l1++U8 f::l2))(hk:(f.2.1 != k)=true):MI k (l1++l2):=by
 refine⟨λe he=>h.a e ?_,λg hg e=>?_⟩
 ·simp only[List.mem_append,List.mem_cons]at he ⊢
  rcases he with he |he
  ·exact .inl he
  ·exact .inr (.inr he)
 ·have:=h.b g hg e
  simp only[List.mem_append,List.mem_cons]at this ⊢
  rcases this with h1 |h1 |h1
  ·exact .inl h1
  ·exfalso
   have:f.2.1=g.2.1:=by
    have:=congrArg Prod.snd h1
    simp only[U8,D.agg.injEq,List.cons.injEq,D.val.injEq,Value.int.injEq]at this
    exact this.1.2.symm
   simp[this,e]at hk
  ·exact .inr h1
theorem MX{k:Int}(h:MI k []):Ah k=none:=by
 have:∀fs:List Fun,(∀f∈fs,f.2.1≠k)->z3l k fs=none:=by
  intro fs
  induction fs with
  |nil=>intro _;rfl
  |cons x r ih=>
   intro ha
   obtain⟨w,c,n,b⟩:=x
   have h1:(c==k)=false:=by simpa using ha (w,c,n,b) (by simp)
   simp only[z3l,h1,Bool.false_eq_true,if_false]
   exact ih λy hy=>ha y (by simp[hy])
 exact this Dc λf hf e=>by simpa using h.b f hf e
theorem Dh{k:Int}{f:Fun}(hf:f∈Dc)(hk:(f.2.1 != k)=false):Ah k=some (f.1,f.2.2):=by
 have hk:f.2.1=k:=by simpa using hk
 subst hk
 simp only[Dc,List.mem_cons,List.not_mem_nil,or_false]at hf
 rcases hf with rfl |rfl |rfl |rfl |rfl |rfl |rfl |rfl<;>rfl
theorem z7j{f:Fun}(hf:f∈Dc):0<=f.2.2.1/\f.2.2.1<=2:=by
 simp only[Dc,List.mem_cons,List.not_mem_nil,or_false]at hf
 rcases hf with rfl |rfl |rfl |rfl |rfl |rfl |rfl |rfl<;>decide
theorem TR{x:Ex}{f:Str×Int×Bool}(h0:jJ x.kind=none)(h:Ah x.kind=some f):aZ x=wd f.1::sg nN::((if f.2.2 then [wd x.name,sg aU]else [])++(Fv x.l f.2.1.toNat 0++[sg uj])):=by
 cases x with
 |mk k nm i n l=>
  simp only[Ex.kind]at h h0
  rw[aZ,h0];simp only[h];rfl
theorem Ht{x:Ex}(h0:jJ x.kind=none)(h:Ah x.kind=none)(h1:(x.kind==1)=true):aZ x=gm x.n:=by
 cases x with
 |mk k nm i n l=>
  simp only[Ex.kind]at h h0 h1
  rw[aZ,h0];simp only[h,h1,if_true];rfl
theorem Di{x:Ex}(h0:jJ x.kind=none)(h:Ah x.kind=none)(h1:(x.kind==1)=false):aZ x = [wd x.name]:=by
 cases x with
 |mk k nm i n l=>
  simp only[Ex.kind]at h h0 h1
  rw[aZ,h0];simp only[h,h1,Bool.false_eq_true,if_false];rfl
section
variable {x : Ex} {v : Int} {ts : List Tk}
theorem z4x(h:decide (level x.kind<v)=true)(hn:ts.length+(dE x v).length<=1073741823):ts.length+[sg nN].length<=1073741823:=by
 rw[yP h]at hn;simp only[List.length_cons,List.length_append,List.length_nil]at hn ⊢;omega
theorem z4y(h:decide (level x.kind<v)=true)(hn:ts.length+(dE x v).length<=1073741823):(ts++[sg nN]).length+(aZ x).length<=1073741823:=by
 rw[yP h]at hn;simp only[List.length_cons,List.length_append,List.length_nil]at hn ⊢;omega
theorem z4z(h:decide (level x.kind<v)=true)(hn:ts.length+(dE x v).length<=1073741823):(ts++[sg nN]++aZ x).length+[sg uj].length<=1073741823:=by
 rw[yP h]at hn;simp only[List.length_cons,List.length_append,List.length_nil]at hn ⊢;omega
theorem z5a(h:decide (level x.kind<v)=true):List.map Tk.cs (ts++[sg nN]++aZ x++[sg uj])=List.map Tk.cs (ts++dE x v):=by
 rw[yP h];simp
theorem z0e{f:Form}{k:Int}(he:jJ k=some f):f.1.length<=9223372036854775807:=by have:=MW he;omega
end
structure AT(x:Ex)(g:Fun)(R:List Tk)(i:Nat)(t:List Tk):Prop where
 eq:t++(Fv (x.l.drop i) (g.2.2.1.toNat-i) i++[sg uj])=R
section
variable {x y : Ex} {g : Fun} {ts t1 : List Tk} {i : Nat}
theorem O6(he:jJ x.kind=none)(hk:Ah x.kind=some (g.1,g.2.2)):aZ x=wd g.1::sg nN::((if g.2.2.2 then [wd x.name,sg aU]else [])++(Fv x.l g.2.2.1.toNat 0++[sg uj])):=TR he hk
theorem z7k(hn:ts.length+(aZ x).length<=1073741823)(he:jJ x.kind=none)(hk:Ah x.kind=some (g.1,g.2.2)):ts.length+[g.1].length<=1073741823:=by
 rw[O6 he hk]at hn;simp only[List.length_cons,List.length_append,List.length_nil]at hn ⊢;omega
theorem z7l(hn:ts.length+(aZ x).length<=1073741823)(he:jJ x.kind=none)(hk:Ah x.kind=some (g.1,g.2.2)):(ts++[g.1].map wd).length+[sg nN].length<=1073741823:=by
 rw[O6 he hk]at hn;simp only[List.length_cons,List.length_append,List.length_nil,List.length_map]at hn ⊢;omega
theorem z7m(hn:ts.length+(aZ x).length<=1073741823)(he:jJ x.kind=none)(hk:Ah x.kind=some (g.1,g.2.2))(hb:g.2.2.2=true):(ts++[g.1].map wd++[sg nN]).length+[x.name].length<=1073741823:=by
 rw[O6 he hk,hb]at hn;simp only[List.length_cons,List.length_append,List.length_nil,List.length_map,if_true]at hn ⊢;omega
theorem z7n(hn:ts.length+(aZ x).length<=1073741823)(he:jJ x.kind=none)(hk:Ah x.kind=some (g.1,g.2.2))(hb:g.2.2.2=true):(ts++[g.1].map wd++[sg nN]++[x.name].map wd).length+[sg aU].length<=1073741823:=by
 rw[O6 he hk,hb]at hn;simp only[List.length_cons,List.length_append,List.length_nil,List.length_map,if_true]at hn ⊢;omega
theorem z7o(he:jJ x.kind=none)(hk:Ah x.kind=some (g.1,g.2.2))(hb:g.2.2.2=true):AT x g (ts++aZ x) 0 (ts++[g.1].map wd++[sg nN]++[x.name].map wd++[sg aU]):=
 ⟨by rw[O6 he hk,hb];simp⟩
theorem z7p(he:jJ x.kind=none)(hk:Ah x.kind=some (g.1,g.2.2))(hb:g.2.2.2=false):AT x g (ts++aZ x) 0 (ts++[g.1].map wd++[sg nN]):=
 ⟨by rw[O6 he hk,hb];simp⟩
theorem TS(h:decide ((i:Int)<mm2 false g.2.2.1 ((Ex.css x.l).length:Int))=true):i<x.l.length/\i<g.2.2.1.toNat:=by
 have h:=of_decide_eq_true h
 rw[Ex.css_eq,List.length_map]at h
 simp only[mm2]at h
 split at h<;>omega
theorem TT(h:decide ((i:Int)<mm2 false g.2.2.1 ((Ex.css x.l).length:Int))=true)(hy:x.l[i]? = some y):Fv (x.l.drop i) (g.2.2.1.toNat-i) i=(if 0<i then [sg aU]else [])++(dE y 0++Fv (x.l.drop (i+1)) (g.2.2.1.toNat-(i+1)) (i+1)):=by
 obtain⟨h1,h2⟩:=TS h
 obtain⟨h3,rfl⟩:=List.getElem?_eq_some_iff.1 hy
 rw[List.drop_eq_getElem_cons h1,Ar]
 obtain⟨m,hm⟩:∃m,g.2.2.1.toNat-i=m+1:=⟨g.2.2.1.toNat-i-1,by omega⟩
 rw[hm,show g.2.2.1.toNat-(i+1)=m by omega]
 rfl
theorem z0f(hI:AT x g (ts++aZ x) i t1)(h:decide ((i:Int)<mm2 false g.2.2.1 ((Ex.css x.l).length:Int))=true)(h0:decide ((i:Int)>0)=true)(hy:x.l[i]? = some y):AT x g (ts++aZ x) (i+1) (t1++[sg aU]++dE y 0):=by
 have h1:=hI.eq
 have h0:=of_decide_eq_true h0
 rw[TT h hy,if_pos (by omega)]at h1
 exact⟨by rw[<-h1];simp only[List.append_assoc]⟩
theorem z5b(hI:AT x g (ts++aZ x) i t1)(h:decide ((i:Int)<mm2 false g.2.2.1 ((Ex.css x.l).length:Int))=true)(h0:decide ((i:Int)>0)=false)(hy:x.l[i]? = some y):AT x g (ts++aZ x) (i+1) (t1++dE y 0):=by
 have h1:=hI.eq
 have h0:=of_decide_eq_false h0
 rw[TT h hy,if_neg (by omega)]at h1
 exact⟨by rw[<-h1];simp only[List.nil_append,List.append_assoc]⟩
theorem z7q(hn:ts.length+(aZ x).length<=1073741823)(hI:AT x g (ts++aZ x) i t1)(h:decide ((i:Int)<mm2 false g.2.2.1 ((Ex.css x.l).length:Int))=true)(h0:decide ((i:Int)>0)=true):t1.length+[sg aU].length<=1073741823:=by
 obtain⟨h2,-⟩:=TS h
 have h1:=congrArg List.length (z0f hI h h0 (List.getElem?_eq_getElem h2)).eq
 simp only[List.length_append]at h1 ⊢;omega
theorem z7r(hn:ts.length+(aZ x).length<=1073741823)(hI:AT x g (ts++aZ x) i t1)(h:decide ((i:Int)<mm2 false g.2.2.1 ((Ex.css x.l).length:Int))=true)(h0:decide ((i:Int)>0)=true)(hy:x.l[i]? = some y):(t1++[sg aU]).length+(dE y 0).length<=1073741823:=by
 have h1:=congrArg List.length (z0f hI h h0 hy).eq
 simp only[List.length_append]at h1 ⊢;omega
theorem z7s(hn:ts.length+(aZ x).length<=1073741823)(hI:AT x g (ts++aZ x) i t1)(h:decide ((i:Int)<mm2 false g.2.2.1 ((Ex.css x.l).length:Int))=true)(h0:decide ((i:Int)>0)=false)(hy:x.l[i]? = some y):t1.length+(dE y 0).length<=1073741823:=by
 have h1:=congrArg List.length (z5b hI h h0 hy).eq
 simp only[List.length_append]at h1 ⊢;omega
theorem z7t(hI:AT x g (ts++aZ x) i t1)(h:decide ((i:Int)<mm2 false g.2.2.1 ((Ex.css x.l).length:Int))=false):t1++[sg uj]=ts++aZ x:=by
 have h1:=hI.eq
 have h:=of_decide_eq_false h
 rw[Ex.css_eq,List.length_map]at h
 have h2:Fv (x.l.drop i) (g.2.2.1.toNat-i) i = []:=by
  by_cases hi:i<x.l.length
  ·have:g.2.2.1.toNat-i=0:=by
    simp only[mm2]at h
    split at h<;>omega
   rw[this]
   cases x.l.drop i<;>rfl
  ·rw[List.drop_eq_nil_of_le (by omega)];rfl
 rw[h2]at h1
 exact h1
theorem z7u(hn:ts.length+(aZ x).length<=1073741823)(hI:AT x g (ts++aZ x) i t1)(h:decide ((i:Int)<mm2 false g.2.2.1 ((Ex.css x.l).length:Int))=false):t1.length+[sg uj].length<=1073741823:=by
 have h1:=congrArg List.length (z7t hI h)
 simp only[List.length_append]at h1 ⊢;omega
theorem z5c(h:decide ((i:Int)<mm2 false g.2.2.1 ((Ex.css x.l).length:Int))=true):x.l.length-(i+1)<x.l.length-i:=by
 have:=TS h;omega
theorem z9q(hg:g∈Dc)(h:decide ((i:Int)<mm2 false g.2.2.1 ((Ex.css x.l).length:Int))=true):i<=9223372036854775806:=by
 have:=TS h;have:=z7j hg;omega
theorem z7v(hn:ts.length+(aZ x).length<=1073741823)(he:jJ x.kind=none)(hk:Ah x.kind=none)(h:(x.kind==1)=true):ts.length+(gm x.n).length<=1073741823:=by rw[Ht he hk h]at hn;exact hn
theorem z7w(hn:ts.length+(aZ x).length<=1073741823)(he:jJ x.kind=none)(hk:Ah x.kind=none)(h:(x.kind==1)=false):ts.length+[x.name].length<=1073741823:=by rw[Di he hk h]at hn;exact hn
theorem z7x(he:jJ x.kind=none)(hk:Ah x.kind=none)(h:(x.kind==1)=true):List.map Tk.cs (ts++gm x.n)=List.map Tk.cs (ts++aZ x):=by rw[Ht he hk h]
theorem z7y(he:jJ x.kind=none)(hk:Ah x.kind=none)(h:(x.kind==1)=false):List.map Tk.cs (ts++[x.name].map wd)=List.map Tk.cs (ts++aZ x):=by rw[Di he hk h];rfl
end
theorem z9r(k:Int):decide (level k<0)=false:=by
 have:dE (.mk k [] 0 0 []) 0=aZ (.mk k [] 0 0 []):=Ar _
 apply decide_eq_false
 unfold level
 split
 ·decide
 ·split
  ·decide
  ·split<;>decide
abbrev R5(p:Pr):List Tk:=[sg C9]
abbrev R4(p:Pr):List Tk:=p.stmts.flatMap iV++[sg C9]
abbrev R3(p:Pr):List Tk:=p.tables.flatMap tbT++(p.stmts.flatMap iV++[sg C9])
abbrev R2(p:Pr):List Tk:=p.lines.flatMap lnT++(p.tables.flatMap tbT++(p.stmts.flatMap iV++[sg C9]))
abbrev R1(p:Pr):List Tk:=p.states.flatMap (bdT pU)++(p.lines.flatMap lnT++(p.tables.flatMap tbT++(p.stmts.flatMap iV++[sg C9])))
abbrev R0(p:Pr):List Tk:=p.params.flatMap (bdT rP)++(p.states.flatMap (bdT pU)++(p.lines.flatMap lnT++(p.tables.flatMap tbT++(p.stmts.flatMap iV++[sg C9]))))
structure CI(rest R t:List Tk):Prop where
 eq:t++rest=R
variable {a b R t : List Tk}
theorem CI.len{n:Nat}(h:CI (a++b) R t)(hR:R.length<=n):t.length+a.length<=n:=by
 have:=congrArg List.length h.eq
 simp only[List.length_append]at this;omega
theorem CI.go(h:CI (a++b) R t):CI b R (t++a):=⟨by rw[<-h.eq];simp⟩
theorem CI.to(h:CI a R t)(e:a=b):CI b R t:=e ▸ h
section
variable {p : Pr} {ts : List Tk}
theorem pR(hn:ts.length+(gW p).length<=1073741823):(ts++gW p).length<=1073741823:=by simpa using hn
theorem pc1:CI ([wProcessor,p.name,dP].map wd++(gm p.latency++([wTail].map wd++((if p.tail == -1 then [wd fC]else gm p.tail)++([sg sBra]++R0 p))))) (ts++gW p) ts:=⟨by simp[gW]⟩
theorem pc2:CI ((if p.tail == -1 then [wd fC]else gm p.tail)++([sg sBra]++R0 p)) (ts++gW p) (ts++[wProcessor,p.name,dP].map wd++gm p.latency++[wTail].map wd):=pc1.go.go.go
theorem pc3(h:(p.tail == -1)=true):CI ([fC].map wd++([sg sBra]++R0 p)) (ts++gW p) (ts++[wProcessor,p.name,dP].map wd++gm p.latency++[wTail].map wd):=by
 have:=pc2 (p:=p) (ts:=ts);rw[if_pos h]at this;exact this
theorem pc4(h:(p.tail == -1)=false):CI (gm p.tail++([sg sBra]++R0 p)) (ts++gW p) (ts++[wProcessor,p.name,dP].map wd++gm p.latency++[wTail].map wd):=by
 have:=pc2 (p:=p) (ts:=ts);rw[if_neg (by simp[h])]at this;exact this
end
section
variable {R t : List Tk}
theorem O7{w:Str}{b:Bd}{r:List Bd}{X:List Tk}(h:CI ((b::r).flatMap (bdT w)++X) R t):CI ([w,b.name].map wd++(fD b.lo b.hi++(r.flatMap (bdT w)++X))) R t:=h.to (by simp[bdT])
theorem WM{b:Ln}{r:List Ln}{X:List Tk}(h:CI ((b::r).flatMap lnT++X) R t):CI ([G6,b.name].map wd++(gm b.size++(fD b.lo b.hi++(r.flatMap lnT++X)))) R t:=h.to (by simp[lnT])
theorem z0g{b:Tb}{r:List Tb}{X:List Tk}(h:CI ((b::r).flatMap tbT++X) R t):CI ([xW,b.name].map wd++([sg sEq]++(xe 0 b.values++([sg eu]++(r.flatMap tbT++X))))) R t:=h.to (by simp[tbT])
theorem z5d{b:Sm}{r:List Sm}{X:List Tk}(h:CI ((b::r).flatMap iV++X) R t):CI (iV b++(r.flatMap iV++X)) R t:=h.to (by simp)
theorem Dj{α:Type}{f:α->List Tk}{X:List Tk}(h:CI (([]:List α).flatMap f++X) R t):CI X R t:=h.to (by simp)
theorem z0h{i:Nat}{v:Int}{r:List Int}{X:List Tk}(h:CI (xe i (v::r)++X) R t)(h0:decide ((i:Int)>0)=true):CI ([sg aU]++(gm v++(xe (i+1) r++X))) R t:=h.to (by
 have h0:=of_decide_eq_true h0
 rw[xe,if_pos (by omega)];simp)
theorem z5e{i:Nat}{v:Int}{r:List Int}{X:List Tk}(h:CI (xe i (v::r)++X) R t)(h0:decide ((i:Int)>0)=false):CI (gm v++(xe (i+1) r++X)) R t:=h.to (by
 have h0:=of_decide_eq_false h0
 rw[xe,if_neg (by omega)];simp)
theorem z5f{i:Nat}{X:List Tk}(h:CI (xe i []++X) R t):CI X R t:=h
end
theorem z9s{k:Int}{fa fb fc:D}{F:D->Prop}{G:Prop}(h1:(k==1)=true->F fa)(h2:(k==1)=false->(k==2)=true->F fb)(h3:(k==1)=false->(k==2)=false->(k==3)=true->F fc)(h5:(k==1)=false->(k==2)=false->(k==3)=false->G) :
  vT (su (.i k) [(.i 1,fa),(.i 2,fb),(.i 3,fc)]) F G:=by
 simp only[su,eH,sameS]
 cases ha:k==1 with
 |true=>exact h1 ha
 |false=>
  cases hb:k==2 with
  |true=>exact h2 ha hb
  |false=>
   cases hc:k==3 with
   |true=>exact h3 ha hb hc
   |false=>exact h5 ha hb hc
section
variable {s : Sm} {ts : List Tk}
theorem sc1(h:(s.kind==1)=true):CI ([Zx,s.name].map wd++([sg sEq]++(dE s.x 0++([sg eu]++[])))) (ts++iV s) ts:=⟨by simp only[iV,h,if_true];simp⟩
theorem sc2(h1:(s.kind==1)=false)(h:(s.kind==2)=true):CI ([Zy,s.name].map wd++([sg sEq]++(dE s.x 0++([sg eu]++[])))) (ts++iV s) ts:=⟨by simp only[iV,h1,h,if_true,Bool.false_eq_true,if_false];simp⟩
theorem sc3(h1:(s.kind==1)=false)(h2:(s.kind==2)=false)(h:(s.kind==3)=true):CI ([JF,s.name].map wd++([sg sEq]++(dE s.x 0++([sg eu]++[])))) (ts++iV s) ts:=⟨by simp only[iV,h1,h2,h,if_true,Bool.false_eq_true,if_false];simp⟩
theorem sc4(h1:(s.kind==1)=false)(h2:(s.kind==2)=false)(h:(s.kind==3)=false):CI ([Zz].map wd++(dE s.x 0++([sg eu]++[]))) (ts++iV s) ts:=⟨by simp only[iV,h1,h2,h,Bool.false_eq_true,if_false];simp⟩
theorem sR(hn:ts.length+(iV s).length<=1073741823):(ts++iV s).length<=1073741823:=by simpa using hn
theorem bc1{lo hi:Int}:CI ([O1].map wd++(gm lo++([wTo].map wd++(gm hi++([sg eu]++[]))))) (ts++fD lo hi) ts:=⟨by simp[fD]⟩
theorem bR{lo hi:Int}(hn:ts.length+(fD lo hi).length<=1073741823):(ts++fD lo hi).length<=1073741823:=by simpa using hn
theorem Dk{R t a:List Tk}(h:CI (a++[]) R t):List.map Tk.cs (t++a)=List.map Tk.cs R:=by rw[<-h.eq];simp
end
end Go.Fw.Sy
namespace Go.Fw.Sy
open Go.Fw Go.Fw.Ref15
variable [ae]
def lenE{α:Type}(f:α×α->Bool)(l m:List α):Bool:=!((l.length:Int) != (m.length:Int))&&(l.zip m).all f
def z5g(v:Int×Int):Bool:=!(v.1 != v.2)
def TU(l m:List Int):Bool:=lenE z5g l m
def exE(q:Ex×Ex):Bool:=dG q.1 q.2
def z5h(l m:List Ex):Bool:=lenE exE l m
def tbE(q:Tb×Tb):Bool:=q.1.name==q.2.name&&TU q.1.values q.2.values
def smE(q:Sm×Sm):Bool:=((q.1.kind==q.2.kind&&q.1.name==q.2.name)&&q.1.index==q.2.index)&&dG q.1.x q.2.x
def TV(a b:Pr):Bool:=(a.name==b.name&&a.latency==b.latency)&&a.tail==b.tail
def lS(a b:Pr):Bool:=((((TV a b&&dK a.params b.params)&&dK a.states b.states)&&lenE lM a.lines b.lines)&&lenE tbE a.tables b.tables)&&lenE smE a.stmts b.stmts
theorem EH(a b:Ex):(a.kind==b.kind&&a.name==b.name&&a.index==b.index&&a.n==b.n&&z5h a.l b.l)=dG a b:=by
 rw[kQ,z5h,lenE]
 by_cases hl:a.l.length=b.l.length
 ·rw[pM hl]
  have e:((a.l.length:Int) != (b.l.length:Int))=false:=by simp[hl]
  rw[e]
  by_cases h1:a.kind=b.kind<;>by_cases h2:a.name=b.name<;>by_cases h3:a.index=b.index<;>by_cases h4:a.n=b.n<;>simp[h1,h2,h3,h4]<;>rfl
 ·have e:((a.l.length:Int) != (b.l.length:Int))=true:=by simp;omega
  rw[e];simp
theorem WN(l m:List Bd):dK l m=lenE rJ l m:=rfl
theorem TW{α:Type}{f:α×α->Bool}(h:∀x y,f (x,y)=true↔x=y):∀l m:List α,l.length=m.length->((l.zip m).all f=true↔l=m)
 | [],[],_=>by simp
 |x::r,y::s,hl=>by
  have:=TW h r s (by simpa using hl)
  simp only[List.zip_cons_cons,List.all_cons,Bool.and_eq_true,h x y,this,List.cons.injEq]
 | [],_::_,hl=>by simp at hl
 |_::_,[],hl=>by simp at hl
theorem qB{α:Type}{f:α×α->Bool}(h:∀x y,f (x,y)=true↔x=y)(l m:List α):lenE f l m=true↔l=m:=by
 unfold lenE
 by_cases hl:l.length=m.length
 ·have e:(!((l.length:Int) != (m.length:Int)))=true:=by simp[hl]
  rw[e,Bool.true_and]
  exact TW h l m hl
 ·have e:(!((l.length:Int) != (m.length:Int)))=false:=by simp;omega
  rw[e,Bool.false_and]
  constructor
  ·intro h;cases h
  ·intro h;exact absurd (congrArg List.length h) hl
theorem WO(x y:Int):z5g (x,y)=true↔x=y:=by simp[z5g]
theorem z0i(x y:Bd):rJ (x,y)=true↔x=y:=by
 obtain⟨a,b,c⟩:=x
 obtain⟨d,e,f⟩:=y
 simp[rJ,Go.Fw.sameL,Go.Fw.sameS]
theorem z0j(x y:Ln):lM (x,y)=true↔x=y:=by
 obtain⟨a,b,c,d⟩:=x
 obtain⟨e,f,g,h⟩:=y
 simp[lM,Go.Fw.sameL,Go.Fw.sameS]
theorem z0k(x y:Tb):tbE (x,y)=true↔x=y:=by
 obtain⟨a,b⟩:=x
 obtain⟨c,d⟩:=y
 simp only[tbE,TU,Bool.and_eq_true,beq_iff_eq,qB WO,Tb.mk.injEq]
theorem z0l:∀x y:Ex,dG x y=true↔x=y:=by
 refine Ex.ind λx ih y=>?_
 obtain⟨k,n,i,m,l⟩:=x
 obtain⟨k',n',i',m',l'⟩:=y
 have ih:∀z∈l,∀y,dG z y=true↔z=y:=ih
 rw[kQ]
 have key:∀l l':List Ex,l.length=l'.length->(∀z∈l,∀y,dG z y=true↔z=y)->((l.zip l').all (λq=>dG q.1 q.2)=true↔l=l'):=by
  intro l
  induction l with
  |nil=>intro l' hl _;cases l' with
   |nil=>simp
   |cons _ _=>simp at hl
  |cons x r ir=>
   intro l' hl hz
   cases l' with
   |nil=>simp at hl
   |cons y s=>
    have:=ir s (by simpa using hl) (λz hz'=>hz z (by simp[hz']))
    simp only[List.zip_cons_cons,List.all_cons,Bool.and_eq_true,hz x (by simp) y,this,List.cons.injEq]
 show(if(k != k' || n != n' || i != i' || m != m' || (l.length:Int) != (l'.length:Int))=true then false else Ref15.sameL l l')=true↔_
 by_cases hl:l.length=l'.length
 ·have:=key l l' hl ih
  rw[pM hl]
  rw[Ex.mk.injEq,<-this]
  by_cases h1:k=k'<;>by_cases h2:n=n'<;>by_cases h3:i=i'<;>by_cases h4:m=m'<;>simp[h1,h2,h3,h4,hl]
 ·have e:((l.length:Int) != (l'.length:Int))=true:=by simp;omega
  rw[e,Bool.or_true,if_pos rfl]
  constructor
  ·intro h;cases h
  ·intro h
   injection h with _ _ _ _ h
   exact absurd (congrArg List.length h) hl
theorem z0m(x y:Sm):smE (x,y)=true↔x=y:=by
 obtain⟨a,b,c,d⟩:=x
 obtain⟨e,f,g,h⟩:=y
 simp only[smE,Bool.and_eq_true,beq_iff_eq,z0l,Sm.mk.injEq,and_assoc]
theorem O8(a b:Pr):lS a b=true↔a=b:=by
 obtain⟨a1,a2,a3,a4,a5,a6,a7,a8⟩:=a
 obtain⟨b1,b2,b3,b4,b5,b6,b7,b8⟩:=b
 simp only[lS,TV,WN,Bool.and_eq_true,beq_iff_eq,qB z0i,qB z0j,qB z0k,qB z0m,Pr.mk.injEq,and_assoc]
end Go.Fw.Sy
namespace Go.Fw.Sy
open Go.Fw Go.Fw.Ref15
variable [ae] {k : Int}
def BG(k:Int):Int:=if k==3 || k==4 || k==5 then 2 else k
theorem qC(x:Ex):bareX x=⟨BG x.kind,x.name,0,x.n,x.l.map bareX⟩:=by
 cases x;rw[bareX,bareL_eq];rfl
theorem z0n(h:(k==3)=true):BG k=2:=by rw[BG,h];rfl
theorem z0o(h:(k==4)=true):BG k=2:=by rw[BG,h,Bool.or_true];rfl
theorem z0p(h:(k==5)=true):BG k=2:=by rw[BG,h,Bool.or_true];rfl
theorem z0q(h1:(k==3)=false)(h2:(k==4)=false)(h3:(k==5)=false):BG k=k:=by rw[BG,h1,h2,h3];rfl
abbrev prs(l:List Pr):D:=.sl 8 (l.map Pr.cs)
end Go.Fw.Sy
namespace Go.Fw.Sy
open Go.Fw Go.Fw.Ref15
variable [ae]
structure BI(p:Pr)(dn rs r0:List Sm)(i0:Nat):Prop where
 r:rs=r0
 n:dn.length=i0
 l:dn++rs=p.stmts
variable {dn rs r0 : List Sm} {i0 : Nat} {p : Pr} {x0 : Sm}
abbrev smb(s:Sm):List D:=(bareS s).cs
theorem Yj(h:BI p dn rs (x0::r0) i0):(dn.map smb++rs.map Sm.cs)[0+(i0:Int).toNat]? = some x0.cs:=by
 obtain⟨rfl,rfl,_⟩:=h
 simp
theorem z0r(h:BI p dn rs (x0::r0) i0){y:List D}:((dn.map smb++rs.map Sm.cs).set (0+(i0:Int).toNat) y)[0+(i0:Int).toNat]? = some y:=by
 obtain⟨rfl,rfl,_⟩:=h
 simp
theorem z5i(h:BI p dn rs (x0::r0) i0){y z:List D}(hz:z=smb x0):((dn.map smb++rs.map Sm.cs).set (0+(i0:Int).toNat) y).set (0+(i0:Int).toNat) z=(dn++[x0]).map smb++r0.map Sm.cs:=by
 obtain⟨rfl,rfl,_⟩:=h
 subst hz
 simp
theorem Yk{dn rs:List Sm}(h:BI p dn rs [] i0):0+p.stmts.length<=(dn.map smb++rs.map Sm.cs).length/\(p.stmts.map bareS).map Sm.cs=((dn.map smb++rs.map Sm.cs).drop 0).take (0+p.stmts.length):=by
 obtain⟨rfl,rfl,h⟩:=h
 rw[List.append_nil]at h
 subst h
 simp only[List.map_nil,List.append_nil,List.drop_zero,Nat.zero_add,List.length_map,List.map_map]
 exact⟨Nat.le_refl _,(List.take_of_length_le (by simp)).symm⟩
theorem z0s(h:BI p dn rs (x0::r0) i0):BI p (dn++[x0]) r0 r0 (i0+1):=by
 obtain⟨rfl,rfl,h⟩:=h
 exact⟨rfl,by simp,by simpa using h⟩
theorem z7z{l:List Sm}{i:Nat}(h:i<l.length):(i:Int)<((l.length:Nat):Int):=Int.ofNat_lt.2 h
theorem WP{T:Tbl}{rs:List ResultVar}{K0 K K1:Heap}{out:gp}{env:Env}(env':Env)(K':Heap)(h1:qX env K env' K')(h2:Go.Fw.finR T rs K0 out K1 env' K'):Go.Fw.finR T rs K0 out K1 env K\/∃env' K',YC env K env' K'/\Go.Fw.finR T rs K0 out K1 env' K':=.inr ⟨env',K',by rw[<-kE];exact h1,h2⟩
theorem z0t{τ:List (Nat×Nat)}{i j v s n m:Nat}(h:i=rn τ j)(h2:n=m):AV.own i v s 0 n=AV.ren τ (AV.own j v s 0 m):=by
 subst h h2;simp only[AV.ren]
theorem WQ{v s:Nat}{k' l m:List (List D)}(h:l=m):Block.arr v s (List.take 0 k'++l)=Block.arr v s m:=by
 subst h;simp
end Go.Fw.Sy
namespace Go.Fw.Sy
open Go.Fw Go.Fw.Lx
variable [ae]
def allT(l:List Pr):List Tk:=l.flatMap gW
def JP(l m:List Pr):Bool:=lenE (λq=>lS q.1 (bareP q.2)) l m
def textS(w:List Tk):Str:=Lib.join (w.map word) [32]
def Au:D:=.tuple [.str [],.i 140]
def pW(l:List Pr):D:=
 if(allT l).all valid then(match(jV (allT l)).1 with
  |none=>Au
  |some ps=>if JP ps l then .tuple [.str (textS (allT l)),.i 0]else Au)
 else Au
def xX(s:Str):D:=if decide ((s.length:Int)>65536)then .tuple [.sl 8 [],.i 0,.i 2]else match jl pStep s 0 with
 | .error a=>.tuple [.sl 8 [],.i (a:Nat),.i 30]
 | .ok l=>readD (s.length:Int) (jV l)
theorem WR{l:List Tk}(h:l.all valid=false):GV l = .tuple [.str [],.i 30]:=by rw[GV,h];rfl
theorem Aw{l:List Tk}(h:l.all valid=true):GV l = .tuple [.str (textS l),.i 0]:=by rw[GV,h];rfl
theorem qE{e:Int}{r:Option (List Pr)×List Tk}{ps:List Pr}(h:r.1=some ps):readD e r = .tuple [.sl 8 (ps.map Pr.cs),.i 0,.i 0]:=by
 obtain⟨o,l⟩:=r;subst h;rfl
theorem xw{e:Int}{r:Option (List Pr)×List Tk}(h:r.1=none):readD e r = .tuple [.sl 8 [],.i (at' e r.2),.i 140]:=by
 obtain⟨o,l⟩:=r;subst h;rfl
structure WrI(l r:List Pr)(ts:List Tk):Prop where
 e:allT l=ts++allT r
variable {ts : List Tk}
theorem MZ{l r:List Pr}{p:Pr}(h:WrI l (p::r) ts)(hn:(allT l).length<=1073741823):ts.length+(gW p).length<=1073741823:=by
 have:=congrArg List.length h.e
 simp only[allT,List.flatMap_cons,List.length_append]at this hn
 omega
theorem EI{l r:List Pr}{p:Pr}(h:WrI l (p::r) ts):WrI l r (ts++gW p):=⟨by rw[h.e];simp[allT]⟩
theorem yQ(l:List Pr):WrI l l []:=⟨rfl⟩
theorem Na{l:List Pr}(h:WrI l [] ts):ts=allT l:=by rw[h.e];simp[allT]
theorem z5j{s:Str}{l:List Tk}(h:jl pStep s 0 = .ok l):l.length<=s.length/\l.all valid=true:=by
 rw[Tm]at h
 have:=Ac _ s 0 l (Nat.le_refl _) h
 exact⟨this.2.2,this.1⟩
theorem z5k{s:Str}(hs:s.length<=1073741823):∀l,jl pStep s 0 = .ok l->l.length<=1073741823:=λ_ h=>Nat.le_trans (z5j h).1 hs
theorem z0u:xX [] = .tuple [.sl 8 [],.i 0,.i 0]:=by kernel_rfl
end Go.Fw.Sy
