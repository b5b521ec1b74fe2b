/- Package syntax, as plain functions: its parser. -/
import Derived.Test.YtmfehangcmbidaaGreatDoorZDL
set_option linter.unusedSectionVars false
set_option linter.unusedSimpArgs false
set_option linter.unusedVariables false
namespace Go.Fw.Sy
open Go.Fw.Lx (Tk)
abbrev Str:=List UInt8
abbrev wProcessor:Str:=[112,114,111,99,101,115,115,111,114]
abbrev cZ:Str:=[108,97,116,101,110,99,121]
abbrev wTail:Str:=[116,97,105,108]
abbrev dR:Str:=[102,111,114,101,118,101,114]
abbrev uh:Str:=[112,97,114,97,109]
abbrev qA:Str:=[115,116,97,116,101]
abbrev ES:Str:=[108,105,110,101]
abbrev wB:Str:=[116,97,98,108,101]
abbrev MJ:Str:=[102,114,111,109]
abbrev wTo:Str:=[116,111]
abbrev Qk:Str:=[108,101,116]
abbrev Ql:Str:=[115,101,116]
abbrev yY:Str:=[112,117,115,104]
abbrev Qm:Str:=[111,117,116]
abbrev wIf:Str:=[105,102]
abbrev kL:Str:=[116,104,101,110]
abbrev kM:Str:=[101,108,115,101]
abbrev wIn:Str:=[105,110]
abbrev z1c:Str:=[115,105,100,101]
abbrev z7i:Str:=[116,97,112]
abbrev z1d:Str:=[108,111,111,107]
abbrev z7j:Str:=[115,97,116]
abbrev z7k:Str:=[109,105,110]
abbrev z7l:Str:=[109,97,120]
abbrev z7m:Str:=[97,98,115]
abbrev sPar:Str:=[40]
abbrev sKet:Str:=[41]
abbrev aS:Str:=[44]
abbrev bP:Str:=[59]
abbrev sEq:Str:=[61]
abbrev sLt:Str:=[60]
abbrev lG:Str:=[43]
abbrev dh:Str:=[45]
abbrev kw:Str:=[42]
abbrev iW:Str:=[47]
abbrev sBra:Str:=[123]
abbrev zC:Str:=[125]
def words:List Str:=[wProcessor,cZ,wTail,dR,uh,qA,ES,wB,MJ,wTo,Qk,Ql,yY,Qm,wIf,kL,kM,wIn,z1c,z7i,z1d,z7j,z7k,z7l,z7m]
def hd:List Tk->Tk
 | []=>⟨0,[],0,0⟩
 |t::_=>t
def isT(s:Str)(l:List Tk):Bool:=(!l.isEmpty&&(hd l).kind != 2)&&(hd l).text==s
def isNm(l:List Tk):Bool:=(!l.isEmpty&&(hd l).kind==1) && !words.contains (hd l).text
def isNum(l:List Tk):Bool:=(!l.isEmpty&&(hd l).kind==2)&&decide ((hd l).n<=2147483648)
abbrev PM(α:Type):=List Tk->Option α×List Tk
def bnd{α β:Type}(r:Option α×List Tk)(f:α->PM β):Option β×List Tk:=match r with
 |(none,l)=>(none,l)
 |(some x,l)=>f x l
def aC(s:Str):PM Unit:=λl=>if isT s l then(some (),l.drop 1)else(none,l)
def nameM:PM Str:=λl=>if isNm l then(some (hd l).text,l.drop 1)else(none,l)
def numM:PM Int:=λl=>if isNum l then(some (hd l).n,l.drop 1)else(none,l)
def zN:PM Int:=λl=>if isT dh l then bnd (numM (l.drop 1)) λn r=>(some (IntKind.i64.wrap (0-n)),r)else numM l
abbrev ex1(k:Int)(x:Ex):Ex:=.mk k [] 0 0 [x]
abbrev ex2(k:Int)(x y:Ex):Ex:=.mk k [] 0 0 [x,y]
def prodL(u:PM Ex):Nat->Ex->PM Ex
 | 0,x=>λl=>(some x,l)
 |n+1,x=>λl=>
  if isT kw l then bnd (u (l.drop 1)) λy=>prodL u n (ex2 17 x y)
  else if isT iW l then
   (if isNum (l.drop 1)&&(hd (l.drop 1)).n==0 then(none,l.drop 1)else bnd (numM (l.drop 1)) λk=>prodL u n (.mk 18 [] 0 k [x]))
  else(some x,l)
def gy(u:PM Ex):PM Ex:=λl=>bnd (u l) λx r=>prodL u r.length x r
def sumL(u:PM Ex):Nat->Ex->PM Ex
 | 0,x=>λl=>(some x,l)
 |n+1,x=>λl=>
  if isT lG l then bnd (gy u (l.drop 1)) λy=>sumL u n (ex2 15 x y)
  else if isT dh l then bnd (gy u (l.drop 1)) λy=>sumL u n (ex2 16 x y)
  else(some x,l)
def sumM(u:PM Ex):PM Ex:=λl=>bnd (gy u l) λx r=>sumL u r.length x r
def exprF(u:PM Ex):Nat->PM Ex
 | 0=>λl=>(none,l)
 | n+1=>λl=>if isT wIf l then
   bnd (sumM u (l.drop 1)) λa l=>bnd (aC sLt l) λ_ l=>bnd (sumM u l) λb l=>bnd (aC kL l) λ_ l=>
    bnd (exprF u n l) λc l=>bnd (aC kM l) λ_ l=>bnd (exprF u n l) λd l=>(some (.mk 19 [] 0 0 [a,b,c,d]),l)
  else sumM u l
def iT(u:PM Ex):PM Ex:=λl=>exprF u (l.length+1) l
def wF:List (Str×Int×Int×Bool):=[(wIn,6,1,false),(z1c,7,1,false),(z7j,10,1,false),(z7m,13,1,false),(z7i,8,1,true),(z1d,9,1,true),(z7k,11,2,false),(z7l,12,2,false)]
def wG(u:PM Ex):Nat->Nat->List Ex->PM (List Ex)
 | 0,_,acc=>λl=>(some acc,l)
 |m+1,i,acc=>λl=>bnd (if 0<i then aC aS l else(some (),l)) λ_ l=>bnd (iT u l) λx l=>wG u m (i+1) (acc++[x]) l
def argsM(u:PM Ex)(k:Int)(n:Nat)(named:Bool):PM Ex:=λl=>
 bnd (aC sPar l) λ_ l=>bnd (if named then bnd (nameM l) λs l=>bnd (aC aS l) λ_ l=>(some s,l)else(some [],l)) λs l=>
  bnd (wG u n 0 [] l) λxs l=>bnd (aC sKet l) λ_ l=>(some (.mk k s 0 0 xs),l)
def look(s:Str):List (Str×Int×Int×Bool)->Option (Int×Int×Bool)
 | []=>none
 |(w,f)::r=>if s==w then some f else look s r
def unitB(u:Option (PM Ex)):PM Ex:=λl=>
 if isNum l then(some (.mk 1 [] 0 (hd l).n []),l.drop 1)
 else if isNm l then(some (.mk 2 (hd l).text 0 0 []),l.drop 1)
 else match u with
  |none=>(none,l)
  |some u=>
   if isT dh l then bnd (u (l.drop 1)) λx l=>(some (ex1 14 x),l)
   else if isT sPar l then bnd (iT u (l.drop 1)) λx l=>bnd (aC sKet l) λ_ l=>(some x,l)
   else match look (hd l).text wF with
    |some f=>if(hd l).kind==1 then argsM u f.1 f.2.1.toNat f.2.2 (l.drop 1)else(none,l)
    |none=>(none,l)
def gX:Nat->PM Ex
 | 0=>unitB none
 |k+1=>unitB (some (gX k))
def lh:PM (Int×Int):=λl=>bnd (aC MJ l) λ_ l=>bnd (zN l) λlo l=>bnd (aC wTo l) λ_ l=>bnd (zN l) λhi l=>(some (lo,hi),l)
def qB:PM Bd:=λl=>bnd (nameM l) λs l=>bnd (lh l) λb l=>(some ⟨s,b.1,b.2⟩,l)
abbrev IM:=Pr->List Tk->Bool×Pr×List Tk
def itB{α:Type}(p:Pr)(r:Option α×List Tk)(f:α->List Tk->Bool×Pr×List Tk):Bool×Pr×List Tk:=match r with
 |(none,l)=>(false,p,l)
 |(some x,l)=>f x l
def qC:IM:=λp l=>itB p (qB l) λb l=>(true,{ p with params:=p.params++[b] },l)
def qE:IM:=λp l=>itB p (qB l) λb l=>(true,{ p with states:=p.states++[b] },l)
def zO:IM:=λp l=>itB p (nameM l) λs l=>itB p (numM l) λn l=>itB p (lh l) λb l=>(true,{ p with lines:=p.lines++[⟨s,n,b.1,b.2⟩] },l)
def listL:Nat->List Int->PM (List Int)
 | 0,acc=>λl=>(some acc,l)
 |n+1,acc=>λl=>if isT aS l then bnd (zN (l.drop 1)) λv l=>listL n (acc++[v]) l else(some acc,l)
def wQ:PM (List Int):=λl=>bnd (zN l) λv l=>listL l.length [v] l
def qF:IM:=λp l=>itB p (nameM l) λs l=>itB p (aC sEq l) λ_ l=>itB p (wQ l) λvs l=>(true,{ p with tables:=p.tables++[⟨s,vs⟩] },l)
def jo(k:Int):IM:=λp l=>itB p (if k != 4 then bnd (nameM l) λs l=>bnd (aC sEq l) λ_ l=>(some s,l)else(some [],l)) λs l=>
 itB p (iT (gX 63) l) λx l=>(true,{ p with stmts:=p.stmts++[⟨k,s,0,x⟩] },l)
def decls:List (Str×IM):=[(uh,qC),(qA,qE),(ES,zO),(wB,qF)]
def stmts:List (Str×IM):=[(Qk,jo 1),(Ql,jo 2),(yY,jo 3),(Qm,jo 4)]
def find(s:Str):List (Str×IM)->Option IM
 | []=>none
 |(w,f)::r=>if s==w then some f else find s r
def itemsF(t:List (Str×IM)):Nat->IM
 | 0=>λp l=>(true,p,l)
 |n+1=>λp l=>if l.isEmpty then(true,p,l)else match find (hd l).text t with
  |none=>(true,p,l)
  | some f=>if isT (hd l).text l then match f p (l.drop 1)with
    |(false,p,l)=>(false,p,l)
    |(true,p,l)=>itB p (aC bP l) λ_ l=>itemsF t n p l
   else(true,p,l)
def ed(t:List (Str×IM)):IM:=λp l=>itemsF t l.length p l
def mr:PM Pr:=λl=>bnd (aC wProcessor l) λ_ l=>bnd (nameM l) λs l=>bnd (aC cZ l) λ_ l=>bnd (numM l) λa l=>
 bnd (aC wTail l) λ_ l=>bnd (if isNum l then numM l else bnd (aC dR l) λ_ l=>(some (-1),l)) λt l=>bnd (aC sBra l) λ_ l=>
  match ed decls ⟨s,a,t,[],[],[],[],[]⟩ l with
  |(false,_,l)=>(none,l)
  |(true,p,l)=>match ed stmts p l with
   |(false,_,l)=>(none,l)
   |(true,p,l)=>bnd (aC zC l) λ_ l=>(some p,l)
def readF:Nat->List Pr->PM (List Pr)
 | 0,ps=>λl=>(some ps,l)
 |n+1,ps=>λl=>if l.isEmpty then(some ps,l)else bnd (mr l) λp l=>readF n (ps++[p]) l
def iU(l:List Tk):Option (List Pr)×List Tk:=readF l.length [] l
def at'(e:Int):List Tk->Int
 | []=>e
 |t::_=>t.pos
abbrev wd(s:Str):Tk:=⟨1,s,0,0⟩
abbrev sg(s:Str):Tk:=⟨3,s,0,0⟩
abbrev nu(n:Int):Tk:=⟨2,[],n,0⟩
def jq(n:Int):List Tk:=if n<0 then [sg dh,nu (IntKind.i64.wrap (0-n))]else [nu n]
def level(k:Int):Int:=if k==19 then 0 else if k==15 || k==16 then 1 else if k==17 || k==18 then 2 else 3
abbrev Form:=List Str×List Int×Str
def forms:List (Int×Form):=[(19,[wIf,sLt,kL,kM],[1,1,0,0],[]),(15,[[],lG],[1,2],[]),(16,[[],dh],[1,2],[]),(17,[[],kw],[2,3],[]),(18,[[]],[2],iW),(14,[dh],[3],[])]
def Ho(k:Int):List (Int×Form)->Option Form
 | []=>none
 |(w,f)::r=>if k==w then some f else Ho k r
def lH(k:Int):Option Form:=Ho k forms
def z4s(k:Int):List (Str×Int×Int×Bool)->Option (Str×Int×Bool)
 | []=>none
 |(w,f,n,b)::r=>if f==k then some (w,n,b)else z4s k r
def ET(k:Int):Option (Str×Int×Bool):=z4s k wF
def lm(s:Str):List Tk:=if s==wIf || s==kL || s==kM then [wd s]else if s==[]then []else [sg s]
mutual
def bg:Ex->List Tk
 | .mk k nm _ n l=>match lH k with
  |some f=>opsT l f.1 f.2.1++(if f.2.2==[]then []else sg f.2.2::jq n)
  |none=>match ET k with
   |some f=>wd f.1::sg sPar::((if f.2.2 then [wd nm,sg aS]else [])++(Wy l f.2.1.toNat 0++[sg sKet]))
   |none=>if k==1 then jq n else [wd nm]
def opsT:List Ex->List Str->List Int->List Tk
 | [],hs,_=>hs.flatMap lm
 |_::_,[],_=>[]
 |x::xs,h::hs,lv=>lm h++((if level x.kind<lv.headD 0 then sg sPar::(bg x++[sg sKet])else bg x)++opsT xs hs lv.tail)
def Wy:List Ex->Nat->Nat->List Tk
 | [],_,_=>[]
 |_::_,0,_=>[]
 |x::xs,m+1,i=>(if 0<i then [sg aS]else [])++(bg x++Wy xs m (i+1))
end
def dm(x:Ex)(least:Int):List Tk:=if level x.kind<least then sg sPar::(bg x++[sg sKet])else bg x
def fJ(lo hi:Int):List Tk:=wd MJ::(jq lo++(wd wTo::(jq hi++[sg bP])))
def jD(s:Sm):List Tk:=(if s.kind==1 then [wd Qk,wd s.name,sg sEq]else if s.kind==2 then [wd Ql,wd s.name,sg sEq]else if s.kind==3 then [wd yY,wd s.name,sg sEq]else [wd Qm])++(dm s.x 0++[sg bP])
def yZ:Nat->List Int->List Tk
 |_,[]=>[]
 |i,v::r=>(if 0<i then [sg aS]else [])++(jq v++yZ (i+1) r)
def bdT(w:Str)(b:Bd):List Tk:=wd w::wd b.name::fJ b.lo b.hi
def lnT(b:Ln):List Tk:=wd ES::wd b.name::(jq b.size++fJ b.lo b.hi)
def tbT(t:Tb):List Tk:=wd wB::wd t.name::sg sEq::(yZ 0 t.values++[sg bP])
def iV(p:Pr):List Tk:=
 wd wProcessor::wd p.name::wd cZ::(jq p.latency++(wd wTail::((if p.tail == -1 then [wd dR]else jq p.tail)++(sg sBra ::
  (p.params.flatMap (bdT uh)++(p.states.flatMap (bdT qA)++(p.lines.flatMap lnT++(p.tables.flatMap tbT++(p.stmts.flatMap jD++[sg zC])))))))))
mutual
def zQ:Ex->Ex
 | .mk k nm _ n l=>.mk (if k==3 || k==4 || k==5 then 2 else k) nm 0 n (UD l)
def UD:List Ex->List Ex
 | []=>[]
 |x::r=>zQ x::UD r
end
theorem UE(l:List Ex):UD l=l.map zQ:=by
 induction l with
 |nil=>rfl
 |cons x r ih=>simp[UD,ih]
abbrev UF(s:Sm):Sm:={ s with index:=0,x:=zQ s.x }
abbrev EU(p:Pr):Pr:={ p with stmts:=p.stmts.map UF }
abbrev Sh{α:Type}(m:PM α):Prop:=∀l o r,m l=(o,r)->r.length<=l.length
def Le{α:Type}(n:Nat)(r:Option α×List Tk):Prop:=r.2.length<=n
theorem Sh.le{α:Type}{m:PM α}(h:Sh m)(l:List Tk):Le l.length (m l):=h l _ _ rfl
theorem Sh.of{α:Type}{m:PM α}(h:∀l,Le l.length (m l)):Sh m:=λl o r e=>by have:=h l;rw[e]at this;exact this
theorem Le.mono{α:Type}{n m:Nat}{r:Option α×List Tk}(h:Le n r)(hn:n<=m):Le m r:=Nat.le_trans h hn
theorem Le.bnd{α β:Type}{n:Nat}{r:Option α×List Tk}{f:α->PM β}(h:Le n r)(hf:∀x l,l.length<=n->Le n (f x l)):Le n (bnd r f):=by
 obtain⟨o,l⟩:=r
 cases o with
 |none=>exact h
 |some x=>exact hf x l h
theorem Le.drop{α:Type}{o:Option α}{l:List Tk}:Le l.length (o,l.drop 1):=by simp[Le]
theorem Le.drop'{α:Type}{o:Option α}{l:List Tk}{n:Nat}(h:l.length<=n):Le n (o,l.drop 1):=by simp[Le];omega
theorem Le.self{α:Type}{o:Option α}{l:List Tk}{n:Nat}(h:l.length<=n):Le n (o,l):=h
theorem mD{l:List Tk}{n:Nat}(h:l.length<=n):(l.drop 1).length<=n:=by simp;omega
theorem mF{s:Str}:Sh (aC s):=.of λl=>by unfold aC;split;exact .drop;exact .self (Nat.le_refl _)
theorem mG:Sh nameM:=.of λl=>by unfold nameM;split;exact .drop;exact .self (Nat.le_refl _)
theorem ui:Sh numM:=.of λl=>by unfold numM;split;exact .drop;exact .self (Nat.le_refl _)
theorem y5:Sh zN:=.of λl=>by
 unfold zN;split
 ·exact(ui.le _).mono (by simp) |>.bnd λ_ _ h=>h
 ·exact ui.le _
section
variable {u : PM Ex} (hu : Sh u)
include hu
theorem CV:∀(n:Nat) (x:Ex) (l:List Tk) (m:Nat),l.length<=m->Le m (prodL u n x l)
 | 0,_,_,_,h=>h
 |n+1,x,l,m,h=>by
  unfold prodL
  split
  ·exact((hu.le _).mono (mD h)).bnd λy r hr=>CV n _ _ _ hr
  ·split
   ·split
    ·exact .drop' h
    ·exact((ui.le _).mono (mD h)).bnd λy r hr=>CV n _ _ _ hr
   ·exact h
theorem y7:Sh (gy u):=.of λl=>(hu.le l).bnd λx r hr=>CV hu _ _ _ _ hr
theorem Hq:∀(n:Nat) (x:Ex) (l:List Tk) (m:Nat),l.length<=m->Le m (sumL u n x l)
 | 0,_,_,_,h=>h
 |n+1,x,l,m,h=>by
  unfold sumL
  split
  ·exact(((y7 hu).le _).mono (mD h)).bnd λy r hr=>Hq n _ _ _ hr
  ·split
   ·exact(((y7 hu).le _).mono (mD h)).bnd λy r hr=>Hq n _ _ _ hr
   ·exact h
theorem WA:Sh (sumM u):=.of λl=>((y7 hu).le l).bnd λx r hr=>Hq hu _ _ _ _ hr
theorem xy:∀(n:Nat) (l:List Tk) (m:Nat),l.length<=m->Le m (exprF u n l)
 | 0,_,_,h=>h
 |n+1,l,m,h=>by
  have hs:∀l:List Tk,l.length<=m->Le m (sumM u l):=λl h=>((WA hu).le l).mono h
  have hw:∀(s:Str) (l:List Tk),l.length<=m->Le m (aC s l):=λs l h=>(mF.le l).mono h
  unfold exprF
  split
  ·exact(hs _ (mD h)).bnd λ_ _ h=>(hw _ _ h).bnd λ_ _ h=>(hs _ h).bnd λ_ _ h=>(hw _ _ h).bnd λ_ _ h=>(xy n _ _ h).bnd λ_ _ h=>(hw _ _ h).bnd λ_ _ h=>(xy n _ _ h).bnd λ_ _ h=>h
  ·exact hs _ h
theorem UG(n:Nat):Sh (exprF u n):=.of λl=>xy hu n l _ (Nat.le_refl _)
theorem Ht:Sh (iT u):=.of λl=>xy hu _ _ _ (Nat.le_refl _)
theorem Qn:∀(n i:Nat) (a:List Ex) (l:List Tk) (m:Nat),l.length<=m->Le m (wG u n i a l)
 | 0,_,_,_,_,h=>h
 |n+1,i,a,l,m,h=>by
  unfold wG
  refine Le.bnd ?_ λ_ _ h=>(((Ht hu).le _).mono h).bnd λ_ _ h=>Qn n _ _ _ _ h
  split
  ·exact(mF.le _).mono h
  ·exact h
theorem Ya(k:Int)(n:Nat)(b:Bool):Sh (argsM u k n b):=.of λl=>by
 have hw:∀(s:Str) (l':List Tk),l'.length<=l.length->Le l.length (aC s l'):=λs l h=>(mF.le l).mono h
 refine(hw _ _ (Nat.le_refl _)).bnd λ_ _ h=>Le.bnd ?_ λ_ _ h=>(Qn hu _ _ _ _ _ h).bnd λ_ _ h=>(hw _ _ h).bnd λ_ _ h=>h
 split
 ·exact((mG.le _).mono h).bnd λ_ _ h=>(hw _ _ h).bnd λ_ _ h=>h
 ·exact h
end
theorem JD{u:Option (PM Ex)}(hu:∀v,u=some v->Sh v):Sh (unitB u):=.of λl=>by
 unfold unitB
 split
 ·exact .drop
 ·split
  ·exact .drop
  ·split
   ·exact Nat.le_refl _
   ·rename_i v
    have hv:=hu v rfl
    split
    ·exact((hv.le _).mono (mD (Nat.le_refl _))).bnd λ_ _ h=>h
    ·split
     ·exact(((Ht hv).le _).mono (mD (Nat.le_refl _))).bnd λ_ _ h=>((mF.le _).mono h).bnd λ_ _ h=>h
     ·split
      ·split
       ·exact((Ya hv _ _ _).le _).mono (mD (Nat.le_refl _))
       ·exact Nat.le_refl _
      ·exact Nat.le_refl _
theorem y8:∀k,Sh (gX k)
 | 0=>JD λ_ h=>by cases h
 |k+1=>JD λ_ h=>by cases h;exact y8 k
theorem kz{s:Str}{l:List Tk}(h:isT s l=true):l ≠ []:=by rintro rfl;simp[isT]at h
theorem mJ{l:List Tk}{n:Nat}(h:l ≠ [])(hn:l.length<=n):∃m,n=m+1/\(l.drop 1).length<=m:=by
 cases l with
 |nil=>exact absurd rfl h
 |cons t r=>refine⟨n-1,?_,?_⟩<;>simp at hn ⊢ <;> omega
section
variable {u : PM Ex}
theorem EW{n:Nat}{x:Ex}{l:List Tk}(hn:l.length<=n)(hT:isT kw l=true):prodL u n x l=bnd (u (l.drop 1)) λy=>prodL u (n-1) (ex2 17 x y):=by
 obtain⟨m,rfl,-⟩:=mJ (kz hT) hn
 show prodL u (m+1) x l=_;rw[Nat.add_sub_cancel];conv=>{ lhs;unfold prodL };rw[if_pos hT]
theorem vF{n:Nat}{x:Ex}{l:List Tk}(hn:l.length<=n)(h0:isT kw l=false)(hT:isT iW l=true):prodL u n x l=if isNum (l.drop 1)&&(hd (l.drop 1)).n==0 then(none,l.drop 1)else bnd (numM (l.drop 1)) λk=>prodL u (n-1) (.mk 18 [] 0 k [x]):=by
 obtain⟨m,rfl,-⟩:=mJ (kz hT) hn
 show prodL u (m+1) x l=_;rw[Nat.add_sub_cancel];conv=>{ lhs;unfold prodL };rw[h0,if_neg (by simp),if_pos hT]
theorem UH{n:Nat}{x:Ex}{l:List Tk}(h0:isT kw l=false)(hT:isT iW l=false):prodL u n x l=(some x,l):=by
 cases n with
 |zero=>rfl
 |succ n=>unfold prodL;rw[h0,if_neg (by simp),hT,if_neg (by simp)]
theorem JE{n:Nat}{x:Ex}{l:List Tk}(hn:l.length<=n)(hT:isT lG l=true):sumL u n x l=bnd (gy u (l.drop 1)) λy=>sumL u (n-1) (ex2 15 x y):=by
 obtain⟨m,rfl,-⟩:=mJ (kz hT) hn
 show sumL u (m+1) x l=_;rw[Nat.add_sub_cancel];conv=>{ lhs;unfold sumL };rw[if_pos hT]
theorem EX{n:Nat}{x:Ex}{l:List Tk}(hn:l.length<=n)(h0:isT lG l=false)(hT:isT dh l=true):sumL u n x l=bnd (gy u (l.drop 1)) λy=>sumL u (n-1) (ex2 16 x y):=by
 obtain⟨m,rfl,-⟩:=mJ (kz hT) hn
 show sumL u (m+1) x l=_;rw[Nat.add_sub_cancel];conv=>{ lhs;unfold sumL };rw[h0,if_neg (by simp),if_pos hT]
theorem Yb{n:Nat}{x:Ex}{l:List Tk}(h0:isT lG l=false)(hT:isT dh l=false):sumL u n x l=(some x,l):=by
 cases n with
 |zero=>rfl
 |succ n=>unfold sumL;rw[h0,if_neg (by simp),hT,if_neg (by simp)]
structure LI{α:Type}(f:Nat->α->PM Ex)(R:Option Ex×List Tk)(n:Nat)(x:α)(l:List Tk):Prop where
 eq:f n x l=R
 le:l.length<=n
theorem LI.mu{n:Nat}{l:List Tk}(hn:l.length<=n)(h:l ≠ []):n-1<n:=by
 cases l with
 |nil=>exact absurd rfl h
 |cons t r=>simp at hn;omega
theorem y9{α:Type}{m:PM α}(hm:Sh m){l r:List Tk}{n:Nat}{o:Option α}(hn:l.length<=n)(hl:l ≠ [])(h:m (l.drop 1)=(o,r)):r.length<=n-1:=by
 obtain⟨k,rfl,hk⟩:=mJ hl hn
 have:=hm _ _ _ h
 omega
end
section
variable {u : PM Ex} {o : Option Ex} {l l' l1 l2 l3 : List Tk} {n : Nat} {x y : Ex} {k : Int}
theorem vG{α β:Type}{a o:α}{b l:β}(h:(a,b)=(o,l)):o=a/\l=b:=by cases h;exact⟨rfl,rfl⟩
theorem Yc(hM:gy u l=(o,l'))(h:u l=(none,l2)):o=none/\l'=l2:=by unfold gy at hM;rw[h]at hM;exact vG hM
theorem z1e(hM:gy u l=(o,l'))(h:u l=(some y,l2)):LI (prodL u) (o,l') l2.length y l2:=by unfold gy at hM;rw[h]at hM;exact⟨hM,Nat.le_refl _⟩
theorem z1f(hI:LI (prodL u) (o,l') n x l1)(h0:isT kw l1=false)(h1:isT iW l1=false):o=some x/\l'=l1:=by have h:=hI.eq;rw[UH h0 h1]at h;exact vG h
theorem Yd(hI:LI (prodL u) (o,l') n x l1)(hT:isT kw l1=true)(h:u (l1.drop 1)=(none,l2)):o=none/\l'=l2:=by have h1:=hI.eq;rw[EW hI.le hT,h]at h1;exact vG h1
theorem Ye(hs:Sh u)(hI:LI (prodL u) (o,l') n x l1)(hT:isT kw l1=true)(h:u (l1.drop 1)=(some y,l2)):LI (prodL u) (o,l') (n-1) (ex2 17 x y) l2:=by
 have h1:=hI.eq;rw[EW hI.le hT,h]at h1;exact⟨h1,y9 hs hI.le (kz hT) h⟩
theorem z7v{b c:Bool}(h:(bif b then c else false)=true):(b&&c)=true:=by cases b with |true=>exact h |false=>cases h
theorem num0'{b c:Bool}(h:(bif b then c else false)=false):(b&&c)=false:=by cases b with |true=>exact h |false=>rfl
theorem Yf(hI:LI (prodL u) (o,l') n x l1)(h0:isT kw l1=false)(hT:isT iW l1=true)(h:(bif isNum (l1.drop 1)then(hd (l1.drop 1)).n==0 else false)=true):o=none/\l'=l1.drop 1:=by
 have h1:=hI.eq;rw[vF hI.le h0 hT,z7v h,if_pos rfl]at h1;exact vG h1
theorem Yg(hI:LI (prodL u) (o,l') n x l1)(h0:isT kw l1=false)(hT:isT iW l1=true)(h:(bif isNum (l1.drop 1)then(hd (l1.drop 1)).n==0 else false)=false)(hk:numM (l1.drop 1)=(none,l3)):o=none/\l'=l3:=by
 have h1:=hI.eq;rw[vF hI.le h0 hT,num0' h,if_neg (by simp),hk]at h1;exact vG h1
theorem Yh(hI:LI (prodL u) (o,l') n x l1)(h0:isT kw l1=false)(hT:isT iW l1=true)(h:(bif isNum (l1.drop 1)then(hd (l1.drop 1)).n==0 else false)=false)(hk:numM (l1.drop 1)=(some k,l3)):LI (prodL u) (o,l') (n-1) (.mk 18 [] 0 k [x]) l3:=by
 have h1:=hI.eq;rw[vF hI.le h0 hT,num0' h,if_neg (by simp),hk]at h1;exact⟨h1,y9 ui hI.le (kz hT) hk⟩
theorem z1g(hM:sumM u l=(o,l'))(h:gy u l=(none,l2)):o=none/\l'=l2:=by unfold sumM at hM;rw[h]at hM;exact vG hM
theorem z5i(hM:sumM u l=(o,l'))(h:gy u l=(some y,l2)):LI (sumL u) (o,l') l2.length y l2:=by unfold sumM at hM;rw[h]at hM;exact⟨hM,Nat.le_refl _⟩
theorem z5j(hI:LI (sumL u) (o,l') n x l1)(h0:isT lG l1=false)(h1:isT dh l1=false):o=some x/\l'=l1:=by have h:=hI.eq;rw[Yb h0 h1]at h;exact vG h
theorem z1h(hI:LI (sumL u) (o,l') n x l1)(hT:isT lG l1=true)(h:gy u (l1.drop 1)=(none,l2)):o=none/\l'=l2:=by have h1:=hI.eq;rw[JE hI.le hT,h]at h1;exact vG h1
theorem z1i(hs:Sh u)(hI:LI (sumL u) (o,l') n x l1)(hT:isT lG l1=true)(h:gy u (l1.drop 1)=(some y,l2)):LI (sumL u) (o,l') (n-1) (ex2 15 x y) l2:=by
 have h1:=hI.eq;rw[JE hI.le hT,h]at h1;exact⟨h1,y9 (y7 hs) hI.le (kz hT) h⟩
theorem z1j(hI:LI (sumL u) (o,l') n x l1)(h0:isT lG l1=false)(hT:isT dh l1=true)(h:gy u (l1.drop 1)=(none,l2)):o=none/\l'=l2:=by have h1:=hI.eq;rw[EX hI.le h0 hT,h]at h1;exact vG h1
theorem z1k(hs:Sh u)(hI:LI (sumL u) (o,l') n x l1)(h0:isT lG l1=false)(hT:isT dh l1=true)(h:gy u (l1.drop 1)=(some y,l2)):LI (sumL u) (o,l') (n-1) (ex2 16 x y) l2:=by
 have h1:=hI.eq;rw[EX hI.le h0 hT,h]at h1;exact⟨h1,y9 (y7 hs) hI.le (kz hT) h⟩
theorem UI{α:Type}{f:Nat->α->PM Ex}{R:Option Ex×List Tk}{x:α}{s:Str}(hI:LI f R n x l1)(hT:isT s l1=true):n-1<n:=LI.mu hI.le (kz hT)
end
variable [ae] {l : List Tk} {W : TypeId} {next pan : Next} {env : Env} {L : List Nat} {az : List AV} {f : FuncId} {e d : Int} {K : Heap}
abbrev pB(l:List Tk)(e d:Int):Block:=.cells [.data (.sl 4 (l.map Tk.cs)),.data (.i e),.data (.i d)]
def kC(W:TypeId)(e:Int)(l:List Tk):D:=.iface W (.agg [.i (at' e l)])
def jL{α:Type}(W:TypeId)(g:α->D)(e:Int)(o:Option α)(l:List Tk):fP:=match o with
 |some x=>.ret (.data (g x))
 |none=>.pan (.data (kC W e l))
theorem uj{α:Type}{g:α->D}{e:Int}{o:Option α}:(jL W g e o l).av.ids = []:=by cases o<;>rfl
abbrev B':=FuncId->List AV->Heap->fP->Heap->Prop
variable {B : B'}
theorem JF{ρ:List (Nat×Nat)}:∀ds:List D,AV.ren.go ρ (ds.map .data)=ds.map .data
 | []=>rfl
 |d::r=>by show AV.ren ρ (.data d)::AV.ren.go ρ (r.map .data)=_;rw[JF r];rfl
theorem mM{s:Str}(h:isT s l=true):0<l.length:=by
 cases l with
 |nil=>simp[isT]at h
 |cons t r=>simp
theorem jT{α:Type}{B:B'}{L:List Nat}{f:FuncId}{az:List AV}{env:Env}{K:Heap}{next pan:Next}{M:PM α}{g:α->D}{W:TypeId}{e d:Int}(ds:List D)
  (H:∀l o l',M l=(o,l')->B f (.ptr 1000000 0::ds.map .data) [(1000000,pB l e d)] (jL W g e o l') [(1000000,pB l' e d)])
  (hk:∃X l,az = .ptr X 0::ds.map .data/\K.get X=some (pB l e d)/\allIn L [X]=true/\(∀x l',M l=(some x,l')->next (.data (g x)) (K.put X (pB l' e d))) /\
   (∀l',M l=(none,l')->pan (.data (kC W e l')) (K.put X (pB l' e d)))) :
  ∃(as0:List AV) (K0:Heap) (out:fP) (K1:Heap) (ρ:List (Nat×Nat)),B f as0 K0 out K1/\AV.ren.go ρ as0=az/\Heap.sub ρ K K0/\bz ρ K0 K1 out.av env K L=true /\
  outGo ρ K1 K next pan out:=by
 obtain⟨X,l,has,hK,hL,h1,h2⟩:=hk
 rcases hM:M l with⟨o,l'⟩
 refine⟨_,_,_,_,[(1000000,X)],H l o l' hM,?_,⟨hK,trivial⟩,?_,?_⟩
 ·rw[has]
  show AV.ren _ _::AV.ren.go _ (ds.map .data)=_
  rw[JF];rfl
 ·simp only[bz,uj,keys,aI,rn,Nat.beq_refl]
  rw[hL]
  rfl
 ·cases o with
  |some x=>exact h1 x l' hM
  |none=>exact h2 l' hM
theorem bY(a:D)(ρ:List (Nat×Nat)):AV.ren.go ρ [.data a] = [.data a]:=rfl
theorem z1l(a b c:D)(ρ:List (Nat×Nat)):AV.ren.go ρ [.data a,.data b,.data c] = [.data a,.data b,.data c]:=rfl
theorem lentP'{α:Type}{B:B'}{L:List Nat}{f:FuncId}{az:List AV}{env:Env}{K:Heap}{next pan:Next}{M:PM α}{g:α->D}{W:TypeId}{e d:Int}{ds:List AV}(hr:∀ρ,AV.ren.go ρ ds=ds)
  (H:∀l o l',M l=(o,l')->B f (.ptr 1000000 0::ds) [(1000000,pB l e d)] (jL W g e o l') [(1000000,pB l' e d)])
  (hk:∃X es l,az = .ptr X 0::ds/\K.get X=some (.cells [.data (.sl 4 es),.data (.i e),.data (.i d)])/\es=l.map Tk.cs/\allIn L [X]=true/\(∀x l',M l=(some x,l')->next (.data (g x)) (K.put X (pB l' e d))) /\
   (∀l',M l=(none,l')->pan (.data (kC W e l')) (K.put X (pB l' e d)))) :
  ∃(as0:List AV) (K0:Heap) (out:fP) (K1:Heap) (ρ:List (Nat×Nat)),B f as0 K0 out K1/\AV.ren.go ρ as0=az/\Heap.sub ρ K K0/\bz ρ K0 K1 out.av env K L=true /\
  outGo ρ K1 K next pan out:=by
 obtain⟨X,es,l,has,hK,rfl,hL,h1,h2⟩:=hk
 rcases hM:M l with⟨o,l'⟩
 refine⟨_,_,_,_,[(1000000,X)],H l o l' hM,?_,⟨hK,trivial⟩,?_,?_⟩
 ·rw[has]
  show AV.ren _ _::AV.ren.go _ ds=_
  rw[hr];rfl
 ·simp only[bz,uj,keys,aI,rn,Nat.beq_refl]
  rw[hL]
  rfl
 ·cases o with
  |some x=>exact h1 x l' hM
  |none=>exact h2 l' hM
theorem z1m{α:Type}{B:B'}{L:List Nat}{f:FuncId}{az:List AV}{env:Env}{K:Heap}{next pan:Next}{M:PM α}{g:α->D}{W:TypeId}{e d:Int}(P:List Tk->Prop)(hs:∀l o r,M l=(o,r)->r.length<=l.length)
  (H:∀l o l',P l->M l=(o,l')->B f [.ptr 1000000 0] [(1000000,pB l e d)] (jL W g e o l') [(1000000,pB l' e d)])
  (hk:∃X l,az = [.ptr X 0]/\K.get X=some (pB l e d)/\allIn L [X]=true/\P l/\(∀x l',M l=(some x,l')->l'.length<=l.length->next (.data (g x)) (K.put X (pB l' e d))) /\
   (∀l',M l=(none,l')->pan (.data (kC W e l')) (K.put X (pB l' e d)))) :
  ∃(as0:List AV) (K0:Heap) (out:fP) (K1:Heap) (ρ:List (Nat×Nat)),B f as0 K0 out K1/\AV.ren.go ρ as0=az/\Heap.sub ρ K K0/\bz ρ K0 K1 out.av env K L=true /\
  outGo ρ K1 K next pan out:=by
 obtain⟨X,l,has,hK,hL,hP,h1,h2⟩:=hk
 rcases hM:M l with⟨o,l'⟩
 refine⟨_,_,_,_,[(1000000,X)],H l o l' hP hM,?_,⟨hK,trivial⟩,?_,?_⟩
 ·rw[has];rfl
 ·simp only[bz,uj,keys,aI,rn,Nat.beq_refl]
  rw[hL]
  rfl
 ·cases o with
  |some x=>exact h1 x l' hM (hs _ _ _ hM)
  |none=>exact h2 l' hM
theorem Qo:numM=λl=>if isNum l then(some (hd l).n,l.drop 1)else(none,l):=rfl
theorem Qp:nameM=λl=>if isNm l then(some (hd l).text,l.drop 1)else(none,l):=rfl
theorem Qq{α:Type}{B:B'}{L:List Nat}{f:FuncId}{az:List AV}{env:Env}{K:Heap}{next pan:Next}{M:PM α}{g:α->D}{W:TypeId}{e d:Int}(c:List Tk->Bool)(v:List Tk->α)(hv:M=λl=>if c l then(some (v l),l.drop 1)else(none,l))
  (H:∀l o l',M l=(o,l')->B f [.ptr 1000000 0] [(1000000,pB l e d)] (jL W g e o l') [(1000000,pB l' e d)])
  (hk:∃X l,az = [.ptr X 0]/\K.get X=some (pB l e d)/\allIn L [X]=true/\(c l=true->next (.data (g (v l))) (K.put X (pB (l.drop 1) e d))) /\
   (c l=false->pan (.data (kC W e l)) (K.put X (pB l e d)))) :
  ∃(as0:List AV) (K0:Heap) (out:fP) (K1:Heap) (ρ:List (Nat×Nat)),B f as0 K0 out K1/\AV.ren.go ρ as0=az/\Heap.sub ρ K K0/\bz ρ K0 K1 out.av env K L=true /\
  outGo ρ K1 K next pan out:=by
 obtain⟨X,l,has,hK,hL,h1,h2⟩:=hk
 refine jT [] H ⟨X,l,has,hK,hL,λx l' h=>?_,λl' h=>?_⟩
 ·rw[hv]at h
  cases hc:c l with
  |true=>simp only[hc,if_true]at h;cases h;exact h1 hc
  |false=>simp only[hc,Bool.false_eq_true,if_false]at h;cases h
 ·rw[hv]at h
  cases hc:c l with
  |true=>simp only[hc,if_true]at h;cases h
  |false=>simp only[hc,Bool.false_eq_true,if_false]at h;cases h;exact h2 hc
theorem zS{B:B'}{L:List Nat}{f:FuncId}{az:List AV}{env:Env}{K:Heap}{next pan:Next}{e d:Int}
  (H:∀s l,B f [.ptr 1000000 0,.data (.str s)] [(1000000,pB l e d)] (.ret (.data (.b (isT s l)))) [(1000000,pB (bif isT s l then l.drop 1 else l) e d)])
  (hk:∃X s l,az = [.ptr X 0,.data (.str s)]/\K.get X=some (pB l e d)/\allIn L [X]=true/\(isT s l=true->0<l.length->next (.data (.b true)) (K.put X (pB (l.drop 1) e d))) /\
   (isT s l=false->next (.data (.b false)) (K.put X (pB l e d)))) :
  ∃(as0:List AV) (K0:Heap) (out:fP) (K1:Heap) (ρ:List (Nat×Nat)),B f as0 K0 out K1/\AV.ren.go ρ as0=az/\Heap.sub ρ K K0/\bz ρ K0 K1 out.av env K L=true /\
  outGo ρ K1 K next pan out:=by
 obtain⟨X,s,l,has,hK,hL,h1,h2⟩:=hk
 refine⟨_,_,_,_,[(1000000,X)],H s l,has.symm,⟨hK,trivial⟩,?_,?_⟩
 ·simp only[bz,keys,aI,rn,Nat.beq_refl]
  rw[hL]
  rfl
 ·cases h:isT s l with
  |true=>exact h1 h (mM h)
  |false=>exact h2 h
theorem zT{B:B'}{L:List Nat}{f:FuncId}{az:List AV}{env:Env}{K:Heap}{next pan:Next}{W:TypeId}{e d:Int}
  (H:∀s l o l',aC s l=(o,l')->B f [.ptr 1000000 0,.gs 1000001 1 [[.str s]]] [(1000000,pB l e d),(1000001,.tok 1 1)] (jL W (λ_:Unit=>.tuple []) e o l') [(1000000,pB l' e d),(1000001,.tok 1 1)])
  (hk:∃X Y s l,az = [.ptr X 0,.gs Y 1 [[.str s]]]/\K.get X=some (pB l e d)/\K.get Y=some (.tok 1 1)/\Nat.beq X Y=false/\allIn L [X,Y]=true/\(isT s l=true->0<l.length->next (.data (.tuple [])) ((K.put Y (.tok 1 1)).put X (pB (l.drop 1) e d))) /\
   (isT s l=false->pan (.data (kC W e l)) ((K.put Y (.tok 1 1)).put X (pB l e d)))) :
  ∃(as0:List AV) (K0:Heap) (out:fP) (K1:Heap) (ρ:List (Nat×Nat)),B f as0 K0 out K1/\AV.ren.go ρ as0=az/\Heap.sub ρ K K0/\bz ρ K0 K1 out.av env K L=true /\
  outGo ρ K1 K next pan out:=by
 obtain⟨X,Y,s,l,has,hK,hY,hXY,hL,h1,h2⟩:=hk
 rcases hM:aC s l with⟨o,l'⟩
 refine⟨_,_,_,_,[(1000000,X),(1000001,Y)],H s l o l' hM,has.symm,⟨hK,hY,trivial⟩,?_,?_⟩
 ·have hn:jI [X,Y]=true:=by
   simp only[jI,kK,hXY];rfl
  show(jI [X,Y]&&(_&&(allIn L [X,Y]&&(_&&(allIn _ (jL W (λ_:Unit=>D.tuple []) e o l').av.ids&&_)))))=true
  rw[hn,hL,uj]
  rfl
 ·unfold aC at hM
  cases h:isT s l with
  |true=>rw[h,if_pos rfl]at hM;cases hM;exact h1 h (mM h)
  |false=>rw[h,if_neg (by simp)]at hM;cases hM;exact h2 h
theorem EY{B:B'}{L:List Nat}{f:FuncId}{az:List AV}{env:Env}{K:Heap}{next pan:Next}{W:TypeId}{e d:Int}
  (H:∀l,B f [.ptr 1000000 0] [(1000000,pB l e d)] (.pan (.data (kC W e l))) [(1000000,pB l e d)])
  (hk:∃X l,az = [.ptr X 0]/\K.get X=some (pB l e d)/\allIn L [X]=true/\pan (.data (kC W e l)) (K.put X (pB l e d))) :
  ∃(as0:List AV) (K0:Heap) (out:fP) (K1:Heap) (ρ:List (Nat×Nat)),B f as0 K0 out K1/\AV.ren.go ρ as0=az/\Heap.sub ρ K K0/\bz ρ K0 K1 out.av env K L=true /\
  outGo ρ K1 K next pan out:=by
 obtain⟨X,l,has,hK,hL,h1⟩:=hk
 refine⟨_,_,_,_,[(1000000,X)],H l,has.symm,⟨hK,trivial⟩,?_,h1⟩
 simp only[bz,keys,aI,rn,Nat.beq_refl]
 rw[hL]
 rfl
def CW:List Str->PM Unit
 | []=>λl=>(some (),l)
 |s::r=>λl=>if isT s l then CW r (l.drop 1)else(none,l)
theorem Qu{s:Str}:CW [s] l=aC s l:=by simp[CW,aC]
theorem jb{α:Type}{T:Tbl}{rs:List ResultVar}{K0 K K1:Heap}{q:Prop}{g:α->D}{e:Int}{o:Option α}(h:finR T rs K0 (jL W g e o l) K1 env K):finR T rs K0 (jL W g e o l) K1 env K\/q:=.inl h
theorem gp{α:Type}{T:Tbl}{rs:List ResultVar}{K0 K K1:Heap}{g:α->D}{e:Int}{x:α}(h:finR T rs K0 (.ret (.data (g x))) K1 env K):finR T rs K0 (jL W g e (some x) l) K1 env K:=h
theorem aZ{α:Type}{K0 K K1:Heap}{x:AV}{g:α->D}{e:Int}{o:Option α}(h:F5 K0 K x K1 (jL W g e o l)):F5 K0 K x K1 (jL W g e o l):=h
theorem aO{α:Type}{K0 K K1:Heap}{x:AV}{g:α->D}{e:Int}(h:fin K0 K x (.data (kC W e l)) K1):F5 K0 K x K1 (jL W g e (none:Option α) l):=by
 unfold F5;exact h
theorem eF{α β:Type}{a o:α}{b l:β}(h:(a,b)=(o,l)):o=a/\l=b:=by cases h;exact⟨rfl,rfl⟩
theorem z1o(h:0<l.length):(l.map Tk.cs)[0]? = some (hd l).cs:=by
 cases l with
 |nil=>exact absurd h (by simp)
 |cons t r=>rfl
theorem qG{T:Prop}{n:Int}{q:List D->Prop}(hT:T)(hn:n=0)(h:0<l.length)(hq:q (hd l).cs):T/\∃c,(0<=n/\(l.map Tk.cs)[n.toNat]? = some c)/\q c:=by
 subst hn
 exact⟨hT,_,⟨Int.le_refl _,z1o h⟩,hq⟩
theorem Hu:decide (((l.map Tk.cs).length:Int)>0) = !l.isEmpty:=by cases l<;>simp
theorem UJ:cut (some 1) none (l.map Tk.cs)=(l.drop 1).map Tk.cs:=by simp[cut]
theorem JG(h:isNm l=true):0<l.length:=by
 cases l with
 |nil=>simp[isNm]at h
 |cons t r=>simp
theorem zf(h:isNum l=true):0<l.length:=by
 cases l with
 |nil=>simp[isNum]at h
 |cons t r=>simp
theorem z4t(h:0<l.length):qM (some 1) none (l.map Tk.cs).length:=by
 simp only[qM,List.length_map];omega
end Go.Fw.Sy
namespace Go.Fw.Sy
open Go.Fw.Lx (Tk)
variable [ae]
def Qv(v:Str):List Str->Int->Int
 | [],_=>-1
 |x::r,i=>if v==x then i else Qv v r (i+1)
theorem Qw{v:Str}:∀(l:List Str) (i:Int),0<=i->decide (Qv v l i>=0)=l.contains v
 | [],i,_=>rfl
 |x::r,i,h=>by
  have ih:=Qw r (i+1) (v:=v) (by omega)
  rw[List.contains_cons,<-ih]
  cases e:v==x with
  |true=>simp[Qv,e,h]
  |false=>simp[Qv,e]
theorem UK{v:Str}{l:List Str}:decide (Qv v l 0>=0)=l.contains v:=Qw l 0 (Int.le_refl 0)
theorem UL{W:TypeId}{e:Int}{l:List Tk}(h:decide (((l.map Tk.cs).length:Int)>0)=true):D.iface W (.agg [.val (.int .i64 (hd l).pos)])=kC W e l:=by
 cases l with
 |nil=>simp at h
 |cons t r=>rfl
theorem Qx{W:TypeId}{e:Int}{l:List Tk}(h:decide (((l.map Tk.cs).length:Int)>0)=false):D.iface W (.agg [.val (.int .i64 e)])=kC W e l:=by
 cases l with
 |nil=>rfl
 |cons t r=>simp at h;try omega
theorem nC{c:Bool}{p q:Prop}(h:c=false)(hq:q):BrI c p q:=by subst h;exact BrI.ff hq
theorem mO{c:Bool}{p q:Prop}(h:c=true)(hp:p):BrI c p q:=by subst h;exact BrI.tt hp
theorem iq(T:Tbl)(A:FuncId->List D->pM->Prop)(B:FuncId->List AV->Heap->fP->Heap->Prop){kp:Nat}{Q:List Rec->Prop}{l:List Oper}{ms:List Nat}{tr:List Rec}{env:Env}{K:Heap}(bs:List Bool)(_:l.length=bs.length)(h:(ms.map λm=>m.testBit kp)=bs)(h2:vU T A B Q l bs tr env K):KQ (jB T A B kp Q l ms tr env K):=
 rest_step T A B bs h h2
theorem quiet_step{T:Tbl}{N:List Nat}{kp i:Nat}{tr:List Rec}{q:Prop}(h:iF T N kp i tr=true)(h2:q):iF T N kp i tr=true/\q:=⟨h,h2⟩
theorem z7w(x:Ex):AV.data (.sl 5 [x.cs])=AV.data (.sl 5 (Ex.css [x])):=by rw[Ex.css_cons];rfl
theorem z7n(x y:Ex):AV.data (.sl 5 [x.cs,y.cs])=AV.data (.sl 5 (Ex.css [x,y])):=by rw[Ex.css_cons,Ex.css_cons];rfl
theorem oQ{p r:Prop}{q:Prop}(h1:p)(h2:r)(h:q):p/\r/\q:=⟨h1,h2,h⟩
structure AI(u:PM Ex)(k:Int)(s:Str)(R:Option Ex×List Tk)(m i j:Nat)(xs:List Ex)(l:List Tk):Prop where
 eq:bnd (wG u j i xs l) (λxs l=>bnd (aC sKet l) λ_ l=>(some (.mk k s 0 0 xs),l))=R
 le:i+j=m
 len:xs.length=i
section
variable {u : PM Ex} {k : Int} {s : Str} {o : Option Ex} {l l' l1 l2 : List Tk} {m i j : Nat} {xs : List Ex} {x : Ex}
theorem MK(hI:AI u k s (o,l') m i j xs l1)(h:decide ((i:Int)<(m:Int))=true):∃j',j=j'+1:=by
 have h:=of_decide_eq_true h
 have:=hI.le
 exact⟨j-1,by omega⟩
theorem WB(hI:AI u k s (o,l') m i j xs l1)(h:decide ((i:Int)<(m:Int))=true)(h0:decide ((i:Int)>0)=true)(hW:isT aS l1=true)(hx:iT u (l1.drop 1)=(some x,l2)):AI u k s (o,l') m (i+1) (j-1) (xs++[x]) l2:=by
 obtain⟨j',rfl⟩:=MK hI h
 have h0:=of_decide_eq_true h0
 refine⟨?_,by have:=hI.le;omega,by have:=hI.len;simp;omega⟩
 have h1:=hI.eq
 have h0:0<i:=by omega
 simp only[wG,h0,bnd,aC,hW,if_true,hx]at h1
 exact h1
theorem WC(hI:AI u k s (o,l') m i j xs l1)(h:decide ((i:Int)<(m:Int))=true)(h0:decide ((i:Int)>0)=false)(hx:iT u l1=(some x,l2)):AI u k s (o,l') m (i+1) (j-1) (xs++[x]) l2:=by
 obtain⟨j',rfl⟩:=MK hI h
 have h0:=of_decide_eq_false h0
 refine⟨?_,by have:=hI.le;omega,by have:=hI.len;simp;omega⟩
 have h1:=hI.eq
 have h0:¬0<i:=by omega
 simp only[wG,h0,if_false,bnd,hx]at h1
 exact h1
theorem WE(hI:AI u k s (o,l') m i j xs l1)(h:decide ((i:Int)<(m:Int))=true)(h0:decide ((i:Int)>0)=true)(hW:isT aS l1=false):o=none/\l'=l1:=by
 obtain⟨j',rfl⟩:=MK hI h
 have h0:=of_decide_eq_true h0
 have h1:=hI.eq
 have h0:0<i:=by omega
 simp only[wG,h0,bnd,aC,hW,if_false,Bool.false_eq_true]at h1
 exact vG h1
theorem WF(hI:AI u k s (o,l') m i j xs l1)(h:decide ((i:Int)<(m:Int))=true)(h0:decide ((i:Int)>0)=true)(hW:isT aS l1=true)(hx:iT u (l1.drop 1)=(none,l2)):o=none/\l'=l2:=by
 obtain⟨j',rfl⟩:=MK hI h
 have h0:=of_decide_eq_true h0
 have h1:=hI.eq
 have h0:0<i:=by omega
 simp only[wG,h0,bnd,aC,hW,if_true,hx]at h1
 exact vG h1
theorem WG(hI:AI u k s (o,l') m i j xs l1)(h:decide ((i:Int)<(m:Int))=true)(h0:decide ((i:Int)>0)=false)(hx:iT u l1=(none,l2)):o=none/\l'=l2:=by
 obtain⟨j',rfl⟩:=MK hI h
 have h0:=of_decide_eq_false h0
 have h1:=hI.eq
 have h0:¬0<i:=by omega
 simp only[wG,h0,if_false,bnd,hx]at h1
 exact vG h1
theorem WH(hI:AI u k s (o,l') m i j xs l1)(h:decide ((i:Int)<(m:Int))=false)(hW:isT sKet l1=true):o=some (.mk k s 0 0 xs)/\l'=l1.drop 1:=by
 have h:=of_decide_eq_false h
 have:j=0:=by have:=hI.le;omega
 subst this
 have h1:=hI.eq
 simp only[wG,bnd,aC,hW,if_true]at h1
 exact vG h1
theorem WI(hI:AI u k s (o,l') m i j xs l1)(h:decide ((i:Int)<(m:Int))=false)(hW:isT sKet l1=false):o=none/\l'=l1:=by
 have h:=of_decide_eq_false h
 have:j=0:=by have:=hI.le;omega
 subst this
 have h1:=hI.eq
 simp only[wG,bnd,aC,hW,if_false,Bool.false_eq_true]at h1
 exact vG h1
theorem JH(hI:AI u k s (o,l') m i j xs l1)(h:decide ((i:Int)<(m:Int))=true):j-1<j:=by
 obtain⟨j',rfl⟩:=MK hI h;omega
theorem Yi(hM:argsM u k m false l=(o,l'))(hW:isT sPar l=true):AI u k [] (o,l') m 0 m [] (l.drop 1):=
 ⟨by rw[argsM]at hM;simp only[bnd,aC,hW,if_true,Bool.false_eq_true,if_false]at hM;exact hM,by omega,rfl⟩
theorem Yj(hM:argsM u k m true l=(o,l'))(hW:isT sPar l=true)(hn:nameM (l.drop 1)=(some s,l1))(hC:isT aS l1=true):AI u k s (o,l') m 0 m [] (l1.drop 1):=
 ⟨by rw[argsM]at hM;simp only[bnd,aC,hW,if_true,hn,hC]at hM;exact hM,by omega,rfl⟩
theorem Qy{b:Bool}(hM:argsM u k m b l=(o,l'))(hW:isT sPar l=false):o=none/\l'=l:=by
 rw[argsM]at hM;simp only[bnd,aC,hW,if_false,Bool.false_eq_true]at hM;exact vG hM
theorem Yk(hM:argsM u k m true l=(o,l'))(hW:isT sPar l=true)(hn:nameM (l.drop 1)=(none,l1)):o=none/\l'=l1:=by
 rw[argsM]at hM;simp only[bnd,aC,hW,if_true,hn]at hM;exact vG hM
theorem Yl(hM:argsM u k m true l=(o,l'))(hW:isT sPar l=true)(hn:nameM (l.drop 1)=(some s,l1))(hC:isT aS l1=false):o=none/\l'=l1:=by
 rw[argsM]at hM;simp only[bnd,aC,hW,if_true,hn,hC,if_false,Bool.false_eq_true]at hM;exact vG hM
end
abbrev SS(f:Str×Int×Int×Bool):D×D:=(.str f.1,.agg [.i f.2.1,.i f.2.2.1,.b f.2.2.2])
theorem JI{t:Str}{F:D->Prop}{G:Prop}:∀(fs:List (Str×Int×Int×Bool)),(∀f,look t fs=some f->F (.agg [.i f.1,.i f.2.1,.b f.2.2]))->(look t fs=none->G)->DJ (BL (.str t) (fs.map SS)) F G
 | [],_,h2=>h2 rfl
 |(w,f)::r,h1,h2=>by
  simp only[List.map_cons,BL,fE,sameS,look]at h1 h2 ⊢
  cases h:t==w with
  |true=>
   simp only[h,if_true]at h1
   exact h1 f rfl
  |false=>
   simp only[h,Bool.false_eq_true,if_false]at h1 h2
   exact JI r h1 h2
theorem WJ{t:Str}{f:Int×Int×Bool}(h:look t wF=some f):0<=f.2.1/\f.2.1<=2:=by
 have:∀fs:List (Str×Int×Int×Bool),(∀x∈fs,0<=x.2.2.1/\x.2.2.1<=2)->look t fs=some f->0<=f.2.1/\f.2.1<=2:=by
  intro fs
  induction fs with
  |nil=>intro _ h;cases h
  |cons x r ih=>
   intro ha h
   simp only[look]at h
   split at h
   ·cases h;exact ha x (by simp)
   ·exact ih (λy hy=>ha y (by simp[hy])) h
 exact this wF (by decide) h
theorem EZ{d:Int}(h0:0<=d)(h1:d<=63):IntKind.i64.wrap (IntKind.i64.wrap (d+1)-1)=d:=by
 rw[dX (n:=d+1) (by omega) (by omega),dX (by omega) (by omega)];omega
theorem Ym{d:Int}(h0:0<=d)(h1:d<=63):IntKind.i64.wrap (d+1)=d+1:=dX (by omega) (by omega)
theorem Qz{u:PM Ex}{k:Int}{s:Str}{R:Option Ex×List Tk}{m i j:Nat}{xs:List Ex}{l:List Tk}(hI:AI u k s R m i j xs l)(hm:m<=2):(xs.map Ex.cs).length<=1073741824:=by
 rw[List.length_map];have:=hI.le;have:=hI.len;omega
theorem QA{k:Int}{s:Str}{xs:List Ex}:D.agg [.val (.int .i64 k),.str s,.val (.int .i64 0),.val (.int .i64 0),.sl 5 (xs.map Ex.cs)]=Ex.d (.mk k s 0 0 xs):=by
 rw[<-Ex.css_eq];rfl
theorem UM{k:Int}{a b c d:Ex}:D.agg [.val (.int .i64 k),.str [],.val (.int .i64 0),.val (.int .i64 0),.sl 5 [a.cs,b.cs,c.cs,d.cs]]=Ex.d (.mk k [] 0 0 [a,b,c,d]):=by
 show _=D.agg [.i k,.str [],.i 0,.i 0,.sl 5 (Ex.css [a,b,c,d])]
 simp only[Ex.css_cons];rfl
theorem UN{k n:Int}{a:Ex}:D.agg [.val (.int .i64 k),.str [],.val (.int .i64 0),.val (.int .i64 n),.sl 5 [a.cs]]=Ex.d (.mk k [] 0 n [a]):=by
 show _=D.agg [.i k,.str [],.i 0,.i n,.sl 5 (Ex.css [a])]
 simp only[Ex.css_cons];rfl
theorem WL{i m:Nat}(h:decide ((i:Int)<(m:Int))=true)(hm:m<=2):i<=9223372036854775806:=by have:=of_decide_eq_true h;omega
theorem CX{n:Nat}(h:n<=9223372036854775806):AV.data (.val (.int .i64 (IntKind.i64.wrap ((n:Int)+1))))=AV.data (.val (.int .i64 ((n+1:Nat):Int))):=xx h
end Go.Fw.Sy
namespace Go.Fw.Sy
open Go.Fw.Lx (Tk)
variable [ae] {Df : FuncId → List AV → Option D → Bool → Heap → Heap → Prop}
theorem emp_len'{l:List Tk}(h:(((l.map Tk.cs).length:Int)==0)=false):0<l.length:=by
 cases l with
 |nil=>simp at h
 |cons t r=>simp
theorem Hw{Df:FuncId->List AV->Option D->Bool->Heap->Heap->Prop}{f:FuncId}{az:List AV}{env:Env}{K:Heap}{next:Heap->Prop}
  (h:∃(as0:List AV) (K0:Heap) (K1:Heap) (ρ:List (Nat×Nat)),Df f as0 none false K0 K1/\AV.ren.go ρ as0=az/\Heap.sub ρ K K0/\bz ρ K0 K1 .top env K (reach K 1000 (AV.ids.go az) [])=true/\next (jH ρ K1 K)) :
  ∃(as0:List AV) (K0:Heap) (K1:Heap) (ρ:List (Nat×Nat)),Df f as0 none false K0 K1/\AV.ren.go ρ as0=az/\Heap.sub ρ K K0/\bz ρ K0 K1 .top env K (reach K 1000 (AV.ids.go az) [])=true/\next (jH ρ K1 K):=h
theorem Yn{d:Int}(h:d=63):¬(decide (IntKind.i64.wrap (d+1)>=64)=false):=by subst h;decide
theorem UO{d:Int}(h0:0<=d)(h:d<63):¬(decide (IntKind.i64.wrap (d+1)>=64)=true):=by
 simp only[decide_eq_true_eq]
 rw[dX (by omega) (by omega)];omega
theorem JJ{uo:Option (PM Ex)}{o:Option Ex}{l l':List Tk}(hM:unitB uo l=(o,l'))(h:(((l.map Tk.cs).length:Int)==0)=true):o=none/\l'=l:=by
 have hl:l = []:=by cases l with
  |nil=>rfl
  |cons t r=>simp at h;omega
 subst hl
 cases uo with
 |none=>exact vG hM
 |some u=>exact vG hM
theorem JK{α:Type}{T:Tbl}{f:FuncId}{az:List AV}{d:D}{rs:List ResultVar}{K0:Heap}{env:Env}{K K1:Heap}{W:TypeId}{g:α->D}{e:Int}{o:Option α}{l:List Tk}(h:F6 T Df f az d rs K0 env K K1 (jL W g e o l)):F6 T Df f az d rs K0 env K K1 (jL W g e o l):=h
end Go.Fw.Sy
namespace Go.Fw.Sy
open Go.Fw.Lx (Tk)
variable [ae]
abbrev xB(p:Pr):Block:=.cells [.data (.str p.name),.data (.i p.latency),.data (.i p.tail),.gs 1000002 3 (p.params.map Bd.cs),.gs 1000003 3 (p.states.map Bd.cs),.gs 1000004 4 (p.lines.map Ln.cs),.gs 1000005 2 (p.tables.map Tb.cs),.gs 1000006 8 (p.stmts.map Sm.cs)]
def E5(W:TypeId)(e:Int)(ok:Bool)(l:List Tk):fP:=match ok with
 |true=>.ret (.data (.tuple []))
 |false=>.pan (.data (kC W e l))
structure Sz(p:Pr)(l:List Tk):Prop where
 a:p.params.length+l.length<=1073741823
 b:p.states.length+l.length<=1073741823
 c:p.lines.length+l.length<=1073741823
 d:p.tables.length+l.length<=1073741823
 e:p.stmts.length+l.length<=1073741823
theorem Sz.le{p:Pr}{l l':List Tk}(h:Sz p l)(hl:l'.length<=l.length):Sz p l':=⟨by have:=h.a;omega,by have:=h.b;omega,by have:=h.c;omega,by have:=h.d;omega,by have:=h.e;omega⟩
theorem rH{T:Tbl}{rs:List ResultVar}{K0 K K1:Heap}{env:Env}{q:Prop}{W:TypeId}{e:Int}{ok:Bool}{l:List Tk}(h:finR T rs K0 (E5 W e ok l) K1 env K):finR T rs K0 (E5 W e ok l) K1 env K\/q:=.inl h
theorem kD{T:Tbl}{rs:List ResultVar}{K0 K K1:Heap}{env:Env}{W:TypeId}{e:Int}{l:List Tk}(h:finR T rs K0 (.ret (.data (.tuple []))) K1 env K):finR T rs K0 (E5 W e true l) K1 env K:=h
theorem vH{K0 K K1:Heap}{x:AV}{W:TypeId}{e:Int}{ok:Bool}{l:List Tk}(h:F5 K0 K x K1 (E5 W e ok l)):F5 K0 K x K1 (E5 W e ok l):=h
theorem lI{K0 K K1:Heap}{x:AV}{W:TypeId}{e:Int}{l:List Tk}(h:fin K0 K x (.data (kC W e l)) K1):F5 K0 K x K1 (E5 W e false l):=by
 unfold F5;exact h
theorem jr{ok ok':Bool}{p p':Pr}{l l':List Tk}(h:(ok,p,l)=(ok',p',l')):ok'=ok/\p'=p/\l'=l:=by cases h;exact⟨rfl,rfl,rfl⟩
theorem uk{B:B'}{L:List Nat}{az:List AV}{env:Env}{K:Heap}{next pan:Next}(f:FuncId)(r:Bool×Pr×List Tk)
  (h:∀p l,(r=(true,p,l)->∃(as0:List AV) (K0:Heap) (out:fP) (K1:Heap) (ρ:List (Nat×Nat)),B f as0 K0 out K1/\AV.ren.go ρ as0=az/\Heap.sub ρ K K0/\bz ρ K0 K1 out.av env K L=true/\outGo ρ K1 K next pan out) /\
   (r=(false,p,l)->∃(as0:List AV) (K0:Heap) (out:fP) (K1:Heap) (ρ:List (Nat×Nat)),B f as0 K0 out K1/\AV.ren.go ρ as0=az/\Heap.sub ρ K K0/\bz ρ K0 K1 out.av env K L=true/\outGo ρ K1 K next pan out)) :
  ∃(as0:List AV) (K0:Heap) (out:fP) (K1:Heap) (ρ:List (Nat×Nat)),B f as0 K0 out K1/\AV.ren.go ρ as0=az/\Heap.sub ρ K K0/\bz ρ K0 K1 out.av env K L=true/\outGo ρ K1 K next pan out:=by
 obtain⟨ok,p,l⟩:=r
 cases ok with
 |true=>exact(h p l).1 rfl
 |false=>exact(h p l).2 rfl
theorem z7o{t a b c d:Str}{fa fb fc fd:D}{F:D->Prop}{G:Prop}(h1:(t==a)=true->F fa)(h2:(t==a)=false->(t==b)=true->F fb)(h3:(t==a)=false->(t==b)=false->(t==c)=true->F fc)
  (h4:(t==a)=false->(t==b)=false->(t==c)=false->(t==d)=true->F fd) (h5:(t==a)=false->(t==b)=false->(t==c)=false->(t==d)=false->G) :
  DJ (BL (.str t) [(.str a,fa),(.str b,fb),(.str c,fc),(.str d,fd)]) F G:=by
 simp only[BL,fE,sameS]
 cases ha:t==a with
 |true=>exact h1 ha
 |false=>
  cases hb:t==b with
  |true=>exact h2 ha hb
  |false=>
   cases hc:t==c with
   |true=>exact h3 ha hb hc
   |false=>
    cases hd:t==d with
    |true=>exact h4 ha hb hc hd
    |false=>exact h5 ha hb hc hd
theorem kE{α:Type}{l:List α}{f:α->List D}{x:α}{ys:List (List D)}(h:ys = [f x]):l.map f++ys=(l++[x]).map f:=by subst h;simp
theorem z1p{α:Type}{B:B'}{L:List Nat}{f:FuncId}{az:List AV}{env:Env}{K:Heap}{next pan:Next}{M:PM α}{g:α->D}{W:TypeId}{e d:Int}{ds:List AV}(hr:∀ρ,AV.ren.go ρ ds=ds)(P:List Tk->Prop)
  (H:∀l o l',P l->M l=(o,l')->B f (.ptr 1000000 0::ds) [(1000000,pB l e d)] (jL W g e o l') [(1000000,pB l' e d)])
  (hk:∃X l,az = .ptr X 0::ds/\K.get X=some (pB l e d)/\allIn L [X]=true/\P l/\(∀x l',M l=(some x,l')->next (.data (g x)) (K.put X (pB l' e d))) /\
   (∀l',M l=(none,l')->pan (.data (kC W e l')) (K.put X (pB l' e d)))) :
  ∃(as0:List AV) (K0:Heap) (out:fP) (K1:Heap) (ρ:List (Nat×Nat)),B f as0 K0 out K1/\AV.ren.go ρ as0=az/\Heap.sub ρ K K0/\bz ρ K0 K1 out.av env K L=true /\
  outGo ρ K1 K next pan out:=by
 obtain⟨X,l,has,hK,hL,hP,h1,h2⟩:=hk
 rcases hM:M l with⟨o,l'⟩
 refine⟨_,_,_,_,[(1000000,X)],H l o l' hP hM,?_,⟨hK,trivial⟩,?_,?_⟩
 ·rw[has]
  show AV.ren _ _::AV.ren.go _ ds=_
  rw[hr];rfl
 ·simp only[bz,uj,keys,aI,rn,Nat.beq_refl]
  rw[hL]
  rfl
 ·cases o with
  |some x=>exact h1 x l' hM
  |none=>exact h2 l' hM
theorem z1q(f:FuncId)(ρ:List (Nat×Nat)):AV.ren.go ρ [.fn f []] = [.fn f []]:=rfl
structure LsI(R:Option (List Int)×List Tk)(n:Nat)(vs:List Int)(l:List Tk):Prop where
 eq:listL n vs l=R
 le:l.length<=n
 sz:vs.length+l.length<=1073741824
theorem WM{n:Nat}{vs:List Int}{l:List Tk}(hn:l.length<=n)(hT:isT aS l=true):listL n vs l=bnd (zN (l.drop 1)) λv l=>listL (n-1) (vs++[v]) l:=by
 obtain⟨m,rfl,-⟩:=mJ (kz hT) hn
 show listL (m+1) vs l=_
 rw[Nat.add_sub_cancel];conv=>{ lhs;unfold listL }
 rw[if_pos hT]
theorem z1r{n:Nat}{vs:List Int}{l:List Tk}(hT:isT aS l=false):listL n vs l=(some vs,l):=by
 cases n with
 |zero=>rfl
 |succ n=>unfold listL;rw[hT,if_neg (by simp)]
section
variable {o : Option (List Int)} {l l' l1 l2 : List Tk} {n : Nat} {vs : List Int} {v : Int}
theorem Yo(hM:wQ l=(o,l'))(h:zN l=(none,l2)):o=none/\l'=l2:=by unfold wQ at hM;rw[h]at hM;exact vG hM
theorem z1s(hl:l.length<=1073741823)(hM:wQ l=(o,l'))(h:zN l=(some v,l2)):LsI (o,l') l2.length [v] l2:=by
 have:=y5 _ _ _ h
 unfold wQ at hM;rw[h]at hM;exact⟨hM,Nat.le_refl _,by simp;omega⟩
theorem z1t(hI:LsI (o,l') n vs l1)(h0:isT aS l1=false):o=some vs/\l'=l1:=by have h:=hI.eq;rw[z1r h0]at h;exact vG h
theorem Yp(hI:LsI (o,l') n vs l1)(hT:isT aS l1=true)(h:zN (l1.drop 1)=(none,l2)):o=none/\l'=l2:=by have h1:=hI.eq;rw[WM hI.le hT,h]at h1;exact vG h1
theorem z1u(hI:LsI (o,l') n vs l1)(hT:isT aS l1=true)(h:zN (l1.drop 1)=(some v,l2)):LsI (o,l') (n-1) (vs++[v]) l2:=by
 have h1:=hI.eq;rw[WM hI.le hT,h]at h1;have h2:=y5 _ _ _ h;have h3:=hI.sz;have h4:=mM hT;simp only[List.length_drop]at h2;exact⟨h1,y9 y5 hI.le (kz hT) h,by simp only[List.length_append,List.length_cons,List.length_nil];omega⟩
theorem UQ{R:Option (List Int)×List Tk}(hI:LsI R n vs l1):(vs.map SQ).length<=1073741824:=by have:=hI.sz;rw[List.length_map];omega
theorem Yq(hI:LsI (o,l') n vs l1)(hT:isT aS l1=true):n-1<n:=LI.mu hI.le (kz hT)
end
theorem JL{l:List Tk}(h:decide (((l.map Tk.cs).length:Int)>0)=true):0<l.length:=by
 cases l with
 |nil=>simp at h
 |cons t r=>simp
def ISz(p:Pr)(l:List Tk)(p':Pr)(l':List Tk):Prop:=l'.length<=l.length/\p'.params.length<=p.params.length+1/\p'.states.length<=p.states.length+1/\p'.lines.length<=p.lines.length+1/\p'.tables.length<=p.tables.length+1/\p'.stmts.length<=p.stmts.length+1
theorem qH{α:Type}{p:Pr}{r:Option α×List Tk}{f:α->List Tk->Bool×Pr×List Tk}{p':Pr}{l l':List Tk}(h:itB p r f=(true,p',l'))(hr:Le l.length r)(hf:∀x m,m.length<=l.length->f x m=(true,p',l')->ISz p l p' l'):ISz p l p' l':=by
 obtain⟨o,m⟩:=r
 cases o with
 |none=>cases h
 |some x=>exact hf x m hr h
theorem E8:Sh lh:=.of λl=>(mF.le l).bnd λ_ _ h=>((y5.le _).mono h).bnd λ_ _ h=>((mF.le _).mono h).bnd λ_ _ h=>((y5.le _).mono h).bnd λ_ _ h=>h
theorem JM:Sh qB:=.of λl=>(mG.le l).bnd λ_ _ h=>((E8.le _).mono h).bnd λ_ _ h=>h
theorem JO:∀(n:Nat) (vs:List Int) (l:List Tk) (m:Nat),l.length<=m->Le m (listL n vs l)
 | 0,_,_,_,h=>h
 |n+1,vs,l,m,h=>by
  unfold listL
  split
  ·exact((y5.le _).mono (mD h)).bnd λ_ _ h=>JO n _ _ _ h
  ·exact h
theorem Yr:Sh wQ:=.of λl=>(y5.le l).bnd λ_ _ h=>JO _ _ _ _ h
theorem CY{p p':Pr}{l l':List Tk}(h:qC p l=(true,p',l')):ISz p l p' l':=qH h (JM.le l) λb m hm h=>by
 cases h;exact⟨hm,by simp,by simp,by simp,by simp,by simp⟩
theorem CZ{p p':Pr}{l l':List Tk}(h:qE p l=(true,p',l')):ISz p l p' l':=qH h (JM.le l) λb m hm h=>by
 cases h;exact⟨hm,by simp,by simp,by simp,by simp,by simp⟩
theorem Hy{p p':Pr}{l l':List Tk}(h:zO p l=(true,p',l')):ISz p l p' l':=qH h (mG.le l) λb m hm h=>qH h ((ui.le _).mono hm) λn m hm h=>qH h ((E8.le _).mono hm) λb m hm h=>by
 cases h;exact⟨hm,by simp,by simp,by simp,by simp,by simp⟩
theorem C9{p p':Pr}{l l':List Tk}(h:qF p l=(true,p',l')):ISz p l p' l':=qH h (mG.le l) λb m hm h=>qH h ((mF.le _).mono hm) λn m hm h=>qH h ((Yr.le _).mono hm) λb m hm h=>by
 cases h;exact⟨hm,by simp,by simp,by simp,by simp,by simp⟩
theorem vI{k:Int}{p p':Pr}{l l':List Tk}(h:jo k p l=(true,p',l')):ISz p l p' l':=qH h (by
  split
  ·exact(mG.le l).bnd λ_ _ h=>((mF.le _).mono h).bnd λ_ _ h=>h
  ·exact Nat.le_refl _) λb m hm h=>qH h (((Ht (y8 63)).le _).mono hm) λn m hm h=>by
 cases h;exact⟨hm,by simp,by simp,by simp,by simp,by simp⟩
structure ItI(t:List (Str×IM))(R:Bool×Pr×List Tk)(n:Nat)(p:Pr)(l:List Tk):Prop where
 eq:itemsF t n p l=R
 le:l.length<=n
 sz:Sz p l
section
variable {t : List (Str × IM)} {ok : Bool} {p p' p1 : Pr} {l l' l1 l2 : List Tk} {n : Nat} {f : IM}
theorem ItI.start(hz:Sz p l)(hM:ed t p l=(ok,p',l')):ItI t (ok,p',l') l.length p l:=⟨hM,Nat.le_refl _,hz⟩
theorem Yt(hn:l1.length<=n)(hT:isT (hd l1).text l1=true)(hf:find (hd l1).text t=some f):itemsF t n p l1=match f p (l1.drop 1)with
  |(false,p,l)=>(false,p,l)
  |(true,p,l)=>itB p (aC bP l) λ_ l=>itemsF t (n-1) p l:=by
 obtain⟨m,rfl,-⟩:=mJ (kz hT) hn
 rw[Nat.add_sub_cancel];conv=>{ lhs;unfold itemsF }
 have:l1.isEmpty=false:=by cases l1 with |nil=>exact absurd rfl (kz hT) |cons a r=>rfl
 simp only[this,Bool.false_eq_true,if_false,hf,hT,if_true]
 all_goals rfl
theorem z1v(hI:ItI t (ok,p',l') n p l1)(hT:isT (hd l1).text l1=true)(hf:find (hd l1).text t=some f)(hR:f p (l1.drop 1)=(false,p1,l2)):ok=false/\p'=p1/\l'=l2:=by
 have h:=hI.eq;rw[Yt hI.le hT hf,hR]at h;exact jr h
theorem z1w(hI:ItI t (ok,p',l') n p l1)(hT:isT (hd l1).text l1=true)(hf:find (hd l1).text t=some f)(hR:f p (l1.drop 1)=(true,p1,l2))(hW:isT bP l2=false):ok=false/\p'=p1/\l'=l2:=by
 have h:=hI.eq;rw[Yt hI.le hT hf,hR]at h
 simp only[aC,hW,Bool.false_eq_true,if_false,itB]at h
 exact jr h
theorem z7p(hI:ItI t (ok,p',l') n p l1)(hT:isT (hd l1).text l1=true)(hf:find (hd l1).text t=some f)(hR:f p (l1.drop 1)=(true,p1,l2))(hz:ISz p (l1.drop 1) p1 l2)(hW:isT bP l2=true):ItI t (ok,p',l') (n-1) p1 (l2.drop 1):=by
 have h:=hI.eq;rw[Yt hI.le hT hf,hR]at h
 simp only[aC,hW,if_true,itB]at h
 have h1:=mM hT
 have h2:=mM hW
 obtain⟨z1,z2,z3,z4,z5,z6⟩:=hz
 simp only[List.length_drop]at z1
 have hs:=hI.sz
 have:=hs.a;have:=hs.b;have:=hs.c;have:=hs.d;have:=hs.e
 have:=hI.le
 refine⟨h,by simp only[List.length_drop];omega,⟨?_,?_,?_,?_,?_⟩⟩<;>simp only[List.length_drop]<;>omega
theorem z1x(hI:ItI t (ok,p',l') n p l1)(hT:isT (hd l1).text l1=true):n-1<n:=LI.mu hI.le (kz hT)
theorem z1y(hI:ItI t (ok,p',l') n p l1)(h:decide (((l1.map Tk.cs).length:Int)>0)=false):ok=true/\p'=p/\l'=l1:=by
 have hl:l1 = []:=by cases l1 with
  |nil=>rfl
  |cons a r=>simp at h
 subst hl
 have h:=hI.eq
 cases n<;>exact jr h
theorem z1z(hI:ItI t (ok,p',l') n p l1)(hf:find (hd l1).text t=none):ok=true/\p'=p/\l'=l1:=by
 have h:=hI.eq
 cases n with
 |zero=>exact jr h
 |succ n=>
  unfold itemsF at h
  simp only[hf]at h
  split at h<;>exact jr h
theorem z14(hI:ItI t (ok,p',l') n p l1)(hT:isT (hd l1).text l1=false):ok=true/\p'=p/\l'=l1:=by
 have h:=hI.eq
 cases n with
 |zero=>exact jr h
 |succ n=>
  unfold itemsF at h
  simp only[hT,Bool.false_eq_true,if_false]at h
  split at h
  ·exact jr h
  ·split at h<;>exact jr h
end
abbrev p0(s:Str)(a t:Int):Pr:=⟨s,a,t,[],[],[],[],[]⟩
def ul(s:Str)(a t:Int):PM Pr:=λl=>match ed decls (p0 s a t) l with
 |(false,_,l)=>(none,l)
 |(true,p,l)=>match ed stmts p l with
  |(false,_,l)=>(none,l)
  |(true,p,l)=>bnd (aC zC l) λ_ l=>(some p,l)
theorem um(l:List Tk):mr l=bnd (aC wProcessor l) λ_ l=>bnd (nameM l) λs l=>bnd (aC cZ l) λ_ l=>bnd (numM l) λa l=>
 bnd (aC wTail l) λ_ l=>bnd (if isNum l then numM l else bnd (aC dR l) λ_ l=>(some (-1),l)) λt l=>bnd (aC sBra l) λ_ l=>ul s a t l:=rfl
section
variable {o : Option Pr} {l l' l1 l2 l3 : List Tk} {s : Str} {a t : Int} {p1 p2 : Pr}
theorem Yu(hM:mr l=(o,l'))(h0:isT wProcessor l=true)(h1:nameM (l.drop 1)=(some s,l1))(h2:isT cZ l1=true)(h3:numM (l1.drop 1)=(some a,l2))(h4:isT wTail l2=true)(h5:isNum (l2.drop 1)=true)
  (h6:isT sBra ((l2.drop 1).drop 1)=true):ul s a (hd (l2.drop 1)).n (((l2.drop 1).drop 1).drop 1)=(o,l')/\(((l2.drop 1).drop 1).drop 1).length<=l.length:=by
 refine⟨?_,?_⟩
 ·rw[um]at hM
  have e5:numM (l2.drop 1)=(some (hd (l2.drop 1)).n,(l2.drop 1).drop 1):=by unfold numM;rw[if_pos h5]
  simp only[aC,h0,if_true,bnd,h1,h2,h3,h4,h5,e5,h6]at hM
  exact hM
 ·have:=mG _ _ _ h1;have:=ui _ _ _ h3;simp only[List.length_drop]at *;omega
theorem Yv(hM:mr l=(o,l'))(h0:isT wProcessor l=true)(h1:nameM (l.drop 1)=(some s,l1))(h2:isT cZ l1=true)(h3:numM (l1.drop 1)=(some a,l2))(h4:isT wTail l2=true)(h5:isNum (l2.drop 1)=true)
  (h6:isT sBra ((l2.drop 1).drop 1)=false):o=none/\l'=(l2.drop 1).drop 1:=by
 rw[um]at hM
 have e5:numM (l2.drop 1)=(some (hd (l2.drop 1)).n,(l2.drop 1).drop 1):=by unfold numM;rw[if_pos h5]
 simp only[aC,h0,if_true,bnd,h1,h2,h3,h4,h5,e5,h6,Bool.false_eq_true,if_false]at hM
 exact vG hM
theorem Yw(hM:mr l=(o,l'))(h0:isT wProcessor l=true)(h1:nameM (l.drop 1)=(some s,l1))(h2:isT cZ l1=true)(h3:numM (l1.drop 1)=(some a,l2))(h4:isT wTail l2=true)(h5:isNum (l2.drop 1)=false)(h7:isT dR (l2.drop 1)=true)
  (h6:isT sBra ((l2.drop 1).drop 1)=true):ul s a (-1) (((l2.drop 1).drop 1).drop 1)=(o,l')/\(((l2.drop 1).drop 1).drop 1).length<=l.length:=by
 refine⟨?_,?_⟩
 ·rw[um]at hM
  simp only[aC,h0,if_true,bnd,h1,h2,h3,h4,h5,h7,h6,Bool.false_eq_true,if_false]at hM
  exact hM
 ·have:=mG _ _ _ h1;have:=ui _ _ _ h3;simp only[List.length_drop]at *;omega
theorem Yx(hI:ul s a t l=(o,l'))(h:ed decls (p0 s a t) l=(false,p1,l1)):o=none/\l'=l1:=by
 unfold ul at hI;rw[h]at hI;exact vG hI
theorem Yy(hI:ul s a t l=(o,l'))(h:ed decls (p0 s a t) l=(true,p1,l1))(h2:ed stmts p1 l1=(false,p2,l2)):o=none/\l'=l2:=by
 unfold ul at hI;rw[h]at hI;simp only[h2]at hI;exact vG hI
theorem Yz(hI:ul s a t l=(o,l'))(h:ed decls (p0 s a t) l=(true,p1,l1))(h2:ed stmts p1 l1=(true,p2,l2))(hW:isT zC l2=false):o=none/\l'=l2:=by
 unfold ul at hI;rw[h]at hI;simp only[h2,aC,hW,Bool.false_eq_true,if_false,bnd]at hI;exact vG hI
theorem z15(hI:ul s a t l=(o,l'))(h:ed decls (p0 s a t) l=(true,p1,l1))(h2:ed stmts p1 l1=(true,p2,l2))(hW:isT zC l2=true):o=some p2/\l'=l2.drop 1:=by
 unfold ul at hI;rw[h]at hI;simp only[h2,aC,hW,if_true,bnd]at hI;exact vG hI
end
theorem sz0{s:Str}{a t:Int}{l:List Tk}(h:l.length<=1073741823):Sz (p0 s a t) l:=⟨by simpa using h,by simpa using h,by simpa using h,by simpa using h,by simpa using h⟩
theorem QB{t:List (Str×IM)}(ht:∀x∈t,∀p l p' l',x.2 p l=(true,p',l')->ISz p l p' l'){s:Str}{f:IM}(h:find s t=some f){p p':Pr}{l l':List Tk}(hf:f p l=(true,p',l')):ISz p l p' l':=by
 induction t with
 |nil=>cases h
 |cons x r ih=>
  simp only[find]at h
  split at h
  ·cases h;exact ht x (by simp) _ _ _ _ hf
  ·exact ih (λy hy=>ht y (by simp[hy])) h
theorem JP:∀x∈decls,∀p l p' l',x.2 p l=(true,p',l')->ISz p l p' l':=by
 intro x hx p l p' l' h
 simp only[decls,List.mem_cons,List.not_mem_nil,or_false]at hx
 rcases hx with rfl |rfl |rfl |rfl
 ·exact CY h
 ·exact CZ h
 ·exact Hy h
 ·exact C9 h
theorem UR:∀x∈stmts,∀p l p' l',x.2 p l=(true,p',l')->ISz p l p' l':=by
 intro x hx p l p' l' h
 simp only[stmts,List.mem_cons,List.not_mem_nil,or_false]at hx
 rcases hx with rfl |rfl |rfl |rfl
 ·exact vI (k:=1) h
 ·exact vI (k:=2) h
 ·exact vI (k:=3) h
 ·exact vI (k:=4) h
theorem Fa{t:List (Str×IM)}(ht:∀x∈t,∀p l p' l',x.2 p l=(true,p',l')->ISz p l p' l'):∀(n:Nat) (p:Pr) (l:List Tk) (p':Pr) (l':List Tk),itemsF t n p l=(true,p',l')->Sz p l->Sz p' l'/\l'.length<=l.length
 | 0,p,l,p',l',h,hz=>by cases h;exact⟨hz,Nat.le_refl _⟩
 |n+1,p,l,p',l',h,hz=>by
  unfold itemsF at h
  split at h
  ·cases h;exact⟨hz,Nat.le_refl _⟩
  ·split at h
   ·cases h;exact⟨hz,Nat.le_refl _⟩
   ·rename_i f hf
    split at h
    ·rename_i hT
     split at h
     ·cases h
     ·rename_i p1 l1 hR
      have hi:=QB ht hf hR
      obtain⟨z1,z2,z3,z4,z5,z6⟩:=hi
      have hl:=mM hT
      simp only[List.length_drop]at z1
      by_cases hW:isT bP l1=true
      ·simp only[aC,hW,if_true,itB]at h
       have:=hz.a;have:=hz.b;have:=hz.c;have:=hz.d;have:=hz.e
       have:=mM hW
       have ih:=Fa ht n p1 (l1.drop 1) p' l' h ⟨by simp only[List.length_drop];omega,by simp only[List.length_drop];omega,by simp only[List.length_drop];omega,by simp only[List.length_drop];omega,by simp only[List.length_drop];omega⟩
       refine⟨ih.1,?_⟩
       have:=ih.2
       simp only[List.length_drop]at this
       omega
      ·simp only[aC,hW,if_false,itB]at h
       cases h
    ·cases h;exact⟨hz,Nat.le_refl _⟩
theorem Fe{p p':Pr}{l l':List Tk}(h:ed decls p l=(true,p',l'))(hz:Sz p l):Sz p' l':=(Fa JP _ _ _ _ _ h hz).1
structure RdI(R:Option (List Pr)×List Tk)(n:Nat)(ps:List Pr)(l:List Tk):Prop where
 eq:readF n ps l=R
 le:l.length<=n
 sz:ps.length+l.length<=1073741823
theorem Dc{t:List (Str×IM)}(ht:∀x∈t,∀p l p' l',x.2 p l=(true,p',l')->ISz p l p' l'):∀(n:Nat) (p:Pr) (l:List Tk) (p':Pr) (l':List Tk),itemsF t n p l=(true,p',l')->l'.length<=l.length
 | 0,p,l,p',l',h=>by cases h;exact Nat.le_refl _
 |n+1,p,l,p',l',h=>by
  unfold itemsF at h
  split at h
  ·cases h;exact Nat.le_refl _
  ·split at h
   ·cases h;exact Nat.le_refl _
   ·rename_i f hf
    split at h
    ·rename_i hT
     split at h
     ·cases h
     ·rename_i p1 l1 hR
      have z1:=(QB ht hf hR).1
      simp only[List.length_drop]at z1
      by_cases hW:isT bP l1=true
      ·simp only[aC,hW,if_true,itB]at h
       have ih:=Dc ht n p1 (l1.drop 1) p' l' h
       simp only[List.length_drop]at ih
       omega
      ·simp only[aC,hW,if_false,itB]at h
       cases h
    ·cases h;exact Nat.le_refl _
theorem af{α β:Type}{r:Option α×List Tk}{f:α->PM β}{y:β}{m:List Tk}(h:bnd r f=(some y,m)):∃x l,r=(some x,l)/\f x l=(some y,m):=by
 obtain⟨o,l⟩:=r
 cases o with
 |none=>cases h
 |some x=>exact⟨x,l,rfl,h⟩
theorem oq{s:Str}{l m:List Tk}{y:Unit}(h:aC s l=(some y,m)):isT s l=true/\m=l.drop 1:=by
 unfold aC at h
 split at h
 ·rename_i hT;cases h;exact⟨hT,rfl⟩
 ·cases h
theorem UT{s:Str}{a t:Int}{l m:List Tk}{p:Pr}(h:ul s a t l=(some p,m)):m.length<=l.length:=by
 unfold ul at h
 split at h
 ·cases h
 ·rename_i p1 l1 h1
  split at h
  ·cases h
  ·rename_i p2 l2 h2
   obtain⟨x,l3,h3,h4⟩:=af h
   obtain⟨-,rfl⟩:=oq h3
   cases h4
   have:=Dc JP _ _ _ _ _ h1
   have:=Dc UR _ _ _ _ _ h2
   simp only[List.length_drop];omega
theorem Hz{l m:List Tk}{p:Pr}(h:mr l=(some p,m)):m.length<l.length:=by
 rw[um]at h
 obtain⟨x,l1,h1,h⟩:=af h
 obtain⟨hT,rfl⟩:=oq h1
 obtain⟨s,l2,h2,h⟩:=af h
 obtain⟨x,l3,h3,h⟩:=af h
 obtain⟨-,rfl⟩:=oq h3
 obtain⟨a,l4,h4,h⟩:=af h
 obtain⟨x,l5,h5,h⟩:=af h
 obtain⟨-,rfl⟩:=oq h5
 obtain⟨t,l6,h6,h⟩:=af h
 obtain⟨x,l7,h7,h⟩:=af h
 obtain⟨-,rfl⟩:=oq h7
 have e2:=mG _ _ _ h2
 have e4:=ui _ _ _ h4
 have e6:l6.length<=(l4.drop 1).length:=by
  split at h6
  ·exact ui _ _ _ h6
  ·obtain⟨x,l8,h8,h9⟩:=af h6
   have:=mF _ _ _ h8
   cases h9;exact this
 have e8:=UT h
 have:=mM hT
 simp only[List.length_drop]at *
 omega
def readD(e:Int):Option (List Pr)×List Tk->D
 |(some ps,_)=>.tuple [.sl 8 (ps.map Pr.cs),.i 0,.i 0]
 |(none,l)=>.tuple [.sl 8 [],.i (at' e l),.i 140]
section
variable {l l1 l2 : List Tk} {n : Nat} {ps : List Pr} {p : Pr} {R : Option (List Pr) × List Tk}
theorem z16(hl:l.length<=1073741823):RdI (iU l) l.length [] l:=⟨rfl,Nat.le_refl _,by simpa using hl⟩
theorem QC(hn:l.length<=n)(h:decide (((l.map Tk.cs).length:Int)>0)=true):readF n ps l=bnd (mr l) λp l=>readF (n-1) (ps++[p]) l:=by
 have hp:=JL h
 obtain⟨m,rfl⟩:∃m,n=m+1:=⟨n-1,by omega⟩
 rw[Nat.add_sub_cancel];conv=>{ lhs;unfold readF }
 have:l.isEmpty=false:=by cases l with |nil=>simp at hp |cons a r=>rfl
 simp only[this,Bool.false_eq_true,if_false]
theorem z18(hI:RdI R n ps l)(h:decide (((l.map Tk.cs).length:Int)>0)=true)(hp:mr l=(none,l2)):R=(none,l2):=by
 have h1:=hI.eq;rw[QC hI.le h,hp]at h1;exact h1.symm
theorem z19(hI:RdI R n ps l)(h:decide (((l.map Tk.cs).length:Int)>0)=true)(hp:mr l=(some p,l2)):RdI R (n-1) (ps++[p]) l2:=by
 have h1:=hI.eq;rw[QC hI.le h,hp]at h1
 have h2:=Hz hp;have h3:=hI.le;have h4:=hI.sz
 exact⟨h1,by omega,by simp;omega⟩
theorem YA(hI:RdI R n ps l)(h:decide (((l.map Tk.cs).length:Int)>0)=true):n-1<n:=by
 have:=JL h;have:=hI.le;omega
theorem z2a(hI:RdI R n ps l)(h:decide (((l.map Tk.cs).length:Int)>0)=false):R=(some ps,l):=by
 have hl:l = []:=by cases l with
  |nil=>rfl
  |cons a r=>simp at h
 subst hl
 have h:=hI.eq
 cases n<;>exact h.symm
theorem z5k(hI:RdI R n ps l):l.length<=1073741823:=by have:=hI.sz;omega
theorem UU(hI:RdI R n ps l):(ps.map Pr.cs).length<=1073741824:=by have:=hI.sz;rw[List.length_map];omega
end
theorem YB(ρ:List (Nat×Nat)):AV.ren.go ρ [] = []:=rfl
theorem zg{T:Tbl}{Df:FuncId->List AV->Option D->Bool->Heap->Heap->Prop}{f:FuncId}{az:List AV}{d y:D}{rs:List ResultVar}{K0:Heap}{env:Env}{K K1:Heap}(h:TG Df f az (some d) false env K λK=>finR T rs K0 (.ret (.data y)) K1 env K):F6 T Df f az d rs K0 env K K1 (pM.ret y).toA:=F6.ret h
abbrev wC(ts:List Tk):Block:=.cells [.gs 1000001 4 (ts.map Tk.cs)]
abbrev wT(ts:List Tk):Block:=.tok 4 (ts.map Tk.cs).length
theorem aY{B:B'}{L:List Nat}{f:FuncId}{az:List AV}{env:Env}{K:Heap}{next pan:Next}{ds:List AV}(Δ:List Tk)(hr:∀ρ,AV.ren.go ρ ds=ds)
  (H:∀ts:List Tk,ts.length+Δ.length<=1073741823->B f (.ptr 1000000 0::ds) [(1000000,wC ts),(1000001,wT ts)] (.ret (.data (.tuple []))) [(1000000,wC (ts++Δ)),(1000001,wT (ts++Δ))])
  (hk:∃(X Y:Nat) (ts:List Tk),az = .ptr X 0::ds/\K.get X=some (.cells [.gs Y 4 (ts.map Tk.cs)])/\K.get Y=some (.tok 4 (ts.map Tk.cs).length)/\Nat.beq X Y=false/\allIn L [X,Y]=true/\ts.length+Δ.length<=1073741823 /\
   next (.data (.tuple [])) ((K.put Y (.tok 4 ((ts++Δ).map Tk.cs).length)).put X (.cells [.gs Y 4 ((ts++Δ).map Tk.cs)]))) :
  ∃(as0:List AV) (K0:Heap) (out:fP) (K1:Heap) (ρ:List (Nat×Nat)),B f as0 K0 out K1/\AV.ren.go ρ as0=az/\Heap.sub ρ K K0/\bz ρ K0 K1 out.av env K L=true /\
  outGo ρ K1 K next pan out:=by
 obtain⟨X,Y,ts,has,hK,hY,hXY,hL,hn,h1⟩:=hk
 refine⟨_,_,_,_,[(1000000,X),(1000001,Y)],H ts hn,?_,⟨hK,hY,trivial⟩,?_,h1⟩
 ·rw[has]
  show AV.ren _ _::AV.ren.go _ ds=_
  rw[hr];rfl
 ·have hn:jI [X,Y]=true:=by
   simp only[jI,kK,hXY];rfl
  show(jI [X,Y]&&(_&&(allIn L [X,Y]&&(_&&_))))=true
  rw[hn,hL]
  rfl
theorem jv{B:B'}{L:List Nat}{f:FuncId}{az:List AV}{env:Env}{K:Heap}{next pan:Next}
  (H:∀(ss:List Str) (ts:List Tk),ts.length+ss.length<=1073741823->B f [.ptr 1000000 0,.gs 1000002 1 (ss.map ve)] [(1000000,wC ts),(1000001,wT ts),(1000002,.tok 1 (ss.map ve).length)] (.ret (.data (.tuple []))) [(1000000,wC (ts++ss.map wd)),(1000001,wT (ts++ss.map wd)),(1000002,.tok 1 (ss.map ve).length)])
  (hk:∃(ss:List Str) (X Y Z:Nat) (ts:List Tk),az = [.ptr X 0,.gs Z 1 (ss.map ve)]/\K.get X=some (.cells [.gs Y 4 (ts.map Tk.cs)])/\K.get Y=some (.tok 4 (ts.map Tk.cs).length)/\K.get Z=some (.tok 1 (ss.map ve).length)/\jI [X,Y,Z]=true/\allIn L [X,Y,Z]=true/\ts.length+ss.length<=1073741823 /\
   next (.data (.tuple [])) (((K.put Z (.tok 1 (ss.map ve).length)).put Y (.tok 4 ((ts++ss.map wd).map Tk.cs).length)).put X (.cells [.gs Y 4 ((ts++ss.map wd).map Tk.cs)]))) :
  ∃(as0:List AV) (K0:Heap) (out:fP) (K1:Heap) (ρ:List (Nat×Nat)),B f as0 K0 out K1/\AV.ren.go ρ as0=az/\Heap.sub ρ K K0/\bz ρ K0 K1 out.av env K L=true /\
  outGo ρ K1 K next pan out:=by
 obtain⟨ss,X,Y,Z,ts,has,hK,hY,hZ,hXY,hL,hn,h1⟩:=hk
 refine⟨_,_,_,_,[(1000000,X),(1000001,Y),(1000002,Z)],H ss ts hn,has.symm,⟨hK,hY,hZ,trivial⟩,?_,h1⟩
 show(jI [X,Y,Z]&&(_&&(allIn L [X,Y,Z]&&(_&&_))))=true
 rw[hXY,hL]
 rfl
theorem rJ(d:D)(n:D)(ρ:List (Nat×Nat)):AV.ren.go ρ [.data d,.data n] = [.data d,.data n]:=rfl
theorem Dh{n:Int}(h:decide (n<0)=true):[sg dh]++[nu (IntKind.i64.wrap (0-n))]=jq n:=by
 have h:=of_decide_eq_true h
 unfold jq;rw[if_pos h];rfl
theorem JQ{n:Int}(h:decide (n<0)=false):[nu n]=jq n:=by
 have h:=of_decide_eq_false h
 unfold jq;rw[if_neg h]
abbrev z2c(f:Int×Form):D×D:=(.i f.1,.agg [.sl 1 (f.2.1.map ve),.sl 1 (f.2.2.1.map SQ),.str f.2.2.2])
theorem JR{k:Int}{F:D->Prop}{G:Prop}:∀(fs:List (Int×Form)),(∀f,Ho k fs=some f->F (.agg [.sl 1 (f.1.map ve),.sl 1 (f.2.1.map SQ),.str f.2.2]))->(Ho k fs=none->G)->DJ (BL (.i k) (fs.map z2c)) F G
 | [],_,h2=>h2 rfl
 |(w,f)::r,h1,h2=>by
  simp only[List.map_cons,BL,fE,sameS,Ho]at h1 h2 ⊢
  cases h:k==w with
  |true=>
   simp only[h,if_true]at h1
   exact h1 f rfl
  |false=>
   simp only[h,Bool.false_eq_true,if_false]at h1 h2
   exact JR r h1 h2
end Go.Fw.Sy
namespace Go.Fw.Sy
open Go.Fw.Lx (Tk)
variable [ae] {ts : List Tk} {n : Int}
theorem z2d(h:decide (n<0)=true)(hn:ts.length+(jq n).length<=1073741823):ts.length+[sg dh].length<=1073741823:=by
 rw[<-Dh h]at hn;simp at hn ⊢;omega
theorem z2e(h:decide (n<0)=true):((ts++[sg dh]).map Tk.cs)++[[D.val (.int .i64 2),D.str [],D.val (.int .i64 (IntKind.i64.wrap (0-n))),D.val (.int .i64 0)]]=(ts++jq n).map Tk.cs:=by
 rw[<-Dh h];simp
theorem z2f(h:decide (n<0)=false):(ts.map Tk.cs)++[[D.val (.int .i64 2),D.str [],D.val (.int .i64 n),D.val (.int .i64 0)]]=(ts++jq n).map Tk.cs:=by
 rw[<-JQ h];simp
theorem YC(h:decide (n<0)=true)(hn:ts.length+(jq n).length<=1073741823):((ts++[sg dh]).map Tk.cs).length<=1073741824:=by
 rw[<-Dh h]at hn;simp at hn ⊢;omega
theorem YD(h:decide (n<0)=false)(hn:ts.length+(jq n).length<=1073741823):(ts.map Tk.cs).length<=1073741824:=by
 rw[<-JQ h]at hn;simp at hn ⊢;omega
end Go.Fw.Sy
namespace Go.Fw.Sy
open Go.Fw.Lx (Tk)
variable [ae]
def tlT(x:Ex)(f:Form):List Tk:=if f.2.2==[]then []else sg f.2.2::jq x.n
theorem ML{x:Ex}{f:Form}(h:lH x.kind=some f):bg x=opsT x.l f.1 f.2.1++tlT x f:=by
 cases x with
 |mk k nm i n l=>
  simp only[Ex.kind]at h
  rw[bg,h];rfl
theorem JS:∀(l:List Ex) (lv:List Int),opsT l [] lv = []
 | [],_=>rfl
 |_::_,_=>rfl
structure FI(x:Ex)(f:Form)(R:List Tk)(i:Nat)(hs:List Str)(t:List Tk):Prop where
 eq:t++(opsT (x.l.drop i) hs (f.2.1.drop i)++tlT x f)=R
section
variable {x y : Ex} {f : Form} {R ts t1 H : List Tk} {i : Nat} {s : Str} {r : List Str} {v : Int}
theorem UV(hf:lH x.kind=some f):FI x f (ts++bg x) 0 f.1 ts:=⟨by rw[ML hf];rfl⟩
theorem YE(hy:x.l[i]? = some y)(hv:f.2.1[i]? = some v):opsT (x.l.drop i) (s::r) (f.2.1.drop i)=lm s++(dm y v++opsT (x.l.drop (i+1)) r (f.2.1.drop (i+1))):=by
 obtain⟨h1,rfl⟩:=List.getElem?_eq_some_iff.1 hy
 obtain⟨h2,rfl⟩:=List.getElem?_eq_some_iff.1 hv
 rw[List.drop_eq_getElem_cons h1,List.drop_eq_getElem_cons h2]
 rfl
theorem YF(hy:¬i<x.l.length):opsT (x.l.drop i) (s::r) (f.2.1.drop i)=lm s++opsT (x.l.drop (i+1)) r (f.2.1.drop (i+1)):=by
 rw[List.drop_eq_nil_of_le (show x.l.length<=i by omega),List.drop_eq_nil_of_le (show x.l.length<=i+1 by omega)]
 simp only[opsT,List.flatMap_cons]
theorem ZU(hI:FI x f R i (s::r) t1)(hh:lm s=H)(hy:x.l[i]? = some y)(hv:f.2.1[i]? = some v):FI x f R (i+1) r (t1++H++dm y v):=by
 have h:=hI.eq
 rw[YE hy hv,hh]at h
 exact⟨by rw[<-h];simp only[List.append_assoc]⟩
theorem z5l(hI:FI x f R i (s::r) t1)(hh:lm s = [])(hy:x.l[i]? = some y)(hv:f.2.1[i]? = some v):FI x f R (i+1) r (t1++dm y v):=by
 have:=ZU hI hh hy hv;simpa using this
theorem z2g(hI:FI x f R i (s::r) t1)(hh:lm s=H)(hi:decide ((i:Int)<((Ex.css x.l).length:Int))=false):FI x f R (i+1) r (t1++H):=by
 have hi:¬i<x.l.length:=by have:=of_decide_eq_false hi;rw[Ex.css_eq,List.length_map]at this;omega
 have h:=hI.eq
 rw[YF hi,hh]at h
 exact⟨by rw[<-h];simp only[List.append_assoc]⟩
theorem z5m(hI:FI x f R i (s::r) t1)(hh:lm s = [])(hi:decide ((i:Int)<((Ex.css x.l).length:Int))=false):FI x f R (i+1) r t1:=by
 have:=z2g hI hh hi;simpa using this
theorem QD(hI:FI x f (ts++bg x) i (s::r) t1)(hn:ts.length+(bg x).length<=1073741823)(hh:lm s=H):t1.length+H.length<=1073741823:=by
 have h:=congrArg List.length hI.eq
 have h2:H.length<=(opsT (x.l.drop i) (s::r) (f.2.1.drop i)).length:=by
  cases x.l.drop i with
  |nil=>simp only[opsT,List.flatMap_cons,List.length_append,hh];omega
  |cons a b=>simp only[opsT,List.length_append,hh];omega
 simp only[List.length_append]at h
 omega
theorem QE(hI:FI x f (ts++bg x) i (s::r) t1)(hn:ts.length+(bg x).length<=1073741823)(hh:lm s=H)(hy:x.l[i]? = some y)(hv:f.2.1[i]? = some v):(t1++H).length+(dm y v).length<=1073741823:=by
 have h:=congrArg List.length (ZU hI hh hy hv).eq
 simp only[List.length_append]at h ⊢
 omega
theorem z2h(hI:FI x f (ts++bg x) i (s::r) t1)(hn:ts.length+(bg x).length<=1073741823)(hh:lm s = [])(hy:x.l[i]? = some y)(hv:f.2.1[i]? = some v):t1.length+(dm y v).length<=1073741823:=by
 have:=QE hI hn hh hy hv;simpa using this
theorem z5n(hI:FI x f R i [] t1)(h:(!(f.2.2==[]))=false):t1=R:=by
 have h1:=hI.eq
 have h:(f.2.2==[])=true:=by simpa using h
 rw[JS,tlT,h]at h1
 simpa using h1
theorem z2i(hI:FI x f R i [] t1)(h:(!(f.2.2==[]))=true):t1++[sg f.2.2]++jq x.n=R:=by
 have h1:=hI.eq
 have h:(f.2.2==[])=false:=by simpa using h
 rw[JS,tlT,h]at h1
 simpa using h1
theorem z2j(hI:FI x f (ts++bg x) i [] t1)(hn:ts.length+(bg x).length<=1073741823)(h:(!(f.2.2==[]))=true):t1.length+[sg f.2.2].length<=1073741823/\(t1++[sg f.2.2]).length+(jq x.n).length<=1073741823:=by
 have h:=congrArg List.length (z2i hI h)
 simp only[List.length_append]at h ⊢
 omega
theorem Di(h:(s==wIf)=true):lm s = [wd s]:=by simp only[lm,h,Bool.true_or,if_true]
theorem uq(h:(s==kL)=true):lm s = [wd s]:=by simp only[lm,h,Bool.true_or,Bool.or_true,if_true]
theorem ut(h:(s==kM)=true):lm s = [wd s]:=by simp only[lm,h,Bool.or_true,if_true]
theorem HY(h1:(s==wIf)=false)(h2:(s==kL)=false)(h3:(s==kM)=false)(h:(s==[])=true):lm s = []:=by simp only[lm,h1,h2,h3,Bool.or_self,Bool.false_eq_true,if_false,h,if_true]
theorem zh(h1:(s==wIf)=false)(h2:(s==kL)=false)(h3:(s==kM)=false)(h:(s==[])=false):lm s = [sg s]:=by simp only[lm,h1,h2,h3,Bool.or_self,Bool.false_eq_true,if_false,h]
end
theorem JU{k:Int}{f:Form}(h:lH k=some f):f.1.length=f.2.1.length/\f.1.length<=4:=by
 have:∀fs:List (Int×Form),(∀x∈fs,x.2.1.length=x.2.2.1.length/\x.2.1.length<=4)->Ho k fs=some f->f.1.length=f.2.1.length/\f.1.length<=4:=by
  intro fs
  induction fs with
  |nil=>intro _ h;cases h
  |cons x r ih=>
   intro ha h
   simp only[Ho]at h
   split at h
   ·cases h;exact ha x (by simp)
   ·exact ih (λy hy=>ha y (by simp[hy])) h
 exact this forms (by decide) h
theorem WN{T:Prop}{l:List Ex}{n:Int}{i:Nat}{q:List D->Prop}(hT:T)(hn:n=(i:Int))(h:i<l.length)(hq:∀y,l[i]? = some y->q y.cs):T/\∃c,(0<=n/\(Ex.css l)[n.toNat]? = some c)/\q c:=by
 subst hn
 have hy:l[i]? = some l[i]:=List.getElem?_eq_getElem h
 exact⟨hT,_,⟨Int.natCast_nonneg _,by rw[Ex.css_eq,Int.toNat_natCast,List.getElem?_map,hy];rfl⟩,hq _ hy⟩
theorem z2k{T:Prop}{l:List Int}{n:Int}{i:Nat}{q:List D->Prop}(hT:T)(hn:n=(i:Int))(h:i<l.length)(hq:∀v,l[i]? = some v->q (SQ v)):T/\∃c,(0<=n/\(l.map SQ)[n.toNat]? = some c)/\q c:=by
 subst hn
 have hy:l[i]? = some l[i]:=List.getElem?_eq_getElem h
 exact⟨hT,_,⟨Int.natCast_nonneg _,by rw[Int.toNat_natCast,List.getElem?_map,hy];rfl⟩,hq _ hy⟩
theorem z2l{l:List Ex}{i:Nat}(h:decide ((i:Int)<((Ex.css l).length:Int))=true):i<l.length:=by
 have:=of_decide_eq_true h;rw[Ex.css_eq,List.length_map]at this;omega
theorem z5o{f:Form}{k:Int}{i:Nat}{s:Str}{r:List Str}(h:lH k=some f)(hd:f.1.drop i=s::r):i<f.2.1.length:=by
 have:=JU h
 have:i<f.1.length:=by
  by_cases hi:i<f.1.length
  ·exact hi
  ·rw[List.drop_eq_nil_of_le (by omega)]at hd;cases hd
 omega
theorem QF(x:Ex):dm x 0=bg x:=by
 unfold dm
 rw[if_neg]
 unfold level
 split
 ·decide
 ·split
  ·decide
  ·split<;>decide
theorem xA{x:Ex}{v:Int}(h:decide (level x.kind<v)=true):dm x v=sg sPar::(bg x++[sg sKet]):=by
 unfold dm;rw[if_pos (of_decide_eq_true h)]
theorem UW{x:Ex}{v:Int}(h:decide (level x.kind<v)=false):dm x v=bg x:=by
 unfold dm;rw[if_neg (of_decide_eq_false h)]
abbrev Fun:=Str×Int×Int×Bool
structure MI(k:Int)(es:List (D×D)):Prop where
 a:∀e∈es,∃f∈wF,e=SS f
 b:∀f∈wF,f.2.1=k->SS f∈es
theorem UX(k:Int):MI k (wF.map SS):=⟨λe he=>by obtain⟨f,hf,rfl⟩:=List.mem_map.1 he;exact⟨f,hf,rfl⟩,λf hf _=>List.mem_map.2 ⟨f,hf,rfl⟩⟩
theorem YG{k:Int}{l1 l2:List (D×D)}{x:D×D}(h:MI k (l1++x::l2)):∃f,f∈wF/\x=SS f:=by
 obtain⟨f,hf,e⟩:=h.a x (by simp);exact⟨f,hf,e⟩
theorem YH{k:Int}{l1 l2:List (D×D)}{f:Fun}(h:MI k (l1++SS f::l2))(hk:(f.2.1 != k)=true):MI k (l1++l2):=by
 refine⟨λe he=>h.a e ?_,λg hg e=>?_⟩
 ·simp only[List.mem_append,List.mem_cons]at he ⊢
  rcases he with he |he
  ·exact .inl he
  ·exact .inr (.inr he)
 ·have:=h.b g hg e
  simp only[List.mem_append,List.mem_cons]at this ⊢
  rcases this with h1 |h1 |h1
  ·exact .inl h1
  ·exfalso
   have:f.2.1=g.2.1:=by
    have:=congrArg Prod.snd h1
    simp only[SS,D.agg.injEq,List.cons.injEq,D.val.injEq,Value.int.injEq]at this
    exact this.1.2.symm
   simp[this,e]at hk
  ·exact .inr h1
theorem JV{k:Int}(h:MI k []):ET k=none:=by
 have:∀fs:List Fun,(∀f∈fs,f.2.1≠k)->z4s k fs=none:=by
  intro fs
  induction fs with
  |nil=>intro _;rfl
  |cons x r ih=>
   intro ha
   obtain⟨w,c,n,b⟩:=x
   have h1:(c==k)=false:=by simpa using ha (w,c,n,b) (by simp)
   simp only[z4s,h1,Bool.false_eq_true,if_false]
   exact ih λy hy=>ha y (by simp[hy])
 exact this wF λf hf e=>by simpa using h.b f hf e
theorem AZ{k:Int}{f:Fun}(hf:f∈wF)(hk:(f.2.1 != k)=false):ET k=some (f.1,f.2.2):=by
 have hk:f.2.1=k:=by simpa using hk
 subst hk
 simp only[wF,List.mem_cons,List.not_mem_nil,or_false]at hf
 rcases hf with rfl |rfl |rfl |rfl |rfl |rfl |rfl |rfl<;>rfl
theorem z5p{f:Fun}(hf:f∈wF):0<=f.2.2.1/\f.2.2.1<=2:=by
 simp only[wF,List.mem_cons,List.not_mem_nil,or_false]at hf
 rcases hf with rfl |rfl |rfl |rfl |rfl |rfl |rfl |rfl<;>decide
theorem QG{x:Ex}{f:Str×Int×Bool}(h0:lH x.kind=none)(h:ET x.kind=some f):bg x=wd f.1::sg sPar::((if f.2.2 then [wd x.name,sg aS]else [])++(Wy x.l f.2.1.toNat 0++[sg sKet])):=by
 cases x with
 |mk k nm i n l=>
  simp only[Ex.kind]at h h0
  rw[bg,h0];simp only[h];rfl
theorem Ff{x:Ex}(h0:lH x.kind=none)(h:ET x.kind=none)(h1:(x.kind==1)=true):bg x=jq x.n:=by
 cases x with
 |mk k nm i n l=>
  simp only[Ex.kind]at h h0 h1
  rw[bg,h0];simp only[h,h1,if_true];rfl
theorem A7{x:Ex}(h0:lH x.kind=none)(h:ET x.kind=none)(h1:(x.kind==1)=false):bg x = [wd x.name]:=by
 cases x with
 |mk k nm i n l=>
  simp only[Ex.kind]at h h0 h1
  rw[bg,h0];simp only[h,h1,Bool.false_eq_true,if_false];rfl
section
variable {x : Ex} {v : Int} {ts : List Tk}
theorem z2m(h:decide (level x.kind<v)=true)(hn:ts.length+(dm x v).length<=1073741823):ts.length+[sg sPar].length<=1073741823:=by
 rw[xA h]at hn;simp only[List.length_cons,List.length_append,List.length_nil]at hn ⊢;omega
theorem z2o(h:decide (level x.kind<v)=true)(hn:ts.length+(dm x v).length<=1073741823):(ts++[sg sPar]).length+(bg x).length<=1073741823:=by
 rw[xA h]at hn;simp only[List.length_cons,List.length_append,List.length_nil]at hn ⊢;omega
theorem z2p(h:decide (level x.kind<v)=true)(hn:ts.length+(dm x v).length<=1073741823):(ts++[sg sPar]++bg x).length+[sg sKet].length<=1073741823:=by
 rw[xA h]at hn;simp only[List.length_cons,List.length_append,List.length_nil]at hn ⊢;omega
theorem z2q(h:decide (level x.kind<v)=true):List.map Tk.cs (ts++[sg sPar]++bg x++[sg sKet])=List.map Tk.cs (ts++dm x v):=by
 rw[xA h];simp
theorem YI{f:Form}{k:Int}(he:lH k=some f):f.1.length<=9223372036854775807:=by have:=JU he;omega
end
structure AT(x:Ex)(g:Fun)(R:List Tk)(i:Nat)(t:List Tk):Prop where
 eq:t++(Wy (x.l.drop i) (g.2.2.1.toNat-i) i++[sg sKet])=R
section
variable {x y : Ex} {g : Fun} {ts t1 : List Tk} {i : Nat}
theorem MM(he:lH x.kind=none)(hk:ET x.kind=some (g.1,g.2.2)):bg x=wd g.1::sg sPar::((if g.2.2.2 then [wd x.name,sg aS]else [])++(Wy x.l g.2.2.1.toNat 0++[sg sKet])):=QG he hk
theorem z5q(hn:ts.length+(bg x).length<=1073741823)(he:lH x.kind=none)(hk:ET x.kind=some (g.1,g.2.2)):ts.length+[g.1].length<=1073741823:=by
 rw[MM he hk]at hn;simp only[List.length_cons,List.length_append,List.length_nil]at hn ⊢;omega
theorem z5r(hn:ts.length+(bg x).length<=1073741823)(he:lH x.kind=none)(hk:ET x.kind=some (g.1,g.2.2)):(ts++[g.1].map wd).length+[sg sPar].length<=1073741823:=by
 rw[MM he hk]at hn;simp only[List.length_cons,List.length_append,List.length_nil,List.length_map]at hn ⊢;omega
theorem z5s(hn:ts.length+(bg x).length<=1073741823)(he:lH x.kind=none)(hk:ET x.kind=some (g.1,g.2.2))(hb:g.2.2.2=true):(ts++[g.1].map wd++[sg sPar]).length+[x.name].length<=1073741823:=by
 rw[MM he hk,hb]at hn;simp only[List.length_cons,List.length_append,List.length_nil,List.length_map,if_true]at hn ⊢;omega
theorem z5t(hn:ts.length+(bg x).length<=1073741823)(he:lH x.kind=none)(hk:ET x.kind=some (g.1,g.2.2))(hb:g.2.2.2=true):(ts++[g.1].map wd++[sg sPar]++[x.name].map wd).length+[sg aS].length<=1073741823:=by
 rw[MM he hk,hb]at hn;simp only[List.length_cons,List.length_append,List.length_nil,List.length_map,if_true]at hn ⊢;omega
theorem z5u(he:lH x.kind=none)(hk:ET x.kind=some (g.1,g.2.2))(hb:g.2.2.2=true):AT x g (ts++bg x) 0 (ts++[g.1].map wd++[sg sPar]++[x.name].map wd++[sg aS]):=
 ⟨by rw[MM he hk,hb];simp⟩
theorem z5v(he:lH x.kind=none)(hk:ET x.kind=some (g.1,g.2.2))(hb:g.2.2.2=false):AT x g (ts++bg x) 0 (ts++[g.1].map wd++[sg sPar]):=
 ⟨by rw[MM he hk,hb];simp⟩
theorem QH(h:decide ((i:Int)<mm2 false g.2.2.1 ((Ex.css x.l).length:Int))=true):i<x.l.length/\i<g.2.2.1.toNat:=by
 have h:=of_decide_eq_true h
 rw[Ex.css_eq,List.length_map]at h
 simp only[mm2]at h
 split at h<;>omega
theorem QI(h:decide ((i:Int)<mm2 false g.2.2.1 ((Ex.css x.l).length:Int))=true)(hy:x.l[i]? = some y):Wy (x.l.drop i) (g.2.2.1.toNat-i) i=(if 0<i then [sg aS]else [])++(dm y 0++Wy (x.l.drop (i+1)) (g.2.2.1.toNat-(i+1)) (i+1)):=by
 obtain⟨h1,h2⟩:=QH h
 obtain⟨h3,rfl⟩:=List.getElem?_eq_some_iff.1 hy
 rw[List.drop_eq_getElem_cons h1,QF]
 obtain⟨m,hm⟩:∃m,g.2.2.1.toNat-i=m+1:=⟨g.2.2.1.toNat-i-1,by omega⟩
 rw[hm,show g.2.2.1.toNat-(i+1)=m by omega]
 rfl
theorem YJ(hI:AT x g (ts++bg x) i t1)(h:decide ((i:Int)<mm2 false g.2.2.1 ((Ex.css x.l).length:Int))=true)(h0:decide ((i:Int)>0)=true)(hy:x.l[i]? = some y):AT x g (ts++bg x) (i+1) (t1++[sg aS]++dm y 0):=by
 have h1:=hI.eq
 have h0:=of_decide_eq_true h0
 rw[QI h hy,if_pos (by omega)]at h1
 exact⟨by rw[<-h1];simp only[List.append_assoc]⟩
theorem z2r(hI:AT x g (ts++bg x) i t1)(h:decide ((i:Int)<mm2 false g.2.2.1 ((Ex.css x.l).length:Int))=true)(h0:decide ((i:Int)>0)=false)(hy:x.l[i]? = some y):AT x g (ts++bg x) (i+1) (t1++dm y 0):=by
 have h1:=hI.eq
 have h0:=of_decide_eq_false h0
 rw[QI h hy,if_neg (by omega)]at h1
 exact⟨by rw[<-h1];simp only[List.nil_append,List.append_assoc]⟩
theorem z5w(hn:ts.length+(bg x).length<=1073741823)(hI:AT x g (ts++bg x) i t1)(h:decide ((i:Int)<mm2 false g.2.2.1 ((Ex.css x.l).length:Int))=true)(h0:decide ((i:Int)>0)=true):t1.length+[sg aS].length<=1073741823:=by
 obtain⟨h2,-⟩:=QH h
 have h1:=congrArg List.length (YJ hI h h0 (List.getElem?_eq_getElem h2)).eq
 simp only[List.length_append]at h1 ⊢;omega
theorem z5x(hn:ts.length+(bg x).length<=1073741823)(hI:AT x g (ts++bg x) i t1)(h:decide ((i:Int)<mm2 false g.2.2.1 ((Ex.css x.l).length:Int))=true)(h0:decide ((i:Int)>0)=true)(hy:x.l[i]? = some y):(t1++[sg aS]).length+(dm y 0).length<=1073741823:=by
 have h1:=congrArg List.length (YJ hI h h0 hy).eq
 simp only[List.length_append]at h1 ⊢;omega
theorem z5y(hn:ts.length+(bg x).length<=1073741823)(hI:AT x g (ts++bg x) i t1)(h:decide ((i:Int)<mm2 false g.2.2.1 ((Ex.css x.l).length:Int))=true)(h0:decide ((i:Int)>0)=false)(hy:x.l[i]? = some y):t1.length+(dm y 0).length<=1073741823:=by
 have h1:=congrArg List.length (z2r hI h h0 hy).eq
 simp only[List.length_append]at h1 ⊢;omega
theorem z5z(hI:AT x g (ts++bg x) i t1)(h:decide ((i:Int)<mm2 false g.2.2.1 ((Ex.css x.l).length:Int))=false):t1++[sg sKet]=ts++bg x:=by
 have h1:=hI.eq
 have h:=of_decide_eq_false h
 rw[Ex.css_eq,List.length_map]at h
 have h2:Wy (x.l.drop i) (g.2.2.1.toNat-i) i = []:=by
  by_cases hi:i<x.l.length
  ·have:g.2.2.1.toNat-i=0:=by
    simp only[mm2]at h
    split at h<;>omega
   rw[this]
   cases x.l.drop i<;>rfl
  ·rw[List.drop_eq_nil_of_le (by omega)];rfl
 rw[h2]at h1
 exact h1
theorem z6a(hn:ts.length+(bg x).length<=1073741823)(hI:AT x g (ts++bg x) i t1)(h:decide ((i:Int)<mm2 false g.2.2.1 ((Ex.css x.l).length:Int))=false):t1.length+[sg sKet].length<=1073741823:=by
 have h1:=congrArg List.length (z5z hI h)
 simp only[List.length_append]at h1 ⊢;omega
theorem z2s(h:decide ((i:Int)<mm2 false g.2.2.1 ((Ex.css x.l).length:Int))=true):x.l.length-(i+1)<x.l.length-i:=by
 have:=QH h;omega
theorem z7x(hg:g∈wF)(h:decide ((i:Int)<mm2 false g.2.2.1 ((Ex.css x.l).length:Int))=true):i<=9223372036854775806:=by
 have:=QH h;have:=z5p hg;omega
theorem z6b(hn:ts.length+(bg x).length<=1073741823)(he:lH x.kind=none)(hk:ET x.kind=none)(h:(x.kind==1)=true):ts.length+(jq x.n).length<=1073741823:=by rw[Ff he hk h]at hn;exact hn
theorem z6c(hn:ts.length+(bg x).length<=1073741823)(he:lH x.kind=none)(hk:ET x.kind=none)(h:(x.kind==1)=false):ts.length+[x.name].length<=1073741823:=by rw[A7 he hk h]at hn;exact hn
theorem z6d(he:lH x.kind=none)(hk:ET x.kind=none)(h:(x.kind==1)=true):List.map Tk.cs (ts++jq x.n)=List.map Tk.cs (ts++bg x):=by rw[Ff he hk h]
theorem z6e(he:lH x.kind=none)(hk:ET x.kind=none)(h:(x.kind==1)=false):List.map Tk.cs (ts++[x.name].map wd)=List.map Tk.cs (ts++bg x):=by rw[A7 he hk h];rfl
end
theorem z7y(k:Int):decide (level k<0)=false:=by
 have:dm (.mk k [] 0 0 []) 0=bg (.mk k [] 0 0 []):=QF _
 apply decide_eq_false
 unfold level
 split
 ·decide
 ·split
  ·decide
  ·split<;>decide
abbrev R5(p:Pr):List Tk:=[sg zC]
abbrev R4(p:Pr):List Tk:=p.stmts.flatMap jD++[sg zC]
abbrev R3(p:Pr):List Tk:=p.tables.flatMap tbT++(p.stmts.flatMap jD++[sg zC])
abbrev R2(p:Pr):List Tk:=p.lines.flatMap lnT++(p.tables.flatMap tbT++(p.stmts.flatMap jD++[sg zC]))
abbrev R1(p:Pr):List Tk:=p.states.flatMap (bdT qA)++(p.lines.flatMap lnT++(p.tables.flatMap tbT++(p.stmts.flatMap jD++[sg zC])))
abbrev R0(p:Pr):List Tk:=p.params.flatMap (bdT uh)++(p.states.flatMap (bdT qA)++(p.lines.flatMap lnT++(p.tables.flatMap tbT++(p.stmts.flatMap jD++[sg zC]))))
structure CI(rest R t:List Tk):Prop where
 eq:t++rest=R
variable {a b R t : List Tk}
theorem CI.len{n:Nat}(h:CI (a++b) R t)(hR:R.length<=n):t.length+a.length<=n:=by
 have:=congrArg List.length h.eq
 simp only[List.length_append]at this;omega
theorem CI.go(h:CI (a++b) R t):CI b R (t++a):=⟨by rw[<-h.eq];simp⟩
theorem CI.to(h:CI a R t)(e:a=b):CI b R t:=e ▸ h
section
variable {p : Pr} {ts : List Tk}
theorem pR(hn:ts.length+(iV p).length<=1073741823):(ts++iV p).length<=1073741823:=by simpa using hn
theorem pc1:CI ([wProcessor,p.name,cZ].map wd++(jq p.latency++([wTail].map wd++((if p.tail == -1 then [wd dR]else jq p.tail)++([sg sBra]++R0 p))))) (ts++iV p) ts:=⟨by simp[iV]⟩
theorem pc2:CI ((if p.tail == -1 then [wd dR]else jq p.tail)++([sg sBra]++R0 p)) (ts++iV p) (ts++[wProcessor,p.name,cZ].map wd++jq p.latency++[wTail].map wd):=pc1.go.go.go
theorem pc3(h:(p.tail == -1)=true):CI ([dR].map wd++([sg sBra]++R0 p)) (ts++iV p) (ts++[wProcessor,p.name,cZ].map wd++jq p.latency++[wTail].map wd):=by
 have:=pc2 (p:=p) (ts:=ts);rw[if_pos h]at this;exact this
theorem pc4(h:(p.tail == -1)=false):CI (jq p.tail++([sg sBra]++R0 p)) (ts++iV p) (ts++[wProcessor,p.name,cZ].map wd++jq p.latency++[wTail].map wd):=by
 have:=pc2 (p:=p) (ts:=ts);rw[if_neg (by simp[h])]at this;exact this
end
section
variable {R t : List Tk}
theorem MN{w:Str}{b:Bd}{r:List Bd}{X:List Tk}(h:CI ((b::r).flatMap (bdT w)++X) R t):CI ([w,b.name].map wd++(fJ b.lo b.hi++(r.flatMap (bdT w)++X))) R t:=h.to (by simp[bdT])
theorem UY{b:Ln}{r:List Ln}{X:List Tk}(h:CI ((b::r).flatMap lnT++X) R t):CI ([ES,b.name].map wd++(jq b.size++(fJ b.lo b.hi++(r.flatMap lnT++X)))) R t:=h.to (by simp[lnT])
theorem YK{b:Tb}{r:List Tb}{X:List Tk}(h:CI ((b::r).flatMap tbT++X) R t):CI ([wB,b.name].map wd++([sg sEq]++(yZ 0 b.values++([sg bP]++(r.flatMap tbT++X))))) R t:=h.to (by simp[tbT])
theorem z2t{b:Sm}{r:List Sm}{X:List Tk}(h:CI ((b::r).flatMap jD++X) R t):CI (jD b++(r.flatMap jD++X)) R t:=h.to (by simp)
theorem A8{α:Type}{f:α->List Tk}{X:List Tk}(h:CI (([]:List α).flatMap f++X) R t):CI X R t:=h.to (by simp)
theorem YL{i:Nat}{v:Int}{r:List Int}{X:List Tk}(h:CI (yZ i (v::r)++X) R t)(h0:decide ((i:Int)>0)=true):CI ([sg aS]++(jq v++(yZ (i+1) r++X))) R t:=h.to (by
 have h0:=of_decide_eq_true h0
 rw[yZ,if_pos (by omega)];simp)
theorem z2u{i:Nat}{v:Int}{r:List Int}{X:List Tk}(h:CI (yZ i (v::r)++X) R t)(h0:decide ((i:Int)>0)=false):CI (jq v++(yZ (i+1) r++X)) R t:=h.to (by
 have h0:=of_decide_eq_false h0
 rw[yZ,if_neg (by omega)];simp)
theorem z2v{i:Nat}{X:List Tk}(h:CI (yZ i []++X) R t):CI X R t:=h
end
theorem z7z{k:Int}{fa fb fc:D}{F:D->Prop}{G:Prop}(h1:(k==1)=true->F fa)(h2:(k==1)=false->(k==2)=true->F fb)(h3:(k==1)=false->(k==2)=false->(k==3)=true->F fc)(h5:(k==1)=false->(k==2)=false->(k==3)=false->G) :
  DJ (BL (.i k) [(.i 1,fa),(.i 2,fb),(.i 3,fc)]) F G:=by
 simp only[BL,fE,sameS]
 cases ha:k==1 with
 |true=>exact h1 ha
 |false=>
  cases hb:k==2 with
  |true=>exact h2 ha hb
  |false=>
   cases hc:k==3 with
   |true=>exact h3 ha hb hc
   |false=>exact h5 ha hb hc
section
variable {s : Sm} {ts : List Tk}
theorem sc1(h:(s.kind==1)=true):CI ([Qk,s.name].map wd++([sg sEq]++(dm s.x 0++([sg bP]++[])))) (ts++jD s) ts:=⟨by simp only[jD,h,if_true];simp⟩
theorem sc2(h1:(s.kind==1)=false)(h:(s.kind==2)=true):CI ([Ql,s.name].map wd++([sg sEq]++(dm s.x 0++([sg bP]++[])))) (ts++jD s) ts:=⟨by simp only[jD,h1,h,if_true,Bool.false_eq_true,if_false];simp⟩
theorem sc3(h1:(s.kind==1)=false)(h2:(s.kind==2)=false)(h:(s.kind==3)=true):CI ([yY,s.name].map wd++([sg sEq]++(dm s.x 0++([sg bP]++[])))) (ts++jD s) ts:=⟨by simp only[jD,h1,h2,h,if_true,Bool.false_eq_true,if_false];simp⟩
theorem sc4(h1:(s.kind==1)=false)(h2:(s.kind==2)=false)(h:(s.kind==3)=false):CI ([Qm].map wd++(dm s.x 0++([sg bP]++[]))) (ts++jD s) ts:=⟨by simp only[jD,h1,h2,h,Bool.false_eq_true,if_false];simp⟩
theorem sR(hn:ts.length+(jD s).length<=1073741823):(ts++jD s).length<=1073741823:=by simpa using hn
theorem bc1{lo hi:Int}:CI ([MJ].map wd++(jq lo++([wTo].map wd++(jq hi++([sg bP]++[]))))) (ts++fJ lo hi) ts:=⟨by simp[fJ]⟩
theorem bR{lo hi:Int}(hn:ts.length+(fJ lo hi).length<=1073741823):(ts++fJ lo hi).length<=1073741823:=by simpa using hn
theorem Ba{R t a:List Tk}(h:CI (a++[]) R t):List.map Tk.cs (t++a)=List.map Tk.cs R:=by rw[<-h.eq];simp
end
end Go.Fw.Sy
namespace Go.Fw.Sy
open Go.Fw Go.Fw.Ref15
variable [ae]
theorem wH(a b:Bool):(bif a then true else b)=(a || b):=by cases a<;>rfl
def lenE{α:Type}(f:α×α->Bool)(l m:List α):Bool:=!((l.length:Int) != (m.length:Int))&&(l.zip m).all f
def YM(v:Int×Int):Bool:=!(v.1 != v.2)
def Dj(l m:List Int):Bool:=lenE YM l m
def exE(q:Ex×Ex):Bool:=dN q.1 q.2
def z2w(l m:List Ex):Bool:=lenE exE l m
def tbE(q:Tb×Tb):Bool:=q.1.name==q.2.name&&Dj q.1.values q.2.values
def smE(q:Sm×Sm):Bool:=((q.1.kind==q.2.kind&&q.1.name==q.2.name)&&q.1.index==q.2.index)&&dN q.1.x q.2.x
def Fg(a b:Pr):Bool:=(a.name==b.name&&a.latency==b.latency)&&a.tail==b.tail
def fK(a b:Pr):Bool:=((((Fg a b&&dY a.params b.params)&&dY a.states b.states)&&lenE jZ a.lines b.lines)&&lenE tbE a.tables b.tables)&&lenE smE a.stmts b.stmts
theorem Dk(a b:Ex):(a.kind==b.kind&&a.name==b.name&&a.index==b.index&&a.n==b.n&&z2w a.l b.l)=dN a b:=by
 rw[mf,z2w,lenE]
 by_cases hl:a.l.length=b.l.length
 ·rw[tK hl]
  have e:((a.l.length:Int) != (b.l.length:Int))=false:=by simp[hl]
  rw[e]
  by_cases h1:a.kind=b.kind<;>by_cases h2:a.name=b.name<;>by_cases h3:a.index=b.index<;>by_cases h4:a.n=b.n<;>simp[h1,h2,h3,h4]<;>rfl
 ·have e:((a.l.length:Int) != (b.l.length:Int))=true:=by simp;omega
  rw[e];simp
theorem UZ(l m:List Bd):dY l m=lenE wu l m:=rfl
theorem QJ{α:Type}{f:α×α->Bool}(h:∀x y,f (x,y)=true↔x=y):∀l m:List α,l.length=m.length->((l.zip m).all f=true↔l=m)
 | [],[],_=>by simp
 |x::r,y::s,hl=>by
  have:=QJ h r s (by simpa using hl)
  simp only[List.zip_cons_cons,List.all_cons,Bool.and_eq_true,h x y,this,List.cons.injEq]
 | [],_::_,hl=>by simp at hl
 |_::_,[],hl=>by simp at hl
theorem oU{α:Type}{f:α×α->Bool}(h:∀x y,f (x,y)=true↔x=y)(l m:List α):lenE f l m=true↔l=m:=by
 unfold lenE
 by_cases hl:l.length=m.length
 ·have e:(!((l.length:Int) != (m.length:Int)))=true:=by simp[hl]
  rw[e,Bool.true_and]
  exact QJ h l m hl
 ·have e:(!((l.length:Int) != (m.length:Int)))=false:=by simp;omega
  rw[e,Bool.false_and]
  constructor
  ·intro h;cases h
  ·intro h;exact absurd (congrArg List.length h) hl
theorem U0(x y:Int):YM (x,y)=true↔x=y:=by simp[YM]
theorem YN(x y:Bd):wu (x,y)=true↔x=y:=by
 obtain⟨a,b,c⟩:=x
 obtain⟨d,e,f⟩:=y
 simp[wu,Go.Fw.sameL,Go.Fw.sameS]
theorem YO(x y:Ln):jZ (x,y)=true↔x=y:=by
 obtain⟨a,b,c,d⟩:=x
 obtain⟨e,f,g,h⟩:=y
 simp[jZ,Go.Fw.sameL,Go.Fw.sameS]
theorem YP(x y:Tb):tbE (x,y)=true↔x=y:=by
 obtain⟨a,b⟩:=x
 obtain⟨c,d⟩:=y
 simp only[tbE,Dj,Bool.and_eq_true,beq_iff_eq,oU U0,Tb.mk.injEq]
theorem YQ:∀x y:Ex,dN x y=true↔x=y:=by
 refine Ex.ind λx ih y=>?_
 obtain⟨k,n,i,m,l⟩:=x
 obtain⟨k',n',i',m',l'⟩:=y
 have ih:∀z∈l,∀y,dN z y=true↔z=y:=ih
 rw[mf]
 have key:∀l l':List Ex,l.length=l'.length->(∀z∈l,∀y,dN z y=true↔z=y)->((l.zip l').all (λq=>dN q.1 q.2)=true↔l=l'):=by
  intro l
  induction l with
  |nil=>intro l' hl _;cases l' with
   |nil=>simp
   |cons _ _=>simp at hl
  |cons x r ir=>
   intro l' hl hz
   cases l' with
   |nil=>simp at hl
   |cons y s=>
    have:=ir s (by simpa using hl) (λz hz'=>hz z (by simp[hz']))
    simp only[List.zip_cons_cons,List.all_cons,Bool.and_eq_true,hz x (by simp) y,this,List.cons.injEq]
 show(if(k != k' || n != n' || i != i' || m != m' || (l.length:Int) != (l'.length:Int))=true then false else Ref15.sameL l l')=true↔_
 by_cases hl:l.length=l'.length
 ·have:=key l l' hl ih
  rw[tK hl]
  rw[Ex.mk.injEq,<-this]
  by_cases h1:k=k'<;>by_cases h2:n=n'<;>by_cases h3:i=i'<;>by_cases h4:m=m'<;>simp[h1,h2,h3,h4,hl]
 ·have e:((l.length:Int) != (l'.length:Int))=true:=by simp;omega
  rw[e,Bool.or_true,if_pos rfl]
  constructor
  ·intro h;cases h
  ·intro h
   injection h with _ _ _ _ h
   exact absurd (congrArg List.length h) hl
theorem YR(x y:Sm):smE (x,y)=true↔x=y:=by
 obtain⟨a,b,c,d⟩:=x
 obtain⟨e,f,g,h⟩:=y
 simp only[smE,Bool.and_eq_true,beq_iff_eq,YQ,Sm.mk.injEq,and_assoc]
def wI(a b:Pr):Bool:=bif (bif (bif (bif a.name != b.name then true else a.latency != b.latency)then true else a.tail != b.tail)then true else !(dY a.params b.params))then true else !(dY a.states b.states)
def zi(a b:Pr):Bool:=bif (bif ((a.lines.map Ln.cs).length:Int) != ((b.lines.map Ln.cs).length:Int)then true else((a.tables.map Tb.cs).length:Int) != ((b.tables.map Tb.cs).length:Int))then true else((a.stmts.map Sm.cs).length:Int) != ((b.stmts.map Sm.cs).length:Int)
theorem YS{a b:Pr}(h:wI a b=true):fK a b=false:=by
 simp only[wI,wH,Bool.or_eq_true,bne_iff_ne,Bool.not_eq_true']at h
 simp only[fK,Fg]
 rcases h with(((h |h) |h) |h) |h<;>simp[h]
theorem YT{a b:Pr}(h:zi a b=true):fK a b=false:=by
 simp only[zi,wH,Bool.or_eq_true,List.length_map]at h
 simp only[fK,lenE]
 rcases h with(h |h) |h<;>simp[h]
theorem QK{a b:Pr}(h1:wI a b=false)(h2:zi a b=false):fK a b=((a.lines.zip b.lines).all jZ&&((a.tables.zip b.tables).all tbE&&(a.stmts.zip b.stmts).all smE))/\a.lines.length=b.lines.length/\a.tables.length=b.tables.length/\a.stmts.length=b.stmts.length:=by
 simp only[wI,wH,Bool.or_eq_false_iff,bne_eq_false_iff_eq,Bool.not_eq_false']at h1
 simp only[zi,wH,Bool.or_eq_false_iff,bne_eq_false_iff_eq,List.length_map]at h2
 obtain⟨⟨⟨⟨e1,e2⟩,e3⟩,e4⟩,e5⟩:=h1
 obtain⟨⟨e6,e7⟩,e8⟩:=h2
 refine⟨?_,by omega,by omega,by omega⟩
 simp only[fK,Fg,lenE,e1,e2,e3,e4,e5,e6,e7,e8,bne_self_eq_false,Bool.not_false,Bool.true_and,beq_self_eq_true,Bool.and_assoc]
theorem JW(q:Sm×Sm):(bif (bif (bif q.1.kind != q.2.kind then true else q.1.name != q.2.name)then true else q.1.index != q.2.index)then true else !(dN q.1.x q.2.x)) = !smE q:=by
 simp only[smE,wH,bne,Bool.not_and]
theorem JX(q:Tb×Tb):(bif q.1.name != q.2.name then true else !(Dj q.1.values q.2.values)) = !tbE q:=by
 simp only[tbE,wH,bne,Bool.not_and]
theorem z6f{q:Ln×Ln}(h:(!(Go.Fw.sameL q.1.cs q.2.cs))=true):jZ q=false:=by
 show Go.Fw.sameL q.1.cs q.2.cs=false
 cases hq:Go.Fw.sameL q.1.cs q.2.cs with
 |false=>rfl
 |true=>rw[hq]at h;cases h
theorem z2x{q:Ln×Ln}(h:(!(Go.Fw.sameL q.1.cs q.2.cs))=false):jZ q=true:=by
 show Go.Fw.sameL q.1.cs q.2.cs=true
 cases hq:Go.Fw.sameL q.1.cs q.2.cs with
 |true=>rfl
 |false=>rw[hq]at h;cases h
theorem QL{α:Type}{f:α->Bool}{x:α}{r:List α}{b:Bool}(h:b=(x::r).all f)(hx:f x=false):b=false:=by rw[h,List.all_cons,hx];rfl
theorem H5{α:Type}{f:α->Bool}{x:α}{r:List α}{b:Bool}(h:b=(x::r).all f)(hx:f x=true):b=r.all f:=by rw[h,List.all_cons,hx];rfl
theorem MO(a b:Pr):fK a b=true↔a=b:=by
 obtain⟨a1,a2,a3,a4,a5,a6,a7,a8⟩:=a
 obtain⟨b1,b2,b3,b4,b5,b6,b7,b8⟩:=b
 simp only[fK,Fg,UZ,Bool.and_eq_true,beq_iff_eq,oU YN,oU YO,oU YP,oU YR,Pr.mk.injEq,and_assoc]
end Go.Fw.Sy
namespace Go.Fw.Sy
open Go.Fw Go.Fw.Ref15
variable [ae] {k : Int}
def zU(k:Int):Int:=if k==3 || k==4 || k==5 then 2 else k
theorem U1(x:Ex):zQ x=⟨zU x.kind,x.name,0,x.n,x.l.map zQ⟩:=by
 cases x;rw[zQ,UE];rfl
theorem YU(h:(k==3)=true):zU k=2:=by rw[zU,h];rfl
theorem YV(h:(k==4)=true):zU k=2:=by rw[zU,h,Bool.or_true];rfl
theorem YW(h:(k==5)=true):zU k=2:=by rw[zU,h,Bool.or_true];rfl
theorem YX(h1:(k==3)=false)(h2:(k==4)=false)(h3:(k==5)=false):zU k=k:=by rw[zU,h1,h2,h3];rfl
abbrev prs(l:List Pr):D:=.sl 8 (l.map Pr.cs)
end Go.Fw.Sy
namespace Go.Fw.Sy
open Go.Fw Go.Fw.Ref15
variable [ae]
structure BI(p:Pr)(dn rs r0:List Sm)(i0:Nat):Prop where
 r:rs=r0
 n:dn.length=i0
 l:dn++rs=p.stmts
variable {dn rs r0 : List Sm} {i0 : Nat} {p : Pr} {x0 : Sm}
abbrev smb(s:Sm):List D:=(UF s).cs
theorem WO(h:BI p dn rs (x0::r0) i0):(dn.map smb++rs.map Sm.cs)[0+(i0:Int).toNat]? = some x0.cs:=by
 obtain⟨rfl,rfl,_⟩:=h
 simp
theorem YY(h:BI p dn rs (x0::r0) i0){y:List D}:((dn.map smb++rs.map Sm.cs).set (0+(i0:Int).toNat) y)[0+(i0:Int).toNat]? = some y:=by
 obtain⟨rfl,rfl,_⟩:=h
 simp
theorem z2y(h:BI p dn rs (x0::r0) i0){y z:List D}(hz:z=smb x0):((dn.map smb++rs.map Sm.cs).set (0+(i0:Int).toNat) y).set (0+(i0:Int).toNat) z=(dn++[x0]).map smb++r0.map Sm.cs:=by
 obtain⟨rfl,rfl,_⟩:=h
 subst hz
 simp
theorem WP{dn rs:List Sm}(h:BI p dn rs [] i0):0+p.stmts.length<=(dn.map smb++rs.map Sm.cs).length/\(p.stmts.map UF).map Sm.cs=((dn.map smb++rs.map Sm.cs).drop 0).take (0+p.stmts.length):=by
 obtain⟨rfl,rfl,h⟩:=h
 rw[List.append_nil]at h
 subst h
 simp only[List.map_nil,List.append_nil,List.drop_zero,Nat.zero_add,List.length_map,List.map_map]
 exact⟨Nat.le_refl _,(List.take_of_length_le (by simp)).symm⟩
theorem YZ(h:BI p dn rs (x0::r0) i0):BI p (dn++[x0]) r0 r0 (i0+1):=by
 obtain⟨rfl,rfl,h⟩:=h
 exact⟨rfl,by simp,by simpa using h⟩
theorem z6g{l:List Sm}{i:Nat}(h:i<l.length):(i:Int)<((l.length:Nat):Int):=Int.ofNat_lt.2 h
theorem U2{T:Tbl}{rs:List ResultVar}{K0 K K1:Heap}{out:fP}{env:Env}(env':Env)(K':Heap)(h1:pW env K env' K')(h2:Go.Fw.finR T rs K0 out K1 env' K'):Go.Fw.finR T rs K0 out K1 env K\/∃env' K',Xc env K env' K'/\Go.Fw.finR T rs K0 out K1 env' K':=.inr ⟨env',K',by rw[<-jS];exact h1,h2⟩
theorem Y0{τ:List (Nat×Nat)}{i j v s n m:Nat}(h:i=rn τ j)(h2:n=m):AV.own i v s 0 n=AV.ren τ (AV.own j v s 0 m):=by
 subst h h2;simp only[AV.ren]
theorem U3{v s:Nat}{k' l m:List (List D)}(h:l=m):Block.arr v s (List.take 0 k'++l)=Block.arr v s m:=by
 subst h;simp
end Go.Fw.Sy
namespace Go.Fw.Sy
open Go.Fw Go.Fw.Lx
variable [ae]
def allT(l:List Pr):List Tk:=l.flatMap iV
def U4(l m:List Pr):Bool:=lenE (λq=>fK q.1 (EU q.2)) l m
def textS(w:List Tk):Str:=Lib.join (w.map word) [32]
def Bc:D:=.tuple [.str [],.i 140]
def Fh(l:List Pr):D:=
 if(allT l).all valid then(match(iU (allT l)).1 with
  |none=>Bc
  |some ps=>if U4 ps l then .tuple [.str (textS (allT l)),.i 0]else Bc)
 else Bc
def iw(s:Str):D:=if decide ((s.length:Int)>65536)then .tuple [.sl 8 [],.i 0,.i 2]else match gz pStep s 0 with
 | .error a=>.tuple [.sl 8 [],.i (a:Nat),.i 30]
 | .ok l=>readD (s.length:Int) (iU l)
theorem U5{l:List Tk}(h:l.all valid=false):EN l = .tuple [.str [],.i 30]:=by rw[EN,h];rfl
theorem uu{l:List Tk}(h:l.all valid=true):EN l = .tuple [.str (textS l),.i 0]:=by rw[EN,h];rfl
theorem oV{e:Int}{r:Option (List Pr)×List Tk}{ps:List Pr}(h:r.1=some ps):readD e r = .tuple [.sl 8 (ps.map Pr.cs),.i 0,.i 0]:=by
 obtain⟨o,l⟩:=r;subst h;rfl
theorem vJ{e:Int}{r:Option (List Pr)×List Tk}(h:r.1=none):readD e r = .tuple [.sl 8 [],.i (at' e r.2),.i 140]:=by
 obtain⟨o,l⟩:=r;subst h;rfl
structure WrI(l r:List Pr)(ts:List Tk):Prop where
 e:allT l=ts++allT r
variable {ts : List Tk}
theorem JY{l r:List Pr}{p:Pr}(h:WrI l (p::r) ts)(hn:(allT l).length<=1073741823):ts.length+(iV p).length<=1073741823:=by
 have:=congrArg List.length h.e
 simp only[allT,List.flatMap_cons,List.length_append]at this hn
 omega
theorem Dl{l r:List Pr}{p:Pr}(h:WrI l (p::r) ts):WrI l r (ts++iV p):=⟨by rw[h.e];simp[allT]⟩
theorem xC(l:List Pr):WrI l l []:=⟨rfl⟩
theorem JZ{l:List Pr}(h:WrI l [] ts):ts=allT l:=by rw[h.e];simp[allT]
theorem WQ{s:Str}{l:List Tk}(h:gz pStep s 0 = .ok l):l.length<=s.length/\l.all valid=true:=by
 rw[Hm]at h
 have:=ug _ s 0 l (Nat.le_refl _) h
 exact⟨this.2.2,this.1⟩
theorem WR{s:Str}(hs:s.length<=1073741823):∀l,gz pStep s 0 = .ok l->l.length<=1073741823:=λ_ h=>Nat.le_trans (WQ h).1 hs
abbrev QM(n:Int):Ex:=.mk 1 [] 0 n []
abbrev Be(s:Str):Ex:=.mk 2 s 0 0 []
def z2z:Str:=[112,114,111,99,101,115,115,111,114,32,105,110]
def QN:Str:=[112,114,111,99,101,115,115,111,114,32,112,32,108,97,116,101,110,99,121,32,48,32,116,97,105,108,32,102,111,114,101,118,101,114,32,123,32,111,117,116,32,49,32,47,32,48,32,59,32,125]
def z3a:Str:=[112,114,111,99,101,115,115,111,114,32,112,32,108,97,116,101,110,99,121,32,48,32,116,97,105,108,32,51,32,123,32,111,117,116,32,97,32,45,32,49,32,45,32,50,32,59,32,125]
def z3b:Str:=[112,114,111,99,101,115,115,111,114,32,112,32,108,97,116,101,110,99,121,32,48,32,116,97,105,108,32,51,32,123,32,111,117,116,32,40,32,97,32,45,32,98,32,41,32,42,32,45,32,50,32,59,32,125]
abbrev J3:Pr:=⟨[112],0,3,[],[],[],[],[⟨4,[],0,ex2 16 (ex2 16 (Be [97]) (QM 1)) (QM 2)⟩]⟩
abbrev QO:Pr:=⟨[112],0,3,[],[],[],[],[⟨4,[],0,ex2 17 (ex2 16 (Be [97]) (Be [98])) (ex1 14 (QM 2))⟩]⟩
abbrev J4:Pr:=⟨[],0,0,[],[],[],[],[]⟩
theorem H6(l m:List Pr):lenE (λq=>fK q.1 q.2) l m=true↔l=m:=oU (λx y=>MO x y) l m
theorem Fj(l:List Pr):lenE (λq=>fK q.1 q.2) l l=true:=(H6 l l).2 rfl
theorem Y1:iw [] = .tuple [.sl 8 [],.i 0,.i 0]:=by kernel_rfl
theorem at_in:iw z2z = .tuple [.sl 8 [],.i 10,.i 140]:=by kernel_rfl
theorem Y2:iw QN = .tuple [.sl 8 [],.i 45,.i 140]:=by kernel_rfl
theorem z6h:iw z3a = .tuple [prs [J3],.i 0,.i 0]:=by kernel_rfl
theorem Y3:Fh [QO] = .tuple [.str z3b,.i 0]:=by kernel_rfl
theorem z6i(k:Int)(x y:Ex):D.agg [.i k,.str [],.i 0,.i 0,.sl 5 [x.cs,y.cs]]=(ex2 k x y).d:=by
 show _=D.agg [.i k,.str [],.i 0,.i 0,.sl 5 (Ex.css [x,y])]
 rw[Ex.css_cons,Ex.css_cons];rfl
theorem QR:Fh [J4] = .tuple [.str [],.i 140]:=by kernel_rfl
end Go.Fw.Sy
