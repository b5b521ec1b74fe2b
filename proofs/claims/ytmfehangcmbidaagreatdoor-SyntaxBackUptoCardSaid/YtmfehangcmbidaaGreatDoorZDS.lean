/- Package syntax, as plain functions: its parser. -/
import Derived.Test.YtmfehangcmbidaaGreatDoorZDL
set_option linter.unusedSectionVars false
set_option linter.unusedSimpArgs false
set_option linter.unusedVariables false
namespace Go.Fw.Sy
open Go.Fw.Lx (Tk)
abbrev Str:=List UInt8
abbrev wProcessor:Str:=[112,114,111,99,101,115,115,111,114]
abbrev dG:Str:=[108,97,116,101,110,99,121]
abbrev wTail:Str:=[116,97,105,108]
abbrev di:Str:=[102,111,114,101,118,101,114]
abbrev lu:Str:=[112,97,114,97,109]
abbrev kL:Str:=[115,116,97,116,101]
abbrev DZ:Str:=[108,105,110,101]
abbrev uN:Str:=[116,97,98,108,101]
abbrev wFrom:Str:=[102,114,111,109]
abbrev wTo:Str:=[116,111]
abbrev XN:Str:=[108,101,116]
abbrev XO:Str:=[115,101,116]
abbrev Gm:Str:=[112,117,115,104]
abbrev XP:Str:=[111,117,116]
abbrev wIf:Str:=[105,102]
abbrev wThen:Str:=[116,104,101,110]
abbrev wElse:Str:=[101,108,115,101]
abbrev wIn:Str:=[105,110]
abbrev VF:Str:=[115,105,100,101]
abbrev z7s:Str:=[116,97,112]
abbrev VG:Str:=[108,111,111,107]
abbrev z7t:Str:=[115,97,116]
abbrev z7u:Str:=[109,105,110]
abbrev z7v:Str:=[109,97,120]
abbrev z7w:Str:=[97,98,115]
abbrev sPar:Str:=[40]
abbrev sKet:Str:=[41]
abbrev sComma:Str:=[44]
abbrev sSemi:Str:=[59]
abbrev sEq:Str:=[61]
abbrev sLt:Str:=[60]
abbrev sPlus:Str:=[43]
abbrev sMinus:Str:=[45]
abbrev sStar:Str:=[42]
abbrev sSlash:Str:=[47]
abbrev sBra:Str:=[123]
abbrev sEnd:Str:=[125]
def words:List Str:=[wProcessor,dG,wTail,di,lu,kL,DZ,uN,wFrom,wTo,XN,XO,Gm,XP,wIf,wThen,wElse,wIn,VF,z7s,VG,z7t,z7u,z7v,z7w]
def hd:List Tk->Tk
 | []=>⟨0,[],0,0⟩
 |t::_=>t
def isT(s:Str)(l:List Tk):Bool:=(!l.isEmpty&&(hd l).kind != 2)&&(hd l).text==s
def xK(l:List Tk):Bool:=(!l.isEmpty&&(hd l).kind==1) && !words.contains (hd l).text
def dJ(l:List Tk):Bool:=(!l.isEmpty&&(hd l).kind==2)&&decide ((hd l).n<=2147483648)
abbrev PM(α:Type):=List Tk->Option α×List Tk
def bnd{α β:Type}(r:Option α×List Tk)(f:α->PM β):Option β×List Tk:=match r with
 |(none,l)=>(none,l)
 |(some x,l)=>f x l
def aF(s:Str):PM Unit:=λl=>if isT s l then(some (),l.drop 1)else(none,l)
def nameM:PM Str:=λl=>if xK l then(some (hd l).text,l.drop 1)else(none,l)
def numM:PM Int:=λl=>if dJ l then(some (hd l).n,l.drop 1)else(none,l)
def intM:PM Int:=λl=>if isT sMinus l then bnd (numM (l.drop 1)) λn r=>(some (IntKind.i64.wrap (0-n)),r)else numM l
abbrev ex1(k:Int)(x:Ex):Ex:=.mk k [] 0 0 [x]
abbrev ex2(k:Int)(x y:Ex):Ex:=.mk k [] 0 0 [x,y]
def prodL(u:PM Ex):Nat->Ex->PM Ex
 | 0,x=>λl=>(some x,l)
 |n+1,x=>λl=>
  if isT sStar l then bnd (u (l.drop 1)) λy=>prodL u n (ex2 17 x y)
  else if isT sSlash l then
   (if dJ (l.drop 1)&&(hd (l.drop 1)).n==0 then(none,l.drop 1)else bnd (numM (l.drop 1)) λk=>prodL u n (.mk 18 [] 0 k [x]))
  else(some x,l)
def gm(u:PM Ex):PM Ex:=λl=>bnd (u l) λx r=>prodL u r.length x r
def sumL(u:PM Ex):Nat->Ex->PM Ex
 | 0,x=>λl=>(some x,l)
 |n+1,x=>λl=>
  if isT sPlus l then bnd (gm u (l.drop 1)) λy=>sumL u n (ex2 15 x y)
  else if isT sMinus l then bnd (gm u (l.drop 1)) λy=>sumL u n (ex2 16 x y)
  else(some x,l)
def sumM(u:PM Ex):PM Ex:=λl=>bnd (gm u l) λx r=>sumL u r.length x r
def exprF(u:PM Ex):Nat->PM Ex
 | 0=>λl=>(none,l)
 | n+1=>λl=>if isT wIf l then
   bnd (sumM u (l.drop 1)) λa l=>bnd (aF sLt l) λ_ l=>bnd (sumM u l) λb l=>bnd (aF wThen l) λ_ l=>
    bnd (exprF u n l) λc l=>bnd (aF wElse l) λ_ l=>bnd (exprF u n l) λd l=>(some (.mk 19 [] 0 0 [a,b,c,d]),l)
  else sumM u l
def jd(u:PM Ex):PM Ex:=λl=>exprF u (l.length+1) l
def kW:List (Str×Int×Int×Bool):=[(wIn,6,1,false),(VF,7,1,false),(z7t,10,1,false),(z7w,13,1,false),(z7s,8,1,true),(VG,9,1,true),(z7u,11,2,false),(z7v,12,2,false)]
def xy(u:PM Ex):Nat->Nat->List Ex->PM (List Ex)
 | 0,_,acc=>λl=>(some acc,l)
 |m+1,i,acc=>λl=>bnd (if 0<i then aF sComma l else(some (),l)) λ_ l=>bnd (jd u l) λx l=>xy u m (i+1) (acc++[x]) l
def iR(u:PM Ex)(k:Int)(n:Nat)(named:Bool):PM Ex:=λl=>
 bnd (aF sPar l) λ_ l=>bnd (if named then bnd (nameM l) λs l=>bnd (aF sComma l) λ_ l=>(some s,l)else(some [],l)) λs l=>
  bnd (xy u n 0 [] l) λxs l=>bnd (aF sKet l) λ_ l=>(some (.mk k s 0 0 xs),l)
def look(s:Str):List (Str×Int×Int×Bool)->Option (Int×Int×Bool)
 | []=>none
 |(w,f)::r=>if s==w then some f else look s r
def unitB(u:Option (PM Ex)):PM Ex:=λl=>
 if dJ l then(some (.mk 1 [] 0 (hd l).n []),l.drop 1)
 else if xK l then(some (.mk 2 (hd l).text 0 0 []),l.drop 1)
 else match u with
  |none=>(none,l)
  |some u=>
   if isT sMinus l then bnd (u (l.drop 1)) λx l=>(some (ex1 14 x),l)
   else if isT sPar l then bnd (jd u (l.drop 1)) λx l=>bnd (aF sKet l) λ_ l=>(some x,l)
   else match look (hd l).text kW with
    |some f=>if(hd l).kind==1 then iR u f.1 f.2.1.toNat f.2.2 (l.drop 1)else(none,l)
    |none=>(none,l)
def bH:Nat->PM Ex
 | 0=>unitB none
 |k+1=>unitB (some (bH k))
def kM:PM (Int×Int):=λl=>bnd (aF wFrom l) λ_ l=>bnd (intM l) λlo l=>bnd (aF wTo l) λ_ l=>bnd (intM l) λhi l=>(some (lo,hi),l)
def oV:PM Bd:=λl=>bnd (nameM l) λs l=>bnd (kM l) λb l=>(some ⟨s,b.1,b.2⟩,l)
abbrev IM:=Pr->List Tk->Bool×Pr×List Tk
def itB{α:Type}(p:Pr)(r:Option α×List Tk)(f:α->List Tk->Bool×Pr×List Tk):Bool×Pr×List Tk:=match r with
 |(none,l)=>(false,p,l)
 |(some x,l)=>f x l
def oW:IM:=λp l=>itB p (oV l) λb l=>(true,{ p with params:=p.params++[b] },l)
def oZ:IM:=λp l=>itB p (oV l) λb l=>(true,{ p with states:=p.states++[b] },l)
def zL:IM:=λp l=>itB p (nameM l) λs l=>itB p (numM l) λn l=>itB p (kM l) λb l=>(true,{ p with lines:=p.lines++[⟨s,n,b.1,b.2⟩] },l)
def listL:Nat->List Int->PM (List Int)
 | 0,acc=>λl=>(some acc,l)
 |n+1,acc=>λl=>if isT sComma l then bnd (intM (l.drop 1)) λv l=>listL n (acc++[v]) l else(some acc,l)
def zM:PM (List Int):=λl=>bnd (intM l) λv l=>listL l.length [v] l
def o7:IM:=λp l=>itB p (nameM l) λs l=>itB p (aF sEq l) λ_ l=>itB p (zM l) λvs l=>(true,{ p with tables:=p.tables++[⟨s,vs⟩] },l)
def jm(k:Int):IM:=λp l=>itB p (if k != 4 then bnd (nameM l) λs l=>bnd (aF sEq l) λ_ l=>(some s,l)else(some [],l)) λs l=>
 itB p (jd (bH 63) l) λx l=>(true,{ p with stmts:=p.stmts++[⟨k,s,0,x⟩] },l)
def decls:List (Str×IM):=[(lu,oW),(kL,oZ),(DZ,zL),(uN,o7)]
def stmts:List (Str×IM):=[(XN,jm 1),(XO,jm 2),(Gm,jm 3),(XP,jm 4)]
def find(s:Str):List (Str×IM)->Option IM
 | []=>none
 |(w,f)::r=>if s==w then some f else find s r
def dH(t:List (Str×IM)):Nat->IM
 | 0=>λp l=>(true,p,l)
 |n+1=>λp l=>if l.isEmpty then(true,p,l)else match find (hd l).text t with
  |none=>(true,p,l)
  | some f=>if isT (hd l).text l then match f p (l.drop 1)with
    |(false,p,l)=>(false,p,l)
    |(true,p,l)=>itB p (aF sSemi l) λ_ l=>dH t n p l
   else(true,p,l)
def dU(t:List (Str×IM)):IM:=λp l=>dH t l.length p l
def lN:PM Pr:=λl=>bnd (aF wProcessor l) λ_ l=>bnd (nameM l) λs l=>bnd (aF dG l) λ_ l=>bnd (numM l) λa l=>
 bnd (aF wTail l) λ_ l=>bnd (if dJ l then numM l else bnd (aF di l) λ_ l=>(some (-1),l)) λt l=>bnd (aF sBra l) λ_ l=>
  match dU decls ⟨s,a,t,[],[],[],[],[]⟩ l with
  |(false,_,l)=>(none,l)
  |(true,p,l)=>match dU stmts p l with
   |(false,_,l)=>(none,l)
   |(true,p,l)=>bnd (aF sEnd l) λ_ l=>(some p,l)
def readF:Nat->List Pr->PM (List Pr)
 | 0,ps=>λl=>(some ps,l)
 |n+1,ps=>λl=>if l.isEmpty then(some ps,l)else bnd (lN l) λp l=>readF n (ps++[p]) l
def readM(l:List Tk):Option (List Pr)×List Tk:=readF l.length [] l
def at'(e:Int):List Tk->Int
 | []=>e
 |t::_=>t.pos
abbrev wd(s:Str):Tk:=⟨1,s,0,0⟩
abbrev sg(s:Str):Tk:=⟨3,s,0,0⟩
abbrev nu(n:Int):Tk:=⟨2,[],n,0⟩
def dQ(n:Int):List Tk:=if n<0 then [sg sMinus,nu (IntKind.i64.wrap (0-n))]else [nu n]
def level(k:Int):Int:=if k==19 then 0 else if k==15 || k==16 then 1 else if k==17 || k==18 then 2 else 3
abbrev Form:=List Str×List Int×Str
def forms:List (Int×Form):=[(19,[wIf,sLt,wThen,wElse],[1,1,0,0],[]),(15,[[],sPlus],[1,2],[]),(16,[[],sMinus],[1,2],[]),(17,[[],sStar],[2,3],[]),(18,[[]],[2],sSlash),(14,[sMinus],[3],[])]
def gZ(k:Int):List (Int×Form)->Option Form
 | []=>none
 |(w,f)::r=>if k==w then some f else gZ k r
def dL(k:Int):Option Form:=gZ k forms
def zN(k:Int):List (Str×Int×Int×Bool)->Option (Str×Int×Bool)
 | []=>none
 |(w,f,n,b)::r=>if f==k then some (w,n,b)else zN k r
def lY(k:Int):Option (Str×Int×Bool):=zN k kW
def iT(s:Str):List Tk:=if s==wIf || s==wThen || s==wElse then [wd s]else if s==[]then []else [sg s]
mutual
def aj:Ex->List Tk
 | .mk k nm _ n l=>match dL k with
  |some f=>opsT l f.1 f.2.1++(if f.2.2==[]then []else sg f.2.2::dQ n)
  |none=>match lY k with
   |some f=>wd f.1::sg sPar::((if f.2.2 then [wd nm,sg sComma]else [])++(qg l f.2.1.toNat 0++[sg sKet]))
   |none=>if k==1 then dQ n else [wd nm]
def opsT:List Ex->List Str->List Int->List Tk
 | [],hs,_=>hs.flatMap iT
 |_::_,[],_=>[]
 |x::xs,h::hs,lv=>iT h++((if level x.kind<lv.headD 0 then sg sPar::(aj x++[sg sKet])else aj x)++opsT xs hs lv.tail)
def qg:List Ex->Nat->Nat->List Tk
 | [],_,_=>[]
 |_::_,0,_=>[]
 |x::xs,m+1,i=>(if 0<i then [sg sComma]else [])++(aj x++qg xs m (i+1))
end
def aW(x:Ex)(least:Int):List Tk:=if level x.kind<least then sg sPar::(aj x++[sg sKet])else aj x
def bV(lo hi:Int):List Tk:=wd wFrom::(dQ lo++(wd wTo::(dQ hi++[sg sSemi])))
def fA(s:Sm):List Tk:=(if s.kind==1 then [wd XN,wd s.name,sg sEq]else if s.kind==2 then [wd XO,wd s.name,sg sEq]else if s.kind==3 then [wd Gm,wd s.name,sg sEq]else [wd XP])++(aW s.x 0++[sg sSemi])
def kw:Nat->List Int->List Tk
 |_,[]=>[]
 |i,v::r=>(if 0<i then [sg sComma]else [])++(dQ v++kw (i+1) r)
def bdT(w:Str)(b:Bd):List Tk:=wd w::wd b.name::bV b.lo b.hi
def lnT(b:Ln):List Tk:=wd DZ::wd b.name::(dQ b.size++bV b.lo b.hi)
def tbT(t:Tb):List Tk:=wd uN::wd t.name::sg sEq::(kw 0 t.values++[sg sSemi])
def fB(p:Pr):List Tk:=
 wd wProcessor::wd p.name::wd dG::(dQ p.latency++(wd wTail::((if p.tail == -1 then [wd di]else dQ p.tail)++(sg sBra ::
  (p.params.flatMap (bdT lu)++(p.states.flatMap (bdT kL)++(p.lines.flatMap lnT++(p.tables.flatMap tbT++(p.stmts.flatMap fA++[sg sEnd])))))))))
mutual
def gp:Ex->Ex
 | .mk k nm _ n l=>.mk (if k==3 || k==4 || k==5 then 2 else k) nm 0 n (jh l)
def jh:List Ex->List Ex
 | []=>[]
 |x::r=>gp x::jh r
end
theorem VH(l:List Ex):jh l=l.map gp:=by
 induction l with
 |nil=>rfl
 |cons x r ih=>simp[jh,ih]
abbrev uO(s:Sm):Sm:={ s with index:=0,x:=gp s.x }
abbrev dE(p:Pr):Pr:={ p with stmts:=p.stmts.map uO }
abbrev Sh{α:Type}(m:PM α):Prop:=∀l o r,m l=(o,r)->r.length<=l.length
def Le{α:Type}(n:Nat)(r:Option α×List Tk):Prop:=r.2.length<=n
theorem Sh.le{α:Type}{m:PM α}(h:Sh m)(l:List Tk):Le l.length (m l):=h l _ _ rfl
theorem Sh.of{α:Type}{m:PM α}(h:∀l,Le l.length (m l)):Sh m:=λl o r e=>by have:=h l;rw[e]at this;exact this
theorem Le.mono{α:Type}{n m:Nat}{r:Option α×List Tk}(h:Le n r)(hn:n<=m):Le m r:=Nat.le_trans h hn
theorem Le.bnd{α β:Type}{n:Nat}{r:Option α×List Tk}{f:α->PM β}(h:Le n r)(hf:∀x l,l.length<=n->Le n (f x l)):Le n (bnd r f):=by
 obtain⟨o,l⟩:=r
 cases o with
 |none=>exact h
 |some x=>exact hf x l h
theorem Le.drop{α:Type}{o:Option α}{l:List Tk}:Le l.length (o,l.drop 1):=by simp[Le]
theorem Le.drop'{α:Type}{o:Option α}{l:List Tk}{n:Nat}(h:l.length<=n):Le n (o,l.drop 1):=by simp[Le];omega
theorem Le.self{α:Type}{o:Option α}{l:List Tk}{n:Nat}(h:l.length<=n):Le n (o,l):=h
theorem ny{l:List Tk}{n:Nat}(h:l.length<=n):(l.drop 1).length<=n:=by simp;omega
theorem nz{s:Str}:Sh (aF s):=.of λl=>by unfold aF;split;exact .drop;exact .self (Nat.le_refl _)
theorem nC:Sh nameM:=.of λl=>by unfold nameM;split;exact .drop;exact .self (Nat.le_refl _)
theorem uP:Sh numM:=.of λl=>by unfold numM;split;exact .drop;exact .self (Nat.le_refl _)
theorem zO:Sh intM:=.of λl=>by
 unfold intM;split
 ·exact(uP.le _).mono (by simp) |>.bnd λ_ _ h=>h
 ·exact uP.le _
section
variable {u : PM Ex} (hu : Sh u)
include hu
theorem D5:∀(n:Nat) (x:Ex) (l:List Tk) (m:Nat),l.length<=m->Le m (prodL u n x l)
 | 0,_,_,_,h=>h
 |n+1,x,l,m,h=>by
  unfold prodL
  split
  ·exact((hu.le _).mono (ny h)).bnd λy r hr=>D5 n _ _ _ hr
  ·split
   ·split
    ·exact .drop' h
    ·exact((uP.le _).mono (ny h)).bnd λy r hr=>D5 n _ _ _ hr
   ·exact h
theorem zQ:Sh (gm u):=.of λl=>(hu.le l).bnd λx r hr=>D5 hu _ _ _ _ hr
theorem IY:∀(n:Nat) (x:Ex) (l:List Tk) (m:Nat),l.length<=m->Le m (sumL u n x l)
 | 0,_,_,_,h=>h
 |n+1,x,l,m,h=>by
  unfold sumL
  split
  ·exact(((zQ hu).le _).mono (ny h)).bnd λy r hr=>IY n _ _ _ hr
  ·split
   ·exact(((zQ hu).le _).mono (ny h)).bnd λy r hr=>IY n _ _ _ hr
   ·exact h
theorem XQ:Sh (sumM u):=.of λl=>((zQ hu).le l).bnd λx r hr=>IY hu _ _ _ _ hr
theorem yt:∀(n:Nat) (l:List Tk) (m:Nat),l.length<=m->Le m (exprF u n l)
 | 0,_,_,h=>h
 |n+1,l,m,h=>by
  have hs:∀l:List Tk,l.length<=m->Le m (sumM u l):=λl h=>((XQ hu).le l).mono h
  have hw:∀(s:Str) (l:List Tk),l.length<=m->Le m (aF s l):=λs l h=>(nz.le l).mono h
  unfold exprF
  split
  ·exact(hs _ (ny h)).bnd λ_ _ h=>(hw _ _ h).bnd λ_ _ h=>(hs _ h).bnd λ_ _ h=>(hw _ _ h).bnd λ_ _ h=>(yt n _ _ h).bnd λ_ _ h=>(hw _ _ h).bnd λ_ _ h=>(yt n _ _ h).bnd λ_ _ h=>h
  ·exact hs _ h
theorem VI(n:Nat):Sh (exprF u n):=.of λl=>yt hu n l _ (Nat.le_refl _)
theorem IZ:Sh (jd u):=.of λl=>yt hu _ _ _ (Nat.le_refl _)
theorem RH:∀(n i:Nat) (a:List Ex) (l:List Tk) (m:Nat),l.length<=m->Le m (xy u n i a l)
 | 0,_,_,_,_,h=>h
 |n+1,i,a,l,m,h=>by
  unfold xy
  refine Le.bnd ?_ λ_ _ h=>(((IZ hu).le _).mono h).bnd λ_ _ h=>RH n _ _ _ _ h
  split
  ·exact(nz.le _).mono h
  ·exact h
theorem Zm(k:Int)(n:Nat)(b:Bool):Sh (iR u k n b):=.of λl=>by
 have hw:∀(s:Str) (l':List Tk),l'.length<=l.length->Le l.length (aF s l'):=λs l h=>(nz.le l).mono h
 refine(hw _ _ (Nat.le_refl _)).bnd λ_ _ h=>Le.bnd ?_ λ_ _ h=>(RH hu _ _ _ _ _ h).bnd λ_ _ h=>(hw _ _ h).bnd λ_ _ h=>h
 split
 ·exact((nC.le _).mono h).bnd λ_ _ h=>(hw _ _ h).bnd λ_ _ h=>h
 ·exact h
end
theorem KX{u:Option (PM Ex)}(hu:∀v,u=some v->Sh v):Sh (unitB u):=.of λl=>by
 unfold unitB
 split
 ·exact .drop
 ·split
  ·exact .drop
  ·split
   ·exact Nat.le_refl _
   ·rename_i v
    have hv:=hu v rfl
    split
    ·exact((hv.le _).mono (ny (Nat.le_refl _))).bnd λ_ _ h=>h
    ·split
     ·exact(((IZ hv).le _).mono (ny (Nat.le_refl _))).bnd λ_ _ h=>((nz.le _).mono h).bnd λ_ _ h=>h
     ·split
      ·split
       ·exact((Zm hv _ _ _).le _).mono (ny (Nat.le_refl _))
       ·exact Nat.le_refl _
      ·exact Nat.le_refl _
theorem zS:∀k,Sh (bH k)
 | 0=>KX λ_ h=>by cases h
 |k+1=>KX λ_ h=>by cases h;exact zS k
theorem kN{s:Str}{l:List Tk}(h:isT s l=true):l ≠ []:=by rintro rfl;simp[isT]at h
theorem nD{l:List Tk}{n:Nat}(h:l ≠ [])(hn:l.length<=n):∃m,n=m+1/\(l.drop 1).length<=m:=by
 cases l with
 |nil=>exact absurd rfl h
 |cons t r=>refine⟨n-1,?_,?_⟩<;>simp at hn ⊢ <;> omega
section
variable {u : PM Ex}
theorem Gn{n:Nat}{x:Ex}{l:List Tk}(hn:l.length<=n)(hT:isT sStar l=true):prodL u n x l=bnd (u (l.drop 1)) λy=>prodL u (n-1) (ex2 17 x y):=by
 obtain⟨m,rfl,-⟩:=nD (kN hT) hn
 show prodL u (m+1) x l=_;rw[Nat.add_sub_cancel];conv=>{ lhs;unfold prodL };rw[if_pos hT]
theorem wI{n:Nat}{x:Ex}{l:List Tk}(hn:l.length<=n)(h0:isT sStar l=false)(hT:isT sSlash l=true):prodL u n x l=if dJ (l.drop 1)&&(hd (l.drop 1)).n==0 then(none,l.drop 1)else bnd (numM (l.drop 1)) λk=>prodL u (n-1) (.mk 18 [] 0 k [x]):=by
 obtain⟨m,rfl,-⟩:=nD (kN hT) hn
 show prodL u (m+1) x l=_;rw[Nat.add_sub_cancel];conv=>{ lhs;unfold prodL };rw[h0,if_neg (by simp),if_pos hT]
theorem VJ{n:Nat}{x:Ex}{l:List Tk}(h0:isT sStar l=false)(hT:isT sSlash l=false):prodL u n x l=(some x,l):=by
 cases n with
 |zero=>rfl
 |succ n=>unfold prodL;rw[h0,if_neg (by simp),hT,if_neg (by simp)]
theorem KY{n:Nat}{x:Ex}{l:List Tk}(hn:l.length<=n)(hT:isT sPlus l=true):sumL u n x l=bnd (gm u (l.drop 1)) λy=>sumL u (n-1) (ex2 15 x y):=by
 obtain⟨m,rfl,-⟩:=nD (kN hT) hn
 show sumL u (m+1) x l=_;rw[Nat.add_sub_cancel];conv=>{ lhs;unfold sumL };rw[if_pos hT]
theorem Gp{n:Nat}{x:Ex}{l:List Tk}(hn:l.length<=n)(h0:isT sPlus l=false)(hT:isT sMinus l=true):sumL u n x l=bnd (gm u (l.drop 1)) λy=>sumL u (n-1) (ex2 16 x y):=by
 obtain⟨m,rfl,-⟩:=nD (kN hT) hn
 show sumL u (m+1) x l=_;rw[Nat.add_sub_cancel];conv=>{ lhs;unfold sumL };rw[h0,if_neg (by simp),if_pos hT]
theorem Zn{n:Nat}{x:Ex}{l:List Tk}(h0:isT sPlus l=false)(hT:isT sMinus l=false):sumL u n x l=(some x,l):=by
 cases n with
 |zero=>rfl
 |succ n=>unfold sumL;rw[h0,if_neg (by simp),hT,if_neg (by simp)]
structure LI{α:Type}(f:Nat->α->PM Ex)(R:Option Ex×List Tk)(n:Nat)(x:α)(l:List Tk):Prop where
 eq:f n x l=R
 le:l.length<=n
theorem LI.mu{n:Nat}{l:List Tk}(hn:l.length<=n)(h:l ≠ []):n-1<n:=by
 cases l with
 |nil=>exact absurd rfl h
 |cons t r=>simp at hn;omega
theorem zT{α:Type}{m:PM α}(hm:Sh m){l r:List Tk}{n:Nat}{o:Option α}(hn:l.length<=n)(hl:l ≠ [])(h:m (l.drop 1)=(o,r)):r.length<=n-1:=by
 obtain⟨k,rfl,hk⟩:=nD hl hn
 have:=hm _ _ _ h
 omega
end
section
variable {u : PM Ex} {o : Option Ex} {l l' l1 l2 l3 : List Tk} {n : Nat} {x y : Ex} {k : Int}
theorem wJ{α β:Type}{a o:α}{b l:β}(h:(a,b)=(o,l)):o=a/\l=b:=by cases h;exact⟨rfl,rfl⟩
theorem Zo(hM:gm u l=(o,l'))(h:u l=(none,l2)):o=none/\l'=l2:=by unfold gm at hM;rw[h]at hM;exact wJ hM
theorem z4c(hM:gm u l=(o,l'))(h:u l=(some y,l2)):LI (prodL u) (o,l') l2.length y l2:=by unfold gm at hM;rw[h]at hM;exact⟨hM,Nat.le_refl _⟩
theorem z4d(hI:LI (prodL u) (o,l') n x l1)(h0:isT sStar l1=false)(h1:isT sSlash l1=false):o=some x/\l'=l1:=by have h:=hI.eq;rw[VJ h0 h1]at h;exact wJ h
theorem Zp(hI:LI (prodL u) (o,l') n x l1)(hT:isT sStar l1=true)(h:u (l1.drop 1)=(none,l2)):o=none/\l'=l2:=by have h1:=hI.eq;rw[Gn hI.le hT,h]at h1;exact wJ h1
theorem Zq(hs:Sh u)(hI:LI (prodL u) (o,l') n x l1)(hT:isT sStar l1=true)(h:u (l1.drop 1)=(some y,l2)):LI (prodL u) (o,l') (n-1) (ex2 17 x y) l2:=by
 have h1:=hI.eq;rw[Gn hI.le hT,h]at h1;exact⟨h1,zT hs hI.le (kN hT) h⟩
theorem zan{b c:Bool}(h:(bif b then c else false)=true):(b&&c)=true:=by cases b with |true=>exact h |false=>cases h
theorem num0'{b c:Bool}(h:(bif b then c else false)=false):(b&&c)=false:=by cases b with |true=>exact h |false=>rfl
theorem Zr(hI:LI (prodL u) (o,l') n x l1)(h0:isT sStar l1=false)(hT:isT sSlash l1=true)(h:(bif dJ (l1.drop 1)then(hd (l1.drop 1)).n==0 else false)=true):o=none/\l'=l1.drop 1:=by
 have h1:=hI.eq;rw[wI hI.le h0 hT,zan h,if_pos rfl]at h1;exact wJ h1
theorem Zt(hI:LI (prodL u) (o,l') n x l1)(h0:isT sStar l1=false)(hT:isT sSlash l1=true)(h:(bif dJ (l1.drop 1)then(hd (l1.drop 1)).n==0 else false)=false)(hk:numM (l1.drop 1)=(none,l3)):o=none/\l'=l3:=by
 have h1:=hI.eq;rw[wI hI.le h0 hT,num0' h,if_neg (by simp),hk]at h1;exact wJ h1
theorem Zu(hI:LI (prodL u) (o,l') n x l1)(h0:isT sStar l1=false)(hT:isT sSlash l1=true)(h:(bif dJ (l1.drop 1)then(hd (l1.drop 1)).n==0 else false)=false)(hk:numM (l1.drop 1)=(some k,l3)):LI (prodL u) (o,l') (n-1) (.mk 18 [] 0 k [x]) l3:=by
 have h1:=hI.eq;rw[wI hI.le h0 hT,num0' h,if_neg (by simp),hk]at h1;exact⟨h1,zT uP hI.le (kN hT) hk⟩
theorem z4e(hM:sumM u l=(o,l'))(h:gm u l=(none,l2)):o=none/\l'=l2:=by unfold sumM at hM;rw[h]at hM;exact wJ hM
theorem z8o(hM:sumM u l=(o,l'))(h:gm u l=(some y,l2)):LI (sumL u) (o,l') l2.length y l2:=by unfold sumM at hM;rw[h]at hM;exact⟨hM,Nat.le_refl _⟩
theorem z8p(hI:LI (sumL u) (o,l') n x l1)(h0:isT sPlus l1=false)(h1:isT sMinus l1=false):o=some x/\l'=l1:=by have h:=hI.eq;rw[Zn h0 h1]at h;exact wJ h
theorem z4f(hI:LI (sumL u) (o,l') n x l1)(hT:isT sPlus l1=true)(h:gm u (l1.drop 1)=(none,l2)):o=none/\l'=l2:=by have h1:=hI.eq;rw[KY hI.le hT,h]at h1;exact wJ h1
theorem z4g(hs:Sh u)(hI:LI (sumL u) (o,l') n x l1)(hT:isT sPlus l1=true)(h:gm u (l1.drop 1)=(some y,l2)):LI (sumL u) (o,l') (n-1) (ex2 15 x y) l2:=by
 have h1:=hI.eq;rw[KY hI.le hT,h]at h1;exact⟨h1,zT (zQ hs) hI.le (kN hT) h⟩
theorem z4h(hI:LI (sumL u) (o,l') n x l1)(h0:isT sPlus l1=false)(hT:isT sMinus l1=true)(h:gm u (l1.drop 1)=(none,l2)):o=none/\l'=l2:=by have h1:=hI.eq;rw[Gp hI.le h0 hT,h]at h1;exact wJ h1
theorem z4i(hs:Sh u)(hI:LI (sumL u) (o,l') n x l1)(h0:isT sPlus l1=false)(hT:isT sMinus l1=true)(h:gm u (l1.drop 1)=(some y,l2)):LI (sumL u) (o,l') (n-1) (ex2 16 x y) l2:=by
 have h1:=hI.eq;rw[Gp hI.le h0 hT,h]at h1;exact⟨h1,zT (zQ hs) hI.le (kN hT) h⟩
theorem VK{α:Type}{f:Nat->α->PM Ex}{R:Option Ex×List Tk}{x:α}{s:Str}(hI:LI f R n x l1)(hT:isT s l1=true):n-1<n:=LI.mu hI.le (kN hT)
end
variable [ae] {l : List Tk} {W : TypeId} {next pan : Next} {env : Env} {L : List Nat} {az : List AV} {f : FuncId} {e d : Int} {K : Heap}
abbrev pB(l:List Tk)(e d:Int):Block:=.cells [.data (.sl 4 (l.map Tk.cs)),.data (.i e),.data (.i d)]
def kP(W:TypeId)(e:Int)(l:List Tk):D:=.iface W (.agg [.i (at' e l)])
def jT{α:Type}(W:TypeId)(g:α->D)(e:Int)(o:Option α)(l:List Tk):gy:=match o with
 |some x=>.ret (.data (g x))
 |none=>.pan (.data (kP W e l))
theorem uQ{α:Type}{g:α->D}{e:Int}{o:Option α}:(jT W g e o l).av.ids = []:=by cases o<;>rfl
abbrev B':=FuncId->List AV->Heap->gy->Heap->Prop
variable {B : B'}
theorem KZ{ρ:List (Nat×Nat)}:∀ds:List D,AV.ren.go ρ (ds.map .data)=ds.map .data
 | []=>rfl
 |d::r=>by show AV.ren ρ (.data d)::AV.ren.go ρ (r.map .data)=_;rw[KZ r];rfl
theorem nG{s:Str}(h:isT s l=true):0<l.length:=by
 cases l with
 |nil=>simp[isT]at h
 |cons t r=>simp
theorem kz{α:Type}{B:B'}{L:List Nat}{f:FuncId}{az:List AV}{env:Env}{K:Heap}{next pan:Next}{M:PM α}{g:α->D}{W:TypeId}{e d:Int}(ds:List D)
  (H:∀l o l',M l=(o,l')->B f (.ptr 1000000 0::ds.map .data) [(1000000,pB l e d)] (jT W g e o l') [(1000000,pB l' e d)])
  (hk:∃X l,az = .ptr X 0::ds.map .data/\K.get X=some (pB l e d)/\allIn L [X]=true/\(∀x l',M l=(some x,l')->next (.data (g x)) (K.put X (pB l' e d))) /\
   (∀l',M l=(none,l')->pan (.data (kP W e l')) (K.put X (pB l' e d)))) :
  ∃(as0:List AV) (K0:Heap) (out:gy) (K1:Heap) (ρ:List (Nat×Nat)),B f as0 K0 out K1/\AV.ren.go ρ as0=az/\Heap.sub ρ K K0/\bD ρ K0 K1 out.av env K L=true /\
  outGo ρ K1 K next pan out:=by
 obtain⟨X,l,has,hK,hL,h1,h2⟩:=hk
 rcases hM:M l with⟨o,l'⟩
 refine⟨_,_,_,_,[(1000000,X)],H l o l' hM,?_,⟨hK,trivial⟩,?_,?_⟩
 ·rw[has]
  show AV.ren _ _::AV.ren.go _ (ds.map .data)=_
  rw[KZ];rfl
 ·simp only[bD,uQ,keys,aJ,rn,Nat.beq_refl]
  rw[hL]
  rfl
 ·cases o with
  |some x=>exact h1 x l' hM
  |none=>exact h2 l' hM
theorem dh(a:D)(ρ:List (Nat×Nat)):AV.ren.go ρ [.data a] = [.data a]:=rfl
theorem z4j(a b c:D)(ρ:List (Nat×Nat)):AV.ren.go ρ [.data a,.data b,.data c] = [.data a,.data b,.data c]:=rfl
theorem lentP'{α:Type}{B:B'}{L:List Nat}{f:FuncId}{az:List AV}{env:Env}{K:Heap}{next pan:Next}{M:PM α}{g:α->D}{W:TypeId}{e d:Int}{ds:List AV}(hr:∀ρ,AV.ren.go ρ ds=ds)
  (H:∀l o l',M l=(o,l')->B f (.ptr 1000000 0::ds) [(1000000,pB l e d)] (jT W g e o l') [(1000000,pB l' e d)])
  (hk:∃X es l,az = .ptr X 0::ds/\K.get X=some (.cells [.data (.sl 4 es),.data (.i e),.data (.i d)])/\es=l.map Tk.cs/\allIn L [X]=true/\(∀x l',M l=(some x,l')->next (.data (g x)) (K.put X (pB l' e d))) /\
   (∀l',M l=(none,l')->pan (.data (kP W e l')) (K.put X (pB l' e d)))) :
  ∃(as0:List AV) (K0:Heap) (out:gy) (K1:Heap) (ρ:List (Nat×Nat)),B f as0 K0 out K1/\AV.ren.go ρ as0=az/\Heap.sub ρ K K0/\bD ρ K0 K1 out.av env K L=true /\
  outGo ρ K1 K next pan out:=by
 obtain⟨X,es,l,has,hK,rfl,hL,h1,h2⟩:=hk
 rcases hM:M l with⟨o,l'⟩
 refine⟨_,_,_,_,[(1000000,X)],H l o l' hM,?_,⟨hK,trivial⟩,?_,?_⟩
 ·rw[has]
  show AV.ren _ _::AV.ren.go _ ds=_
  rw[hr];rfl
 ·simp only[bD,uQ,keys,aJ,rn,Nat.beq_refl]
  rw[hL]
  rfl
 ·cases o with
  |some x=>exact h1 x l' hM
  |none=>exact h2 l' hM
theorem z4k{α:Type}{B:B'}{L:List Nat}{f:FuncId}{az:List AV}{env:Env}{K:Heap}{next pan:Next}{M:PM α}{g:α->D}{W:TypeId}{e d:Int}(P:List Tk->Prop)(hs:∀l o r,M l=(o,r)->r.length<=l.length)
  (H:∀l o l',P l->M l=(o,l')->B f [.ptr 1000000 0] [(1000000,pB l e d)] (jT W g e o l') [(1000000,pB l' e d)])
  (hk:∃X l,az = [.ptr X 0]/\K.get X=some (pB l e d)/\allIn L [X]=true/\P l/\(∀x l',M l=(some x,l')->l'.length<=l.length->next (.data (g x)) (K.put X (pB l' e d))) /\
   (∀l',M l=(none,l')->pan (.data (kP W e l')) (K.put X (pB l' e d)))) :
  ∃(as0:List AV) (K0:Heap) (out:gy) (K1:Heap) (ρ:List (Nat×Nat)),B f as0 K0 out K1/\AV.ren.go ρ as0=az/\Heap.sub ρ K K0/\bD ρ K0 K1 out.av env K L=true /\
  outGo ρ K1 K next pan out:=by
 obtain⟨X,l,has,hK,hL,hP,h1,h2⟩:=hk
 rcases hM:M l with⟨o,l'⟩
 refine⟨_,_,_,_,[(1000000,X)],H l o l' hP hM,?_,⟨hK,trivial⟩,?_,?_⟩
 ·rw[has];rfl
 ·simp only[bD,uQ,keys,aJ,rn,Nat.beq_refl]
  rw[hL]
  rfl
 ·cases o with
  |some x=>exact h1 x l' hM (hs _ _ _ hM)
  |none=>exact h2 l' hM
theorem RI:numM=λl=>if dJ l then(some (hd l).n,l.drop 1)else(none,l):=rfl
theorem RJ:nameM=λl=>if xK l then(some (hd l).text,l.drop 1)else(none,l):=rfl
theorem RN{α:Type}{B:B'}{L:List Nat}{f:FuncId}{az:List AV}{env:Env}{K:Heap}{next pan:Next}{M:PM α}{g:α->D}{W:TypeId}{e d:Int}(c:List Tk->Bool)(v:List Tk->α)(hv:M=λl=>if c l then(some (v l),l.drop 1)else(none,l))
  (H:∀l o l',M l=(o,l')->B f [.ptr 1000000 0] [(1000000,pB l e d)] (jT W g e o l') [(1000000,pB l' e d)])
  (hk:∃X l,az = [.ptr X 0]/\K.get X=some (pB l e d)/\allIn L [X]=true/\(c l=true->next (.data (g (v l))) (K.put X (pB (l.drop 1) e d))) /\
   (c l=false->pan (.data (kP W e l)) (K.put X (pB l e d)))) :
  ∃(as0:List AV) (K0:Heap) (out:gy) (K1:Heap) (ρ:List (Nat×Nat)),B f as0 K0 out K1/\AV.ren.go ρ as0=az/\Heap.sub ρ K K0/\bD ρ K0 K1 out.av env K L=true /\
  outGo ρ K1 K next pan out:=by
 obtain⟨X,l,has,hK,hL,h1,h2⟩:=hk
 refine kz [] H ⟨X,l,has,hK,hL,λx l' h=>?_,λl' h=>?_⟩
 ·rw[hv]at h
  cases hc:c l with
  |true=>simp only[hc,if_true]at h;cases h;exact h1 hc
  |false=>simp only[hc,Bool.false_eq_true,if_false]at h;cases h
 ·rw[hv]at h
  cases hc:c l with
  |true=>simp only[hc,if_true]at h;cases h
  |false=>simp only[hc,Bool.false_eq_true,if_false]at h;cases h;exact h2 hc
theorem AO{B:B'}{L:List Nat}{f:FuncId}{az:List AV}{env:Env}{K:Heap}{next pan:Next}{e d:Int}
  (H:∀s l,B f [.ptr 1000000 0,.data (.str s)] [(1000000,pB l e d)] (.ret (.data (.b (isT s l)))) [(1000000,pB (bif isT s l then l.drop 1 else l) e d)])
  (hk:∃X s l,az = [.ptr X 0,.data (.str s)]/\K.get X=some (pB l e d)/\allIn L [X]=true/\(isT s l=true->0<l.length->next (.data (.b true)) (K.put X (pB (l.drop 1) e d))) /\
   (isT s l=false->next (.data (.b false)) (K.put X (pB l e d)))) :
  ∃(as0:List AV) (K0:Heap) (out:gy) (K1:Heap) (ρ:List (Nat×Nat)),B f as0 K0 out K1/\AV.ren.go ρ as0=az/\Heap.sub ρ K K0/\bD ρ K0 K1 out.av env K L=true /\
  outGo ρ K1 K next pan out:=by
 obtain⟨X,s,l,has,hK,hL,h1,h2⟩:=hk
 refine⟨_,_,_,_,[(1000000,X)],H s l,has.symm,⟨hK,trivial⟩,?_,?_⟩
 ·simp only[bD,keys,aJ,rn,Nat.beq_refl]
  rw[hL]
  rfl
 ·cases h:isT s l with
  |true=>exact h1 h (nG h)
  |false=>exact h2 h
theorem AP{B:B'}{L:List Nat}{f:FuncId}{az:List AV}{env:Env}{K:Heap}{next pan:Next}{W:TypeId}{e d:Int}
  (H:∀s l o l',aF s l=(o,l')->B f [.ptr 1000000 0,.gs 1000001 1 [[.str s]]] [(1000000,pB l e d),(1000001,.tok 1 1)] (jT W (λ_:Unit=>.tuple []) e o l') [(1000000,pB l' e d),(1000001,.tok 1 1)])
  (hk:∃X Y s l,az = [.ptr X 0,.gs Y 1 [[.str s]]]/\K.get X=some (pB l e d)/\K.get Y=some (.tok 1 1)/\Nat.beq X Y=false/\allIn L [X,Y]=true/\(isT s l=true->0<l.length->next (.data (.tuple [])) ((K.put Y (.tok 1 1)).put X (pB (l.drop 1) e d))) /\
   (isT s l=false->pan (.data (kP W e l)) ((K.put Y (.tok 1 1)).put X (pB l e d)))) :
  ∃(as0:List AV) (K0:Heap) (out:gy) (K1:Heap) (ρ:List (Nat×Nat)),B f as0 K0 out K1/\AV.ren.go ρ as0=az/\Heap.sub ρ K K0/\bD ρ K0 K1 out.av env K L=true /\
  outGo ρ K1 K next pan out:=by
 obtain⟨X,Y,s,l,has,hK,hY,hXY,hL,h1,h2⟩:=hk
 rcases hM:aF s l with⟨o,l'⟩
 refine⟨_,_,_,_,[(1000000,X),(1000001,Y)],H s l o l' hM,has.symm,⟨hK,hY,trivial⟩,?_,?_⟩
 ·have hn:jQ [X,Y]=true:=by
   simp only[jQ,kV,hXY];rfl
  show(jQ [X,Y]&&(_&&(allIn L [X,Y]&&(_&&(allIn _ (jT W (λ_:Unit=>D.tuple []) e o l').av.ids&&_)))))=true
  rw[hn,hL,uQ]
  rfl
 ·unfold aF at hM
  cases h:isT s l with
  |true=>rw[h,if_pos rfl]at hM;cases hM;exact h1 h (nG h)
  |false=>rw[h,if_neg (by simp)]at hM;cases hM;exact h2 h
theorem Gq{B:B'}{L:List Nat}{f:FuncId}{az:List AV}{env:Env}{K:Heap}{next pan:Next}{W:TypeId}{e d:Int}
  (H:∀l,B f [.ptr 1000000 0] [(1000000,pB l e d)] (.pan (.data (kP W e l))) [(1000000,pB l e d)])
  (hk:∃X l,az = [.ptr X 0]/\K.get X=some (pB l e d)/\allIn L [X]=true/\pan (.data (kP W e l)) (K.put X (pB l e d))) :
  ∃(as0:List AV) (K0:Heap) (out:gy) (K1:Heap) (ρ:List (Nat×Nat)),B f as0 K0 out K1/\AV.ren.go ρ as0=az/\Heap.sub ρ K K0/\bD ρ K0 K1 out.av env K L=true /\
  outGo ρ K1 K next pan out:=by
 obtain⟨X,l,has,hK,hL,h1⟩:=hk
 refine⟨_,_,_,_,[(1000000,X)],H l,has.symm,⟨hK,trivial⟩,?_,h1⟩
 simp only[bD,keys,aJ,rn,Nat.beq_refl]
 rw[hL]
 rfl
def D6:List Str->PM Unit
 | []=>λl=>(some (),l)
 |s::r=>λl=>if isT s l then D6 r (l.drop 1)else(none,l)
theorem RQ{s:Str}:D6 [s] l=aF s l:=by simp[D6,aF]
theorem jo{α:Type}{T:Tbl}{rs:List ResultVar}{K0 K K1:Heap}{q:Prop}{g:α->D}{e:Int}{o:Option α}(h:finR T rs K0 (jT W g e o l) K1 env K):finR T rs K0 (jT W g e o l) K1 env K\/q:=.inl h
theorem gK{α:Type}{T:Tbl}{rs:List ResultVar}{K0 K K1:Heap}{g:α->D}{e:Int}{x:α}(h:finR T rs K0 (.ret (.data (g x))) K1 env K):finR T rs K0 (jT W g e (some x) l) K1 env K:=h
theorem bf{α:Type}{K0 K K1:Heap}{x:AV}{g:α->D}{e:Int}{o:Option α}(h:Hq K0 K x K1 (jT W g e o l)):Hq K0 K x K1 (jT W g e o l):=h
theorem aQ{α:Type}{K0 K K1:Heap}{x:AV}{g:α->D}{e:Int}(h:fin K0 K x (.data (kP W e l)) K1):Hq K0 K x K1 (jT W g e (none:Option α) l):=by
 unfold Hq;exact h
theorem fE{α β:Type}{a o:α}{b l:β}(h:(a,b)=(o,l)):o=a/\l=b:=by cases h;exact⟨rfl,rfl⟩
theorem z4l(h:0<l.length):(l.map Tk.cs)[0]? = some (hd l).cs:=by
 cases l with
 |nil=>exact absurd h (by simp)
 |cons t r=>rfl
theorem rH{T:Prop}{n:Int}{q:List D->Prop}(hT:T)(hn:n=0)(h:0<l.length)(hq:q (hd l).cs):T/\∃c,(0<=n/\(l.map Tk.cs)[n.toNat]? = some c)/\q c:=by
 subst hn
 exact⟨hT,_,⟨Int.le_refl _,z4l h⟩,hq⟩
theorem I4:decide (((l.map Tk.cs).length:Int)>0) = !l.isEmpty:=by cases l<;>simp
theorem VL:cut (some 1) none (l.map Tk.cs)=(l.drop 1).map Tk.cs:=by simp[cut]
theorem La(h:xK l=true):0<l.length:=by
 cases l with
 |nil=>simp[xK]at h
 |cons t r=>simp
theorem zU(h:dJ l=true):0<l.length:=by
 cases l with
 |nil=>simp[dJ]at h
 |cons t r=>simp
theorem z7x(h:0<l.length):rQ (some 1) none (l.map Tk.cs).length:=by
 simp only[rQ,List.length_map];omega
end Go.Fw.Sy
namespace Go.Fw.Sy
open Go.Fw.Lx (Tk)
variable [ae]
def RS(v:Str):List Str->Int->Int
 | [],_=>-1
 |x::r,i=>if v==x then i else RS v r (i+1)
theorem RU{v:Str}:∀(l:List Str) (i:Int),0<=i->decide (RS v l i>=0)=l.contains v
 | [],i,_=>rfl
 |x::r,i,h=>by
  have ih:=RU r (i+1) (v:=v) (by omega)
  rw[List.contains_cons,<-ih]
  cases e:v==x with
  |true=>simp[RS,e,h]
  |false=>simp[RS,e]
theorem VM{v:Str}{l:List Str}:decide (RS v l 0>=0)=l.contains v:=RU l 0 (Int.le_refl 0)
theorem VN{W:TypeId}{e:Int}{l:List Tk}(h:decide (((l.map Tk.cs).length:Int)>0)=true):D.iface W (.agg [.val (.int .i64 (hd l).pos)])=kP W e l:=by
 cases l with
 |nil=>simp at h
 |cons t r=>rfl
theorem RV{W:TypeId}{e:Int}{l:List Tk}(h:decide (((l.map Tk.cs).length:Int)>0)=false):D.iface W (.agg [.val (.int .i64 e)])=kP W e l:=by
 cases l with
 |nil=>rfl
 |cons t r=>simp at h;try omega
theorem lQ{c:Bool}{p q:Prop}(h:c=false)(hq:q):BrI c p q:=by subst h;exact BrI.ff hq
theorem kX{c:Bool}{p q:Prop}(h:c=true)(hp:p):BrI c p q:=by subst h;exact BrI.tt hp
theorem iO(T:Tbl)(A:FuncId->List D->qK->Prop)(B:FuncId->List AV->Heap->gy->Heap->Prop){kp:Nat}{Q:List Rec->Prop}{l:List Oper}{ms:List Nat}{tr:List Rec}{env:Env}{K:Heap}(bs:List Bool)(_:l.length=bs.length)(h:(ms.map λm=>m.testBit kp)=bs)(h2:xg T A B Q l bs tr env K):MX (jL T A B kp Q l ms tr env K):=
 rest_step T A B bs h h2
theorem quiet_step{T:Tbl}{N:List Nat}{kp i:Nat}{tr:List Rec}{q:Prop}(h:iU T N kp i tr=true)(h2:q):iU T N kp i tr=true/\q:=⟨h,h2⟩
theorem zao(x:Ex):AV.data (.sl 5 [x.cs])=AV.data (.sl 5 (Ex.css [x])):=by rw[Ex.css_cons];rfl
theorem zac(x y:Ex):AV.data (.sl 5 [x.cs,y.cs])=AV.data (.sl 5 (Ex.css [x,y])):=by rw[Ex.css_cons,Ex.css_cons];rfl
theorem qh{p r:Prop}{q:Prop}(h1:p)(h2:r)(h:q):p/\r/\q:=⟨h1,h2,h⟩
structure AI(u:PM Ex)(k:Int)(s:Str)(R:Option Ex×List Tk)(m i j:Nat)(xs:List Ex)(l:List Tk):Prop where
 eq:bnd (xy u j i xs l) (λxs l=>bnd (aF sKet l) λ_ l=>(some (.mk k s 0 0 xs),l))=R
 le:i+j=m
 len:xs.length=i
section
variable {u : PM Ex} {k : Int} {s : Str} {o : Option Ex} {l l' l1 l2 : List Tk} {m i j : Nat} {xs : List Ex} {x : Ex}
theorem Og(hI:AI u k s (o,l') m i j xs l1)(h:decide ((i:Int)<(m:Int))=true):∃j',j=j'+1:=by
 have h:=of_decide_eq_true h
 have:=hI.le
 exact⟨j-1,by omega⟩
theorem XR(hI:AI u k s (o,l') m i j xs l1)(h:decide ((i:Int)<(m:Int))=true)(h0:decide ((i:Int)>0)=true)(hW:isT sComma l1=true)(hx:jd u (l1.drop 1)=(some x,l2)):AI u k s (o,l') m (i+1) (j-1) (xs++[x]) l2:=by
 obtain⟨j',rfl⟩:=Og hI h
 have h0:=of_decide_eq_true h0
 refine⟨?_,by have:=hI.le;omega,by have:=hI.len;simp;omega⟩
 have h1:=hI.eq
 have h0:0<i:=by omega
 simp only[xy,h0,bnd,aF,hW,if_true,hx]at h1
 exact h1
theorem XT(hI:AI u k s (o,l') m i j xs l1)(h:decide ((i:Int)<(m:Int))=true)(h0:decide ((i:Int)>0)=false)(hx:jd u l1=(some x,l2)):AI u k s (o,l') m (i+1) (j-1) (xs++[x]) l2:=by
 obtain⟨j',rfl⟩:=Og hI h
 have h0:=of_decide_eq_false h0
 refine⟨?_,by have:=hI.le;omega,by have:=hI.len;simp;omega⟩
 have h1:=hI.eq
 have h0:¬0<i:=by omega
 simp only[xy,h0,if_false,bnd,hx]at h1
 exact h1
theorem XU(hI:AI u k s (o,l') m i j xs l1)(h:decide ((i:Int)<(m:Int))=true)(h0:decide ((i:Int)>0)=true)(hW:isT sComma l1=false):o=none/\l'=l1:=by
 obtain⟨j',rfl⟩:=Og hI h
 have h0:=of_decide_eq_true h0
 have h1:=hI.eq
 have h0:0<i:=by omega
 simp only[xy,h0,bnd,aF,hW,if_false,Bool.false_eq_true]at h1
 exact wJ h1
theorem XV(hI:AI u k s (o,l') m i j xs l1)(h:decide ((i:Int)<(m:Int))=true)(h0:decide ((i:Int)>0)=true)(hW:isT sComma l1=true)(hx:jd u (l1.drop 1)=(none,l2)):o=none/\l'=l2:=by
 obtain⟨j',rfl⟩:=Og hI h
 have h0:=of_decide_eq_true h0
 have h1:=hI.eq
 have h0:0<i:=by omega
 simp only[xy,h0,bnd,aF,hW,if_true,hx]at h1
 exact wJ h1
theorem XW(hI:AI u k s (o,l') m i j xs l1)(h:decide ((i:Int)<(m:Int))=true)(h0:decide ((i:Int)>0)=false)(hx:jd u l1=(none,l2)):o=none/\l'=l2:=by
 obtain⟨j',rfl⟩:=Og hI h
 have h0:=of_decide_eq_false h0
 have h1:=hI.eq
 have h0:¬0<i:=by omega
 simp only[xy,h0,if_false,bnd,hx]at h1
 exact wJ h1
theorem XX(hI:AI u k s (o,l') m i j xs l1)(h:decide ((i:Int)<(m:Int))=false)(hW:isT sKet l1=true):o=some (.mk k s 0 0 xs)/\l'=l1.drop 1:=by
 have h:=of_decide_eq_false h
 have:j=0:=by have:=hI.le;omega
 subst this
 have h1:=hI.eq
 simp only[xy,bnd,aF,hW,if_true]at h1
 exact wJ h1
theorem XY(hI:AI u k s (o,l') m i j xs l1)(h:decide ((i:Int)<(m:Int))=false)(hW:isT sKet l1=false):o=none/\l'=l1:=by
 have h:=of_decide_eq_false h
 have:j=0:=by have:=hI.le;omega
 subst this
 have h1:=hI.eq
 simp only[xy,bnd,aF,hW,if_false,Bool.false_eq_true]at h1
 exact wJ h1
theorem Lc(hI:AI u k s (o,l') m i j xs l1)(h:decide ((i:Int)<(m:Int))=true):j-1<j:=by
 obtain⟨j',rfl⟩:=Og hI h;omega
theorem Zv(hM:iR u k m false l=(o,l'))(hW:isT sPar l=true):AI u k [] (o,l') m 0 m [] (l.drop 1):=
 ⟨by rw[iR]at hM;simp only[bnd,aF,hW,if_true,Bool.false_eq_true,if_false]at hM;exact hM,by omega,rfl⟩
theorem Zw(hM:iR u k m true l=(o,l'))(hW:isT sPar l=true)(hn:nameM (l.drop 1)=(some s,l1))(hC:isT sComma l1=true):AI u k s (o,l') m 0 m [] (l1.drop 1):=
 ⟨by rw[iR]at hM;simp only[bnd,aF,hW,if_true,hn,hC]at hM;exact hM,by omega,rfl⟩
theorem RX{b:Bool}(hM:iR u k m b l=(o,l'))(hW:isT sPar l=false):o=none/\l'=l:=by
 rw[iR]at hM;simp only[bnd,aF,hW,if_false,Bool.false_eq_true]at hM;exact wJ hM
theorem Zx(hM:iR u k m true l=(o,l'))(hW:isT sPar l=true)(hn:nameM (l.drop 1)=(none,l1)):o=none/\l'=l1:=by
 rw[iR]at hM;simp only[bnd,aF,hW,if_true,hn]at hM;exact wJ hM
theorem Zy(hM:iR u k m true l=(o,l'))(hW:isT sPar l=true)(hn:nameM (l.drop 1)=(some s,l1))(hC:isT sComma l1=false):o=none/\l'=l1:=by
 rw[iR]at hM;simp only[bnd,aF,hW,if_true,hn,hC,if_false,Bool.false_eq_true]at hM;exact wJ hM
end
abbrev Ux(f:Str×Int×Int×Bool):D×D:=(.str f.1,.agg [.i f.2.1,.i f.2.2.1,.b f.2.2.2])
theorem Ld{t:Str}{F:D->Prop}{G:Prop}:∀(fs:List (Str×Int×Int×Bool)),(∀f,look t fs=some f->F (.agg [.i f.1,.i f.2.1,.b f.2.2]))->(look t fs=none->G)->Hz (EM (.str t) (fs.map Ux)) F G
 | [],_,h2=>h2 rfl
 |(w,f)::r,h1,h2=>by
  simp only[List.map_cons,EM,gV,sameS,look]at h1 h2 ⊢
  cases h:t==w with
  |true=>
   simp only[h,if_true]at h1
   exact h1 f rfl
  |false=>
   simp only[h,Bool.false_eq_true,if_false]at h1 h2
   exact Ld r h1 h2
theorem XZ{t:Str}{f:Int×Int×Bool}(h:look t kW=some f):0<=f.2.1/\f.2.1<=2:=by
 have:∀fs:List (Str×Int×Int×Bool),(∀x∈fs,0<=x.2.2.1/\x.2.2.1<=2)->look t fs=some f->0<=f.2.1/\f.2.1<=2:=by
  intro fs
  induction fs with
  |nil=>intro _ h;cases h
  |cons x r ih=>
   intro ha h
   simp only[look]at h
   split at h
   ·cases h;exact ha x (by simp)
   ·exact ih (λy hy=>ha y (by simp[hy])) h
 exact this kW (by decide) h
theorem Gs{d:Int}(h0:0<=d)(h1:d<=63):IntKind.i64.wrap (IntKind.i64.wrap (d+1)-1)=d:=by
 rw[gW (n:=d+1) (by omega) (by omega),gW (by omega) (by omega)];omega
theorem Zz{d:Int}(h0:0<=d)(h1:d<=63):IntKind.i64.wrap (d+1)=d+1:=gW (by omega) (by omega)
theorem RY{u:PM Ex}{k:Int}{s:Str}{R:Option Ex×List Tk}{m i j:Nat}{xs:List Ex}{l:List Tk}(hI:AI u k s R m i j xs l)(hm:m<=2):(xs.map Ex.cs).length<=1073741824:=by
 rw[List.length_map];have:=hI.le;have:=hI.len;omega
theorem Si{k:Int}{s:Str}{xs:List Ex}:D.agg [.val (.int .i64 k),.str s,.val (.int .i64 0),.val (.int .i64 0),.sl 5 (xs.map Ex.cs)]=Ex.d (.mk k s 0 0 xs):=by
 rw[<-Ex.css_eq];rfl
theorem VO{k:Int}{a b c d:Ex}:D.agg [.val (.int .i64 k),.str [],.val (.int .i64 0),.val (.int .i64 0),.sl 5 [a.cs,b.cs,c.cs,d.cs]]=Ex.d (.mk k [] 0 0 [a,b,c,d]):=by
 show _=D.agg [.i k,.str [],.i 0,.i 0,.sl 5 (Ex.css [a,b,c,d])]
 simp only[Ex.css_cons];rfl
theorem VP{k n:Int}{a:Ex}:D.agg [.val (.int .i64 k),.str [],.val (.int .i64 0),.val (.int .i64 n),.sl 5 [a.cs]]=Ex.d (.mk k [] 0 n [a]):=by
 show _=D.agg [.i k,.str [],.i 0,.i n,.sl 5 (Ex.css [a])]
 simp only[Ex.css_cons];rfl
theorem X0{i m:Nat}(h:decide ((i:Int)<(m:Int))=true)(hm:m<=2):i<=9223372036854775806:=by have:=of_decide_eq_true h;omega
theorem D7{n:Nat}(h:n<=9223372036854775806):AV.data (.val (.int .i64 (IntKind.i64.wrap ((n:Int)+1))))=AV.data (.val (.int .i64 ((n+1:Nat):Int))):=KN h
end Go.Fw.Sy
namespace Go.Fw.Sy
open Go.Fw.Lx (Tk)
variable [ae] {Df : FuncId → List AV → Option D → Bool → Heap → Heap → Prop}
theorem emp_len'{l:List Tk}(h:(((l.map Tk.cs).length:Int)==0)=false):0<l.length:=by
 cases l with
 |nil=>simp at h
 |cons t r=>simp
theorem I5{Df:FuncId->List AV->Option D->Bool->Heap->Heap->Prop}{f:FuncId}{az:List AV}{env:Env}{K:Heap}{next:Heap->Prop}
  (h:∃(as0:List AV) (K0:Heap) (K1:Heap) (ρ:List (Nat×Nat)),Df f as0 none false K0 K1/\AV.ren.go ρ as0=az/\Heap.sub ρ K K0/\bD ρ K0 K1 .top env K (reach K 1000 (AV.ids.go az) [])=true/\next (jP ρ K1 K)) :
  ∃(as0:List AV) (K0:Heap) (K1:Heap) (ρ:List (Nat×Nat)),Df f as0 none false K0 K1/\AV.ren.go ρ as0=az/\Heap.sub ρ K K0/\bD ρ K0 K1 .top env K (reach K 1000 (AV.ids.go az) [])=true/\next (jP ρ K1 K):=h
theorem ZA{d:Int}(h:d=63):¬(decide (IntKind.i64.wrap (d+1)>=64)=false):=by subst h;decide
theorem VQ{d:Int}(h0:0<=d)(h:d<63):¬(decide (IntKind.i64.wrap (d+1)>=64)=true):=by
 simp only[decide_eq_true_eq]
 rw[gW (by omega) (by omega)];omega
theorem Lh{uo:Option (PM Ex)}{o:Option Ex}{l l':List Tk}(hM:unitB uo l=(o,l'))(h:(((l.map Tk.cs).length:Int)==0)=true):o=none/\l'=l:=by
 have hl:l = []:=by cases l with
  |nil=>rfl
  |cons t r=>simp at h;omega
 subst hl
 cases uo with
 |none=>exact wJ hM
 |some u=>exact wJ hM
theorem Lj{α:Type}{T:Tbl}{f:FuncId}{az:List AV}{d:D}{rs:List ResultVar}{K0:Heap}{env:Env}{K K1:Heap}{W:TypeId}{g:α->D}{e:Int}{o:Option α}{l:List Tk}(h:Ht T Df f az d rs K0 env K K1 (jT W g e o l)):Ht T Df f az d rs K0 env K K1 (jT W g e o l):=h
end Go.Fw.Sy
namespace Go.Fw.Sy
open Go.Fw.Lx (Tk)
variable [ae]
abbrev xB(p:Pr):Block:=.cells [.data (.str p.name),.data (.i p.latency),.data (.i p.tail),.gs 1000002 3 (p.params.map Bd.cs),.gs 1000003 3 (p.states.map Bd.cs),.gs 1000004 4 (p.lines.map Ln.cs),.gs 1000005 2 (p.tables.map Tb.cs),.gs 1000006 8 (p.stmts.map Sm.cs)]
def Gt(W:TypeId)(e:Int)(ok:Bool)(l:List Tk):gy:=match ok with
 |true=>.ret (.data (.tuple []))
 |false=>.pan (.data (kP W e l))
structure Sz(p:Pr)(l:List Tk):Prop where
 a:p.params.length+l.length<=1073741823
 b:p.states.length+l.length<=1073741823
 c:p.lines.length+l.length<=1073741823
 d:p.tables.length+l.length<=1073741823
 e:p.stmts.length+l.length<=1073741823
theorem Sz.le{p:Pr}{l l':List Tk}(h:Sz p l)(hl:l'.length<=l.length):Sz p l':=⟨by have:=h.a;omega,by have:=h.b;omega,by have:=h.c;omega,by have:=h.d;omega,by have:=h.e;omega⟩
theorem sV{T:Tbl}{rs:List ResultVar}{K0 K K1:Heap}{env:Env}{q:Prop}{W:TypeId}{e:Int}{ok:Bool}{l:List Tk}(h:finR T rs K0 (Gt W e ok l) K1 env K):finR T rs K0 (Gt W e ok l) K1 env K\/q:=.inl h
theorem kQ{T:Tbl}{rs:List ResultVar}{K0 K K1:Heap}{env:Env}{W:TypeId}{e:Int}{l:List Tk}(h:finR T rs K0 (.ret (.data (.tuple []))) K1 env K):finR T rs K0 (Gt W e true l) K1 env K:=h
theorem wM{K0 K K1:Heap}{x:AV}{W:TypeId}{e:Int}{ok:Bool}{l:List Tk}(h:Hq K0 K x K1 (Gt W e ok l)):Hq K0 K x K1 (Gt W e ok l):=h
theorem lZ{K0 K K1:Heap}{x:AV}{W:TypeId}{e:Int}{l:List Tk}(h:fin K0 K x (.data (kP W e l)) K1):Hq K0 K x K1 (Gt W e false l):=by
 unfold Hq;exact h
theorem jF{ok ok':Bool}{p p':Pr}{l l':List Tk}(h:(ok,p,l)=(ok',p',l')):ok'=ok/\p'=p/\l'=l:=by cases h;exact⟨rfl,rfl,rfl⟩
theorem uS{B:B'}{L:List Nat}{az:List AV}{env:Env}{K:Heap}{next pan:Next}(f:FuncId)(r:Bool×Pr×List Tk)
  (h:∀p l,(r=(true,p,l)->∃(as0:List AV) (K0:Heap) (out:gy) (K1:Heap) (ρ:List (Nat×Nat)),B f as0 K0 out K1/\AV.ren.go ρ as0=az/\Heap.sub ρ K K0/\bD ρ K0 K1 out.av env K L=true/\outGo ρ K1 K next pan out) /\
   (r=(false,p,l)->∃(as0:List AV) (K0:Heap) (out:gy) (K1:Heap) (ρ:List (Nat×Nat)),B f as0 K0 out K1/\AV.ren.go ρ as0=az/\Heap.sub ρ K K0/\bD ρ K0 K1 out.av env K L=true/\outGo ρ K1 K next pan out)) :
  ∃(as0:List AV) (K0:Heap) (out:gy) (K1:Heap) (ρ:List (Nat×Nat)),B f as0 K0 out K1/\AV.ren.go ρ as0=az/\Heap.sub ρ K K0/\bD ρ K0 K1 out.av env K L=true/\outGo ρ K1 K next pan out:=by
 obtain⟨ok,p,l⟩:=r
 cases ok with
 |true=>exact(h p l).1 rfl
 |false=>exact(h p l).2 rfl
theorem zad{t a b c d:Str}{fa fb fc fd:D}{F:D->Prop}{G:Prop}(h1:(t==a)=true->F fa)(h2:(t==a)=false->(t==b)=true->F fb)(h3:(t==a)=false->(t==b)=false->(t==c)=true->F fc)
  (h4:(t==a)=false->(t==b)=false->(t==c)=false->(t==d)=true->F fd) (h5:(t==a)=false->(t==b)=false->(t==c)=false->(t==d)=false->G) :
  Hz (EM (.str t) [(.str a,fa),(.str b,fb),(.str c,fc),(.str d,fd)]) F G:=by
 simp only[EM,gV,sameS]
 cases ha:t==a with
 |true=>exact h1 ha
 |false=>
  cases hb:t==b with
  |true=>exact h2 ha hb
  |false=>
   cases hc:t==c with
   |true=>exact h3 ha hb hc
   |false=>
    cases hd:t==d with
    |true=>exact h4 ha hb hc hd
    |false=>exact h5 ha hb hc hd
theorem kR{α:Type}{l:List α}{f:α->List D}{x:α}{ys:List (List D)}(h:ys = [f x]):l.map f++ys=(l++[x]).map f:=by subst h;simp
theorem z4m{α:Type}{B:B'}{L:List Nat}{f:FuncId}{az:List AV}{env:Env}{K:Heap}{next pan:Next}{M:PM α}{g:α->D}{W:TypeId}{e d:Int}{ds:List AV}(hr:∀ρ,AV.ren.go ρ ds=ds)(P:List Tk->Prop)
  (H:∀l o l',P l->M l=(o,l')->B f (.ptr 1000000 0::ds) [(1000000,pB l e d)] (jT W g e o l') [(1000000,pB l' e d)])
  (hk:∃X l,az = .ptr X 0::ds/\K.get X=some (pB l e d)/\allIn L [X]=true/\P l/\(∀x l',M l=(some x,l')->next (.data (g x)) (K.put X (pB l' e d))) /\
   (∀l',M l=(none,l')->pan (.data (kP W e l')) (K.put X (pB l' e d)))) :
  ∃(as0:List AV) (K0:Heap) (out:gy) (K1:Heap) (ρ:List (Nat×Nat)),B f as0 K0 out K1/\AV.ren.go ρ as0=az/\Heap.sub ρ K K0/\bD ρ K0 K1 out.av env K L=true /\
  outGo ρ K1 K next pan out:=by
 obtain⟨X,l,has,hK,hL,hP,h1,h2⟩:=hk
 rcases hM:M l with⟨o,l'⟩
 refine⟨_,_,_,_,[(1000000,X)],H l o l' hP hM,?_,⟨hK,trivial⟩,?_,?_⟩
 ·rw[has]
  show AV.ren _ _::AV.ren.go _ ds=_
  rw[hr];rfl
 ·simp only[bD,uQ,keys,aJ,rn,Nat.beq_refl]
  rw[hL]
  rfl
 ·cases o with
  |some x=>exact h1 x l' hM
  |none=>exact h2 l' hM
theorem z4n(f:FuncId)(ρ:List (Nat×Nat)):AV.ren.go ρ [.fn f []] = [.fn f []]:=rfl
structure LsI(R:Option (List Int)×List Tk)(n:Nat)(vs:List Int)(l:List Tk):Prop where
 eq:listL n vs l=R
 le:l.length<=n
 sz:vs.length+l.length<=1073741824
theorem X3{n:Nat}{vs:List Int}{l:List Tk}(hn:l.length<=n)(hT:isT sComma l=true):listL n vs l=bnd (intM (l.drop 1)) λv l=>listL (n-1) (vs++[v]) l:=by
 obtain⟨m,rfl,-⟩:=nD (kN hT) hn
 show listL (m+1) vs l=_
 rw[Nat.add_sub_cancel];conv=>{ lhs;unfold listL }
 rw[if_pos hT]
theorem z4o{n:Nat}{vs:List Int}{l:List Tk}(hT:isT sComma l=false):listL n vs l=(some vs,l):=by
 cases n with
 |zero=>rfl
 |succ n=>unfold listL;rw[hT,if_neg (by simp)]
section
variable {o : Option (List Int)} {l l' l1 l2 : List Tk} {n : Nat} {vs : List Int} {v : Int}
theorem ZB(hM:zM l=(o,l'))(h:intM l=(none,l2)):o=none/\l'=l2:=by unfold zM at hM;rw[h]at hM;exact wJ hM
theorem z4p(hl:l.length<=1073741823)(hM:zM l=(o,l'))(h:intM l=(some v,l2)):LsI (o,l') l2.length [v] l2:=by
 have:=zO _ _ _ h
 unfold zM at hM;rw[h]at hM;exact⟨hM,Nat.le_refl _,by simp;omega⟩
theorem z4q(hI:LsI (o,l') n vs l1)(h0:isT sComma l1=false):o=some vs/\l'=l1:=by have h:=hI.eq;rw[z4o h0]at h;exact wJ h
theorem ZC(hI:LsI (o,l') n vs l1)(hT:isT sComma l1=true)(h:intM (l1.drop 1)=(none,l2)):o=none/\l'=l2:=by have h1:=hI.eq;rw[X3 hI.le hT,h]at h1;exact wJ h1
theorem z4r(hI:LsI (o,l') n vs l1)(hT:isT sComma l1=true)(h:intM (l1.drop 1)=(some v,l2)):LsI (o,l') (n-1) (vs++[v]) l2:=by
 have h1:=hI.eq;rw[X3 hI.le hT,h]at h1;have h2:=zO _ _ _ h;have h3:=hI.sz;have h4:=nG hT;simp only[List.length_drop]at h2;exact⟨h1,zT zO hI.le (kN hT) h,by simp only[List.length_append,List.length_cons,List.length_nil];omega⟩
theorem VR{R:Option (List Int)×List Tk}(hI:LsI R n vs l1):(vs.map Uw).length<=1073741824:=by have:=hI.sz;rw[List.length_map];omega
theorem ZE(hI:LsI (o,l') n vs l1)(hT:isT sComma l1=true):n-1<n:=LI.mu hI.le (kN hT)
end
theorem Ll{l:List Tk}(h:decide (((l.map Tk.cs).length:Int)>0)=true):0<l.length:=by
 cases l with
 |nil=>simp at h
 |cons t r=>simp
def ISz(p:Pr)(l:List Tk)(p':Pr)(l':List Tk):Prop:=l'.length<=l.length/\p'.params.length<=p.params.length+1/\p'.states.length<=p.states.length+1/\p'.lines.length<=p.lines.length+1/\p'.tables.length<=p.tables.length+1/\p'.stmts.length<=p.stmts.length+1
theorem rJ{α:Type}{p:Pr}{r:Option α×List Tk}{f:α->List Tk->Bool×Pr×List Tk}{p':Pr}{l l':List Tk}(h:itB p r f=(true,p',l'))(hr:Le l.length r)(hf:∀x m,m.length<=l.length->f x m=(true,p',l')->ISz p l p' l'):ISz p l p' l':=by
 obtain⟨o,m⟩:=r
 cases o with
 |none=>cases h
 |some x=>exact hf x m hr h
theorem Gu:Sh kM:=.of λl=>(nz.le l).bnd λ_ _ h=>((zO.le _).mono h).bnd λ_ _ h=>((nz.le _).mono h).bnd λ_ _ h=>((zO.le _).mono h).bnd λ_ _ h=>h
theorem Lm:Sh oV:=.of λl=>(nC.le l).bnd λ_ _ h=>((Gu.le _).mono h).bnd λ_ _ h=>h
theorem Lp:∀(n:Nat) (vs:List Int) (l:List Tk) (m:Nat),l.length<=m->Le m (listL n vs l)
 | 0,_,_,_,h=>h
 |n+1,vs,l,m,h=>by
  unfold listL
  split
  ·exact((zO.le _).mono (ny h)).bnd λ_ _ h=>Lp n _ _ _ h
  ·exact h
theorem ZF:Sh zM:=.of λl=>(zO.le l).bnd λ_ _ h=>Lp _ _ _ _ h
theorem D8{p p':Pr}{l l':List Tk}(h:oW p l=(true,p',l')):ISz p l p' l':=rJ h (Lm.le l) λb m hm h=>by
 cases h;exact⟨hm,by simp,by simp,by simp,by simp,by simp⟩
theorem D9{p p':Pr}{l l':List Tk}(h:oZ p l=(true,p',l')):ISz p l p' l':=rJ h (Lm.le l) λb m hm h=>by
 cases h;exact⟨hm,by simp,by simp,by simp,by simp,by simp⟩
theorem I7{p p':Pr}{l l':List Tk}(h:zL p l=(true,p',l')):ISz p l p' l':=rJ h (nC.le l) λb m hm h=>rJ h ((uP.le _).mono hm) λn m hm h=>rJ h ((Gu.le _).mono hm) λb m hm h=>by
 cases h;exact⟨hm,by simp,by simp,by simp,by simp,by simp⟩
theorem Ea{p p':Pr}{l l':List Tk}(h:o7 p l=(true,p',l')):ISz p l p' l':=rJ h (nC.le l) λb m hm h=>rJ h ((nz.le _).mono hm) λn m hm h=>rJ h ((ZF.le _).mono hm) λb m hm h=>by
 cases h;exact⟨hm,by simp,by simp,by simp,by simp,by simp⟩
theorem wO{k:Int}{p p':Pr}{l l':List Tk}(h:jm k p l=(true,p',l')):ISz p l p' l':=rJ h (by
  split
  ·exact(nC.le l).bnd λ_ _ h=>((nz.le _).mono h).bnd λ_ _ h=>h
  ·exact Nat.le_refl _) λb m hm h=>rJ h (((IZ (zS 63)).le _).mono hm) λn m hm h=>by
 cases h;exact⟨hm,by simp,by simp,by simp,by simp,by simp⟩
structure ItI(t:List (Str×IM))(R:Bool×Pr×List Tk)(n:Nat)(p:Pr)(l:List Tk):Prop where
 eq:dH t n p l=R
 le:l.length<=n
 sz:Sz p l
section
variable {t : List (Str × IM)} {ok : Bool} {p p' p1 : Pr} {l l' l1 l2 : List Tk} {n : Nat} {f : IM}
theorem ItI.start(hz:Sz p l)(hM:dU t p l=(ok,p',l')):ItI t (ok,p',l') l.length p l:=⟨hM,Nat.le_refl _,hz⟩
theorem ZG(hn:l1.length<=n)(hT:isT (hd l1).text l1=true)(hf:find (hd l1).text t=some f):dH t n p l1=match f p (l1.drop 1)with
  |(false,p,l)=>(false,p,l)
  |(true,p,l)=>itB p (aF sSemi l) λ_ l=>dH t (n-1) p l:=by
 obtain⟨m,rfl,-⟩:=nD (kN hT) hn
 rw[Nat.add_sub_cancel];conv=>{ lhs;unfold dH }
 have:l1.isEmpty=false:=by cases l1 with |nil=>exact absurd rfl (kN hT) |cons a r=>rfl
 simp only[this,Bool.false_eq_true,if_false,hf,hT,if_true]
 all_goals rfl
theorem z4s(hI:ItI t (ok,p',l') n p l1)(hT:isT (hd l1).text l1=true)(hf:find (hd l1).text t=some f)(hR:f p (l1.drop 1)=(false,p1,l2)):ok=false/\p'=p1/\l'=l2:=by
 have h:=hI.eq;rw[ZG hI.le hT hf,hR]at h;exact jF h
theorem z4t(hI:ItI t (ok,p',l') n p l1)(hT:isT (hd l1).text l1=true)(hf:find (hd l1).text t=some f)(hR:f p (l1.drop 1)=(true,p1,l2))(hW:isT sSemi l2=false):ok=false/\p'=p1/\l'=l2:=by
 have h:=hI.eq;rw[ZG hI.le hT hf,hR]at h
 simp only[aF,hW,Bool.false_eq_true,if_false,itB]at h
 exact jF h
theorem zae(hI:ItI t (ok,p',l') n p l1)(hT:isT (hd l1).text l1=true)(hf:find (hd l1).text t=some f)(hR:f p (l1.drop 1)=(true,p1,l2))(hz:ISz p (l1.drop 1) p1 l2)(hW:isT sSemi l2=true):ItI t (ok,p',l') (n-1) p1 (l2.drop 1):=by
 have h:=hI.eq;rw[ZG hI.le hT hf,hR]at h
 simp only[aF,hW,if_true,itB]at h
 have h1:=nG hT
 have h2:=nG hW
 obtain⟨z1,z2,z3,z4,z5,z6⟩:=hz
 simp only[List.length_drop]at z1
 have hs:=hI.sz
 have:=hs.a;have:=hs.b;have:=hs.c;have:=hs.d;have:=hs.e
 have:=hI.le
 refine⟨h,by simp only[List.length_drop];omega,⟨?_,?_,?_,?_,?_⟩⟩<;>simp only[List.length_drop]<;>omega
theorem z4u(hI:ItI t (ok,p',l') n p l1)(hT:isT (hd l1).text l1=true):n-1<n:=LI.mu hI.le (kN hT)
theorem z4v(hI:ItI t (ok,p',l') n p l1)(h:decide (((l1.map Tk.cs).length:Int)>0)=false):ok=true/\p'=p/\l'=l1:=by
 have hl:l1 = []:=by cases l1 with
  |nil=>rfl
  |cons a r=>simp at h
 subst hl
 have h:=hI.eq
 cases n<;>exact jF h
theorem z4w(hI:ItI t (ok,p',l') n p l1)(hf:find (hd l1).text t=none):ok=true/\p'=p/\l'=l1:=by
 have h:=hI.eq
 cases n with
 |zero=>exact jF h
 |succ n=>
  unfold dH at h
  simp only[hf]at h
  split at h<;>exact jF h
theorem z4x(hI:ItI t (ok,p',l') n p l1)(hT:isT (hd l1).text l1=false):ok=true/\p'=p/\l'=l1:=by
 have h:=hI.eq
 cases n with
 |zero=>exact jF h
 |succ n=>
  unfold dH at h
  simp only[hT,Bool.false_eq_true,if_false]at h
  split at h
  ·exact jF h
  ·split at h<;>exact jF h
end
abbrev p0(s:Str)(a t:Int):Pr:=⟨s,a,t,[],[],[],[],[]⟩
def uT(s:Str)(a t:Int):PM Pr:=λl=>match dU decls (p0 s a t) l with
 |(false,_,l)=>(none,l)
 |(true,p,l)=>match dU stmts p l with
  |(false,_,l)=>(none,l)
  |(true,p,l)=>bnd (aF sEnd l) λ_ l=>(some p,l)
theorem uU(l:List Tk):lN l=bnd (aF wProcessor l) λ_ l=>bnd (nameM l) λs l=>bnd (aF dG l) λ_ l=>bnd (numM l) λa l=>
 bnd (aF wTail l) λ_ l=>bnd (if dJ l then numM l else bnd (aF di l) λ_ l=>(some (-1),l)) λt l=>bnd (aF sBra l) λ_ l=>uT s a t l:=rfl
section
variable {o : Option Pr} {l l' l1 l2 l3 : List Tk} {s : Str} {a t : Int} {p1 p2 : Pr}
theorem ZH(hM:lN l=(o,l'))(h0:isT wProcessor l=true)(h1:nameM (l.drop 1)=(some s,l1))(h2:isT dG l1=true)(h3:numM (l1.drop 1)=(some a,l2))(h4:isT wTail l2=true)(h5:dJ (l2.drop 1)=true)
  (h6:isT sBra ((l2.drop 1).drop 1)=true):uT s a (hd (l2.drop 1)).n (((l2.drop 1).drop 1).drop 1)=(o,l')/\(((l2.drop 1).drop 1).drop 1).length<=l.length:=by
 refine⟨?_,?_⟩
 ·rw[uU]at hM
  have e5:numM (l2.drop 1)=(some (hd (l2.drop 1)).n,(l2.drop 1).drop 1):=by unfold numM;rw[if_pos h5]
  simp only[aF,h0,if_true,bnd,h1,h2,h3,h4,h5,e5,h6]at hM
  exact hM
 ·have:=nC _ _ _ h1;have:=uP _ _ _ h3;simp only[List.length_drop]at *;omega
theorem ZI(hM:lN l=(o,l'))(h0:isT wProcessor l=true)(h1:nameM (l.drop 1)=(some s,l1))(h2:isT dG l1=true)(h3:numM (l1.drop 1)=(some a,l2))(h4:isT wTail l2=true)(h5:dJ (l2.drop 1)=true)
  (h6:isT sBra ((l2.drop 1).drop 1)=false):o=none/\l'=(l2.drop 1).drop 1:=by
 rw[uU]at hM
 have e5:numM (l2.drop 1)=(some (hd (l2.drop 1)).n,(l2.drop 1).drop 1):=by unfold numM;rw[if_pos h5]
 simp only[aF,h0,if_true,bnd,h1,h2,h3,h4,h5,e5,h6,Bool.false_eq_true,if_false]at hM
 exact wJ hM
theorem ZJ(hM:lN l=(o,l'))(h0:isT wProcessor l=true)(h1:nameM (l.drop 1)=(some s,l1))(h2:isT dG l1=true)(h3:numM (l1.drop 1)=(some a,l2))(h4:isT wTail l2=true)(h5:dJ (l2.drop 1)=false)(h7:isT di (l2.drop 1)=true)
  (h6:isT sBra ((l2.drop 1).drop 1)=true):uT s a (-1) (((l2.drop 1).drop 1).drop 1)=(o,l')/\(((l2.drop 1).drop 1).drop 1).length<=l.length:=by
 refine⟨?_,?_⟩
 ·rw[uU]at hM
  simp only[aF,h0,if_true,bnd,h1,h2,h3,h4,h5,h7,h6,Bool.false_eq_true,if_false]at hM
  exact hM
 ·have:=nC _ _ _ h1;have:=uP _ _ _ h3;simp only[List.length_drop]at *;omega
theorem ZK(hI:uT s a t l=(o,l'))(h:dU decls (p0 s a t) l=(false,p1,l1)):o=none/\l'=l1:=by
 unfold uT at hI;rw[h]at hI;exact wJ hI
theorem ZL(hI:uT s a t l=(o,l'))(h:dU decls (p0 s a t) l=(true,p1,l1))(h2:dU stmts p1 l1=(false,p2,l2)):o=none/\l'=l2:=by
 unfold uT at hI;rw[h]at hI;simp only[h2]at hI;exact wJ hI
theorem ZM(hI:uT s a t l=(o,l'))(h:dU decls (p0 s a t) l=(true,p1,l1))(h2:dU stmts p1 l1=(true,p2,l2))(hW:isT sEnd l2=false):o=none/\l'=l2:=by
 unfold uT at hI;rw[h]at hI;simp only[h2,aF,hW,Bool.false_eq_true,if_false,bnd]at hI;exact wJ hI
theorem z4y(hI:uT s a t l=(o,l'))(h:dU decls (p0 s a t) l=(true,p1,l1))(h2:dU stmts p1 l1=(true,p2,l2))(hW:isT sEnd l2=true):o=some p2/\l'=l2.drop 1:=by
 unfold uT at hI;rw[h]at hI;simp only[h2,aF,hW,if_true,bnd]at hI;exact wJ hI
end
theorem sz0{s:Str}{a t:Int}{l:List Tk}(h:l.length<=1073741823):Sz (p0 s a t) l:=⟨by simpa using h,by simpa using h,by simpa using h,by simpa using h,by simpa using h⟩
theorem Sj{t:List (Str×IM)}(ht:∀x∈t,∀p l p' l',x.2 p l=(true,p',l')->ISz p l p' l'){s:Str}{f:IM}(h:find s t=some f){p p':Pr}{l l':List Tk}(hf:f p l=(true,p',l')):ISz p l p' l':=by
 induction t with
 |nil=>cases h
 |cons x r ih=>
  simp only[find]at h
  split at h
  ·cases h;exact ht x (by simp) _ _ _ _ hf
  ·exact ih (λy hy=>ht y (by simp[hy])) h
theorem Lr:∀x∈decls,∀p l p' l',x.2 p l=(true,p',l')->ISz p l p' l':=by
 intro x hx p l p' l' h
 simp only[decls,List.mem_cons,List.not_mem_nil,or_false]at hx
 rcases hx with rfl |rfl |rfl |rfl
 ·exact D8 h
 ·exact D9 h
 ·exact I7 h
 ·exact Ea h
theorem VS:∀x∈stmts,∀p l p' l',x.2 p l=(true,p',l')->ISz p l p' l':=by
 intro x hx p l p' l' h
 simp only[stmts,List.mem_cons,List.not_mem_nil,or_false]at hx
 rcases hx with rfl |rfl |rfl |rfl
 ·exact wO (k:=1) h
 ·exact wO (k:=2) h
 ·exact wO (k:=3) h
 ·exact wO (k:=4) h
theorem Gv{t:List (Str×IM)}(ht:∀x∈t,∀p l p' l',x.2 p l=(true,p',l')->ISz p l p' l'):∀(n:Nat) (p:Pr) (l:List Tk) (p':Pr) (l':List Tk),dH t n p l=(true,p',l')->Sz p l->Sz p' l'/\l'.length<=l.length
 | 0,p,l,p',l',h,hz=>by cases h;exact⟨hz,Nat.le_refl _⟩
 |n+1,p,l,p',l',h,hz=>by
  unfold dH at h
  split at h
  ·cases h;exact⟨hz,Nat.le_refl _⟩
  ·split at h
   ·cases h;exact⟨hz,Nat.le_refl _⟩
   ·rename_i f hf
    split at h
    ·rename_i hT
     split at h
     ·cases h
     ·rename_i p1 l1 hR
      have hi:=Sj ht hf hR
      obtain⟨z1,z2,z3,z4,z5,z6⟩:=hi
      have hl:=nG hT
      simp only[List.length_drop]at z1
      by_cases hW:isT sSemi l1=true
      ·simp only[aF,hW,if_true,itB]at h
       have:=hz.a;have:=hz.b;have:=hz.c;have:=hz.d;have:=hz.e
       have:=nG hW
       have ih:=Gv ht n p1 (l1.drop 1) p' l' h ⟨by simp only[List.length_drop];omega,by simp only[List.length_drop];omega,by simp only[List.length_drop];omega,by simp only[List.length_drop];omega,by simp only[List.length_drop];omega⟩
       refine⟨ih.1,?_⟩
       have:=ih.2
       simp only[List.length_drop]at this
       omega
      ·simp only[aF,hW,if_false,itB]at h
       cases h
    ·cases h;exact⟨hz,Nat.le_refl _⟩
theorem Gw{p p':Pr}{l l':List Tk}(h:dU decls p l=(true,p',l'))(hz:Sz p l):Sz p' l':=(Gv Lr _ _ _ _ _ h hz).1
structure RdI(R:Option (List Pr)×List Tk)(n:Nat)(ps:List Pr)(l:List Tk):Prop where
 eq:readF n ps l=R
 le:l.length<=n
 sz:ps.length+l.length<=1073741823
theorem Eb{t:List (Str×IM)}(ht:∀x∈t,∀p l p' l',x.2 p l=(true,p',l')->ISz p l p' l'):∀(n:Nat) (p:Pr) (l:List Tk) (p':Pr) (l':List Tk),dH t n p l=(true,p',l')->l'.length<=l.length
 | 0,p,l,p',l',h=>by cases h;exact Nat.le_refl _
 |n+1,p,l,p',l',h=>by
  unfold dH at h
  split at h
  ·cases h;exact Nat.le_refl _
  ·split at h
   ·cases h;exact Nat.le_refl _
   ·rename_i f hf
    split at h
    ·rename_i hT
     split at h
     ·cases h
     ·rename_i p1 l1 hR
      have z1:=(Sj ht hf hR).1
      simp only[List.length_drop]at z1
      by_cases hW:isT sSemi l1=true
      ·simp only[aF,hW,if_true,itB]at h
       have ih:=Eb ht n p1 (l1.drop 1) p' l' h
       simp only[List.length_drop]at ih
       omega
      ·simp only[aF,hW,if_false,itB]at h
       cases h
    ·cases h;exact Nat.le_refl _
theorem ah{α β:Type}{r:Option α×List Tk}{f:α->PM β}{y:β}{m:List Tk}(h:bnd r f=(some y,m)):∃x l,r=(some x,l)/\f x l=(some y,m):=by
 obtain⟨o,l⟩:=r
 cases o with
 |none=>cases h
 |some x=>exact⟨x,l,rfl,h⟩
theorem pg{s:Str}{l m:List Tk}{y:Unit}(h:aF s l=(some y,m)):isT s l=true/\m=l.drop 1:=by
 unfold aF at h
 split at h
 ·rename_i hT;cases h;exact⟨hT,rfl⟩
 ·cases h
theorem VT{s:Str}{a t:Int}{l m:List Tk}{p:Pr}(h:uT s a t l=(some p,m)):m.length<=l.length:=by
 unfold uT at h
 split at h
 ·cases h
 ·rename_i p1 l1 h1
  split at h
  ·cases h
  ·rename_i p2 l2 h2
   obtain⟨x,l3,h3,h4⟩:=ah h
   obtain⟨-,rfl⟩:=pg h3
   cases h4
   have:=Eb Lr _ _ _ _ _ h1
   have:=Eb VS _ _ _ _ _ h2
   simp only[List.length_drop];omega
theorem Ec{l m:List Tk}{p:Pr}(h:lN l=(some p,m)):m.length<l.length:=by
 rw[uU]at h
 obtain⟨x,l1,h1,h⟩:=ah h
 obtain⟨hT,rfl⟩:=pg h1
 obtain⟨s,l2,h2,h⟩:=ah h
 obtain⟨x,l3,h3,h⟩:=ah h
 obtain⟨-,rfl⟩:=pg h3
 obtain⟨a,l4,h4,h⟩:=ah h
 obtain⟨x,l5,h5,h⟩:=ah h
 obtain⟨-,rfl⟩:=pg h5
 obtain⟨t,l6,h6,h⟩:=ah h
 obtain⟨x,l7,h7,h⟩:=ah h
 obtain⟨-,rfl⟩:=pg h7
 have e2:=nC _ _ _ h2
 have e4:=uP _ _ _ h4
 have e6:l6.length<=(l4.drop 1).length:=by
  split at h6
  ·exact uP _ _ _ h6
  ·obtain⟨x,l8,h8,h9⟩:=ah h6
   have:=nz _ _ _ h8
   cases h9;exact this
 have e8:=VT h
 have:=nG hT
 simp only[List.length_drop]at *
 omega
def readD(e:Int):Option (List Pr)×List Tk->D
 |(some ps,_)=>.tuple [.sl 8 (ps.map Pr.cs),.i 0,.i 0]
 |(none,l)=>.tuple [.sl 8 [],.i (at' e l),.i 140]
section
variable {l l1 l2 : List Tk} {n : Nat} {ps : List Pr} {p : Pr} {R : Option (List Pr) × List Tk}
theorem z4z(hl:l.length<=1073741823):RdI (readM l) l.length [] l:=⟨rfl,Nat.le_refl _,by simpa using hl⟩
theorem Sl(hn:l.length<=n)(h:decide (((l.map Tk.cs).length:Int)>0)=true):readF n ps l=bnd (lN l) λp l=>readF (n-1) (ps++[p]) l:=by
 have hp:=Ll h
 obtain⟨m,rfl⟩:∃m,n=m+1:=⟨n-1,by omega⟩
 rw[Nat.add_sub_cancel];conv=>{ lhs;unfold readF }
 have:l.isEmpty=false:=by cases l with |nil=>simp at hp |cons a r=>rfl
 simp only[this,Bool.false_eq_true,if_false]
theorem z5a(hI:RdI R n ps l)(h:decide (((l.map Tk.cs).length:Int)>0)=true)(hp:lN l=(none,l2)):R=(none,l2):=by
 have h1:=hI.eq;rw[Sl hI.le h,hp]at h1;exact h1.symm
theorem z5b(hI:RdI R n ps l)(h:decide (((l.map Tk.cs).length:Int)>0)=true)(hp:lN l=(some p,l2)):RdI R (n-1) (ps++[p]) l2:=by
 have h1:=hI.eq;rw[Sl hI.le h,hp]at h1
 have h2:=Ec hp;have h3:=hI.le;have h4:=hI.sz
 exact⟨h1,by omega,by simp;omega⟩
theorem ZN(hI:RdI R n ps l)(h:decide (((l.map Tk.cs).length:Int)>0)=true):n-1<n:=by
 have:=Ll h;have:=hI.le;omega
theorem z5c(hI:RdI R n ps l)(h:decide (((l.map Tk.cs).length:Int)>0)=false):R=(some ps,l):=by
 have hl:l = []:=by cases l with
  |nil=>rfl
  |cons a r=>simp at h
 subst hl
 have h:=hI.eq
 cases n<;>exact h.symm
theorem z8q(hI:RdI R n ps l):l.length<=1073741823:=by have:=hI.sz;omega
theorem VU(hI:RdI R n ps l):(ps.map Pr.cs).length<=1073741824:=by have:=hI.sz;rw[List.length_map];omega
end
theorem ZO(ρ:List (Nat×Nat)):AV.ren.go ρ [] = []:=rfl
theorem zV{T:Tbl}{Df:FuncId->List AV->Option D->Bool->Heap->Heap->Prop}{f:FuncId}{az:List AV}{d y:D}{rs:List ResultVar}{K0:Heap}{env:Env}{K K1:Heap}(h:UX Df f az (some d) false env K λK=>finR T rs K0 (.ret (.data y)) K1 env K):Ht T Df f az d rs K0 env K K1 (qK.ret y).toA:=Ht.ret h
abbrev wC(ts:List Tk):Block:=.cells [.gs 1000001 4 (ts.map Tk.cs)]
abbrev wT(ts:List Tk):Block:=.tok 4 (ts.map Tk.cs).length
theorem aZ{B:B'}{L:List Nat}{f:FuncId}{az:List AV}{env:Env}{K:Heap}{next pan:Next}{ds:List AV}(Δ:List Tk)(hr:∀ρ,AV.ren.go ρ ds=ds)
  (H:∀ts:List Tk,ts.length+Δ.length<=1073741823->B f (.ptr 1000000 0::ds) [(1000000,wC ts),(1000001,wT ts)] (.ret (.data (.tuple []))) [(1000000,wC (ts++Δ)),(1000001,wT (ts++Δ))])
  (hk:∃(X Y:Nat) (ts:List Tk),az = .ptr X 0::ds/\K.get X=some (.cells [.gs Y 4 (ts.map Tk.cs)])/\K.get Y=some (.tok 4 (ts.map Tk.cs).length)/\Nat.beq X Y=false/\allIn L [X,Y]=true/\ts.length+Δ.length<=1073741823 /\
   next (.data (.tuple [])) ((K.put Y (.tok 4 ((ts++Δ).map Tk.cs).length)).put X (.cells [.gs Y 4 ((ts++Δ).map Tk.cs)]))) :
  ∃(as0:List AV) (K0:Heap) (out:gy) (K1:Heap) (ρ:List (Nat×Nat)),B f as0 K0 out K1/\AV.ren.go ρ as0=az/\Heap.sub ρ K K0/\bD ρ K0 K1 out.av env K L=true /\
  outGo ρ K1 K next pan out:=by
 obtain⟨X,Y,ts,has,hK,hY,hXY,hL,hn,h1⟩:=hk
 refine⟨_,_,_,_,[(1000000,X),(1000001,Y)],H ts hn,?_,⟨hK,hY,trivial⟩,?_,h1⟩
 ·rw[has]
  show AV.ren _ _::AV.ren.go _ ds=_
  rw[hr];rfl
 ·have hn:jQ [X,Y]=true:=by
   simp only[jQ,kV,hXY];rfl
  show(jQ [X,Y]&&(_&&(allIn L [X,Y]&&(_&&_))))=true
  rw[hn,hL]
  rfl
theorem jG{B:B'}{L:List Nat}{f:FuncId}{az:List AV}{env:Env}{K:Heap}{next pan:Next}
  (H:∀(ss:List Str) (ts:List Tk),ts.length+ss.length<=1073741823->B f [.ptr 1000000 0,.gs 1000002 1 (ss.map ww)] [(1000000,wC ts),(1000001,wT ts),(1000002,.tok 1 (ss.map ww).length)] (.ret (.data (.tuple []))) [(1000000,wC (ts++ss.map wd)),(1000001,wT (ts++ss.map wd)),(1000002,.tok 1 (ss.map ww).length)])
  (hk:∃(ss:List Str) (X Y Z:Nat) (ts:List Tk),az = [.ptr X 0,.gs Z 1 (ss.map ww)]/\K.get X=some (.cells [.gs Y 4 (ts.map Tk.cs)])/\K.get Y=some (.tok 4 (ts.map Tk.cs).length)/\K.get Z=some (.tok 1 (ss.map ww).length)/\jQ [X,Y,Z]=true/\allIn L [X,Y,Z]=true/\ts.length+ss.length<=1073741823 /\
   next (.data (.tuple [])) (((K.put Z (.tok 1 (ss.map ww).length)).put Y (.tok 4 ((ts++ss.map wd).map Tk.cs).length)).put X (.cells [.gs Y 4 ((ts++ss.map wd).map Tk.cs)]))) :
  ∃(as0:List AV) (K0:Heap) (out:gy) (K1:Heap) (ρ:List (Nat×Nat)),B f as0 K0 out K1/\AV.ren.go ρ as0=az/\Heap.sub ρ K K0/\bD ρ K0 K1 out.av env K L=true /\
  outGo ρ K1 K next pan out:=by
 obtain⟨ss,X,Y,Z,ts,has,hK,hY,hZ,hXY,hL,hn,h1⟩:=hk
 refine⟨_,_,_,_,[(1000000,X),(1000001,Y),(1000002,Z)],H ss ts hn,has.symm,⟨hK,hY,hZ,trivial⟩,?_,h1⟩
 show(jQ [X,Y,Z]&&(_&&(allIn L [X,Y,Z]&&(_&&_))))=true
 rw[hXY,hL]
 rfl
theorem sZ(d:D)(n:D)(ρ:List (Nat×Nat)):AV.ren.go ρ [.data d,.data n] = [.data d,.data n]:=rfl
theorem Ed{n:Int}(h:decide (n<0)=true):[sg sMinus]++[nu (IntKind.i64.wrap (0-n))]=dQ n:=by
 have h:=of_decide_eq_true h
 unfold dQ;rw[if_pos h];rfl
theorem Ls{n:Int}(h:decide (n<0)=false):[nu n]=dQ n:=by
 have h:=of_decide_eq_false h
 unfold dQ;rw[if_neg h]
abbrev z5d(f:Int×Form):D×D:=(.i f.1,.agg [.sl 1 (f.2.1.map ww),.sl 1 (f.2.2.1.map Uw),.str f.2.2.2])
theorem Lt{k:Int}{F:D->Prop}{G:Prop}:∀(fs:List (Int×Form)),(∀f,gZ k fs=some f->F (.agg [.sl 1 (f.1.map ww),.sl 1 (f.2.1.map Uw),.str f.2.2]))->(gZ k fs=none->G)->Hz (EM (.i k) (fs.map z5d)) F G
 | [],_,h2=>h2 rfl
 |(w,f)::r,h1,h2=>by
  simp only[List.map_cons,EM,gV,sameS,gZ]at h1 h2 ⊢
  cases h:k==w with
  |true=>
   simp only[h,if_true]at h1
   exact h1 f rfl
  |false=>
   simp only[h,Bool.false_eq_true,if_false]at h1 h2
   exact Lt r h1 h2
end Go.Fw.Sy
namespace Go.Fw.Sy
open Go.Fw.Lx (Tk)
variable [ae] {ts : List Tk} {n : Int}
theorem z5e(h:decide (n<0)=true)(hn:ts.length+(dQ n).length<=1073741823):ts.length+[sg sMinus].length<=1073741823:=by
 rw[<-Ed h]at hn;simp at hn ⊢;omega
theorem z5f(h:decide (n<0)=true):((ts++[sg sMinus]).map Tk.cs)++[[D.val (.int .i64 2),D.str [],D.val (.int .i64 (IntKind.i64.wrap (0-n))),D.val (.int .i64 0)]]=(ts++dQ n).map Tk.cs:=by
 rw[<-Ed h];simp
theorem z5g(h:decide (n<0)=false):(ts.map Tk.cs)++[[D.val (.int .i64 2),D.str [],D.val (.int .i64 n),D.val (.int .i64 0)]]=(ts++dQ n).map Tk.cs:=by
 rw[<-Ls h];simp
theorem ZP(h:decide (n<0)=true)(hn:ts.length+(dQ n).length<=1073741823):((ts++[sg sMinus]).map Tk.cs).length<=1073741824:=by
 rw[<-Ed h]at hn;simp at hn ⊢;omega
theorem ZQ(h:decide (n<0)=false)(hn:ts.length+(dQ n).length<=1073741823):(ts.map Tk.cs).length<=1073741824:=by
 rw[<-Ls h]at hn;simp at hn ⊢;omega
end Go.Fw.Sy
namespace Go.Fw.Sy
open Go.Fw.Lx (Tk)
variable [ae]
def tlT(x:Ex)(f:Form):List Tk:=if f.2.2==[]then []else sg f.2.2::dQ x.n
theorem Oh{x:Ex}{f:Form}(h:dL x.kind=some f):aj x=opsT x.l f.1 f.2.1++tlT x f:=by
 cases x with
 |mk k nm i n l=>
  simp only[Ex.kind]at h
  rw[aj,h];rfl
theorem Lu:∀(l:List Ex) (lv:List Int),opsT l [] lv = []
 | [],_=>rfl
 |_::_,_=>rfl
structure FI(x:Ex)(f:Form)(R:List Tk)(i:Nat)(hs:List Str)(t:List Tk):Prop where
 eq:t++(opsT (x.l.drop i) hs (f.2.1.drop i)++tlT x f)=R
section
variable {x y : Ex} {f : Form} {R ts t1 H : List Tk} {i : Nat} {s : Str} {r : List Str} {v : Int}
theorem VV(hf:dL x.kind=some f):FI x f (ts++aj x) 0 f.1 ts:=⟨by rw[Oh hf];rfl⟩
theorem ZR(hy:x.l[i]? = some y)(hv:f.2.1[i]? = some v):opsT (x.l.drop i) (s::r) (f.2.1.drop i)=iT s++(aW y v++opsT (x.l.drop (i+1)) r (f.2.1.drop (i+1))):=by
 obtain⟨h1,rfl⟩:=List.getElem?_eq_some_iff.1 hy
 obtain⟨h2,rfl⟩:=List.getElem?_eq_some_iff.1 hv
 rw[List.drop_eq_getElem_cons h1,List.drop_eq_getElem_cons h2]
 rfl
theorem ZT(hy:¬i<x.l.length):opsT (x.l.drop i) (s::r) (f.2.1.drop i)=iT s++opsT (x.l.drop (i+1)) r (f.2.1.drop (i+1)):=by
 rw[List.drop_eq_nil_of_le (show x.l.length<=i by omega),List.drop_eq_nil_of_le (show x.l.length<=i+1 by omega)]
 simp only[opsT,List.flatMap_cons]
theorem z2e(hI:FI x f R i (s::r) t1)(hh:iT s=H)(hy:x.l[i]? = some y)(hv:f.2.1[i]? = some v):FI x f R (i+1) r (t1++H++aW y v):=by
 have h:=hI.eq
 rw[ZR hy hv,hh]at h
 exact⟨by rw[<-h];simp only[List.append_assoc]⟩
theorem z8r(hI:FI x f R i (s::r) t1)(hh:iT s = [])(hy:x.l[i]? = some y)(hv:f.2.1[i]? = some v):FI x f R (i+1) r (t1++aW y v):=by
 have:=z2e hI hh hy hv;simpa using this
theorem z5h(hI:FI x f R i (s::r) t1)(hh:iT s=H)(hi:decide ((i:Int)<((Ex.css x.l).length:Int))=false):FI x f R (i+1) r (t1++H):=by
 have hi:¬i<x.l.length:=by have:=of_decide_eq_false hi;rw[Ex.css_eq,List.length_map]at this;omega
 have h:=hI.eq
 rw[ZT hi,hh]at h
 exact⟨by rw[<-h];simp only[List.append_assoc]⟩
theorem z8s(hI:FI x f R i (s::r) t1)(hh:iT s = [])(hi:decide ((i:Int)<((Ex.css x.l).length:Int))=false):FI x f R (i+1) r t1:=by
 have:=z5h hI hh hi;simpa using this
theorem Sr(hI:FI x f (ts++aj x) i (s::r) t1)(hn:ts.length+(aj x).length<=1073741823)(hh:iT s=H):t1.length+H.length<=1073741823:=by
 have h:=congrArg List.length hI.eq
 have h2:H.length<=(opsT (x.l.drop i) (s::r) (f.2.1.drop i)).length:=by
  cases x.l.drop i with
  |nil=>simp only[opsT,List.flatMap_cons,List.length_append,hh];omega
  |cons a b=>simp only[opsT,List.length_append,hh];omega
 simp only[List.length_append]at h
 omega
theorem Su(hI:FI x f (ts++aj x) i (s::r) t1)(hn:ts.length+(aj x).length<=1073741823)(hh:iT s=H)(hy:x.l[i]? = some y)(hv:f.2.1[i]? = some v):(t1++H).length+(aW y v).length<=1073741823:=by
 have h:=congrArg List.length (z2e hI hh hy hv).eq
 simp only[List.length_append]at h ⊢
 omega
theorem z5i(hI:FI x f (ts++aj x) i (s::r) t1)(hn:ts.length+(aj x).length<=1073741823)(hh:iT s = [])(hy:x.l[i]? = some y)(hv:f.2.1[i]? = some v):t1.length+(aW y v).length<=1073741823:=by
 have:=Su hI hn hh hy hv;simpa using this
theorem z8t(hI:FI x f R i [] t1)(h:(!(f.2.2==[]))=false):t1=R:=by
 have h1:=hI.eq
 have h:(f.2.2==[])=true:=by simpa using h
 rw[Lu,tlT,h]at h1
 simpa using h1
theorem z5j(hI:FI x f R i [] t1)(h:(!(f.2.2==[]))=true):t1++[sg f.2.2]++dQ x.n=R:=by
 have h1:=hI.eq
 have h:(f.2.2==[])=false:=by simpa using h
 rw[Lu,tlT,h]at h1
 simpa using h1
theorem z5k(hI:FI x f (ts++aj x) i [] t1)(hn:ts.length+(aj x).length<=1073741823)(h:(!(f.2.2==[]))=true):t1.length+[sg f.2.2].length<=1073741823/\(t1++[sg f.2.2]).length+(dQ x.n).length<=1073741823:=by
 have h:=congrArg List.length (z5j hI h)
 simp only[List.length_append]at h ⊢
 omega
theorem Ee(h:(s==wIf)=true):iT s = [wd s]:=by simp only[iT,h,Bool.true_or,if_true]
theorem uV(h:(s==wThen)=true):iT s = [wd s]:=by simp only[iT,h,Bool.true_or,Bool.or_true,if_true]
theorem uX(h:(s==wElse)=true):iT s = [wd s]:=by simp only[iT,h,Bool.or_true,if_true]
theorem I8(h1:(s==wIf)=false)(h2:(s==wThen)=false)(h3:(s==wElse)=false)(h:(s==[])=true):iT s = []:=by simp only[iT,h1,h2,h3,Bool.or_self,Bool.false_eq_true,if_false,h,if_true]
theorem zW(h1:(s==wIf)=false)(h2:(s==wThen)=false)(h3:(s==wElse)=false)(h:(s==[])=false):iT s = [sg s]:=by simp only[iT,h1,h2,h3,Bool.or_self,Bool.false_eq_true,if_false,h]
end
theorem LC{k:Int}{f:Form}(h:dL k=some f):f.1.length=f.2.1.length/\f.1.length<=4:=by
 have:∀fs:List (Int×Form),(∀x∈fs,x.2.1.length=x.2.2.1.length/\x.2.1.length<=4)->gZ k fs=some f->f.1.length=f.2.1.length/\f.1.length<=4:=by
  intro fs
  induction fs with
  |nil=>intro _ h;cases h
  |cons x r ih=>
   intro ha h
   simp only[gZ]at h
   split at h
   ·cases h;exact ha x (by simp)
   ·exact ih (λy hy=>ha y (by simp[hy])) h
 exact this forms (by decide) h
theorem X4{T:Prop}{l:List Ex}{n:Int}{i:Nat}{q:List D->Prop}(hT:T)(hn:n=(i:Int))(h:i<l.length)(hq:∀y,l[i]? = some y->q y.cs):T/\∃c,(0<=n/\(Ex.css l)[n.toNat]? = some c)/\q c:=by
 subst hn
 have hy:l[i]? = some l[i]:=List.getElem?_eq_getElem h
 exact⟨hT,_,⟨Int.natCast_nonneg _,by rw[Ex.css_eq,Int.toNat_natCast,List.getElem?_map,hy];rfl⟩,hq _ hy⟩
theorem z5l{T:Prop}{l:List Int}{n:Int}{i:Nat}{q:List D->Prop}(hT:T)(hn:n=(i:Int))(h:i<l.length)(hq:∀v,l[i]? = some v->q (Uw v)):T/\∃c,(0<=n/\(l.map Uw)[n.toNat]? = some c)/\q c:=by
 subst hn
 have hy:l[i]? = some l[i]:=List.getElem?_eq_getElem h
 exact⟨hT,_,⟨Int.natCast_nonneg _,by rw[Int.toNat_natCast,List.getElem?_map,hy];rfl⟩,hq _ hy⟩
theorem z5m{l:List Ex}{i:Nat}(h:decide ((i:Int)<((Ex.css l).length:Int))=true):i<l.length:=by
 have:=of_decide_eq_true h;rw[Ex.css_eq,List.length_map]at this;omega
theorem z8u{f:Form}{k:Int}{i:Nat}{s:Str}{r:List Str}(h:dL k=some f)(hd:f.1.drop i=s::r):i<f.2.1.length:=by
 have:=LC h
 have:i<f.1.length:=by
  by_cases hi:i<f.1.length
  ·exact hi
  ·rw[List.drop_eq_nil_of_le (by omega)]at hd;cases hd
 omega
theorem kS(x:Ex):aW x 0=aj x:=by
 unfold aW
 rw[if_neg]
 unfold level
 split
 ·decide
 ·split
  ·decide
  ·split<;>decide
theorem qj{x:Ex}{v:Int}(h:decide (level x.kind<v)=true):aW x v=sg sPar::(aj x++[sg sKet]):=by
 unfold aW;rw[if_pos (of_decide_eq_true h)]
theorem Ef{x:Ex}{v:Int}(h:decide (level x.kind<v)=false):aW x v=aj x:=by
 unfold aW;rw[if_neg (of_decide_eq_false h)]
abbrev Fun:=Str×Int×Int×Bool
structure MI(k:Int)(es:List (D×D)):Prop where
 a:∀e∈es,∃f∈kW,e=Ux f
 b:∀f∈kW,f.2.1=k->Ux f∈es
theorem VW(k:Int):MI k (kW.map Ux):=⟨λe he=>by obtain⟨f,hf,rfl⟩:=List.mem_map.1 he;exact⟨f,hf,rfl⟩,λf hf _=>List.mem_map.2 ⟨f,hf,rfl⟩⟩
theorem ZU{k:Int}{l1 l2:List (D×D)}{x:D×D}(h:MI k (l1++x::l2)):∃f,f∈kW/\x=Ux f:=by
 obtain⟨f,hf,e⟩:=h.a x (by simp);exact⟨f,hf,e⟩
theorem ZV{k:Int}{l1 l2:List (D×D)}{f:Fun}(h:MI k (l1++Ux f::l2))(hk:(f.2.1 != k)=true):MI k (l1++l2):=by
 refine⟨λe he=>h.a e ?_,λg hg e=>?_⟩
 ·simp only[List.mem_append,List.mem_cons]at he ⊢
  rcases he with he |he
  ·exact .inl he
  ·exact .inr (.inr he)
 ·have:=h.b g hg e
  simp only[List.mem_append,List.mem_cons]at this ⊢
  rcases this with h1 |h1 |h1
  ·exact .inl h1
  ·exfalso
   have:f.2.1=g.2.1:=by
    have:=congrArg Prod.snd h1
    simp only[Ux,D.agg.injEq,List.cons.injEq,D.val.injEq,Value.int.injEq]at this
    exact this.1.2.symm
   simp[this,e]at hk
  ·exact .inr h1
theorem LD{k:Int}(h:MI k []):lY k=none:=by
 have:∀fs:List Fun,(∀f∈fs,f.2.1≠k)->zN k fs=none:=by
  intro fs
  induction fs with
  |nil=>intro _;rfl
  |cons x r ih=>
   intro ha
   obtain⟨w,c,n,b⟩:=x
   have h1:(c==k)=false:=by simpa using ha (w,c,n,b) (by simp)
   simp only[zN,h1,Bool.false_eq_true,if_false]
   exact ih λy hy=>ha y (by simp[hy])
 exact this kW λf hf e=>by simpa using h.b f hf e
theorem BU{k:Int}{f:Fun}(hf:f∈kW)(hk:(f.2.1 != k)=false):lY k=some (f.1,f.2.2):=by
 have hk:f.2.1=k:=by simpa using hk
 subst hk
 simp only[kW,List.mem_cons,List.not_mem_nil,or_false]at hf
 rcases hf with rfl |rfl |rfl |rfl |rfl |rfl |rfl |rfl<;>rfl
theorem z8v{f:Fun}(hf:f∈kW):0<=f.2.2.1/\f.2.2.1<=2:=by
 simp only[kW,List.mem_cons,List.not_mem_nil,or_false]at hf
 rcases hf with rfl |rfl |rfl |rfl |rfl |rfl |rfl |rfl<;>decide
theorem SA{x:Ex}{f:Str×Int×Bool}(h0:dL x.kind=none)(h:lY x.kind=some f):aj x=wd f.1::sg sPar::((if f.2.2 then [wd x.name,sg sComma]else [])++(qg x.l f.2.1.toNat 0++[sg sKet])):=by
 cases x with
 |mk k nm i n l=>
  simp only[Ex.kind]at h h0
  rw[aj,h0];simp only[h];rfl
theorem Gx{x:Ex}(h0:dL x.kind=none)(h:lY x.kind=none)(h1:(x.kind==1)=true):aj x=dQ x.n:=by
 cases x with
 |mk k nm i n l=>
  simp only[Ex.kind]at h h0 h1
  rw[aj,h0];simp only[h,h1,if_true];rfl
theorem BV{x:Ex}(h0:dL x.kind=none)(h:lY x.kind=none)(h1:(x.kind==1)=false):aj x = [wd x.name]:=by
 cases x with
 |mk k nm i n l=>
  simp only[Ex.kind]at h h0 h1
  rw[aj,h0];simp only[h,h1,Bool.false_eq_true,if_false];rfl
section
variable {x : Ex} {v : Int} {ts : List Tk}
theorem z5n(h:decide (level x.kind<v)=true)(hn:ts.length+(aW x v).length<=1073741823):ts.length+[sg sPar].length<=1073741823:=by
 rw[qj h]at hn;simp only[List.length_cons,List.length_append,List.length_nil]at hn ⊢;omega
theorem z5o(h:decide (level x.kind<v)=true)(hn:ts.length+(aW x v).length<=1073741823):(ts++[sg sPar]).length+(aj x).length<=1073741823:=by
 rw[qj h]at hn;simp only[List.length_cons,List.length_append,List.length_nil]at hn ⊢;omega
theorem z5p(h:decide (level x.kind<v)=true)(hn:ts.length+(aW x v).length<=1073741823):(ts++[sg sPar]++aj x).length+[sg sKet].length<=1073741823:=by
 rw[qj h]at hn;simp only[List.length_cons,List.length_append,List.length_nil]at hn ⊢;omega
theorem z5q(h:decide (level x.kind<v)=true):List.map Tk.cs (ts++[sg sPar]++aj x++[sg sKet])=List.map Tk.cs (ts++aW x v):=by
 rw[qj h];simp
theorem ZW{f:Form}{k:Int}(he:dL k=some f):f.1.length<=9223372036854775807:=by have:=LC he;omega
end
structure AT(x:Ex)(g:Fun)(R:List Tk)(i:Nat)(t:List Tk):Prop where
 eq:t++(qg (x.l.drop i) (g.2.2.1.toNat-i) i++[sg sKet])=R
section
variable {x y : Ex} {g : Fun} {ts t1 : List Tk} {i : Nat}
theorem Oi(he:dL x.kind=none)(hk:lY x.kind=some (g.1,g.2.2)):aj x=wd g.1::sg sPar::((if g.2.2.2 then [wd x.name,sg sComma]else [])++(qg x.l g.2.2.1.toNat 0++[sg sKet])):=SA he hk
theorem z8w(hn:ts.length+(aj x).length<=1073741823)(he:dL x.kind=none)(hk:lY x.kind=some (g.1,g.2.2)):ts.length+[g.1].length<=1073741823:=by
 rw[Oi he hk]at hn;simp only[List.length_cons,List.length_append,List.length_nil]at hn ⊢;omega
theorem z8x(hn:ts.length+(aj x).length<=1073741823)(he:dL x.kind=none)(hk:lY x.kind=some (g.1,g.2.2)):(ts++[g.1].map wd).length+[sg sPar].length<=1073741823:=by
 rw[Oi he hk]at hn;simp only[List.length_cons,List.length_append,List.length_nil,List.length_map]at hn ⊢;omega
theorem z8y(hn:ts.length+(aj x).length<=1073741823)(he:dL x.kind=none)(hk:lY x.kind=some (g.1,g.2.2))(hb:g.2.2.2=true):(ts++[g.1].map wd++[sg sPar]).length+[x.name].length<=1073741823:=by
 rw[Oi he hk,hb]at hn;simp only[List.length_cons,List.length_append,List.length_nil,List.length_map,if_true]at hn ⊢;omega
theorem z8z(hn:ts.length+(aj x).length<=1073741823)(he:dL x.kind=none)(hk:lY x.kind=some (g.1,g.2.2))(hb:g.2.2.2=true):(ts++[g.1].map wd++[sg sPar]++[x.name].map wd).length+[sg sComma].length<=1073741823:=by
 rw[Oi he hk,hb]at hn;simp only[List.length_cons,List.length_append,List.length_nil,List.length_map,if_true]at hn ⊢;omega
theorem z81(he:dL x.kind=none)(hk:lY x.kind=some (g.1,g.2.2))(hb:g.2.2.2=true):AT x g (ts++aj x) 0 (ts++[g.1].map wd++[sg sPar]++[x.name].map wd++[sg sComma]):=
 ⟨by rw[Oi he hk,hb];simp⟩
theorem z88(he:dL x.kind=none)(hk:lY x.kind=some (g.1,g.2.2))(hb:g.2.2.2=false):AT x g (ts++aj x) 0 (ts++[g.1].map wd++[sg sPar]):=
 ⟨by rw[Oi he hk,hb];simp⟩
theorem SB(h:decide ((i:Int)<mm2 false g.2.2.1 ((Ex.css x.l).length:Int))=true):i<x.l.length/\i<g.2.2.1.toNat:=by
 have h:=of_decide_eq_true h
 rw[Ex.css_eq,List.length_map]at h
 simp only[mm2]at h
 split at h<;>omega
theorem SC(h:decide ((i:Int)<mm2 false g.2.2.1 ((Ex.css x.l).length:Int))=true)(hy:x.l[i]? = some y):qg (x.l.drop i) (g.2.2.1.toNat-i) i=(if 0<i then [sg sComma]else [])++(aW y 0++qg (x.l.drop (i+1)) (g.2.2.1.toNat-(i+1)) (i+1)):=by
 obtain⟨h1,h2⟩:=SB h
 obtain⟨h3,rfl⟩:=List.getElem?_eq_some_iff.1 hy
 rw[List.drop_eq_getElem_cons h1,kS]
 obtain⟨m,hm⟩:∃m,g.2.2.1.toNat-i=m+1:=⟨g.2.2.1.toNat-i-1,by omega⟩
 rw[hm,show g.2.2.1.toNat-(i+1)=m by omega]
 rfl
theorem ZX(hI:AT x g (ts++aj x) i t1)(h:decide ((i:Int)<mm2 false g.2.2.1 ((Ex.css x.l).length:Int))=true)(h0:decide ((i:Int)>0)=true)(hy:x.l[i]? = some y):AT x g (ts++aj x) (i+1) (t1++[sg sComma]++aW y 0):=by
 have h1:=hI.eq
 have h0:=of_decide_eq_true h0
 rw[SC h hy,if_pos (by omega)]at h1
 exact⟨by rw[<-h1];simp only[List.append_assoc]⟩
theorem z5r(hI:AT x g (ts++aj x) i t1)(h:decide ((i:Int)<mm2 false g.2.2.1 ((Ex.css x.l).length:Int))=true)(h0:decide ((i:Int)>0)=false)(hy:x.l[i]? = some y):AT x g (ts++aj x) (i+1) (t1++aW y 0):=by
 have h1:=hI.eq
 have h0:=of_decide_eq_false h0
 rw[SC h hy,if_neg (by omega)]at h1
 exact⟨by rw[<-h1];simp only[List.nil_append,List.append_assoc]⟩
theorem z9a(hn:ts.length+(aj x).length<=1073741823)(hI:AT x g (ts++aj x) i t1)(h:decide ((i:Int)<mm2 false g.2.2.1 ((Ex.css x.l).length:Int))=true)(h0:decide ((i:Int)>0)=true):t1.length+[sg sComma].length<=1073741823:=by
 obtain⟨h2,-⟩:=SB h
 have h1:=congrArg List.length (ZX hI h h0 (List.getElem?_eq_getElem h2)).eq
 simp only[List.length_append]at h1 ⊢;omega
theorem z9b(hn:ts.length+(aj x).length<=1073741823)(hI:AT x g (ts++aj x) i t1)(h:decide ((i:Int)<mm2 false g.2.2.1 ((Ex.css x.l).length:Int))=true)(h0:decide ((i:Int)>0)=true)(hy:x.l[i]? = some y):(t1++[sg sComma]).length+(aW y 0).length<=1073741823:=by
 have h1:=congrArg List.length (ZX hI h h0 hy).eq
 simp only[List.length_append]at h1 ⊢;omega
theorem z9c(hn:ts.length+(aj x).length<=1073741823)(hI:AT x g (ts++aj x) i t1)(h:decide ((i:Int)<mm2 false g.2.2.1 ((Ex.css x.l).length:Int))=true)(h0:decide ((i:Int)>0)=false)(hy:x.l[i]? = some y):t1.length+(aW y 0).length<=1073741823:=by
 have h1:=congrArg List.length (z5r hI h h0 hy).eq
 simp only[List.length_append]at h1 ⊢;omega
theorem z9d(hI:AT x g (ts++aj x) i t1)(h:decide ((i:Int)<mm2 false g.2.2.1 ((Ex.css x.l).length:Int))=false):t1++[sg sKet]=ts++aj x:=by
 have h1:=hI.eq
 have h:=of_decide_eq_false h
 rw[Ex.css_eq,List.length_map]at h
 have h2:qg (x.l.drop i) (g.2.2.1.toNat-i) i = []:=by
  by_cases hi:i<x.l.length
  ·have:g.2.2.1.toNat-i=0:=by
    simp only[mm2]at h
    split at h<;>omega
   rw[this]
   cases x.l.drop i<;>rfl
  ·rw[List.drop_eq_nil_of_le (by omega)];rfl
 rw[h2]at h1
 exact h1
theorem z9e(hn:ts.length+(aj x).length<=1073741823)(hI:AT x g (ts++aj x) i t1)(h:decide ((i:Int)<mm2 false g.2.2.1 ((Ex.css x.l).length:Int))=false):t1.length+[sg sKet].length<=1073741823:=by
 have h1:=congrArg List.length (z9d hI h)
 simp only[List.length_append]at h1 ⊢;omega
theorem z5s(h:decide ((i:Int)<mm2 false g.2.2.1 ((Ex.css x.l).length:Int))=true):x.l.length-(i+1)<x.l.length-i:=by
 have:=SB h;omega
theorem zaq(hg:g∈kW)(h:decide ((i:Int)<mm2 false g.2.2.1 ((Ex.css x.l).length:Int))=true):i<=9223372036854775806:=by
 have:=SB h;have:=z8v hg;omega
theorem z9f(hn:ts.length+(aj x).length<=1073741823)(he:dL x.kind=none)(hk:lY x.kind=none)(h:(x.kind==1)=true):ts.length+(dQ x.n).length<=1073741823:=by rw[Gx he hk h]at hn;exact hn
theorem z9g(hn:ts.length+(aj x).length<=1073741823)(he:dL x.kind=none)(hk:lY x.kind=none)(h:(x.kind==1)=false):ts.length+[x.name].length<=1073741823:=by rw[BV he hk h]at hn;exact hn
theorem z9h(he:dL x.kind=none)(hk:lY x.kind=none)(h:(x.kind==1)=true):List.map Tk.cs (ts++dQ x.n)=List.map Tk.cs (ts++aj x):=by rw[Gx he hk h]
theorem z9i(he:dL x.kind=none)(hk:lY x.kind=none)(h:(x.kind==1)=false):List.map Tk.cs (ts++[x.name].map wd)=List.map Tk.cs (ts++aj x):=by rw[BV he hk h];rfl
end
theorem zar(k:Int):decide (level k<0)=false:=by
 have:aW (.mk k [] 0 0 []) 0=aj (.mk k [] 0 0 []):=kS _
 apply decide_eq_false
 unfold level
 split
 ·decide
 ·split
  ·decide
  ·split<;>decide
abbrev R5(p:Pr):List Tk:=[sg sEnd]
abbrev R4(p:Pr):List Tk:=p.stmts.flatMap fA++[sg sEnd]
abbrev R3(p:Pr):List Tk:=p.tables.flatMap tbT++(p.stmts.flatMap fA++[sg sEnd])
abbrev R2(p:Pr):List Tk:=p.lines.flatMap lnT++(p.tables.flatMap tbT++(p.stmts.flatMap fA++[sg sEnd]))
abbrev R1(p:Pr):List Tk:=p.states.flatMap (bdT kL)++(p.lines.flatMap lnT++(p.tables.flatMap tbT++(p.stmts.flatMap fA++[sg sEnd])))
abbrev R0(p:Pr):List Tk:=p.params.flatMap (bdT lu)++(p.states.flatMap (bdT kL)++(p.lines.flatMap lnT++(p.tables.flatMap tbT++(p.stmts.flatMap fA++[sg sEnd]))))
structure CI(rest R t:List Tk):Prop where
 eq:t++rest=R
variable {a b R t : List Tk}
theorem CI.len{n:Nat}(h:CI (a++b) R t)(hR:R.length<=n):t.length+a.length<=n:=by
 have:=congrArg List.length h.eq
 simp only[List.length_append]at this;omega
theorem CI.go(h:CI (a++b) R t):CI b R (t++a):=⟨by rw[<-h.eq];simp⟩
theorem CI.to(h:CI a R t)(e:a=b):CI b R t:=e ▸ h
section
variable {p : Pr} {ts : List Tk}
theorem pR(hn:ts.length+(fB p).length<=1073741823):(ts++fB p).length<=1073741823:=by simpa using hn
theorem pc1:CI ([wProcessor,p.name,dG].map wd++(dQ p.latency++([wTail].map wd++((if p.tail == -1 then [wd di]else dQ p.tail)++([sg sBra]++R0 p))))) (ts++fB p) ts:=⟨by simp[fB]⟩
theorem pc2:CI ((if p.tail == -1 then [wd di]else dQ p.tail)++([sg sBra]++R0 p)) (ts++fB p) (ts++[wProcessor,p.name,dG].map wd++dQ p.latency++[wTail].map wd):=pc1.go.go.go
theorem pc3(h:(p.tail == -1)=true):CI ([di].map wd++([sg sBra]++R0 p)) (ts++fB p) (ts++[wProcessor,p.name,dG].map wd++dQ p.latency++[wTail].map wd):=by
 have:=pc2 (p:=p) (ts:=ts);rw[if_pos h]at this;exact this
theorem pc4(h:(p.tail == -1)=false):CI (dQ p.tail++([sg sBra]++R0 p)) (ts++fB p) (ts++[wProcessor,p.name,dG].map wd++dQ p.latency++[wTail].map wd):=by
 have:=pc2 (p:=p) (ts:=ts);rw[if_neg (by simp[h])]at this;exact this
end
section
variable {R t : List Tk}
theorem Oj{w:Str}{b:Bd}{r:List Bd}{X:List Tk}(h:CI ((b::r).flatMap (bdT w)++X) R t):CI ([w,b.name].map wd++(bV b.lo b.hi++(r.flatMap (bdT w)++X))) R t:=h.to (by simp[bdT])
theorem VX{b:Ln}{r:List Ln}{X:List Tk}(h:CI ((b::r).flatMap lnT++X) R t):CI ([DZ,b.name].map wd++(dQ b.size++(bV b.lo b.hi++(r.flatMap lnT++X)))) R t:=h.to (by simp[lnT])
theorem ZY{b:Tb}{r:List Tb}{X:List Tk}(h:CI ((b::r).flatMap tbT++X) R t):CI ([uN,b.name].map wd++([sg sEq]++(kw 0 b.values++([sg sSemi]++(r.flatMap tbT++X))))) R t:=h.to (by simp[tbT])
theorem z5t{b:Sm}{r:List Sm}{X:List Tk}(h:CI ((b::r).flatMap fA++X) R t):CI (fA b++(r.flatMap fA++X)) R t:=h.to (by simp)
theorem BX{α:Type}{f:α->List Tk}{X:List Tk}(h:CI (([]:List α).flatMap f++X) R t):CI X R t:=h.to (by simp)
theorem ZZ{i:Nat}{v:Int}{r:List Int}{X:List Tk}(h:CI (kw i (v::r)++X) R t)(h0:decide ((i:Int)>0)=true):CI ([sg sComma]++(dQ v++(kw (i+1) r++X))) R t:=h.to (by
 have h0:=of_decide_eq_true h0
 rw[kw,if_pos (by omega)];simp)
theorem z5u{i:Nat}{v:Int}{r:List Int}{X:List Tk}(h:CI (kw i (v::r)++X) R t)(h0:decide ((i:Int)>0)=false):CI (dQ v++(kw (i+1) r++X)) R t:=h.to (by
 have h0:=of_decide_eq_false h0
 rw[kw,if_neg (by omega)];simp)
theorem z5v{i:Nat}{X:List Tk}(h:CI (kw i []++X) R t):CI X R t:=h
end
theorem zas{k:Int}{fa fb fc:D}{F:D->Prop}{G:Prop}(h1:(k==1)=true->F fa)(h2:(k==1)=false->(k==2)=true->F fb)(h3:(k==1)=false->(k==2)=false->(k==3)=true->F fc)(h5:(k==1)=false->(k==2)=false->(k==3)=false->G) :
  Hz (EM (.i k) [(.i 1,fa),(.i 2,fb),(.i 3,fc)]) F G:=by
 simp only[EM,gV,sameS]
 cases ha:k==1 with
 |true=>exact h1 ha
 |false=>
  cases hb:k==2 with
  |true=>exact h2 ha hb
  |false=>
   cases hc:k==3 with
   |true=>exact h3 ha hb hc
   |false=>exact h5 ha hb hc
section
variable {s : Sm} {ts : List Tk}
theorem sc1(h:(s.kind==1)=true):CI ([XN,s.name].map wd++([sg sEq]++(aW s.x 0++([sg sSemi]++[])))) (ts++fA s) ts:=⟨by simp only[fA,h,if_true];simp⟩
theorem sc2(h1:(s.kind==1)=false)(h:(s.kind==2)=true):CI ([XO,s.name].map wd++([sg sEq]++(aW s.x 0++([sg sSemi]++[])))) (ts++fA s) ts:=⟨by simp only[fA,h1,h,if_true,Bool.false_eq_true,if_false];simp⟩
theorem sc3(h1:(s.kind==1)=false)(h2:(s.kind==2)=false)(h:(s.kind==3)=true):CI ([Gm,s.name].map wd++([sg sEq]++(aW s.x 0++([sg sSemi]++[])))) (ts++fA s) ts:=⟨by simp only[fA,h1,h2,h,if_true,Bool.false_eq_true,if_false];simp⟩
theorem sc4(h1:(s.kind==1)=false)(h2:(s.kind==2)=false)(h:(s.kind==3)=false):CI ([XP].map wd++(aW s.x 0++([sg sSemi]++[]))) (ts++fA s) ts:=⟨by simp only[fA,h1,h2,h,Bool.false_eq_true,if_false];simp⟩
theorem sR(hn:ts.length+(fA s).length<=1073741823):(ts++fA s).length<=1073741823:=by simpa using hn
theorem bc1{lo hi:Int}:CI ([wFrom].map wd++(dQ lo++([wTo].map wd++(dQ hi++([sg sSemi]++[]))))) (ts++bV lo hi) ts:=⟨by simp[bV]⟩
theorem bR{lo hi:Int}(hn:ts.length+(bV lo hi).length<=1073741823):(ts++bV lo hi).length<=1073741823:=by simpa using hn
theorem BZ{R t a:List Tk}(h:CI (a++[]) R t):List.map Tk.cs (t++a)=List.map Tk.cs R:=by rw[<-h.eq];simp
end
end Go.Fw.Sy
namespace Go.Fw.Sy
open Go.Fw Go.Fw.Ref15
variable [ae]
theorem pq(a b:Bool):(bif a then true else b)=(a || b):=by cases a<;>rfl
def lenE{α:Type}(f:α×α->Bool)(l m:List α):Bool:=!((l.length:Int) != (m.length:Int))&&(l.zip m).all f
def Z4(v:Int×Int):Bool:=!(v.1 != v.2)
def Eg(l m:List Int):Bool:=lenE Z4 l m
def exE(q:Ex×Ex):Bool:=eF q.1 q.2
def z5w(l m:List Ex):Bool:=lenE exE l m
def tbE(q:Tb×Tb):Bool:=q.1.name==q.2.name&&Eg q.1.values q.2.values
def smE(q:Sm×Sm):Bool:=((q.1.kind==q.2.kind&&q.1.name==q.2.name)&&q.1.index==q.2.index)&&eF q.1.x q.2.x
def Gy(a b:Pr):Bool:=(a.name==b.name&&a.latency==b.latency)&&a.tail==b.tail
def dV(a b:Pr):Bool:=((((Gy a b&&eY a.params b.params)&&eY a.states b.states)&&lenE kJ a.lines b.lines)&&lenE tbE a.tables b.tables)&&lenE smE a.stmts b.stmts
theorem Eh(a b:Ex):(a.kind==b.kind&&a.name==b.name&&a.index==b.index&&a.n==b.n&&z5w a.l b.l)=eF a b:=by
 rw[ng,z5w,lenE]
 by_cases hl:a.l.length=b.l.length
 ·rw[uF hl]
  have e:((a.l.length:Int) != (b.l.length:Int))=false:=by simp[hl]
  rw[e]
  by_cases h1:a.kind=b.kind<;>by_cases h2:a.name=b.name<;>by_cases h3:a.index=b.index<;>by_cases h4:a.n=b.n<;>simp[h1,h2,h3,h4]<;>rfl
 ·have e:((a.l.length:Int) != (b.l.length:Int))=true:=by simp;omega
  rw[e];simp
theorem VY(l m:List Bd):eY l m=lenE xu l m:=rfl
theorem SE{α:Type}{f:α×α->Bool}(h:∀x y,f (x,y)=true↔x=y):∀l m:List α,l.length=m.length->((l.zip m).all f=true↔l=m)
 | [],[],_=>by simp
 |x::r,y::s,hl=>by
  have:=SE h r s (by simpa using hl)
  simp only[List.zip_cons_cons,List.all_cons,Bool.and_eq_true,h x y,this,List.cons.injEq]
 | [],_::_,hl=>by simp at hl
 |_::_,[],hl=>by simp at hl
theorem nH{α:Type}{f:α×α->Bool}(h:∀x y,f (x,y)=true↔x=y)(l m:List α):lenE f l m=true↔l=m:=by
 unfold lenE
 by_cases hl:l.length=m.length
 ·have e:(!((l.length:Int) != (m.length:Int)))=true:=by simp[hl]
  rw[e,Bool.true_and]
  exact SE h l m hl
 ·have e:(!((l.length:Int) != (m.length:Int)))=false:=by simp;omega
  rw[e,Bool.false_and]
  constructor
  ·intro h;cases h
  ·intro h;exact absurd (congrArg List.length h) hl
theorem VZ(x y:Int):Z4 (x,y)=true↔x=y:=by simp[Z4]
theorem Z5(x y:Bd):xu (x,y)=true↔x=y:=by
 obtain⟨a,b,c⟩:=x
 obtain⟨d,e,f⟩:=y
 simp[xu,Go.Fw.sameL,Go.Fw.sameS]
theorem Z7(x y:Ln):kJ (x,y)=true↔x=y:=by
 obtain⟨a,b,c,d⟩:=x
 obtain⟨e,f,g,h⟩:=y
 simp[kJ,Go.Fw.sameL,Go.Fw.sameS]
theorem Z8(x y:Tb):tbE (x,y)=true↔x=y:=by
 obtain⟨a,b⟩:=x
 obtain⟨c,d⟩:=y
 simp only[tbE,Eg,Bool.and_eq_true,beq_iff_eq,nH VZ,Tb.mk.injEq]
theorem Z9:∀x y:Ex,eF x y=true↔x=y:=by
 refine Ex.ind λx ih y=>?_
 obtain⟨k,n,i,m,l⟩:=x
 obtain⟨k',n',i',m',l'⟩:=y
 have ih:∀z∈l,∀y,eF z y=true↔z=y:=ih
 rw[ng]
 have key:∀l l':List Ex,l.length=l'.length->(∀z∈l,∀y,eF z y=true↔z=y)->((l.zip l').all (λq=>eF q.1 q.2)=true↔l=l'):=by
  intro l
  induction l with
  |nil=>intro l' hl _;cases l' with
   |nil=>simp
   |cons _ _=>simp at hl
  |cons x r ir=>
   intro l' hl hz
   cases l' with
   |nil=>simp at hl
   |cons y s=>
    have:=ir s (by simpa using hl) (λz hz'=>hz z (by simp[hz']))
    simp only[List.zip_cons_cons,List.all_cons,Bool.and_eq_true,hz x (by simp) y,this,List.cons.injEq]
 show(if(k != k' || n != n' || i != i' || m != m' || (l.length:Int) != (l'.length:Int))=true then false else Ref15.sameL l l')=true↔_
 by_cases hl:l.length=l'.length
 ·have:=key l l' hl ih
  rw[uF hl]
  rw[Ex.mk.injEq,<-this]
  by_cases h1:k=k'<;>by_cases h2:n=n'<;>by_cases h3:i=i'<;>by_cases h4:m=m'<;>simp[h1,h2,h3,h4,hl]
 ·have e:((l.length:Int) != (l'.length:Int))=true:=by simp;omega
  rw[e,Bool.or_true,if_pos rfl]
  constructor
  ·intro h;cases h
  ·intro h
   injection h with _ _ _ _ h
   exact absurd (congrArg List.length h) hl
theorem z0a(x y:Sm):smE (x,y)=true↔x=y:=by
 obtain⟨a,b,c,d⟩:=x
 obtain⟨e,f,g,h⟩:=y
 simp only[smE,Bool.and_eq_true,beq_iff_eq,Z9,Sm.mk.injEq,and_assoc]
def xA(a b:Pr):Bool:=bif (bif (bif (bif a.name != b.name then true else a.latency != b.latency)then true else a.tail != b.tail)then true else !(eY a.params b.params))then true else !(eY a.states b.states)
def zX(a b:Pr):Bool:=bif (bif ((a.lines.map Ln.cs).length:Int) != ((b.lines.map Ln.cs).length:Int)then true else((a.tables.map Tb.cs).length:Int) != ((b.tables.map Tb.cs).length:Int))then true else((a.stmts.map Sm.cs).length:Int) != ((b.stmts.map Sm.cs).length:Int)
theorem z0b{a b:Pr}(h:xA a b=true):dV a b=false:=by
 simp only[xA,pq,Bool.or_eq_true,bne_iff_ne,Bool.not_eq_true']at h
 simp only[dV,Gy]
 rcases h with(((h |h) |h) |h) |h<;>simp[h]
theorem z0c{a b:Pr}(h:zX a b=true):dV a b=false:=by
 simp only[zX,pq,Bool.or_eq_true,List.length_map]at h
 simp only[dV,lenE]
 rcases h with(h |h) |h<;>simp[h]
theorem SG{a b:Pr}(h1:xA a b=false)(h2:zX a b=false):dV a b=((a.lines.zip b.lines).all kJ&&((a.tables.zip b.tables).all tbE&&(a.stmts.zip b.stmts).all smE))/\a.lines.length=b.lines.length/\a.tables.length=b.tables.length/\a.stmts.length=b.stmts.length:=by
 simp only[xA,pq,Bool.or_eq_false_iff,bne_eq_false_iff_eq,Bool.not_eq_false']at h1
 simp only[zX,pq,Bool.or_eq_false_iff,bne_eq_false_iff_eq,List.length_map]at h2
 obtain⟨⟨⟨⟨e1,e2⟩,e3⟩,e4⟩,e5⟩:=h1
 obtain⟨⟨e6,e7⟩,e8⟩:=h2
 refine⟨?_,by omega,by omega,by omega⟩
 simp only[dV,Gy,lenE,e1,e2,e3,e4,e5,e6,e7,e8,bne_self_eq_false,Bool.not_false,Bool.true_and,beq_self_eq_true,Bool.and_assoc]
theorem LG(q:Sm×Sm):(bif (bif (bif q.1.kind != q.2.kind then true else q.1.name != q.2.name)then true else q.1.index != q.2.index)then true else !(eF q.1.x q.2.x)) = !smE q:=by
 simp only[smE,pq,bne,Bool.not_and]
theorem LH(q:Tb×Tb):(bif q.1.name != q.2.name then true else !(Eg q.1.values q.2.values)) = !tbE q:=by
 simp only[tbE,pq,bne,Bool.not_and]
theorem z9j{q:Ln×Ln}(h:(!(Go.Fw.sameL q.1.cs q.2.cs))=true):kJ q=false:=by
 show Go.Fw.sameL q.1.cs q.2.cs=false
 cases hq:Go.Fw.sameL q.1.cs q.2.cs with
 |false=>rfl
 |true=>rw[hq]at h;cases h
theorem z5x{q:Ln×Ln}(h:(!(Go.Fw.sameL q.1.cs q.2.cs))=false):kJ q=true:=by
 show Go.Fw.sameL q.1.cs q.2.cs=true
 cases hq:Go.Fw.sameL q.1.cs q.2.cs with
 |true=>rfl
 |false=>rw[hq]at h;cases h
theorem SH{α:Type}{f:α->Bool}{x:α}{r:List α}{b:Bool}(h:b=(x::r).all f)(hx:f x=false):b=false:=by rw[h,List.all_cons,hx];rfl
theorem I9{α:Type}{f:α->Bool}{x:α}{r:List α}{b:Bool}(h:b=(x::r).all f)(hx:f x=true):b=r.all f:=by rw[h,List.all_cons,hx];rfl
theorem Cb(a b:Pr):dV a b=true↔a=b:=by
 obtain⟨a1,a2,a3,a4,a5,a6,a7,a8⟩:=a
 obtain⟨b1,b2,b3,b4,b5,b6,b7,b8⟩:=b
 simp only[dV,Gy,VY,Bool.and_eq_true,beq_iff_eq,nH Z5,nH Z7,nH Z8,nH z0a,Pr.mk.injEq,and_assoc]
def xM(k:Int):Int:=if k==3 || k==4 || k==5 then 2 else k
theorem Ei(x:Ex):gp x=⟨xM x.kind,x.name,0,x.n,x.l.map gp⟩:=by
 cases x;rw[gp,VH];rfl
theorem SI{k:Int}(h:(bif bif k==3 then true else k==4 then true else k==5)=true):xM k=2:=by
 rw[pq,pq]at h;exact if_pos h
theorem V3{k:Int}(h:(bif bif k==3 then true else k==4 then true else k==5)=false):xM k=k:=by
 rw[pq,pq]at h;exact if_neg (by rw[h];exact Bool.noConfusion)
theorem z0d{k:Int}(h:(k==3)=true):xM k=2:=by rw[xM,h];rfl
theorem z0e{k:Int}(h:(k==4)=true):xM k=2:=by rw[xM,h,Bool.or_true];rfl
theorem z0f{k:Int}(h:(k==5)=true):xM k=2:=by rw[xM,h,Bool.or_true];rfl
theorem z0g{k:Int}(h1:(k==3)=false)(h2:(k==4)=false)(h3:(k==5)=false):xM k=k:=by rw[xM,h1,h2,h3];rfl
abbrev prs(l:List Pr):D:=.sl 8 (l.map Pr.cs)
def X5(n:Int):Int:=if n<=1001 then n else 1001
mutual
def count:Ex->Int
 | .mk _ _ _ _ l=>X5 (rM l 1)
def rM:List Ex->Int->Int
 | [],n=>n
 |x::r,n=>if n<=1000 then rM r (n+count x)else n
end
theorem count_eq(x:Ex):count x=X5 (rM x.l 1):=by cases x;rw[count];rfl
theorem z0h(n:Int):X5 n<=1001:=by simp only[X5];split<;>omega
theorem z0i{n:Int}(h:1<=n):1<=X5 n:=by simp only[X5];split<;>omega
theorem Gz:∀(x:Ex),1<=count x:=by
 refine Ex.ind λx ih=>?_
 rw[count_eq]
 refine z0i ?_
 have:∀(l:List Ex) (n:Int),(∀y∈l,1<=count y)->1<=n->1<=rM l n:=by
  intro l
  induction l with
  |nil=>intro n _ h;exact h
  |cons y r ihr=>
   intro n h hn
   rw[rM]
   split
   ·have:=h y (by simp);exact ihr _ (λz hz=>h z (by simp[hz])) (by omega)
   ·exact hn
 exact this x.l 1 ih (Int.le_refl _)
theorem count_le(x:Ex):count x<=1001:=by rw[count_eq];exact z0h _
theorem Ja{l:List Ex}{n:Int}(h:¬n<=1000):rM l n=n:=by cases l<;>simp[rM,h]
def wQ(n:Int):Int:=if n<=1000 then n else 1000
def z0j:List Tb->Int->Int
 | [],n=>n
 |t::r,n=>z0j r (n+wQ t.values.length)
def z2f:List Sm->Int->Int
 | [],n=>n
 |s::r,n=>z2f r (n+count s.x)
def z5y(p:Pr):Bool:=bif bif bif bif bif decide ((p.name.length:Int)>40)then true else decide (((p.params.map Bd.cs).length:Int)>20)then true else decide (((p.states.map Bd.cs).length:Int)>20)then true else decide (((p.lines.map Ln.cs).length:Int)>20)then true else decide (((p.tables.map Tb.cs).length:Int)>20)then true else decide (((p.stmts.map Sm.cs).length:Int)>70)
def fewP(p:Pr):Bool:=!z5y p&&decide (z2f p.stmts (z0j p.tables 0)<=150)
structure Short(p:Pr):Prop where
 name:p.name.length<=40
 params:p.params.length<=20
 states:p.states.length<=20
 lines:p.lines.length<=20
 tables:p.tables.length<=20
 stmts:p.stmts.length<=70
theorem z5z{p:Pr}(h:z5y p=false):Short p:=by
 simp only[z5y,pq,Bool.or_eq_false_iff,decide_eq_false_iff_not,List.length_map]at h
 obtain⟨⟨⟨⟨⟨h1,h2⟩,h3⟩,h4⟩,h5⟩,h6⟩:=h
 constructor<;>omega
theorem z6a{p:Pr}(h:z5y p=true):fewP p=false:=by rw[fewP,h];rfl
theorem z0k{p:Pr}(h:z5y p=false){n:Int}(e:z2f p.stmts (z0j p.tables 0)=n):fewP p=decide (n<=150):=by rw[fewP,h,e];rfl
theorem X6(n:Int):mm2 false n 1001=X5 n:=by simp only[mm2,X5];split<;>split<;>omega
theorem z0l(n:Int):mm2 false n 1000=wQ n:=by simp only[mm2,wQ];split<;>split<;>omega
theorem Ol{n:Int}(h:0<=n):0<=wQ n/\wQ n<=1000:=by simp only[wQ];split<;>omega
theorem Jb{l:List Ex}{i:Nat}{c:Bool}{p q:Prop}(h:l.drop i = [])(hq:q):BrI (bif decide ((i:Int)<((Ex.css l).length:Int))then c else false) p q:=by
 rw[Ex.css_eq];exact BP h hq
theorem GG{l:List Ex}{i:Nat}{x:Ex}{r:List Ex}{c:Bool}{p q:Prop}(h:l.drop i=x::r)(hp:BrI c p q):BrI (bif decide ((i:Int)<((Ex.css l).length:Int))then c else false) p q:=by
 rw[Ex.css_eq];exact zD h hp
def zY:List Pr->Bool:=λl=>(l.take 3).all fewP&&decide ((l.length:Int)<=3)
theorem X7{l r:List Pr}{i:Nat}(h:(l.take 3).all fewP=(r.take (3-i)).all fewP)(hr:r = []\/3-i=0):decide (((l.map Pr.cs).length:Int)<=3)=zY l:=by
 rw[zY,h,List.length_map]
 cases hr with
 |inl h=>rw[h,List.take_nil];rfl
 |inr h=>rw[h,List.take_zero];rfl
theorem z9k{l r:List Pr}{x:Pr}{i:Nat}(h:(l.take 3).all fewP=((x::r).take (3-i)).all fewP)(hi:(i:Int)<3)(hx:(!fewP x)=true):zY l=false:=by
 obtain⟨k,hk⟩:∃k,3-i=k+1:=⟨2-i,by omega⟩
 rw[hk,List.take_succ_cons,List.all_cons,show fewP x=false by simpa using hx]at h
 rw[zY,h];rfl
theorem z0m{l r:List Pr}{x:Pr}{i:Nat}(h:(l.take 3).all fewP=((x::r).take (3-i)).all fewP)(hi:(i:Int)<3)(hx:(!fewP x)=false):(l.take 3).all fewP=(r.take (3-(i+1))).all fewP:=by
 rw[show 3-i=(3-(i+1))+1 by omega,List.take_succ_cons,List.all_cons,show fewP x=true by simpa using hx]at h
 exact h
structure BI(p:Pr)(dn rs r0:List Sm)(i0:Nat):Prop where
 r:rs=r0
 n:dn.length=i0
 l:dn++rs=p.stmts
variable {dn rs r0 : List Sm} {i0 : Nat} {p : Pr} {x0 : Sm}
abbrev smb(s:Sm):List D:=(uO s).cs
theorem X8(h:BI p dn rs (x0::r0) i0):(dn.map smb++rs.map Sm.cs)[0+(i0:Int).toNat]? = some x0.cs:=by
 obtain⟨rfl,rfl,_⟩:=h
 simp
theorem z0n(h:BI p dn rs (x0::r0) i0){y:List D}:((dn.map smb++rs.map Sm.cs).set (0+(i0:Int).toNat) y)[0+(i0:Int).toNat]? = some y:=by
 obtain⟨rfl,rfl,_⟩:=h
 simp
theorem z6b(h:BI p dn rs (x0::r0) i0){y z:List D}(hz:z=smb x0):((dn.map smb++rs.map Sm.cs).set (0+(i0:Int).toNat) y).set (0+(i0:Int).toNat) z=(dn++[x0]).map smb++r0.map Sm.cs:=by
 obtain⟨rfl,rfl,_⟩:=h
 subst hz
 simp
theorem X9{dn rs:List Sm}(h:BI p dn rs [] i0):0+p.stmts.length<=(dn.map smb++rs.map Sm.cs).length/\(p.stmts.map uO).map Sm.cs=((dn.map smb++rs.map Sm.cs).drop 0).take (0+p.stmts.length):=by
 obtain⟨rfl,rfl,h⟩:=h
 rw[List.append_nil]at h
 subst h
 simp only[List.map_nil,List.append_nil,List.drop_zero,Nat.zero_add,List.length_map,List.map_map]
 exact⟨Nat.le_refl _,(List.take_of_length_le (by simp)).symm⟩
theorem z0o(h:BI p dn rs (x0::r0) i0):BI p (dn++[x0]) r0 r0 (i0+1):=by
 obtain⟨rfl,rfl,h⟩:=h
 exact⟨rfl,by simp,by simpa using h⟩
theorem z9l{l:List Sm}{i:Nat}(h:i<l.length):(i:Int)<((l.length:Nat):Int):=Int.ofNat_lt.2 h
theorem V4{T:Tbl}{rs:List ResultVar}{K0 K K1:Heap}{out:gy}{env:Env}(env':Env)(K':Heap)(h1:qQ env K env' K')(h2:Go.Fw.finR T rs K0 out K1 env' K'):Go.Fw.finR T rs K0 out K1 env K\/∃env' K',Yt env K env' K'/\Go.Fw.finR T rs K0 out K1 env' K':=.inr ⟨env',K',by rw[<-ku];exact h1,h2⟩
theorem z0p{τ:List (Nat×Nat)}{i j v s n m:Nat}(h:i=rn τ j)(h2:n=m):AV.own i v s 0 n=AV.ren τ (AV.own j v s 0 m):=by
 subst h h2;simp only[AV.ren]
theorem V5{v s:Nat}{k' l m:List (List D)}(h:l=m):Block.arr v s (List.take 0 k'++l)=Block.arr v s m:=by
 subst h;simp
end Go.Fw.Sy
namespace Go.Fw.Sy
open Go.Fw Go.Fw.Lx
variable [ae]
def allT(l:List Pr):List Tk:=l.flatMap fB
def Jc(l m:List Pr):Bool:=lenE (λq=>dV q.1 (dE q.2)) l m
def textS(w:List Tk):Str:=Lib.join (w.map word) [32]
def zZ:D:=.tuple [.str [],.i 140]
def jU(l:List Pr):D:=
 if(allT l).all valid then(match(readM (allT l)).1 with
  |none=>zZ
  |some ps=>if Jc ps l then .tuple [.str (textS (allT l)),.i 0]else zZ)
 else zZ
def gU(s:Str):D:=if decide ((s.length:Int)>65536)then .tuple [.sl 8 [],.i 0,.i 2]else match iE pStep s 0 with
 | .error a=>.tuple [.sl 8 [],.i (a:Nat),.i 30]
 | .ok l=>readD (s.length:Int) (readM l)
theorem V6{l:List Tk}(h:l.all valid=false):Gg l = .tuple [.str [],.i 30]:=by rw[Gg,h];rfl
theorem Aa{l:List Tk}(h:l.all valid=true):Gg l = .tuple [.str (textS l),.i 0]:=by rw[Gg,h];rfl
theorem qm{e:Int}{r:Option (List Pr)×List Tk}{ps:List Pr}(h:r.1=some ps):readD e r = .tuple [.sl 8 (ps.map Pr.cs),.i 0,.i 0]:=by
 obtain⟨o,l⟩:=r;subst h;rfl
theorem wR{e:Int}{r:Option (List Pr)×List Tk}(h:r.1=none):readD e r = .tuple [.sl 8 [],.i (at' e r.2),.i 140]:=by
 obtain⟨o,l⟩:=r;subst h;rfl
structure WrI(l r:List Pr)(ts:List Tk):Prop where
 e:allT l=ts++allT r
variable {ts : List Tk}
theorem LJ{l r:List Pr}{p:Pr}(h:WrI l (p::r) ts)(hn:(allT l).length<=1073741823):ts.length+(fB p).length<=1073741823:=by
 have:=congrArg List.length h.e
 simp only[allT,List.flatMap_cons,List.length_append]at this hn
 omega
theorem Ej{l r:List Pr}{p:Pr}(h:WrI l (p::r) ts):WrI l r (ts++fB p):=⟨by rw[h.e];simp[allT]⟩
theorem yu(l:List Pr):WrI l l []:=⟨rfl⟩
theorem LK{l:List Pr}(h:WrI l [] ts):ts=allT l:=by rw[h.e];simp[allT]
theorem SK{s:Str}{l:List Tk}(h:iE pStep s 0 = .ok l):l.length<=s.length/\l.all valid=true:=by
 rw[Rx]at h
 have:=zJ _ s 0 l (Nat.le_refl _) h
 exact⟨this.2.2,this.1⟩
theorem Ya{s:Str}(hs:s.length<=1073741823):∀l,iE pStep s 0 = .ok l->l.length<=1073741823:=λ_ h=>Nat.le_trans (SK h).1 hs
abbrev SL(n:Int):Ex:=.mk 1 [] 0 n []
abbrev Cc(s:Str):Ex:=.mk 2 s 0 0 []
def z6c:Str:=[112,114,111,99,101,115,115,111,114,32,105,110]
def SN:Str:=[112,114,111,99,101,115,115,111,114,32,112,32,108,97,116,101,110,99,121,32,48,32,116,97,105,108,32,102,111,114,101,118,101,114,32,123,32,111,117,116,32,49,32,47,32,48,32,59,32,125]
def z6d:Str:=[112,114,111,99,101,115,115,111,114,32,112,32,108,97,116,101,110,99,121,32,48,32,116,97,105,108,32,51,32,123,32,111,117,116,32,97,32,45,32,49,32,45,32,50,32,59,32,125]
def z6e:Str:=[112,114,111,99,101,115,115,111,114,32,112,32,108,97,116,101,110,99,121,32,48,32,116,97,105,108,32,51,32,123,32,111,117,116,32,40,32,97,32,45,32,98,32,41,32,42,32,45,32,50,32,59,32,125]
abbrev LM:Pr:=⟨[112],0,3,[],[],[],[],[⟨4,[],0,ex2 16 (ex2 16 (Cc [97]) (SL 1)) (SL 2)⟩]⟩
abbrev SQ:Pr:=⟨[112],0,3,[],[],[],[],[⟨4,[],0,ex2 17 (ex2 16 (Cc [97]) (Cc [98])) (ex1 14 (SL 2))⟩]⟩
abbrev LP:Pr:=⟨[],0,0,[],[],[],[],[]⟩
theorem nI(l m:List Pr):lenE (λq=>dV q.1 q.2) l m=true↔l=m:=nH (λx y=>Cb x y) l m
theorem lC(l:List Pr):lenE (λq=>dV q.1 q.2) l l=true:=(nI l l).2 rfl
theorem z0q:gU [] = .tuple [.sl 8 [],.i 0,.i 0]:=by kernel_rfl
theorem at_in:gU z6c = .tuple [.sl 8 [],.i 10,.i 140]:=by kernel_rfl
theorem z0r:gU SN = .tuple [.sl 8 [],.i 45,.i 140]:=by kernel_rfl
theorem z9m:gU z6d = .tuple [prs [LM],.i 0,.i 0]:=by kernel_rfl
theorem z0s:jU [SQ] = .tuple [.str z6e,.i 0]:=by kernel_rfl
theorem z9n(k:Int)(x y:Ex):D.agg [.i k,.str [],.i 0,.i 0,.sl 5 [x.cs,y.cs]]=(ex2 k x y).d:=by
 show _=D.agg [.i k,.str [],.i 0,.i 0,.sl 5 (Ex.css [x,y])]
 rw[Ex.css_cons,Ex.css_cons];rfl
theorem SS:jU [LP] = .tuple [.str [],.i 140]:=by kernel_rfl
end Go.Fw.Sy
