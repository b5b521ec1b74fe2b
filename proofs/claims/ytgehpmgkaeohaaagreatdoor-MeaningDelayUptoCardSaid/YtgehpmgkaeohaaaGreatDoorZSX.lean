/- A part of the proof. -/
import Derived.Test.YtgehpmgkaeohaaaGreatDoorZLX
set_option linter.all false
namespace Go.Fw.Sy
open Go.Fw.Lx (Tk)
abbrev Str:=List UInt8
abbrev gX:Str:=[112,114,111,99,101,115,115,111,114]
abbrev kG:Str:=[108,97,116,101,110,99,121]
abbrev GM:Str:=[116,97,105,108]
abbrev vP:Str:=[102,111,114,101,118,101,114]
abbrev PQ:Str:=[112,97,114,97,109]
abbrev PR:Str:=[115,116,97,116,101]
abbrev ZM:Str:=[108,105,110,101]
abbrev PS:Str:=[116,97,98,108,101]
abbrev zd1:Str:=[102,114,111,109]
abbrev wTo:Str:=[116,111]
abbrev zfj:Str:=[108,101,116]
abbrev zfk:Str:=[115,101,116]
abbrev ZN:Str:=[112,117,115,104]
abbrev zfl:Str:=[111,117,116]
abbrev wIf:Str:=[105,102]
abbrev zd2:Str:=[116,104,101,110]
abbrev zd3:Str:=[101,108,115,101]
abbrev wIn:Str:=[105,110]
abbrev zd4:Str:=[115,105,100,101]
abbrev zhn:Str:=[116,97,112]
abbrev zd5:Str:=[108,111,111,107]
abbrev zho:Str:=[115,97,116]
abbrev zhp:Str:=[109,105,110]
abbrev zhq:Str:=[109,97,120]
abbrev zhr:Str:=[97,98,115]
abbrev RN:Str:=[40]
abbrev ZO:Str:=[41]
abbrev fA:Str:=[44]
abbrev Di:Str:=[59]
abbrev sEq:Str:=[61]
abbrev sLt:Str:=[60]
abbrev uh:Str:=[43]
abbrev o8:Str:=[45]
abbrev qG:Str:=[42]
abbrev o9:Str:=[47]
abbrev z3d:Str:=[123]
abbrev za1:Str:=[125]
def words:List Str:=[gX,kG,GM,vP,PQ,PR,ZM,PS,zd1,wTo,zfj,zfk,ZN,zfl,wIf,zd2,zd3,wIn,zd4,zhn,zd5,zho,zhp,zhq,zhr]
def hd:List Tk->Tk
 | []=>⟨0,[],0,0⟩
 |t::_=>t
def isT(s:Str)(l:List Tk):Bool:=(!l.isEmpty&&(hd l).kind != 2)&&(hd l).text==s
def ZP(l:List Tk):Bool:=(!l.isEmpty&&(hd l).kind==1) && !words.contains (hd l).text
def lL(l:List Tk):Bool:=(!l.isEmpty&&(hd l).kind==2)&&decide ((hd l).n<=2147483648)
abbrev PM(α:Type):=List Tk->Option α×List Tk
def bnd{α β:Type}(r:Option α×List Tk)(f:α->PM β):Option β×List Tk:=match r with
 |(none,l)=>(none,l)
 |(some x,l)=>f x l
def bu(s:Str):PM Unit:=λl=>if isT s l then(some (),l.drop 1)else(none,l)
def oP:PM Str:=λl=>if ZP l then(some (hd l).text,l.drop 1)else(none,l)
def zl:PM Int:=λl=>if lL l then(some (hd l).n,l.drop 1)else(none,l)
def PT:PM Int:=λl=>if isT o8 l then bnd (zl (l.drop 1)) λn r=>(some (IntKind.i64.wrap (0-n)),r)else zl l
abbrev ex1(k:Int)(x:Ex):Ex:=.mk k [] 0 0 [x]
abbrev ex2(k:Int)(x y:Ex):Ex:=.mk k [] 0 0 [x,y]
def lM(u:PM Ex):Nat->Ex->PM Ex
 | 0,x=>λl=>(some x,l)
 |n+1,x=>λl=>
  if isT qG l then bnd (u (l.drop 1)) λy=>lM u n (ex2 17 x y)
  else if isT o9 l then
   (if lL (l.drop 1)&&(hd (l.drop 1)).n==0 then(none,l.drop 1)else bnd (zl (l.drop 1)) λk=>lM u n (.mk 18 [] 0 k [x]))
  else(some x,l)
def prodM(u:PM Ex):PM Ex:=λl=>bnd (u l) λx r=>lM u r.length x r
def CJ(u:PM Ex):Nat->Ex->PM Ex
 | 0,x=>λl=>(some x,l)
 |n+1,x=>λl=>
  if isT uh l then bnd (prodM u (l.drop 1)) λy=>CJ u n (ex2 15 x y)
  else if isT o8 l then bnd (prodM u (l.drop 1)) λy=>CJ u n (ex2 16 x y)
  else(some x,l)
def Tv(u:PM Ex):PM Ex:=λl=>bnd (prodM u l) λx r=>CJ u r.length x r
def GN(u:PM Ex):Nat->PM Ex
 | 0=>λl=>(none,l)
 | n+1=>λl=>if isT wIf l then
   bnd (Tv u (l.drop 1)) λa l=>bnd (bu sLt l) λ_ l=>bnd (Tv u l) λb l=>bnd (bu zd2 l) λ_ l=>
    bnd (GN u n l) λc l=>bnd (bu zd3 l) λ_ l=>bnd (GN u n l) λd l=>(some (.mk 19 [] 0 0 [a,b,c,d]),l)
  else Tv u l
def xG(u:PM Ex):PM Ex:=λl=>GN u (l.length+1) l
def zd6:List (Str×Int×Int×Bool):=[(wIn,6,1,false),(zd4,7,1,false),(zho,10,1,false),(zhr,13,1,false),(zhn,8,1,true),(zd5,9,1,true),(zhp,11,2,false),(zhq,12,2,false)]
def Xb(u:PM Ex):Nat->Nat->List Ex->PM (List Ex)
 | 0,_,acc=>λl=>(some acc,l)
 |m+1,i,acc=>λl=>bnd (if 0<i then bu fA l else(some (),l)) λ_ l=>bnd (xG u l) λx l=>Xb u m (i+1) (acc++[x]) l
def rM(u:PM Ex)(k:Int)(n:Nat)(named:Bool):PM Ex:=λl=>
 bnd (bu RN l) λ_ l=>bnd (if named then bnd (oP l) λs l=>bnd (bu fA l) λ_ l=>(some s,l)else(some [],l)) λs l=>
  bnd (Xb u n 0 [] l) λxs l=>bnd (bu ZO l) λ_ l=>(some (.mk k s 0 0 xs),l)
def look(s:Str):List (Str×Int×Int×Bool)->Option (Int×Int×Bool)
 | []=>none
 |(w,f)::r=>if s==w then some f else look s r
def BK(u:Option (PM Ex)):PM Ex:=λl=>
 if lL l then(some (.mk 1 [] 0 (hd l).n []),l.drop 1)
 else if ZP l then(some (.mk 2 (hd l).text 0 0 []),l.drop 1)
 else match u with
  |none=>(none,l)
  |some u=>
   if isT o8 l then bnd (u (l.drop 1)) λx l=>(some (ex1 14 x),l)
   else if isT RN l then bnd (xG u (l.drop 1)) λx l=>bnd (bu ZO l) λ_ l=>(some x,l)
   else match look (hd l).text zd6 with
    |some f=>if(hd l).kind==1 then rM u f.1 f.2.1.toNat f.2.2 (l.drop 1)else(none,l)
    |none=>(none,l)
def RQ:Nat->PM Ex
 | 0=>BK none
 |k+1=>BK (some (RQ k))
def dU:PM (Int×Int):=λl=>bnd (bu zd1 l) λ_ l=>bnd (PT l) λlo l=>bnd (bu wTo l) λ_ l=>bnd (PT l) λhi l=>(some (lo,hi),l)
def EJ:PM Bd:=λl=>bnd (oP l) λs l=>bnd (dU l) λb l=>(some ⟨s,b.1,b.2⟩,l)
abbrev IM:=Pr->List Tk->Bool×Pr×List Tk
def itB{α:Type}(p:Pr)(r:Option α×List Tk)(f:α->List Tk->Bool×Pr×List Tk):Bool×Pr×List Tk:=match r with
 |(none,l)=>(false,p,l)
 |(some x,l)=>f x l
def EK:IM:=λp l=>itB p (EJ l) λb l=>(true,{ p with params:=p.params++[b] },l)
def EL:IM:=λp l=>itB p (EJ l) λb l=>(true,{ p with states:=p.states++[b] },l)
def RS:IM:=λp l=>itB p (oP l) λs l=>itB p (zl l) λn l=>itB p (dU l) λb l=>(true,{ p with lines:=p.lines++[⟨s,n,b.1,b.2⟩] },l)
def Dj:Nat->List Int->PM (List Int)
 | 0,acc=>λl=>(some acc,l)
 |n+1,acc=>λl=>if isT fA l then bnd (PT (l.drop 1)) λv l=>Dj n (acc++[v]) l else(some acc,l)
def MX:PM (List Int):=λl=>bnd (PT l) λv l=>Dj l.length [v] l
def EM:IM:=λp l=>itB p (oP l) λs l=>itB p (bu sEq l) λ_ l=>itB p (MX l) λvs l=>(true,{ p with tables:=p.tables++[⟨s,vs⟩] },l)
def nO(k:Int):IM:=λp l=>itB p (if k != 4 then bnd (oP l) λs l=>bnd (bu sEq l) λ_ l=>(some s,l)else(some [],l)) λs l=>
 itB p (xG (RQ 63) l) λx l=>(true,{ p with stmts:=p.stmts++[⟨k,s,0,x⟩] },l)
def decls:List (Str×IM):=[(PQ,EK),(PR,EL),(ZM,RS),(PS,EM)]
def stmts:List (Str×IM):=[(zfj,nO 1),(zfk,nO 2),(ZN,nO 3),(zfl,nO 4)]
def find(s:Str):List (Str×IM)->Option IM
 | []=>none
 |(w,f)::r=>if s==w then some f else find s r
def pg(t:List (Str×IM)):Nat->IM
 | 0=>λp l=>(true,p,l)
 |n+1=>λp l=>if l.isEmpty then(true,p,l)else match find (hd l).text t with
  |none=>(true,p,l)
  | some f=>if isT (hd l).text l then match f p (l.drop 1)with
    |(false,p,l)=>(false,p,l)
    |(true,p,l)=>itB p (bu Di l) λ_ l=>pg t n p l
   else(true,p,l)
def jT(t:List (Str×IM)):IM:=λp l=>pg t l.length p l
def Dk:PM Pr:=λl=>bnd (bu gX l) λ_ l=>bnd (oP l) λs l=>bnd (bu kG l) λ_ l=>bnd (zl l) λa l=>
 bnd (bu GM l) λ_ l=>bnd (if lL l then zl l else bnd (bu vP l) λ_ l=>(some (-1),l)) λt l=>bnd (bu z3d l) λ_ l=>
  match jT decls ⟨s,a,t,[],[],[],[],[]⟩ l with
  |(false,_,l)=>(none,l)
  |(true,p,l)=>match jT stmts p l with
   |(false,_,l)=>(none,l)
   |(true,p,l)=>bnd (bu za1 l) λ_ l=>(some p,l)
def RU:Nat->List Pr->PM (List Pr)
 | 0,ps=>λl=>(some ps,l)
 |n+1,ps=>λl=>if l.isEmpty then(some ps,l)else bnd (Dk l) λp l=>RU n (ps++[p]) l
def readM(l:List Tk):Option (List Pr)×List Tk:=RU l.length [] l
def at'(e:Int):List Tk->Int
 | []=>e
 |t::_=>t.pos
abbrev Sh{α:Type}(m:PM α):Prop:=∀l o r,m l=(o,r)->r.length<=l.length
def Le{α:Type}(n:Nat)(r:Option α×List Tk):Prop:=r.2.length<=n
theorem Sh.le{α:Type}{m:PM α}(h:Sh m)(l:List Tk):Le l.length (m l):=h l _ _ rfl
theorem Sh.of{α:Type}{m:PM α}(h:∀l,Le l.length (m l)):Sh m:=λl o r e=>by have:=h l;rw[e]at this;exact this
theorem Le.mono{α:Type}{n m:Nat}{r:Option α×List Tk}(h:Le n r)(hn:n<=m):Le m r:=Nat.le_trans h hn
theorem Le.bnd{α β:Type}{n:Nat}{r:Option α×List Tk}{f:α->PM β}(h:Le n r)(hf:∀x l,l.length<=n->Le n (f x l)):Le n (bnd r f):=by
 obtain⟨o,l⟩:=r
 cases o with
 |none=>exact h
 |some x=>exact hf x l h
theorem Le.drop{α:Type}{o:Option α}{l:List Tk}:Le l.length (o,l.drop 1):=by simp[Le]
theorem Le.drop'{α:Type}{o:Option α}{l:List Tk}{n:Nat}(h:l.length<=n):Le n (o,l.drop 1):=by simp[Le];omega
theorem Le.self{α:Type}{o:Option α}{l:List Tk}{n:Nat}(h:l.length<=n):Le n (o,l):=h
theorem oQ{l:List Tk}{n:Nat}(h:l.length<=n):(l.drop 1).length<=n:=by simp;omega
theorem oU{s:Str}:Sh (bu s):=.of λl=>by unfold bu;split;exact .drop;exact .self (Nat.le_refl _)
theorem oV:Sh oP:=.of λl=>by unfold oP;split;exact .drop;exact .self (Nat.le_refl _)
theorem vS:Sh zl:=.of λl=>by unfold zl;split;exact .drop;exact .self (Nat.le_refl _)
theorem BL:Sh PT:=.of λl=>by
 unfold PT;split
 ·exact(vS.le _).mono (by simp) |>.bnd λ_ _ h=>h
 ·exact vS.le _
section
variable {u : PM Ex} (hu : Sh u)
include hu
theorem GR:∀(n:Nat) (x:Ex) (l:List Tk) (m:Nat),l.length<=m->Le m (lM u n x l)
 | 0,_,_,_,h=>h
 |n+1,x,l,m,h=>by
  unfold lM
  split
  ·exact((hu.le _).mono (oQ h)).bnd λy r hr=>GR n _ _ _ hr
  ·split<;>try exact h
   split
   ·exact .drop' h
   ·exact((vS.le _).mono (oQ h)).bnd λy r hr=>GR n _ _ _ hr
theorem BM:Sh (prodM u):=.of λl=>(hu.le l).bnd λx r hr=>GR hu _ _ _ _ hr
theorem MZ:∀(n:Nat) (x:Ex) (l:List Tk) (m:Nat),l.length<=m->Le m (CJ u n x l)
 | 0,_,_,_,h=>h
 |n+1,x,l,m,h=>by
  unfold CJ
  split
  ·exact(((BM hu).le _).mono (oQ h)).bnd λy r hr=>MZ n _ _ _ hr
  ·split
   ·exact(((BM hu).le _).mono (oQ h)).bnd λy r hr=>MZ n _ _ _ hr
   ·exact h
theorem z3e:Sh (Tv u):=.of λl=>((BM hu).le l).bnd λx r hr=>MZ hu _ _ _ _ hr
theorem zn:∀(n:Nat) (l:List Tk) (m:Nat),l.length<=m->Le m (GN u n l)
 | 0,_,_,h=>h
 |n+1,l,m,h=>by
  have hs:∀l:List Tk,l.length<=m->Le m (Tv u l):=λl h=>((z3e hu).le l).mono h
  have hw:∀(s:Str) (l:List Tk),l.length<=m->Le m (bu s l):=λs l h=>(oU.le l).mono h
  unfold GN
  split
  ·exact(hs _ (oQ h)).bnd λ_ _ h=>(hw _ _ h).bnd λ_ _ h=>(hs _ h).bnd λ_ _ h=>(hw _ _ h).bnd λ_ _ h=>(zn n _ _ h).bnd λ_ _ h=>(hw _ _ h).bnd λ_ _ h=>(zn n _ _ h).bnd λ_ _ h=>h
  ·exact hs _ h
theorem ZQ(n:Nat):Sh (GN u n):=.of λl=>zn hu n l _ (Nat.le_refl _)
theorem Na:Sh (xG u):=.of λl=>zn hu _ _ _ (Nat.le_refl _)
theorem Xc:∀(n i:Nat) (a:List Ex) (l:List Tk) (m:Nat),l.length<=m->Le m (Xb u n i a l)
 | 0,_,_,_,_,h=>h
 |n+1,i,a,l,m,h=>by
  refine Le.bnd ?_ λ_ _ h=>(((Na hu).le _).mono h).bnd λ_ _ h=>Xc n _ _ _ _ h
  split
  ·exact(oU.le _).mono h
  ·exact h
theorem z8m(k:Int)(n:Nat)(b:Bool):Sh (rM u k n b):=.of λl=>by
 have hw:∀(s:Str) (l':List Tk),l'.length<=l.length->Le l.length (bu s l'):=λs l h=>(oU.le l).mono h
 refine(hw _ _ (Nat.le_refl _)).bnd λ_ _ h=>Le.bnd ?_ λ_ _ h=>(Xc hu _ _ _ _ _ h).bnd λ_ _ h=>(hw _ _ h).bnd λ_ _ h=>h
 split
 ·exact((oV.le _).mono h).bnd λ_ _ h=>(hw _ _ h).bnd λ_ _ h=>h
 ·exact h
end
theorem PU{u:Option (PM Ex)}(hu:∀v,u=some v->Sh v):Sh (BK u):=.of λl=>by
 unfold BK
 split<;>try exact .drop
 split<;>try exact .drop
 split<;>try exact Nat.le_refl _
 rename_i v
 have hv:=hu v rfl
 split
 ·exact((hv.le _).mono (oQ (Nat.le_refl _))).bnd λ_ _ h=>h
 ·split
  ·exact(((Na hv).le _).mono (oQ (Nat.le_refl _))).bnd λ_ _ h=>((oU.le _).mono h).bnd λ_ _ h=>h
  ·split<;>try exact Nat.le_refl _
   split
   ·exact((z8m hv _ _ _).le _).mono (oQ (Nat.le_refl _))
   ·exact Nat.le_refl _
theorem BN:∀k,Sh (RQ k)
 | 0=>PU λ_ h=>by cases h
 |k+1=>PU λ_ h=>by cases h;exact BN k
theorem lN{s:Str}{l:List Tk}(h:isT s l=true):l ≠ []:=by rintro rfl;simp[isT]at h
theorem rq{l:List Tk}{n:Nat}(h:l ≠ [])(hn:l.length<=n):∃m,n=m+1/\(l.drop 1).length<=m:=by
 cases l with
 |nil=>simp_all
 |cons t r=>refine⟨n-1,?_,?_⟩<;>simp at hn ⊢ <;> omega
section
variable {u : PM Ex}
theorem Jy{n:Nat}{x:Ex}{l:List Tk}(hn:l.length<=n)(hT:isT qG l=true):lM u n x l=bnd (u (l.drop 1)) λy=>lM u (n-1) (ex2 17 x y):=by
 obtain⟨m,rfl,-⟩:=rq (lN hT) hn
 rw[Nat.add_sub_cancel];conv=>{ lhs;unfold lM };rw[if_pos hT]
theorem xH{n:Nat}{x:Ex}{l:List Tk}(hn:l.length<=n)(h0:isT qG l=false)(hT:isT o9 l=true):lM u n x l=if lL (l.drop 1)&&(hd (l.drop 1)).n==0 then(none,l.drop 1)else bnd (zl (l.drop 1)) λk=>lM u (n-1) (.mk 18 [] 0 k [x]):=by
 obtain⟨m,rfl,-⟩:=rq (lN hT) hn
 conv=>{ lhs;unfold lM };simp_all
theorem ZR{n:Nat}{x:Ex}{l:List Tk}(h0:isT qG l=false)(hT:isT o9 l=false):lM u n x l=(some x,l):=by
 cases n with
 |zero=>rfl
 |succ n=>unfold lM;simp_all
theorem PV{n:Nat}{x:Ex}{l:List Tk}(hn:l.length<=n)(hT:isT uh l=true):CJ u n x l=bnd (prodM u (l.drop 1)) λy=>CJ u (n-1) (ex2 15 x y):=by
 obtain⟨m,rfl,-⟩:=rq (lN hT) hn
 rw[Nat.add_sub_cancel];conv=>{ lhs;unfold CJ };rw[if_pos hT]
theorem Jz{n:Nat}{x:Ex}{l:List Tk}(hn:l.length<=n)(h0:isT uh l=false)(hT:isT o8 l=true):CJ u n x l=bnd (prodM u (l.drop 1)) λy=>CJ u (n-1) (ex2 16 x y):=by
 obtain⟨m,rfl,-⟩:=rq (lN hT) hn
 conv=>{ lhs;unfold CJ };simp_all
theorem z8n{n:Nat}{x:Ex}{l:List Tk}(h0:isT uh l=false)(hT:isT o8 l=false):CJ u n x l=(some x,l):=by
 cases n with
 |zero=>rfl
 |succ n=>unfold CJ;simp_all
structure LI{α:Type}(f:Nat->α->PM Ex)(R:Option Ex×List Tk)(n:Nat)(x:α)(l:List Tk):Prop where
 eq:f n x l=R
 le:l.length<=n
theorem LI.mu{n:Nat}{l:List Tk}(hn:l.length<=n)(h:l ≠ []):n-1<n:=by
 cases l with
 |nil=>simp_all
 |cons t r=>grind
theorem BO{α:Type}{m:PM α}(hm:Sh m){l r:List Tk}{n:Nat}{o:Option α}(hn:l.length<=n)(hl:l ≠ [])(h:m (l.drop 1)=(o,r)):r.length<=n-1:=by
 grind
end
section
variable {u : PM Ex} {o : Option Ex} {l l' l1 l2 l3 : List Tk} {n : Nat} {x y : Ex} {k : Int}
theorem CO{α β:Type}{a o:α}{b l:β}(h:(a,b)=(o,l)):o=a/\l=b:=by simp_all
theorem z8o(hM:prodM u l=(o,l'))(h:u l=(none,l2)):o=none/\l'=l2:=by unfold prodM at hM;rw[h]at hM;exact CO hM
theorem zd7(hM:prodM u l=(o,l'))(h:u l=(some y,l2)):LI (lM u) (o,l') l2.length y l2:=by unfold prodM at hM;rw[h]at hM;exact⟨hM,Nat.le_refl _⟩
theorem zd8(hI:LI (lM u) (o,l') n x l1)(h0:isT qG l1=false)(h1:isT o9 l1=false):o=some x/\l'=l1:=by have h:=hI.eq;grind[ZR]
theorem z8p(hI:LI (lM u) (o,l') n x l1)(hT:isT qG l1=true)(h:u (l1.drop 1)=(none,l2)):o=none/\l'=l2:=by have h1:=hI.eq;rw[Jy hI.le hT,h]at h1;exact CO h1
theorem z8q(hs:Sh u)(hI:LI (lM u) (o,l') n x l1)(hT:isT qG l1=true)(h:u (l1.drop 1)=(some y,l2)):LI (lM u) (o,l') (n-1) (ex2 17 x y) l2:=by
 have h1:=hI.eq;rw[Jy hI.le hT,h]at h1;exact⟨h1,BO hs hI.le (lN hT) h⟩
theorem zia{b c:Bool}(h:(bif b then c else false)=true):(b&&c)=true:=by simp_all
theorem num0'{b c:Bool}(h:(bif b then c else false)=false):(b&&c)=false:=by simp_all
theorem z8r(hI:LI (lM u) (o,l') n x l1)(h0:isT qG l1=false)(hT:isT o9 l1=true)(h:(bif lL (l1.drop 1)then(hd (l1.drop 1)).n==0 else false)=true):o=none/\l'=l1.drop 1:=by
 have h1:=hI.eq;rw[xH hI.le h0 hT,zia h]at h1;exact CO h1
theorem z8s(hI:LI (lM u) (o,l') n x l1)(h0:isT qG l1=false)(hT:isT o9 l1=true)(h:(bif lL (l1.drop 1)then(hd (l1.drop 1)).n==0 else false)=false)(hk:zl (l1.drop 1)=(none,l3)):o=none/\l'=l3:=by
 have h1:=hI.eq;rw[xH hI.le h0 hT,num0' h,hk]at h1;exact CO h1
theorem z8t(hI:LI (lM u) (o,l') n x l1)(h0:isT qG l1=false)(hT:isT o9 l1=true)(h:(bif lL (l1.drop 1)then(hd (l1.drop 1)).n==0 else false)=false)(hk:zl (l1.drop 1)=(some k,l3)):LI (lM u) (o,l') (n-1) (.mk 18 [] 0 k [x]) l3:=by
 have h1:=hI.eq;rw[xH hI.le h0 hT,num0' h,hk]at h1;exact⟨h1,BO vS hI.le (lN hT) hk⟩
theorem zd9(hM:Tv u l=(o,l'))(h:prodM u l=(none,l2)):o=none/\l'=l2:=by unfold Tv at hM;rw[h]at hM;exact CO hM
theorem zgh(hM:Tv u l=(o,l'))(h:prodM u l=(some y,l2)):LI (CJ u) (o,l') l2.length y l2:=by unfold Tv at hM;rw[h]at hM;exact⟨hM,Nat.le_refl _⟩
theorem zgi(hI:LI (CJ u) (o,l') n x l1)(h0:isT uh l1=false)(h1:isT o8 l1=false):o=some x/\l'=l1:=by have h:=hI.eq;grind[z8n]
theorem zea(hI:LI (CJ u) (o,l') n x l1)(hT:isT uh l1=true)(h:prodM u (l1.drop 1)=(none,l2)):o=none/\l'=l2:=by have h1:=hI.eq;rw[PV hI.le hT,h]at h1;exact CO h1
theorem zeb(hs:Sh u)(hI:LI (CJ u) (o,l') n x l1)(hT:isT uh l1=true)(h:prodM u (l1.drop 1)=(some y,l2)):LI (CJ u) (o,l') (n-1) (ex2 15 x y) l2:=by
 have h1:=hI.eq;rw[PV hI.le hT,h]at h1;exact⟨h1,BO (BM hs) hI.le (lN hT) h⟩
theorem zec(hI:LI (CJ u) (o,l') n x l1)(h0:isT uh l1=false)(hT:isT o8 l1=true)(h:prodM u (l1.drop 1)=(none,l2)):o=none/\l'=l2:=by have h1:=hI.eq;rw[Jz hI.le h0 hT,h]at h1;exact CO h1
theorem zed(hs:Sh u)(hI:LI (CJ u) (o,l') n x l1)(h0:isT uh l1=false)(hT:isT o8 l1=true)(h:prodM u (l1.drop 1)=(some y,l2)):LI (CJ u) (o,l') (n-1) (ex2 16 x y) l2:=by
 have h1:=hI.eq;rw[Jz hI.le h0 hT,h]at h1;exact⟨h1,BO (BM hs) hI.le (lN hT) h⟩
theorem ZT{α:Type}{f:Nat->α->PM Ex}{R:Option Ex×List Tk}{x:α}{s:Str}(hI:LI f R n x l1)(hT:isT s l1=true):n-1<n:=LI.mu hI.le (lN hT)
end
variable [ae] {l : List Tk} {W : TypeId} {next pan : Next} {env : Env} {L : List Nat} {az : List AV} {f : FuncId} {e d : Int} {K : Heap}
abbrev pB(l:List Tk)(e d:Int):Block:=.cells [.data (.sl 4 (l.map Tk.cs)),.data (.i e),.data (.i d)]
def lQ(W:TypeId)(e:Int)(l:List Tk):D:=.iface W (.agg [.i (at' e l)])
def kz{α:Type}(W:TypeId)(g:α->D)(e:Int)(o:Option α)(l:List Tk):gG:=match o with
 |some x=>.ret (.data (g x))
 |none=>.pan (.data (lQ W e l))
theorem vT{α:Type}{g:α->D}{e:Int}{o:Option α}:(kz W g e o l).av.ids = []:=by cases o<;>rfl
abbrev B':=FuncId->List AV->Heap->gG->Heap->Prop
variable {B : B'}
theorem PW{ρ:List (Nat×Nat)}:∀ds:List D,AV.ren.go ρ (ds.map .data)=ds.map .data
 | []=>rfl
 |d::r=>by show AV.ren ρ (.data d)::AV.ren.go ρ (r.map .data)=_;rw[PW r];rfl
theorem ui{s:Str}(h:isT s l=true):0<l.length:=by
 grind[isT]
theorem kH{α:Type}{B:B'}{L:List Nat}{f:FuncId}{az:List AV}{env:Env}{K:Heap}{next pan:Next}{M:PM α}{g:α->D}{W:TypeId}{e d:Int}(ds:List D)
  (H:∀l o l',M l=(o,l')->B f (.ptr 1000000 0::ds.map .data) [(1000000,pB l e d)] (kz W g e o l') [(1000000,pB l' e d)])
  (hk:∃X l,az = .ptr X 0::ds.map .data/\K.get X=some (pB l e d)/\allIn L [X]=true/\(∀x l',M l=(some x,l')->next (.data (g x)) (K.put X (pB l' e d))) /\
   (∀l',M l=(none,l')->pan (.data (lQ W e l')) (K.put X (pB l' e d)))) :
  ∃(as0:List AV) (K0:Heap) (out:gG) (K1:Heap) (ρ:List (Nat×Nat)),B f as0 K0 out K1/\AV.ren.go ρ as0=az/\Heap.sub ρ K K0/\bV ρ K0 K1 out.av env K L=true /\
  outGo ρ K1 K next pan out:=by
 obtain⟨X,l,has,hK,hL,h1,h2⟩:=hk
 rcases hM:M l with⟨o,l'⟩
 refine⟨_,_,_,_,[(1000000,X)],H l o l' hM,?_,⟨hK,trivial⟩,?_,?_⟩
 ·rw[has]
  show AV.ren _ _::AV.ren.go _ (ds.map .data)=_
  rw[PW];rfl
 ·simp only[bV,vT,keys,aO,rn]
  rw[hL]
  rfl
 ·cases o with
  |some x=>exact h1 x l' hM
  |none=>exact h2 l' hM
theorem zee(a b c:D)(ρ:List (Nat×Nat)):AV.ren.go ρ [.data a,.data b,.data c] = [.data a,.data b,.data c]:=rfl
theorem lentP'{α:Type}{B:B'}{L:List Nat}{f:FuncId}{az:List AV}{env:Env}{K:Heap}{next pan:Next}{M:PM α}{g:α->D}{W:TypeId}{e d:Int}{ds:List AV}(hr:∀ρ,AV.ren.go ρ ds=ds)
  (H:∀l o l',M l=(o,l')->B f (.ptr 1000000 0::ds) [(1000000,pB l e d)] (kz W g e o l') [(1000000,pB l' e d)])
  (hk:∃X es l,az = .ptr X 0::ds/\K.get X=some (.cells [.data (.sl 4 es),.data (.i e),.data (.i d)])/\es=l.map Tk.cs/\allIn L [X]=true/\(∀x l',M l=(some x,l')->next (.data (g x)) (K.put X (pB l' e d))) /\
   (∀l',M l=(none,l')->pan (.data (lQ W e l')) (K.put X (pB l' e d)))) :
  ∃(as0:List AV) (K0:Heap) (out:gG) (K1:Heap) (ρ:List (Nat×Nat)),B f as0 K0 out K1/\AV.ren.go ρ as0=az/\Heap.sub ρ K K0/\bV ρ K0 K1 out.av env K L=true /\
  outGo ρ K1 K next pan out:=by
 obtain⟨X,es,l,has,hK,rfl,hL,h1,h2⟩:=hk
 rcases hM:M l with⟨o,l'⟩
 refine⟨_,_,_,_,[(1000000,X)],H l o l' hM,?_,⟨hK,trivial⟩,?_,?_⟩
 ·rw[has]
  show AV.ren _ _::AV.ren.go _ ds=_
  rw[hr];rfl
 ·simp only[bV,vT,keys,aO,rn]
  rw[hL]
  rfl
 ·cases o with
  |some x=>exact h1 x l' hM
  |none=>exact h2 l' hM
theorem zef{α:Type}{B:B'}{L:List Nat}{f:FuncId}{az:List AV}{env:Env}{K:Heap}{next pan:Next}{M:PM α}{g:α->D}{W:TypeId}{e d:Int}(P:List Tk->Prop)(hs:∀l o r,M l=(o,r)->r.length<=l.length)
  (H:∀l o l',P l->M l=(o,l')->B f [.ptr 1000000 0] [(1000000,pB l e d)] (kz W g e o l') [(1000000,pB l' e d)])
  (hk:∃X l,az = [.ptr X 0]/\K.get X=some (pB l e d)/\allIn L [X]=true/\P l/\(∀x l',M l=(some x,l')->l'.length<=l.length->next (.data (g x)) (K.put X (pB l' e d))) /\
   (∀l',M l=(none,l')->pan (.data (lQ W e l')) (K.put X (pB l' e d)))) :
  ∃(as0:List AV) (K0:Heap) (out:gG) (K1:Heap) (ρ:List (Nat×Nat)),B f as0 K0 out K1/\AV.ren.go ρ as0=az/\Heap.sub ρ K K0/\bV ρ K0 K1 out.av env K L=true /\
  outGo ρ K1 K next pan out:=by
 obtain⟨X,l,has,hK,hL,hP,h1,h2⟩:=hk
 rcases hM:M l with⟨o,l'⟩
 refine⟨_,_,_,_,[(1000000,X)],H l o l' hP hM,?_,⟨hK,trivial⟩,?_,?_⟩
 ·rw[has];rfl
 ·simp only[bV,vT,keys,aO,rn]
  rw[hL]
  rfl
 ·cases o with
  |some x=>exact h1 x l' hM (hs _ _ _ hM)
  |none=>exact h2 l' hM
theorem Xd:zl=λl=>if lL l then(some (hd l).n,l.drop 1)else(none,l):=rfl
theorem Xe:oP=λl=>if ZP l then(some (hd l).text,l.drop 1)else(none,l):=rfl
theorem Xf{α:Type}{B:B'}{L:List Nat}{f:FuncId}{az:List AV}{env:Env}{K:Heap}{next pan:Next}{M:PM α}{g:α->D}{W:TypeId}{e d:Int}(c:List Tk->Bool)(v:List Tk->α)(hv:M=λl=>if c l then(some (v l),l.drop 1)else(none,l))
  (H:∀l o l',M l=(o,l')->B f [.ptr 1000000 0] [(1000000,pB l e d)] (kz W g e o l') [(1000000,pB l' e d)])
  (hk:∃X l,az = [.ptr X 0]/\K.get X=some (pB l e d)/\allIn L [X]=true/\(c l=true->next (.data (g (v l))) (K.put X (pB (l.drop 1) e d))) /\
   (c l=false->pan (.data (lQ W e l)) (K.put X (pB l e d)))) :
  ∃(as0:List AV) (K0:Heap) (out:gG) (K1:Heap) (ρ:List (Nat×Nat)),B f as0 K0 out K1/\AV.ren.go ρ as0=az/\Heap.sub ρ K K0/\bV ρ K0 K1 out.av env K L=true /\
  outGo ρ K1 K next pan out:=by
 obtain⟨X,l,has,hK,hL,h1,h2⟩:=hk
 refine kH [] H ⟨X,l,has,hK,hL,λx l' h=>?_,λl' h=>?_⟩
 ·grind
 grind
theorem Dl{B:B'}{L:List Nat}{f:FuncId}{az:List AV}{env:Env}{K:Heap}{next pan:Next}{e d:Int}
  (H:∀s l,B f [.ptr 1000000 0,.data (.str s)] [(1000000,pB l e d)] (.ret (.data (.b (isT s l)))) [(1000000,pB (bif isT s l then l.drop 1 else l) e d)])
  (hk:∃X s l,az = [.ptr X 0,.data (.str s)]/\K.get X=some (pB l e d)/\allIn L [X]=true/\(isT s l=true->0<l.length->next (.data (.b true)) (K.put X (pB (l.drop 1) e d))) /\
   (isT s l=false->next (.data (.b false)) (K.put X (pB l e d)))) :
  ∃(as0:List AV) (K0:Heap) (out:gG) (K1:Heap) (ρ:List (Nat×Nat)),B f as0 K0 out K1/\AV.ren.go ρ as0=az/\Heap.sub ρ K K0/\bV ρ K0 K1 out.av env K L=true /\
  outGo ρ K1 K next pan out:=by
 obtain⟨X,s,l,has,hK,hL,h1,h2⟩:=hk
 refine⟨_,_,_,_,[(1000000,X)],H s l,has.symm,⟨hK,trivial⟩,?_,?_⟩
 ·simp only[bV,keys,aO,rn]
  rw[hL]
  rfl
 ·cases h:isT s l with
  |true=>exact h1 h (ui h)
  |false=>exact h2 h
theorem Dn{B:B'}{L:List Nat}{f:FuncId}{az:List AV}{env:Env}{K:Heap}{next pan:Next}{W:TypeId}{e d:Int}
  (H:∀s l o l',bu s l=(o,l')->B f [.ptr 1000000 0,.gs 1000001 1 [[.str s]]] [(1000000,pB l e d),(1000001,.tok 1 1)] (kz W (λ_:Unit=>.tuple []) e o l') [(1000000,pB l' e d),(1000001,.tok 1 1)])
  (hk:∃X Y s l,az = [.ptr X 0,.gs Y 1 [[.str s]]]/\K.get X=some (pB l e d)/\K.get Y=some (.tok 1 1)/\Nat.beq X Y=false/\allIn L [X,Y]=true/\(isT s l=true->0<l.length->next (.data (.tuple [])) ((K.put Y (.tok 1 1)).put X (pB (l.drop 1) e d))) /\
   (isT s l=false->pan (.data (lQ W e l)) ((K.put Y (.tok 1 1)).put X (pB l e d)))) :
  ∃(as0:List AV) (K0:Heap) (out:gG) (K1:Heap) (ρ:List (Nat×Nat)),B f as0 K0 out K1/\AV.ren.go ρ as0=az/\Heap.sub ρ K K0/\bV ρ K0 K1 out.av env K L=true /\
  outGo ρ K1 K next pan out:=by
 obtain⟨X,Y,s,l,has,hK,hY,hXY,hL,h1,h2⟩:=hk
 rcases hM:bu s l with⟨o,l'⟩
 refine⟨_,_,_,_,[(1000000,X),(1000001,Y)],H s l o l' hM,has.symm,⟨hK,hY,trivial⟩,?_,?_⟩
 ·have hn:pJ [X,Y]=true:=by
   grind[pJ,nR]
  show(pJ [X,Y]&&(_&&(allIn L [X,Y]&&(_&&(allIn _ (kz W (λ_:Unit=>D.tuple []) e o l').av.ids&&_)))))=true
  rw[hn,hL,vT]
  rfl
 ·unfold bu at hM
  cases h:isT s l with
  |true=>rw[h]at hM;cases hM;exact h1 h (ui h)
  |false=>rw[h]at hM;cases hM;exact h2 h
theorem JA{B:B'}{L:List Nat}{f:FuncId}{az:List AV}{env:Env}{K:Heap}{next pan:Next}{W:TypeId}{e d:Int}
  (H:∀l,B f [.ptr 1000000 0] [(1000000,pB l e d)] (.pan (.data (lQ W e l))) [(1000000,pB l e d)])
  (hk:∃X l,az = [.ptr X 0]/\K.get X=some (pB l e d)/\allIn L [X]=true/\pan (.data (lQ W e l)) (K.put X (pB l e d))) :
  ∃(as0:List AV) (K0:Heap) (out:gG) (K1:Heap) (ρ:List (Nat×Nat)),B f as0 K0 out K1/\AV.ren.go ρ as0=az/\Heap.sub ρ K K0/\bV ρ K0 K1 out.av env K L=true /\
  outGo ρ K1 K next pan out:=by
 obtain⟨X,l,has,hK,hL,h1⟩:=hk
 refine⟨_,_,_,_,[(1000000,X)],H l,has.symm,⟨hK,trivial⟩,?_,h1⟩
 simp only[bV,keys,aO,rn]
 rw[hL]
 rfl
def JB:List Str->PM Unit
 | []=>λl=>(some (),l)
 |s::r=>λl=>if isT s l then JB r (l.drop 1)else(none,l)
theorem Xg{s:Str}:JB [s] l=bu s l:=by rfl
theorem jD{α:Type}{T:Tbl}{rs:List ResultVar}{K0 K K1:Heap}{q:Prop}{g:α->D}{e:Int}{o:Option α}(h:finR T rs K0 (kz W g e o l) K1 env K):finR T rs K0 (kz W g e o l) K1 env K\/q:=.inl h
theorem gY{α:Type}{T:Tbl}{rs:List ResultVar}{K0 K K1:Heap}{g:α->D}{e:Int}{x:α}(h:finR T rs K0 (.ret (.data (g x))) K1 env K):finR T rs K0 (kz W g e (some x) l) K1 env K:=h
theorem bD{α:Type}{K0 K K1:Heap}{x:AV}{g:α->D}{e:Int}{o:Option α}(h:CG K0 K x K1 (kz W g e o l)):CG K0 K x K1 (kz W g e o l):=h
theorem aV{α:Type}{K0 K K1:Heap}{x:AV}{g:α->D}{e:Int}(h:fin K0 K x (.data (lQ W e l)) K1):CG K0 K x K1 (kz W g e (none:Option α) l):=by
 unfold CG;exact h
theorem fD{α β:Type}{a o:α}{b l:β}(h:(a,b)=(o,l)):o=a/\l=b:=by simp_all
theorem zeg(h:0<l.length):(l.map Tk.cs)[0]? = some (hd l).cs:=by
 cases l with
 |nil=>simp_all
 |cons t r=>rfl
theorem sG{T:Prop}{n:Int}{q:List D->Prop}(hT:T)(hn:n=0)(h:0<l.length)(hq:q (hd l).cs):T/\∃c,(0<=n/\(l.map Tk.cs)[n.toNat]? = some c)/\q c:=by
 subst hn
 exact⟨hT,_,⟨Int.le_refl _,zeg h⟩,hq⟩
theorem Nb:decide (((l.map Tk.cs).length:Int)>0) = !l.isEmpty:=by cases l<;>simp
theorem ZU:cut (some 1) none (l.map Tk.cs)=(l.drop 1).map Tk.cs:=by simp[cut]
theorem PX(h:ZP l=true):0<l.length:=by
 grind[ZP]
theorem BP(h:lL l=true):0<l.length:=by
 grind[lL]
theorem zfm(h:0<l.length):sN (some 1) none (l.map Tk.cs).length:=by
 grind[sN]
end Go.Fw.Sy
namespace Go.Fw.Sy
open Go.Fw.Lx (Tk)
variable [ae]
def FY(v:Str):List Str->Int->Int
 | [],_=>-1
 |x::r,i=>if v==x then i else FY v r (i+1)
theorem Xh{v:Str}:∀(l:List Str) (i:Int),0<=i->decide (FY v l i>=0)=l.contains v
 | [],i,_=>rfl
 |x::r,i,h=>by
  have ih:=Xh r (i+1) (v:=v) (by omega)
  rw[List.contains_cons,<-ih]
  cases e:v==x with
  |true=>simp[FY,e,h]
  |false=>simp[FY,e]
theorem ZV{v:Str}{l:List Str}:decide (FY v l 0>=0)=l.contains v:=Xh l 0 (Int.le_refl 0)
theorem ZW{W:TypeId}{e:Int}{l:List Tk}(h:decide (((l.map Tk.cs).length:Int)>0)=true):D.iface W (.agg [.val (.int .i64 (hd l).pos)])=lQ W e l:=by
 cases l with
 |nil=>simp at h
 |cons t r=>rfl
theorem Xi{W:TypeId}{e:Int}{l:List Tk}(h:decide (((l.map Tk.cs).length:Int)>0)=false):D.iface W (.agg [.val (.int .i64 e)])=lQ W e l:=by
 cases l with
 |nil=>rfl
 |cons t r=>simp_all
theorem xI{c:Bool}{p q:Prop}(h:c=false)(hq:q):BrI c p q:=by grind[BrI.ff]
theorem xJ{c:Bool}{p q:Prop}(h:c=true)(hp:p):BrI c p q:=by grind[BrI.tt]
theorem bP(T:Tbl)(A:FuncId->List D->lX->Prop)(B:FuncId->List AV->Heap->gG->Heap->Prop){kp:Nat}{Q:List Rec->Prop}{l:List Oper}{ms:List Nat}{tr:List Rec}{env:Env}{K:Heap}(bs:List Bool)(_:l.length=bs.length)(h:(ms.map λm=>m.testBit kp)=bs)(h2:zF T A B Q l bs tr env K):KE (kS T A B kp Q l ms tr env K):=
 rest_step T A B bs h h2
theorem quiet_step{T:Tbl}{N:List Nat}{kp i:Nat}{tr:List Rec}{q:Prop}(h:iq T N kp i tr=true)(h2:q):iq T N kp i tr=true/\q:=⟨h,h2⟩
theorem zib(x:Ex):AV.data (.sl 5 [x.cs])=AV.data (.sl 5 (Ex.css [x])):=by rw[Ex.css_cons];rfl
theorem zhs(x y:Ex):AV.data (.sl 5 [x.cs,y.cs])=AV.data (.sl 5 (Ex.css [x,y])):=by rw[Ex.css_cons,Ex.css_cons];rfl
theorem ry{p r:Prop}{q:Prop}(h1:p)(h2:r)(h:q):p/\r/\q:=⟨h1,h2,h⟩
structure AI(u:PM Ex)(k:Int)(s:Str)(R:Option Ex×List Tk)(m i j:Nat)(xs:List Ex)(l:List Tk):Prop where
 eq:bnd (Xb u j i xs l) (λxs l=>bnd (bu ZO l) λ_ l=>(some (.mk k s 0 0 xs),l))=R
 le:i+j=m
 len:xs.length=i
section
variable {u : PM Ex} {k : Int} {s : Str} {o : Option Ex} {l l' l1 l2 : List Tk} {m i j : Nat} {xs : List Ex} {x : Ex}
theorem RV(hI:AI u k s (o,l') m i j xs l1)(h:decide ((i:Int)<(m:Int))=true):∃j',j=j'+1:=by
 have h:=of_decide_eq_true h
 have:=hI.le
 exact⟨j-1,by omega⟩
theorem z3f(hI:AI u k s (o,l') m i j xs l1)(h:decide ((i:Int)<(m:Int))=true)(h0:decide ((i:Int)>0)=true)(hW:isT fA l1=true)(hx:xG u (l1.drop 1)=(some x,l2)):AI u k s (o,l') m (i+1) (j-1) (xs++[x]) l2:=by
 obtain⟨j',rfl⟩:=RV hI h
 have h0:=of_decide_eq_true h0
 refine⟨?_,by have:=hI.le;omega,by have:=hI.len;simp;omega⟩
 have h1:=hI.eq
 have h0:0<i:=by omega
 simp only[Xb,h0,bnd,bu,hW,if_true,hx]at h1
 exact h1
theorem z3g(hI:AI u k s (o,l') m i j xs l1)(h:decide ((i:Int)<(m:Int))=true)(h0:decide ((i:Int)>0)=false)(hx:xG u l1=(some x,l2)):AI u k s (o,l') m (i+1) (j-1) (xs++[x]) l2:=by
 obtain⟨j',rfl⟩:=RV hI h
 have h0:=of_decide_eq_false h0
 refine⟨?_,by have:=hI.le;omega,by have:=hI.len;simp;omega⟩
 have h1:=hI.eq
 have h0:¬0<i:=by omega
 simp[Xb,h0,bnd,hx]at h1
 exact h1
theorem z3h(hI:AI u k s (o,l') m i j xs l1)(h:decide ((i:Int)<(m:Int))=true)(h0:decide ((i:Int)>0)=true)(hW:isT fA l1=false):o=none/\l'=l1:=by
 obtain⟨j',rfl⟩:=RV hI h
 have h0:=of_decide_eq_true h0
 have h1:=hI.eq
 have h0:0<i:=by omega
 simp[Xb,h0,bu,hW]at h1
 exact CO h1
theorem z3i(hI:AI u k s (o,l') m i j xs l1)(h:decide ((i:Int)<(m:Int))=true)(h0:decide ((i:Int)>0)=true)(hW:isT fA l1=true)(hx:xG u (l1.drop 1)=(none,l2)):o=none/\l'=l2:=by
 obtain⟨j',rfl⟩:=RV hI h
 have h0:=of_decide_eq_true h0
 have h1:=hI.eq
 have h0:0<i:=by omega
 simp only[Xb,h0,bnd,bu,hW,if_true,hx]at h1
 exact CO h1
theorem z3j(hI:AI u k s (o,l') m i j xs l1)(h:decide ((i:Int)<(m:Int))=true)(h0:decide ((i:Int)>0)=false)(hx:xG u l1=(none,l2)):o=none/\l'=l2:=by
 obtain⟨j',rfl⟩:=RV hI h
 have h0:=of_decide_eq_false h0
 have h1:=hI.eq
 have h0:¬0<i:=by omega
 simp only[Xb,h0,if_false,bnd,hx]at h1
 exact CO h1
theorem z3k(hI:AI u k s (o,l') m i j xs l1)(h:decide ((i:Int)<(m:Int))=false)(hW:isT ZO l1=true):o=some (.mk k s 0 0 xs)/\l'=l1.drop 1:=by
 have h:=of_decide_eq_false h
 have:j=0:=by have:=hI.le;omega
 subst this
 have h1:=hI.eq
 simp only[Xb,bnd,bu,hW]at h1
 exact CO h1
theorem z3l(hI:AI u k s (o,l') m i j xs l1)(h:decide ((i:Int)<(m:Int))=false)(hW:isT ZO l1=false):o=none/\l'=l1:=by
 have h:=of_decide_eq_false h
 have:j=0:=by have:=hI.le;omega
 subst this
 have h1:=hI.eq
 simp only[Xb,bnd,bu,hW]at h1
 exact CO h1
theorem PY(hI:AI u k s (o,l') m i j xs l1)(h:decide ((i:Int)<(m:Int))=true):j-1<j:=by
 obtain⟨j',rfl⟩:=RV hI h;omega
theorem z8u(hM:rM u k m false l=(o,l'))(hW:isT RN l=true):AI u k [] (o,l') m 0 m [] (l.drop 1):=
 ⟨by rw[rM]at hM;simp only[bu,hW]at hM;exact hM,by omega,rfl⟩
theorem z8v(hM:rM u k m true l=(o,l'))(hW:isT RN l=true)(hn:oP (l.drop 1)=(some s,l1))(hC:isT fA l1=true):AI u k s (o,l') m 0 m [] (l1.drop 1):=
 ⟨by rw[rM]at hM;simp only[bnd,bu,hW,if_true,hn,hC]at hM;exact hM,by omega,rfl⟩
theorem Xj{b:Bool}(hM:rM u k m b l=(o,l'))(hW:isT RN l=false):o=none/\l'=l:=by
 rw[rM]at hM;simp[bu,hW]at hM;exact CO hM
theorem z8w(hM:rM u k m true l=(o,l'))(hW:isT RN l=true)(hn:oP (l.drop 1)=(none,l1)):o=none/\l'=l1:=by
 rw[rM]at hM;simp only[bnd,bu,hW,if_true,hn]at hM;exact CO hM
theorem z8x(hM:rM u k m true l=(o,l'))(hW:isT RN l=true)(hn:oP (l.drop 1)=(some s,l1))(hC:isT fA l1=false):o=none/\l'=l1:=by
 rw[rM]at hM;simp only[bnd,bu,hW,if_true,hn,hC]at hM;exact CO hM
end
abbrev zht(f:Str×Int×Int×Bool):D×D:=(.str f.1,.agg [.i f.2.1,.i f.2.2.1,.b f.2.2.2])
theorem PZ{t:Str}{F:D->Prop}{G:Prop}:∀(fs:List (Str×Int×Int×Bool)),(∀f,look t fs=some f->F (.agg [.i f.1,.i f.2.1,.b f.2.2]))->(look t fs=none->G)->rE (nS (.str t) (fs.map zht)) F G
 | [],_,h2=>h2 rfl
 |(w,f)::r,h1,h2=>by
  simp only[List.map_cons,nS,dA,sameS,look]at h1 h2 ⊢
  cases h:t==w with
  |true=>
   simp only[h]at h1
   exact h1 f rfl
  |false=>
   simp only[h]at h1 h2
   exact PZ r h1 h2
theorem z3m{t:Str}{f:Int×Int×Bool}(h:look t zd6=some f):0<=f.2.1/\f.2.1<=2:=by
 have:∀fs:List (Str×Int×Int×Bool),(∀x∈fs,0<=x.2.2.1/\x.2.2.1<=2)->look t fs=some f->0<=f.2.1/\f.2.1<=2:=by
  intro fs
  induction fs with
  |nil=>intro _ h;cases h
  |cons x r ih=>
   grind[look]
 exact this zd6 (by decide) h
theorem JC{d:Int}(h0:0<=d)(h1:d<=63):IntKind.i64.wrap (IntKind.i64.wrap (d+1)-1)=d:=by
 grind[bC]
theorem z8y{d:Int}(h0:0<=d)(h1:d<=63):IntKind.i64.wrap (d+1)=d+1:=bC (by omega) (by omega)
theorem Xk{u:PM Ex}{k:Int}{s:Str}{R:Option Ex×List Tk}{m i j:Nat}{xs:List Ex}{l:List Tk}(hI:AI u k s R m i j xs l)(hm:m<=2):(xs.map Ex.cs).length<=1073741824:=by
 rw[List.length_map];have:=hI.le;have:=hI.len;omega
theorem Xl{k:Int}{s:Str}{xs:List Ex}:D.agg [.val (.int .i64 k),.str s,.val (.int .i64 0),.val (.int .i64 0),.sl 5 (xs.map Ex.cs)]=Ex.d (.mk k s 0 0 xs):=by
 rw[<-Ex.css_eq];rfl
theorem ZX{k:Int}{a b c d:Ex}:D.agg [.val (.int .i64 k),.str [],.val (.int .i64 0),.val (.int .i64 0),.sl 5 [a.cs,b.cs,c.cs,d.cs]]=Ex.d (.mk k [] 0 0 [a,b,c,d]):=by
 show _=D.agg [.i k,.str [],.i 0,.i 0,.sl 5 (Ex.css [a,b,c,d])]
 simp[Ex.css_cons];rfl
theorem ZY{k n:Int}{a:Ex}:D.agg [.val (.int .i64 k),.str [],.val (.int .i64 0),.val (.int .i64 n),.sl 5 [a.cs]]=Ex.d (.mk k [] 0 n [a]):=by
 show _=D.agg [.i k,.str [],.i 0,.i n,.sl 5 (Ex.css [a])]
 simp[Ex.css_cons];rfl
theorem z3n{i m:Nat}(h:decide ((i:Int)<(m:Int))=true)(hm:m<=2):i<=9223372036854775806:=by grind
theorem P5{n:Nat}(h:n<=9223372036854775806):AV.data (.val (.int .i64 (IntKind.i64.wrap ((n:Int)+1))))=AV.data (.val (.int .i64 ((n+1:Nat):Int))):=OG h
end Go.Fw.Sy
namespace Go.Fw.Sy
open Go.Fw.Lx (Tk)
variable [ae] {Df : FuncId → List AV → Option D → Bool → Heap → Heap → Prop}
theorem emp_len'{l:List Tk}(h:(((l.map Tk.cs).length:Int)==0)=false):0<l.length:=by
 grind
theorem Nc{Df:FuncId->List AV->Option D->Bool->Heap->Heap->Prop}{f:FuncId}{az:List AV}{env:Env}{K:Heap}{next:Heap->Prop}
  (h:∃(as0:List AV) (K0:Heap) (K1:Heap) (ρ:List (Nat×Nat)),Df f as0 none false K0 K1/\AV.ren.go ρ as0=az/\Heap.sub ρ K K0/\bV ρ K0 K1 .top env K (reach K 1000 (AV.ids.go az) [])=true/\next (jZ ρ K1 K)) :
  ∃(as0:List AV) (K0:Heap) (K1:Heap) (ρ:List (Nat×Nat)),Df f as0 none false K0 K1/\AV.ren.go ρ as0=az/\Heap.sub ρ K K0/\bV ρ K0 K1 .top env K (reach K 1000 (AV.ids.go az) [])=true/\next (jZ ρ K1 K):=h
theorem z8z{d:Int}(h:d=63):¬(decide (IntKind.i64.wrap (d+1)>=64)=false):=by subst h;decide
theorem ZZ{d:Int}(h0:0<=d)(h:d<63):¬(decide (IntKind.i64.wrap (d+1)>=64)=true):=by
 grind[bC]
theorem P6{uo:Option (PM Ex)}{o:Option Ex}{l l':List Tk}(hM:BK uo l=(o,l'))(h:(((l.map Tk.cs).length:Int)==0)=true):o=none/\l'=l:=by
 have hl:l = []:=by simp_all
 subst hl
 cases uo with
 |none=>exact CO hM
 |some u=>exact CO hM
theorem P7{α:Type}{T:Tbl}{f:FuncId}{az:List AV}{d:D}{rs:List ResultVar}{K0:Heap}{env:Env}{K K1:Heap}{W:TypeId}{g:α->D}{e:Int}{o:Option α}{l:List Tk}(h:DZ T Df f az d rs K0 env K K1 (kz W g e o l)):DZ T Df f az d rs K0 env K K1 (kz W g e o l):=h
end Go.Fw.Sy
namespace Go.Fw.Sy
open Go.Fw.Lx (Tk)
variable [ae]
abbrev xB(p:Pr):Block:=.cells [.data (.str p.name),.data (.i p.latency),.data (.i p.tail),.gs 1000002 3 (p.params.map Bd.cs),.gs 1000003 3 (p.states.map Bd.cs),.gs 1000004 4 (p.lines.map Ln.cs),.gs 1000005 2 (p.tables.map Tb.cs),.gs 1000006 8 (p.stmts.map Sm.cs)]
def JD(W:TypeId)(e:Int)(ok:Bool)(l:List Tk):gG:=match ok with
 |true=>.ret (.data (.tuple []))
 |false=>.pan (.data (lQ W e l))
structure Sz(p:Pr)(l:List Tk):Prop where
 a:p.params.length+l.length<=1073741823
 b:p.states.length+l.length<=1073741823
 c:p.lines.length+l.length<=1073741823
 d:p.tables.length+l.length<=1073741823
 e:p.stmts.length+l.length<=1073741823
theorem Sz.le{p:Pr}{l l':List Tk}(h:Sz p l)(hl:l'.length<=l.length):Sz p l':=⟨by have:=h.a;omega,by have:=h.b;omega,by have:=h.c;omega,by have:=h.d;omega,by have:=h.e;omega⟩
theorem uj{T:Tbl}{rs:List ResultVar}{K0 K K1:Heap}{env:Env}{q:Prop}{W:TypeId}{e:Int}{ok:Bool}{l:List Tk}(h:finR T rs K0 (JD W e ok l) K1 env K):finR T rs K0 (JD W e ok l) K1 env K\/q:=.inl h
theorem lS{T:Tbl}{rs:List ResultVar}{K0 K K1:Heap}{env:Env}{W:TypeId}{e:Int}{l:List Tk}(h:finR T rs K0 (.ret (.data (.tuple []))) K1 env K):finR T rs K0 (JD W e true l) K1 env K:=h
theorem xK{K0 K K1:Heap}{x:AV}{W:TypeId}{e:Int}{ok:Bool}{l:List Tk}(h:CG K0 K x K1 (JD W e ok l)):CG K0 K x K1 (JD W e ok l):=h
theorem nP{K0 K K1:Heap}{x:AV}{W:TypeId}{e:Int}{l:List Tk}(h:fin K0 K x (.data (lQ W e l)) K1):CG K0 K x K1 (JD W e false l):=by
 unfold CG;exact h
theorem lT{ok ok':Bool}{p p':Pr}{l l':List Tk}(h:(ok,p,l)=(ok',p',l')):ok'=ok/\p'=p/\l'=l:=by simp_all
theorem vU{B:B'}{L:List Nat}{az:List AV}{env:Env}{K:Heap}{next pan:Next}(f:FuncId)(r:Bool×Pr×List Tk)
  (h:∀p l,(r=(true,p,l)->∃(as0:List AV) (K0:Heap) (out:gG) (K1:Heap) (ρ:List (Nat×Nat)),B f as0 K0 out K1/\AV.ren.go ρ as0=az/\Heap.sub ρ K K0/\bV ρ K0 K1 out.av env K L=true/\outGo ρ K1 K next pan out) /\
   (r=(false,p,l)->∃(as0:List AV) (K0:Heap) (out:gG) (K1:Heap) (ρ:List (Nat×Nat)),B f as0 K0 out K1/\AV.ren.go ρ as0=az/\Heap.sub ρ K K0/\bV ρ K0 K1 out.av env K L=true/\outGo ρ K1 K next pan out)) :
  ∃(as0:List AV) (K0:Heap) (out:gG) (K1:Heap) (ρ:List (Nat×Nat)),B f as0 K0 out K1/\AV.ren.go ρ as0=az/\Heap.sub ρ K K0/\bV ρ K0 K1 out.av env K L=true/\outGo ρ K1 K next pan out:=by
 obtain⟨ok,p,l⟩:=r
 cases ok with
 |true=>grind
 |false=>simp_all
theorem zhu{t a b c d:Str}{fa fb fc fd:D}{F:D->Prop}{G:Prop}(h1:(t==a)=true->F fa)(h2:(t==a)=false->(t==b)=true->F fb)(h3:(t==a)=false->(t==b)=false->(t==c)=true->F fc)
  (h4:(t==a)=false->(t==b)=false->(t==c)=false->(t==d)=true->F fd) (h5:(t==a)=false->(t==b)=false->(t==c)=false->(t==d)=false->G) :
  rE (nS (.str t) [(.str a,fa),(.str b,fb),(.str c,fc),(.str d,fd)]) F G:=by
 simp[nS,dA,sameS]
 cases ha:t==a with
 |true=>exact h1 ha
 |false=>
  cases hb:t==b with
  |true=>exact h2 ha hb
  |false=>
   cases hc:t==c with
   |true=>exact h3 ha hb hc
   |false=>
    cases hd:t==d with
    |true=>exact h4 ha hb hc hd
    |false=>exact h5 ha hb hc hd
theorem qH{α:Type}{l:List α}{f:α->List D}{x:α}{ys:List (List D)}(h:ys = [f x]):l.map f++ys=(l++[x]).map f:=by subst h;simp
theorem zeh{α:Type}{B:B'}{L:List Nat}{f:FuncId}{az:List AV}{env:Env}{K:Heap}{next pan:Next}{M:PM α}{g:α->D}{W:TypeId}{e d:Int}{ds:List AV}(hr:∀ρ,AV.ren.go ρ ds=ds)(P:List Tk->Prop)
  (H:∀l o l',P l->M l=(o,l')->B f (.ptr 1000000 0::ds) [(1000000,pB l e d)] (kz W g e o l') [(1000000,pB l' e d)])
  (hk:∃X l,az = .ptr X 0::ds/\K.get X=some (pB l e d)/\allIn L [X]=true/\P l/\(∀x l',M l=(some x,l')->next (.data (g x)) (K.put X (pB l' e d))) /\
   (∀l',M l=(none,l')->pan (.data (lQ W e l')) (K.put X (pB l' e d)))) :
  ∃(as0:List AV) (K0:Heap) (out:gG) (K1:Heap) (ρ:List (Nat×Nat)),B f as0 K0 out K1/\AV.ren.go ρ as0=az/\Heap.sub ρ K K0/\bV ρ K0 K1 out.av env K L=true /\
  outGo ρ K1 K next pan out:=by
 obtain⟨X,l,has,hK,hL,hP,h1,h2⟩:=hk
 rcases hM:M l with⟨o,l'⟩
 refine⟨_,_,_,_,[(1000000,X)],H l o l' hP hM,?_,⟨hK,trivial⟩,?_,?_⟩
 ·rw[has]
  show AV.ren _ _::AV.ren.go _ ds=_
  rw[hr];rfl
 ·simp only[bV,vT,keys,aO,rn]
  rw[hL]
  rfl
 ·cases o with
  |some x=>exact h1 x l' hM
  |none=>exact h2 l' hM
theorem zei(f:FuncId)(ρ:List (Nat×Nat)):AV.ren.go ρ [.fn f []] = [.fn f []]:=rfl
structure LsI(R:Option (List Int)×List Tk)(n:Nat)(vs:List Int)(l:List Tk):Prop where
 eq:Dj n vs l=R
 le:l.length<=n
 sz:vs.length+l.length<=1073741824
theorem z3o{n:Nat}{vs:List Int}{l:List Tk}(hn:l.length<=n)(hT:isT fA l=true):Dj n vs l=bnd (PT (l.drop 1)) λv l=>Dj (n-1) (vs++[v]) l:=by
 obtain⟨m,rfl,-⟩:=rq (lN hT) hn
 rw[Nat.add_sub_cancel];conv=>{ lhs;unfold Dj }
 rw[if_pos hT]
theorem zej{n:Nat}{vs:List Int}{l:List Tk}(hT:isT fA l=false):Dj n vs l=(some vs,l):=by
 cases n with
 |zero=>rfl
 |succ n=>unfold Dj;simp_all
section
variable {o : Option (List Int)} {l l' l1 l2 : List Tk} {n : Nat} {vs : List Int} {v : Int}
theorem z81(hM:MX l=(o,l'))(h:PT l=(none,l2)):o=none/\l'=l2:=by unfold MX at hM;rw[h]at hM;exact CO hM
theorem zek(hl:l.length<=1073741823)(hM:MX l=(o,l'))(h:PT l=(some v,l2)):LsI (o,l') l2.length [v] l2:=by
 have:=BL _ _ _ h
 unfold MX at hM;rw[h]at hM;exact⟨hM,Nat.le_refl _,by simp;omega⟩
theorem zel(hI:LsI (o,l') n vs l1)(h0:isT fA l1=false):o=some vs/\l'=l1:=by have h:=hI.eq;grind[zej]
theorem z88(hI:LsI (o,l') n vs l1)(hT:isT fA l1=true)(h:PT (l1.drop 1)=(none,l2)):o=none/\l'=l2:=by have h1:=hI.eq;rw[z3o hI.le hT,h]at h1;exact CO h1
theorem zem(hI:LsI (o,l') n vs l1)(hT:isT fA l1=true)(h:PT (l1.drop 1)=(some v,l2)):LsI (o,l') (n-1) (vs++[v]) l2:=by
 have h1:=hI.eq;rw[z3o hI.le hT,h]at h1;have h2:=BL _ _ _ h;have h3:=hI.sz;have h4:=ui hT;exact⟨h1,BO BL hI.le (lN hT) h,by grind⟩
theorem Z4{R:Option (List Int)×List Tk}(hI:LsI R n vs l1):(vs.map z5k).length<=1073741824:=by have:=hI.sz;grind
theorem z9a(hI:LsI (o,l') n vs l1)(hT:isT fA l1=true):n-1<n:=LI.mu hI.le (lN hT)
end
theorem Xm{l:List Tk}(h:decide (((l.map Tk.cs).length:Int)>0)=true):0<l.length:=by
 simp_all
def ISz(p:Pr)(l:List Tk)(p':Pr)(l':List Tk):Prop:=l'.length<=l.length/\p'.params.length<=p.params.length+1/\p'.states.length<=p.states.length+1/\p'.lines.length<=p.lines.length+1/\p'.tables.length<=p.tables.length+1/\p'.stmts.length<=p.stmts.length+1
theorem sH{α:Type}{p:Pr}{r:Option α×List Tk}{f:α->List Tk->Bool×Pr×List Tk}{p':Pr}{l l':List Tk}(h:itB p r f=(true,p',l'))(hr:Le l.length r)(hf:∀x m,m.length<=l.length->f x m=(true,p',l')->ISz p l p' l'):ISz p l p' l':=by
 obtain⟨o,m⟩:=r
 cases o with
 |none=>cases h
 |some x=>exact hf x m hr h
theorem JE:Sh dU:=.of λl=>(oU.le l).bnd λ_ _ h=>((BL.le _).mono h).bnd λ_ _ h=>((oU.le _).mono h).bnd λ_ _ h=>((BL.le _).mono h).bnd λ_ _ h=>h
theorem P8:Sh EJ:=.of λl=>(oV.le l).bnd λ_ _ h=>((JE.le _).mono h).bnd λ_ _ h=>h
theorem P9:∀(n:Nat) (vs:List Int) (l:List Tk) (m:Nat),l.length<=m->Le m (Dj n vs l)
 | 0,_,_,_,h=>h
 |n+1,vs,l,m,h=>by
  unfold Dj
  split
  ·exact((BL.le _).mono (oQ h)).bnd λ_ _ h=>P9 n _ _ _ h
  ·exact h
theorem z9b:Sh MX:=.of λl=>(BL.le l).bnd λ_ _ h=>P9 _ _ _ _ h
theorem GU{p p':Pr}{l l':List Tk}(h:EK p l=(true,p',l')):ISz p l p' l':=sH h (P8.le l) λb m hm h=>by
 cases h;exact⟨hm,by simp,by simp,by simp,by simp,by simp⟩
theorem GV{p p':Pr}{l l':List Tk}(h:EL p l=(true,p',l')):ISz p l p' l':=sH h (P8.le l) λb m hm h=>by
 cases h;exact⟨hm,by simp,by simp,by simp,by simp,by simp⟩
theorem Nh{p p':Pr}{l l':List Tk}(h:RS p l=(true,p',l')):ISz p l p' l':=sH h (oV.le l) λb m hm h=>sH h ((vS.le _).mono hm) λn m hm h=>sH h ((JE.le _).mono hm) λb m hm h=>by
 cases h;exact⟨hm,by simp,by simp,by simp,by simp,by simp⟩
theorem GX{p p':Pr}{l l':List Tk}(h:EM p l=(true,p',l')):ISz p l p' l':=sH h (oV.le l) λb m hm h=>sH h ((oU.le _).mono hm) λn m hm h=>sH h ((z9b.le _).mono hm) λb m hm h=>by
 cases h;exact⟨hm,by simp,by simp,by simp,by simp,by simp⟩
theorem Nj{k:Int}{p p':Pr}{l l':List Tk}(h:nO k p l=(true,p',l')):ISz p l p' l':=sH h (by
  split
  ·exact(oV.le l).bnd λ_ _ h=>((oU.le _).mono h).bnd λ_ _ h=>h
  ·exact Nat.le_refl _) λb m hm h=>sH h (((Na (BN 63)).le _).mono hm) λn m hm h=>by
 cases h;exact⟨hm,by simp,by simp,by simp,by simp,by simp⟩
structure ItI(t:List (Str×IM))(R:Bool×Pr×List Tk)(n:Nat)(p:Pr)(l:List Tk):Prop where
 eq:pg t n p l=R
 le:l.length<=n
 sz:Sz p l
section
variable {t : List (Str × IM)} {ok : Bool} {p p' p1 : Pr} {l l' l1 l2 : List Tk} {n : Nat} {f : IM}
theorem ItI.start(hz:Sz p l)(hM:jT t p l=(ok,p',l')):ItI t (ok,p',l') l.length p l:=⟨hM,Nat.le_refl _,hz⟩
theorem z9c(hn:l1.length<=n)(hT:isT (hd l1).text l1=true)(hf:find (hd l1).text t=some f):pg t n p l1=match f p (l1.drop 1)with
  |(false,p,l)=>(false,p,l)
  |(true,p,l)=>itB p (bu Di l) λ_ l=>pg t (n-1) p l:=by
 obtain⟨m,rfl,-⟩:=rq (lN hT) hn
 conv=>{ lhs;unfold pg }
 have:l1.isEmpty=false:=by cases l1 with |nil=>exact absurd rfl (lN hT) |cons a r=>rfl
 grind
theorem zen(hI:ItI t (ok,p',l') n p l1)(hT:isT (hd l1).text l1=true)(hf:find (hd l1).text t=some f)(hR:f p (l1.drop 1)=(false,p1,l2)):ok=false/\p'=p1/\l'=l2:=by
 have h:=hI.eq;rw[z9c hI.le hT hf,hR]at h;exact lT h
theorem zeo(hI:ItI t (ok,p',l') n p l1)(hT:isT (hd l1).text l1=true)(hf:find (hd l1).text t=some f)(hR:f p (l1.drop 1)=(true,p1,l2))(hW:isT Di l2=false):ok=false/\p'=p1/\l'=l2:=by
 have h:=hI.eq;rw[z9c hI.le hT hf,hR]at h
 simp[bu,hW]at h
 exact lT h
theorem zhv(hI:ItI t (ok,p',l') n p l1)(hT:isT (hd l1).text l1=true)(hf:find (hd l1).text t=some f)(hR:f p (l1.drop 1)=(true,p1,l2))(hz:ISz p (l1.drop 1) p1 l2)(hW:isT Di l2=true):ItI t (ok,p',l') (n-1) p1 (l2.drop 1):=by
 have h:=hI.eq;rw[z9c hI.le hT hf,hR]at h
 simp only[bu,hW]at h
 have h2:=ui hW
 obtain⟨z1,z2,z3,z4,z5,z6⟩:=hz
 simp at z1
 have hs:=hI.sz
 have:=hs.a;have:=hs.b;have:=hs.c;have:=hs.d;have:=hs.e
 have:=hI.le
 refine⟨h,by grind,⟨?_,?_,?_,?_,?_⟩⟩<;>simp<;>omega
theorem zep(hI:ItI t (ok,p',l') n p l1)(hT:isT (hd l1).text l1=true):n-1<n:=LI.mu hI.le (lN hT)
theorem zeq(hI:ItI t (ok,p',l') n p l1)(h:decide (((l1.map Tk.cs).length:Int)>0)=false):ok=true/\p'=p/\l'=l1:=by
 have hl:l1 = []:=by simp_all
 subst hl
 have h:=hI.eq
 cases n<;>exact lT h
theorem zer(hI:ItI t (ok,p',l') n p l1)(hf:find (hd l1).text t=none):ok=true/\p'=p/\l'=l1:=by
 have h:=hI.eq
 cases n with
 |zero=>exact lT h
 |succ n=>
  grind[pg]
theorem zes(hI:ItI t (ok,p',l') n p l1)(hT:isT (hd l1).text l1=false):ok=true/\p'=p/\l'=l1:=by
 have h:=hI.eq
 cases n with
 |zero=>exact lT h
 |succ n=>
  unfold pg at h
  grind
end
abbrev p0(s:Str)(a t:Int):Pr:=⟨s,a,t,[],[],[],[],[]⟩
def vV(s:Str)(a t:Int):PM Pr:=λl=>match jT decls (p0 s a t) l with
 |(false,_,l)=>(none,l)
 |(true,p,l)=>match jT stmts p l with
  |(false,_,l)=>(none,l)
  |(true,p,l)=>bnd (bu za1 l) λ_ l=>(some p,l)
theorem zo(l:List Tk):Dk l=bnd (bu gX l) λ_ l=>bnd (oP l) λs l=>bnd (bu kG l) λ_ l=>bnd (zl l) λa l=>
 bnd (bu GM l) λ_ l=>bnd (if lL l then zl l else bnd (bu vP l) λ_ l=>(some (-1),l)) λt l=>bnd (bu z3d l) λ_ l=>vV s a t l:=rfl
section
variable {o : Option Pr} {l l' l1 l2 l3 : List Tk} {s : Str} {a t : Int} {p1 p2 : Pr}
theorem z9d(hM:Dk l=(o,l'))(h0:isT gX l=true)(h1:oP (l.drop 1)=(some s,l1))(h2:isT kG l1=true)(h3:zl (l1.drop 1)=(some a,l2))(h4:isT GM l2=true)(h5:lL (l2.drop 1)=true)
  (h6:isT z3d ((l2.drop 1).drop 1)=true):vV s a (hd (l2.drop 1)).n (((l2.drop 1).drop 1).drop 1)=(o,l')/\(((l2.drop 1).drop 1).drop 1).length<=l.length:=by
 refine⟨?_,?_⟩
 ·rw[zo]at hM
  have e5:zl (l2.drop 1)=(some (hd (l2.drop 1)).n,(l2.drop 1).drop 1):=by unfold zl;rw[if_pos h5]
  simp only[bu,h0,if_true,bnd,h1,h2,h3,h4,h5,e5,h6]at hM
  exact hM
 ·have:=oV _ _ _ h1;have:=vS _ _ _ h3;grind
theorem z9e(hM:Dk l=(o,l'))(h0:isT gX l=true)(h1:oP (l.drop 1)=(some s,l1))(h2:isT kG l1=true)(h3:zl (l1.drop 1)=(some a,l2))(h4:isT GM l2=true)(h5:lL (l2.drop 1)=true)
  (h6:isT z3d ((l2.drop 1).drop 1)=false):o=none/\l'=(l2.drop 1).drop 1:=by
 rw[zo]at hM
 have e5:zl (l2.drop 1)=(some (hd (l2.drop 1)).n,(l2.drop 1).drop 1):=by unfold zl;rw[if_pos h5]
 simp only[bu,h0,if_true,bnd,h1,h2,h3,h4,h5,e5,h6]at hM
 exact CO hM
theorem z9f(hM:Dk l=(o,l'))(h0:isT gX l=true)(h1:oP (l.drop 1)=(some s,l1))(h2:isT kG l1=true)(h3:zl (l1.drop 1)=(some a,l2))(h4:isT GM l2=true)(h5:lL (l2.drop 1)=false)(h7:isT vP (l2.drop 1)=true)
  (h6:isT z3d ((l2.drop 1).drop 1)=true):vV s a (-1) (((l2.drop 1).drop 1).drop 1)=(o,l')/\(((l2.drop 1).drop 1).drop 1).length<=l.length:=by
 refine⟨?_,?_⟩
 ·rw[zo]at hM
  simp only[bu,h0,if_true,bnd,h1,h2,h3,h4,h5,h7,h6,Bool.false_eq_true,if_false]at hM
  exact hM
 ·have:=oV _ _ _ h1;have:=vS _ _ _ h3;grind
theorem z9g(hI:vV s a t l=(o,l'))(h:jT decls (p0 s a t) l=(false,p1,l1)):o=none/\l'=l1:=by
 grind[vV]
theorem z9h(hI:vV s a t l=(o,l'))(h:jT decls (p0 s a t) l=(true,p1,l1))(h2:jT stmts p1 l1=(false,p2,l2)):o=none/\l'=l2:=by
 grind[vV]
theorem z9i(hI:vV s a t l=(o,l'))(h:jT decls (p0 s a t) l=(true,p1,l1))(h2:jT stmts p1 l1=(true,p2,l2))(hW:isT za1 l2=false):o=none/\l'=l2:=by
 unfold vV at hI;rw[h]at hI;simp[h2,bu,hW]at hI;exact CO hI
theorem zet(hI:vV s a t l=(o,l'))(h:jT decls (p0 s a t) l=(true,p1,l1))(h2:jT stmts p1 l1=(true,p2,l2))(hW:isT za1 l2=true):o=some p2/\l'=l2.drop 1:=by
 unfold vV at hI;rw[h]at hI;simp only[h2,bu,hW]at hI;exact CO hI
end
theorem sz0{s:Str}{a t:Int}{l:List Tk}(h:l.length<=1073741823):Sz (p0 s a t) l:=⟨by simpa using h,by simpa using h,by simpa using h,by simpa using h,by simpa using h⟩
theorem Xn{t:List (Str×IM)}(ht:∀x∈t,∀p l p' l',x.2 p l=(true,p',l')->ISz p l p' l'){s:Str}{f:IM}(h:find s t=some f){p p':Pr}{l l':List Tk}(hf:f p l=(true,p',l')):ISz p l p' l':=by
 induction t with
 |nil=>cases h
 |cons x r ih=>
  simp[find]at h
  split at h
  ·simp_all
  ·exact ih (λy hy=>ht y (by simp[hy])) h
theorem Qa:∀x∈decls,∀p l p' l',x.2 p l=(true,p',l')->ISz p l p' l':=by
 intro x hx p l p' l' h
 simp[decls]at hx
 rcases hx with rfl |rfl |rfl |rfl<;>grind[GU,GV,Nh,GX]
theorem Z5:∀x∈stmts,∀p l p' l',x.2 p l=(true,p',l')->ISz p l p' l':=by
 intro x hx p l p' l' h
 simp[stmts]at hx
 rcases hx with rfl |rfl |rfl |rfl<;>grind[Nj]
theorem JF{t:List (Str×IM)}(ht:∀x∈t,∀p l p' l',x.2 p l=(true,p',l')->ISz p l p' l'):∀(n:Nat) (p:Pr) (l:List Tk) (p':Pr) (l':List Tk),pg t n p l=(true,p',l')->Sz p l->Sz p' l'/\l'.length<=l.length
 | 0,p,l,p',l',h,hz=>by cases h;simp_all
 |n+1,p,l,p',l',h,hz=>by
  unfold pg at h
  split at h<;>try(simp_all;done)
  split at h<;>try(simp_all;done)
  rename_i f hf
  split at h
  ·split at h
   ·cases h
   ·rename_i p1 l1 hR
    have hi:=Xn ht hf hR
    obtain⟨z1,z2,z3,z4,z5,z6⟩:=hi
    by_cases hW:isT Di l1=true
    ·simp only[bu,hW,if_true,itB]at h
     have:=hz.a;have:=hz.b;have:=hz.c;have:=hz.d;have:=hz.e
     have:=ui hW
     have ih:=JF ht n p1 (l1.drop 1) p' l' h ⟨by grind,by grind,by grind,by grind,by grind⟩
     grind
    ·simp only[bu,hW,if_false,itB]at h
     cases h
  simp_all
theorem JG{p p':Pr}{l l':List Tk}(h:jT decls p l=(true,p',l'))(hz:Sz p l):Sz p' l':=(JF Qa _ _ _ _ _ h hz).1
structure RdI(R:Option (List Pr)×List Tk)(n:Nat)(ps:List Pr)(l:List Tk):Prop where
 eq:RU n ps l=R
 le:l.length<=n
 sz:ps.length+l.length<=1073741823
theorem GY{t:List (Str×IM)}(ht:∀x∈t,∀p l p' l',x.2 p l=(true,p',l')->ISz p l p' l'):∀(n:Nat) (p:Pr) (l:List Tk) (p':Pr) (l':List Tk),pg t n p l=(true,p',l')->l'.length<=l.length
 | 0,p,l,p',l',h=>by cases h;omega
 |n+1,p,l,p',l',h=>by
  unfold pg at h
  split at h<;>try(simp_all;done)
  split at h<;>try(simp_all;done)
  rename_i f hf
  split at h
  ·split at h<;>try(cases h)
   rename_i p1 l1 hR
   have z1:=(Xn ht hf hR).1
   by_cases hW:isT Di l1=true
   ·simp only[bu,hW]at h
    have ih:=GY ht n p1 (l1.drop 1) p' l' h
    grind
   ·simp[bu,hW]at h
    cases h
  simp_all
theorem kJ{α β:Type}{r:Option α×List Tk}{f:α->PM β}{y:β}{m:List Tk}(h:bnd r f=(some y,m)):∃x l,r=(some x,l)/\f x l=(some y,m):=by
 obtain⟨o,l⟩:=r
 cases o with
 |none=>cases h
 |some x=>exact⟨x,l,rfl,h⟩
theorem qI{s:Str}{l m:List Tk}{y:Unit}(h:bu s l=(some y,m)):isT s l=true/\m=l.drop 1:=by
 unfold bu at h
 grind
theorem Z7{s:Str}{a t:Int}{l m:List Tk}{p:Pr}(h:vV s a t l=(some p,m)):m.length<=l.length:=by
 unfold vV at h
 split at h<;>try(cases h)
 rename_i h1
 split at h
 ·cases h
 ·rename_i h2
  obtain⟨x,l3,h3,h4⟩:=kJ h
  obtain⟨-,rfl⟩:=qI h3
  have:=GY Qa _ _ _ _ _ h1
  have:=GY Z5 _ _ _ _ _ h2
  grind
theorem z9j{l m:List Tk}{p:Pr}(h:Dk l=(some p,m)):m.length<l.length:=by
 obtain⟨x,l1,h1,h⟩:=kJ h
 obtain⟨hT,rfl⟩:=qI h1
 obtain⟨s,l2,h2,h⟩:=kJ h
 obtain⟨x,l3,h3,h⟩:=kJ h
 obtain⟨-,rfl⟩:=qI h3
 obtain⟨a,l4,h4,h⟩:=kJ h
 obtain⟨x,l5,h5,h⟩:=kJ h
 obtain⟨-,rfl⟩:=qI h5
 obtain⟨t,l6,h6,h⟩:=kJ h
 obtain⟨x,l7,h7,h⟩:=kJ h
 obtain⟨-,rfl⟩:=qI h7
 have e2:=oV _ _ _ h2
 have e4:=vS _ _ _ h4
 have e6:l6.length<=(l4.drop 1).length:=by
  split at h6<;>try exact vS _ _ _ h6
  obtain⟨x,l8,h8,h9⟩:=kJ h6
  have:=oU _ _ _ h8
  simp_all
 have e8:=Z7 h
 grind[ui]
def Z8(e:Int):Option (List Pr)×List Tk->D
 |(some ps,_)=>.tuple [.sl 8 (ps.map Pr.cs),.i 0,.i 0]
 |(none,l)=>.tuple [.sl 8 [],.i (at' e l),.i 140]
section
variable {l l1 l2 : List Tk} {n : Nat} {ps : List Pr} {p : Pr} {R : Option (List Pr) × List Tk}
theorem zeu(hl:l.length<=1073741823):RdI (readM l) l.length [] l:=⟨rfl,Nat.le_refl _,by simpa using hl⟩
theorem Xo(hn:l.length<=n)(h:decide (((l.map Tk.cs).length:Int)>0)=true):RU n ps l=bnd (Dk l) λp l=>RU (n-1) (ps++[p]) l:=by
 conv=>{ lhs;unfold RU }
 grind
theorem zev(hI:RdI R n ps l)(h:decide (((l.map Tk.cs).length:Int)>0)=true)(hp:Dk l=(none,l2)):R=(none,l2):=by
 have h1:=hI.eq;rw[Xo hI.le h,hp]at h1;exact h1.symm
theorem zew(hI:RdI R n ps l)(h:decide (((l.map Tk.cs).length:Int)>0)=true)(hp:Dk l=(some p,l2)):RdI R (n-1) (ps++[p]) l2:=by
 have h1:=hI.eq;rw[Xo hI.le h,hp]at h1
 have h2:=z9j hp;have h3:=hI.le;have h4:=hI.sz
 exact⟨h1,by omega,by simp;omega⟩
theorem z9k(hI:RdI R n ps l)(h:decide (((l.map Tk.cs).length:Int)>0)=true):n-1<n:=by
 have:=Xm h;have:=hI.le;omega
theorem zex(hI:RdI R n ps l)(h:decide (((l.map Tk.cs).length:Int)>0)=false):R=(some ps,l):=by
 have hl:l = []:=by simp_all
 subst hl
 have h:=hI.eq
 cases n<;>exact h.symm
theorem zgj(hI:RdI R n ps l):l.length<=1073741823:=by have:=hI.sz;omega
theorem Z9(hI:RdI R n ps l):(ps.map Pr.cs).length<=1073741824:=by have:=hI.sz;grind
end
theorem z9l(ρ:List (Nat×Nat)):AV.ren.go ρ [] = []:=rfl
theorem BQ{T:Tbl}{Df:FuncId->List AV->Option D->Bool->Heap->Heap->Prop}{f:FuncId}{az:List AV}{d y:D}{rs:List ResultVar}{K0:Heap}{env:Env}{K K1:Heap}(h:XU Df f az (some d) false env K λK=>finR T rs K0 (.ret (.data y)) K1 env K):DZ T Df f az d rs K0 env K K1 (lX.ret y).toA:=DZ.ret h
end Go.Fw.Sy
