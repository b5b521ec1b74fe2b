/- A part of the proof. -/
import Derived.Test.YtgehpmgkaeohaaaGreatDoorZLX
set_option linter.all false
namespace Go.Fw.Sy
open Go.Fw.Lx (Tk)
abbrev Str:=List UInt8
abbrev gW:Str:=[112,114,111,99,101,115,115,111,114]
abbrev kH:Str:=[108,97,116,101,110,99,121]
abbrev Hg:Str:=[116,97,105,108]
abbrev ww:Str:=[102,111,114,101,118,101,114]
abbrev Qr:Str:=[112,97,114,97,109]
abbrev Qs:Str:=[115,116,97,116,101]
abbrev z0z:Str:=[108,105,110,101]
abbrev Qu:Str:=[116,97,98,108,101]
abbrev zft:Str:=[102,114,111,109]
abbrev wTo:Str:=[116,111]
abbrev zhj:Str:=[108,101,116]
abbrev zhk:Str:=[115,101,116]
abbrev z00:Str:=[112,117,115,104]
abbrev zhl:Str:=[111,117,116]
abbrev wIf:Str:=[105,102]
abbrev zfu:Str:=[116,104,101,110]
abbrev zfv:Str:=[101,108,115,101]
abbrev wIn:Str:=[105,110]
abbrev zfw:Str:=[115,105,100,101]
abbrev zjs:Str:=[116,97,112]
abbrev zfx:Str:=[108,111,111,107]
abbrev zjt:Str:=[115,97,116]
abbrev zju:Str:=[109,105,110]
abbrev zjv:Str:=[109,97,120]
abbrev zjw:Str:=[97,98,115]
abbrev Tf:Str:=[40]
abbrev z01:Str:=[41]
abbrev fE:Str:=[44]
abbrev Dz:Str:=[59]
abbrev sEq:Str:=[61]
abbrev sLt:Str:=[60]
abbrev uw:Str:=[43]
abbrev pq:Str:=[45]
abbrev qI:Str:=[42]
abbrev pz:Str:=[47]
abbrev z5e:Str:=[123]
abbrev zcs:Str:=[125]
def words:List Str:=[gW,kH,Hg,ww,Qr,Qs,z0z,Qu,zft,wTo,zhj,zhk,z00,zhl,wIf,zfu,zfv,wIn,zfw,zjs,zfx,zjt,zju,zjv,zjw]
def hd:List Tk->Tk
 | []=>⟨0,[],0,0⟩
 |t::_=>t
def isT(s:Str)(l:List Tk):Bool:=(!l.isEmpty&&(hd l).kind != 2)&&(hd l).text==s
def z02(l:List Tk):Bool:=(!l.isEmpty&&(hd l).kind==1) && !words.contains (hd l).text
def lM(l:List Tk):Bool:=(!l.isEmpty&&(hd l).kind==2)&&decide ((hd l).n<=2147483648)
abbrev PM(α:Type):=List Tk->Option α×List Tk
def bnd{α β:Type}(r:Option α×List Tk)(f:α->PM β):Option β×List Tk:=match r with
 |(none,l)=>(none,l)
 |(some x,l)=>f x l
def bz(s:Str):PM Unit:=λl=>if isT s l then(some (),l.drop 1)else(none,l)
def oV:PM Str:=λl=>if z02 l then(some (hd l).text,l.drop 1)else(none,l)
def zJ:PM Int:=λl=>if lM l then(some (hd l).n,l.drop 1)else(none,l)
def Qv:PM Int:=λl=>if isT pq l then bnd (zJ (l.drop 1)) λn r=>(some (IntKind.i64.wrap (0-n)),r)else zJ l
abbrev ex1(k:Int)(x:Ex):Ex:=.mk k [] 0 0 [x]
abbrev ex2(k:Int)(x y:Ex):Ex:=.mk k [] 0 0 [x,y]
def lN(u:PM Ex):Nat->Ex->PM Ex
 | 0,x=>λl=>(some x,l)
 |n+1,x=>λl=>
  if isT qI l then bnd (u (l.drop 1)) λy=>lN u n (ex2 17 x y)
  else if isT pz l then
   (if lM (l.drop 1)&&(hd (l.drop 1)).n==0 then(none,l.drop 1)else bnd (zJ (l.drop 1)) λk=>lN u n (.mk 18 [] 0 k [x]))
  else(some x,l)
def prodM(u:PM Ex):PM Ex:=λl=>bnd (u l) λx r=>lN u r.length x r
def Dh(u:PM Ex):Nat->Ex->PM Ex
 | 0,x=>λl=>(some x,l)
 |n+1,x=>λl=>
  if isT uw l then bnd (prodM u (l.drop 1)) λy=>Dh u n (ex2 15 x y)
  else if isT pq l then bnd (prodM u (l.drop 1)) λy=>Dh u n (ex2 16 x y)
  else(some x,l)
def Uf(u:PM Ex):PM Ex:=λl=>bnd (prodM u l) λx r=>Dh u r.length x r
def Hl(u:PM Ex):Nat->PM Ex
 | 0=>λl=>(none,l)
 | n+1=>λl=>if isT wIf l then
   bnd (Uf u (l.drop 1)) λa l=>bnd (bz sLt l) λ_ l=>bnd (Uf u l) λb l=>bnd (bz zfu l) λ_ l=>
    bnd (Hl u n l) λc l=>bnd (bz zfv l) λ_ l=>bnd (Hl u n l) λd l=>(some (.mk 19 [] 0 0 [a,b,c,d]),l)
  else Uf u l
def xX(u:PM Ex):PM Ex:=λl=>Hl u (l.length+1) l
def zfy:List (Str×Int×Int×Bool):=[(wIn,6,1,false),(zfw,7,1,false),(zjt,10,1,false),(zjw,13,1,false),(zjs,8,1,true),(zfx,9,1,true),(zju,11,2,false),(zjv,12,2,false)]
def XH(u:PM Ex):Nat->Nat->List Ex->PM (List Ex)
 | 0,_,acc=>λl=>(some acc,l)
 |m+1,i,acc=>λl=>bnd (if 0<i then bz fE l else(some (),l)) λ_ l=>bnd (xX u l) λx l=>XH u m (i+1) (acc++[x]) l
def rQ(u:PM Ex)(k:Int)(n:Nat)(named:Bool):PM Ex:=λl=>
 bnd (bz Tf l) λ_ l=>bnd (if named then bnd (oV l) λs l=>bnd (bz fE l) λ_ l=>(some s,l)else(some [],l)) λs l=>
  bnd (XH u n 0 [] l) λxs l=>bnd (bz z01 l) λ_ l=>(some (.mk k s 0 0 xs),l)
def look(s:Str):List (Str×Int×Int×Bool)->Option (Int×Int×Bool)
 | []=>none
 |(w,f)::r=>if s==w then some f else look s r
def Cc(u:Option (PM Ex)):PM Ex:=λl=>
 if lM l then(some (.mk 1 [] 0 (hd l).n []),l.drop 1)
 else if z02 l then(some (.mk 2 (hd l).text 0 0 []),l.drop 1)
 else match u with
  |none=>(none,l)
  |some u=>
   if isT pq l then bnd (u (l.drop 1)) λx l=>(some (ex1 14 x),l)
   else if isT Tf l then bnd (xX u (l.drop 1)) λx l=>bnd (bz z01 l) λ_ l=>(some x,l)
   else match look (hd l).text zfy with
    |some f=>if(hd l).kind==1 then rQ u f.1 f.2.1.toNat f.2.2 (l.drop 1)else(none,l)
    |none=>(none,l)
def Ti:Nat->PM Ex
 | 0=>Cc none
 |k+1=>Cc (some (Ti k))
def dV:PM (Int×Int):=λl=>bnd (bz zft l) λ_ l=>bnd (Qv l) λlo l=>bnd (bz wTo l) λ_ l=>bnd (Qv l) λhi l=>(some (lo,hi),l)
def E5:PM Bd:=λl=>bnd (oV l) λs l=>bnd (dV l) λb l=>(some ⟨s,b.1,b.2⟩,l)
abbrev IM:=Pr->List Tk->Bool×Pr×List Tk
def itB{α:Type}(p:Pr)(r:Option α×List Tk)(f:α->List Tk->Bool×Pr×List Tk):Bool×Pr×List Tk:=match r with
 |(none,l)=>(false,p,l)
 |(some x,l)=>f x l
def E8:IM:=λp l=>itB p (E5 l) λb l=>(true,{ p with params:=p.params++[b] },l)
def Fa:IM:=λp l=>itB p (E5 l) λb l=>(true,{ p with states:=p.states++[b] },l)
def Tj:IM:=λp l=>itB p (oV l) λs l=>itB p (zJ l) λn l=>itB p (dV l) λb l=>(true,{ p with lines:=p.lines++[⟨s,n,b.1,b.2⟩] },l)
def DC:Nat->List Int->PM (List Int)
 | 0,acc=>λl=>(some acc,l)
 |n+1,acc=>λl=>if isT fE l then bnd (Qv (l.drop 1)) λv l=>DC n (acc++[v]) l else(some acc,l)
def NH:PM (List Int):=λl=>bnd (Qv l) λv l=>DC l.length [v] l
def Fe:IM:=λp l=>itB p (oV l) λs l=>itB p (bz sEq l) λ_ l=>itB p (NH l) λvs l=>(true,{ p with tables:=p.tables++[⟨s,vs⟩] },l)
def nS(k:Int):IM:=λp l=>itB p (if k != 4 then bnd (oV l) λs l=>bnd (bz sEq l) λ_ l=>(some s,l)else(some [],l)) λs l=>
 itB p (xX (Ti 63) l) λx l=>(true,{ p with stmts:=p.stmts++[⟨k,s,0,x⟩] },l)
def decls:List (Str×IM):=[(Qr,E8),(Qs,Fa),(z0z,Tj),(Qu,Fe)]
def stmts:List (Str×IM):=[(zhj,nS 1),(zhk,nS 2),(z00,nS 3),(zhl,nS 4)]
def find(s:Str):List (Str×IM)->Option IM
 | []=>none
 |(w,f)::r=>if s==w then some f else find s r
def pF(t:List (Str×IM)):Nat->IM
 | 0=>λp l=>(true,p,l)
 |n+1=>λp l=>if l.isEmpty then(true,p,l)else match find (hd l).text t with
  |none=>(true,p,l)
  | some f=>if isT (hd l).text l then match f p (l.drop 1)with
    |(false,p,l)=>(false,p,l)
    |(true,p,l)=>itB p (bz Dz l) λ_ l=>pF t n p l
   else(true,p,l)
def jU(t:List (Str×IM)):IM:=λp l=>pF t l.length p l
def DD:PM Pr:=λl=>bnd (bz gW l) λ_ l=>bnd (oV l) λs l=>bnd (bz kH l) λ_ l=>bnd (zJ l) λa l=>
 bnd (bz Hg l) λ_ l=>bnd (if lM l then zJ l else bnd (bz ww l) λ_ l=>(some (-1),l)) λt l=>bnd (bz z5e l) λ_ l=>
  match jU decls ⟨s,a,t,[],[],[],[],[]⟩ l with
  |(false,_,l)=>(none,l)
  |(true,p,l)=>match jU stmts p l with
   |(false,_,l)=>(none,l)
   |(true,p,l)=>bnd (bz zcs l) λ_ l=>(some p,l)
def Tm:Nat->List Pr->PM (List Pr)
 | 0,ps=>λl=>(some ps,l)
 |n+1,ps=>λl=>if l.isEmpty then(some ps,l)else bnd (DD l) λp l=>Tm n (ps++[p]) l
def readM(l:List Tk):Option (List Pr)×List Tk:=Tm l.length [] l
def at'(e:Int):List Tk->Int
 | []=>e
 |t::_=>t.pos
abbrev Sh{α:Type}(m:PM α):Prop:=∀l o r,m l=(o,r)->r.length<=l.length
def Le{α:Type}(n:Nat)(r:Option α×List Tk):Prop:=r.2.length<=n
theorem Sh.le{α:Type}{m:PM α}(h:Sh m)(l:List Tk):Le l.length (m l):=h l _ _ rfl
theorem Sh.of{α:Type}{m:PM α}(h:∀l,Le l.length (m l)):Sh m:=λl o r e=>by have:=h l;rw[e]at this;exact this
theorem Le.mono{α:Type}{n m:Nat}{r:Option α×List Tk}(h:Le n r)(hn:n<=m):Le m r:=Nat.le_trans h hn
theorem Le.bnd{α β:Type}{n:Nat}{r:Option α×List Tk}{f:α->PM β}(h:Le n r)(hf:∀x l,l.length<=n->Le n (f x l)):Le n (bnd r f):=by
 obtain⟨o,l⟩:=r
 cases o with
 |none=>exact h
 |some x=>exact hf x l h
theorem Le.drop{α:Type}{o:Option α}{l:List Tk}:Le l.length (o,l.drop 1):=by simp[Le]
theorem Le.drop'{α:Type}{o:Option α}{l:List Tk}{n:Nat}(h:l.length<=n):Le n (o,l.drop 1):=by simp[Le];omega
theorem Le.self{α:Type}{o:Option α}{l:List Tk}{n:Nat}(h:l.length<=n):Le n (o,l):=h
theorem oW{l:List Tk}{n:Nat}(h:l.length<=n):(l.drop 1).length<=n:=by simp;omega
theorem oZ{s:Str}:Sh (bz s):=.of λl=>by unfold bz;split;exact .drop;exact .self (Nat.le_refl _)
theorem o7:Sh oV:=.of λl=>by unfold oV;split;exact .drop;exact .self (Nat.le_refl _)
theorem wz:Sh zJ:=.of λl=>by unfold zJ;split;exact .drop;exact .self (Nat.le_refl _)
theorem Ce:Sh Qv:=.of λl=>by
 unfold Qv;split
 ·exact(wz.le _).mono (by simp) |>.bnd λ_ _ h=>h
 ·exact wz.le _
section
variable {u : PM Ex} (hu : Sh u)
include hu
theorem Hm:∀(n:Nat) (x:Ex) (l:List Tk) (m:Nat),l.length<=m->Le m (lN u n x l)
 | 0,_,_,_,h=>h
 |n+1,x,l,m,h=>by
  unfold lN
  split
  ·exact((hu.le _).mono (oW h)).bnd λy r hr=>Hm n _ _ _ hr
  ·split<;>try exact h
   split
   ·exact .drop' h
   ·exact((wz.le _).mono (oW h)).bnd λy r hr=>Hm n _ _ _ hr
theorem Cf:Sh (prodM u):=.of λl=>(hu.le l).bnd λx r hr=>Hm hu _ _ _ _ hr
theorem NI:∀(n:Nat) (x:Ex) (l:List Tk) (m:Nat),l.length<=m->Le m (Dh u n x l)
 | 0,_,_,_,h=>h
 |n+1,x,l,m,h=>by
  unfold Dh
  split
  ·exact(((Cf hu).le _).mono (oW h)).bnd λy r hr=>NI n _ _ _ hr
  ·split
   ·exact(((Cf hu).le _).mono (oW h)).bnd λy r hr=>NI n _ _ _ hr
   ·exact h
theorem z5f:Sh (Uf u):=.of λl=>((Cf hu).le l).bnd λx r hr=>NI hu _ _ _ _ hr
theorem zK:∀(n:Nat) (l:List Tk) (m:Nat),l.length<=m->Le m (Hl u n l)
 | 0,_,_,h=>h
 |n+1,l,m,h=>by
  have hs:∀l:List Tk,l.length<=m->Le m (Uf u l):=λl h=>((z5f hu).le l).mono h
  have hw:∀(s:Str) (l:List Tk),l.length<=m->Le m (bz s l):=λs l h=>(oZ.le l).mono h
  unfold Hl
  split
  ·exact(hs _ (oW h)).bnd λ_ _ h=>(hw _ _ h).bnd λ_ _ h=>(hs _ h).bnd λ_ _ h=>(hw _ _ h).bnd λ_ _ h=>(zK n _ _ h).bnd λ_ _ h=>(hw _ _ h).bnd λ_ _ h=>(zK n _ _ h).bnd λ_ _ h=>h
  ·exact hs _ h
theorem z03(n:Nat):Sh (Hl u n):=.of λl=>zK hu n l _ (Nat.le_refl _)
theorem NJ:Sh (xX u):=.of λl=>zK hu _ _ _ (Nat.le_refl _)
theorem XI:∀(n i:Nat) (a:List Ex) (l:List Tk) (m:Nat),l.length<=m->Le m (XH u n i a l)
 | 0,_,_,_,_,h=>h
 |n+1,i,a,l,m,h=>by
  refine Le.bnd ?_ λ_ _ h=>(((NJ hu).le _).mono h).bnd λ_ _ h=>XI n _ _ _ _ h
  split
  ·exact(oZ.le _).mono h
  ·exact h
theorem zai(k:Int)(n:Nat)(b:Bool):Sh (rQ u k n b):=.of λl=>by
 have hw:∀(s:Str) (l':List Tk),l'.length<=l.length->Le l.length (bz s l'):=λs l h=>(oZ.le l).mono h
 refine(hw _ _ (Nat.le_refl _)).bnd λ_ _ h=>Le.bnd ?_ λ_ _ h=>(XI hu _ _ _ _ _ h).bnd λ_ _ h=>(hw _ _ h).bnd λ_ _ h=>h
 split
 ·exact((o7.le _).mono h).bnd λ_ _ h=>(hw _ _ h).bnd λ_ _ h=>h
 ·exact h
end
theorem Qw{u:Option (PM Ex)}(hu:∀v,u=some v->Sh v):Sh (Cc u):=.of λl=>by
 unfold Cc
 split<;>try exact .drop
 split<;>try exact .drop
 split<;>try exact Nat.le_refl _
 rename_i v
 have hv:=hu v rfl
 split
 ·exact((hv.le _).mono (oW (Nat.le_refl _))).bnd λ_ _ h=>h
 ·split
  ·exact(((NJ hv).le _).mono (oW (Nat.le_refl _))).bnd λ_ _ h=>((oZ.le _).mono h).bnd λ_ _ h=>h
  ·split<;>try exact Nat.le_refl _
   split
   ·exact((zai hv _ _ _).le _).mono (oW (Nat.le_refl _))
   ·exact Nat.le_refl _
theorem Ci:∀k,Sh (Ti k)
 | 0=>Qw λ_ h=>by cases h
 |k+1=>Qw λ_ h=>by cases h;exact Ci k
theorem lQ{s:Str}{l:List Tk}(h:isT s l=true):l ≠ []:=by rintro rfl;simp[isT]at h
theorem rD{l:List Tk}{n:Nat}(h:l ≠ [])(hn:l.length<=n):∃m,n=m+1/\(l.drop 1).length<=m:=by
 cases l with
 |nil=>simp_all
 |cons t r=>refine⟨n-1,?_,?_⟩<;>simp at hn ⊢ <;> omega
section
variable {u : PM Ex}
theorem JS{n:Nat}{x:Ex}{l:List Tk}(hn:l.length<=n)(hT:isT qI l=true):lN u n x l=bnd (u (l.drop 1)) λy=>lN u (n-1) (ex2 17 x y):=by
 obtain⟨m,rfl,-⟩:=rD (lQ hT) hn
 rw[Nat.add_sub_cancel];conv=>{ lhs;unfold lN };rw[if_pos hT]
theorem xY{n:Nat}{x:Ex}{l:List Tk}(hn:l.length<=n)(h0:isT qI l=false)(hT:isT pz l=true):lN u n x l=if lM (l.drop 1)&&(hd (l.drop 1)).n==0 then(none,l.drop 1)else bnd (zJ (l.drop 1)) λk=>lN u (n-1) (.mk 18 [] 0 k [x]):=by
 obtain⟨m,rfl,-⟩:=rD (lQ hT) hn
 conv=>{ lhs;unfold lN };simp_all
theorem z04{n:Nat}{x:Ex}{l:List Tk}(h0:isT qI l=false)(hT:isT pz l=false):lN u n x l=(some x,l):=by
 cases n with
 |zero=>rfl
 |succ n=>unfold lN;simp_all
theorem Qx{n:Nat}{x:Ex}{l:List Tk}(hn:l.length<=n)(hT:isT uw l=true):Dh u n x l=bnd (prodM u (l.drop 1)) λy=>Dh u (n-1) (ex2 15 x y):=by
 obtain⟨m,rfl,-⟩:=rD (lQ hT) hn
 rw[Nat.add_sub_cancel];conv=>{ lhs;unfold Dh };rw[if_pos hT]
theorem JU{n:Nat}{x:Ex}{l:List Tk}(hn:l.length<=n)(h0:isT uw l=false)(hT:isT pq l=true):Dh u n x l=bnd (prodM u (l.drop 1)) λy=>Dh u (n-1) (ex2 16 x y):=by
 obtain⟨m,rfl,-⟩:=rD (lQ hT) hn
 conv=>{ lhs;unfold Dh };simp_all
theorem zaj{n:Nat}{x:Ex}{l:List Tk}(h0:isT uw l=false)(hT:isT pq l=false):Dh u n x l=(some x,l):=by
 cases n with
 |zero=>rfl
 |succ n=>unfold Dh;simp_all
structure LI{α:Type}(f:Nat->α->PM Ex)(R:Option Ex×List Tk)(n:Nat)(x:α)(l:List Tk):Prop where
 eq:f n x l=R
 le:l.length<=n
theorem LI.mu{n:Nat}{l:List Tk}(hn:l.length<=n)(h:l ≠ []):n-1<n:=by
 cases l with
 |nil=>simp_all
 |cons t r=>grind
theorem Cj{α:Type}{m:PM α}(hm:Sh m){l r:List Tk}{n:Nat}{o:Option α}(hn:l.length<=n)(hl:l ≠ [])(h:m (l.drop 1)=(o,r)):r.length<=n-1:=by
 grind
end
section
variable {u : PM Ex} {o : Option Ex} {l l' l1 l2 l3 : List Tk} {n : Nat} {x y : Ex} {k : Int}
theorem Di{α β:Type}{a o:α}{b l:β}(h:(a,b)=(o,l)):o=a/\l=b:=by simp_all
theorem zak(hM:prodM u l=(o,l'))(h:u l=(none,l2)):o=none/\l'=l2:=by unfold prodM at hM;rw[h]at hM;exact Di hM
theorem zfz(hM:prodM u l=(o,l'))(h:u l=(some y,l2)):LI (lN u) (o,l') l2.length y l2:=by unfold prodM at hM;rw[h]at hM;exact⟨hM,Nat.le_refl _⟩
theorem zf0(hI:LI (lN u) (o,l') n x l1)(h0:isT qI l1=false)(h1:isT pz l1=false):o=some x/\l'=l1:=by have h:=hI.eq;grind[z04]
theorem zal(hI:LI (lN u) (o,l') n x l1)(hT:isT qI l1=true)(h:u (l1.drop 1)=(none,l2)):o=none/\l'=l2:=by have h1:=hI.eq;rw[JS hI.le hT,h]at h1;exact Di h1
theorem zam(hs:Sh u)(hI:LI (lN u) (o,l') n x l1)(hT:isT qI l1=true)(h:u (l1.drop 1)=(some y,l2)):LI (lN u) (o,l') (n-1) (ex2 17 x y) l2:=by
 have h1:=hI.eq;rw[JS hI.le hT,h]at h1;exact⟨h1,Cj hs hI.le (lQ hT) h⟩
theorem zkd{b c:Bool}(h:(bif b then c else false)=true):(b&&c)=true:=by simp_all
theorem num0'{b c:Bool}(h:(bif b then c else false)=false):(b&&c)=false:=by simp_all
theorem zan(hI:LI (lN u) (o,l') n x l1)(h0:isT qI l1=false)(hT:isT pz l1=true)(h:(bif lM (l1.drop 1)then(hd (l1.drop 1)).n==0 else false)=true):o=none/\l'=l1.drop 1:=by
 have h1:=hI.eq;rw[xY hI.le h0 hT,zkd h]at h1;exact Di h1
theorem zao(hI:LI (lN u) (o,l') n x l1)(h0:isT qI l1=false)(hT:isT pz l1=true)(h:(bif lM (l1.drop 1)then(hd (l1.drop 1)).n==0 else false)=false)(hk:zJ (l1.drop 1)=(none,l3)):o=none/\l'=l3:=by
 have h1:=hI.eq;rw[xY hI.le h0 hT,num0' h,hk]at h1;exact Di h1
theorem zaq(hI:LI (lN u) (o,l') n x l1)(h0:isT qI l1=false)(hT:isT pz l1=true)(h:(bif lM (l1.drop 1)then(hd (l1.drop 1)).n==0 else false)=false)(hk:zJ (l1.drop 1)=(some k,l3)):LI (lN u) (o,l') (n-1) (.mk 18 [] 0 k [x]) l3:=by
 have h1:=hI.eq;rw[xY hI.le h0 hT,num0' h,hk]at h1;exact⟨h1,Cj wz hI.le (lQ hT) hk⟩
theorem zf1(hM:Uf u l=(o,l'))(h:prodM u l=(none,l2)):o=none/\l'=l2:=by unfold Uf at hM;rw[h]at hM;exact Di hM
theorem zim(hM:Uf u l=(o,l'))(h:prodM u l=(some y,l2)):LI (Dh u) (o,l') l2.length y l2:=by unfold Uf at hM;rw[h]at hM;exact⟨hM,Nat.le_refl _⟩
theorem zin(hI:LI (Dh u) (o,l') n x l1)(h0:isT uw l1=false)(h1:isT pq l1=false):o=some x/\l'=l1:=by have h:=hI.eq;grind[zaj]
theorem zf2(hI:LI (Dh u) (o,l') n x l1)(hT:isT uw l1=true)(h:prodM u (l1.drop 1)=(none,l2)):o=none/\l'=l2:=by have h1:=hI.eq;rw[Qx hI.le hT,h]at h1;exact Di h1
theorem zf3(hs:Sh u)(hI:LI (Dh u) (o,l') n x l1)(hT:isT uw l1=true)(h:prodM u (l1.drop 1)=(some y,l2)):LI (Dh u) (o,l') (n-1) (ex2 15 x y) l2:=by
 have h1:=hI.eq;rw[Qx hI.le hT,h]at h1;exact⟨h1,Cj (Cf hs) hI.le (lQ hT) h⟩
theorem zf4(hI:LI (Dh u) (o,l') n x l1)(h0:isT uw l1=false)(hT:isT pq l1=true)(h:prodM u (l1.drop 1)=(none,l2)):o=none/\l'=l2:=by have h1:=hI.eq;rw[JU hI.le h0 hT,h]at h1;exact Di h1
theorem zf5(hs:Sh u)(hI:LI (Dh u) (o,l') n x l1)(h0:isT uw l1=false)(hT:isT pq l1=true)(h:prodM u (l1.drop 1)=(some y,l2)):LI (Dh u) (o,l') (n-1) (ex2 16 x y) l2:=by
 have h1:=hI.eq;rw[JU hI.le h0 hT,h]at h1;exact⟨h1,Cj (Cf hs) hI.le (lQ hT) h⟩
theorem z05{α:Type}{f:Nat->α->PM Ex}{R:Option Ex×List Tk}{x:α}{s:Str}(hI:LI f R n x l1)(hT:isT s l1=true):n-1<n:=LI.mu hI.le (lQ hT)
end
variable [ae] {l : List Tk} {W : TypeId} {next pan : Next} {env : Env} {L : List Nat} {az : List AV} {f : FuncId} {e d : Int} {K : Heap}
abbrev pB(l:List Tk)(e d:Int):Block:=.cells [.data (.sl 4 (l.map Tk.cs)),.data (.i e),.data (.i d)]
def lS(W:TypeId)(e:Int)(l:List Tk):D:=.iface W (.agg [.i (at' e l)])
def kC{α:Type}(W:TypeId)(g:α->D)(e:Int)(o:Option α)(l:List Tk):gG:=match o with
 |some x=>.ret (.data (g x))
 |none=>.pan (.data (lS W e l))
theorem wB{α:Type}{g:α->D}{e:Int}{o:Option α}:(kC W g e o l).av.ids = []:=by cases o<;>rfl
abbrev B':=FuncId->List AV->Heap->gG->Heap->Prop
variable {B : B'}
theorem Qy{ρ:List (Nat×Nat)}:∀ds:List D,AV.ren.go ρ (ds.map .data)=ds.map .data
 | []=>rfl
 |d::r=>by show AV.ren ρ (.data d)::AV.ren.go ρ (r.map .data)=_;rw[Qy r];rfl
theorem uy{s:Str}(h:isT s l=true):0<l.length:=by
 grind[isT]
theorem kJ{α:Type}{B:B'}{L:List Nat}{f:FuncId}{az:List AV}{env:Env}{K:Heap}{next pan:Next}{M:PM α}{g:α->D}{W:TypeId}{e d:Int}(ds:List D)
  (H:∀l o l',M l=(o,l')->B f (.ptr 1000000 0::ds.map .data) [(1000000,pB l e d)] (kC W g e o l') [(1000000,pB l' e d)])
  (hk:∃X l,az = .ptr X 0::ds.map .data/\K.get X=some (pB l e d)/\allIn L [X]=true/\(∀x l',M l=(some x,l')->next (.data (g x)) (K.put X (pB l' e d))) /\
   (∀l',M l=(none,l')->pan (.data (lS W e l')) (K.put X (pB l' e d)))) :
  ∃(as0:List AV) (K0:Heap) (out:gG) (K1:Heap) (ρ:List (Nat×Nat)),B f as0 K0 out K1/\AV.ren.go ρ as0=az/\Heap.sub ρ K K0/\bV ρ K0 K1 out.av env K L=true /\
  outGo ρ K1 K next pan out:=by
 obtain⟨X,l,has,hK,hL,h1,h2⟩:=hk
 rcases hM:M l with⟨o,l'⟩
 refine⟨_,_,_,_,[(1000000,X)],H l o l' hM,?_,⟨hK,trivial⟩,?_,?_⟩
 ·rw[has]
  show AV.ren _ _::AV.ren.go _ (ds.map .data)=_
  rw[Qy];rfl
 ·simp only[bV,wB,keys,aO,rn]
  rw[hL]
  rfl
 ·cases o with
  |some x=>exact h1 x l' hM
  |none=>exact h2 l' hM
theorem zf6(a b c:D)(ρ:List (Nat×Nat)):AV.ren.go ρ [.data a,.data b,.data c] = [.data a,.data b,.data c]:=rfl
theorem lentP'{α:Type}{B:B'}{L:List Nat}{f:FuncId}{az:List AV}{env:Env}{K:Heap}{next pan:Next}{M:PM α}{g:α->D}{W:TypeId}{e d:Int}{ds:List AV}(hr:∀ρ,AV.ren.go ρ ds=ds)
  (H:∀l o l',M l=(o,l')->B f (.ptr 1000000 0::ds) [(1000000,pB l e d)] (kC W g e o l') [(1000000,pB l' e d)])
  (hk:∃X es l,az = .ptr X 0::ds/\K.get X=some (.cells [.data (.sl 4 es),.data (.i e),.data (.i d)])/\es=l.map Tk.cs/\allIn L [X]=true/\(∀x l',M l=(some x,l')->next (.data (g x)) (K.put X (pB l' e d))) /\
   (∀l',M l=(none,l')->pan (.data (lS W e l')) (K.put X (pB l' e d)))) :
  ∃(as0:List AV) (K0:Heap) (out:gG) (K1:Heap) (ρ:List (Nat×Nat)),B f as0 K0 out K1/\AV.ren.go ρ as0=az/\Heap.sub ρ K K0/\bV ρ K0 K1 out.av env K L=true /\
  outGo ρ K1 K next pan out:=by
 obtain⟨X,es,l,has,hK,rfl,hL,h1,h2⟩:=hk
 rcases hM:M l with⟨o,l'⟩
 refine⟨_,_,_,_,[(1000000,X)],H l o l' hM,?_,⟨hK,trivial⟩,?_,?_⟩
 ·rw[has]
  show AV.ren _ _::AV.ren.go _ ds=_
  rw[hr];rfl
 ·simp only[bV,wB,keys,aO,rn]
  rw[hL]
  rfl
 ·cases o with
  |some x=>exact h1 x l' hM
  |none=>exact h2 l' hM
theorem zf7{α:Type}{B:B'}{L:List Nat}{f:FuncId}{az:List AV}{env:Env}{K:Heap}{next pan:Next}{M:PM α}{g:α->D}{W:TypeId}{e d:Int}(P:List Tk->Prop)(hs:∀l o r,M l=(o,r)->r.length<=l.length)
  (H:∀l o l',P l->M l=(o,l')->B f [.ptr 1000000 0] [(1000000,pB l e d)] (kC W g e o l') [(1000000,pB l' e d)])
  (hk:∃X l,az = [.ptr X 0]/\K.get X=some (pB l e d)/\allIn L [X]=true/\P l/\(∀x l',M l=(some x,l')->l'.length<=l.length->next (.data (g x)) (K.put X (pB l' e d))) /\
   (∀l',M l=(none,l')->pan (.data (lS W e l')) (K.put X (pB l' e d)))) :
  ∃(as0:List AV) (K0:Heap) (out:gG) (K1:Heap) (ρ:List (Nat×Nat)),B f as0 K0 out K1/\AV.ren.go ρ as0=az/\Heap.sub ρ K K0/\bV ρ K0 K1 out.av env K L=true /\
  outGo ρ K1 K next pan out:=by
 obtain⟨X,l,has,hK,hL,hP,h1,h2⟩:=hk
 rcases hM:M l with⟨o,l'⟩
 refine⟨_,_,_,_,[(1000000,X)],H l o l' hP hM,?_,⟨hK,trivial⟩,?_,?_⟩
 ·rw[has];rfl
 ·simp only[bV,wB,keys,aO,rn]
  rw[hL]
  rfl
 ·cases o with
  |some x=>exact h1 x l' hM (hs _ _ _ hM)
  |none=>exact h2 l' hM
theorem XJ:zJ=λl=>if lM l then(some (hd l).n,l.drop 1)else(none,l):=rfl
theorem XK:oV=λl=>if z02 l then(some (hd l).text,l.drop 1)else(none,l):=rfl
theorem XL{α:Type}{B:B'}{L:List Nat}{f:FuncId}{az:List AV}{env:Env}{K:Heap}{next pan:Next}{M:PM α}{g:α->D}{W:TypeId}{e d:Int}(c:List Tk->Bool)(v:List Tk->α)(hv:M=λl=>if c l then(some (v l),l.drop 1)else(none,l))
  (H:∀l o l',M l=(o,l')->B f [.ptr 1000000 0] [(1000000,pB l e d)] (kC W g e o l') [(1000000,pB l' e d)])
  (hk:∃X l,az = [.ptr X 0]/\K.get X=some (pB l e d)/\allIn L [X]=true/\(c l=true->next (.data (g (v l))) (K.put X (pB (l.drop 1) e d))) /\
   (c l=false->pan (.data (lS W e l)) (K.put X (pB l e d)))) :
  ∃(as0:List AV) (K0:Heap) (out:gG) (K1:Heap) (ρ:List (Nat×Nat)),B f as0 K0 out K1/\AV.ren.go ρ as0=az/\Heap.sub ρ K K0/\bV ρ K0 K1 out.av env K L=true /\
  outGo ρ K1 K next pan out:=by
 obtain⟨X,l,has,hK,hL,h1,h2⟩:=hk
 refine kJ [] H ⟨X,l,has,hK,hL,λx l' h=>?_,λl' h=>?_⟩
 ·grind
 grind
theorem DF{B:B'}{L:List Nat}{f:FuncId}{az:List AV}{env:Env}{K:Heap}{next pan:Next}{e d:Int}
  (H:∀s l,B f [.ptr 1000000 0,.data (.str s)] [(1000000,pB l e d)] (.ret (.data (.b (isT s l)))) [(1000000,pB (bif isT s l then l.drop 1 else l) e d)])
  (hk:∃X s l,az = [.ptr X 0,.data (.str s)]/\K.get X=some (pB l e d)/\allIn L [X]=true/\(isT s l=true->0<l.length->next (.data (.b true)) (K.put X (pB (l.drop 1) e d))) /\
   (isT s l=false->next (.data (.b false)) (K.put X (pB l e d)))) :
  ∃(as0:List AV) (K0:Heap) (out:gG) (K1:Heap) (ρ:List (Nat×Nat)),B f as0 K0 out K1/\AV.ren.go ρ as0=az/\Heap.sub ρ K K0/\bV ρ K0 K1 out.av env K L=true /\
  outGo ρ K1 K next pan out:=by
 obtain⟨X,s,l,has,hK,hL,h1,h2⟩:=hk
 refine⟨_,_,_,_,[(1000000,X)],H s l,has.symm,⟨hK,trivial⟩,?_,?_⟩
 ·simp only[bV,keys,aO,rn]
  rw[hL]
  rfl
 ·cases h:isT s l with
  |true=>exact h1 h (uy h)
  |false=>exact h2 h
theorem DI{B:B'}{L:List Nat}{f:FuncId}{az:List AV}{env:Env}{K:Heap}{next pan:Next}{W:TypeId}{e d:Int}
  (H:∀s l o l',bz s l=(o,l')->B f [.ptr 1000000 0,.gs 1000001 1 [[.str s]]] [(1000000,pB l e d),(1000001,.tok 1 1)] (kC W (λ_:Unit=>.tuple []) e o l') [(1000000,pB l' e d),(1000001,.tok 1 1)])
  (hk:∃X Y s l,az = [.ptr X 0,.gs Y 1 [[.str s]]]/\K.get X=some (pB l e d)/\K.get Y=some (.tok 1 1)/\Nat.beq X Y=false/\allIn L [X,Y]=true/\(isT s l=true->0<l.length->next (.data (.tuple [])) ((K.put Y (.tok 1 1)).put X (pB (l.drop 1) e d))) /\
   (isT s l=false->pan (.data (lS W e l)) ((K.put Y (.tok 1 1)).put X (pB l e d)))) :
  ∃(as0:List AV) (K0:Heap) (out:gG) (K1:Heap) (ρ:List (Nat×Nat)),B f as0 K0 out K1/\AV.ren.go ρ as0=az/\Heap.sub ρ K K0/\bV ρ K0 K1 out.av env K L=true /\
  outGo ρ K1 K next pan out:=by
 obtain⟨X,Y,s,l,has,hK,hY,hXY,hL,h1,h2⟩:=hk
 rcases hM:bz s l with⟨o,l'⟩
 refine⟨_,_,_,_,[(1000000,X),(1000001,Y)],H s l o l' hM,has.symm,⟨hK,hY,trivial⟩,?_,?_⟩
 ·have hn:pO [X,Y]=true:=by
   grind[pO,nU]
  show(pO [X,Y]&&(_&&(allIn L [X,Y]&&(_&&(allIn _ (kC W (λ_:Unit=>D.tuple []) e o l').av.ids&&_)))))=true
  rw[hn,hL,wB]
  rfl
 ·unfold bz at hM
  cases h:isT s l with
  |true=>rw[h]at hM;cases hM;exact h1 h (uy h)
  |false=>rw[h]at hM;cases hM;exact h2 h
theorem JV{B:B'}{L:List Nat}{f:FuncId}{az:List AV}{env:Env}{K:Heap}{next pan:Next}{W:TypeId}{e d:Int}
  (H:∀l,B f [.ptr 1000000 0] [(1000000,pB l e d)] (.pan (.data (lS W e l))) [(1000000,pB l e d)])
  (hk:∃X l,az = [.ptr X 0]/\K.get X=some (pB l e d)/\allIn L [X]=true/\pan (.data (lS W e l)) (K.put X (pB l e d))) :
  ∃(as0:List AV) (K0:Heap) (out:gG) (K1:Heap) (ρ:List (Nat×Nat)),B f as0 K0 out K1/\AV.ren.go ρ as0=az/\Heap.sub ρ K K0/\bV ρ K0 K1 out.av env K L=true /\
  outGo ρ K1 K next pan out:=by
 obtain⟨X,l,has,hK,hL,h1⟩:=hk
 refine⟨_,_,_,_,[(1000000,X)],H l,has.symm,⟨hK,trivial⟩,?_,h1⟩
 simp only[bV,keys,aO,rn]
 rw[hL]
 rfl
def JW:List Str->PM Unit
 | []=>λl=>(some (),l)
 |s::r=>λl=>if isT s l then JW r (l.drop 1)else(none,l)
theorem XM{s:Str}:JW [s] l=bz s l:=by rfl
theorem jE{α:Type}{T:Tbl}{rs:List ResultVar}{K0 K K1:Heap}{q:Prop}{g:α->D}{e:Int}{o:Option α}(h:finR T rs K0 (kC W g e o l) K1 env K):finR T rs K0 (kC W g e o l) K1 env K\/q:=.inl h
theorem gX{α:Type}{T:Tbl}{rs:List ResultVar}{K0 K K1:Heap}{g:α->D}{e:Int}{x:α}(h:finR T rs K0 (.ret (.data (g x))) K1 env K):finR T rs K0 (kC W g e (some x) l) K1 env K:=h
theorem bD{α:Type}{K0 K K1:Heap}{x:AV}{g:α->D}{e:Int}{o:Option α}(h:Dc K0 K x K1 (kC W g e o l)):Dc K0 K x K1 (kC W g e o l):=h
theorem aV{α:Type}{K0 K K1:Heap}{x:AV}{g:α->D}{e:Int}(h:fin K0 K x (.data (lS W e l)) K1):Dc K0 K x K1 (kC W g e (none:Option α) l):=by
 unfold Dc;exact h
theorem fG{α β:Type}{a o:α}{b l:β}(h:(a,b)=(o,l)):o=a/\l=b:=by simp_all
theorem zf8(h:0<l.length):(l.map Tk.cs)[0]? = some (hd l).cs:=by
 cases l with
 |nil=>simp_all
 |cons t r=>rfl
theorem sO{T:Prop}{n:Int}{q:List D->Prop}(hT:T)(hn:n=0)(h:0<l.length)(hq:q (hd l).cs):T/\∃c,(0<=n/\(l.map Tk.cs)[n.toNat]? = some c)/\q c:=by
 subst hn
 exact⟨hT,_,⟨Int.le_refl _,zf8 h⟩,hq⟩
theorem NK:decide (((l.map Tk.cs).length:Int)>0) = !l.isEmpty:=by cases l<;>simp
theorem z06:cut (some 1) none (l.map Tk.cs)=(l.drop 1).map Tk.cs:=by simp[cut]
theorem Qz(h:z02 l=true):0<l.length:=by
 grind[z02]
theorem Cm(h:lM l=true):0<l.length:=by
 grind[lM]
theorem zhm(h:0<l.length):sV (some 1) none (l.map Tk.cs).length:=by
 grind[sV]
end Go.Fw.Sy
namespace Go.Fw.Sy
open Go.Fw.Lx (Tk)
variable [ae]
def Gs(v:Str):List Str->Int->Int
 | [],_=>-1
 |x::r,i=>if v==x then i else Gs v r (i+1)
theorem XN{v:Str}:∀(l:List Str) (i:Int),0<=i->decide (Gs v l i>=0)=l.contains v
 | [],i,_=>rfl
 |x::r,i,h=>by
  have ih:=XN r (i+1) (v:=v) (by omega)
  rw[List.contains_cons,<-ih]
  cases e:v==x with
  |true=>simp[Gs,e,h]
  |false=>simp[Gs,e]
theorem z07{v:Str}{l:List Str}:decide (Gs v l 0>=0)=l.contains v:=XN l 0 (Int.le_refl 0)
theorem z08{W:TypeId}{e:Int}{l:List Tk}(h:decide (((l.map Tk.cs).length:Int)>0)=true):D.iface W (.agg [.val (.int .i64 (hd l).pos)])=lS W e l:=by
 cases l with
 |nil=>simp at h
 |cons t r=>rfl
theorem XO{W:TypeId}{e:Int}{l:List Tk}(h:decide (((l.map Tk.cs).length:Int)>0)=false):D.iface W (.agg [.val (.int .i64 e)])=lS W e l:=by
 cases l with
 |nil=>rfl
 |cons t r=>simp_all
theorem xZ{c:Bool}{p q:Prop}(h:c=false)(hq:q):BrI c p q:=by grind[BrI.ff]
theorem x9{c:Bool}{p q:Prop}(h:c=true)(hp:p):BrI c p q:=by grind[BrI.tt]
theorem bK(T:Tbl)(A:FuncId->List D->lY->Prop)(B:FuncId->List AV->Heap->gG->Heap->Prop){kp:Nat}{Q:List Rec->Prop}{l:List Oper}{ms:List Nat}{tr:List Rec}{env:Env}{K:Heap}(bs:List Bool)(_:l.length=bs.length)(h:(ms.map λm=>m.testBit kp)=bs)(h2:zX T A B Q l bs tr env K):Ll (kT T A B kp Q l ms tr env K):=
 rest_step T A B bs h h2
theorem quiet_step{T:Tbl}{N:List Nat}{kp i:Nat}{tr:List Rec}{q:Prop}(h:ik T N kp i tr=true)(h2:q):ik T N kp i tr=true/\q:=⟨h,h2⟩
theorem zke(x:Ex):AV.data (.sl 5 [x.cs])=AV.data (.sl 5 (Ex.css [x])):=by rw[Ex.css_cons];rfl
theorem zjx(x y:Ex):AV.data (.sl 5 [x.cs,y.cs])=AV.data (.sl 5 (Ex.css [x,y])):=by rw[Ex.css_cons,Ex.css_cons];rfl
theorem rE{p r:Prop}{q:Prop}(h1:p)(h2:r)(h:q):p/\r/\q:=⟨h1,h2,h⟩
structure AI(u:PM Ex)(k:Int)(s:Str)(R:Option Ex×List Tk)(m i j:Nat)(xs:List Ex)(l:List Tk):Prop where
 eq:bnd (XH u j i xs l) (λxs l=>bnd (bz z01 l) λ_ l=>(some (.mk k s 0 0 xs),l))=R
 le:i+j=m
 len:xs.length=i
section
variable {u : PM Ex} {k : Int} {s : Str} {o : Option Ex} {l l' l1 l2 : List Tk} {m i j : Nat} {xs : List Ex} {x : Ex}
theorem Tn(hI:AI u k s (o,l') m i j xs l1)(h:decide ((i:Int)<(m:Int))=true):∃j',j=j'+1:=by
 have h:=of_decide_eq_true h
 have:=hI.le
 exact⟨j-1,by omega⟩
theorem z5g(hI:AI u k s (o,l') m i j xs l1)(h:decide ((i:Int)<(m:Int))=true)(h0:decide ((i:Int)>0)=true)(hW:isT fE l1=true)(hx:xX u (l1.drop 1)=(some x,l2)):AI u k s (o,l') m (i+1) (j-1) (xs++[x]) l2:=by
 obtain⟨j',rfl⟩:=Tn hI h
 have h0:=of_decide_eq_true h0
 refine⟨?_,by have:=hI.le;omega,by have:=hI.len;simp;omega⟩
 have h1:=hI.eq
 have h0:0<i:=by omega
 simp only[XH,h0,bnd,bz,hW,if_true,hx]at h1
 exact h1
theorem z5h(hI:AI u k s (o,l') m i j xs l1)(h:decide ((i:Int)<(m:Int))=true)(h0:decide ((i:Int)>0)=false)(hx:xX u l1=(some x,l2)):AI u k s (o,l') m (i+1) (j-1) (xs++[x]) l2:=by
 obtain⟨j',rfl⟩:=Tn hI h
 have h0:=of_decide_eq_false h0
 refine⟨?_,by have:=hI.le;omega,by have:=hI.len;simp;omega⟩
 have h1:=hI.eq
 have h0:¬0<i:=by omega
 simp[XH,h0,bnd,hx]at h1
 exact h1
theorem z5i(hI:AI u k s (o,l') m i j xs l1)(h:decide ((i:Int)<(m:Int))=true)(h0:decide ((i:Int)>0)=true)(hW:isT fE l1=false):o=none/\l'=l1:=by
 obtain⟨j',rfl⟩:=Tn hI h
 have h0:=of_decide_eq_true h0
 have h1:=hI.eq
 have h0:0<i:=by omega
 simp[XH,h0,bz,hW]at h1
 exact Di h1
theorem z5j(hI:AI u k s (o,l') m i j xs l1)(h:decide ((i:Int)<(m:Int))=true)(h0:decide ((i:Int)>0)=true)(hW:isT fE l1=true)(hx:xX u (l1.drop 1)=(none,l2)):o=none/\l'=l2:=by
 obtain⟨j',rfl⟩:=Tn hI h
 have h0:=of_decide_eq_true h0
 have h1:=hI.eq
 have h0:0<i:=by omega
 simp only[XH,h0,bnd,bz,hW,if_true,hx]at h1
 exact Di h1
theorem z5k(hI:AI u k s (o,l') m i j xs l1)(h:decide ((i:Int)<(m:Int))=true)(h0:decide ((i:Int)>0)=false)(hx:xX u l1=(none,l2)):o=none/\l'=l2:=by
 obtain⟨j',rfl⟩:=Tn hI h
 have h0:=of_decide_eq_false h0
 have h1:=hI.eq
 have h0:¬0<i:=by omega
 simp only[XH,h0,if_false,bnd,hx]at h1
 exact Di h1
theorem z5l(hI:AI u k s (o,l') m i j xs l1)(h:decide ((i:Int)<(m:Int))=false)(hW:isT z01 l1=true):o=some (.mk k s 0 0 xs)/\l'=l1.drop 1:=by
 have h:=of_decide_eq_false h
 have:j=0:=by have:=hI.le;omega
 subst this
 have h1:=hI.eq
 simp only[XH,bnd,bz,hW]at h1
 exact Di h1
theorem z5m(hI:AI u k s (o,l') m i j xs l1)(h:decide ((i:Int)<(m:Int))=false)(hW:isT z01 l1=false):o=none/\l'=l1:=by
 have h:=of_decide_eq_false h
 have:j=0:=by have:=hI.le;omega
 subst this
 have h1:=hI.eq
 simp only[XH,bnd,bz,hW]at h1
 exact Di h1
theorem QA(hI:AI u k s (o,l') m i j xs l1)(h:decide ((i:Int)<(m:Int))=true):j-1<j:=by
 obtain⟨j',rfl⟩:=Tn hI h;omega
theorem zar(hM:rQ u k m false l=(o,l'))(hW:isT Tf l=true):AI u k [] (o,l') m 0 m [] (l.drop 1):=
 ⟨by rw[rQ]at hM;simp only[bz,hW]at hM;exact hM,by omega,rfl⟩
theorem zas(hM:rQ u k m true l=(o,l'))(hW:isT Tf l=true)(hn:oV (l.drop 1)=(some s,l1))(hC:isT fE l1=true):AI u k s (o,l') m 0 m [] (l1.drop 1):=
 ⟨by rw[rQ]at hM;simp only[bnd,bz,hW,if_true,hn,hC]at hM;exact hM,by omega,rfl⟩
theorem XP{b:Bool}(hM:rQ u k m b l=(o,l'))(hW:isT Tf l=false):o=none/\l'=l:=by
 rw[rQ]at hM;simp[bz,hW]at hM;exact Di hM
theorem zat(hM:rQ u k m true l=(o,l'))(hW:isT Tf l=true)(hn:oV (l.drop 1)=(none,l1)):o=none/\l'=l1:=by
 rw[rQ]at hM;simp only[bnd,bz,hW,if_true,hn]at hM;exact Di hM
theorem zau(hM:rQ u k m true l=(o,l'))(hW:isT Tf l=true)(hn:oV (l.drop 1)=(some s,l1))(hC:isT fE l1=false):o=none/\l'=l1:=by
 rw[rQ]at hM;simp only[bnd,bz,hW,if_true,hn,hC]at hM;exact Di hM
end
abbrev zjy(f:Str×Int×Int×Bool):D×D:=(.str f.1,.agg [.i f.2.1,.i f.2.2.1,.b f.2.2.2])
theorem QB{t:Str}{F:D->Prop}{G:Prop}:∀(fs:List (Str×Int×Int×Bool)),(∀f,look t fs=some f->F (.agg [.i f.1,.i f.2.1,.b f.2.2]))->(look t fs=none->G)->rH (nV (.str t) (fs.map zjy)) F G
 | [],_,h2=>h2 rfl
 |(w,f)::r,h1,h2=>by
  simp only[List.map_cons,nV,dC,sameS,look]at h1 h2 ⊢
  cases h:t==w with
  |true=>
   simp only[h]at h1
   exact h1 f rfl
  |false=>
   simp only[h]at h1 h2
   exact QB r h1 h2
theorem z5n{t:Str}{f:Int×Int×Bool}(h:look t zfy=some f):0<=f.2.1/\f.2.1<=2:=by
 have:∀fs:List (Str×Int×Int×Bool),(∀x∈fs,0<=x.2.2.1/\x.2.2.1<=2)->look t fs=some f->0<=f.2.1/\f.2.1<=2:=by
  intro fs
  induction fs with
  |nil=>intro _ h;cases h
  |cons x r ih=>
   grind[look]
 exact this zfy (by decide) h
theorem JX{d:Int}(h0:0<=d)(h1:d<=63):IntKind.i64.wrap (IntKind.i64.wrap (d+1)-1)=d:=by
 grind[bM]
theorem zav{d:Int}(h0:0<=d)(h1:d<=63):IntKind.i64.wrap (d+1)=d+1:=bM (by omega) (by omega)
theorem XQ{u:PM Ex}{k:Int}{s:Str}{R:Option Ex×List Tk}{m i j:Nat}{xs:List Ex}{l:List Tk}(hI:AI u k s R m i j xs l)(hm:m<=2):(xs.map Ex.cs).length<=1073741824:=by
 rw[List.length_map];have:=hI.le;have:=hI.len;omega
theorem XR{k:Int}{s:Str}{xs:List Ex}:D.agg [.val (.int .i64 k),.str s,.val (.int .i64 0),.val (.int .i64 0),.sl 5 (xs.map Ex.cs)]=Ex.d (.mk k s 0 0 xs):=by
 rw[<-Ex.css_eq];rfl
theorem z09{k:Int}{a b c d:Ex}:D.agg [.val (.int .i64 k),.str [],.val (.int .i64 0),.val (.int .i64 0),.sl 5 [a.cs,b.cs,c.cs,d.cs]]=Ex.d (.mk k [] 0 0 [a,b,c,d]):=by
 show _=D.agg [.i k,.str [],.i 0,.i 0,.sl 5 (Ex.css [a,b,c,d])]
 simp[Ex.css_cons];rfl
theorem z1a{k n:Int}{a:Ex}:D.agg [.val (.int .i64 k),.str [],.val (.int .i64 0),.val (.int .i64 n),.sl 5 [a.cs]]=Ex.d (.mk k [] 0 n [a]):=by
 show _=D.agg [.i k,.str [],.i 0,.i n,.sl 5 (Ex.css [a])]
 simp[Ex.css_cons];rfl
theorem z5o{i m:Nat}(h:decide ((i:Int)<(m:Int))=true)(hm:m<=2):i<=9223372036854775806:=by grind
theorem QC{n:Nat}(h:n<=9223372036854775806):AV.data (.val (.int .i64 (IntKind.i64.wrap ((n:Int)+1))))=AV.data (.val (.int .i64 ((n+1:Nat):Int))):=Pm h
end Go.Fw.Sy
namespace Go.Fw.Sy
open Go.Fw.Lx (Tk)
variable [ae] {Df : FuncId → List AV → Option D → Bool → Heap → Heap → Prop}
theorem emp_len'{l:List Tk}(h:(((l.map Tk.cs).length:Int)==0)=false):0<l.length:=by
 grind
theorem NL{Df:FuncId->List AV->Option D->Bool->Heap->Heap->Prop}{f:FuncId}{az:List AV}{env:Env}{K:Heap}{next:Heap->Prop}
  (h:∃(as0:List AV) (K0:Heap) (K1:Heap) (ρ:List (Nat×Nat)),Df f as0 none false K0 K1/\AV.ren.go ρ as0=az/\Heap.sub ρ K K0/\bV ρ K0 K1 .top env K (reach K 1000 (AV.ids.go az) [])=true/\next (ku ρ K1 K)) :
  ∃(as0:List AV) (K0:Heap) (K1:Heap) (ρ:List (Nat×Nat)),Df f as0 none false K0 K1/\AV.ren.go ρ as0=az/\Heap.sub ρ K K0/\bV ρ K0 K1 .top env K (reach K 1000 (AV.ids.go az) [])=true/\next (ku ρ K1 K):=h
theorem zaw{d:Int}(h:d=63):¬(decide (IntKind.i64.wrap (d+1)>=64)=false):=by subst h;decide
theorem z1b{d:Int}(h0:0<=d)(h:d<63):¬(decide (IntKind.i64.wrap (d+1)>=64)=true):=by
 grind[bM]
theorem QD{uo:Option (PM Ex)}{o:Option Ex}{l l':List Tk}(hM:Cc uo l=(o,l'))(h:(((l.map Tk.cs).length:Int)==0)=true):o=none/\l'=l:=by
 have hl:l = []:=by simp_all
 subst hl
 cases uo with
 |none=>exact Di hM
 |some u=>exact Di hM
theorem QE{α:Type}{T:Tbl}{f:FuncId}{az:List AV}{d:D}{rs:List ResultVar}{K0:Heap}{env:Env}{K K1:Heap}{W:TypeId}{g:α->D}{e:Int}{o:Option α}{l:List Tk}(h:Eh T Df f az d rs K0 env K K1 (kC W g e o l)):Eh T Df f az d rs K0 env K K1 (kC W g e o l):=h
end Go.Fw.Sy
namespace Go.Fw.Sy
open Go.Fw.Lx (Tk)
variable [ae]
abbrev xB(p:Pr):Block:=.cells [.data (.str p.name),.data (.i p.latency),.data (.i p.tail),.gs 1000002 3 (p.params.map Bd.cs),.gs 1000003 3 (p.states.map Bd.cs),.gs 1000004 4 (p.lines.map Ln.cs),.gs 1000005 2 (p.tables.map Tb.cs),.gs 1000006 8 (p.stmts.map Sm.cs)]
def JY(W:TypeId)(e:Int)(ok:Bool)(l:List Tk):gG:=match ok with
 |true=>.ret (.data (.tuple []))
 |false=>.pan (.data (lS W e l))
structure Sz(p:Pr)(l:List Tk):Prop where
 a:p.params.length+l.length<=1073741823
 b:p.states.length+l.length<=1073741823
 c:p.lines.length+l.length<=1073741823
 d:p.tables.length+l.length<=1073741823
 e:p.stmts.length+l.length<=1073741823
theorem Sz.le{p:Pr}{l l':List Tk}(h:Sz p l)(hl:l'.length<=l.length):Sz p l':=⟨by have:=h.a;omega,by have:=h.b;omega,by have:=h.c;omega,by have:=h.d;omega,by have:=h.e;omega⟩
theorem uz{T:Tbl}{rs:List ResultVar}{K0 K K1:Heap}{env:Env}{q:Prop}{W:TypeId}{e:Int}{ok:Bool}{l:List Tk}(h:finR T rs K0 (JY W e ok l) K1 env K):finR T rs K0 (JY W e ok l) K1 env K\/q:=.inl h
theorem lT{T:Tbl}{rs:List ResultVar}{K0 K K1:Heap}{env:Env}{W:TypeId}{e:Int}{l:List Tk}(h:finR T rs K0 (.ret (.data (.tuple []))) K1 env K):finR T rs K0 (JY W e true l) K1 env K:=h
theorem yc{K0 K K1:Heap}{x:AV}{W:TypeId}{e:Int}{ok:Bool}{l:List Tk}(h:Dc K0 K x K1 (JY W e ok l)):Dc K0 K x K1 (JY W e ok l):=h
theorem nT{K0 K K1:Heap}{x:AV}{W:TypeId}{e:Int}{l:List Tk}(h:fin K0 K x (.data (lS W e l)) K1):Dc K0 K x K1 (JY W e false l):=by
 unfold Dc;exact h
theorem lU{ok ok':Bool}{p p':Pr}{l l':List Tk}(h:(ok,p,l)=(ok',p',l')):ok'=ok/\p'=p/\l'=l:=by simp_all
theorem wC{B:B'}{L:List Nat}{az:List AV}{env:Env}{K:Heap}{next pan:Next}(f:FuncId)(r:Bool×Pr×List Tk)
  (h:∀p l,(r=(true,p,l)->∃(as0:List AV) (K0:Heap) (out:gG) (K1:Heap) (ρ:List (Nat×Nat)),B f as0 K0 out K1/\AV.ren.go ρ as0=az/\Heap.sub ρ K K0/\bV ρ K0 K1 out.av env K L=true/\outGo ρ K1 K next pan out) /\
   (r=(false,p,l)->∃(as0:List AV) (K0:Heap) (out:gG) (K1:Heap) (ρ:List (Nat×Nat)),B f as0 K0 out K1/\AV.ren.go ρ as0=az/\Heap.sub ρ K K0/\bV ρ K0 K1 out.av env K L=true/\outGo ρ K1 K next pan out)) :
  ∃(as0:List AV) (K0:Heap) (out:gG) (K1:Heap) (ρ:List (Nat×Nat)),B f as0 K0 out K1/\AV.ren.go ρ as0=az/\Heap.sub ρ K K0/\bV ρ K0 K1 out.av env K L=true/\outGo ρ K1 K next pan out:=by
 obtain⟨ok,p,l⟩:=r
 cases ok with
 |true=>grind
 |false=>simp_all
theorem zjz{t a b c d:Str}{fa fb fc fd:D}{F:D->Prop}{G:Prop}(h1:(t==a)=true->F fa)(h2:(t==a)=false->(t==b)=true->F fb)(h3:(t==a)=false->(t==b)=false->(t==c)=true->F fc)
  (h4:(t==a)=false->(t==b)=false->(t==c)=false->(t==d)=true->F fd) (h5:(t==a)=false->(t==b)=false->(t==c)=false->(t==d)=false->G) :
  rH (nV (.str t) [(.str a,fa),(.str b,fb),(.str c,fc),(.str d,fd)]) F G:=by
 simp[nV,dC,sameS]
 cases ha:t==a with
 |true=>exact h1 ha
 |false=>
  cases hb:t==b with
  |true=>exact h2 ha hb
  |false=>
   cases hc:t==c with
   |true=>exact h3 ha hb hc
   |false=>
    cases hd:t==d with
    |true=>exact h4 ha hb hc hd
    |false=>exact h5 ha hb hc hd
theorem qJ{α:Type}{l:List α}{f:α->List D}{x:α}{ys:List (List D)}(h:ys = [f x]):l.map f++ys=(l++[x]).map f:=by subst h;simp
theorem zf9{α:Type}{B:B'}{L:List Nat}{f:FuncId}{az:List AV}{env:Env}{K:Heap}{next pan:Next}{M:PM α}{g:α->D}{W:TypeId}{e d:Int}{ds:List AV}(hr:∀ρ,AV.ren.go ρ ds=ds)(P:List Tk->Prop)
  (H:∀l o l',P l->M l=(o,l')->B f (.ptr 1000000 0::ds) [(1000000,pB l e d)] (kC W g e o l') [(1000000,pB l' e d)])
  (hk:∃X l,az = .ptr X 0::ds/\K.get X=some (pB l e d)/\allIn L [X]=true/\P l/\(∀x l',M l=(some x,l')->next (.data (g x)) (K.put X (pB l' e d))) /\
   (∀l',M l=(none,l')->pan (.data (lS W e l')) (K.put X (pB l' e d)))) :
  ∃(as0:List AV) (K0:Heap) (out:gG) (K1:Heap) (ρ:List (Nat×Nat)),B f as0 K0 out K1/\AV.ren.go ρ as0=az/\Heap.sub ρ K K0/\bV ρ K0 K1 out.av env K L=true /\
  outGo ρ K1 K next pan out:=by
 obtain⟨X,l,has,hK,hL,hP,h1,h2⟩:=hk
 rcases hM:M l with⟨o,l'⟩
 refine⟨_,_,_,_,[(1000000,X)],H l o l' hP hM,?_,⟨hK,trivial⟩,?_,?_⟩
 ·rw[has]
  show AV.ren _ _::AV.ren.go _ ds=_
  rw[hr];rfl
 ·simp only[bV,wB,keys,aO,rn]
  rw[hL]
  rfl
 ·cases o with
  |some x=>exact h1 x l' hM
  |none=>exact h2 l' hM
theorem zga(f:FuncId)(ρ:List (Nat×Nat)):AV.ren.go ρ [.fn f []] = [.fn f []]:=rfl
structure LsI(R:Option (List Int)×List Tk)(n:Nat)(vs:List Int)(l:List Tk):Prop where
 eq:DC n vs l=R
 le:l.length<=n
 sz:vs.length+l.length<=1073741824
theorem z5p{n:Nat}{vs:List Int}{l:List Tk}(hn:l.length<=n)(hT:isT fE l=true):DC n vs l=bnd (Qv (l.drop 1)) λv l=>DC (n-1) (vs++[v]) l:=by
 obtain⟨m,rfl,-⟩:=rD (lQ hT) hn
 rw[Nat.add_sub_cancel];conv=>{ lhs;unfold DC }
 rw[if_pos hT]
theorem zgb{n:Nat}{vs:List Int}{l:List Tk}(hT:isT fE l=false):DC n vs l=(some vs,l):=by
 cases n with
 |zero=>rfl
 |succ n=>unfold DC;simp_all
section
variable {o : Option (List Int)} {l l' l1 l2 : List Tk} {n : Nat} {vs : List Int} {v : Int}
theorem zax(hM:NH l=(o,l'))(h:Qv l=(none,l2)):o=none/\l'=l2:=by unfold NH at hM;rw[h]at hM;exact Di hM
theorem zgc(hl:l.length<=1073741823)(hM:NH l=(o,l'))(h:Qv l=(some v,l2)):LsI (o,l') l2.length [v] l2:=by
 have:=Ce _ _ _ h
 unfold NH at hM;rw[h]at hM;exact⟨hM,Nat.le_refl _,by simp;omega⟩
theorem zgd(hI:LsI (o,l') n vs l1)(h0:isT fE l1=false):o=some vs/\l'=l1:=by have h:=hI.eq;grind[zgb]
theorem zay(hI:LsI (o,l') n vs l1)(hT:isT fE l1=true)(h:Qv (l1.drop 1)=(none,l2)):o=none/\l'=l2:=by have h1:=hI.eq;rw[z5p hI.le hT,h]at h1;exact Di h1
theorem zge(hI:LsI (o,l') n vs l1)(hT:isT fE l1=true)(h:Qv (l1.drop 1)=(some v,l2)):LsI (o,l') (n-1) (vs++[v]) l2:=by
 have h1:=hI.eq;rw[z5p hI.le hT,h]at h1;have h2:=Ce _ _ _ h;have h3:=hI.sz;have h4:=uy hT;exact⟨h1,Cj Ce hI.le (lQ hT) h,by grind⟩
theorem z1c{R:Option (List Int)×List Tk}(hI:LsI R n vs l1):(vs.map z3p).length<=1073741824:=by have:=hI.sz;grind
theorem zaz(hI:LsI (o,l') n vs l1)(hT:isT fE l1=true):n-1<n:=LI.mu hI.le (lQ hT)
end
theorem XT{l:List Tk}(h:decide (((l.map Tk.cs).length:Int)>0)=true):0<l.length:=by
 simp_all
def ISz(p:Pr)(l:List Tk)(p':Pr)(l':List Tk):Prop:=l'.length<=l.length/\p'.params.length<=p.params.length+1/\p'.states.length<=p.states.length+1/\p'.lines.length<=p.lines.length+1/\p'.tables.length<=p.tables.length+1/\p'.stmts.length<=p.stmts.length+1
theorem sQ{α:Type}{p:Pr}{r:Option α×List Tk}{f:α->List Tk->Bool×Pr×List Tk}{p':Pr}{l l':List Tk}(h:itB p r f=(true,p',l'))(hr:Le l.length r)(hf:∀x m,m.length<=l.length->f x m=(true,p',l')->ISz p l p' l'):ISz p l p' l':=by
 obtain⟨o,m⟩:=r
 cases o with
 |none=>cases h
 |some x=>exact hf x m hr h
theorem JZ:Sh dV:=.of λl=>(oZ.le l).bnd λ_ _ h=>((Ce.le _).mono h).bnd λ_ _ h=>((oZ.le _).mono h).bnd λ_ _ h=>((Ce.le _).mono h).bnd λ_ _ h=>h
theorem QF:Sh E5:=.of λl=>(o7.le l).bnd λ_ _ h=>((JZ.le _).mono h).bnd λ_ _ h=>h
theorem QG:∀(n:Nat) (vs:List Int) (l:List Tk) (m:Nat),l.length<=m->Le m (DC n vs l)
 | 0,_,_,_,h=>h
 |n+1,vs,l,m,h=>by
  unfold DC
  split
  ·exact((Ce.le _).mono (oW h)).bnd λ_ _ h=>QG n _ _ _ h
  ·exact h
theorem za0:Sh NH:=.of λl=>(Ce.le l).bnd λ_ _ h=>QG _ _ _ _ h
theorem Ho{p p':Pr}{l l':List Tk}(h:E8 p l=(true,p',l')):ISz p l p' l':=sQ h (QF.le l) λb m hm h=>by
 cases h;exact⟨hm,by simp,by simp,by simp,by simp,by simp⟩
theorem Hq{p p':Pr}{l l':List Tk}(h:Fa p l=(true,p',l')):ISz p l p' l':=sQ h (QF.le l) λb m hm h=>by
 cases h;exact⟨hm,by simp,by simp,by simp,by simp,by simp⟩
theorem NM{p p':Pr}{l l':List Tk}(h:Tj p l=(true,p',l')):ISz p l p' l':=sQ h (o7.le l) λb m hm h=>sQ h ((wz.le _).mono hm) λn m hm h=>sQ h ((JZ.le _).mono hm) λb m hm h=>by
 cases h;exact⟨hm,by simp,by simp,by simp,by simp,by simp⟩
theorem Ht{p p':Pr}{l l':List Tk}(h:Fe p l=(true,p',l')):ISz p l p' l':=sQ h (o7.le l) λb m hm h=>sQ h ((oZ.le _).mono hm) λn m hm h=>sQ h ((za0.le _).mono hm) λb m hm h=>by
 cases h;exact⟨hm,by simp,by simp,by simp,by simp,by simp⟩
theorem NP{k:Int}{p p':Pr}{l l':List Tk}(h:nS k p l=(true,p',l')):ISz p l p' l':=sQ h (by
  split
  ·exact(o7.le l).bnd λ_ _ h=>((oZ.le _).mono h).bnd λ_ _ h=>h
  ·exact Nat.le_refl _) λb m hm h=>sQ h (((NJ (Ci 63)).le _).mono hm) λn m hm h=>by
 cases h;exact⟨hm,by simp,by simp,by simp,by simp,by simp⟩
structure ItI(t:List (Str×IM))(R:Bool×Pr×List Tk)(n:Nat)(p:Pr)(l:List Tk):Prop where
 eq:pF t n p l=R
 le:l.length<=n
 sz:Sz p l
section
variable {t : List (Str × IM)} {ok : Bool} {p p' p1 : Pr} {l l' l1 l2 : List Tk} {n : Nat} {f : IM}
theorem ItI.start(hz:Sz p l)(hM:jU t p l=(ok,p',l')):ItI t (ok,p',l') l.length p l:=⟨hM,Nat.le_refl _,hz⟩
theorem za1(hn:l1.length<=n)(hT:isT (hd l1).text l1=true)(hf:find (hd l1).text t=some f):pF t n p l1=match f p (l1.drop 1)with
  |(false,p,l)=>(false,p,l)
  |(true,p,l)=>itB p (bz Dz l) λ_ l=>pF t (n-1) p l:=by
 obtain⟨m,rfl,-⟩:=rD (lQ hT) hn
 conv=>{ lhs;unfold pF }
 have:l1.isEmpty=false:=by cases l1 with |nil=>exact absurd rfl (lQ hT) |cons a r=>rfl
 grind
theorem zgf(hI:ItI t (ok,p',l') n p l1)(hT:isT (hd l1).text l1=true)(hf:find (hd l1).text t=some f)(hR:f p (l1.drop 1)=(false,p1,l2)):ok=false/\p'=p1/\l'=l2:=by
 have h:=hI.eq;rw[za1 hI.le hT hf,hR]at h;exact lU h
theorem zgg(hI:ItI t (ok,p',l') n p l1)(hT:isT (hd l1).text l1=true)(hf:find (hd l1).text t=some f)(hR:f p (l1.drop 1)=(true,p1,l2))(hW:isT Dz l2=false):ok=false/\p'=p1/\l'=l2:=by
 have h:=hI.eq;rw[za1 hI.le hT hf,hR]at h
 simp[bz,hW]at h
 exact lU h
theorem zj0(hI:ItI t (ok,p',l') n p l1)(hT:isT (hd l1).text l1=true)(hf:find (hd l1).text t=some f)(hR:f p (l1.drop 1)=(true,p1,l2))(hz:ISz p (l1.drop 1) p1 l2)(hW:isT Dz l2=true):ItI t (ok,p',l') (n-1) p1 (l2.drop 1):=by
 have h:=hI.eq;rw[za1 hI.le hT hf,hR]at h
 simp only[bz,hW]at h
 have h2:=uy hW
 obtain⟨z1,z2,z3,z4,z5,z6⟩:=hz
 simp at z1
 have hs:=hI.sz
 have:=hs.a;have:=hs.b;have:=hs.c;have:=hs.d;have:=hs.e
 have:=hI.le
 refine⟨h,by grind,⟨?_,?_,?_,?_,?_⟩⟩<;>simp<;>omega
theorem zgh(hI:ItI t (ok,p',l') n p l1)(hT:isT (hd l1).text l1=true):n-1<n:=LI.mu hI.le (lQ hT)
theorem zgi(hI:ItI t (ok,p',l') n p l1)(h:decide (((l1.map Tk.cs).length:Int)>0)=false):ok=true/\p'=p/\l'=l1:=by
 have hl:l1 = []:=by simp_all
 subst hl
 have h:=hI.eq
 cases n<;>exact lU h
theorem zgj(hI:ItI t (ok,p',l') n p l1)(hf:find (hd l1).text t=none):ok=true/\p'=p/\l'=l1:=by
 have h:=hI.eq
 cases n with
 |zero=>exact lU h
 |succ n=>
  grind[pF]
theorem zgk(hI:ItI t (ok,p',l') n p l1)(hT:isT (hd l1).text l1=false):ok=true/\p'=p/\l'=l1:=by
 have h:=hI.eq
 cases n with
 |zero=>exact lU h
 |succ n=>
  unfold pF at h
  grind
end
abbrev p0(s:Str)(a t:Int):Pr:=⟨s,a,t,[],[],[],[],[]⟩
def wF(s:Str)(a t:Int):PM Pr:=λl=>match jU decls (p0 s a t) l with
 |(false,_,l)=>(none,l)
 |(true,p,l)=>match jU stmts p l with
  |(false,_,l)=>(none,l)
  |(true,p,l)=>bnd (bz zcs l) λ_ l=>(some p,l)
theorem zL(l:List Tk):DD l=bnd (bz gW l) λ_ l=>bnd (oV l) λs l=>bnd (bz kH l) λ_ l=>bnd (zJ l) λa l=>
 bnd (bz Hg l) λ_ l=>bnd (if lM l then zJ l else bnd (bz ww l) λ_ l=>(some (-1),l)) λt l=>bnd (bz z5e l) λ_ l=>wF s a t l:=rfl
section
variable {o : Option Pr} {l l' l1 l2 l3 : List Tk} {s : Str} {a t : Int} {p1 p2 : Pr}
theorem za2(hM:DD l=(o,l'))(h0:isT gW l=true)(h1:oV (l.drop 1)=(some s,l1))(h2:isT kH l1=true)(h3:zJ (l1.drop 1)=(some a,l2))(h4:isT Hg l2=true)(h5:lM (l2.drop 1)=true)
  (h6:isT z5e ((l2.drop 1).drop 1)=true):wF s a (hd (l2.drop 1)).n (((l2.drop 1).drop 1).drop 1)=(o,l')/\(((l2.drop 1).drop 1).drop 1).length<=l.length:=by
 refine⟨?_,?_⟩
 ·rw[zL]at hM
  have e5:zJ (l2.drop 1)=(some (hd (l2.drop 1)).n,(l2.drop 1).drop 1):=by unfold zJ;rw[if_pos h5]
  simp only[bz,h0,if_true,bnd,h1,h2,h3,h4,h5,e5,h6]at hM
  exact hM
 ·have:=o7 _ _ _ h1;have:=wz _ _ _ h3;grind
theorem za3(hM:DD l=(o,l'))(h0:isT gW l=true)(h1:oV (l.drop 1)=(some s,l1))(h2:isT kH l1=true)(h3:zJ (l1.drop 1)=(some a,l2))(h4:isT Hg l2=true)(h5:lM (l2.drop 1)=true)
  (h6:isT z5e ((l2.drop 1).drop 1)=false):o=none/\l'=(l2.drop 1).drop 1:=by
 rw[zL]at hM
 have e5:zJ (l2.drop 1)=(some (hd (l2.drop 1)).n,(l2.drop 1).drop 1):=by unfold zJ;rw[if_pos h5]
 simp only[bz,h0,if_true,bnd,h1,h2,h3,h4,h5,e5,h6]at hM
 exact Di hM
theorem za4(hM:DD l=(o,l'))(h0:isT gW l=true)(h1:oV (l.drop 1)=(some s,l1))(h2:isT kH l1=true)(h3:zJ (l1.drop 1)=(some a,l2))(h4:isT Hg l2=true)(h5:lM (l2.drop 1)=false)(h7:isT ww (l2.drop 1)=true)
  (h6:isT z5e ((l2.drop 1).drop 1)=true):wF s a (-1) (((l2.drop 1).drop 1).drop 1)=(o,l')/\(((l2.drop 1).drop 1).drop 1).length<=l.length:=by
 refine⟨?_,?_⟩
 ·rw[zL]at hM
  simp only[bz,h0,if_true,bnd,h1,h2,h3,h4,h5,h7,h6,Bool.false_eq_true,if_false]at hM
  exact hM
 ·have:=o7 _ _ _ h1;have:=wz _ _ _ h3;grind
theorem za5(hI:wF s a t l=(o,l'))(h:jU decls (p0 s a t) l=(false,p1,l1)):o=none/\l'=l1:=by
 grind[wF]
theorem za6(hI:wF s a t l=(o,l'))(h:jU decls (p0 s a t) l=(true,p1,l1))(h2:jU stmts p1 l1=(false,p2,l2)):o=none/\l'=l2:=by
 grind[wF]
theorem za7(hI:wF s a t l=(o,l'))(h:jU decls (p0 s a t) l=(true,p1,l1))(h2:jU stmts p1 l1=(true,p2,l2))(hW:isT zcs l2=false):o=none/\l'=l2:=by
 unfold wF at hI;rw[h]at hI;simp[h2,bz,hW]at hI;exact Di hI
theorem zgl(hI:wF s a t l=(o,l'))(h:jU decls (p0 s a t) l=(true,p1,l1))(h2:jU stmts p1 l1=(true,p2,l2))(hW:isT zcs l2=true):o=some p2/\l'=l2.drop 1:=by
 unfold wF at hI;rw[h]at hI;simp only[h2,bz,hW]at hI;exact Di hI
end
theorem sz0{s:Str}{a t:Int}{l:List Tk}(h:l.length<=1073741823):Sz (p0 s a t) l:=⟨by simpa using h,by simpa using h,by simpa using h,by simpa using h,by simpa using h⟩
theorem XU{t:List (Str×IM)}(ht:∀x∈t,∀p l p' l',x.2 p l=(true,p',l')->ISz p l p' l'){s:Str}{f:IM}(h:find s t=some f){p p':Pr}{l l':List Tk}(hf:f p l=(true,p',l')):ISz p l p' l':=by
 induction t with
 |nil=>cases h
 |cons x r ih=>
  simp[find]at h
  split at h
  ·simp_all
  ·exact ih (λy hy=>ht y (by simp[hy])) h
theorem QH:∀x∈decls,∀p l p' l',x.2 p l=(true,p',l')->ISz p l p' l':=by
 intro x hx p l p' l' h
 simp[decls]at hx
 rcases hx with rfl |rfl |rfl |rfl<;>grind[Ho,Hq,NM,Ht]
theorem z1d:∀x∈stmts,∀p l p' l',x.2 p l=(true,p',l')->ISz p l p' l':=by
 intro x hx p l p' l' h
 simp[stmts]at hx
 rcases hx with rfl |rfl |rfl |rfl<;>grind[NP]
theorem J3{t:List (Str×IM)}(ht:∀x∈t,∀p l p' l',x.2 p l=(true,p',l')->ISz p l p' l'):∀(n:Nat) (p:Pr) (l:List Tk) (p':Pr) (l':List Tk),pF t n p l=(true,p',l')->Sz p l->Sz p' l'/\l'.length<=l.length
 | 0,p,l,p',l',h,hz=>by cases h;simp_all
 |n+1,p,l,p',l',h,hz=>by
  unfold pF at h
  split at h<;>try(simp_all;done)
  split at h<;>try(simp_all;done)
  rename_i f hf
  split at h
  ·split at h
   ·cases h
   ·rename_i p1 l1 hR
    have hi:=XU ht hf hR
    obtain⟨z1,z2,z3,z4,z5,z6⟩:=hi
    by_cases hW:isT Dz l1=true
    ·simp only[bz,hW,if_true,itB]at h
     have:=hz.a;have:=hz.b;have:=hz.c;have:=hz.d;have:=hz.e
     have:=uy hW
     have ih:=J3 ht n p1 (l1.drop 1) p' l' h ⟨by grind,by grind,by grind,by grind,by grind⟩
     grind
    ·simp only[bz,hW,if_false,itB]at h
     cases h
  simp_all
theorem J4{p p':Pr}{l l':List Tk}(h:jU decls p l=(true,p',l'))(hz:Sz p l):Sz p' l':=(J3 QH _ _ _ _ _ h hz).1
structure RdI(R:Option (List Pr)×List Tk)(n:Nat)(ps:List Pr)(l:List Tk):Prop where
 eq:Tm n ps l=R
 le:l.length<=n
 sz:ps.length+l.length<=1073741823
theorem Hu{t:List (Str×IM)}(ht:∀x∈t,∀p l p' l',x.2 p l=(true,p',l')->ISz p l p' l'):∀(n:Nat) (p:Pr) (l:List Tk) (p':Pr) (l':List Tk),pF t n p l=(true,p',l')->l'.length<=l.length
 | 0,p,l,p',l',h=>by cases h;omega
 |n+1,p,l,p',l',h=>by
  unfold pF at h
  split at h<;>try(simp_all;done)
  split at h<;>try(simp_all;done)
  rename_i f hf
  split at h
  ·split at h<;>try(cases h)
   rename_i p1 l1 hR
   have z1:=(XU ht hf hR).1
   by_cases hW:isT Dz l1=true
   ·simp only[bz,hW]at h
    have ih:=Hu ht n p1 (l1.drop 1) p' l' h
    grind
   ·simp[bz,hW]at h
    cases h
  simp_all
theorem kK{α β:Type}{r:Option α×List Tk}{f:α->PM β}{y:β}{m:List Tk}(h:bnd r f=(some y,m)):∃x l,r=(some x,l)/\f x l=(some y,m):=by
 obtain⟨o,l⟩:=r
 cases o with
 |none=>cases h
 |some x=>exact⟨x,l,rfl,h⟩
theorem qK{s:Str}{l m:List Tk}{y:Unit}(h:bz s l=(some y,m)):isT s l=true/\m=l.drop 1:=by
 unfold bz at h
 grind
theorem z1e{s:Str}{a t:Int}{l m:List Tk}{p:Pr}(h:wF s a t l=(some p,m)):m.length<=l.length:=by
 unfold wF at h
 split at h<;>try(cases h)
 rename_i h1
 split at h
 ·cases h
 ·rename_i h2
  obtain⟨x,l3,h3,h4⟩:=kK h
  obtain⟨-,rfl⟩:=qK h3
  have:=Hu QH _ _ _ _ _ h1
  have:=Hu z1d _ _ _ _ _ h2
  grind
theorem za8{l m:List Tk}{p:Pr}(h:DD l=(some p,m)):m.length<l.length:=by
 obtain⟨x,l1,h1,h⟩:=kK h
 obtain⟨hT,rfl⟩:=qK h1
 obtain⟨s,l2,h2,h⟩:=kK h
 obtain⟨x,l3,h3,h⟩:=kK h
 obtain⟨-,rfl⟩:=qK h3
 obtain⟨a,l4,h4,h⟩:=kK h
 obtain⟨x,l5,h5,h⟩:=kK h
 obtain⟨-,rfl⟩:=qK h5
 obtain⟨t,l6,h6,h⟩:=kK h
 obtain⟨x,l7,h7,h⟩:=kK h
 obtain⟨-,rfl⟩:=qK h7
 have e2:=o7 _ _ _ h2
 have e4:=wz _ _ _ h4
 have e6:l6.length<=(l4.drop 1).length:=by
  split at h6<;>try exact wz _ _ _ h6
  obtain⟨x,l8,h8,h9⟩:=kK h6
  have:=oZ _ _ _ h8
  simp_all
 have e8:=z1e h
 grind[uy]
def z1f(e:Int):Option (List Pr)×List Tk->D
 |(some ps,_)=>.tuple [.sl 8 (ps.map Pr.cs),.i 0,.i 0]
 |(none,l)=>.tuple [.sl 8 [],.i (at' e l),.i 140]
section
variable {l l1 l2 : List Tk} {n : Nat} {ps : List Pr} {p : Pr} {R : Option (List Pr) × List Tk}
theorem zgm(hl:l.length<=1073741823):RdI (readM l) l.length [] l:=⟨rfl,Nat.le_refl _,by simpa using hl⟩
theorem XV(hn:l.length<=n)(h:decide (((l.map Tk.cs).length:Int)>0)=true):Tm n ps l=bnd (DD l) λp l=>Tm (n-1) (ps++[p]) l:=by
 conv=>{ lhs;unfold Tm }
 grind
theorem zgn(hI:RdI R n ps l)(h:decide (((l.map Tk.cs).length:Int)>0)=true)(hp:DD l=(none,l2)):R=(none,l2):=by
 have h1:=hI.eq;rw[XV hI.le h,hp]at h1;exact h1.symm
theorem zgo(hI:RdI R n ps l)(h:decide (((l.map Tk.cs).length:Int)>0)=true)(hp:DD l=(some p,l2)):RdI R (n-1) (ps++[p]) l2:=by
 have h1:=hI.eq;rw[XV hI.le h,hp]at h1
 have h2:=za8 hp;have h3:=hI.le;have h4:=hI.sz
 exact⟨h1,by omega,by simp;omega⟩
theorem za9(hI:RdI R n ps l)(h:decide (((l.map Tk.cs).length:Int)>0)=true):n-1<n:=by
 have:=XT h;have:=hI.le;omega
theorem zgp(hI:RdI R n ps l)(h:decide (((l.map Tk.cs).length:Int)>0)=false):R=(some ps,l):=by
 have hl:l = []:=by simp_all
 subst hl
 have h:=hI.eq
 cases n<;>exact h.symm
theorem zio(hI:RdI R n ps l):l.length<=1073741823:=by have:=hI.sz;omega
theorem z1g(hI:RdI R n ps l):(ps.map Pr.cs).length<=1073741824:=by have:=hI.sz;grind
end
theorem zba(ρ:List (Nat×Nat)):AV.ren.go ρ [] = []:=rfl
theorem CB{T:Tbl}{Df:FuncId->List AV->Option D->Bool->Heap->Heap->Prop}{f:FuncId}{az:List AV}{d y:D}{rs:List ResultVar}{K0:Heap}{env:Env}{K K1:Heap}(h:YE Df f az (some d) false env K λK=>finR T rs K0 (.ret (.data y)) K1 env K):Eh T Df f az d rs K0 env K K1 (lY.ret y).toA:=Eh.ret h
end Go.Fw.Sy
