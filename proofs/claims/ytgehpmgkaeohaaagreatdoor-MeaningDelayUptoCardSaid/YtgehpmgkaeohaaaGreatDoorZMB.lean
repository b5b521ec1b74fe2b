/- A part of the proof. -/
import Derived.Test.YtgehpmgkaeohaaaGreatDoorZMA
import Derived.Test.YtgehpmgkaeohaaaGreatDoorZSY
set_option linter.all false
namespace Go.Fw.Mn
open Go.Fw Go.Fw.Ref15 Go.Fw.Rg Go.Fw.Tl
variable [ae]
def vW(s t:St):Bool:=Rg.intsE s.vals t.vals&&Rg.lenE (λq=>Rg.intsE q.1 q.2) s.lines t.lines
theorem zey{s t:St}(h:(bif !(Rg.intsE s.vals t.vals)then true else((s.lines.map lC).length:Int) != ((t.lines.map lC).length:Int))=true):false=vW s t:=by
 rw[vW]
 cases q:Rg.intsE s.vals t.vals with
 |false=>rfl
 |true=>
  grind[Rg.lenE]
theorem z9m{s t:St}(h:(bif !(Rg.intsE s.vals t.vals)then true else((s.lines.map lC).length:Int) != ((t.lines.map lC).length:Int))=false):s.lines.length=t.lines.length/\vW s t=(s.lines.zip t.lines).all λq=>Rg.intsE q.1 q.2:=by
 cases q:Rg.intsE s.vals t.vals with
 |false=>simp_all
 |true=>
  grind[vW,Rg.lenE]
theorem z0a{x:List Int×List Int}{r:List (List Int×List Int)}{b:Bool}(h:b=(x::r).all λq=>Rg.intsE q.1 q.2)(hb:(!(Rg.intsE x.1 x.2))=false):b=r.all λq=>Rg.intsE q.1 q.2:=by
 simp_all
theorem z9n{x:List Int×List Int}{r:List (List Int×List Int)}{b:Bool}(h:b=(x::r).all λq=>Rg.intsE q.1 q.2)(hb:(!(Rg.intsE x.1 x.2))=true):false=b:=by
 simp_all
theorem RX{l:List Int}{n:Int}(h:(l.length:Int)=n)(hv:∀v∈l,-2147483648<=v/\v<=2147483647):iL l n=true:=by
 rw[iL,show((l.length:Int)==n)=true from by simp[h]]
 show(!(l.any Zw))=true
 rw[Bool.not_eq_true',List.any_eq_false]
 intro v hx
 have:=hv v hx
 simp[Zw]
 omega
theorem z0b{p:Pr}{s:St}(h1:iR s.vals p.states=true)(h2:s.lines.length=p.lines.length)(h3:∀i,i<s.lines.length->((s.lines.getD i []).length:Int)=(p.lines.getD i Ln.none).size/\∀v∈s.lines.getD i [],v=0\/((p.lines.getD i Ln.none).lo<=v/\v<=(p.lines.getD i Ln.none).hi)):jS p s=true:=by
 rw[jS,h1,show((s.lines.length:Int) != (p.lines.length:Int))=false from by simp[h2]]
 show linZ (s.lines.zip p.lines)=true
 rw[linZ,Bool.not_eq_true',List.any_eq_false]
 intro x hx
 obtain⟨i,hi⟩:=List.mem_iff_getElem?.1 hx
 rw[List.getElem?_zip_eq_some]at hi
 have hl:=(List.getElem?_eq_some_iff.1 hi.1).1
 obtain⟨q1,q2⟩:=h3 i hl
 simp[hi.1,hi.2]at q1 q2
 simp[z7p]
 refine⟨q1,λv hv=>?_⟩
 have:=q2 v hv
 simp[z2u]
 omega
abbrev zhw:Ex:=.mk 6 [] 0 0 [.mk 1 [] 0 0 []]
abbrev dlP(n k:Int):Pr:=⟨[112],0,n,[],[],[⟨[100],n,-2147483648,2147483647⟩],[],[⟨3,[100],0,zhw⟩,⟨4,[],0,.mk 8 [100] 0 0 [.mk 1 [] 0 k []]⟩]⟩
def dlB(n k:Int):Bool:=qA (Nam.resolveC (dlP n k)).1 (dlP n k)&&((Nam.resolveC (dlP n k)).2==0&&jo (dlP n k)==0)
theorem zez:((List.range 30).all λa=>(List.range (a+1)).all λk=>dlB ((a+1:Nat):Int) (k:Int))=true:=by kernel_rfl
theorem z9o{n k:Nat}(h1:1<=n)(h2:n<=30)(h3:k<n):Nam.resolveC (dlP n k)=(dlP n k,0)/\jo (dlP n k)=0:=by
 have h:=List.all_eq_true.1 zez (n-1) (List.mem_range.2 (by omega))
 have h:=List.all_eq_true.1 h k (List.mem_range.2 (by omega))
 rw[show n-1+1=n by omega]at h
 simp only[dlB,Bool.and_eq_true]at h
 obtain⟨q1,q2,q3⟩:=h
 exact⟨Prod.ext ((gW _ _).1 q1) (eq_of_beq q2),eq_of_beq q3⟩
structure DlI(xs:List Int)(n i:Nat)(l:List Int):Prop where
 len:l.length=n
 at_:∀j,j<n->l.getD j 0=if j<i then xs.getD (i-1-j) 0 else 0
 smp:∀v∈l,v=0\/(-2147483648<=v/\v<=2147483647)
theorem zic(xs:List Int)(n:Nat):DlI xs n 0 (List.replicate n 0):=by
 refine⟨by simp,λj hj=>?_,λv hv=>.inl (List.eq_of_mem_replicate hv)⟩
 simp_all
theorem z9p{xs r l:List Int}{n i:Nat}{x:Int}(h:DlI xs n i l)(hn:1<=n)(hd:xs.drop i=x::r)(hs:-2147483648<=x/\x<=2147483647):DlI xs n (i+1) (x::l.dropLast):=by
 refine⟨by rw[List.length_cons,List.length_dropLast,h.len];omega,λj hj=>?_,λv hv=>?_⟩
 ·cases j with
  |zero=>
   have:xs[i]? = some x:=by
    have:=congrArg (λl=>l[0]?) hd
    simpa using this
   simp_all
  |succ m=>
   have:=h.at_ m (by omega)
   have e:(x::l.dropLast).getD (m+1) 0=l.getD m 0:=by
    rw[List.getD_eq_getElem?_getD,List.getElem?_cons_succ,List.getElem?_dropLast,if_pos (by rw[h.len];omega),<-List.getD_eq_getElem?_getD]
   grind
 ·rcases List.mem_cons.1 hv with rfl |hv
  ·exact .inr hs
  ·exact h.smp v ((List.dropLast_sublist l).subset hv)
abbrev dlF(x:Int)(l:List Int):Fr:=⟨[],[x],[0],[],[l],[]⟩
theorem ze0(n k x:Int)(l:List Int):stepM (dlP n k) (dlF x l)=(at0 l (gm k 0 (l.length-1)),⟨[],[x::l.dropLast]⟩):=rfl
theorem z9q{n k i:Nat}{xs l:List Int}{x:Int}(h1:1<=n)(h2:n<=30)(h3:k<n)(h:DlI xs n i l)(hs:-2147483648<=x/\x<=2147483647):GG (dlP n k) (dlF x l)=(l.getD k 0,⟨[],[x::l.dropLast]⟩,0):=by
 have hc:=(z9o h1 h2 h3).2
 have hl:=h.len
 have ha:XZ (dlP n k) (dlF x l)=false:=by
  have e1:iL [x] (IntKind.i64.wrap (0+1))=true:=RX (by rfl) (by simpa using hs)
  have e2:iL [0] (IntKind.i64.wrap (0+1))=true:=by kernel_rfl
  show(bif (bif !(iR [] [])then true else !(iL [x] (IntKind.i64.wrap (0+1))))then true else !(iL [0] (IntKind.i64.wrap (0+1))))=false
  rw[e1];rfl
 have hv:jS (dlP n k) ⟨[],[l]⟩=true:=z0b rfl rfl λj hj=>by
  have:j=0:=by simpa using hj
  subst this
  exact⟨by simp_all,h.smp⟩
 have hk:gm k 0 (l.length-1)=k:=by
  grind[gm,mm2]
 rw[GG,if_neg (by rw[hc];decide),if_neg (by rw[ha];decide),if_neg (by simp_all),ze0,hk]
 rfl
theorem z0c{n k:Nat}(h1:1<=n)(h2:n<=30)(h3:k<n):BD (dlP n k)=(⟨[],[List.replicate n 0]⟩,0):=by
 rw[BD,if_neg (by grind[z9o])];rfl
theorem z9r(n k:Int):ja (dlP n k):=⟨⟨by show 0<=_;omega,by show 0<=_;omega,by show 1<=_;omega,by show 0<=_;omega,by show 2<=_;omega⟩,λs hs=>by
  simp only[List.mem_cons,List.not_mem_nil,or_false]at hs
  rcases hs with rfl |rfl
  ·show Ref15.nodes zhw<=_;decide
  ·show 2<=1073741824;decide,λt ht=>by simp at ht⟩
abbrev ze1(x:Int):List D:=[.val (.int .i32 x)]
def zfn(xs:List Int):Prop:=∀v∈xs,-2147483648<=v/\v<=2147483647
theorem zhx{x:Int}(h:-2147483648<=x/\x<=2147483647):IntKind.i64.wrap x=x:=bC (by omega) (by omega)
theorem zid{xs:List Int}(h:zfn xs)(i:Nat):-2147483648<=xs.getD i 0/\xs.getD i 0<=2147483647:=ZE (P:=λv=>-2147483648<=v/\v<=2147483647) h (by decide) i
theorem zgk{a:Int}{n:Nat}(ha:0<=a/\a<=255)(hn:n=1+a.toNat % 30):IntKind.i64.wrap (1+(IntKind.i64.wrap a).tmod 30)=(n:Int):=by
 rw[bC (n:=a) (by omega) (by omega)]
 have e:a.tmod 30=((a.toNat % 30:Nat):Int):=by
  obtain⟨m,rfl⟩:∃m:Nat,a=m:=⟨a.toNat,by omega⟩
  rw[Int.toNat_natCast];rfl
 rw[e,bC (by omega) (by omega),hn];omega
theorem zie{a b:Int}{n k:Nat}(ha:0<=a/\a<=255)(hb:0<=b/\b<=255)(hn:n=1+a.toNat % 30)(hk:k=b.toNat % n):(IntKind.i64.wrap b).tmod (IntKind.i64.wrap (1+(IntKind.i64.wrap a).tmod 30))=(k:Int):=by
 rw[zgk ha hn,bC (by omega) (by omega),hk]
 obtain⟨m,rfl⟩:∃m:Nat,b=m:=⟨b.toNat,by omega⟩
 rw[Int.toNat_natCast];rfl
theorem zgl{i k:Nat}(hi:i<=1073741824)(h:decide ((i:Int)>(k:Int))=true):IntKind.i64.wrap (IntKind.i64.wrap ((i:Int)-1)-(k:Int))=((i-1-k:Nat):Int):=by
 have:=of_decide_eq_true h
 rw[bC (n:=(i:Int)-1) (by omega) (by omega),bC (by omega) (by omega)];omega
theorem ze2{xs:List Int}{i k:Nat}(hi:i<xs.length)(hl:xs.length<=1073741824)(h:decide ((i:Int)>(k:Int))=true) :
  0<=IntKind.i64.wrap (IntKind.i64.wrap ((i:Int)-1)-(k:Int))/\(xs.map ze1)[(IntKind.i64.wrap (IntKind.i64.wrap ((i:Int)-1)-(k:Int))).toNat]? = some (ze1 (xs.getD (i-1-k) 0)):=by
 rw[zgl (by omega) h]
 have:i-1-k<xs.length:=by omega
 refine⟨by omega,?_⟩
 simp[List.getD_eq_getElem?_getD,this]
theorem zgm{xs l:List Int}{n k i:Nat}(h:DlI xs n i l)(hx:zfn xs)(hk:k<n)(hi:decide ((i:Int)>(k:Int))=true)(hb:(bif (0:Int) != 0 then true else l.getD k 0 != IntKind.i64.wrap (xs.getD (i-1-k) 0))=true):False:=by
 have:=of_decide_eq_true hi
 have e:=h.at_ k hk
 rw[if_pos (by omega)]at e
 rw[zhx (zid hx _),e]at hb
 simp at hb
theorem zgn{xs l:List Int}{n k i:Nat}(h:DlI xs n i l)(hk:k<n)(hi:decide ((i:Int)>(k:Int))=false)(hb:(bif (0:Int) != 0 then true else l.getD k 0 != 0)=true):False:=by
 have:=of_decide_eq_false hi
 have e:=h.at_ k hk
 rw[if_neg (by omega)]at e
 rw[e]at hb
 simp at hb
def zhy:Str:=[112,114,111,99,101,115,115,111,114,32,112,32,108,97,116,101,110,99,121,32,48,32,116,97,105,108,32,102,111,114,101,118,101,114,32,123,32]
def ze3:Str:=[32,125]
abbrev Xp(b:Str):Str:=zhy++b++ze3
def prB(b:Str):Pr:=match Lx.lexR Lx.pStep (Xp b) 0 with
 | .error _=>Pr.none
 | .ok l=>match(Sy.readM l).1 with
  |some [p]=>p
  |_=>Pr.none
def BR(b:Str):Pr:=(Nam.resolveC (prB b)).1
def readB(b:Str):Bool:=Nat.ble (Xp b).length 1000&&match Lx.lexR Lx.pStep (Xp b) 0 with
 | .error _=>false
 | .ok l=>Nat.ble l.length 1000&&match(Sy.readM l).1 with
  |some [_]=>true
  |_=>false
def Qb(p:Pr):Bool:=Nat.ble p.params.length 100&&(Nat.ble p.states.length 100&&(Nat.ble p.lines.length 100&&(Nat.ble p.tables.length 100&&(Nat.ble p.stmts.length 100&&((p.stmts.all λs=>Nat.ble (Ref15.nodes s.x) 100)&&p.tables.all λt=>Nat.ble t.values.length 100)))))
theorem xM{p:Pr}(h:Qb p=true):ja p:=by
 simp only[Qb,Bool.and_eq_true,Nat.ble_eq,List.all_eq_true]at h
 obtain⟨h1,h2,h3,h4,h5,h6,h7⟩:=h
 exact⟨⟨by omega,by omega,by omega,by omega,by omega⟩,λs hs=>by have:=h6 s hs;omega,λt ht=>by have:=h7 t ht;omega⟩
def okB(b:Str):Bool:=readB b&&(Qb (prB b)&&(Qb (BR b)&&(Nam.resolveC (prB b)).2==0))
theorem ze4{b:Str}(h:readB b=true):(Xp b).length<=1000/\(∀l,Lx.lexR Lx.pStep (Xp b) 0 = .ok l->l.length<=1073741823)/\Sy.parseD (Xp b) = .tuple [.sl 8 [(prB b).cs],.i 0,.i 0]:=by
 simp only[readB,Bool.and_eq_true,Nat.ble_eq]at h
 obtain⟨h0,h⟩:=h
 refine⟨h0,λl e=>?_,?_⟩
 ·rw[e]at h
  simp only[Bool.and_eq_true,Nat.ble_eq]at h
  omega
 rw[Sy.parseD,if_neg (by rw[decide_eq_true_eq];omega)]
 unfold prB
 cases hl:Lx.lexR Lx.pStep (Xp b) 0 with
 |error a=>rw[hl]at h;cases h
 |ok l=>
  rw[hl]at h
  simp only[Bool.and_eq_true]at h ⊢
  have h:=h.2
  cases hr:(Sy.readM l).1 with
  |none=>rw[hr]at h;cases h
  |some ps=>
   rw[hr]at h
   match ps,h,hr with
   | [p],_,hr=>rw[Sy.readD_some hr];rfl
   | [],h,_=>cases h
   |_::_::_,h,_=>cases h
abbrev za2(n:Int)(s:St):Fr:=⟨[],[n],[0],s.vals,s.lines,[]⟩
def stB(s:St):Bool:=Nat.ble s.vals.length 100&&(Nat.ble s.lines.length 100&&s.lines.all λl=>Nat.ble l.length 100)
theorem Xq{s:St}(h:stB s=true):s.Sm:=by
 simp only[stB,Bool.and_eq_true,Nat.ble_eq,List.all_eq_true]at h
 exact⟨by omega,by omega,λl hl=>by have:=h.2.2 l hl;omega⟩
def Dp(b:Str)(s:St):St:=if(Nat.beq s.vals.length 0&&Nat.beq s.lines.length 0)=true then lK (BR b)else s
def Nk(b:Str)(n:Int)(s:St)(o:Int)(x:St):Bool:=okB b&&((jo (BR b)==0)&&(!(XZ (BR b) (za2 n (Dp b s)))&&(jS (BR b) (Dp b s)&&(stB (Dp b s)&&(((stepM (BR b) (za2 n (Dp b s))).1==o)&&vW (stepM (BR b) (za2 n (Dp b s))).2 x)))))
def zhz:Str:=[111,117,116,32,105,110,40,48,41,59]
def zh0:Str:=[115,116,97,116,101,32,115,32,102,114,111,109,32,48,32,116,111,32,57,59,32,115,101,116,32,115,32,61,32,109,105,110,40,115,32,43,32,49,44,32,57,41,59,32,111,117,116,32,115,32,42,32,50,59]
def zh1:Str:=[111,117,116,32,45,55,32,47,32,50,59]
def zh2:Str:=[116,97,98,108,101,32,116,32,61,32,53,44,32,54,59,32,111,117,116,32,108,111,111,107,40,116,44,32,105,110,40,48,41,41,59]
def zh3:Str:=[108,105,110,101,32,100,32,50,32,102,114,111,109,32,45,57,32,116,111,32,57,59,32,112,117,115,104,32,100,32,61,32,109,97,120,40,45,57,44,32,109,105,110,40,105,110,40,48,41,44,32,57,41,41,59,32,111,117,116,32,116,97,112,40,100,44,32,49,41,59]
def z0d:Str:=[115,116,97,116,101,32,115,32,102,114,111,109,32,50,32,116,111,32,53,59,32,111,117,116,32,115,59]
theorem at1:Nk zhz 7 noS 7 noS=true:=by kernel_rfl
theorem at2:Nk zh0 0 ⟨[3],[]⟩ 8 ⟨[4],[]⟩=true:=by kernel_rfl
theorem at3:Nk zh1 0 noS (-4) noS=true:=by kernel_rfl
theorem at4:Nk zh2 100 noS 6 noS=true:=by kernel_rfl
theorem at5:Nk zh3 5 ⟨[],[[3,4]]⟩ 4 ⟨[],[[5,3]]⟩=true:=by kernel_rfl
theorem at6:okB z0d=true:=by kernel_rfl
theorem zif:jo (BR z0d)=0:=by kernel_rfl
theorem zih:lK (BR z0d)=⟨[2],[]⟩:=by kernel_rfl
theorem zii:(GG (BR z0d) (za2 0 ⟨[6],[]⟩))=(0,noS,180):=by kernel_rfl
theorem zij:(GG (BR z0d) ⟨[],[0,0],[0],[2],[],[]⟩)=(0,noS,1):=by kernel_rfl
end Go.Fw.Mn
