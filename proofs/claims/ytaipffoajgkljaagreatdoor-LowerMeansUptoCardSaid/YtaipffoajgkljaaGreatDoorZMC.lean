/- A part of the proof. -/
import Derived.Test.YtaipffoajgkljaaGreatDoorZLL
set_option linter.all false
namespace Go.Fw.Mac
open Go.Fw
abbrev W(n:Int):Int:=IntKind.i64.wrap n
structure Cd where
 latency:Int
 tail:Int
 params:List Bd
 states:List Bd
 lines:List Ln
 tables:List (List Int)
 regs:Int
 instrs:List (Int×Int)
structure Sta where
 values:List Int
 lines:List (List Int)
abbrev jl(x:Int×Int):List D:=[.i x.1,.i x.2]
abbrev lnC(t:List Int):List D:=[ints t]
abbrev Cd.cs(c:Cd):List D:=[.i c.latency,.i c.tail,.sl 3 (c.params.map Bd.cs),.sl 3 (c.states.map Bd.cs),.sl 4 (c.lines.map Ln.cs),.sl 1 (c.tables.map lnC),.i c.regs,.sl 2 (c.instrs.map jl)]
abbrev Cd.d(c:Cd):D:=.agg c.cs
abbrev Sta.cs(s:Sta):List D:=[ints s.values,.sl 1 (s.lines.map lnC)]
abbrev Sta.d(s:Sta):D:=.agg s.cs
abbrev U0(l:List Bd):List D:=[.sl 3 (l.map Bd.cs)]
def lens{α:Type}(ls:List (List α)):Nat:=(ls.map List.length).sum
theorem lens_cons{α:Type}(l:List α)(r:List (List α)):lens (l::r)=l.length+lens r:=by simp[lens]
theorem FH{α:Type}:lens ([]:List (List α))=0:=rfl
theorem AU{α:Type}(ls:List (List α)):ls.flatten.length=lens ls:=by simp[lens]
abbrev boolC(b:Bool):List D:=[.b b]
structure Cd.Sm(c:Cd):Prop where
 params:c.params.length<=268435456
 states:c.states.length<=268435456
 lines:c.lines.length<=268435456
 tables:c.tables.length<=268435456
 instrs:c.instrs.length<=268435456
 table:∀t∈c.tables,t.length<=268435456
structure Sta.Sm(s:Sta):Prop where
 values:s.values.length<=268435456
 lines:s.lines.length<=268435456
 line:∀t∈s.lines,t.length<=268435456
def mostF:List Int->Int->Int->Int->Int×Int
 | [],_,n,k=>(n,k)
 |x::r,i,n,k=>bif decide (x>n)then mostF r (i+1) x i else mostF r (i+1) n k
def wrongM(lo hi:Int):Bool:=bif (bif decide (lo < -2147483648)then true else decide (lo>hi))then true else decide (hi>2147483647)
def anyB:List Bd->Bool
 | []=>false
 |b::r=>bif wrongM b.lo b.hi then true else anyB r
def badL(x:Ln):Bool:=bif (bif wrongM x.lo x.hi then true else decide (x.size<1))then true else decide (x.size>65536)
def anyL:List Ln->Bool
 | []=>false
 |x::r=>bif badL x then true else anyL r
def firstW:List Int->Int->Int
 | [],_=>-1
 |x::r,i=>bif wrongM x x then i else firstW r (i+1)
def badT(t:List Int):Bool:=bif (bif decide ((t.length:Int)<1)then true else decide ((t.length:Int)>1024))then true else decide (firstW t 0>=0)
def anyT:List (List Int)->Bool
 | []=>false
 |t::r=>bif badT t then true else anyT r
def finP(c:Cd)(n:Int):Bool:=
 bif (bif (bif (bif (bif (bif (bif decide (n<=16)then decide (c.latency>=0)else false)then decide (c.latency<=4096)else false)then decide (c.tail >= -1)else false)then decide (c.tail<=1048576)else false)then decide (c.regs>=0)else false)then decide (c.regs<=65536)else false)then decide ((c.instrs.length:Int)<=65536)else false
def decP(c:Cd):Bool:=bif anyB [c.params,c.states].flatten then false else bif anyL c.lines then false else bif anyT c.tables then false else
 finP c (mostF [(c.params.length:Int),(c.states.length:Int),(c.lines.length:Int),(c.tables.length:Int)] 0 0 0).1
def effP(c:Cd)(op:Int):Int×Int×Int×Int:=
 bif op==1 then(0,1,-4611686018427387904,4611686018427387904)else
 bif op==2 then(0,1,0,W ((c.params.length:Int)-1))else
 bif op==3 then(0,1,0,W ((c.states.length:Int)-1))else
 bif op==4 then(0,1,0,W (c.regs-1))else
 bif op==5 then(1,0,0,W (c.regs-1))else
 bif op==6 then(1,0,0,W ((c.states.length:Int)-1))else
 bif op==7 then(1,0,0,W ((c.lines.length:Int)-1))else
 bif op==22 then(1,0,0,0)else
 bif op==10 then(1,1,0,W ((c.lines.length:Int)-1))else
 bif op==11 then(1,1,0,W ((c.tables.length:Int)-1))else
 bif op==20 then(1,1,1,2147483648)else
 bif op==8 then(1,1,0,0)else
 bif op==9 then(1,1,0,0)else
 bif op==12 then(1,1,0,0)else
 bif op==15 then(1,1,0,0)else
 bif op==16 then(1,1,0,0)else
 bif op==13 then(2,1,0,0)else
 bif op==14 then(2,1,0,0)else
 bif op==17 then(2,1,0,0)else
 bif op==18 then(2,1,0,0)else
 bif op==19 then(2,1,0,0)else
 bif op==21 then(4,1,0,0)else(-1,0,0,0)
abbrev zgy(e:Int×Int×Int×Int):D:=.tuple [.i e.1,.i e.2.1,.i e.2.2.1,.i e.2.2.2]
def refP(e:Int×Int×Int×Int)(a n:Int):Bool:=
 bif (bif (bif (bif decide (e.1<0)then true else decide (a<e.2.2.1))then true else decide (a>e.2.2.2))then true else decide (n<e.1))then true else decide (W (W (n-e.1)+e.2.1)>64)
def chkP(c:Cd):List (Int×Int)->Int->Int->List Bool->Bool
 | [],n,outs,_=>!(bif n != 0 then true else outs != 1)
 |x::r,n,outs,pu=>bif refP (effP c x.1) x.2 n then false else
  bif x.1==22 then chkP c r (W (n+W ((effP c x.1).2.1-(effP c x.1).1))) (W (outs+1)) pu else
  bif x.1==7 then(bif pu.getD x.2.toNat false then false else chkP c r (W (n+W ((effP c x.1).2.1-(effP c x.1).1))) outs (pu.set x.2.toNat true))else
  chkP c r (W (n+W ((effP c x.1).2.1-(effP c x.1).1))) outs pu
def okE(b:Bool):Int:=match b with |true=>0 |false=>200
def checkP(c:Cd):Bool:=bif !(decP c)then false else chkP c c.instrs 0 0 (List.replicate c.lines.length false)
def takesR(op:Int):Int×Int×Bool:=
 bif op==1 then(0,1,true)else bif op==2 then(0,1,true)else bif op==3 then(0,1,true)else bif op==4 then(0,1,true)else
 bif op==5 then(1,0,true)else bif op==6 then(1,0,true)else bif op==7 then(1,0,true)else bif op==22 then(1,0,true)else
 bif op==8 then(1,1,true)else bif op==9 then(1,1,true)else bif op==10 then(1,1,true)else bif op==11 then(1,1,true)else bif op==12 then(1,1,true)else bif op==15 then(1,1,true)else bif op==16 then(1,1,true)else bif op==20 then(1,1,true)else
 bif op==13 then(2,1,true)else bif op==14 then(2,1,true)else bif op==17 then(2,1,true)else bif op==18 then(2,1,true)else bif op==19 then(2,1,true)else
 bif op==21 then(4,1,true)else(0,0,false)
abbrev zc1(e:Int×Int×Bool):D:=.tuple [.i e.1,.i e.2.1,.b e.2.2]
def Rt(c:Cd)(op:Int):Int×Int:=
 bif op==1 then(-4611686018427387904,4611686018427387904)else
 bif op==2 then(0,W ((c.params.length:Int)-1))else
 bif op==3 then(0,W ((c.states.length:Int)-1))else
 bif op==6 then(0,W ((c.states.length:Int)-1))else
 bif op==4 then(0,W (c.regs-1))else
 bif op==5 then(0,W (c.regs-1))else
 bif op==7 then(0,W ((c.lines.length:Int)-1))else
 bif op==10 then(0,W ((c.lines.length:Int)-1))else
 bif op==11 then(0,W ((c.tables.length:Int)-1))else
 bif op==20 then(1,2147483648)else(0,0)
def WG(c:Cd)(op a:Int):Bool:=bif decide (a>=(Rt c op).1)then decide (a<=(Rt c op).2)else false
def Cj(lo hi:Int):Bool:=bif (bif decide (lo >= -2147483648)then decide (lo<=hi)else false)then decide (hi<=2147483647)else false
def allB:List Bd->Bool
 | []=>true
 |b::r=>bif !(Cj b.lo b.hi)then false else allB r
def aJ(l:List Bd):Bool:=bif allB l then decide ((l.length:Int)<=16)else false
def okL(x:Ln):Bool:=!(bif (bif !(Cj x.lo x.hi)then true else decide (x.size<1))then true else decide (x.size>65536))
def allL:List Ln->Bool
 | []=>true
 |x::r=>bif okL x then allL r else false
def Ep:List Int->Bool
 | []=>true
 |x::r=>bif !(Cj x x)then false else Ep r
def zaq(t:List Int):Bool:=!(bif decide ((t.length:Int)<1)then true else decide ((t.length:Int)>1024))
def allT:List (List Int)->Bool
 | []=>true
 |t::r=>bif zaq t then(bif Ep t then allT r else false)else false
def Ru(c:Cd):Bool:=
 bif (bif (bif (bif (bif (bif (bif decide (c.latency<0)then true else decide (c.latency>4096))then true else decide (c.tail < -1))then true else decide (c.tail>1048576))then true else !(aJ c.params))then true else !(aJ c.states))then true else decide ((c.lines.length:Int)>16))then true else decide ((c.tables.length:Int)>16)
def finR(c:Cd):Bool:=bif (bif decide (c.regs>=0)then decide (c.regs<=65536)else false)then decide ((c.instrs.length:Int)<=65536)else false
def Jr(c:Cd):Bool:=bif Ru c then false else bif !(allL c.lines)then false else bif !(allT c.tables)then false else finR c
def Es(c:Cd)(x:Int×Int)(n:Int):Bool:=bif (bif !((takesR x.1).2.2)then true else !(WG c x.1 x.2))then true else decide (n<(takesR x.1).1)
def MR(c:Cd):List (Int×Int)->Int->Int->List Bool->Bool
 | [],n,outs,_=>!(bif n != 0 then true else outs != 1)
 |x::r,n,outs,pu=>bif Es c x n then false else
  bif decide (W (W (n-(takesR x.1).1)+(takesR x.1).2.1)>64)then false else
  bif x.1==7 then(bif pu.getD x.2.toNat false then false else MR c r (W (W (n-(takesR x.1).1)+(takesR x.1).2.1)) (bif x.1==22 then W (outs+1)else outs) (pu.set x.2.toNat true))else
  MR c r (W (W (n-(takesR x.1).1)+(takesR x.1).2.1)) (bif x.1==22 then W (outs+1)else outs) pu
def Js(c:Cd):Bool:=bif !(Jr c)then false else MR c c.instrs 0 0 (List.replicate c.lines.length false)
theorem zfb{c:Cd}{x:Bd}{r:List Bd}(hI:anyB [c.params,c.states].flatten=anyB (x::r))(h:wrongM x.lo x.hi=true):decP c=false:=by grind[decP,anyB]
theorem zfc{c:Cd}{x:Ln}{r:List Ln}(hI:anyL c.lines=anyL (x::r))(h:badL x=true):decP c=false:=by grind[decP,anyL]
theorem zfd{c:Cd}{x:List Int}{r:List (List Int)}(hI:anyT c.tables=anyT (x::r))(h:badT x=true):decP c=false:=by grind[decP,anyT]
theorem zfe{c:Cd}(h1:anyB [c.params,c.states].flatten=anyB [])(h2:anyL c.lines=anyL [])(h3:anyT c.tables=anyT []):decP c=finP c (mostF [(c.params.length:Int),(c.states.length:Int),(c.lines.length:Int),(c.tables.length:Int)] 0 0 0).1:=by
 unfold decP;rw[h1,h2,h3];rfl
theorem WH{x:Bd}{r:List Bd}{b:Bool}(hI:b=anyB (x::r))(h:wrongM x.lo x.hi=false):b=anyB r:=by grind[anyB]
theorem WI{x:Ln}{r:List Ln}{b:Bool}(hI:b=anyL (x::r))(h:badL x=false):b=anyL r:=by grind[anyL]
theorem WJ{x:List Int}{r:List (List Int)}{b:Bool}(hI:b=anyT (x::r))(h:badT x=false):b=anyT r:=by grind[anyT]
theorem zc2{n:Int}(h1:-9223372036854775808<=n)(h2:n<=9223372036854775807):W n=n:=by
 simp[IntKind.wrap,IntKind.bits,IntKind.signed]
 grind
structure PS(c:Cd)(R:Bool)(r:List (Int×Int))(n o:Int)(pu:List Bool):Prop where
 eq:chkP c r n o pu=R
 len:pu.length=c.lines.length
 sm:c.lines.length<=1073741824
theorem WL{c:Cd}{R:Bool}(h:chkP c c.instrs 0 0 (List.replicate c.lines.length false)=R)(hs:c.lines.length<=1073741824):PS c R c.instrs 0 0 (List.replicate c.lines.length false):=⟨h,by simp,hs⟩
theorem chk_end{c:Cd}{R b:Bool}{n o:Int}{pu:List Bool}(h:PS c R [] n o pu)(hb:(bif n != 0 then true else o != 1)=b):R = !b:=by
 rw[<-h.eq,chkP,hb]
theorem z7y{c:Cd}{R:Bool}{x:Int×Int}{r:List (Int×Int)}{n o:Int}{pu:List Bool}(h:PS c R (x::r) n o pu)(hb:refP (effP c x.1) x.2 n=true):R=false:=by
 rw[<-h.eq,chkP,hb];rfl
theorem zc3{c:Cd}{R:Bool}{x:Int×Int}{r:List (Int×Int)}{n o:Int}{pu:List Bool}(h:PS c R (x::r) n o pu)(hb:refP (effP c x.1) x.2 n=false)(h2:(x.1==22)=true) :
  PS c R r (W (n+W ((effP c x.1).2.1-(effP c x.1).1))) (W (o+1)) pu:=by
 have h1:=h.eq
 rw[chkP,hb,h2]at h1
 exact⟨h1,h.len,h.sm⟩
theorem zc4{c:Cd}{R:Bool}{x:Int×Int}{r:List (Int×Int)}{n o:Int}{pu:List Bool}(h:PS c R (x::r) n o pu)(hb:refP (effP c x.1) x.2 n=false)(h2:(x.1==22)=false)(h3:(x.1==7)=true)(h4:pu.getD x.2.toNat false=true):R=false:=by
 have h1:=h.eq
 grind[chkP]
theorem zc5{c:Cd}{R:Bool}{x:Int×Int}{r:List (Int×Int)}{n o:Int}{pu:List Bool}(h:PS c R (x::r) n o pu)(hb:refP (effP c x.1) x.2 n=false)(h2:(x.1==22)=false)(h3:(x.1==7)=true)(h4:pu.getD x.2.toNat false=false) :
  PS c R r (W (n+W ((effP c x.1).2.1-(effP c x.1).1))) o (pu.set x.2.toNat true):=by
 have h1:=h.eq
 rw[chkP,hb,h2,h3,h4]at h1
 exact⟨h1,by simpa using h.len,h.sm⟩
theorem zff{c:Cd}{R:Bool}{x:Int×Int}{r:List (Int×Int)}{n o:Int}{pu:List Bool}(h:PS c R (x::r) n o pu)(hb:refP (effP c x.1) x.2 n=false)(h2:(x.1==22)=false)(h3:(x.1==7)=false) :
  PS c R r (W (n+W ((effP c x.1).2.1-(effP c x.1).1))) o pu:=by
 have h1:=h.eq
 rw[chkP,hb,h2,h3]at h1
 exact⟨h1,h.len,h.sm⟩
theorem WM{e:Int×Int×Int×Int}{a n:Int}(h:refP e a n=false):0<=e.1/\e.2.2.1<=a/\a<=e.2.2.2/\e.1<=n/\W (W (n-e.1)+e.2.1)<=64:=by
 grind[refP]
theorem z2w{c:Cd}{R:Bool}{x:Int×Int}{r:List (Int×Int)}{n o:Int}{pu:List Bool}(h:PS c R (x::r) n o pu)(hb:refP (effP c x.1) x.2 n=false)(h3:(x.1==7)=true):0<=x.2/\x.2<pu.length:=by
 obtain⟨_,h1,h2,_⟩:=WM hb
 have e:x.1=7:=by simpa using h3
 rw[e]at h1 h2
 have h1:(0:Int)<=x.2:=h1
 have h2:x.2<=W ((c.lines.length:Int)-1):=h2
 have:=h.sm
 rw[zc2 (by omega) (by omega)]at h2
 have:=h.len
 omega
theorem z7z{c:Cd}{R:Bool}{x:Int×Int}{r:List (Int×Int)}{n o:Int}{pu:List Bool}(h:PS c R (x::r) n o pu)(hb:refP (effP c x.1) x.2 n=false)(h3:(x.1==7)=true):0<=x.2/\x.2<((c.lines.map Ln.cs).length:Int).toNat:=by
 have h1:=z2w h hb h3
 rw[h.len]at h1
 simp_all
theorem z2x{c:Cd}{R:Bool}{x:Int×Int}{r:List (Int×Int)}{n o:Int}{pu:List Bool}(h:PS c R (x::r) n o pu)(hb:refP (effP c x.1) x.2 n=false)(h3:(x.1==7)=true):(pu.map boolC)[0+x.2.toNat]? = some (boolC (pu.getD x.2.toNat false)):=by
 have h1:=z2w h hb h3
 simp_all
theorem z2y{pu:List Bool}{k:Nat}{v s:Nat}:Block.arr v s ((pu.map boolC).set (0+k) [D.b true])=Block.arr v s ((pu.set k true).map boolC):=by
 simp
theorem z2z{α β:Type}{l:List α}{f:α->β}{v s:Nat}:Block.arr v s (List.replicate ((l.map f).length:Int).toNat [D.b false])=Block.arr v s ((List.replicate l.length false).map boolC):=by
 simp
theorem zc6{c:Cd}(h:Ru c=true):Jr c=false:=by grind[Jr]
theorem zc7{c:Cd}{x:Ln}{r:List Ln}(hI:allL c.lines=allL (x::r))(h:(bif (bif !(Cj x.lo x.hi)then true else decide (x.size<1))then true else decide (x.size>65536))=true):Jr c=false:=by
 grind[Jr,allL,okL]
theorem WN{c:Cd}{x:Ln}{r:List Ln}(hI:allL c.lines=allL (x::r))(h:(bif (bif !(Cj x.lo x.hi)then true else decide (x.size<1))then true else decide (x.size>65536))=false):allL c.lines=allL r:=by
 grind[allL,okL]
theorem zc8{c:Cd}{x:List Int}{r:List (List Int)}(hI:allT c.tables=allT (x::r))(h:(bif decide ((x.length:Int)<1)then true else decide ((x.length:Int)>1024))=true):Jr c=false:=by
 grind[Jr,allT,zaq]
theorem zc9{c:Cd}{x:List Int}{r:List (List Int)}{y:Int}{q:List Int}(hI:allT c.tables=allT (x::r))(h:(bif decide ((x.length:Int)<1)then true else decide ((x.length:Int)>1024))=false)(h2:Ep x=Ep (y::q))(h3:(!(Cj y y))=true):Jr c=false:=by
 grind[Jr,allT,Ep]
theorem WO{x:List Int}{y:Int}{q:List Int}(h2:Ep x=Ep (y::q))(h3:(!(Cj y y))=false):Ep x=Ep q:=by grind[Ep]
theorem WP{c:Cd}{x:List Int}{r:List (List Int)}(hI:allT c.tables=allT (x::r))(h:(bif decide ((x.length:Int)<1)then true else decide ((x.length:Int)>1024))=false)(h2:Ep x=Ep []):allT c.tables=allT r:=by
 grind[allT,zaq,Ep]
theorem zda{c:Cd}(h:Ru c=false)(h1:allL c.lines=allL [])(h2:allT c.tables=allT []):Jr c=finR c:=by unfold Jr;rw[h,h1,h2];rfl
theorem zfg{x:List Int}{b:Bool}(h:(bif decide (((x.map fF).length:Int)<1)then true else decide (((x.map fF).length:Int)>1024))=b):(bif decide ((x.length:Int)<1)then true else decide ((x.length:Int)>1024))=b:=by simp_all
theorem zdb{c:Cd}{b:Bool}(h:(bif (bif (bif (bif (bif (bif (bif decide (c.latency<0)then true else decide (c.latency>4096))then true else decide (c.tail < -1))then true else decide (c.tail>1048576))then true else !(aJ c.params))then true else !(aJ c.states))then true else decide (((c.lines.map Ln.cs).length:Int)>16))then true else decide (((c.tables.map lnC).length:Int)>16))=b):Ru c=b:=by
 grind[Ru]
structure Jt(c:Cd)(R:Bool)(r:List (Int×Int))(n o:Int)(pu:List Bool):Prop where
 eq:MR c r n o pu=R
 len:pu.length=c.lines.length
 sm:c.lines.length<=1073741824
section
variable {c : Cd} {R b : Bool} {x : Int × Int} {r : List (Int × Int)} {n o : Int} {pu : List Bool}
theorem Rw(h:MR c c.instrs 0 0 (List.replicate c.lines.length false)=R)(hs:c.lines.length<=1073741824):Jt c R c.instrs 0 0 (List.replicate c.lines.length false):=⟨h,by simp,hs⟩
theorem Zy(h:Jt c R [] n o pu)(hb:(bif n != 0 then true else o != 1)=b):R = !b:=by
 rw[<-h.eq,MR,hb]
theorem Zz(h:Jt c R (x::r) n o pu)(hb:Es c x n=true):R=false:=by
 rw[<-h.eq,MR,hb];rfl
theorem z8a(h:Jt c R (x::r) n o pu)(hb:Es c x n=false)(h6:decide (W (W (n-(takesR x.1).1)+(takesR x.1).2.1)>64)=true):R=false:=by
 rw[<-h.eq,MR,hb,h6];rfl
theorem z8b(h:Jt c R (x::r) n o pu)(hb:Es c x n=false)(h6:decide (W (W (n-(takesR x.1).1)+(takesR x.1).2.1)>64)=false)(h3:(x.1==7)=true)(h4:pu.getD x.2.toNat false=true):R=false:=by
 rw[<-h.eq,MR,hb,h6,h3,h4];rfl
theorem z8c(h:Jt c R (x::r) n o pu)(hb:Es c x n=false)(h6:decide (W (W (n-(takesR x.1).1)+(takesR x.1).2.1)>64)=false)(h2:(x.1==22)=false)(h3:(x.1==7)=true)(h4:pu.getD x.2.toNat false=false) :
  Jt c R r (W (W (n-(takesR x.1).1)+(takesR x.1).2.1)) o (pu.set x.2.toNat true):=by
 have h1:=h.eq
 rw[MR,hb,h6,h2,h3,h4]at h1
 exact⟨h1,by simpa using h.len,h.sm⟩
theorem z8d(h:Jt c R (x::r) n o pu)(hb:Es c x n=false)(h6:decide (W (W (n-(takesR x.1).1)+(takesR x.1).2.1)>64)=false)(h2:(x.1==22)=true)(h3:(x.1==7)=true)(h4:pu.getD x.2.toNat false=false) :
  Jt c R r (W (W (n-(takesR x.1).1)+(takesR x.1).2.1)) (W (o+1)) (pu.set x.2.toNat true):=by
 simp_all
theorem z8e(h:Jt c R (x::r) n o pu)(hb:Es c x n=false)(h6:decide (W (W (n-(takesR x.1).1)+(takesR x.1).2.1)>64)=false)(h2:(x.1==22)=true)(h3:(x.1==7)=false) :
  Jt c R r (W (W (n-(takesR x.1).1)+(takesR x.1).2.1)) (W (o+1)) pu:=by
 have h1:=h.eq
 rw[MR,hb,h6,h2,h3]at h1
 exact⟨h1,h.len,h.sm⟩
theorem z8f(h:Jt c R (x::r) n o pu)(hb:Es c x n=false)(h6:decide (W (W (n-(takesR x.1).1)+(takesR x.1).2.1)>64)=false)(h2:(x.1==22)=false)(h3:(x.1==7)=false) :
  Jt c R r (W (W (n-(takesR x.1).1)+(takesR x.1).2.1)) o pu:=by
 have h1:=h.eq
 rw[MR,hb,h6,h2,h3]at h1
 exact⟨h1,h.len,h.sm⟩
theorem z8g(h:Es c x n=false):(takesR x.1).2.2=true/\(Rt c x.1).1<=x.2/\x.2<=(Rt c x.1).2/\(takesR x.1).1<=n:=by
 grind[Es,WG]
theorem WQ(h:Jt c R (x::r) n o pu)(hb:Es c x n=false)(h3:(x.1==7)=true):0<=x.2/\x.2<pu.length:=by
 obtain⟨_,h1,h2,_⟩:=z8g hb
 have e:x.1=7:=by simpa using h3
 rw[e]at h1 h2
 have h1:(0:Int)<=x.2:=h1
 have h2:x.2<=W ((c.lines.length:Int)-1):=h2
 have:=h.sm
 rw[zc2 (by omega) (by omega)]at h2
 have:=h.len
 omega
theorem ZA(h:Jt c R (x::r) n o pu)(hb:Es c x n=false)(h3:(x.1==7)=true):0<=x.2/\x.2<((c.lines.map Ln.cs).length:Int).toNat:=by
 have h1:=WQ h hb h3
 rw[h.len]at h1
 simp_all
theorem WR(h:Jt c R (x::r) n o pu)(hb:Es c x n=false)(h3:(x.1==7)=true):(pu.map boolC)[0+x.2.toNat]? = some (boolC (pu.getD x.2.toNat false)):=by
 have h1:=WQ h hb h3
 simp_all
end
end Go.Fw.Mac
namespace Go.Fw
variable [af]
end Go.Fw
namespace Go.Fw.Mac
open Go.Fw
instance:Inhabited Bd:=⟨⟨[],0,0⟩⟩
instance:Inhabited Ln:=⟨⟨[],0,0,0⟩⟩
theorem zdc{c:Cd}{op a n:Int}(h:refP (effP c op) a n=false):op=1\/op=2\/op=3\/op=4\/op=5\/op=6\/op=7\/op=8\/op=9\/op=10\/op=11\/op=12\/op=13\/op=14\/op=15\/op=16\/op=17\/op=18\/op=19\/op=20\/op=21\/op=22:=by
 have h1:=(WM h).1
 apply Classical.byContradiction
 intro hn
 simp only[not_or]at hn
 obtain⟨q1,q2,q3,q4,q5,q6,q7,q8,q9,q10,q11,q12,q13,q14,q15,q16,q17,q18,q19,q20,q21,q22⟩:=hn
 have e:effP c op=(-1,0,0,0):=by
  unfold effP
  simp only[show ∀k:Int,op≠k->(op==k)=false from λk hk=>by simpa using hk,ne_eq,not_false_eq_true,q1,q2,q3,q4,q5,q6,q7,q8,q9,q10,q11,q12,q13,q14,q15,q16,q17,q18,q19,q20,q21,q22,cond_false]
 rw[e]at h1
 exact absurd h1 (by decide)
end Go.Fw.Mac
namespace Go.Fw
variable [af]
theorem Gm{T:Tbl}{rs:List ResultVar}{K0 K K1:Heap}{out:jU}{env:Env}(env':Env)(K':Heap)(h1:yx env K env' K')(h2:Go.Fw.finR T rs K0 out K1 env' K'):Go.Fw.finR T rs K0 out K1 env K\/∃env' K',z1c env K env' K'/\Go.Fw.finR T rs K0 out K1 env' K':=.inr ⟨env',K',by grind[oJ],h2⟩
end Go.Fw
namespace Go.Fw.Mac
open Go.Fw
theorem z3a{n m:Nat}(h:((n:Int) != (m:Int))=false):n=m:=by simp at h;omega
end Go.Fw.Mac
namespace Go.Fw
variable [af]
theorem BrI.ff_of{c:Bool}{p q:Prop}(h:c=false)(hq:q):BrI c p q:=by subst h;exact BrI.ff hq
theorem BrI.tt_of{c:Bool}{p q:Prop}(h:c=true)(hp:p):BrI c p q:=by subst h;exact BrI.tt hp
end Go.Fw
namespace Go.Fw.Mac
open Go.Fw
variable [af]
end Go.Fw.Mac
namespace Go.Fw.Mac
open Go.Fw
theorem ZB(op:Int):(op=1\/op=2\/op=3\/op=4\/op=5\/op=6\/op=7\/op=8\/op=9\/op=10\/op=11\/op=12\/op=13\/op=14\/op=15\/op=16\/op=17\/op=18\/op=19\/op=20\/op=21\/op=22)\/(∀k:Int,1<=k->k<=22->(op==k)=false):=by
 by_cases h:1<=op/\op<=22
 ·left;omega
 ·right;intro k h1 h2
  have:op≠k:=by omega
  simpa using this
theorem z8h(t ps lo hi a n:Int)(ht:0<=t):refP (t,ps,lo,hi) a n=(bif (bif (bif !true then true else !(bif decide (a>=lo)then decide (a<=hi)else false))then true else decide (n<t))then true else decide (W (W (n-t)+ps)>64)):=by
 unfold refP
 simp only
 rw[decide_eq_false (show ¬t<0 by omega)]
 by_cases h1:a<lo<;>by_cases h2:a>hi
 ·rw[decide_eq_true h1,decide_eq_true h2,decide_eq_false (show ¬a>=lo by omega)];simp
 ·rw[decide_eq_true h1,decide_eq_false h2,decide_eq_false (show ¬a>=lo by omega)];simp
 ·rw[decide_eq_false h1,decide_eq_true h2,decide_eq_true (show a>=lo by omega),decide_eq_false (show ¬a<=hi by omega)];simp
 ·rw[decide_eq_false h1,decide_eq_false h2,decide_eq_true (show a>=lo by omega),decide_eq_true (show a<=hi by omega)];simp
def Ju(c:Cd)(x:Int×Int)(n:Int):Bool:=bif Es c x n then true else decide (W (W (n-(takesR x.1).1)+(takesR x.1).2.1)>64)
theorem z8i{c:Cd}{op a n t ps lo hi:Int}(e1:effP c op=(t,ps,lo,hi))(e2:takesR op=(t,ps,true))(e3:Rt c op=(lo,hi))(ht:0<=t):refP (effP c op) a n=Ju c (op,a) n:=by
 unfold Ju Es WG
 rw[e1,e2,e3]
 exact z8h t ps lo hi a n ht
theorem zdd(c:Cd)(op a n:Int):refP (effP c op) a n=Ju c (op,a) n:=by
 rcases ZB op with(rfl |rfl |rfl |rfl |rfl |rfl |rfl |rfl |rfl |rfl |rfl |rfl |rfl |rfl |rfl |rfl |rfl |rfl |rfl |rfl |rfl |rfl) |h
 iterate 22 exact z8i rfl rfl rfl (by decide)
 have e1:effP c op=(-1,0,0,0):=by
  unfold effP
  simp only[h 1 (by decide) (by decide),h 2 (by decide) (by decide),h 3 (by decide) (by decide),h 4 (by decide) (by decide),h 5 (by decide) (by decide),h 6 (by decide) (by decide),h 7 (by decide) (by decide),h 8 (by decide) (by decide),h 9 (by decide) (by decide),h 10 (by decide) (by decide),h 11 (by decide) (by decide),h 12 (by decide) (by decide),h 13 (by decide) (by decide),h 14 (by decide) (by decide),h 15 (by decide) (by decide),h 16 (by decide) (by decide),h 17 (by decide) (by decide),h 18 (by decide) (by decide),h 19 (by decide) (by decide),h 20 (by decide) (by decide),h 21 (by decide) (by decide),h 22 (by decide) (by decide),cond_false]
 have e2:takesR op=(0,0,false):=by
  unfold takesR
  simp only[h 1 (by decide) (by decide),h 2 (by decide) (by decide),h 3 (by decide) (by decide),h 4 (by decide) (by decide),h 5 (by decide) (by decide),h 6 (by decide) (by decide),h 7 (by decide) (by decide),h 8 (by decide) (by decide),h 9 (by decide) (by decide),h 10 (by decide) (by decide),h 11 (by decide) (by decide),h 12 (by decide) (by decide),h 13 (by decide) (by decide),h 14 (by decide) (by decide),h 15 (by decide) (by decide),h 16 (by decide) (by decide),h 17 (by decide) (by decide),h 18 (by decide) (by decide),h 19 (by decide) (by decide),h 20 (by decide) (by decide),h 21 (by decide) (by decide),h 22 (by decide) (by decide),cond_false]
 unfold Ju Es refP
 rw[e1,e2]
 simp
theorem WS{c:Cd}{op a n:Int}(hb:refP (effP c op) a n=false):(effP c op).1=(takesR op).1/\(effP c op).2.1=(takesR op).2.1/\0<=(takesR op).1/\(takesR op).1<=4/\0<=(takesR op).2.1/\(takesR op).2.1<=1:=by
 rcases zdc hb with rfl |rfl |rfl |rfl |rfl |rfl |rfl |rfl |rfl |rfl |rfl |rfl |rfl |rfl |rfl |rfl |rfl |rfl |rfl |rfl |rfl |rfl
 all_goals exact⟨rfl,rfl,by decide,by decide,by decide,by decide⟩
theorem ZC{c:Cd}{x:Int×Int}{n:Int}(h:Ju c x n=false):Es c x n=false/\decide (W (W (n-(takesR x.1).1)+(takesR x.1).2.1)>64)=false:=by
 unfold Ju at h
 cases h1:Es c x n with
 |true=>rw[h1]at h;simp at h
 |false=>rw[h1]at h;exact⟨rfl,h⟩
theorem WT{c:Cd}{x:Int×Int}{n:Int}{b:Bool}(h:Ju c x n=true):(bif Es c x n then false else bif decide (W (W (n-(takesR x.1).1)+(takesR x.1).2.1)>64)then false else b)=false:=by
 unfold Ju at h
 cases h1:Es c x n with
 |true=>rfl
 |false=>rw[h1]at h;simp only[cond_false]at h ⊢;rw[h];rfl
theorem z3b(c:Cd):∀(r:List (Int×Int)) (n o:Int) (pu:List Bool),0<=n->n<=64->chkP c r n o pu=MR c r n o pu
 | [],_,_,_,_,_=>rfl
 |x::r,n,o,pu,h0,h1=>by
  have hr:=zdd c x.1 x.2 n
  rw[chkP,MR]
  cases hb:refP (effP c x.1) x.2 n with
  |true=>
   rw[hb]at hr
   rw[WT hr.symm];rfl
  |false=>
   rw[hb]at hr
   obtain⟨q1,q2⟩:=ZC hr.symm
   obtain⟨t1,t2,t3,t4,t5,t6⟩:=WS hb
   have hi:=WM hb
   rw[t1,t2]at hi
   rw[q1,q2,t1,t2]
   simp only[cond_false]
   have q3:=of_decide_eq_false q2
   have e1:W ((takesR x.1).2.1-(takesR x.1).1)=(takesR x.1).2.1-(takesR x.1).1:=zc2 (by omega) (by omega)
   have e2:W (n-(takesR x.1).1)=n-(takesR x.1).1:=zc2 (by omega) (by omega)
   have e3:W (n-(takesR x.1).1+(takesR x.1).2.1)=n-(takesR x.1).1+(takesR x.1).2.1:=zc2 (by omega) (by omega)
   rw[e2]at q3 ⊢
   rw[e3]at q3
   have e4:n+((takesR x.1).2.1-(takesR x.1).1)=n-(takesR x.1).1+(takesR x.1).2.1:=by omega
   rw[e1,e4]
   rw[e3]
   have ih:=λo pu=>z3b c r (n-(takesR x.1).1+(takesR x.1).2.1) o pu (by omega) (by omega)
   rw[ih,ih,ih]
   cases h2:(x.1==22)with
   |true=>
    have e:x.1=22:=by simpa using h2
    rw[e];rfl
   |false=>rfl
theorem Gs(lo hi:Int):(!(Cj lo hi))=wrongM lo hi:=by
 unfold Cj wrongM
 by_cases h1:lo < -2147483648<;>by_cases h2:lo>hi<;>by_cases h3:hi>2147483647
 all_goals(first |rw[decide_eq_true h1,decide_eq_false (show ¬lo >= -2147483648 by omega)] |rw[decide_eq_false h1,decide_eq_true (show lo >= -2147483648 by omega)])
 all_goals(first |rw[decide_eq_true h2,decide_eq_false (show ¬lo<=hi by omega)] |rw[decide_eq_false h2,decide_eq_true (show lo<=hi by omega)])
 all_goals(first |rw[decide_eq_true h3,decide_eq_false (show ¬hi<=2147483647 by omega)] |rw[decide_eq_false h3,decide_eq_true (show hi<=2147483647 by omega)])
 all_goals rfl
theorem MS:∀l:List Bd,allB l = !(anyB l)
 | []=>rfl
 |b::r=>by rw[allB,anyB,Gs,MS r];cases wrongM b.lo b.hi<;>rfl
theorem zde(x:Ln):okL x = !(badL x):=by unfold okL badL;rw[Gs]
theorem WU:∀l:List Ln,allL l = !(anyL l)
 | []=>rfl
 |x::r=>by rw[allL,anyL,zde,WU r];cases badL x<;>rfl
theorem Jv:∀(l:List Int) (i:Int),0<=i->decide (firstW l i>=0) = !(Ep l)
 | [],i,_=>by rw[firstW,Ep];rfl
 |x::r,i,h=>by
  rw[firstW,Ep,Gs]
  cases wrongM x x with
  |true=>simp only[cond_true];rw[decide_eq_true h];rfl
  |false=>simp only[cond_false];exact Jv r (i+1) (by omega)
theorem z8j(t:List Int):badT t = !(bif zaq t then Ep t else false):=by
 unfold badT zaq
 rw[Jv t 0 (Int.le_refl _)]
 cases (bif decide ((t.length:Int)<1)then true else decide ((t.length:Int)>1024))<;>rfl
theorem WV:∀l:List (List Int),allT l = !(anyT l)
 | []=>rfl
 |t::r=>by
  rw[allT,anyT,z8j,WV r]
  cases zaq t<;>cases Ep t<;>rfl
theorem PT:∀l m:List Bd,anyB (l++m)=(bif anyB l then true else anyB m)
 | [],m=>rfl
 |b::r,m=>by
  rw[List.cons_append,anyB,anyB,PT r m]
  cases wrongM b.lo b.hi<;>rfl
theorem Gt:∀(l:List Int) (i n k m:Int),(mostF l i n k).1<=m↔n<=m/\∀x∈l,x<=m
 | [],i,n,k,m=>by simp[mostF]
 |x::r,i,n,k,m=>by
  rw[mostF]
  by_cases h:x>n
  ·rw[decide_eq_true h];simp only[cond_true]
   rw[Gt r,List.forall_mem_cons]
   constructor
   ·intro q;exact⟨by omega,q⟩
   ·intro q;exact q.2
  ·rw[decide_eq_false h];simp only[cond_false]
   rw[Gt r,List.forall_mem_cons]
   constructor
   ·intro q;exact⟨q.1,by omega,q.2⟩
   ·intro q;exact⟨q.1,q.2.2⟩
theorem zdf(c:Cd):decP c=Jr c:=by
 have hp:∀{a b:Bool},(a=true↔b=true)->a=b:=λ{a b} h=>by cases a<;>cases b<;>simp_all
 apply hp
 have e0:[c.params,c.states].flatten=c.params++c.states:=by simp
 have b1:∀{a b:Bool},(bif a then b else false)=true↔a=true/\b=true:=λ{a b}=>by cases a<;>cases b<;>simp
 have b2:∀{a b:Bool},(bif a then true else b)=false↔a=false/\b=false:=λ{a b}=>by cases a<;>cases b<;>simp
 have b3:∀{a b:Bool},(bif a then false else b)=true↔a=false/\b=true:=λ{a b}=>by cases a<;>cases b<;>simp
 have hm:=Gt [(c.params.length:Int),(c.states.length:Int),(c.lines.length:Int),(c.tables.length:Int)] 0 0 0 16
 unfold decP Jr Ru finP finR aJ
 rw[e0,PT,MS,MS,WU,WV]
 simp only[b1,b2,b3,Bool.not_not,Bool.not_eq_false',Bool.not_eq_true',decide_eq_true_eq,decide_eq_false_iff_not,hm,List.forall_mem_cons,List.not_mem_nil,false_implies,implies_true,and_true]
 constructor
 ·rintro⟨⟨h1,h2⟩,h3,h4,⟨⟨⟨⟨⟨⟨⟨h5,h6,h7,h8,h9⟩,h10⟩,h11⟩,h12⟩,h13⟩,h14⟩,h15⟩,h16⟩
  refine⟨⟨⟨⟨⟨⟨⟨⟨by omega,by omega⟩,by omega⟩,by omega⟩,h1,by omega⟩,h2,by omega⟩,by omega⟩,by omega⟩,h3,h4,⟨by omega,by omega⟩,by omega⟩
 ·rintro⟨⟨⟨⟨⟨⟨⟨⟨h1,h2⟩,h3⟩,h4⟩,h5,h6⟩,h7,h8⟩,h9⟩,h10⟩,h11,h12,⟨h13,h14⟩,h15⟩
  refine⟨⟨h5,h7⟩,h11,h12,⟨⟨⟨⟨⟨⟨⟨by omega,by omega,by omega,by omega,by omega⟩,by omega⟩,by omega⟩,by omega⟩,by omega⟩,by omega⟩,by omega⟩,by omega⟩
theorem check_eq(c:Cd):Js c=checkP c:=by
 unfold Js checkP
 rw[zdf c,z3b c _ _ _ _ (by decide) (by decide)]
def sameZ:List (Int×Int)->Bool
 | []=>true
 |(x,y)::r=>bif x != y then false else sameZ r
def sameI(a b:List Int):Bool:=bif (a.length:Int) != (b.length:Int)then false else sameZ (a.zip b)
def sameL:List (List Int×List Int)->Bool
 | []=>true
 |(x,y)::r=>bif !(sameI x y)then false else sameL r
def sameSt(a b:Sta):Bool:=bif (bif !(sameI a.values b.values)then true else(a.lines.length:Int) != (b.lines.length:Int))then false else sameL (a.lines.zip b.lines)
section
variable {a b : List Int} {x : Int × Int} {r : List (Int × Int)} {t : Bool}
theorem sameZ_next(h:t=sameZ (x::r))(hb:(x.1 != x.2)=false):t=sameZ r:=by rw[h,sameZ,hb];rfl
theorem sameI_len(h:((a.length:Int) != (b.length:Int))=true):sameI a b=false:=by unfold sameI;rw[h];rfl
theorem sameI_no(heq:a.length=b.length)(hI:sameZ (a.zip b)=sameZ (x::r))(h:(x.1 != x.2)=true):sameI a b=false:=by
 unfold sameI;rw[heq,hI,sameZ,h];simp
theorem sameI_yes(heq:a.length=b.length)(hI:sameZ (a.zip b)=sameZ []):sameI a b=true:=by
 unfold sameI;rw[heq,hI,sameZ];simp
end
theorem Jw:∀{a b:List Int},a.length=b.length->(sameZ (a.zip b)=true↔a=b)
 | [],[],_=>by simp[sameZ]
 | [],_::_,h=>by simp at h
 |_::_,[],h=>by simp at h
 |x::a,y::b,h=>by
  have ih:=@Jw a b (by simpa using h)
  rw[List.zip_cons_cons,sameZ]
  by_cases e:x=y
  ·subst e;simp[ih]
  ·have:(x != y)=true:=by simpa using e
   rw[this];simp[e]
theorem sameI_iff{a b:List Int}:sameI a b=true↔a=b:=by
 unfold sameI
 by_cases h:a.length=b.length
 ·rw[h];simp only[bne_self_eq_false,cond_false];exact Jw h
 ·have:((a.length:Int) != (b.length:Int))=true:=by simp;omega
  rw[this];simp only[cond_true]
  exact⟨λh=>absurd h (by decide),λe=>absurd (congrArg List.length e) h⟩
section
variable {a b : Sta} {x : List Int × List Int} {r : List (List Int × List Int)} {t : Bool}
theorem sameL_next(h:t=sameL (x::r))(hb:(!(sameI x.1 x.2))=false):t=sameL r:=by rw[h,sameL,hb];rfl
theorem sameSt_len(h:(bif !(sameI a.values b.values)then true else(a.lines.length:Int) != (b.lines.length:Int))=false):sameI a.values b.values=true/\a.lines.length=b.lines.length:=by
 cases h1:sameI a.values b.values with
 |false=>rw[h1]at h;simp at h
 |true=>rw[h1]at h;exact⟨rfl,z3a h⟩
theorem sameSt_no(h:(bif !(sameI a.values b.values)then true else(a.lines.length:Int) != (b.lines.length:Int))=true):sameSt a b=false:=by unfold sameSt;rw[h];rfl
theorem sameSt_bad(heq:sameI a.values b.values=true/\a.lines.length=b.lines.length)(hI:sameL (a.lines.zip b.lines)=sameL (x::r))(h:(!(sameI x.1 x.2))=true):sameSt a b=false:=by
 unfold sameSt;rw[heq.1,heq.2,hI,sameL,h];simp
theorem sameSt_yes(heq:sameI a.values b.values=true/\a.lines.length=b.lines.length)(hI:sameL (a.lines.zip b.lines)=sameL []):sameSt a b=true:=by
 unfold sameSt;rw[heq.1,heq.2,hI,sameL];simp
end
theorem uD:∀{a b:List (List Int)},a.length=b.length->(sameL (a.zip b)=true↔a=b)
 | [],[],_=>by simp[sameL]
 | [],_::_,h=>by simp at h
 |_::_,[],h=>by simp at h
 |x::a,y::b,h=>by
  have ih:=@uD a b (by simpa using h)
  have e:=@sameI_iff x y
  rw[List.zip_cons_cons,sameL]
  cases h1:sameI x y with
  |true=>rw[h1]at e;simp[ih,e.1 rfl]
  |false=>
   rw[h1]at e
   have:x≠y:=λh=>by simpa using e.2 h
   simp[this]
theorem sameSt_iff{a b:Sta}:sameSt a b=true↔a=b:=by
 obtain⟨v,l⟩:=a;obtain⟨v',l'⟩:=b
 have e:=@sameI_iff v v'
 unfold sameSt
 simp only[Sta.mk.injEq]
 cases h1:sameI v v' with
 |false=>
  rw[h1]at e
  have:v≠v':=λh=>by simpa using e.2 h
  simp[this]
 |true=>
  rw[h1]at e
  have e:=e.1 rfl
  simp only[Bool.not_true,cond_false,e,true_and]
  by_cases h:l.length=l'.length
  ·rw[h];simp only[bne_self_eq_false,cond_false];exact uD h
  ·have:((l.length:Int) != (l'.length:Int))=true:=by simp;omega
   rw[this];simp only[cond_true]
   exact⟨λh=>absurd h (by decide),λe=>absurd (congrArg List.length e) h⟩
end Go.Fw.Mac
