/- The typed data of compiled processors and their states, and how they lie in memory; what is checked of a code. -/
import Derived.Test.YthpbakljheeabaaGreatDoorZLL
set_option linter.unusedSectionVars false
set_option linter.unusedSimpArgs false
set_option linter.unusedVariables false
namespace Go.Fw.Mac
open Go.Fw
abbrev W(n:Int):Int:=IntKind.i64.wrap n
structure Cd where
 latency:Int
 tail:Int
 params:List Bd
 states:List Bd
 lines:List Ln
 tables:List (List Int)
 regs:Int
 instrs:List (Int×Int)
structure Sta where
 values:List Int
 lines:List (List Int)
abbrev iT(x:Int×Int):List D:=[.i x.1,.i x.2]
abbrev lnC(t:List Int):List D:=[ints t]
abbrev Cd.cs(c:Cd):List D:=[.i c.latency,.i c.tail,.sl 3 (c.params.map Bd.cs),.sl 3 (c.states.map Bd.cs),.sl 4 (c.lines.map Ln.cs),.sl 1 (c.tables.map lnC),.i c.regs,.sl 2 (c.instrs.map iT)]
abbrev Cd.d(c:Cd):D:=.agg c.cs
abbrev Sta.cs(s:Sta):List D:=[ints s.values,.sl 1 (s.lines.map lnC)]
abbrev Sta.d(s:Sta):D:=.agg s.cs
abbrev RG(l:List Bd):List D:=[.sl 3 (l.map Bd.cs)]
def lens{α:Type}(ls:List (List α)):Nat:=(ls.map List.length).sum
theorem lens_cons{α:Type}(l:List α)(r:List (List α)):lens (l::r)=l.length+lens r:=by simp[lens]
theorem DZ{α:Type}:lens ([]:List (List α))=0:=rfl
theorem zJ{α:Type}(ls:List (List α)):ls.flatten.length=lens ls:=by simp[lens,List.length_flatten]
abbrev boolC(b:Bool):List D:=[.b b]
structure Cd.Sm(c:Cd):Prop where
 params:c.params.length<=268435456
 states:c.states.length<=268435456
 lines:c.lines.length<=268435456
 tables:c.tables.length<=268435456
 instrs:c.instrs.length<=268435456
 table:∀t∈c.tables,t.length<=268435456
structure Sta.Sm(s:Sta):Prop where
 values:s.values.length<=268435456
 lines:s.lines.length<=268435456
 line:∀t∈s.lines,t.length<=268435456
def mostF:List Int->Int->Int->Int->Int×Int
 | [],_,n,k=>(n,k)
 |x::r,i,n,k=>bif decide (x>n)then mostF r (i+1) x i else mostF r (i+1) n k
def wrongM(lo hi:Int):Bool:=bif (bif decide (lo < -2147483648)then true else decide (lo>hi))then true else decide (hi>2147483647)
def anyB:List Bd->Bool
 | []=>false
 |b::r=>bif wrongM b.lo b.hi then true else anyB r
def badL(x:Ln):Bool:=bif (bif wrongM x.lo x.hi then true else decide (x.size<1))then true else decide (x.size>65536)
def anyL:List Ln->Bool
 | []=>false
 |x::r=>bif badL x then true else anyL r
def firstW:List Int->Int->Int
 | [],_=>-1
 |x::r,i=>bif wrongM x x then i else firstW r (i+1)
def badT(t:List Int):Bool:=bif (bif decide ((t.length:Int)<1)then true else decide ((t.length:Int)>1024))then true else decide (firstW t 0>=0)
def anyT:List (List Int)->Bool
 | []=>false
 |t::r=>bif badT t then true else anyT r
def finP(c:Cd)(n:Int):Bool:=
 bif (bif (bif (bif (bif (bif (bif decide (n<=16)then decide (c.latency>=0)else false)then decide (c.latency<=4096)else false)then decide (c.tail >= -1)else false)then decide (c.tail<=1048576)else false)then decide (c.regs>=0)else false)then decide (c.regs<=65536)else false)then decide ((c.instrs.length:Int)<=65536)else false
def decP(c:Cd):Bool:=bif anyB [c.params,c.states].flatten then false else bif anyL c.lines then false else bif anyT c.tables then false else
 finP c (mostF [(c.params.length:Int),(c.states.length:Int),(c.lines.length:Int),(c.tables.length:Int)] 0 0 0).1
def effP(c:Cd)(op:Int):Int×Int×Int×Int:=
 bif op==1 then(0,1,-4611686018427387904,4611686018427387904)else
 bif op==2 then(0,1,0,W ((c.params.length:Int)-1))else
 bif op==3 then(0,1,0,W ((c.states.length:Int)-1))else
 bif op==4 then(0,1,0,W (c.regs-1))else
 bif op==5 then(1,0,0,W (c.regs-1))else
 bif op==6 then(1,0,0,W ((c.states.length:Int)-1))else
 bif op==7 then(1,0,0,W ((c.lines.length:Int)-1))else
 bif op==22 then(1,0,0,0)else
 bif op==10 then(1,1,0,W ((c.lines.length:Int)-1))else
 bif op==11 then(1,1,0,W ((c.tables.length:Int)-1))else
 bif op==20 then(1,1,1,2147483648)else
 bif op==8 then(1,1,0,0)else
 bif op==9 then(1,1,0,0)else
 bif op==12 then(1,1,0,0)else
 bif op==15 then(1,1,0,0)else
 bif op==16 then(1,1,0,0)else
 bif op==13 then(2,1,0,0)else
 bif op==14 then(2,1,0,0)else
 bif op==17 then(2,1,0,0)else
 bif op==18 then(2,1,0,0)else
 bif op==19 then(2,1,0,0)else
 bif op==21 then(4,1,0,0)else(-1,0,0,0)
abbrev zab(e:Int×Int×Int×Int):D:=.tuple [.i e.1,.i e.2.1,.i e.2.2.1,.i e.2.2.2]
def refP(e:Int×Int×Int×Int)(a n:Int):Bool:=
 bif (bif (bif (bif decide (e.1<0)then true else decide (a<e.2.2.1))then true else decide (a>e.2.2.2))then true else decide (n<e.1))then true else decide (W (W (n-e.1)+e.2.1)>64)
def chkP(c:Cd):List (Int×Int)->Int->Int->List Bool->Bool
 | [],n,outs,_=>!(bif n != 0 then true else outs != 1)
 |x::r,n,outs,pu=>bif refP (effP c x.1) x.2 n then false else
  bif x.1==22 then chkP c r (W (n+W ((effP c x.1).2.1-(effP c x.1).1))) (W (outs+1)) pu else
  bif x.1==7 then(bif pu.getD x.2.toNat false then false else chkP c r (W (n+W ((effP c x.1).2.1-(effP c x.1).1))) outs (pu.set x.2.toNat true))else
  chkP c r (W (n+W ((effP c x.1).2.1-(effP c x.1).1))) outs pu
def okE(b:Bool):Int:=match b with |true=>0 |false=>200
def checkP(c:Cd):Bool:=bif !(decP c)then false else chkP c c.instrs 0 0 (List.replicate c.lines.length false)
def takesR(op:Int):Int×Int×Bool:=
 bif op==1 then(0,1,true)else bif op==2 then(0,1,true)else bif op==3 then(0,1,true)else bif op==4 then(0,1,true)else
 bif op==5 then(1,0,true)else bif op==6 then(1,0,true)else bif op==7 then(1,0,true)else bif op==22 then(1,0,true)else
 bif op==8 then(1,1,true)else bif op==9 then(1,1,true)else bif op==10 then(1,1,true)else bif op==11 then(1,1,true)else bif op==12 then(1,1,true)else bif op==15 then(1,1,true)else bif op==16 then(1,1,true)else bif op==20 then(1,1,true)else
 bif op==13 then(2,1,true)else bif op==14 then(2,1,true)else bif op==17 then(2,1,true)else bif op==18 then(2,1,true)else bif op==19 then(2,1,true)else
 bif op==21 then(4,1,true)else(0,0,false)
abbrev z5d(e:Int×Int×Bool):D:=.tuple [.i e.1,.i e.2.1,.b e.2.2]
def GX(c:Cd)(op:Int):Int×Int:=
 bif op==1 then(-4611686018427387904,4611686018427387904)else
 bif op==2 then(0,W ((c.params.length:Int)-1))else
 bif op==3 then(0,W ((c.states.length:Int)-1))else
 bif op==6 then(0,W ((c.states.length:Int)-1))else
 bif op==4 then(0,W (c.regs-1))else
 bif op==5 then(0,W (c.regs-1))else
 bif op==7 then(0,W ((c.lines.length:Int)-1))else
 bif op==10 then(0,W ((c.lines.length:Int)-1))else
 bif op==11 then(0,W ((c.tables.length:Int)-1))else
 bif op==20 then(1,2147483648)else(0,0)
def TE(c:Cd)(op a:Int):Bool:=bif decide (a>=(GX c op).1)then decide (a<=(GX c op).2)else false
def AL(lo hi:Int):Bool:=bif (bif decide (lo >= -2147483648)then decide (lo<=hi)else false)then decide (hi<=2147483647)else false
def allB:List Bd->Bool
 | []=>true
 |b::r=>bif !(AL b.lo b.hi)then false else allB r
def aH(l:List Bd):Bool:=bif allB l then decide ((l.length:Int)<=16)else false
def okL(x:Ln):Bool:=!(bif (bif !(AL x.lo x.hi)then true else decide (x.size<1))then true else decide (x.size>65536))
def allL:List Ln->Bool
 | []=>true
 |x::r=>bif okL x then allL r else false
def Cm:List Int->Bool
 | []=>true
 |x::r=>bif !(AL x x)then false else Cm r
def z0r(t:List Int):Bool:=!(bif decide ((t.length:Int)<1)then true else decide ((t.length:Int)>1024))
def allT:List (List Int)->Bool
 | []=>true
 |t::r=>bif z0r t then(bif Cm t then allT r else false)else false
def Ep(c:Cd):Bool:=
 bif (bif (bif (bif (bif (bif (bif decide (c.latency<0)then true else decide (c.latency>4096))then true else decide (c.tail < -1))then true else decide (c.tail>1048576))then true else !(aH c.params))then true else !(aH c.states))then true else decide ((c.lines.length:Int)>16))then true else decide ((c.tables.length:Int)>16)
def FP(c:Cd):Bool:=bif (bif decide (c.regs>=0)then decide (c.regs<=65536)else false)then decide ((c.instrs.length:Int)<=65536)else false
def GY(c:Cd):Bool:=bif Ep c then false else bif !(allL c.lines)then false else bif !(allT c.tables)then false else FP c
def CB(c:Cd)(x:Int×Int)(n:Int):Bool:=bif (bif !((takesR x.1).2.2)then true else !(TE c x.1 x.2))then true else decide (n<(takesR x.1).1)
def JL(c:Cd):List (Int×Int)->Int->Int->List Bool->Bool
 | [],n,outs,_=>!(bif n != 0 then true else outs != 1)
 |x::r,n,outs,pu=>bif CB c x n then false else
  bif decide (W (W (n-(takesR x.1).1)+(takesR x.1).2.1)>64)then false else
  bif x.1==7 then(bif pu.getD x.2.toNat false then false else JL c r (W (W (n-(takesR x.1).1)+(takesR x.1).2.1)) (bif x.1==22 then W (outs+1)else outs) (pu.set x.2.toNat true))else
  JL c r (W (W (n-(takesR x.1).1)+(takesR x.1).2.1)) (bif x.1==22 then W (outs+1)else outs) pu
def GZ(c:Cd):Bool:=bif !(GY c)then false else JL c c.instrs 0 0 (List.replicate c.lines.length false)
theorem z8m{c:Cd}{x:Bd}{r:List Bd}(hI:anyB [c.params,c.states].flatten=anyB (x::r))(h:wrongM x.lo x.hi=true):decP c=false:=by unfold decP;rw[hI];simp[anyB,h]
theorem z8n{c:Cd}{x:Ln}{r:List Ln}(hI:anyL c.lines=anyL (x::r))(h:badL x=true):decP c=false:=by unfold decP;rw[hI];simp[anyL,h]
theorem z8o{c:Cd}{x:List Int}{r:List (List Int)}(hI:anyT c.tables=anyT (x::r))(h:badT x=true):decP c=false:=by unfold decP;rw[hI];simp[anyT,h]
theorem z8p{c:Cd}(h1:anyB [c.params,c.states].flatten=anyB [])(h2:anyL c.lines=anyL [])(h3:anyT c.tables=anyT []):decP c=finP c (mostF [(c.params.length:Int),(c.states.length:Int),(c.lines.length:Int),(c.tables.length:Int)] 0 0 0).1:=by
 unfold decP;rw[h1,h2,h3];rfl
theorem TF{x:Bd}{r:List Bd}{b:Bool}(hI:b=anyB (x::r))(h:wrongM x.lo x.hi=false):b=anyB r:=by rw[hI];simp[anyB,h]
theorem TG{x:Ln}{r:List Ln}{b:Bool}(hI:b=anyL (x::r))(h:badL x=false):b=anyL r:=by rw[hI];simp[anyL,h]
theorem TJ{x:List Int}{r:List (List Int)}{b:Bool}(hI:b=anyT (x::r))(h:badT x=false):b=anyT r:=by rw[hI];simp[anyT,h]
theorem z5e{n:Int}(h1:-9223372036854775808<=n)(h2:n<=9223372036854775807):W n=n:=by
 simp only[W,IntKind.wrap,IntKind.bits,IntKind.signed]
 first |(simp;omega) |skip
structure MZ(c:Cd)(R:Bool)(r:List (Int×Int))(n o:Int)(pu:List Bool):Prop where
 eq:chkP c r n o pu=R
 len:pu.length=c.lines.length
 sm:c.lines.length<=1073741824
theorem TK{c:Cd}{R:Bool}(h:chkP c c.instrs 0 0 (List.replicate c.lines.length false)=R)(hs:c.lines.length<=1073741824):MZ c R c.instrs 0 0 (List.replicate c.lines.length false):=⟨h,by simp,hs⟩
theorem chk_end{c:Cd}{R b:Bool}{n o:Int}{pu:List Bool}(h:MZ c R [] n o pu)(hb:(bif n != 0 then true else o != 1)=b):R = !b:=by
 rw[<-h.eq,chkP,hb]
theorem z0s{c:Cd}{R:Bool}{x:Int×Int}{r:List (Int×Int)}{n o:Int}{pu:List Bool}(h:MZ c R (x::r) n o pu)(hb:refP (effP c x.1) x.2 n=true):R=false:=by
 rw[<-h.eq,chkP,hb];rfl
theorem z5f{c:Cd}{R:Bool}{x:Int×Int}{r:List (Int×Int)}{n o:Int}{pu:List Bool}(h:MZ c R (x::r) n o pu)(hb:refP (effP c x.1) x.2 n=false)(h2:(x.1==22)=true) :
  MZ c R r (W (n+W ((effP c x.1).2.1-(effP c x.1).1))) (W (o+1)) pu:=by
 have h1:=h.eq
 rw[chkP,hb,h2]at h1
 exact⟨h1,h.len,h.sm⟩
theorem z5g{c:Cd}{R:Bool}{x:Int×Int}{r:List (Int×Int)}{n o:Int}{pu:List Bool}(h:MZ c R (x::r) n o pu)(hb:refP (effP c x.1) x.2 n=false)(h2:(x.1==22)=false)(h3:(x.1==7)=true)(h4:pu.getD x.2.toNat false=true):R=false:=by
 have h1:=h.eq
 rw[chkP,hb,h2,h3,h4]at h1
 exact h1.symm
theorem z5h{c:Cd}{R:Bool}{x:Int×Int}{r:List (Int×Int)}{n o:Int}{pu:List Bool}(h:MZ c R (x::r) n o pu)(hb:refP (effP c x.1) x.2 n=false)(h2:(x.1==22)=false)(h3:(x.1==7)=true)(h4:pu.getD x.2.toNat false=false) :
  MZ c R r (W (n+W ((effP c x.1).2.1-(effP c x.1).1))) o (pu.set x.2.toNat true):=by
 have h1:=h.eq
 rw[chkP,hb,h2,h3,h4]at h1
 exact⟨h1,by simpa using h.len,h.sm⟩
theorem z8q{c:Cd}{R:Bool}{x:Int×Int}{r:List (Int×Int)}{n o:Int}{pu:List Bool}(h:MZ c R (x::r) n o pu)(hb:refP (effP c x.1) x.2 n=false)(h2:(x.1==22)=false)(h3:(x.1==7)=false) :
  MZ c R r (W (n+W ((effP c x.1).2.1-(effP c x.1).1))) o pu:=by
 have h1:=h.eq
 rw[chkP,hb,h2,h3]at h1
 exact⟨h1,h.len,h.sm⟩
theorem TL{e:Int×Int×Int×Int}{a n:Int}(h:refP e a n=false):0<=e.1/\e.2.2.1<=a/\a<=e.2.2.2/\e.1<=n/\W (W (n-e.1)+e.2.1)<=64:=by
 unfold refP at h
 cases h1:decide (e.1<0)<;>cases h2:decide (a<e.2.2.1)<;>cases h3:decide (a>e.2.2.2)<;>cases h4:decide (n<e.1)<;>simp_all<;>omega
theorem Yy{c:Cd}{R:Bool}{x:Int×Int}{r:List (Int×Int)}{n o:Int}{pu:List Bool}(h:MZ c R (x::r) n o pu)(hb:refP (effP c x.1) x.2 n=false)(h3:(x.1==7)=true):0<=x.2/\x.2<pu.length:=by
 obtain⟨_,h1,h2,_⟩:=TL hb
 have e:x.1=7:=by simpa using h3
 rw[e]at h1 h2
 have h1:(0:Int)<=x.2:=h1
 have h2:x.2<=W ((c.lines.length:Int)-1):=h2
 have:=h.sm
 rw[z5e (by omega) (by omega)]at h2
 have:=h.len
 omega
theorem z0t{c:Cd}{R:Bool}{x:Int×Int}{r:List (Int×Int)}{n o:Int}{pu:List Bool}(h:MZ c R (x::r) n o pu)(hb:refP (effP c x.1) x.2 n=false)(h3:(x.1==7)=true):0<=x.2/\x.2<((c.lines.map Ln.cs).length:Int).toNat:=by
 have h1:=Yy h hb h3
 rw[h.len]at h1
 rw[List.length_map,Int.toNat_natCast];exact h1
theorem Yz{c:Cd}{R:Bool}{x:Int×Int}{r:List (Int×Int)}{n o:Int}{pu:List Bool}(h:MZ c R (x::r) n o pu)(hb:refP (effP c x.1) x.2 n=false)(h3:(x.1==7)=true):(pu.map boolC)[0+x.2.toNat]? = some (boolC (pu.getD x.2.toNat false)):=by
 have h1:=Yy h hb h3
 have h2:x.2.toNat<pu.length:=by omega
 rw[Nat.zero_add,List.getElem?_map,List.getElem?_eq_getElem h2]
 simp[List.getD_eq_getElem?_getD,List.getElem?_eq_getElem h2]
theorem YA{pu:List Bool}{k:Nat}{v s:Nat}:Block.arr v s ((pu.map boolC).set (0+k) [D.b true])=Block.arr v s ((pu.set k true).map boolC):=by
 rw[Nat.zero_add,List.map_set]
theorem YB{α β:Type}{l:List α}{f:α->β}{v s:Nat}:Block.arr v s (List.replicate ((l.map f).length:Int).toNat [D.b false])=Block.arr v s ((List.replicate l.length false).map boolC):=by
 rw[Int.toNat_natCast,List.length_map,List.map_replicate]
theorem z5i{c:Cd}(h:Ep c=true):GY c=false:=by unfold GY;rw[h];rfl
theorem z5j{c:Cd}{x:Ln}{r:List Ln}(hI:allL c.lines=allL (x::r))(h:(bif (bif !(AL x.lo x.hi)then true else decide (x.size<1))then true else decide (x.size>65536))=true):GY c=false:=by
 unfold GY;rw[hI];simp only[allL,okL,h];cases Ep c<;>rfl
theorem TM{c:Cd}{x:Ln}{r:List Ln}(hI:allL c.lines=allL (x::r))(h:(bif (bif !(AL x.lo x.hi)then true else decide (x.size<1))then true else decide (x.size>65536))=false):allL c.lines=allL r:=by
 rw[hI];simp only[allL,okL,h];rfl
theorem z5k{c:Cd}{x:List Int}{r:List (List Int)}(hI:allT c.tables=allT (x::r))(h:(bif decide ((x.length:Int)<1)then true else decide ((x.length:Int)>1024))=true):GY c=false:=by
 unfold GY;rw[hI];simp only[allT,z0r,h];cases Ep c<;>cases allL c.lines<;>rfl
theorem z5l{c:Cd}{x:List Int}{r:List (List Int)}{y:Int}{q:List Int}(hI:allT c.tables=allT (x::r))(h:(bif decide ((x.length:Int)<1)then true else decide ((x.length:Int)>1024))=false)(h2:Cm x=Cm (y::q))(h3:(!(AL y y))=true):GY c=false:=by
 unfold GY;rw[hI];simp only[allT,z0r,h,h2,Cm,h3];cases Ep c<;>cases allL c.lines<;>rfl
theorem TN{x:List Int}{y:Int}{q:List Int}(h2:Cm x=Cm (y::q))(h3:(!(AL y y))=false):Cm x=Cm q:=by rw[h2];simp only[Cm,h3];rfl
theorem TP{c:Cd}{x:List Int}{r:List (List Int)}(hI:allT c.tables=allT (x::r))(h:(bif decide ((x.length:Int)<1)then true else decide ((x.length:Int)>1024))=false)(h2:Cm x=Cm []):allT c.tables=allT r:=by
 rw[hI];simp only[allT,z0r,h,h2,Cm];rfl
theorem z5m{c:Cd}(h:Ep c=false)(h1:allL c.lines=allL [])(h2:allT c.tables=allT []):GY c=FP c:=by unfold GY;rw[h,h1,h2];rfl
theorem z8r{x:List Int}{b:Bool}(h:(bif decide (((x.map eU).length:Int)<1)then true else decide (((x.map eU).length:Int)>1024))=b):(bif decide ((x.length:Int)<1)then true else decide ((x.length:Int)>1024))=b:=by simpa only [List.length_map]using h
theorem z5n{c:Cd}{b:Bool}(h:(bif (bif (bif (bif (bif (bif (bif decide (c.latency<0)then true else decide (c.latency>4096))then true else decide (c.tail < -1))then true else decide (c.tail>1048576))then true else !(aH c.params))then true else !(aH c.states))then true else decide (((c.lines.map Ln.cs).length:Int)>16))then true else decide (((c.tables.map lnC).length:Int)>16))=b):Ep c=b:=by
 simpa only [Ep,List.length_map]using h
structure G5(c:Cd)(R:Bool)(r:List (Int×Int))(n o:Int)(pu:List Bool):Prop where
 eq:JL c r n o pu=R
 len:pu.length=c.lines.length
 sm:c.lines.length<=1073741824
section
variable {c : Cd} {R b : Bool} {x : Int × Int} {r : List (Int × Int)} {n o : Int} {pu : List Bool}
theorem O0(h:JL c c.instrs 0 0 (List.replicate c.lines.length false)=R)(hs:c.lines.length<=1073741824):G5 c R c.instrs 0 0 (List.replicate c.lines.length false):=⟨h,by simp,hs⟩
theorem WP(h:G5 c R [] n o pu)(hb:(bif n != 0 then true else o != 1)=b):R = !b:=by
 rw[<-h.eq,JL,hb]
theorem WQ(h:G5 c R (x::r) n o pu)(hb:CB c x n=true):R=false:=by
 rw[<-h.eq,JL,hb];rfl
theorem z0u(h:G5 c R (x::r) n o pu)(hb:CB c x n=false)(h6:decide (W (W (n-(takesR x.1).1)+(takesR x.1).2.1)>64)=true):R=false:=by
 rw[<-h.eq,JL,hb,h6];rfl
theorem z0v(h:G5 c R (x::r) n o pu)(hb:CB c x n=false)(h6:decide (W (W (n-(takesR x.1).1)+(takesR x.1).2.1)>64)=false)(h3:(x.1==7)=true)(h4:pu.getD x.2.toNat false=true):R=false:=by
 rw[<-h.eq,JL,hb,h6,h3,h4];rfl
theorem z0w(h:G5 c R (x::r) n o pu)(hb:CB c x n=false)(h6:decide (W (W (n-(takesR x.1).1)+(takesR x.1).2.1)>64)=false)(h2:(x.1==22)=false)(h3:(x.1==7)=true)(h4:pu.getD x.2.toNat false=false) :
  G5 c R r (W (W (n-(takesR x.1).1)+(takesR x.1).2.1)) o (pu.set x.2.toNat true):=by
 have h1:=h.eq
 rw[JL,hb,h6,h2,h3,h4]at h1
 exact⟨h1,by simpa using h.len,h.sm⟩
theorem z0x(h:G5 c R (x::r) n o pu)(hb:CB c x n=false)(h6:decide (W (W (n-(takesR x.1).1)+(takesR x.1).2.1)>64)=false)(h2:(x.1==22)=true)(h3:(x.1==7)=true)(h4:pu.getD x.2.toNat false=false) :
  G5 c R r (W (W (n-(takesR x.1).1)+(takesR x.1).2.1)) (W (o+1)) (pu.set x.2.toNat true):=by
 have e:x.1=7:=by simpa using h3
 rw[e]at h2;exact absurd h2 (by decide)
theorem z0y(h:G5 c R (x::r) n o pu)(hb:CB c x n=false)(h6:decide (W (W (n-(takesR x.1).1)+(takesR x.1).2.1)>64)=false)(h2:(x.1==22)=true)(h3:(x.1==7)=false) :
  G5 c R r (W (W (n-(takesR x.1).1)+(takesR x.1).2.1)) (W (o+1)) pu:=by
 have h1:=h.eq
 rw[JL,hb,h6,h2,h3]at h1
 exact⟨h1,h.len,h.sm⟩
theorem z0z(h:G5 c R (x::r) n o pu)(hb:CB c x n=false)(h6:decide (W (W (n-(takesR x.1).1)+(takesR x.1).2.1)>64)=false)(h2:(x.1==22)=false)(h3:(x.1==7)=false) :
  G5 c R r (W (W (n-(takesR x.1).1)+(takesR x.1).2.1)) o pu:=by
 have h1:=h.eq
 rw[JL,hb,h6,h2,h3]at h1
 exact⟨h1,h.len,h.sm⟩
theorem z00(h:CB c x n=false):(takesR x.1).2.2=true/\(GX c x.1).1<=x.2/\x.2<=(GX c x.1).2/\(takesR x.1).1<=n:=by
 unfold CB TE at h
 cases h1:(takesR x.1).2.2<;>cases h2:decide (x.2>=(GX c x.1).1)<;>cases h3:decide (x.2<=(GX c x.1).2)<;>cases h4:decide (n<(takesR x.1).1)<;>simp_all
theorem TQ(h:G5 c R (x::r) n o pu)(hb:CB c x n=false)(h3:(x.1==7)=true):0<=x.2/\x.2<pu.length:=by
 obtain⟨_,h1,h2,_⟩:=z00 hb
 have e:x.1=7:=by simpa using h3
 rw[e]at h1 h2
 have h1:(0:Int)<=x.2:=h1
 have h2:x.2<=W ((c.lines.length:Int)-1):=h2
 have:=h.sm
 rw[z5e (by omega) (by omega)]at h2
 have:=h.len
 omega
theorem WR(h:G5 c R (x::r) n o pu)(hb:CB c x n=false)(h3:(x.1==7)=true):0<=x.2/\x.2<((c.lines.map Ln.cs).length:Int).toNat:=by
 have h1:=TQ h hb h3
 rw[h.len]at h1
 rw[List.length_map,Int.toNat_natCast];exact h1
theorem TR(h:G5 c R (x::r) n o pu)(hb:CB c x n=false)(h3:(x.1==7)=true):(pu.map boolC)[0+x.2.toNat]? = some (boolC (pu.getD x.2.toNat false)):=by
 have h1:=TQ h hb h3
 have h2:x.2.toNat<pu.length:=by omega
 rw[Nat.zero_add,List.getElem?_map,List.getElem?_eq_getElem h2]
 simp[List.getD_eq_getElem?_getD,List.getElem?_eq_getElem h2]
end
end Go.Fw.Mac
namespace Go.Fw
variable [ah]
end Go.Fw
namespace Go.Fw.Mac
open Go.Fw
instance:Inhabited Bd:=⟨⟨[],0,0⟩⟩
instance:Inhabited Ln:=⟨⟨[],0,0,0⟩⟩
theorem z5o{c:Cd}{op a n:Int}(h:refP (effP c op) a n=false):op=1\/op=2\/op=3\/op=4\/op=5\/op=6\/op=7\/op=8\/op=9\/op=10\/op=11\/op=12\/op=13\/op=14\/op=15\/op=16\/op=17\/op=18\/op=19\/op=20\/op=21\/op=22:=by
 have h1:=(TL h).1
 apply Classical.byContradiction
 intro hn
 simp only[not_or]at hn
 obtain⟨q1,q2,q3,q4,q5,q6,q7,q8,q9,q10,q11,q12,q13,q14,q15,q16,q17,q18,q19,q20,q21,q22⟩:=hn
 have e:effP c op=(-1,0,0,0):=by
  unfold effP
  simp only[show ∀k:Int,op≠k->(op==k)=false from λk hk=>by simpa using hk,ne_eq,not_false_eq_true,q1,q2,q3,q4,q5,q6,q7,q8,q9,q10,q11,q12,q13,q14,q15,q16,q17,q18,q19,q20,q21,q22,cond_false]
 rw[e]at h1
 exact absurd h1 (by decide)
end Go.Fw.Mac
namespace Go.Fw
variable [ah]
end Go.Fw
namespace Go.Fw.Mac
open Go.Fw
theorem YC{n m:Nat}(h:((n:Int) != (m:Int))=false):n=m:=by simp at h;omega
end Go.Fw.Mac
namespace Go.Fw
variable [ah]
theorem BrI.ff_of{c:Bool}{p q:Prop}(h:c=false)(hq:q):BrI c p q:=by subst h;exact BrI.ff hq
theorem BrI.tt_of{c:Bool}{p q:Prop}(h:c=true)(hp:p):BrI c p q:=by subst h;exact BrI.tt hp
end Go.Fw
namespace Go.Fw.Mac
open Go.Fw
variable [ah]
end Go.Fw.Mac
namespace Go.Fw.Mac
open Go.Fw
theorem WS(op:Int):(op=1\/op=2\/op=3\/op=4\/op=5\/op=6\/op=7\/op=8\/op=9\/op=10\/op=11\/op=12\/op=13\/op=14\/op=15\/op=16\/op=17\/op=18\/op=19\/op=20\/op=21\/op=22)\/(∀k:Int,1<=k->k<=22->(op==k)=false):=by
 by_cases h:1<=op/\op<=22
 ·left;omega
 ·right;intro k h1 h2
  have:op≠k:=by omega
  simpa using this
theorem z01(t ps lo hi a n:Int)(ht:0<=t):refP (t,ps,lo,hi) a n=(bif (bif (bif !true then true else !(bif decide (a>=lo)then decide (a<=hi)else false))then true else decide (n<t))then true else decide (W (W (n-t)+ps)>64)):=by
 unfold refP
 simp only
 rw[decide_eq_false (show ¬t<0 by omega)]
 by_cases h1:a<lo<;>by_cases h2:a>hi
 ·rw[decide_eq_true h1,decide_eq_true h2,decide_eq_false (show ¬a>=lo by omega)];simp
 ·rw[decide_eq_true h1,decide_eq_false h2,decide_eq_false (show ¬a>=lo by omega)];simp
 ·rw[decide_eq_false h1,decide_eq_true h2,decide_eq_true (show a>=lo by omega),decide_eq_false (show ¬a<=hi by omega)];simp
 ·rw[decide_eq_false h1,decide_eq_false h2,decide_eq_true (show a>=lo by omega),decide_eq_true (show a<=hi by omega)];simp
def G6(c:Cd)(x:Int×Int)(n:Int):Bool:=bif CB c x n then true else decide (W (W (n-(takesR x.1).1)+(takesR x.1).2.1)>64)
theorem z02{c:Cd}{op a n t ps lo hi:Int}(e1:effP c op=(t,ps,lo,hi))(e2:takesR op=(t,ps,true))(e3:GX c op=(lo,hi))(ht:0<=t):refP (effP c op) a n=G6 c (op,a) n:=by
 unfold G6 CB TE
 rw[e1,e2,e3]
 exact z01 t ps lo hi a n ht
theorem z5p(c:Cd)(op a n:Int):refP (effP c op) a n=G6 c (op,a) n:=by
 rcases WS op with(rfl |rfl |rfl |rfl |rfl |rfl |rfl |rfl |rfl |rfl |rfl |rfl |rfl |rfl |rfl |rfl |rfl |rfl |rfl |rfl |rfl |rfl) |h
 iterate 22 exact z02 rfl rfl rfl (by decide)
 have e1:effP c op=(-1,0,0,0):=by
  unfold effP
  simp only[h 1 (by decide) (by decide),h 2 (by decide) (by decide),h 3 (by decide) (by decide),h 4 (by decide) (by decide),h 5 (by decide) (by decide),h 6 (by decide) (by decide),h 7 (by decide) (by decide),h 8 (by decide) (by decide),h 9 (by decide) (by decide),h 10 (by decide) (by decide),h 11 (by decide) (by decide),h 12 (by decide) (by decide),h 13 (by decide) (by decide),h 14 (by decide) (by decide),h 15 (by decide) (by decide),h 16 (by decide) (by decide),h 17 (by decide) (by decide),h 18 (by decide) (by decide),h 19 (by decide) (by decide),h 20 (by decide) (by decide),h 21 (by decide) (by decide),h 22 (by decide) (by decide),cond_false]
 have e2:takesR op=(0,0,false):=by
  unfold takesR
  simp only[h 1 (by decide) (by decide),h 2 (by decide) (by decide),h 3 (by decide) (by decide),h 4 (by decide) (by decide),h 5 (by decide) (by decide),h 6 (by decide) (by decide),h 7 (by decide) (by decide),h 8 (by decide) (by decide),h 9 (by decide) (by decide),h 10 (by decide) (by decide),h 11 (by decide) (by decide),h 12 (by decide) (by decide),h 13 (by decide) (by decide),h 14 (by decide) (by decide),h 15 (by decide) (by decide),h 16 (by decide) (by decide),h 17 (by decide) (by decide),h 18 (by decide) (by decide),h 19 (by decide) (by decide),h 20 (by decide) (by decide),h 21 (by decide) (by decide),h 22 (by decide) (by decide),cond_false]
 unfold G6 CB refP
 rw[e1,e2]
 simp
theorem TS{c:Cd}{op a n:Int}(hb:refP (effP c op) a n=false):(effP c op).1=(takesR op).1/\(effP c op).2.1=(takesR op).2.1/\0<=(takesR op).1/\(takesR op).1<=4/\0<=(takesR op).2.1/\(takesR op).2.1<=1:=by
 rcases z5o hb with rfl |rfl |rfl |rfl |rfl |rfl |rfl |rfl |rfl |rfl |rfl |rfl |rfl |rfl |rfl |rfl |rfl |rfl |rfl |rfl |rfl |rfl
 all_goals exact⟨rfl,rfl,by decide,by decide,by decide,by decide⟩
theorem WT{c:Cd}{x:Int×Int}{n:Int}(h:G6 c x n=false):CB c x n=false/\decide (W (W (n-(takesR x.1).1)+(takesR x.1).2.1)>64)=false:=by
 unfold G6 at h
 cases h1:CB c x n with
 |true=>rw[h1]at h;simp at h
 |false=>rw[h1]at h;exact⟨rfl,h⟩
theorem TT{c:Cd}{x:Int×Int}{n:Int}{b:Bool}(h:G6 c x n=true):(bif CB c x n then false else bif decide (W (W (n-(takesR x.1).1)+(takesR x.1).2.1)>64)then false else b)=false:=by
 unfold G6 at h
 cases h1:CB c x n with
 |true=>rfl
 |false=>rw[h1]at h;simp only[cond_false]at h ⊢;rw[h];rfl
theorem YD(c:Cd):∀(r:List (Int×Int)) (n o:Int) (pu:List Bool),0<=n->n<=64->chkP c r n o pu=JL c r n o pu
 | [],_,_,_,_,_=>rfl
 |x::r,n,o,pu,h0,h1=>by
  have hr:=z5p c x.1 x.2 n
  rw[chkP,JL]
  cases hb:refP (effP c x.1) x.2 n with
  |true=>
   rw[hb]at hr
   rw[TT hr.symm];rfl
  |false=>
   rw[hb]at hr
   obtain⟨q1,q2⟩:=WT hr.symm
   obtain⟨t1,t2,t3,t4,t5,t6⟩:=TS hb
   have hi:=TL hb
   rw[t1,t2]at hi
   rw[q1,q2,t1,t2]
   simp only[cond_false]
   have q3:=of_decide_eq_false q2
   have e1:W ((takesR x.1).2.1-(takesR x.1).1)=(takesR x.1).2.1-(takesR x.1).1:=z5e (by omega) (by omega)
   have e2:W (n-(takesR x.1).1)=n-(takesR x.1).1:=z5e (by omega) (by omega)
   have e3:W (n-(takesR x.1).1+(takesR x.1).2.1)=n-(takesR x.1).1+(takesR x.1).2.1:=z5e (by omega) (by omega)
   rw[e2]at q3 ⊢
   rw[e3]at q3
   have e4:n+((takesR x.1).2.1-(takesR x.1).1)=n-(takesR x.1).1+(takesR x.1).2.1:=by omega
   rw[e1,e4]
   rw[e3]
   have ih:=λo pu=>YD c r (n-(takesR x.1).1+(takesR x.1).2.1) o pu (by omega) (by omega)
   rw[ih,ih,ih]
   cases h2:(x.1==22)with
   |true=>
    have e:x.1=22:=by simpa using h2
    rw[e];rfl
   |false=>rfl
theorem Es(lo hi:Int):(!(AL lo hi))=wrongM lo hi:=by
 unfold AL wrongM
 by_cases h1:lo < -2147483648<;>by_cases h2:lo>hi<;>by_cases h3:hi>2147483647
 all_goals(first |rw[decide_eq_true h1,decide_eq_false (show ¬lo >= -2147483648 by omega)] |rw[decide_eq_false h1,decide_eq_true (show lo >= -2147483648 by omega)])
 all_goals(first |rw[decide_eq_true h2,decide_eq_false (show ¬lo<=hi by omega)] |rw[decide_eq_false h2,decide_eq_true (show lo<=hi by omega)])
 all_goals(first |rw[decide_eq_true h3,decide_eq_false (show ¬hi<=2147483647 by omega)] |rw[decide_eq_false h3,decide_eq_true (show hi<=2147483647 by omega)])
 all_goals rfl
theorem JM:∀l:List Bd,allB l = !(anyB l)
 | []=>rfl
 |b::r=>by rw[allB,anyB,Es,JM r];cases wrongM b.lo b.hi<;>rfl
theorem z5q(x:Ln):okL x = !(badL x):=by unfold okL badL;rw[Es]
theorem TU:∀l:List Ln,allL l = !(anyL l)
 | []=>rfl
 |x::r=>by rw[allL,anyL,z5q,TU r];cases badL x<;>rfl
theorem G7:∀(l:List Int) (i:Int),0<=i->decide (firstW l i>=0) = !(Cm l)
 | [],i,_=>by rw[firstW,Cm];rfl
 |x::r,i,h=>by
  rw[firstW,Cm,Es]
  cases wrongM x x with
  |true=>simp only[cond_true];rw[decide_eq_true h];rfl
  |false=>simp only[cond_false];exact G7 r (i+1) (by omega)
theorem z03(t:List Int):badT t = !(bif z0r t then Cm t else false):=by
 unfold badT z0r
 rw[G7 t 0 (Int.le_refl _)]
 cases (bif decide ((t.length:Int)<1)then true else decide ((t.length:Int)>1024))<;>rfl
theorem TV:∀l:List (List Int),allT l = !(anyT l)
 | []=>rfl
 |t::r=>by
  rw[allT,anyT,z03,TV r]
  cases z0r t<;>cases Cm t<;>rfl
theorem Na:∀l m:List Bd,anyB (l++m)=(bif anyB l then true else anyB m)
 | [],m=>rfl
 |b::r,m=>by
  rw[List.cons_append,anyB,anyB,Na r m]
  cases wrongM b.lo b.hi<;>rfl
theorem Et:∀(l:List Int) (i n k m:Int),(mostF l i n k).1<=m↔n<=m/\∀x∈l,x<=m
 | [],i,n,k,m=>by simp[mostF]
 |x::r,i,n,k,m=>by
  rw[mostF]
  by_cases h:x>n
  ·rw[decide_eq_true h];simp only[cond_true]
   rw[Et r,List.forall_mem_cons]
   constructor
   ·intro q;exact⟨by omega,q⟩
   ·intro q;exact q.2
  ·rw[decide_eq_false h];simp only[cond_false]
   rw[Et r,List.forall_mem_cons]
   constructor
   ·intro q;exact⟨q.1,by omega,q.2⟩
   ·intro q;exact⟨q.1,q.2.2⟩
theorem z5r(c:Cd):decP c=GY c:=by
 have hp:∀{a b:Bool},(a=true↔b=true)->a=b:=λ{a b} h=>by cases a<;>cases b<;>simp_all
 apply hp
 have e0:[c.params,c.states].flatten=c.params++c.states:=by simp
 have b1:∀{a b:Bool},(bif a then b else false)=true↔a=true/\b=true:=λ{a b}=>by cases a<;>cases b<;>simp
 have b2:∀{a b:Bool},(bif a then true else b)=false↔a=false/\b=false:=λ{a b}=>by cases a<;>cases b<;>simp
 have b3:∀{a b:Bool},(bif a then false else b)=true↔a=false/\b=true:=λ{a b}=>by cases a<;>cases b<;>simp
 have hm:=Et [(c.params.length:Int),(c.states.length:Int),(c.lines.length:Int),(c.tables.length:Int)] 0 0 0 16
 unfold decP GY Ep finP FP aH
 rw[e0,Na,JM,JM,TU,TV]
 simp only[b1,b2,b3,Bool.not_not,Bool.not_eq_false',Bool.not_eq_true',decide_eq_true_eq,decide_eq_false_iff_not,hm,List.forall_mem_cons,List.not_mem_nil,false_implies,implies_true,and_true]
 constructor
 ·rintro⟨⟨h1,h2⟩,h3,h4,⟨⟨⟨⟨⟨⟨⟨h5,h6,h7,h8,h9⟩,h10⟩,h11⟩,h12⟩,h13⟩,h14⟩,h15⟩,h16⟩
  refine⟨⟨⟨⟨⟨⟨⟨⟨by omega,by omega⟩,by omega⟩,by omega⟩,h1,by omega⟩,h2,by omega⟩,by omega⟩,by omega⟩,h3,h4,⟨by omega,by omega⟩,by omega⟩
 ·rintro⟨⟨⟨⟨⟨⟨⟨⟨h1,h2⟩,h3⟩,h4⟩,h5,h6⟩,h7,h8⟩,h9⟩,h10⟩,h11,h12,⟨h13,h14⟩,h15⟩
  refine⟨⟨h5,h7⟩,h11,h12,⟨⟨⟨⟨⟨⟨⟨by omega,by omega,by omega,by omega,by omega⟩,by omega⟩,by omega⟩,by omega⟩,by omega⟩,by omega⟩,by omega⟩,by omega⟩
theorem check_eq(c:Cd):GZ c=checkP c:=by
 unfold GZ checkP
 rw[z5r c,YD c _ _ _ _ (by decide) (by decide)]
def sameZ:List (Int×Int)->Bool
 | []=>true
 |(x,y)::r=>bif x != y then false else sameZ r
def sameI(a b:List Int):Bool:=bif (a.length:Int) != (b.length:Int)then false else sameZ (a.zip b)
def sameL:List (List Int×List Int)->Bool
 | []=>true
 |(x,y)::r=>bif !(sameI x y)then false else sameL r
def sameSt(a b:Sta):Bool:=bif (bif !(sameI a.values b.values)then true else(a.lines.length:Int) != (b.lines.length:Int))then false else sameL (a.lines.zip b.lines)
section
variable {a b : List Int} {x : Int × Int} {r : List (Int × Int)} {t : Bool}
theorem sameZ_next(h:t=sameZ (x::r))(hb:(x.1 != x.2)=false):t=sameZ r:=by rw[h,sameZ,hb];rfl
theorem sameI_len(h:((a.length:Int) != (b.length:Int))=true):sameI a b=false:=by unfold sameI;rw[h];rfl
theorem sameI_no(heq:a.length=b.length)(hI:sameZ (a.zip b)=sameZ (x::r))(h:(x.1 != x.2)=true):sameI a b=false:=by
 unfold sameI;rw[heq,hI,sameZ,h];simp
theorem sameI_yes(heq:a.length=b.length)(hI:sameZ (a.zip b)=sameZ []):sameI a b=true:=by
 unfold sameI;rw[heq,hI,sameZ];simp
end
theorem G8:∀{a b:List Int},a.length=b.length->(sameZ (a.zip b)=true↔a=b)
 | [],[],_=>by simp[sameZ]
 | [],_::_,h=>by simp at h
 |_::_,[],h=>by simp at h
 |x::a,y::b,h=>by
  have ih:=@G8 a b (by simpa using h)
  rw[List.zip_cons_cons,sameZ]
  by_cases e:x=y
  ·subst e;simp[ih]
  ·have:(x != y)=true:=by simpa using e
   rw[this];simp[e]
theorem sameI_iff{a b:List Int}:sameI a b=true↔a=b:=by
 unfold sameI
 by_cases h:a.length=b.length
 ·rw[h];simp only[bne_self_eq_false,cond_false];exact G8 h
 ·have:((a.length:Int) != (b.length:Int))=true:=by simp;omega
  rw[this];simp only[cond_true]
  exact⟨λh=>absurd h (by decide),λe=>absurd (congrArg List.length e) h⟩
section
variable {a b : Sta} {x : List Int × List Int} {r : List (List Int × List Int)} {t : Bool}
theorem sameL_next(h:t=sameL (x::r))(hb:(!(sameI x.1 x.2))=false):t=sameL r:=by rw[h,sameL,hb];rfl
theorem sameSt_len(h:(bif !(sameI a.values b.values)then true else(a.lines.length:Int) != (b.lines.length:Int))=false):sameI a.values b.values=true/\a.lines.length=b.lines.length:=by
 cases h1:sameI a.values b.values with
 |false=>rw[h1]at h;simp at h
 |true=>rw[h1]at h;exact⟨rfl,YC h⟩
theorem sameSt_no(h:(bif !(sameI a.values b.values)then true else(a.lines.length:Int) != (b.lines.length:Int))=true):sameSt a b=false:=by unfold sameSt;rw[h];rfl
theorem sameSt_bad(heq:sameI a.values b.values=true/\a.lines.length=b.lines.length)(hI:sameL (a.lines.zip b.lines)=sameL (x::r))(h:(!(sameI x.1 x.2))=true):sameSt a b=false:=by
 unfold sameSt;rw[heq.1,heq.2,hI,sameL,h];simp
theorem sameSt_yes(heq:sameI a.values b.values=true/\a.lines.length=b.lines.length)(hI:sameL (a.lines.zip b.lines)=sameL []):sameSt a b=true:=by
 unfold sameSt;rw[heq.1,heq.2,hI,sameL];simp
end
theorem sZ:∀{a b:List (List Int)},a.length=b.length->(sameL (a.zip b)=true↔a=b)
 | [],[],_=>by simp[sameL]
 | [],_::_,h=>by simp at h
 |_::_,[],h=>by simp at h
 |x::a,y::b,h=>by
  have ih:=@sZ a b (by simpa using h)
  have e:=@sameI_iff x y
  rw[List.zip_cons_cons,sameL]
  cases h1:sameI x y with
  |true=>rw[h1]at e;simp[ih,e.1 rfl]
  |false=>
   rw[h1]at e
   have:x≠y:=λh=>by simpa using e.2 h
   simp[this]
theorem sameSt_iff{a b:Sta}:sameSt a b=true↔a=b:=by
 obtain⟨v,l⟩:=a;obtain⟨v',l'⟩:=b
 have e:=@sameI_iff v v'
 unfold sameSt
 simp only[Sta.mk.injEq]
 cases h1:sameI v v' with
 |false=>
  rw[h1]at e
  have:v≠v':=λh=>by simpa using e.2 h
  simp[this]
 |true=>
  rw[h1]at e
  have e:=e.1 rfl
  simp only[Bool.not_true,cond_false,e,true_and]
  by_cases h:l.length=l'.length
  ·rw[h];simp only[bne_self_eq_false,cond_false];exact sZ h
  ·have:((l.length:Int) != (l'.length:Int))=true:=by simp;omega
   rw[this];simp only[cond_true]
   exact⟨λh=>absurd h (by decide),λe=>absurd (congrArg List.length e) h⟩
end Go.Fw.Mac
