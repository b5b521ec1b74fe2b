/- The typed data of compiled processors and their states, and how they lie in memory; what is checked of a code. -/
import Derived.Test.YthpbakljheeabaaGreatDoorZLL
set_option linter.unusedSectionVars false
set_option linter.unusedSimpArgs false
set_option linter.unusedVariables false
namespace Go.Fw.Mac
open Go.Fw
abbrev W(n:Int):Int:=IntKind.i64.wrap n
structure Cd where
 latency:Int
 tail:Int
 params:List Bd
 states:List Bd
 lines:List Ln
 tables:List (List Int)
 regs:Int
 instrs:List (Int×Int)
structure Sta where
 values:List Int
 lines:List (List Int)
abbrev insC(x:Int×Int):List D:=[.i x.1,.i x.2]
abbrev lnC(t:List Int):List D:=[ints t]
abbrev Cd.cs(c:Cd):List D:=[.i c.latency,.i c.tail,.sl 3 (c.params.map Bd.cs),.sl 3 (c.states.map Bd.cs),.sl 4 (c.lines.map Ln.cs),.sl 1 (c.tables.map lnC),.i c.regs,.sl 2 (c.instrs.map insC)]
abbrev Cd.d(c:Cd):D:=.agg c.cs
abbrev Sta.cs(s:Sta):List D:=[ints s.values,.sl 1 (s.lines.map lnC)]
abbrev Sta.d(s:Sta):D:=.agg s.cs
abbrev Ri(l:List Bd):List D:=[.sl 3 (l.map Bd.cs)]
def lens{α:Type}(ls:List (List α)):Nat:=(ls.map List.length).sum
theorem lens_cons{α:Type}(l:List α)(r:List (List α)):lens (l::r)=l.length+lens r:=by simp[lens]
theorem Dz{α:Type}:lens ([]:List (List α))=0:=rfl
theorem zt{α:Type}(ls:List (List α)):ls.flatten.length=lens ls:=by simp[lens,List.length_flatten]
abbrev boolC(b:Bool):List D:=[.b b]
structure Cd.Sm(c:Cd):Prop where
 params:c.params.length<=268435456
 states:c.states.length<=268435456
 lines:c.lines.length<=268435456
 tables:c.tables.length<=268435456
 instrs:c.instrs.length<=268435456
 table:∀t∈c.tables,t.length<=268435456
structure Sta.Sm(s:Sta):Prop where
 values:s.values.length<=268435456
 lines:s.lines.length<=268435456
 line:∀t∈s.lines,t.length<=268435456
def mostF:List Int->Int->Int->Int->Int×Int
 | [],_,n,k=>(n,k)
 |x::r,i,n,k=>bif decide (x>n)then mostF r (i+1) x i else mostF r (i+1) n k
def zH(lo hi:Int):Bool:=bif (bif decide (lo < -2147483648)then true else decide (lo>hi))then true else decide (hi>2147483647)
def anyB:List Bd->Bool
 | []=>false
 |b::r=>bif zH b.lo b.hi then true else anyB r
def badL(x:Ln):Bool:=bif (bif zH x.lo x.hi then true else decide (x.size<1))then true else decide (x.size>65536)
def anyL:List Ln->Bool
 | []=>false
 |x::r=>bif badL x then true else anyL r
def wL:List Int->Int->Int
 | [],_=>-1
 |x::r,i=>bif zH x x then i else wL r (i+1)
def z4z(t:List Int):Bool:=bif (bif decide ((t.length:Int)<1)then true else decide ((t.length:Int)>1024))then true else decide (wL t 0>=0)
def anyT:List (List Int)->Bool
 | []=>false
 |t::r=>bif z4z t then true else anyT r
def finP(c:Cd)(n:Int):Bool:=
 bif (bif (bif (bif (bif (bif (bif decide (n<=16)then decide (c.latency>=0)else false)then decide (c.latency<=4096)else false)then decide (c.tail >= -1)else false)then decide (c.tail<=1048576)else false)then decide (c.regs>=0)else false)then decide (c.regs<=65536)else false)then decide ((c.instrs.length:Int)<=65536)else false
def decP(c:Cd):Bool:=bif anyB [c.params,c.states].flatten then false else bif anyL c.lines then false else bif anyT c.tables then false else
 finP c (mostF [(c.params.length:Int),(c.states.length:Int),(c.lines.length:Int),(c.tables.length:Int)] 0 0 0).1
def effP(c:Cd)(op:Int):Int×Int×Int×Int:=
 bif op==1 then(0,1,-4611686018427387904,4611686018427387904)else
 bif op==2 then(0,1,0,W ((c.params.length:Int)-1))else
 bif op==3 then(0,1,0,W ((c.states.length:Int)-1))else
 bif op==4 then(0,1,0,W (c.regs-1))else
 bif op==5 then(1,0,0,W (c.regs-1))else
 bif op==6 then(1,0,0,W ((c.states.length:Int)-1))else
 bif op==7 then(1,0,0,W ((c.lines.length:Int)-1))else
 bif op==22 then(1,0,0,0)else
 bif op==10 then(1,1,0,W ((c.lines.length:Int)-1))else
 bif op==11 then(1,1,0,W ((c.tables.length:Int)-1))else
 bif op==20 then(1,1,1,2147483648)else
 bif op==8 then(1,1,0,0)else
 bif op==9 then(1,1,0,0)else
 bif op==12 then(1,1,0,0)else
 bif op==15 then(1,1,0,0)else
 bif op==16 then(1,1,0,0)else
 bif op==13 then(2,1,0,0)else
 bif op==14 then(2,1,0,0)else
 bif op==17 then(2,1,0,0)else
 bif op==18 then(2,1,0,0)else
 bif op==19 then(2,1,0,0)else
 bif op==21 then(4,1,0,0)else(-1,0,0,0)
abbrev zaf(e:Int×Int×Int×Int):D:=.tuple [.i e.1,.i e.2.1,.i e.2.2.1,.i e.2.2.2]
def refP(e:Int×Int×Int×Int)(a n:Int):Bool:=
 bif (bif (bif (bif decide (e.1<0)then true else decide (a<e.2.2.1))then true else decide (a>e.2.2.2))then true else decide (n<e.1))then true else decide (W (W (n-e.1)+e.2.1)>64)
def chkP(c:Cd):List (Int×Int)->Int->Int->List Bool->Bool
 | [],n,outs,_=>!(bif n != 0 then true else outs != 1)
 |x::r,n,outs,pu=>bif refP (effP c x.1) x.2 n then false else
  bif x.1==22 then chkP c r (W (n+W ((effP c x.1).2.1-(effP c x.1).1))) (W (outs+1)) pu else
  bif x.1==7 then(bif pu.getD x.2.toNat false then false else chkP c r (W (n+W ((effP c x.1).2.1-(effP c x.1).1))) outs (pu.set x.2.toNat true))else
  chkP c r (W (n+W ((effP c x.1).2.1-(effP c x.1).1))) outs pu
def okE(b:Bool):Int:=match b with |true=>0 |false=>200
def checkP(c:Cd):Bool:=bif !(decP c)then false else chkP c c.instrs 0 0 (List.replicate c.lines.length false)
def takesR(op:Int):Int×Int×Bool:=
 bif op==1 then(0,1,true)else bif op==2 then(0,1,true)else bif op==3 then(0,1,true)else bif op==4 then(0,1,true)else
 bif op==5 then(1,0,true)else bif op==6 then(1,0,true)else bif op==7 then(1,0,true)else bif op==22 then(1,0,true)else
 bif op==8 then(1,1,true)else bif op==9 then(1,1,true)else bif op==10 then(1,1,true)else bif op==11 then(1,1,true)else bif op==12 then(1,1,true)else bif op==15 then(1,1,true)else bif op==16 then(1,1,true)else bif op==20 then(1,1,true)else
 bif op==13 then(2,1,true)else bif op==14 then(2,1,true)else bif op==17 then(2,1,true)else bif op==18 then(2,1,true)else bif op==19 then(2,1,true)else
 bif op==21 then(4,1,true)else(0,0,false)
abbrev z5a(e:Int×Int×Bool):D:=.tuple [.i e.1,.i e.2.1,.b e.2.2]
def Jp(c:Cd)(op:Int):Int×Int:=
 bif op==1 then(-4611686018427387904,4611686018427387904)else
 bif op==2 then(0,W ((c.params.length:Int)-1))else
 bif op==3 then(0,W ((c.states.length:Int)-1))else
 bif op==6 then(0,W ((c.states.length:Int)-1))else
 bif op==4 then(0,W (c.regs-1))else
 bif op==5 then(0,W (c.regs-1))else
 bif op==7 then(0,W ((c.lines.length:Int)-1))else
 bif op==10 then(0,W ((c.lines.length:Int)-1))else
 bif op==11 then(0,W ((c.tables.length:Int)-1))else
 bif op==20 then(1,2147483648)else(0,0)
def Wj(c:Cd)(op a:Int):Bool:=bif decide (a>=(Jp c op).1)then decide (a<=(Jp c op).2)else false
def Gq(lo hi:Int):Bool:=bif (bif decide (lo >= -2147483648)then decide (lo<=hi)else false)then decide (hi<=2147483647)else false
def allB:List Bd->Bool
 | []=>true
 |b::r=>bif !(Gq b.lo b.hi)then false else allB r
def aK(l:List Bd):Bool:=bif allB l then decide ((l.length:Int)<=16)else false
def okL(x:Ln):Bool:=!(bif (bif !(Gq x.lo x.hi)then true else decide (x.size<1))then true else decide (x.size>65536))
def allL:List Ln->Bool
 | []=>true
 |x::r=>bif okL x then allL r else false
def Jq:List Int->Bool
 | []=>true
 |x::r=>bif !(Gq x x)then false else Jq r
def z7s(t:List Int):Bool:=!(bif decide ((t.length:Int)<1)then true else decide ((t.length:Int)>1024))
def allT:List (List Int)->Bool
 | []=>true
 |t::r=>bif z7s t then(bif Jq t then allT r else false)else false
def Gs(c:Cd):Bool:=
 bif (bif (bif (bif (bif (bif (bif decide (c.latency<0)then true else decide (c.latency>4096))then true else decide (c.tail < -1))then true else decide (c.tail>1048576))then true else !(aK c.params))then true else !(aK c.states))then true else decide ((c.lines.length:Int)>16))then true else decide ((c.tables.length:Int)>16)
def H7(c:Cd):Bool:=bif (bif decide (c.regs>=0)then decide (c.regs<=65536)else false)then decide ((c.instrs.length:Int)<=65536)else false
def Jr(c:Cd):Bool:=bif Gs c then false else bif !(allL c.lines)then false else bif !(allT c.tables)then false else H7 c
def OC(c:Cd)(x:Int×Int)(n:Int):Bool:=bif (bif !((takesR x.1).2.2)then true else !(Wj c x.1 x.2))then true else decide (n<(takesR x.1).1)
def OD(c:Cd):List (Int×Int)->Int->Int->List Bool->Bool
 | [],n,outs,_=>!(bif n != 0 then true else outs != 1)
 |x::r,n,outs,pu=>bif OC c x n then false else
  bif decide (W (W (n-(takesR x.1).1)+(takesR x.1).2.1)>64)then false else
  bif x.1==7 then(bif pu.getD x.2.toNat false then false else OD c r (W (W (n-(takesR x.1).1)+(takesR x.1).2.1)) (bif x.1==22 then W (outs+1)else outs) (pu.set x.2.toNat true))else
  OD c r (W (W (n-(takesR x.1).1)+(takesR x.1).2.1)) (bif x.1==22 then W (outs+1)else outs) pu
def S9(c:Cd):Bool:=bif !(Jr c)then false else OD c c.instrs 0 0 (List.replicate c.lines.length false)
theorem z8s{c:Cd}{x:Bd}{r:List Bd}(hI:anyB [c.params,c.states].flatten=anyB (x::r))(h:zH x.lo x.hi=true):decP c=false:=by unfold decP;rw[hI];simp[anyB,h]
theorem z8t{c:Cd}{x:Ln}{r:List Ln}(hI:anyL c.lines=anyL (x::r))(h:badL x=true):decP c=false:=by unfold decP;rw[hI];simp[anyL,h]
theorem z8u{c:Cd}{x:List Int}{r:List (List Int)}(hI:anyT c.tables=anyT (x::r))(h:z4z x=true):decP c=false:=by unfold decP;rw[hI];simp[anyT,h]
theorem z8v{c:Cd}(h1:anyB [c.params,c.states].flatten=anyB [])(h2:anyL c.lines=anyL [])(h3:anyT c.tables=anyT []):decP c=finP c (mostF [(c.params.length:Int),(c.states.length:Int),(c.lines.length:Int),(c.tables.length:Int)] 0 0 0).1:=by
 unfold decP;rw[h1,h2,h3];rfl
theorem Tc{x:Bd}{r:List Bd}{b:Bool}(hI:b=anyB (x::r))(h:zH x.lo x.hi=false):b=anyB r:=by rw[hI];simp[anyB,h]
theorem Td{x:Ln}{r:List Ln}{b:Bool}(hI:b=anyL (x::r))(h:badL x=false):b=anyL r:=by rw[hI];simp[anyL,h]
theorem Tf{x:List Int}{r:List (List Int)}{b:Bool}(hI:b=anyT (x::r))(h:z4z x=false):b=anyT r:=by rw[hI];simp[anyT,h]
theorem z97{n:Int}(h1:-9223372036854775808<=n)(h2:n<=9223372036854775807):W n=n:=by
 simp only[W,IntKind.wrap,IntKind.bits,IntKind.signed]
 first |(simp;omega) |skip
structure L9(c:Cd)(R:Bool)(r:List (Int×Int))(n o:Int)(pu:List Bool):Prop where
 eq:chkP c r n o pu=R
 len:pu.length=c.lines.length
 sm:c.lines.length<=1073741824
theorem Ti{c:Cd}{R:Bool}(h:chkP c c.instrs 0 0 (List.replicate c.lines.length false)=R)(hs:c.lines.length<=1073741824):L9 c R c.instrs 0 0 (List.replicate c.lines.length false):=⟨h,by simp,hs⟩
theorem chk_end{c:Cd}{R b:Bool}{n o:Int}{pu:List Bool}(h:L9 c R [] n o pu)(hb:(bif n != 0 then true else o != 1)=b):R = !b:=by
 rw[<-h.eq,chkP,hb]
theorem z0c{c:Cd}{R:Bool}{x:Int×Int}{r:List (Int×Int)}{n o:Int}{pu:List Bool}(h:L9 c R (x::r) n o pu)(hb:refP (effP c x.1) x.2 n=true):R=false:=by
 rw[<-h.eq,chkP,hb];rfl
theorem z5b{c:Cd}{R:Bool}{x:Int×Int}{r:List (Int×Int)}{n o:Int}{pu:List Bool}(h:L9 c R (x::r) n o pu)(hb:refP (effP c x.1) x.2 n=false)(h2:(x.1==22)=true) :
  L9 c R r (W (n+W ((effP c x.1).2.1-(effP c x.1).1))) (W (o+1)) pu:=by
 have h1:=h.eq
 rw[chkP,hb,h2]at h1
 exact⟨h1,h.len,h.sm⟩
theorem z5c{c:Cd}{R:Bool}{x:Int×Int}{r:List (Int×Int)}{n o:Int}{pu:List Bool}(h:L9 c R (x::r) n o pu)(hb:refP (effP c x.1) x.2 n=false)(h2:(x.1==22)=false)(h3:(x.1==7)=true)(h4:pu.getD x.2.toNat false=true):R=false:=by
 have h1:=h.eq
 rw[chkP,hb,h2,h3,h4]at h1
 exact h1.symm
theorem z5d{c:Cd}{R:Bool}{x:Int×Int}{r:List (Int×Int)}{n o:Int}{pu:List Bool}(h:L9 c R (x::r) n o pu)(hb:refP (effP c x.1) x.2 n=false)(h2:(x.1==22)=false)(h3:(x.1==7)=true)(h4:pu.getD x.2.toNat false=false) :
  L9 c R r (W (n+W ((effP c x.1).2.1-(effP c x.1).1))) o (pu.set x.2.toNat true):=by
 have h1:=h.eq
 rw[chkP,hb,h2,h3,h4]at h1
 exact⟨h1,by simpa using h.len,h.sm⟩
theorem z8w{c:Cd}{R:Bool}{x:Int×Int}{r:List (Int×Int)}{n o:Int}{pu:List Bool}(h:L9 c R (x::r) n o pu)(hb:refP (effP c x.1) x.2 n=false)(h2:(x.1==22)=false)(h3:(x.1==7)=false) :
  L9 c R r (W (n+W ((effP c x.1).2.1-(effP c x.1).1))) o pu:=by
 have h1:=h.eq
 rw[chkP,hb,h2,h3]at h1
 exact⟨h1,h.len,h.sm⟩
theorem z5e{e:Int×Int×Int×Int}{a n:Int}(h:refP e a n=false):0<=e.1/\e.2.2.1<=a/\a<=e.2.2.2/\e.1<=n/\W (W (n-e.1)+e.2.1)<=64:=by
 unfold refP at h
 cases h1:decide (e.1<0)<;>cases h2:decide (a<e.2.2.1)<;>cases h3:decide (a>e.2.2.2)<;>cases h4:decide (n<e.1)<;>simp_all<;>omega
theorem Yd{c:Cd}{R:Bool}{x:Int×Int}{r:List (Int×Int)}{n o:Int}{pu:List Bool}(h:L9 c R (x::r) n o pu)(hb:refP (effP c x.1) x.2 n=false)(h3:(x.1==7)=true):0<=x.2/\x.2<pu.length:=by
 obtain⟨_,h1,h2,_⟩:=z5e hb
 have e:x.1=7:=by simpa using h3
 rw[e]at h1 h2
 have h1:(0:Int)<=x.2:=h1
 have h2:x.2<=W ((c.lines.length:Int)-1):=h2
 have:=h.sm
 rw[z97 (by omega) (by omega)]at h2
 have:=h.len
 omega
theorem z0d{c:Cd}{R:Bool}{x:Int×Int}{r:List (Int×Int)}{n o:Int}{pu:List Bool}(h:L9 c R (x::r) n o pu)(hb:refP (effP c x.1) x.2 n=false)(h3:(x.1==7)=true):0<=x.2/\x.2<((c.lines.map Ln.cs).length:Int).toNat:=by
 have h1:=Yd h hb h3
 rw[h.len]at h1
 rw[List.length_map,Int.toNat_natCast];exact h1
theorem Ye{c:Cd}{R:Bool}{x:Int×Int}{r:List (Int×Int)}{n o:Int}{pu:List Bool}(h:L9 c R (x::r) n o pu)(hb:refP (effP c x.1) x.2 n=false)(h3:(x.1==7)=true):(pu.map boolC)[0+x.2.toNat]? = some (boolC (pu.getD x.2.toNat false)):=by
 have h1:=Yd h hb h3
 have h2:x.2.toNat<pu.length:=by omega
 rw[Nat.zero_add,List.getElem?_map,List.getElem?_eq_getElem h2]
 simp[List.getD_eq_getElem?_getD,List.getElem?_eq_getElem h2]
theorem Yf{pu:List Bool}{k:Nat}{v s:Nat}:Block.arr v s ((pu.map boolC).set (0+k) [D.b true])=Block.arr v s ((pu.set k true).map boolC):=by
 rw[Nat.zero_add,List.map_set]
theorem Yg{α β:Type}{l:List α}{f:α->β}{v s:Nat}:Block.arr v s (List.replicate ((l.map f).length:Int).toNat [D.b false])=Block.arr v s ((List.replicate l.length false).map boolC):=by
 rw[Int.toNat_natCast,List.length_map,List.map_replicate]
theorem z5f{c:Cd}(h:Gs c=true):Jr c=false:=by unfold Jr;rw[h];rfl
theorem z5g{c:Cd}{x:Ln}{r:List Ln}(hI:allL c.lines=allL (x::r))(h:(bif (bif !(Gq x.lo x.hi)then true else decide (x.size<1))then true else decide (x.size>65536))=true):Jr c=false:=by
 unfold Jr;rw[hI];simp only[allL,okL,h];cases Gs c<;>rfl
theorem Tj{c:Cd}{x:Ln}{r:List Ln}(hI:allL c.lines=allL (x::r))(h:(bif (bif !(Gq x.lo x.hi)then true else decide (x.size<1))then true else decide (x.size>65536))=false):allL c.lines=allL r:=by
 rw[hI];simp only[allL,okL,h];rfl
theorem z5h{c:Cd}{x:List Int}{r:List (List Int)}(hI:allT c.tables=allT (x::r))(h:(bif decide ((x.length:Int)<1)then true else decide ((x.length:Int)>1024))=true):Jr c=false:=by
 unfold Jr;rw[hI];simp only[allT,z7s,h];cases Gs c<;>cases allL c.lines<;>rfl
theorem z5i{c:Cd}{x:List Int}{r:List (List Int)}{y:Int}{q:List Int}(hI:allT c.tables=allT (x::r))(h:(bif decide ((x.length:Int)<1)then true else decide ((x.length:Int)>1024))=false)(h2:Jq x=Jq (y::q))(h3:(!(Gq y y))=true):Jr c=false:=by
 unfold Jr;rw[hI];simp only[allT,z7s,h,h2,Jq,h3];cases Gs c<;>cases allL c.lines<;>rfl
theorem Tm{x:List Int}{y:Int}{q:List Int}(h2:Jq x=Jq (y::q))(h3:(!(Gq y y))=false):Jq x=Jq q:=by rw[h2];simp only[Jq,h3];rfl
theorem Tn{c:Cd}{x:List Int}{r:List (List Int)}(hI:allT c.tables=allT (x::r))(h:(bif decide ((x.length:Int)<1)then true else decide ((x.length:Int)>1024))=false)(h2:Jq x=Jq []):allT c.tables=allT r:=by
 rw[hI];simp only[allT,z7s,h,h2,Jq];rfl
theorem z5j{c:Cd}(h:Gs c=false)(h1:allL c.lines=allL [])(h2:allT c.tables=allT []):Jr c=H7 c:=by unfold Jr;rw[h,h1,h2];rfl
theorem z8x{x:List Int}{b:Bool}(h:(bif decide (((x.map eG).length:Int)<1)then true else decide (((x.map eG).length:Int)>1024))=b):(bif decide ((x.length:Int)<1)then true else decide ((x.length:Int)>1024))=b:=by simpa only [List.length_map]using h
theorem z5k{c:Cd}{b:Bool}(h:(bif (bif (bif (bif (bif (bif (bif decide (c.latency<0)then true else decide (c.latency>4096))then true else decide (c.tail < -1))then true else decide (c.tail>1048576))then true else !(aK c.params))then true else !(aK c.states))then true else decide (((c.lines.map Ln.cs).length:Int)>16))then true else decide (((c.tables.map lnC).length:Int)>16))=b):Gs c=b:=by
 simpa only [Gs,List.length_map]using h
structure Gt(c:Cd)(R:Bool)(r:List (Int×Int))(n o:Int)(pu:List Bool):Prop where
 eq:OD c r n o pu=R
 len:pu.length=c.lines.length
 sm:c.lines.length<=1073741824
section
variable {c : Cd} {R b : Bool} {x : Int × Int} {r : List (Int × Int)} {n o : Int} {pu : List Bool}
theorem OE(h:OD c c.instrs 0 0 (List.replicate c.lines.length false)=R)(hs:c.lines.length<=1073741824):Gt c R c.instrs 0 0 (List.replicate c.lines.length false):=⟨h,by simp,hs⟩
theorem Wl(h:Gt c R [] n o pu)(hb:(bif n != 0 then true else o != 1)=b):R = !b:=by
 rw[<-h.eq,OD,hb]
theorem Wn(h:Gt c R (x::r) n o pu)(hb:OC c x n=true):R=false:=by
 rw[<-h.eq,OD,hb];rfl
theorem z0e(h:Gt c R (x::r) n o pu)(hb:OC c x n=false)(h6:decide (W (W (n-(takesR x.1).1)+(takesR x.1).2.1)>64)=true):R=false:=by
 rw[<-h.eq,OD,hb,h6];rfl
theorem z0f(h:Gt c R (x::r) n o pu)(hb:OC c x n=false)(h6:decide (W (W (n-(takesR x.1).1)+(takesR x.1).2.1)>64)=false)(h3:(x.1==7)=true)(h4:pu.getD x.2.toNat false=true):R=false:=by
 rw[<-h.eq,OD,hb,h6,h3,h4];rfl
theorem z0g(h:Gt c R (x::r) n o pu)(hb:OC c x n=false)(h6:decide (W (W (n-(takesR x.1).1)+(takesR x.1).2.1)>64)=false)(h2:(x.1==22)=false)(h3:(x.1==7)=true)(h4:pu.getD x.2.toNat false=false) :
  Gt c R r (W (W (n-(takesR x.1).1)+(takesR x.1).2.1)) o (pu.set x.2.toNat true):=by
 have h1:=h.eq
 rw[OD,hb,h6,h2,h3,h4]at h1
 exact⟨h1,by simpa using h.len,h.sm⟩
theorem z0h(h:Gt c R (x::r) n o pu)(hb:OC c x n=false)(h6:decide (W (W (n-(takesR x.1).1)+(takesR x.1).2.1)>64)=false)(h2:(x.1==22)=true)(h3:(x.1==7)=true)(h4:pu.getD x.2.toNat false=false) :
  Gt c R r (W (W (n-(takesR x.1).1)+(takesR x.1).2.1)) (W (o+1)) (pu.set x.2.toNat true):=by
 have e:x.1=7:=by simpa using h3
 rw[e]at h2;exact absurd h2 (by decide)
theorem z0i(h:Gt c R (x::r) n o pu)(hb:OC c x n=false)(h6:decide (W (W (n-(takesR x.1).1)+(takesR x.1).2.1)>64)=false)(h2:(x.1==22)=true)(h3:(x.1==7)=false) :
  Gt c R r (W (W (n-(takesR x.1).1)+(takesR x.1).2.1)) (W (o+1)) pu:=by
 have h1:=h.eq
 rw[OD,hb,h6,h2,h3]at h1
 exact⟨h1,h.len,h.sm⟩
theorem z0j(h:Gt c R (x::r) n o pu)(hb:OC c x n=false)(h6:decide (W (W (n-(takesR x.1).1)+(takesR x.1).2.1)>64)=false)(h2:(x.1==22)=false)(h3:(x.1==7)=false) :
  Gt c R r (W (W (n-(takesR x.1).1)+(takesR x.1).2.1)) o pu:=by
 have h1:=h.eq
 rw[OD,hb,h6,h2,h3]at h1
 exact⟨h1,h.len,h.sm⟩
theorem z0k(h:OC c x n=false):(takesR x.1).2.2=true/\(Jp c x.1).1<=x.2/\x.2<=(Jp c x.1).2/\(takesR x.1).1<=n:=by
 unfold OC Wj at h
 cases h1:(takesR x.1).2.2<;>cases h2:decide (x.2>=(Jp c x.1).1)<;>cases h3:decide (x.2<=(Jp c x.1).2)<;>cases h4:decide (n<(takesR x.1).1)<;>simp_all
theorem Tq(h:Gt c R (x::r) n o pu)(hb:OC c x n=false)(h3:(x.1==7)=true):0<=x.2/\x.2<pu.length:=by
 obtain⟨_,h1,h2,_⟩:=z0k hb
 have e:x.1=7:=by simpa using h3
 rw[e]at h1 h2
 have h1:(0:Int)<=x.2:=h1
 have h2:x.2<=W ((c.lines.length:Int)-1):=h2
 have:=h.sm
 rw[z97 (by omega) (by omega)]at h2
 have:=h.len
 omega
theorem Wp(h:Gt c R (x::r) n o pu)(hb:OC c x n=false)(h3:(x.1==7)=true):0<=x.2/\x.2<((c.lines.map Ln.cs).length:Int).toNat:=by
 have h1:=Tq h hb h3
 rw[h.len]at h1
 rw[List.length_map,Int.toNat_natCast];exact h1
theorem Tt(h:Gt c R (x::r) n o pu)(hb:OC c x n=false)(h3:(x.1==7)=true):(pu.map boolC)[0+x.2.toNat]? = some (boolC (pu.getD x.2.toNat false)):=by
 have h1:=Tq h hb h3
 have h2:x.2.toNat<pu.length:=by omega
 rw[Nat.zero_add,List.getElem?_map,List.getElem?_eq_getElem h2]
 simp[List.getD_eq_getElem?_getD,List.getElem?_eq_getElem h2]
end
end Go.Fw.Mac
namespace Go.Fw
variable [af]
end Go.Fw
namespace Go.Fw.Mac
open Go.Fw
instance:Inhabited Bd:=⟨⟨[],0,0⟩⟩
instance:Inhabited Ln:=⟨⟨[],0,0,0⟩⟩
section
variable {c : Cd} {par inn sid : List Int} {lines : List (List Int)}
end
section
variable {c : Cd} {par inn sid : List Int} {lines : List (List Int)}
end
end Go.Fw.Mac
namespace Go.Fw
variable [af]
end Go.Fw
namespace Go.Fw.Mac
open Go.Fw
theorem Yh{n m:Nat}(h:((n:Int) != (m:Int))=false):n=m:=by simp at h;omega
section
variable {c : Cd} {par inn sid : List Int} {lines : List (List Int)}
end
section
variable {c : Cd} {par inn sid : List Int} {lines : List (List Int)}
end
section
variable {c : Cd} {ps : List (List Int)} {inn sid : List Int} {s : Sta} {n : Nat}
end
end Go.Fw.Mac
namespace Go.Fw
variable [af]
theorem BrI.ff_of{c:Bool}{p q:Prop}(h:c=false)(hq:q):BrI c p q:=by subst h;exact BrI.ff hq
theorem BrI.tt_of{c:Bool}{p q:Prop}(h:c=true)(hp:p):BrI c p q:=by subst h;exact BrI.tt hp
end Go.Fw
namespace Go.Fw.Mac
open Go.Fw
variable [af]
section
variable {c : Cd} {ps : List (List Int)} {inn sid : List Int} {s : Sta} {i k : Nat} {x : List Int} {r : List (List Int)}
end
end Go.Fw.Mac
namespace Go.Fw.Mac
open Go.Fw
section
variable {c : Cd} {s : Sta} {ps : List (List Int)} {inn sid : List Int} {n fuel : Int}
end
section
variable {c : Cd} {par inn sid inn' sid' : List Int}
end
section
variable {c : Cd} {ps ps' : List (List Int)} {inn sid inn' sid' : List Int} {s : Sta}
end
section
variable {c : Cd} {s : Sta} {ps : List (List Int)} {inn sid : List Int} {n fuel : Int}
end
section
variable {c : Cd} {par inn sid : List Int} {lines : List (List Int)} {v w : Int}
end
def sameZ:List (Int×Int)->Bool
 | []=>true
 |(x,y)::r=>bif x != y then false else sameZ r
def sameI(a b:List Int):Bool:=bif (a.length:Int) != (b.length:Int)then false else sameZ (a.zip b)
def sameL:List (List Int×List Int)->Bool
 | []=>true
 |(x,y)::r=>bif !(sameI x y)then false else sameL r
def sameSt(a b:Sta):Bool:=bif (bif !(sameI a.values b.values)then true else(a.lines.length:Int) != (b.lines.length:Int))then false else sameL (a.lines.zip b.lines)
section
variable {a b : List Int} {x : Int × Int} {r : List (Int × Int)} {t : Bool}
theorem sameZ_next(h:t=sameZ (x::r))(hb:(x.1 != x.2)=false):t=sameZ r:=by rw[h,sameZ,hb];rfl
theorem sameI_len(h:((a.length:Int) != (b.length:Int))=true):sameI a b=false:=by unfold sameI;rw[h];rfl
theorem sameI_no(heq:a.length=b.length)(hI:sameZ (a.zip b)=sameZ (x::r))(h:(x.1 != x.2)=true):sameI a b=false:=by
 unfold sameI;rw[heq,hI,sameZ,h];simp
theorem sameI_yes(heq:a.length=b.length)(hI:sameZ (a.zip b)=sameZ []):sameI a b=true:=by
 unfold sameI;rw[heq,hI,sameZ];simp
end
theorem Gu:∀{a b:List Int},a.length=b.length->(sameZ (a.zip b)=true↔a=b)
 | [],[],_=>by simp[sameZ]
 | [],_::_,h=>by simp at h
 |_::_,[],h=>by simp at h
 |x::a,y::b,h=>by
  have ih:=@Gu a b (by simpa using h)
  rw[List.zip_cons_cons,sameZ]
  by_cases e:x=y
  ·subst e;simp[ih]
  ·have:(x != y)=true:=by simpa using e
   rw[this];simp[e]
theorem Gv{a b:List Int}:sameI a b=true↔a=b:=by
 unfold sameI
 by_cases h:a.length=b.length
 ·rw[h];simp only[bne_self_eq_false,cond_false];exact Gu h
 ·have:((a.length:Int) != (b.length:Int))=true:=by simp;omega
  rw[this];simp only[cond_true]
  exact⟨λh=>absurd h (by decide),λe=>absurd (congrArg List.length e) h⟩
section
variable {a b : Sta} {x : List Int × List Int} {r : List (List Int × List Int)} {t : Bool}
theorem sameL_next(h:t=sameL (x::r))(hb:(!(sameI x.1 x.2))=false):t=sameL r:=by rw[h,sameL,hb];rfl
theorem sameSt_len(h:(bif !(sameI a.values b.values)then true else(a.lines.length:Int) != (b.lines.length:Int))=false):sameI a.values b.values=true/\a.lines.length=b.lines.length:=by
 cases h1:sameI a.values b.values with
 |false=>rw[h1]at h;simp at h
 |true=>rw[h1]at h;exact⟨rfl,Yh h⟩
theorem sameSt_no(h:(bif !(sameI a.values b.values)then true else(a.lines.length:Int) != (b.lines.length:Int))=true):sameSt a b=false:=by unfold sameSt;rw[h];rfl
theorem sameSt_bad(heq:sameI a.values b.values=true/\a.lines.length=b.lines.length)(hI:sameL (a.lines.zip b.lines)=sameL (x::r))(h:(!(sameI x.1 x.2))=true):sameSt a b=false:=by
 unfold sameSt;rw[heq.1,heq.2,hI,sameL,h];simp
theorem sameSt_yes(heq:sameI a.values b.values=true/\a.lines.length=b.lines.length)(hI:sameL (a.lines.zip b.lines)=sameL []):sameSt a b=true:=by
 unfold sameSt;rw[heq.1,heq.2,hI,sameL];simp
end
theorem sF:∀{a b:List (List Int)},a.length=b.length->(sameL (a.zip b)=true↔a=b)
 | [],[],_=>by simp[sameL]
 | [],_::_,h=>by simp at h
 |_::_,[],h=>by simp at h
 |x::a,y::b,h=>by
  have ih:=@sF a b (by simpa using h)
  have e:=@Gv x y
  rw[List.zip_cons_cons,sameL]
  cases h1:sameI x y with
  |true=>rw[h1]at e;simp[ih,e.1 rfl]
  |false=>
   rw[h1]at e
   have:x≠y:=λh=>by simpa using e.2 h
   simp[this]
theorem sameSt_iff{a b:Sta}:sameSt a b=true↔a=b:=by
 obtain⟨v,l⟩:=a;obtain⟨v',l'⟩:=b
 have e:=@Gv v v'
 unfold sameSt
 simp only[Sta.mk.injEq]
 cases h1:sameI v v' with
 |false=>
  rw[h1]at e
  have:v≠v':=λh=>by simpa using e.2 h
  simp[this]
 |true=>
  rw[h1]at e
  have e:=e.1 rfl
  simp only[Bool.not_true,cond_false,e,true_and]
  by_cases h:l.length=l'.length
  ·rw[h];simp only[bne_self_eq_false,cond_false];exact sF h
  ·have:((l.length:Int) != (l'.length:Int))=true:=by simp;omega
   rw[this];simp only[cond_true]
   exact⟨λh=>absurd h (by decide),λe=>absurd (congrArg List.length e) h⟩
end Go.Fw.Mac
