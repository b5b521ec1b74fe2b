/- Contracts: package lower: how much of the stack an expression needs. -/
import Derived.Test.YthpbakljheeabaaGreatDoorZMX
import Derived.Test.YthpbakljheeabaaGreatDoorZGA
set_option linter.unusedSectionVars false
set_option linter.unusedSimpArgs false
set_option linter.unusedVariables false
set_option maxHeartbeats 2000000
namespace Go.Proofs.YthpbakljheeabaaGreatDoor
open Go.Fw Go.Fw.Ref15 Go.Fw.Rg Go.Fw.Tl Go.Fw.Lw
set_option maxRecDepth 10000
variable [ah]
theorem XC(ns:List Int):PCall Tryz.prog 46 [.sl 1 (((ns.map eU).drop 0).take ns.length)] (.ret (.tuple [.i (aV ns).1,.i (aV ns).2])):=by
 rw[List.drop_zero,List.take_of_length_le (by simp)];exact uD ns
theorem Pi(x:Ex)(hN:Ref15.nodes x<=512)(hw:∃p n,wfX p n x=true):PCall Tryz.prog 52 [x.d] (.ret (.i (ae x))):=by
 revert hw;revert hN;revert x;refine Ex.ind λx ih hN hw=>?_
 refine dA Tryz.func52 λhf=>?_
 obtain⟨p,n,hw⟩:=hw
 have hE:=Ref15.nodes_eq x
 have hL:=Ref15.len_nodes x.l
 have hlen:x.l.length<=9223372036854775807:=by omega
 have hp:=Xj hw hN
 have hnl:(bW x.l).length<=1000:=by rw[jd,List.length_map];omega
 have ihc:∀y∈x.l,PCall Tryz.prog 52 [y.d] (.ret (.i (ae y))):=λy hy=>ih y hy (by have:=qj hy;omega) ⟨p,n,mg hw hy⟩
 clear hf
 repeat' ((try(conv=>whnf))<;>first
  |((have hq:=Xh hI0);subst hq)
  |exact trivial
  |exact aj hd3 ‹_›
  |exact aj hd0 ‹_›
  |((refine dF hd3 ?_ ?_);(assumption))
  |((refine bV hd3 ?_ ?_);(assumption))
  |refine jB hd0 ?_
  |refine fV hd0 ?_
  |refine BrI.intro (λh=>?_) (λh=>?_)
  |((refine wZ ?_ ?_ ?_ ?_ ?_ ?_ ?_ ?_);exact rfl;exact rfl;exact rfl;(rw[List.length_map];exact Nat.le_refl _);exact rfl;(have:=hI0.2;omega);(exact(by decide:1<=1073741824)))
  |((refine lG ?_ ?_ ?_ ?_ ?_);exact rfl;exact rfl;exact rfl;(first |exact(EG h hp).2.1 |exact(NG ‹(((bW x.l).length:Int)==0)=false› hp).1 |exact⟨Int.natCast_nonneg _,by have:=hl3;rw[List.length_set]at this;omega⟩))
  |((refine kC ?_ ?_ ?_ ?_ ?_ ?_ ?_);exact rfl;exact rfl;rotate_left 2;(first |exact(EG h hp).2.2.1 |exact Xl hd3);exact rfl)
  |((refine jC ?_ ?_ ?_ ?_ ?_ ?_ ?_ ?_ ?_);exact rfl;exact rfl;exact rfl;exact rfl;exact jm rfl;exact rfl;rotate_left;exact(NG ‹(((bW x.l).length:Int)==0)=false› hp).2)
  |(exact Xk)
  |(exact z1u _ rfl)
  |(exact nT)
  |((refine au.mk 0 ?_);refine⟨aF (x.l) 13 (λ(q:(Nat)×(List Int))=>match q with |(ver,ns)=>[(3,.own 21 ver 1 0 ns.length)]) (λ(q:(Nat)×(List Int))=>match q with |(ver,ns)=>[(21,.arr ver 1 (ns.map eU))]) [11,12] (λi0 r0 q=>match q with |(ver,ns)=>ns++bW r0=bW x.l/\ns.length=i0),?_⟩;refine af ((0),([])) ?_ ?_ (λi0 ⟨ver,ns⟩ hd0 hI0=>?_) (λi0 x0 r0 ⟨ver,ns⟩ hd0 hl0 hI0=>?_))
  |(refine ag hd0 ((ver+1),(ns++[ae x0])) ?_ ?_)
  |((refine au.mk 3 ?_);have hz3:((bW x.l).set (aV (bW x.l)).2.toNat 1).length=(bW x.l).length:=(List.length_set ..);have hlen3:((bW x.l).set (aV (bW x.l)).2.toNat 1).length<=9223372036854775807:=(by rw[List.length_set];omega);refine⟨aF ((bW x.l).set (aV (bW x.l)).2.toNat 1) 50 (λ(m:(Int))=>[(6,.data (.val (.int .i64 m)))]) (λ(m:(Int))=>[(21,.arr ver 1 (((bW x.l).set (aV (bW x.l)).2.toNat 1).map eU))]) [48,49] (λi3 r3 m=>needS r3 i3 m=needS ((bW x.l).set (aV (bW x.l)).2.toNat 1) 0 (aV (bW x.l)).1),?_⟩;refine af ((aV (bW x.l)).1) ?_ ?_ (λi3 (m:(Int)) hd3 hI3=>?_) (λi3 x3 r3 (m:(Int)) hd3 hl3 hI3=>?_))
  |(refine ag hd3 ?_ ?_ ?_)
  |((refine ai ?_ ?_ ?_);rotate_left;(exact ihc _ (bn hd0)))
  |((refine zG ?_ ?_);exact rfl)
  |((refine Ry ?_ ?_ ?_);rotate_left;(exact XC _))
  |(refine aZ.l _ ?_)
  |((refine fE ?_ ?_ ?_ ?_)<;>exact rfl)
  |((refine ay ?_ ?_ ?_ ?_ ?_);exact rfl;exact rfl;rotate_left;(exact dS hd0))
  |((refine aK ?_ ?_);exact rfl)
  |(refine fA ?_;conv=>whnf)
  |(refine And.intro ?_ ?_)
  |exact @rfl AV _
  |fail)
 all_goals first
  |(rfl)
  |((exact(Hw hI0).1))
  |((exact(Hw hI0).2))
  |((simp;done))
  |((exact congrArg D.i ((nS x).trans (z1p h)).symm))
  |((exact congrArg D.i ((nS x).trans (z1q h)).symm))
  |((refine congrArg D.i ?_;rw[nS,z1r h,(EG h hp).2.2.2]))
  |((refine congrArg D.i ?_;rw[nS,z1s ‹_› ‹_› ‹_›,<-hI3];first |done |rfl))
  |((exact O7 hI3 hd3 (by rw[List.length_set];exact hnl) (z1t _ hp)))
  |skip
end Go.Proofs.YthpbakljheeabaaGreatDoor
namespace Go.Proofs.YthpbakljheeabaaGreatDoor
open Go.Fw Go.Fw.Ref15 Go.Fw.Rg Go.Fw.Tl Go.Fw.Lw Go.Fw.Mac
set_option maxRecDepth 10000
variable [ah]
abbrev doD:List D:=[.val .nilFunc,.fn 25 [],.val .nilFunc,.fn 49 [.ptr [.i 2]],.fn 49 [.ptr [.i 3]],.fn 28 [],.fn 50 [.ptr [.i 8]],.fn 50 [.ptr [.i 9]],.fn 50 [.ptr [.i 10]],.fn 50 [.ptr [.i 11]],.fn 50 [.ptr [.i 12]],.fn 51 [.ptr [.i 13]],.fn 51 [.ptr [.i 14]],.fn 50 [.ptr [.i 15]],.fn 50 [.ptr [.i 16]],.fn 51 [.ptr [.i 17]],.fn 31 [],.fn 51 [.ptr [.i 19]],.fn 50 [.ptr [.i 20]],.fn 32 []]
abbrev aY(p:Pr)(ins:Ins)(n:Int)(b c:Nat):List AV:=[.data (.i p.latency),.data (.i p.tail),.data (.sl 3 (p.params.map Bd.cs)),.data (.sl 3 (p.states.map Bd.cs)),.data (.sl 4 (p.lines.map Ln.cs)),.data (.sl 1 ((p.tables.map Tb.values).map lnC)),.data (.i n),.gs b 2 (List.map iT ins),.map c,.data (.val .nilFunc),.data (.fn 25 []),.data (.val .nilFunc),.data (.fn 49 [.ptr [.i 2]]),.data (.fn 49 [.ptr [.i 3]]),.data (.fn 28 []),.data (.fn 50 [.ptr [.i 8]]),.data (.fn 50 [.ptr [.i 9]]),.data (.fn 50 [.ptr [.i 10]]),.data (.fn 50 [.ptr [.i 11]]),.data (.fn 50 [.ptr [.i 12]]),.data (.fn 51 [.ptr [.i 13]]),.data (.fn 51 [.ptr [.i 14]]),.data (.fn 50 [.ptr [.i 15]]),.data (.fn 50 [.ptr [.i 16]]),.data (.fn 51 [.ptr [.i 17]]),.data (.fn 31 []),.data (.fn 51 [.ptr [.i 19]]),.data (.fn 50 [.ptr [.i 20]]),.data (.fn 32 [])]
abbrev XOk(p:Pr)(R:List (Int×Int))(y:Ex):Prop:=∀(ins:Ins) (n:Int),2 * ins.length+3 * Ref15.nodes y<=2000000->0<=n->n+Ref15.nodes y<=1000000 ->
 LCall Tryz.prog 33 [.ptr 1000000 0,.data y.d] [(1000000,.cells (aY p ins n 1000001 1000002)),(1000001,.tok 2 (List.map iT ins).length),(1000002,.map false [.int .i64] (List.map iiD R))] (.ret (.data (.tuple []))) [(1000000,.cells (aY p (ins++(aU R y n).1) (aU R y n).2 1000001 1000002)),(1000001,.tok 2 (List.map iT (ins++(aU R y n).1)).length),(1000002,.map false [.int .i64] (List.map iiD R))]
theorem dJ(p:Pr)(R:List (Int×Int))(ins:Ins)(n:Int)(op a:Int)(hi:ins.length<=1073741823):LCall Tryz.prog 26 [.ptr 1000000 0,.data (.i op),.data (.i a)] [(1000000,.cells (aY p ins n 1000001 1000002)),(1000001,.tok 2 (List.map iT ins).length),(1000002,.map false [.int .i64] (List.map iiD R))] (.ret (.data (.tuple []))) [(1000000,.cells (aY p (ins++[(op,a)]) n 1000001 1000002)),(1000001,.tok 2 (List.map iT (ins++[(op,a)])).length),(1000002,.map false [.int .i64] (List.map iiD R))]:=by
 refine dX Tryz.func26 ?_
 repeat' ((try(conv=>whnf))<;>first
  |exact trivial
  |((refine aI ?_);refine fin_step' [(1000000,1000000),(1000001,1000001),(1000002,1000002)] rfl ?_ ?_)
  |(refine aZ.l _ ?_)
  |((refine app_step' ?_ ?_ ?_ ?_ ?_ ?_ ?_);exact rfl;exact rfl;exact rfl;exact rfl)
  |(refine And.intro ?_ ?_)
  |((refine jl ?_ ?_);exact rfl;(first |skip))
  |((refine bF ?_);refine gp ?_ ?_ ?_;exact rfl;exact rfl;(first |skip))
  |exact @rfl AV _
  |exact jm rfl
  |fail)
 all_goals first
  |((rw[List.length_map];omega))
  |((exact fK (x:=(op,a))))
  |skip
theorem uJ(p:Pr)(R:List (Int×Int))(ins:Ins)(n:Int)(hn:0<=n/\n<=1000000):LCall Tryz.prog 34 [.ptr 1000000 0] [(1000000,.cells (aY p ins n 1000001 1000002)),(1000001,.tok 2 (List.map iT ins).length),(1000002,.map false [.int .i64] (List.map iiD R))] (.ret (.data (.i n))) [(1000000,.cells (aY p ins (n+1) 1000001 1000002)),(1000001,.tok 2 (List.map iT ins).length),(1000002,.map false [.int .i64] (List.map iiD R))]:=by
 refine dX Tryz.func34 ?_
 repeat' ((try(conv=>whnf))<;>first
  |exact trivial
  |(exact congrArg D.i (z6m hn))
  |(exact congrArg D.i (z9e hn))
  |((refine aI ?_);refine fin_step' [(1000000,1000000),(1000001,1000001),(1000002,1000002)] rfl ?_ ?_)
  |(refine And.intro ?_ ?_)
  |((refine bF ?_);refine gp ?_ ?_ ?_;exact rfl;exact rfl;(first |exact rfl |skip))
  |exact @rfl AV _
  |fail)
 all_goals first
  |skip
theorem UY(op:Int)  : PCall Tryz.prog 27 [.i op] (.ret (.fn 49 [.ptr [.i op]])):=by
 refine iH tok hmix ⟨[1],[]⟩ Tryz.func27 rfl (by kernel_rfl) (by kernel_rfl) (by kernel_rfl) λhf=>?_
 clear hf
 repeat' ((try(conv=>whnf))<;>first
  |((refine au.mk 1 ?_);refine⟨⟨Unit,λ_=>[(1,.data (.ptr [.i op]))],λ_=>[],[],λ_=>True,λ_=>0⟩,?_,λ_ _=>?_⟩)
  |(refine⟨(),trivial,?_⟩)
  |exact trivial
  |(refine fA ?_;conv=>whnf)
  |(refine And.intro ?_ ?_)
  |exact @rfl AV _
  |fail)
 all_goals first
  |(rfl)
  |skip
theorem Kw(op:Int)  : PCall Tryz.prog 29 [.i op] (.ret (.fn 50 [.ptr [.i op]])):=by
 refine iH tok hmix ⟨[1],[]⟩ Tryz.func29 rfl (by kernel_rfl) (by kernel_rfl) (by kernel_rfl) λhf=>?_
 clear hf
 repeat' ((try(conv=>whnf))<;>first
  |((refine au.mk 1 ?_);refine⟨⟨Unit,λ_=>[(1,.data (.ptr [.i op]))],λ_=>[],[],λ_=>True,λ_=>0⟩,?_,λ_ _=>?_⟩)
  |(refine⟨(),trivial,?_⟩)
  |exact trivial
  |(refine fA ?_;conv=>whnf)
  |(refine And.intro ?_ ?_)
  |exact @rfl AV _
  |fail)
 all_goals first
  |(rfl)
  |skip
theorem H5(op:Int)  : PCall Tryz.prog 30 [.i op] (.ret (.fn 51 [.ptr [.i op]])):=by
 refine iH tok hmix ⟨[1],[]⟩ Tryz.func30 rfl (by kernel_rfl) (by kernel_rfl) (by kernel_rfl) λhf=>?_
 clear hf
 repeat' ((try(conv=>whnf))<;>first
  |((refine au.mk 1 ?_);refine⟨⟨Unit,λ_=>[(1,.data (.ptr [.i op]))],λ_=>[],[],λ_=>True,λ_=>0⟩,?_,λ_ _=>?_⟩)
  |(refine⟨(),trivial,?_⟩)
  |exact trivial
  |(refine fA ?_;conv=>whnf)
  |(refine And.intro ?_ ?_)
  |exact @rfl AV _
  |fail)
 all_goals first
  |(rfl)
  |skip
theorem XD(p:Pr)(R:List (Int×Int))(ins:Ins)(n:Int)(x:Ex)(hi:ins.length<=1073741823):LCall Tryz.prog 25 [.ptr 1000000 0,.data x.d] [(1000000,.cells (aY p ins n 1000001 1000002)),(1000001,.tok 2 (List.map iT ins).length),(1000002,.map false [.int .i64] (List.map iiD R))] (.ret (.data (.tuple []))) [(1000000,.cells (aY p (ins++[(1,x.n)]) n 1000001 1000002)),(1000001,.tok 2 (List.map iT (ins++[(1,x.n)])).length),(1000002,.map false [.int .i64] (List.map iiD R))]:=by
 refine dX Tryz.func25 ?_
 repeat' ((try(conv=>whnf))<;>first
  |exact trivial
  |((refine lent_step' [(1000000,1000000),(1000001,1000001),(1000002,1000002)] (dJ p R ins n 1 x.n hi) ?_ ?_ ?_ ?_);rotate_left 0;exact rfl;(exact⟨rfl,rfl,rfl,trivial⟩);exact rfl)
  |((refine aI ?_);refine fin_step' [(1000000,1000000),(1000001,1000001),(1000002,1000002)] rfl ?_ ?_)
  |(refine And.intro ?_ ?_)
  |((refine bF ?_);refine gp ?_ ?_ ?_;exact rfl;exact rfl;(first |exact rfl |skip))
  |exact @rfl AV _
  |fail)
 all_goals first
  |skip
theorem CX(p:Pr)(R:List (Int×Int))(ins:Ins)(n:Int)(op:Int)(x:Ex)(hi:ins.length<=1073741823):LCall Tryz.prog 49 [.ptr 1000000 0,.data x.d,.data (.ptr [.i op])] [(1000000,.cells (aY p ins n 1000001 1000002)),(1000001,.tok 2 (List.map iT ins).length),(1000002,.map false [.int .i64] (List.map iiD R))] (.ret (.data (.tuple []))) [(1000000,.cells (aY p (ins++[(op,x.index)]) n 1000001 1000002)),(1000001,.tok 2 (List.map iT (ins++[(op,x.index)])).length),(1000002,.map false [.int .i64] (List.map iiD R))]:=by
 refine dX Tryz.func49 ?_
 repeat' ((try(conv=>whnf))<;>first
  |exact trivial
  |((refine lent_step' [(1000000,1000000),(1000001,1000001),(1000002,1000002)] (dJ p R ins n op x.index hi) ?_ ?_ ?_ ?_);rotate_left 0;exact rfl;(exact⟨rfl,rfl,rfl,trivial⟩);exact rfl)
  |((refine aI ?_);refine fin_step' [(1000000,1000000),(1000001,1000001),(1000002,1000002)] rfl ?_ ?_)
  |(refine And.intro ?_ ?_)
  |((refine bF ?_);refine gp ?_ ?_ ?_;exact rfl;exact rfl;(first |exact rfl |skip))
  |exact @rfl AV _
  |fail)
 all_goals first
  |skip
theorem XE(p:Pr)(R:List (Int×Int))(ins:Ins)(n:Int)(x:Ex)(hi:ins.length<=1073741823):LCall Tryz.prog 28 [.ptr 1000000 0,.data x.d] [(1000000,.cells (aY p ins n 1000001 1000002)),(1000001,.tok 2 (List.map iT ins).length),(1000002,.map false [.int .i64] (List.map iiD R))] (.ret (.data (.tuple []))) [(1000000,.cells (aY p (ins++[(4,(lkA x.index R).getD 0)]) n 1000001 1000002)),(1000001,.tok 2 (List.map iT (ins++[(4,(lkA x.index R).getD 0)])).length),(1000002,.map false [.int .i64] (List.map iiD R))]:=by
 refine dX Tryz.func28 ?_
 repeat' ((try(conv=>whnf))<;>first
  |(refine Ns rfl (λv hv=>?_) (λhv=>?_))
  |exact trivial
  |((refine lent_step' [(1000000,1000000),(1000001,1000001),(1000002,1000002)] (dJ p R ins n 4 v hi) ?_ ?_ ?_ ?_);rotate_left 0;exact rfl;(exact⟨rfl,rfl,rfl,trivial⟩);exact rfl)
  |((refine lent_step' [(1000000,1000000),(1000001,1000001),(1000002,1000002)] (dJ p R ins n 4 0 hi) ?_ ?_ ?_ ?_);rotate_left 0;exact rfl;(exact⟨rfl,rfl,rfl,trivial⟩);exact rfl)
  |((refine aI ?_);refine fin_step' [(1000000,1000000),(1000001,1000001),(1000002,1000002)] rfl ?_ ?_)
  |((refine ak ?_ ?_);kernel_rfl)
  |(refine And.intro ?_ ?_)
  |((refine jl ?_ ?_);exact rfl;(first |skip))
  |((refine bF ?_);refine gp ?_ ?_ ?_;exact rfl;exact rfl;(first |skip))
  |exact @rfl AV _
  |fail)
 all_goals first
  |(rfl)
  |((simp[hv];done))
  |skip
theorem H6(p:Pr)(R:List (Int×Int))(ins:Ins)(n:Int)(op k i m:Int)(nm:List UInt8)(y:Ex)(hy:XOk p R y)(hz:Sz (aU R y) (3 * Ref15.nodes y-1) (Ref15.nodes y))(hi:2 * ins.length+3 * Ref15.nodes y<=2000000)(h0:0<=n)(hn:n+Ref15.nodes y<=1000000)(him:IntKind.i64.wrap (i+m)=i+m):LCall Tryz.prog 50 [.ptr 1000000 0,.data (Ex.mk k nm i m [y]).d,.data (.ptr [.i op])] [(1000000,.cells (aY p ins n 1000001 1000002)),(1000001,.tok 2 (List.map iT ins).length),(1000002,.map false [.int .i64] (List.map iiD R))] (.ret (.data (.tuple []))) [(1000000,.cells (aY p (ins++(jE (aU R y) (dw op (i+m)) n).1) (jE (aU R y) (dw op (i+m)) n).2 1000001 1000002)),(1000001,.tok 2 (List.map iT (ins++(jE (aU R y) (dw op (i+m)) n).1)).length),(1000002,.map false [.int .i64] (List.map iiD R))]:=by
 refine jJ Tryz.func50 λhf=>?_
 have hzn:=hz n
 clear hf
 repeat' ((try(conv=>whnf))<;>first
  |exact trivial
  |((refine ay ?_ ?_ ?_ ?_ ?_);exact rfl;exact rfl;rotate_left;exact O8)
  |((refine lent_step' [(1000000,1000000),(1000001,1000001),(1000002,1000002)] (hy ins n hi h0 hn) ?_ ?_ ?_ ?_);rotate_left 0;exact rfl;(exact⟨rfl,rfl,rfl,trivial⟩);exact rfl)
  |((refine lent_step' [(1000000,1000000),(1000001,1000001),(1000002,1000002)] (dJ p R (ins++(aU R y n).1) (aU R y n).2 op (IntKind.i64.wrap (i+m)) (by rw[List.length_append];omega)) ?_ ?_ ?_ ?_);rotate_left 0;exact rfl;(exact⟨rfl,rfl,rfl,trivial⟩);exact rfl)
  |((refine aI ?_);refine fin_step' [(1000000,1000000),(1000001,1000001),(1000002,1000002)] rfl ?_ ?_)
  |((refine aK ?_ ?_);exact rfl)
  |(refine And.intro ?_ ?_)
  |((refine jl ?_ ?_);exact rfl;(first |skip))
  |((refine bF ?_);refine gp ?_ ?_ ?_;exact rfl;exact rfl;(first |skip))
  |exact @rfl AV _
  |fail)
 all_goals first
  |(rfl)
  |((rw[him];simp[jE,dw];done))
  |skip
theorem uK(p:Pr)(R:List (Int×Int))(ins:Ins)(n:Int)(op k i m:Int)(nm:List UInt8)(a b ya yb:Ex)(na:PCall Tryz.prog 52 [a.d] (.ret (.i (ae a))))(nb:PCall Tryz.prog 52 [b.d] (.ret (.i (ae b))))(hA:0<=(aV [ae a,ae b]).2/\(Ex.css [a,b])[((aV [ae a,ae b]).2).toNat]? = some (Ex.cs ya))(hB:0<=IntKind.i64.wrap (1-(aV [ae a,ae b]).2)/\(Ex.css [a,b])[(IntKind.i64.wrap (1-(aV [ae a,ae b]).2)).toNat]? = some (Ex.cs yb))(ha:XOk p R ya)(hb:XOk p R yb)(za:Sz (aU R ya) (3 * Ref15.nodes ya-1) (Ref15.nodes ya))(zb:Sz (aU R yb) (3 * Ref15.nodes yb-1) (Ref15.nodes yb))(fa:fAt (dI R [a,b]) (aV [ae a,ae b]).2=aU R ya)(fb:fAt (dI R [a,b]) (1-(aV [ae a,ae b]).2)=aU R yb)(hi:2 * ins.length+3 * (Ref15.nodes ya+Ref15.nodes yb)<=2000000)(h0:0<=n)(hn:n+(Ref15.nodes ya+Ref15.nodes yb)<=1000000):LCall Tryz.prog 51 [.ptr 1000000 0,.data (Ex.mk k nm i m [a,b]).d,.data (.ptr [.i op])] [(1000000,.cells (aY p ins n 1000001 1000002)),(1000001,.tok 2 (List.map iT ins).length),(1000002,.map false [.int .i64] (List.map iiD R))] (.ret (.data (.tuple []))) [(1000000,.cells (aY p (ins++(uS op [ae a,ae b] (dI R [a,b]) n).1) (uS op [ae a,ae b] (dI R [a,b]) n).2 1000001 1000002)),(1000001,.tok 2 (List.map iT (ins++(uS op [ae a,ae b] (dI R [a,b]) n).1)).length),(1000002,.map false [.int .i64] (List.map iiD R))]:=by
 refine jJ Tryz.func51 λhf=>?_
 have z1:=za n
 have z2:=zb (aU R ya n).2
 clear hf
 repeat' ((try(conv=>whnf))<;>first
  |exact trivial
  |((refine ay ?_ ?_ ?_ ?_ ?_);exact rfl;exact rfl;rotate_left;(first |exact hA |exact hB |exact O8 |exact UT))
  |(exact congrArg D.i (z9f fa fb))
  |((refine ai ?_ ?_ ?_);rotate_left;(first |exact na |exact nb |exact uD [ae a,ae b]))
  |((refine lent_step' [(1000000,1000000),(1000001,1000001),(1000002,1000002)] (ha ins n (by omega) h0 (by omega)) ?_ ?_ ?_ ?_);rotate_left 0;exact rfl;(exact⟨rfl,rfl,rfl,trivial⟩);exact rfl)
  |((refine lent_step' [(1000000,1000000),(1000001,1000001),(1000002,1000002)] (hb (ins++(aU R ya n).1) (aU R ya n).2 (by rw[List.length_append];omega) (by omega) (by omega)) ?_ ?_ ?_ ?_);rotate_left 0;exact rfl;(exact⟨rfl,rfl,rfl,trivial⟩);exact rfl)
  |((refine lent_step' [(1000000,1000000),(1000001,1000001),(1000002,1000002)] (dJ p R (ins++(aU R ya n).1++(aU R yb (aU R ya n).2).1) (aU R yb (aU R ya n).2).2 op 0 (by rw[List.length_append,List.length_append];omega)) ?_ ?_ ?_ ?_);rotate_left 0;exact rfl;(exact⟨rfl,rfl,rfl,trivial⟩);exact rfl)
  |((refine aI ?_);refine fin_step' [(1000000,1000000),(1000001,1000001),(1000002,1000002)] rfl ?_ ?_)
  |(refine aZ.l _ ?_)
  |((refine aK ?_ ?_);exact rfl)
  |((refine ak ?_ ?_);kernel_rfl)
  |(refine And.intro ?_ ?_)
  |((refine jl ?_ ?_);exact rfl;(first |skip))
  |((refine bF ?_);refine gp ?_ ?_ ?_;exact rfl;exact rfl;(first |skip))
  |exact @rfl AV _
  |fail)
 all_goals first
  |((simp[uS,fa,fb,jE,dw];done))
  |skip
theorem XF(p:Pr)(R:List (Int×Int))(ins:Ins)(n:Int)(k i m:Int)(nm:List UInt8)(a b:Ex)(na:PCall Tryz.prog 52 [a.d] (.ret (.i (ae a))))(nb:PCall Tryz.prog 52 [b.d] (.ret (.i (ae b))))(ha:XOk p R a)(hb:XOk p R b)(za:Sz (aU R a) (3 * Ref15.nodes a-1) (Ref15.nodes a))(zb:Sz (aU R b) (3 * Ref15.nodes b-1) (Ref15.nodes b))(hi:2 * ins.length+3 * (Ref15.nodes a+Ref15.nodes b+1)<=2000000)(h0:0<=n)(hn:n+(Ref15.nodes a+Ref15.nodes b)<=1000000):LCall Tryz.prog 31 [.ptr 1000000 0,.data (Ex.mk k nm i m [a,b]).d] [(1000000,.cells (aY p ins n 1000001 1000002)),(1000001,.tok 2 (List.map iT ins).length),(1000002,.map false [.int .i64] (List.map iiD R))] (.ret (.data (.tuple []))) [(1000000,.cells (aY p (ins++(J6 [ae a,ae b] (dI R [a,b]) n).1) (J6 [ae a,ae b] (dI R [a,b]) n).2 1000001 1000002)),(1000001,.tok 2 (List.map iT (ins++(J6 [ae a,ae b] (dI R [a,b]) n).1)).length),(1000002,.map false [.int .i64] (List.map iiD R))]:=by
 refine jJ Tryz.func31 λhf=>?_
 have z1:=za n
 have z2:=zb (aU R a n).2
 have z3:=zb n
 have z4:=za (aU R b n).2
 clear hf
 repeat' ((try(conv=>whnf))<;>first
  |(have hd:=of_decide_eq_true h;clear h)
  |(have hd:=of_decide_eq_false h;clear h)
  |exact trivial
  |refine BrI.intro (λh=>?_) (λh=>?_)
  |((refine ay ?_ ?_ ?_ ?_ ?_);exact rfl;exact rfl;rotate_left;(first |exact O8 |exact UT))
  |(exact congrArg D.i (z1v hd))
  |(exact congrArg D.i (z1w hd))
  |((refine ai ?_ ?_ ?_);rotate_left;(first |exact na |exact nb))
  |((refine lent_step' [(1000000,1000000),(1000001,1000001),(1000002,1000002)] ((show LCall _ _ _ _ _ _ from(ha ins n (by omega) h0 (by omega)))) ?_ ?_ ?_ ?_);rotate_left 0;exact rfl;(exact⟨rfl,rfl,rfl,trivial⟩);exact rfl)
  |((refine lent_step' [(1000000,1000000),(1000001,1000001),(1000002,1000002)] (hb ins n (by omega) h0 (by omega)) ?_ ?_ ?_ ?_);rotate_left 0;exact rfl;(exact⟨rfl,rfl,rfl,trivial⟩);exact rfl)
  |((refine lent_step' [(1000000,1000000),(1000001,1000001),(1000002,1000002)] (hb (ins++(aU R a n).1) (aU R a n).2 (by rw[List.length_append];omega) (by omega) (by omega)) ?_ ?_ ?_ ?_);rotate_left 0;exact rfl;(exact⟨rfl,rfl,rfl,trivial⟩);exact rfl)
  |((refine lent_step' [(1000000,1000000),(1000001,1000001),(1000002,1000002)] (dJ p R (ins++(aU R a n).1++(aU R b (aU R a n).2).1) (aU R b (aU R a n).2).2 18 0 (by rw[List.length_append,List.length_append];omega)) ?_ ?_ ?_ ?_);rotate_left 0;exact rfl;(exact⟨rfl,rfl,rfl,trivial⟩);exact rfl)
  |((refine lent_step' [(1000000,1000000),(1000001,1000001),(1000002,1000002)] (dJ p R (ins++(aU R b n).1) (aU R b n).2 16 0 (by rw[List.length_append];omega)) ?_ ?_ ?_ ?_);rotate_left 0;exact rfl;(exact⟨rfl,rfl,rfl,trivial⟩);exact rfl)
  |((refine lent_step' [(1000000,1000000),(1000001,1000001),(1000002,1000002)] (ha (ins++(aU R b n).1++[(16,0)]) (aU R b n).2 (by rw[List.length_append,List.length_append];simp only[List.length_cons,List.length_nil];omega) (by omega) (by omega)) ?_ ?_ ?_ ?_);rotate_left 0;exact rfl;(exact⟨rfl,rfl,rfl,trivial⟩);exact rfl)
  |((refine lent_step' [(1000000,1000000),(1000001,1000001),(1000002,1000002)] (dJ p R (ins++(aU R b n).1++[(16,0)]++(aU R a (aU R b n).2).1) (aU R a (aU R b n).2).2 17 0 (by rw[List.length_append,List.length_append,List.length_append];simp only[List.length_cons,List.length_nil];omega)) ?_ ?_ ?_ ?_);rotate_left 0;exact rfl;(exact⟨rfl,rfl,rfl,trivial⟩);exact rfl)
  |((refine aI ?_);refine fin_step' [(1000000,1000000),(1000001,1000001),(1000002,1000002)] rfl ?_ ?_)
  |((refine aK ?_ ?_);exact rfl)
  |((refine ak ?_ ?_);kernel_rfl)
  |(refine And.intro ?_ ?_)
  |((refine jl ?_ ?_);exact rfl;(first |skip))
  |((refine bF ?_);refine gp ?_ ?_ ?_;exact rfl;exact rfl;(first |skip))
  |exact @rfl AV _
  |fail)
 all_goals first
  |((rw[sub_le hd];simp[jE,dw];done))
  |((rw[YU hd];simp[jE,dw];done))
  |skip
theorem Ky(p:Pr)(R:List (Int×Int))(ins:Ins)(n:Int)(k i m:Int)(nm:List UInt8)(a b c d y0:Ex)(j:Nat)(na:PCall Tryz.prog 52 [a.d] (.ret (.i (ae a))))(nb:PCall Tryz.prog 52 [b.d] (.ret (.i (ae b))))(nc:PCall Tryz.prog 52 [c.d] (.ret (.i (ae c))))(nd:PCall Tryz.prog 52 [d.d] (.ret (.i (ae d))))(hj:(aV [ae a,ae b,ae c,ae d]).2=(j:Int))(hy:[a,b,c,d][j]? = some y0)(hx:∀y ∈ [a,b,c,d],XOk p R y)(hz:∀y ∈ [a,b,c,d],Sz (aU R y) (3 * Ref15.nodes y-1) (Ref15.nodes y))(hi:2 * ins.length+3 * (Ref15.nodesL [a,b,c,d]+1)<=2000000)(h0:0<=n)(hn:n+(Ref15.nodesL [a,b,c,d]+1)<=1000000):LCall Tryz.prog 32 [.ptr 1000000 0,.data (Ex.mk k nm i m [a,b,c,d]).d] [(1000000,.cells (aY p ins n 1000001 1000002)),(1000001,.tok 2 (List.map iT ins).length),(1000002,.map false [.int .i64] (List.map iiD R))] (.ret (.data (.tuple []))) [(1000000,.cells (aY p (ins++(gIf [ae a,ae b,ae c,ae d] (dI R [a,b,c,d]) n).1) (gIf [ae a,ae b,ae c,ae d] (dI R [a,b,c,d]) n).2 1000001 1000002)),(1000001,.tok 2 (List.map iT (ins++(gIf [ae a,ae b,ae c,ae d] (dI R [a,b,c,d]) n).1)).length),(1000002,.map false [.int .i64] (List.map iiD R))]:=by
 refine jJ Tryz.func32 λhf=>?_
 have hm0:y0 ∈ [a,b,c,d]:=List.mem_of_getElem? hy
 have z0:=hz y0 hm0 (n+1)
 have hx0:=hx y0 hm0
 have fa:fAt (dI R [a,b,c,d]) (aV [ae a,ae b,ae c,ae d]).2=aU R y0:=mX R hj hy
 have hA:=z6o hj hy
 have hle0:Ref15.nodes y0<=Ref15.nodesL [a,b,c,d]:=mP hm0
 have hlen:[a,b,c,d].length<=9223372036854775807:=by simp
 clear hf
 repeat' ((try(conv=>whnf))<;>first
  |(obtain⟨hq1,hq2⟩:=hI0.fin;subst hq1;subst hq2)
  |exact trivial
  |exact aj hd0 ‹_›
  |((refine dF hd0 ?_ ?_);(exact rfl))
  |((refine bV hd0 ?_ ?_);(exact rfl))
  |refine BrI.intro (λh=>?_) (λh=>?_)
  |((refine ay ?_ ?_ ?_ ?_ ?_);exact rfl;exact rfl;rotate_left;(first |exact hA |exact O8 |exact UT |exact z9c |exact z9d |exact dS hd0))
  |(exact congrArg D.i (zad fa))
  |((refine au.mk 0 ?_);refine⟨aF ([a,b,c,d]) 49 (λ(q:(Ins)×(Int))=>match q with |(is,q)=>[]) (λ(q:(Ins)×(Int))=>match q with |(is,q)=>[(1000000,.cells (aY p is q 1000001 1000002)),(1000001,.tok 2 (List.map iT is).length),(1000002,.map false [.int .i64] (List.map iiD R))]) [0,5,6,47,48] (λi0 r0 q=>match q with |(is,q)=>ChI R (aV [ae a,ae b,ae c,ae d]).2 n (chT R (aV [ae a,ae b,ae c,ae d]).2 n [a,b,c,d] y0 ins) i0 r0 is q),?_⟩;refine af (((ins++(aU R y0 (n+1)).1++[(5,n)])),((aU R y0 (n+1)).2)) ?_ ?_ (λi0 ⟨is,q⟩ hd0 hI0=>?_) (λi0 x0 r0 ⟨is,q⟩ hd0 hl0 hI0=>?_))
  |(refine ag hd0 (?_,?_) ?_ ?_)
  |((refine ai ?_ ?_ ?_);rotate_left;(first |exact na |exact nb |exact nc |exact nd |exact uD [ae a,ae b,ae c,ae d]))
  |((refine lent_step' [(1000000,1000000),(1000001,1000001),(1000002,1000002)] (uJ p R ins n ⟨h0,by omega⟩) ?_ ?_ ?_ ?_);rotate_left 0;exact rfl;(exact⟨rfl,rfl,rfl,trivial⟩);exact rfl)
  |((refine lent_step' [(1000000,1000000),(1000001,1000001),(1000002,1000002)] (hx0 ins (n+1) (by omega) (by omega) (by omega)) ?_ ?_ ?_ ?_);rotate_left 0;exact rfl;(exact⟨rfl,rfl,rfl,trivial⟩);exact rfl)
  |((refine lent_step' [(1000000,1000000),(1000001,1000001),(1000002,1000002)] (dJ p R (ins++(aU R y0 (n+1)).1) (aU R y0 (n+1)).2 5 n (by rw[List.length_append];omega)) ?_ ?_ ?_ ?_);rotate_left 0;exact rfl;(exact⟨rfl,rfl,rfl,trivial⟩);exact rfl)
  |((refine lent_step' [(1000000,1000000),(1000001,1000001),(1000002,1000002)] (dJ p R is q 4 n (by have:=hI0.ilen;omega)) ?_ ?_ ?_ ?_);rotate_left 0;exact rfl;(exact⟨rfl,rfl,rfl,trivial⟩);exact rfl)
  |((refine lent_step' [(1000000,1000000),(1000001,1000001),(1000002,1000002)] (hx x0 (bn hd0) is q (hI0.fit h).1 (hI0.fit h).2.1 (hI0.fit h).2.2) ?_ ?_ ?_ ?_);rotate_left 0;exact rfl;(exact⟨rfl,rfl,rfl,trivial⟩);exact rfl)
  |((refine lent_step' [(1000000,1000000),(1000001,1000001),(1000002,1000002)] (dJ p R (chT R (aV [ae a,ae b,ae c,ae d]).2 n [a,b,c,d] y0 ins).1 (chT R (aV [ae a,ae b,ae c,ae d]).2 n [a,b,c,d] y0 ins).2 21 0 (by have:=hI0.ilen;omega)) ?_ ?_ ?_ ?_);rotate_left 0;exact rfl;(exact⟨rfl,rfl,rfl,trivial⟩);exact rfl)
  |((refine aI ?_);refine fin_step' [(1000000,1000000),(1000001,1000001),(1000002,1000002)] rfl ?_ ?_)
  |(refine aZ.l _ ?_)
  |((refine aK ?_ ?_);exact rfl)
  |((refine ak ?_ ?_);kernel_rfl)
  |(refine And.intro ?_ ?_)
  |((refine rP ?_ ?_ ?_);exact rfl;exact rfl;(first |exact rfl |skip))
  |((refine jl ?_ ?_);exact rfl;(first |skip))
  |((refine bF ?_);refine gp ?_ ?_ ?_;exact rfl;exact rfl;(first |skip))
  |exact @rfl AV _
  |fail)
 all_goals first
  |((exact Xm hj hy rfl (hz y0 hm0) hi h0 hn))
  |((exact hI0.at h))
  |((exact hI0.next h (hz x0 (bn hd0))))
  |((exact congrArg (List.map iT) (zac fa)))
  |skip
theorem w_at{p:Pr}{ins:Ins}{n:Int}{b c:Nat}{k:Int}{f:D}(h:doD[k.toNat]? = some f):(aY p ins n b c)[0+9+k.toNat * 1]? = some (.data f):=by
 rw[show 0+9+k.toNat * 1=k.toNat+9 by omega]
 show(List.map AV.data doD)[k.toNat]? = _
 rw[List.getElem?_map,h];rfl
theorem jw{α:Type}{x:α}{P:Prop}(h:none=some x):P:=by cases h
theorem XG(p:Pr)(R:List (Int×Int))(ins ins2:Ins)(n n2 op:Int)(x:Ex)(hk:0<=x.kind/\x.kind<20)(hv:doD[x.kind.toNat]? = some (.fn 25 []))(hc:LCall Tryz.prog 25 [.ptr 1000000 0,.data x.d] [(1000000,.cells (aY p ins n 1000001 1000002)),(1000001,.tok 2 (List.map iT ins).length),(1000002,.map false [.int .i64] (List.map iiD R))] (.ret (.data (.tuple []))) [(1000000,.cells (aY p ins2 n2 1000001 1000002)),(1000001,.tok 2 (List.map iT ins2).length),(1000002,.map false [.int .i64] (List.map iiD R))]):LCall Tryz.prog 33 [.ptr 1000000 0,.data x.d] [(1000000,.cells (aY p ins n 1000001 1000002)),(1000001,.tok 2 (List.map iT ins).length),(1000002,.map false [.int .i64] (List.map iiD R))] (.ret (.data (.tuple []))) [(1000000,.cells (aY p ins2 n2 1000001 1000002)),(1000001,.tok 2 (List.map iT ins2).length),(1000002,.map false [.int .i64] (List.map iiD R))]:=by
 refine dX Tryz.func33 ?_
 repeat' ((try(conv=>whnf))<;>first
  |(split;rotate_left;(rename_i hv2;exact jw (hv2.symm.trans (w_at hv)));(rename_i v hv2;obtain rfl:v=AV.data (D.fn 25 []):=Option.some.inj (hv2.symm.trans (w_at hv));clear hv2))
  |exact trivial
  |(refine And.intro hk ?_)
  |((refine lent_step' [(1000000,1000000),(1000001,1000001),(1000002,1000002)] (hc) ?_ ?_ ?_ ?_);rotate_left 0;exact rfl;(exact⟨rfl,rfl,rfl,trivial⟩);exact rfl)
  |((refine aI ?_);refine fin_step' [(1000000,1000000),(1000001,1000001),(1000002,1000002)] rfl ?_ ?_)
  |((refine ak ?_ ?_);kernel_rfl)
  |(refine And.intro ?_ ?_)
  |((refine bF ?_);refine gp ?_ ?_ ?_;exact rfl;exact rfl;(first |exact rfl |skip))
  |exact @rfl AV _
  |fail)
 all_goals first
  |(rfl)
  |skip
theorem XH(p:Pr)(R:List (Int×Int))(ins ins2:Ins)(n n2 op:Int)(x:Ex)(hk:0<=x.kind/\x.kind<20)(hv:doD[x.kind.toNat]? = some (.fn 28 []))(hc:LCall Tryz.prog 28 [.ptr 1000000 0,.data x.d] [(1000000,.cells (aY p ins n 1000001 1000002)),(1000001,.tok 2 (List.map iT ins).length),(1000002,.map false [.int .i64] (List.map iiD R))] (.ret (.data (.tuple []))) [(1000000,.cells (aY p ins2 n2 1000001 1000002)),(1000001,.tok 2 (List.map iT ins2).length),(1000002,.map false [.int .i64] (List.map iiD R))]):LCall Tryz.prog 33 [.ptr 1000000 0,.data x.d] [(1000000,.cells (aY p ins n 1000001 1000002)),(1000001,.tok 2 (List.map iT ins).length),(1000002,.map false [.int .i64] (List.map iiD R))] (.ret (.data (.tuple []))) [(1000000,.cells (aY p ins2 n2 1000001 1000002)),(1000001,.tok 2 (List.map iT ins2).length),(1000002,.map false [.int .i64] (List.map iiD R))]:=by
 refine dX Tryz.func33 ?_
 repeat' ((try(conv=>whnf))<;>first
  |(split;rotate_left;(rename_i hv2;exact jw (hv2.symm.trans (w_at hv)));(rename_i v hv2;obtain rfl:v=AV.data (D.fn 28 []):=Option.some.inj (hv2.symm.trans (w_at hv));clear hv2))
  |exact trivial
  |(refine And.intro hk ?_)
  |((refine lent_step' [(1000000,1000000),(1000001,1000001),(1000002,1000002)] (hc) ?_ ?_ ?_ ?_);rotate_left 0;exact rfl;(exact⟨rfl,rfl,rfl,trivial⟩);exact rfl)
  |((refine aI ?_);refine fin_step' [(1000000,1000000),(1000001,1000001),(1000002,1000002)] rfl ?_ ?_)
  |((refine ak ?_ ?_);kernel_rfl)
  |(refine And.intro ?_ ?_)
  |((refine bF ?_);refine gp ?_ ?_ ?_;exact rfl;exact rfl;(first |exact rfl |skip))
  |exact @rfl AV _
  |fail)
 all_goals first
  |(rfl)
  |skip
theorem H7(p:Pr)(R:List (Int×Int))(ins ins2:Ins)(n n2 op:Int)(x:Ex)(hk:0<=x.kind/\x.kind<20)(hv:doD[x.kind.toNat]? = some (.fn 49 [.ptr [.i op]]))(hc:LCall Tryz.prog 49 [.ptr 1000000 0,.data x.d,.data (.ptr [.i op])] [(1000000,.cells (aY p ins n 1000001 1000002)),(1000001,.tok 2 (List.map iT ins).length),(1000002,.map false [.int .i64] (List.map iiD R))] (.ret (.data (.tuple []))) [(1000000,.cells (aY p ins2 n2 1000001 1000002)),(1000001,.tok 2 (List.map iT ins2).length),(1000002,.map false [.int .i64] (List.map iiD R))]):LCall Tryz.prog 33 [.ptr 1000000 0,.data x.d] [(1000000,.cells (aY p ins n 1000001 1000002)),(1000001,.tok 2 (List.map iT ins).length),(1000002,.map false [.int .i64] (List.map iiD R))] (.ret (.data (.tuple []))) [(1000000,.cells (aY p ins2 n2 1000001 1000002)),(1000001,.tok 2 (List.map iT ins2).length),(1000002,.map false [.int .i64] (List.map iiD R))]:=by
 refine dX Tryz.func33 ?_
 repeat' ((try(conv=>whnf))<;>first
  |(split;rotate_left;(rename_i hv2;exact jw (hv2.symm.trans (w_at hv)));(rename_i v hv2;obtain rfl:v=AV.data (D.fn 49 [.ptr [.i op]]):=Option.some.inj (hv2.symm.trans (w_at hv));clear hv2))
  |exact trivial
  |(refine And.intro hk ?_)
  |((refine lent_step' [(1000000,1000000),(1000001,1000001),(1000002,1000002)] (hc) ?_ ?_ ?_ ?_);rotate_left 0;exact rfl;(exact⟨rfl,rfl,rfl,trivial⟩);exact rfl)
  |((refine aI ?_);refine fin_step' [(1000000,1000000),(1000001,1000001),(1000002,1000002)] rfl ?_ ?_)
  |((refine ak ?_ ?_);kernel_rfl)
  |(refine And.intro ?_ ?_)
  |((refine bF ?_);refine gp ?_ ?_ ?_;exact rfl;exact rfl;(first |exact rfl |skip))
  |exact @rfl AV _
  |fail)
 all_goals first
  |(rfl)
  |skip
theorem gy(p:Pr)(R:List (Int×Int))(ins ins2:Ins)(n n2 op:Int)(x:Ex)(hk:0<=x.kind/\x.kind<20)(hv:doD[x.kind.toNat]? = some (.fn 50 [.ptr [.i op]]))(hc:LCall Tryz.prog 50 [.ptr 1000000 0,.data x.d,.data (.ptr [.i op])] [(1000000,.cells (aY p ins n 1000001 1000002)),(1000001,.tok 2 (List.map iT ins).length),(1000002,.map false [.int .i64] (List.map iiD R))] (.ret (.data (.tuple []))) [(1000000,.cells (aY p ins2 n2 1000001 1000002)),(1000001,.tok 2 (List.map iT ins2).length),(1000002,.map false [.int .i64] (List.map iiD R))]):LCall Tryz.prog 33 [.ptr 1000000 0,.data x.d] [(1000000,.cells (aY p ins n 1000001 1000002)),(1000001,.tok 2 (List.map iT ins).length),(1000002,.map false [.int .i64] (List.map iiD R))] (.ret (.data (.tuple []))) [(1000000,.cells (aY p ins2 n2 1000001 1000002)),(1000001,.tok 2 (List.map iT ins2).length),(1000002,.map false [.int .i64] (List.map iiD R))]:=by
 refine dX Tryz.func33 ?_
 repeat' ((try(conv=>whnf))<;>first
  |(split;rotate_left;(rename_i hv2;exact jw (hv2.symm.trans (w_at hv)));(rename_i v hv2;obtain rfl:v=AV.data (D.fn 50 [.ptr [.i op]]):=Option.some.inj (hv2.symm.trans (w_at hv));clear hv2))
  |exact trivial
  |(refine And.intro hk ?_)
  |((refine lent_step' [(1000000,1000000),(1000001,1000001),(1000002,1000002)] (hc) ?_ ?_ ?_ ?_);rotate_left 0;exact rfl;(exact⟨rfl,rfl,rfl,trivial⟩);exact rfl)
  |((refine aI ?_);refine fin_step' [(1000000,1000000),(1000001,1000001),(1000002,1000002)] rfl ?_ ?_)
  |((refine ak ?_ ?_);kernel_rfl)
  |(refine And.intro ?_ ?_)
  |((refine bF ?_);refine gp ?_ ?_ ?_;exact rfl;exact rfl;(first |exact rfl |skip))
  |exact @rfl AV _
  |fail)
 all_goals first
  |(rfl)
  |skip
theorem lN(p:Pr)(R:List (Int×Int))(ins ins2:Ins)(n n2 op:Int)(x:Ex)(hk:0<=x.kind/\x.kind<20)(hv:doD[x.kind.toNat]? = some (.fn 51 [.ptr [.i op]]))(hc:LCall Tryz.prog 51 [.ptr 1000000 0,.data x.d,.data (.ptr [.i op])] [(1000000,.cells (aY p ins n 1000001 1000002)),(1000001,.tok 2 (List.map iT ins).length),(1000002,.map false [.int .i64] (List.map iiD R))] (.ret (.data (.tuple []))) [(1000000,.cells (aY p ins2 n2 1000001 1000002)),(1000001,.tok 2 (List.map iT ins2).length),(1000002,.map false [.int .i64] (List.map iiD R))]):LCall Tryz.prog 33 [.ptr 1000000 0,.data x.d] [(1000000,.cells (aY p ins n 1000001 1000002)),(1000001,.tok 2 (List.map iT ins).length),(1000002,.map false [.int .i64] (List.map iiD R))] (.ret (.data (.tuple []))) [(1000000,.cells (aY p ins2 n2 1000001 1000002)),(1000001,.tok 2 (List.map iT ins2).length),(1000002,.map false [.int .i64] (List.map iiD R))]:=by
 refine dX Tryz.func33 ?_
 repeat' ((try(conv=>whnf))<;>first
  |(split;rotate_left;(rename_i hv2;exact jw (hv2.symm.trans (w_at hv)));(rename_i v hv2;obtain rfl:v=AV.data (D.fn 51 [.ptr [.i op]]):=Option.some.inj (hv2.symm.trans (w_at hv));clear hv2))
  |exact trivial
  |(refine And.intro hk ?_)
  |((refine lent_step' [(1000000,1000000),(1000001,1000001),(1000002,1000002)] (hc) ?_ ?_ ?_ ?_);rotate_left 0;exact rfl;(exact⟨rfl,rfl,rfl,trivial⟩);exact rfl)
  |((refine aI ?_);refine fin_step' [(1000000,1000000),(1000001,1000001),(1000002,1000002)] rfl ?_ ?_)
  |((refine ak ?_ ?_);kernel_rfl)
  |(refine And.intro ?_ ?_)
  |((refine bF ?_);refine gp ?_ ?_ ?_;exact rfl;exact rfl;(first |exact rfl |skip))
  |exact @rfl AV _
  |fail)
 all_goals first
  |(rfl)
  |skip
theorem XI(p:Pr)(R:List (Int×Int))(ins ins2:Ins)(n n2 op:Int)(x:Ex)(hk:0<=x.kind/\x.kind<20)(hv:doD[x.kind.toNat]? = some (.fn 31 []))(hc:LCall Tryz.prog 31 [.ptr 1000000 0,.data x.d] [(1000000,.cells (aY p ins n 1000001 1000002)),(1000001,.tok 2 (List.map iT ins).length),(1000002,.map false [.int .i64] (List.map iiD R))] (.ret (.data (.tuple []))) [(1000000,.cells (aY p ins2 n2 1000001 1000002)),(1000001,.tok 2 (List.map iT ins2).length),(1000002,.map false [.int .i64] (List.map iiD R))]):LCall Tryz.prog 33 [.ptr 1000000 0,.data x.d] [(1000000,.cells (aY p ins n 1000001 1000002)),(1000001,.tok 2 (List.map iT ins).length),(1000002,.map false [.int .i64] (List.map iiD R))] (.ret (.data (.tuple []))) [(1000000,.cells (aY p ins2 n2 1000001 1000002)),(1000001,.tok 2 (List.map iT ins2).length),(1000002,.map false [.int .i64] (List.map iiD R))]:=by
 refine dX Tryz.func33 ?_
 repeat' ((try(conv=>whnf))<;>first
  |(split;rotate_left;(rename_i hv2;exact jw (hv2.symm.trans (w_at hv)));(rename_i v hv2;obtain rfl:v=AV.data (D.fn 31 []):=Option.some.inj (hv2.symm.trans (w_at hv));clear hv2))
  |exact trivial
  |(refine And.intro hk ?_)
  |((refine lent_step' [(1000000,1000000),(1000001,1000001),(1000002,1000002)] (hc) ?_ ?_ ?_ ?_);rotate_left 0;exact rfl;(exact⟨rfl,rfl,rfl,trivial⟩);exact rfl)
  |((refine aI ?_);refine fin_step' [(1000000,1000000),(1000001,1000001),(1000002,1000002)] rfl ?_ ?_)
  |((refine ak ?_ ?_);kernel_rfl)
  |(refine And.intro ?_ ?_)
  |((refine bF ?_);refine gp ?_ ?_ ?_;exact rfl;exact rfl;(first |exact rfl |skip))
  |exact @rfl AV _
  |fail)
 all_goals first
  |(rfl)
  |skip
theorem Kz(p:Pr)(R:List (Int×Int))(ins ins2:Ins)(n n2 op:Int)(x:Ex)(hk:0<=x.kind/\x.kind<20)(hv:doD[x.kind.toNat]? = some (.fn 32 []))(hc:LCall Tryz.prog 32 [.ptr 1000000 0,.data x.d] [(1000000,.cells (aY p ins n 1000001 1000002)),(1000001,.tok 2 (List.map iT ins).length),(1000002,.map false [.int .i64] (List.map iiD R))] (.ret (.data (.tuple []))) [(1000000,.cells (aY p ins2 n2 1000001 1000002)),(1000001,.tok 2 (List.map iT ins2).length),(1000002,.map false [.int .i64] (List.map iiD R))]):LCall Tryz.prog 33 [.ptr 1000000 0,.data x.d] [(1000000,.cells (aY p ins n 1000001 1000002)),(1000001,.tok 2 (List.map iT ins).length),(1000002,.map false [.int .i64] (List.map iiD R))] (.ret (.data (.tuple []))) [(1000000,.cells (aY p ins2 n2 1000001 1000002)),(1000001,.tok 2 (List.map iT ins2).length),(1000002,.map false [.int .i64] (List.map iiD R))]:=by
 refine dX Tryz.func33 ?_
 repeat' ((try(conv=>whnf))<;>first
  |(split;rotate_left;(rename_i hv2;exact jw (hv2.symm.trans (w_at hv)));(rename_i v hv2;obtain rfl:v=AV.data (D.fn 32 []):=Option.some.inj (hv2.symm.trans (w_at hv));clear hv2))
  |exact trivial
  |(refine And.intro hk ?_)
  |((refine lent_step' [(1000000,1000000),(1000001,1000001),(1000002,1000002)] (hc) ?_ ?_ ?_ ?_);rotate_left 0;exact rfl;(exact⟨rfl,rfl,rfl,trivial⟩);exact rfl)
  |((refine aI ?_);refine fin_step' [(1000000,1000000),(1000001,1000001),(1000002,1000002)] rfl ?_ ?_)
  |((refine ak ?_ ?_);kernel_rfl)
  |(refine And.intro ?_ ?_)
  |((refine bF ?_);refine gp ?_ ?_ ?_;exact rfl;exact rfl;(first |exact rfl |skip))
  |exact @rfl AV _
  |fail)
 all_goals first
  |(rfl)
  |skip
theorem XOk.of{p:Pr}{R:List (Int×Int)}{x:Ex}{G:GF}(hG:aU R x=G) (h:∀(ins:Ins) (n:Int),2 * ins.length+3 * Ref15.nodes x<=2000000->0<=n->n+Ref15.nodes x<=1000000 ->
  LCall Tryz.prog 33 [.ptr 1000000 0,.data x.d] [(1000000,.cells (aY p ins n 1000001 1000002)),(1000001,.tok 2 (List.map iT ins).length),(1000002,.map false [.int .i64] (List.map iiD R))] (.ret (.data (.tuple []))) [(1000000,.cells (aY p (ins++(G n).1) (G n).2 1000001 1000002)),(1000001,.tok 2 (List.map iT (ins++(G n).1)).length),(1000002,.map false [.int .i64] (List.map iiD R))]):XOk p R x:=by subst hG;exact h
theorem zae{p:Pr}{R:List (Int×Int)}{b:Nat}(hl:p.lines.length<=16/\p.tables.length<=16):∀x:Ex,V p b x->Ref15.nodes x<=512->XOk p R x:=by
 refine Ex.ind λx ih v hN=>?_
 have hw:=v.wf
 obtain⟨g1,g2,g3⟩:=bG hw
 have hE:=Ref15.nodes_eq x
 have hi:∀y∈x.l,XOk p R y:=λy hy=>ih y hy (v.part hy) (by have:=qj hy;omega)
 have hs:∀y∈x.l,Sz (aU R y) (3 * Ref15.nodes y-1) (Ref15.nodes y):=λy hy=>UK y (mg hw hy)
 have hnd:∀y∈x.l,PCall Tryz.prog 52 [y.d] (.ret (.i (ae y))):=λy hy=>Pi y (by have:=qj hy;omega) ⟨p,b,mg hw hy⟩
 have hpos:∀y∈x.l,1<=ae y:=λy hy=>uF y b p (mg hw hy)
 have hsum:=λhk=>z1x hl v hk
 have hG:=J7 R x
 rcases lg g1 (Int.natCast_nonneg _)with⟨h,hk⟩ |⟨h,hk⟩ |⟨h,hk⟩ |⟨h,hk⟩
 ·rcases hk with q |q |q |q |q
  ·exact XOk.of (G:=dw 1 x.n) (by rw[hG,q];rfl) λins n h1 h2 h3=>XG p R ins _ n _ 0 x (by omega) (by rw[q];rfl) (XD p R ins n x (by omega))
  ·rw[q]at g2;simp[qN]at g2
  ·exact XOk.of (G:=dw 2 x.index) (by rw[hG,q];rfl) λins n h1 h2 h3=>H7 p R ins _ n _ 2 x (by omega) (by rw[q];rfl) (CX p R ins n 2 x (by omega))
  ·exact XOk.of (G:=dw 3 x.index) (by rw[hG,q];rfl) λins n h1 h2 h3=>H7 p R ins _ n _ 3 x (by omega) (by rw[q];rfl) (CX p R ins n 3 x (by omega))
  ·exact XOk.of (G:=dw 4 ((lkA x.index R).getD 0)) (by rw[hG,q];rfl) λins n h1 h2 h3=>XH p R ins _ n _ 0 x (by omega) (by rw[q];rfl) (XE p R ins n x (by omega))
 ·obtain⟨y,e⟩:=len1 h
  have hsum:=hsum (by omega)
  obtain⟨k,nm,i,m,l⟩:=x
  obtain rfl:l = [y]:=e
  have hy:=hi y (List.mem_singleton.2 rfl)
  have hzy:=hs y (List.mem_singleton.2 rfl)
  have hN2:Ref15.nodesL [y]=Ref15.nodes y:=by rw[Ref15.nodesL,Ref15.nodesL];rfl
  have hE:Ref15.nodes (Ex.mk k nm i m [y])=1+Ref15.nodes y:=by rw[hE];show 1+Ref15.nodesL [y]=_;rw[hN2]
  have hsum:IntKind.i64.wrap (i+m)=i+m:=hsum
  have cc:∀(op:Int) (ins:Ins) (n:Int),2 * ins.length+3 * Ref15.nodes (Ex.mk k nm i m [y])<=2000000->0<=n->n+Ref15.nodes (Ex.mk k nm i m [y])<=1000000->_:=λop ins n h1 h2 h3=>H6 p R ins n op k i m nm y hy hzy (by omega) h2 (by omega) hsum
  have hG:aU R (Ex.mk k nm i m [y])=genC R k i m (bW [y]) (dI R [y]):=hG
  have hf:fAt (dI R [y]) 0=aU R y:=mX R (j:=0) rfl rfl
  rcases hk with q |q |q |q |q |q |q |q
  ·have q:k=6:=q
   exact XOk.of (G:=jE (aU R y) (dw 8 (i+m))) (by rw[hG,q,<-hf];rfl) λins n h1 h2 h3=>gy p R ins _ n _ 8 _ (by rw[show Ex.kind (Ex.mk k nm i m [y])=6 from q];decide) (by rw[show Ex.kind (Ex.mk k nm i m [y])=6 from q];rfl) (cc 8 ins n h1 h2 h3)
  ·have q:k=7:=q
   exact XOk.of (G:=jE (aU R y) (dw 9 (i+m))) (by rw[hG,q,<-hf];rfl) λins n h1 h2 h3=>gy p R ins _ n _ 9 _ (by rw[show Ex.kind (Ex.mk k nm i m [y])=7 from q];decide) (by rw[show Ex.kind (Ex.mk k nm i m [y])=7 from q];rfl) (cc 9 ins n h1 h2 h3)
  ·have q:k=8:=q
   exact XOk.of (G:=jE (aU R y) (dw 10 (i+m))) (by rw[hG,q,<-hf];rfl) λins n h1 h2 h3=>gy p R ins _ n _ 10 _ (by rw[show Ex.kind (Ex.mk k nm i m [y])=8 from q];decide) (by rw[show Ex.kind (Ex.mk k nm i m [y])=8 from q];rfl) (cc 10 ins n h1 h2 h3)
  ·have q:k=9:=q
   exact XOk.of (G:=jE (aU R y) (dw 11 (i+m))) (by rw[hG,q,<-hf];rfl) λins n h1 h2 h3=>gy p R ins _ n _ 11 _ (by rw[show Ex.kind (Ex.mk k nm i m [y])=9 from q];decide) (by rw[show Ex.kind (Ex.mk k nm i m [y])=9 from q];rfl) (cc 11 ins n h1 h2 h3)
  ·have q:k=10:=q
   exact XOk.of (G:=jE (aU R y) (dw 12 (i+m))) (by rw[hG,q,<-hf];rfl) λins n h1 h2 h3=>gy p R ins _ n _ 12 _ (by rw[show Ex.kind (Ex.mk k nm i m [y])=10 from q];decide) (by rw[show Ex.kind (Ex.mk k nm i m [y])=10 from q];rfl) (cc 12 ins n h1 h2 h3)
  ·have q:k=13:=q
   exact XOk.of (G:=jE (aU R y) (dw 15 (i+m))) (by rw[hG,q,<-hf];rfl) λins n h1 h2 h3=>gy p R ins _ n _ 15 _ (by rw[show Ex.kind (Ex.mk k nm i m [y])=13 from q];decide) (by rw[show Ex.kind (Ex.mk k nm i m [y])=13 from q];rfl) (cc 15 ins n h1 h2 h3)
  ·have q:k=14:=q
   exact XOk.of (G:=jE (aU R y) (dw 16 (i+m))) (by rw[hG,q,<-hf];rfl) λins n h1 h2 h3=>gy p R ins _ n _ 16 _ (by rw[show Ex.kind (Ex.mk k nm i m [y])=14 from q];decide) (by rw[show Ex.kind (Ex.mk k nm i m [y])=14 from q];rfl) (cc 16 ins n h1 h2 h3)
  ·have q:k=18:=q
   exact XOk.of (G:=jE (aU R y) (dw 20 (i+m))) (by rw[hG,q,<-hf];rfl) λins n h1 h2 h3=>gy p R ins _ n _ 20 _ (by rw[show Ex.kind (Ex.mk k nm i m [y])=18 from q];decide) (by rw[show Ex.kind (Ex.mk k nm i m [y])=18 from q];rfl) (cc 20 ins n h1 h2 h3)
 ·obtain⟨a,b',e⟩:=len2 h
  obtain⟨k,nm,i,m,l⟩:=x
  obtain rfl:l = [a,b']:=e
  have ma:a ∈ [a,b']:=by simp
  have mb:b' ∈ [a,b']:=by simp
  have hN2:Ref15.nodesL [a,b']=Ref15.nodes a+Ref15.nodes b':=by rw[Ref15.nodesL,Ref15.nodesL,Ref15.nodesL];rfl
  have hE:Ref15.nodes (Ex.mk k nm i m [a,b'])=1+(Ref15.nodes a+Ref15.nodes b'):=by rw[hE];show 1+Ref15.nodesL [a,b']=_;rw[hN2]
  have hG:aU R (Ex.mk k nm i m [a,b'])=genC R k i m [ae a,ae b'] (dI R [a,b']):=by rw[hG];show genC R k i m (bW [a,b']) _=_;rw[jd];rfl
  have cc:∀(op:Int) (ins:Ins) (n:Int),2 * ins.length+3 * Ref15.nodes (Ex.mk k nm i m [a,b'])<=2000000->0<=n->n+Ref15.nodes (Ex.mk k nm i m [a,b'])<=1000000->LCall Tryz.prog 51 [.ptr 1000000 0,.data (Ex.mk k nm i m [a,b']).d,.data (.ptr [.i op])] [(1000000,.cells (aY p ins n 1000001 1000002)),(1000001,.tok 2 (List.map iT ins).length),(1000002,.map false [.int .i64] (List.map iiD R))] (.ret (.data (.tuple []))) [(1000000,.cells (aY p (ins++(uS op [ae a,ae b'] (dI R [a,b']) n).1) (uS op [ae a,ae b'] (dI R [a,b']) n).2 1000001 1000002)),(1000001,.tok 2 (List.map iT (ins++(uS op [ae a,ae b'] (dI R [a,b']) n).1)).length),(1000002,.map false [.int .i64] (List.map iiD R))]:=by
   intro op ins n h1 h2 h3
   rcases Xe (a:=ae a) (b:=ae b') (hpos a ma)with⟨_,e⟩ |⟨_,e⟩
   ·refine uK p R ins n op k i m nm a b' a b' (hnd a ma) (hnd b' mb) (by rw[e];exact O8) (by rw[e];exact UT) (hi a ma) (hi b' mb) (hs a ma) (hs b' mb) (by rw[e];exact mX R (j:=0) rfl rfl) (by rw[e];exact mX R (j:=1) rfl rfl) (by omega) h2 (by omega)
   ·refine uK p R ins n op k i m nm a b' b' a (hnd a ma) (hnd b' mb) (by rw[e];exact UT) (by rw[e];exact O8) (hi b' mb) (hi a ma) (hs b' mb) (hs a ma) (by rw[e];exact mX R (j:=1) rfl rfl) (by rw[e];exact mX R (j:=0) rfl rfl) (by omega) h2 (by omega)
  rcases hk with q |q |q |q |q
  ·have q:k=11:=q
   exact XOk.of (G:=uS 13 [ae a,ae b'] (dI R [a,b'])) (by rw[hG,q];rfl) λins n h1 h2 h3=>lN p R ins _ n _ 13 _ (by rw[show Ex.kind (Ex.mk k nm i m [a,b'])=11 from q];decide) (by rw[show Ex.kind (Ex.mk k nm i m [a,b'])=11 from q];rfl) (cc 13 ins n h1 h2 h3)
  ·have q:k=12:=q
   exact XOk.of (G:=uS 14 [ae a,ae b'] (dI R [a,b'])) (by rw[hG,q];rfl) λins n h1 h2 h3=>lN p R ins _ n _ 14 _ (by rw[show Ex.kind (Ex.mk k nm i m [a,b'])=12 from q];decide) (by rw[show Ex.kind (Ex.mk k nm i m [a,b'])=12 from q];rfl) (cc 14 ins n h1 h2 h3)
  ·have q:k=15:=q
   exact XOk.of (G:=uS 17 [ae a,ae b'] (dI R [a,b'])) (by rw[hG,q];rfl) λins n h1 h2 h3=>lN p R ins _ n _ 17 _ (by rw[show Ex.kind (Ex.mk k nm i m [a,b'])=15 from q];decide) (by rw[show Ex.kind (Ex.mk k nm i m [a,b'])=15 from q];rfl) (cc 17 ins n h1 h2 h3)
  ·have q:k=16:=q
   exact XOk.of (G:=J6 [ae a,ae b'] (dI R [a,b'])) (by rw[hG,q];rfl) λins n h1 h2 h3=>XI p R ins _ n _ 0 _ (by rw[show Ex.kind (Ex.mk k nm i m [a,b'])=16 from q];decide) (by rw[show Ex.kind (Ex.mk k nm i m [a,b'])=16 from q];rfl) (XF p R ins n k i m nm a b' (hnd a ma) (hnd b' mb) (hi a ma) (hi b' mb) (hs a ma) (hs b' mb) (by omega) h2 (by omega))
  ·have q:k=17:=q
   exact XOk.of (G:=uS 19 [ae a,ae b'] (dI R [a,b'])) (by rw[hG,q];rfl) λins n h1 h2 h3=>lN p R ins _ n _ 19 _ (by rw[show Ex.kind (Ex.mk k nm i m [a,b'])=17 from q];decide) (by rw[show Ex.kind (Ex.mk k nm i m [a,b'])=17 from q];rfl) (cc 19 ins n h1 h2 h3)
 ·obtain⟨a,b',c,d,e⟩:=z6i h
  obtain⟨k,nm,i,m,l⟩:=x
  obtain rfl:l = [a,b',c,d]:=e
  have hE:Ref15.nodes (Ex.mk k nm i m [a,b',c,d])=1+Ref15.nodesL [a,b',c,d]:=hE
  have hG:aU R (Ex.mk k nm i m [a,b',c,d])=genC R k i m [ae a,ae b',ae c,ae d] (dI R [a,b',c,d]):=by rw[hG];show genC R k i m (bW [a,b',c,d]) _=_;rw[jd];rfl
  obtain⟨j,h1,h2,_,_⟩:=UF (a:=ae a) (b:=ae b') (c:=ae c) (d:=ae d) (hpos a (List.mem_cons_self ..))
  obtain⟨y0,hy0⟩:∃y0,[a,b',c,d][j]? = some y0:=⟨[a,b',c,d][j]'h1,List.getElem?_eq_getElem h1⟩
  have q:k=19:=hk
  exact XOk.of (G:=gIf [ae a,ae b',ae c,ae d] (dI R [a,b',c,d])) (by rw[hG,q];rfl) λins n h3 h4 h5=>Kz p R ins _ n _ 0 _ (by rw[show Ex.kind (Ex.mk k nm i m [a,b',c,d])=19 from q];decide) (by rw[show Ex.kind (Ex.mk k nm i m [a,b',c,d])=19 from q];rfl) (Ky p R ins n k i m nm a b' c d y0 j (hnd a (show a ∈ [a,b',c,d]by simp)) (hnd b' (show b' ∈ [a,b',c,d]by simp)) (hnd c (show c ∈ [a,b',c,d]by simp)) (hnd d (show d ∈ [a,b',c,d]by simp)) h2 hy0 hi hs (by omega) h4 (by omega))
end Go.Proofs.YthpbakljheeabaaGreatDoor
