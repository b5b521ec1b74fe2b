/- A part of the proof. -/
import Derived.Test.YtaipffoajgkljaaGreatDoorZMX
import Derived.Test.YtaipffoajgkljaaGreatDoorZGA
set_option linter.all false
set_option maxHeartbeats 2000000
namespace Go.Proofs.YtaipffoajgkljaaGreatDoor
open Go.Fw Go.Fw.Ref15 Go.Fw.Rg Go.Fw.Tl Go.Fw.Lw
set_option maxRecDepth 10000
variable [af]
theorem Z5(ns:List Int):PCall Tryz.prog 75 [.sl 1 (((ns.map fF).drop 0).take ns.length)] (.ret (.tuple [.i (bg ns).1,.i (bg ns).2])):=by
 rw[List.drop_zero,List.take_of_length_le (by simp)];exact vK ns
theorem RN(x:Ex)(hN:Ref15.nodes x<=512)(hw:∃p n,wfX p n x=true):PCall Tryz.prog 76 [x.d] (.ret (.i (ae x))):=by
 revert hw;revert hN;revert x;refine Ex.ind λx ih hN hw=>?_
 refine dh Tryz.func76 λhf=>?_
 obtain⟨p,n,hw⟩:=hw
 have hE:=Ref15.nodes_eq x
 have hL:=Ref15.len_nodes x.l
 have hlen:x.l.length<=9223372036854775807:=by omega
 have hp:=ZM hw hN
 have hnl:(cu x.l).length<=1000:=by rw[iP,List.length_map];omega
 have ihc:∀y∈x.l,PCall Tryz.prog 76 [y.d] (.ret (.i (ae y))):=λy hy=>ih y hy (by have:=rf hy;omega) ⟨p,n,nI hw hy⟩
 clear hf
 repeat' ((try conv=>whnf)<;>first
  |((have hq:=ZK hI0);subst hq)
  |exact trivial
  |exact aj hd3 ‹_›
  |exact aj hd0 ‹_›
  |((refine dB hd3 ?_ ?_);(assumption))
  |((refine bK hd3 ?_ ?_);(assumption))
  |refine jA hd0 ?_
  |refine fK hd0 ?_
  |refine BrI.intro (λh=>?_) (λh=>?_)
  |((refine mJ ?_ ?_ ?_ ?_ ?_ ?_ ?_ ?_);rfl;rfl;rfl;(rw[List.length_map];exact Nat.le_refl _);rfl;(have:=hI0.2;omega);(exact(by decide:1<=1073741824)))
  |((refine jd ?_ ?_ ?_ ?_ ?_);rfl;rfl;rfl;(first |exact(Gy h hp).2.1 |exact(PZ ‹(((cu x.l).length:Int)==0)=false› hp).1 |exact⟨Int.natCast_nonneg _,by have:=hl3;rw[List.length_set]at this;omega⟩))
  |((refine jC ?_ ?_ ?_ ?_ ?_ ?_ ?_);rfl;rfl;rotate_left 2;(first |exact(Gy h hp).2.2.1 |exact ZO hd3);rfl)
  |((refine fQ ?_ ?_ ?_ ?_ ?_ ?_ ?_ ?_ ?_);rfl;rfl;rfl;rfl;exact fA rfl;rfl;rotate_left;exact(PZ ‹(((cu x.l).length:Int)==0)=false› hp).2)
  |exact ZN
  |exact z8x _ rfl
  |exact o7
  |((refine ak.mk 0 ?_);refine⟨aB (x.l) 13 (λ(q:(Nat)×(List Int))=>match q with |(ver,ns)=>[(3,.own 21 ver 1 0 ns.length)]) (λ(q:(Nat)×(List Int))=>match q with |(ver,ns)=>[(21,.arr ver 1 (ns.map fF))]) [11,12] (λi0 r0 q=>match q with |(ver,ns)=>ns++cu r0=cu x.l/\ns.length=i0),?_⟩;refine ag ((0),([])) ?_ ?_ (λi0 ⟨ver,ns⟩ hd0 hI0=>?_) (λi0 x0 r0 ⟨ver,ns⟩ hd0 hl0 hI0=>?_))
  |refine ah hd0 ((ver+1),(ns++[ae x0])) ?_ ?_
  |((refine ak.mk 3 ?_);have hz3:((cu x.l).set (bg (cu x.l)).2.toNat 1).length=(cu x.l).length:=(List.length_set ..);have hlen3:((cu x.l).set (bg (cu x.l)).2.toNat 1).length<=9223372036854775807:=(by rw[List.length_set];omega);refine⟨aB ((cu x.l).set (bg (cu x.l)).2.toNat 1) 50 (λ(m:(Int))=>[(6,.data (.val (.int .i64 m)))]) (λ(m:(Int))=>[(21,.arr ver 1 (((cu x.l).set (bg (cu x.l)).2.toNat 1).map fF))]) [48,49] (λi3 r3 m=>needS r3 i3 m=needS ((cu x.l).set (bg (cu x.l)).2.toNat 1) 0 (bg (cu x.l)).1),?_⟩;refine ag ((bg (cu x.l)).1) ?_ ?_ (λi3 (m:(Int)) hd3 hI3=>?_) (λi3 x3 r3 (m:(Int)) hd3 hl3 hI3=>?_))
  |refine ah hd3 ?_ ?_ ?_
  |((refine ai ?_ ?_ ?_);rotate_left;(exact ihc _ (aX hd0)))
  |((refine uX ?_ ?_);rfl)
  |((refine IJ ?_ ?_ ?_);rotate_left;exact Z5 _)
  |refine aW.l _ ?_
  |((refine dL ?_ ?_ ?_ ?_)<;>exact rfl)
  |((refine au ?_ ?_ ?_ ?_ ?_);rfl;rfl;rotate_left;exact dR hd0)
  |refine lY ?_
  |(refine cO ?_;conv=>whnf)
  |refine And.intro ?_ ?_
  |exact @rfl AV _
  |fail)
 all_goals first
  |rfl
  |exact(JF hI0).1
  |exact(JF hI0).2
  |(simp;done)
  |exact congrArg D.i ((oW x).trans (z8s h)).symm
  |exact congrArg D.i ((oW x).trans (z8t h)).symm
  |(refine congrArg D.i ?_;rw[oW,z8u h,(Gy h hp).2.2.2])
  |(refine congrArg D.i ?_;rw[oW,z8v ‹_› ‹_› ‹_›,<-hI3];first |done |rfl)
  |exact RF hI3 hd3 (by rw[List.length_set];exact hnl) (z8w _ hp)
end Go.Proofs.YtaipffoajgkljaaGreatDoor
namespace Go.Proofs.YtaipffoajgkljaaGreatDoor
open Go.Fw Go.Fw.Ref15 Go.Fw.Rg Go.Fw.Tl Go.Fw.Lw Go.Fw.Mac
set_option maxRecDepth 10000
variable [af]
abbrev doD:List D:=[.val .nilFunc,.fn 28 [],.val .nilFunc,.fn 72 [.ptr [.i 2]],.fn 72 [.ptr [.i 3]],.fn 31 [],.fn 73 [.ptr [.i 8]],.fn 73 [.ptr [.i 9]],.fn 73 [.ptr [.i 10]],.fn 73 [.ptr [.i 11]],.fn 73 [.ptr [.i 12]],.fn 74 [.ptr [.i 13]],.fn 74 [.ptr [.i 14]],.fn 73 [.ptr [.i 15]],.fn 73 [.ptr [.i 16]],.fn 74 [.ptr [.i 17]],.fn 34 [],.fn 74 [.ptr [.i 19]],.fn 73 [.ptr [.i 20]],.fn 35 []]
abbrev bi(p:Pr)(ins:Ins)(n:Int)(b c:Nat):List AV:=[.data (.i p.latency),.data (.i p.tail),.data (.sl 3 (p.params.map Bd.cs)),.data (.sl 3 (p.states.map Bd.cs)),.data (.sl 4 (p.lines.map Ln.cs)),.data (.sl 1 ((p.tables.map Tb.values).map lnC)),.data (.i n),.gs b 2 (List.map jl ins),.map c,.data (.val .nilFunc),.data (.fn 28 []),.data (.val .nilFunc),.data (.fn 72 [.ptr [.i 2]]),.data (.fn 72 [.ptr [.i 3]]),.data (.fn 31 []),.data (.fn 73 [.ptr [.i 8]]),.data (.fn 73 [.ptr [.i 9]]),.data (.fn 73 [.ptr [.i 10]]),.data (.fn 73 [.ptr [.i 11]]),.data (.fn 73 [.ptr [.i 12]]),.data (.fn 74 [.ptr [.i 13]]),.data (.fn 74 [.ptr [.i 14]]),.data (.fn 73 [.ptr [.i 15]]),.data (.fn 73 [.ptr [.i 16]]),.data (.fn 74 [.ptr [.i 17]]),.data (.fn 34 []),.data (.fn 74 [.ptr [.i 19]]),.data (.fn 73 [.ptr [.i 20]]),.data (.fn 35 [])]
abbrev XOk(p:Pr)(R:List (Int×Int))(y:Ex):Prop:=∀(ins:Ins) (n:Int),2 * ins.length+3 * Ref15.nodes y<=2000000->0<=n->n+Ref15.nodes y<=1000000 ->
 LCall Tryz.prog 36 [.ptr 1000000 0,.data y.d] [(1000000,.cells (bi p ins n 1000001 1000002)),(1000001,.tok 2 (List.map jl ins).length),(1000002,.map false [.int .i64] (List.map iiD R))] (.ret (.data (.tuple []))) [(1000000,.cells (bi p (ins++(aN R y n).1) (aN R y n).2 1000001 1000002)),(1000001,.tok 2 (List.map jl (ins++(aN R y n).1)).length),(1000002,.map false [.int .i64] (List.map iiD R))]
theorem dM(p:Pr)(R:List (Int×Int))(ins:Ins)(n:Int)(op a:Int)(hi:ins.length<=1073741823):LCall Tryz.prog 29 [.ptr 1000000 0,.data (.i op),.data (.i a)] [(1000000,.cells (bi p ins n 1000001 1000002)),(1000001,.tok 2 (List.map jl ins).length),(1000002,.map false [.int .i64] (List.map iiD R))] (.ret (.data (.tuple []))) [(1000000,.cells (bi p (ins++[(op,a)]) n 1000001 1000002)),(1000001,.tok 2 (List.map jl (ins++[(op,a)])).length),(1000002,.map false [.int .i64] (List.map iiD R))]:=by
 refine dC Tryz.func29 ?_
 repeat' ((try conv=>whnf)<;>first
  |exact trivial
  |((refine aP ?_);refine fin_step' [(1000000,1000000),(1000001,1000001),(1000002,1000002)] rfl ?_ ?_)
  |refine aW.l _ ?_
  |refine FB ?_ ?_ ?_
  |refine And.intro ?_ ?_
  |((refine iK ?_ ?_);rfl;(first |skip))
  |((refine bz ?_);refine fB ?_ ?_ ?_;rfl;rfl;(first |skip))
  |exact @rfl AV _
  |exact fA rfl
  |fail)
 all_goals first
  |(rw[List.length_map];omega)
  |exact dU (x:=(op,a))
theorem vS(p:Pr)(R:List (Int×Int))(ins:Ins)(n:Int)(hn:0<=n/\n<=1000000):LCall Tryz.prog 37 [.ptr 1000000 0] [(1000000,.cells (bi p ins n 1000001 1000002)),(1000001,.tok 2 (List.map jl ins).length),(1000002,.map false [.int .i64] (List.map iiD R))] (.ret (.data (.i n))) [(1000000,.cells (bi p ins (n+1) 1000001 1000002)),(1000001,.tok 2 (List.map jl ins).length),(1000002,.map false [.int .i64] (List.map iiD R))]:=by
 refine dC Tryz.func37 ?_
 repeat' ((try conv=>whnf)<;>first
  |exact trivial
  |exact congrArg D.i (zft hn)
  |exact congrArg D.i (zfu hn)
  |((refine aP ?_);refine fin_step' [(1000000,1000000),(1000001,1000001),(1000002,1000002)] rfl ?_ ?_)
  |refine And.intro ?_ ?_
  |((refine bz ?_);refine fB ?_ ?_ ?_;rfl;rfl;(first |exact rfl |skip))
  |exact @rfl AV _
  |fail)
theorem Xv(op:Int)  : PCall Tryz.prog 30 [.i op] (.ret (.fn 72 [.ptr [.i op]])):=by
 refine gI tok hmix ⟨[1],[]⟩ Tryz.func30 rfl (by kernel_rfl) (by kernel_rfl) (by kernel_rfl) λhf=>?_
 clear hf
 repeat' ((try conv=>whnf)<;>first
  |((refine ak.mk 1 ?_);refine⟨⟨Unit,λ_=>[(1,.data (.ptr [.i op]))],λ_=>[],[],λ_=>True,λ_=>0⟩,?_,λ_ _=>?_⟩)
  |refine⟨(),trivial,?_⟩
  |exact trivial
  |refine Cb.l ?_
  |(refine cO ?_;conv=>whnf)
  |refine And.intro ?_ ?_
  |exact @rfl AV _
  |fail)
 all_goals rfl
theorem Nq(op:Int)  : PCall Tryz.prog 32 [.i op] (.ret (.fn 73 [.ptr [.i op]])):=by
 refine gI tok hmix ⟨[1],[]⟩ Tryz.func32 rfl (by kernel_rfl) (by kernel_rfl) (by kernel_rfl) λhf=>?_
 clear hf
 repeat' ((try conv=>whnf)<;>first
  |((refine ak.mk 1 ?_);refine⟨⟨Unit,λ_=>[(1,.data (.ptr [.i op]))],λ_=>[],[],λ_=>True,λ_=>0⟩,?_,λ_ _=>?_⟩)
  |refine⟨(),trivial,?_⟩
  |exact trivial
  |refine Cb.l ?_
  |(refine cO ?_;conv=>whnf)
  |refine And.intro ?_ ?_
  |exact @rfl AV _
  |fail)
 all_goals rfl
theorem JI(op:Int)  : PCall Tryz.prog 33 [.i op] (.ret (.fn 74 [.ptr [.i op]])):=by
 refine gI tok hmix ⟨[1],[]⟩ Tryz.func33 rfl (by kernel_rfl) (by kernel_rfl) (by kernel_rfl) λhf=>?_
 clear hf
 repeat' ((try conv=>whnf)<;>first
  |((refine ak.mk 1 ?_);refine⟨⟨Unit,λ_=>[(1,.data (.ptr [.i op]))],λ_=>[],[],λ_=>True,λ_=>0⟩,?_,λ_ _=>?_⟩)
  |refine⟨(),trivial,?_⟩
  |exact trivial
  |refine Cb.l ?_
  |(refine cO ?_;conv=>whnf)
  |refine And.intro ?_ ?_
  |exact @rfl AV _
  |fail)
 all_goals rfl
theorem Z7(p:Pr)(R:List (Int×Int))(ins:Ins)(n:Int)(x:Ex)(hi:ins.length<=1073741823):LCall Tryz.prog 28 [.ptr 1000000 0,.data x.d] [(1000000,.cells (bi p ins n 1000001 1000002)),(1000001,.tok 2 (List.map jl ins).length),(1000002,.map false [.int .i64] (List.map iiD R))] (.ret (.data (.tuple []))) [(1000000,.cells (bi p (ins++[(1,x.n)]) n 1000001 1000002)),(1000001,.tok 2 (List.map jl (ins++[(1,x.n)])).length),(1000002,.map false [.int .i64] (List.map iiD R))]:=by
 refine dC Tryz.func28 ?_
 repeat' ((try conv=>whnf)<;>first
  |exact trivial
  |((refine lent_step' [(1000000,1000000),(1000001,1000001),(1000002,1000002)] (dM p R ins n 1 x.n hi) ?_ ?_ ?_ ?_);rotate_left 0;rfl;(exact⟨rfl,rfl,rfl,trivial⟩);rfl)
  |((refine aP ?_);refine fin_step' [(1000000,1000000),(1000001,1000001),(1000002,1000002)] rfl ?_ ?_)
  |refine And.intro ?_ ?_
  |((refine bz ?_);refine fB ?_ ?_ ?_;rfl;rfl;(first |exact rfl |skip))
  |exact @rfl AV _
  |fail)
theorem EC(p:Pr)(R:List (Int×Int))(ins:Ins)(n:Int)(op:Int)(x:Ex)(hi:ins.length<=1073741823):LCall Tryz.prog 72 [.ptr 1000000 0,.data x.d,.data (.ptr [.i op])] [(1000000,.cells (bi p ins n 1000001 1000002)),(1000001,.tok 2 (List.map jl ins).length),(1000002,.map false [.int .i64] (List.map iiD R))] (.ret (.data (.tuple []))) [(1000000,.cells (bi p (ins++[(op,x.index)]) n 1000001 1000002)),(1000001,.tok 2 (List.map jl (ins++[(op,x.index)])).length),(1000002,.map false [.int .i64] (List.map iiD R))]:=by
 refine dC Tryz.func72 ?_
 repeat' ((try conv=>whnf)<;>first
  |exact trivial
  |((refine lent_step' [(1000000,1000000),(1000001,1000001),(1000002,1000002)] (dM p R ins n op x.index hi) ?_ ?_ ?_ ?_);rotate_left 0;rfl;(exact⟨rfl,rfl,rfl,trivial⟩);rfl)
  |((refine aP ?_);refine fin_step' [(1000000,1000000),(1000001,1000001),(1000002,1000002)] rfl ?_ ?_)
  |refine And.intro ?_ ?_
  |((refine bz ?_);refine fB ?_ ?_ ?_;rfl;rfl;(first |exact rfl |skip))
  |exact @rfl AV _
  |fail)
theorem Z8(p:Pr)(R:List (Int×Int))(ins:Ins)(n:Int)(x:Ex)(hi:ins.length<=1073741823):LCall Tryz.prog 31 [.ptr 1000000 0,.data x.d] [(1000000,.cells (bi p ins n 1000001 1000002)),(1000001,.tok 2 (List.map jl ins).length),(1000002,.map false [.int .i64] (List.map iiD R))] (.ret (.data (.tuple []))) [(1000000,.cells (bi p (ins++[(4,(lkA x.index R).getD 0)]) n 1000001 1000002)),(1000001,.tok 2 (List.map jl (ins++[(4,(lkA x.index R).getD 0)])).length),(1000002,.map false [.int .i64] (List.map iiD R))]:=by
 refine dC Tryz.func31 ?_
 repeat' ((try conv=>whnf)<;>first
  |refine PD rfl (λv hv=>?_) (λhv=>?_)
  |exact trivial
  |((refine lent_step' [(1000000,1000000),(1000001,1000001),(1000002,1000002)] (dM p R ins n 4 v hi) ?_ ?_ ?_ ?_);rotate_left 0;rfl;(exact⟨rfl,rfl,rfl,trivial⟩);rfl)
  |((refine lent_step' [(1000000,1000000),(1000001,1000001),(1000002,1000002)] (dM p R ins n 4 0 hi) ?_ ?_ ?_ ?_);rotate_left 0;rfl;(exact⟨rfl,rfl,rfl,trivial⟩);rfl)
  |((refine aP ?_);refine fin_step' [(1000000,1000000),(1000001,1000001),(1000002,1000002)] rfl ?_ ?_)
  |refine fD ?_
  |refine And.intro ?_ ?_
  |((refine iK ?_ ?_);rfl;(first |skip))
  |((refine bz ?_);refine fB ?_ ?_ ?_;rfl;rfl;(first |skip))
  |exact @rfl AV _
  |fail)
 all_goals first
  |rfl
  |(simp[hv];done)
theorem JJ(p:Pr)(R:List (Int×Int))(ins:Ins)(n:Int)(op k i m:Int)(nm:List UInt8)(y:Ex)(hy:XOk p R y)(hz:Sz (aN R y) (3 * Ref15.nodes y-1) (Ref15.nodes y))(hi:2 * ins.length+3 * Ref15.nodes y<=2000000)(h0:0<=n)(hn:n+Ref15.nodes y<=1000000)(him:IntKind.i64.wrap (i+m)=i+m):LCall Tryz.prog 73 [.ptr 1000000 0,.data (Ex.mk k nm i m [y]).d,.data (.ptr [.i op])] [(1000000,.cells (bi p ins n 1000001 1000002)),(1000001,.tok 2 (List.map jl ins).length),(1000002,.map false [.int .i64] (List.map iiD R))] (.ret (.data (.tuple []))) [(1000000,.cells (bi p (ins++(gU (aN R y) (bQ op (i+m)) n).1) (gU (aN R y) (bQ op (i+m)) n).2 1000001 1000002)),(1000001,.tok 2 (List.map jl (ins++(gU (aN R y) (bQ op (i+m)) n).1)).length),(1000002,.map false [.int .i64] (List.map iiD R))]:=by
 refine jK Tryz.func73 λhf=>?_
 have hzn:=hz n
 clear hf
 repeat' ((try conv=>whnf)<;>first
  |exact trivial
  |((refine au ?_ ?_ ?_ ?_ ?_);rfl;rfl;rotate_left;exact RG)
  |((refine lent_step' [(1000000,1000000),(1000001,1000001),(1000002,1000002)] (hy ins n hi h0 hn) ?_ ?_ ?_ ?_);rotate_left 0;rfl;(exact⟨rfl,rfl,rfl,trivial⟩);rfl)
  |((refine lent_step' [(1000000,1000000),(1000001,1000001),(1000002,1000002)] (dM p R (ins++(aN R y n).1) (aN R y n).2 op (IntKind.i64.wrap (i+m)) (by rw[List.length_append];omega)) ?_ ?_ ?_ ?_);rotate_left 0;rfl;(exact⟨rfl,rfl,rfl,trivial⟩);rfl)
  |((refine aP ?_);refine fin_step' [(1000000,1000000),(1000001,1000001),(1000002,1000002)] rfl ?_ ?_)
  |refine lY ?_
  |refine And.intro ?_ ?_
  |((refine iK ?_ ?_);rfl;(first |skip))
  |((refine bz ?_);refine fB ?_ ?_ ?_;rfl;rfl;(first |skip))
  |exact @rfl AV _
  |fail)
 all_goals first
  |rfl
  |(rw[him];simp[gU,bQ];done)
theorem vT(p:Pr)(R:List (Int×Int))(ins:Ins)(n:Int)(op k i m:Int)(nm:List UInt8)(a b ya yb:Ex)(na:PCall Tryz.prog 76 [a.d] (.ret (.i (ae a))))(nb:PCall Tryz.prog 76 [b.d] (.ret (.i (ae b))))(hA:0<=(bg [ae a,ae b]).2/\(Ex.css [a,b])[((bg [ae a,ae b]).2).toNat]? = some (Ex.cs ya))(hB:0<=IntKind.i64.wrap (1-(bg [ae a,ae b]).2)/\(Ex.css [a,b])[(IntKind.i64.wrap (1-(bg [ae a,ae b]).2)).toNat]? = some (Ex.cs yb))(ha:XOk p R ya)(hb:XOk p R yb)(za:Sz (aN R ya) (3 * Ref15.nodes ya-1) (Ref15.nodes ya))(zb:Sz (aN R yb) (3 * Ref15.nodes yb-1) (Ref15.nodes yb))(fa:fAt (bV R [a,b]) (bg [ae a,ae b]).2=aN R ya)(fb:fAt (bV R [a,b]) (1-(bg [ae a,ae b]).2)=aN R yb)(hi:2 * ins.length+3 * (Ref15.nodes ya+Ref15.nodes yb)<=2000000)(h0:0<=n)(hn:n+(Ref15.nodes ya+Ref15.nodes yb)<=1000000):LCall Tryz.prog 74 [.ptr 1000000 0,.data (Ex.mk k nm i m [a,b]).d,.data (.ptr [.i op])] [(1000000,.cells (bi p ins n 1000001 1000002)),(1000001,.tok 2 (List.map jl ins).length),(1000002,.map false [.int .i64] (List.map iiD R))] (.ret (.data (.tuple []))) [(1000000,.cells (bi p (ins++(qG op [ae a,ae b] (bV R [a,b]) n).1) (qG op [ae a,ae b] (bV R [a,b]) n).2 1000001 1000002)),(1000001,.tok 2 (List.map jl (ins++(qG op [ae a,ae b] (bV R [a,b]) n).1)).length),(1000002,.map false [.int .i64] (List.map iiD R))]:=by
 refine jK Tryz.func74 λhf=>?_
 have z1:=za n
 have z2:=zb (aN R ya n).2
 clear hf
 repeat' ((try conv=>whnf)<;>first
  |exact trivial
  |((refine au ?_ ?_ ?_ ?_ ?_);rfl;rfl;rotate_left;(first |exact hA |exact hB |exact RG |exact Xo))
  |exact congrArg D.i (zfv fa fb)
  |((refine ai ?_ ?_ ?_);rotate_left;(first |exact na |exact nb |exact vK [ae a,ae b]))
  |((refine lent_step' [(1000000,1000000),(1000001,1000001),(1000002,1000002)] (ha ins n (by omega) h0 (by omega)) ?_ ?_ ?_ ?_);rotate_left 0;rfl;(exact⟨rfl,rfl,rfl,trivial⟩);rfl)
  |((refine lent_step' [(1000000,1000000),(1000001,1000001),(1000002,1000002)] (hb (ins++(aN R ya n).1) (aN R ya n).2 (by rw[List.length_append];omega) (by omega) (by omega)) ?_ ?_ ?_ ?_);rotate_left 0;rfl;(exact⟨rfl,rfl,rfl,trivial⟩);rfl)
  |((refine lent_step' [(1000000,1000000),(1000001,1000001),(1000002,1000002)] (dM p R (ins++(aN R ya n).1++(aN R yb (aN R ya n).2).1) (aN R yb (aN R ya n).2).2 op 0 (by rw[List.length_append,List.length_append];omega)) ?_ ?_ ?_ ?_);rotate_left 0;rfl;(exact⟨rfl,rfl,rfl,trivial⟩);rfl)
  |((refine aP ?_);refine fin_step' [(1000000,1000000),(1000001,1000001),(1000002,1000002)] rfl ?_ ?_)
  |refine aW.l _ ?_
  |refine lY ?_
  |refine fD ?_
  |refine And.intro ?_ ?_
  |((refine iK ?_ ?_);rfl;(first |skip))
  |((refine bz ?_);refine fB ?_ ?_ ?_;rfl;rfl;(first |skip))
  |exact @rfl AV _
  |fail)
 all_goals (simp[qG,fa,fb,gU,bQ];done)
theorem Z9(p:Pr)(R:List (Int×Int))(ins:Ins)(n:Int)(k i m:Int)(nm:List UInt8)(a b:Ex)(na:PCall Tryz.prog 76 [a.d] (.ret (.i (ae a))))(nb:PCall Tryz.prog 76 [b.d] (.ret (.i (ae b))))(ha:XOk p R a)(hb:XOk p R b)(za:Sz (aN R a) (3 * Ref15.nodes a-1) (Ref15.nodes a))(zb:Sz (aN R b) (3 * Ref15.nodes b-1) (Ref15.nodes b))(hi:2 * ins.length+3 * (Ref15.nodes a+Ref15.nodes b+1)<=2000000)(h0:0<=n)(hn:n+(Ref15.nodes a+Ref15.nodes b)<=1000000):LCall Tryz.prog 34 [.ptr 1000000 0,.data (Ex.mk k nm i m [a,b]).d] [(1000000,.cells (bi p ins n 1000001 1000002)),(1000001,.tok 2 (List.map jl ins).length),(1000002,.map false [.int .i64] (List.map iiD R))] (.ret (.data (.tuple []))) [(1000000,.cells (bi p (ins++(JD [ae a,ae b] (bV R [a,b]) n).1) (JD [ae a,ae b] (bV R [a,b]) n).2 1000001 1000002)),(1000001,.tok 2 (List.map jl (ins++(JD [ae a,ae b] (bV R [a,b]) n).1)).length),(1000002,.map false [.int .i64] (List.map iiD R))]:=by
 refine jK Tryz.func34 λhf=>?_
 have z1:=za n
 have z2:=zb (aN R a n).2
 have z3:=zb n
 have z4:=za (aN R b n).2
 clear hf
 repeat' ((try conv=>whnf)<;>first
  |(have hd:=of_decide_eq_true h;clear h)
  |(have hd:=of_decide_eq_false h;clear h)
  |exact trivial
  |refine BrI.intro (λh=>?_) (λh=>?_)
  |((refine au ?_ ?_ ?_ ?_ ?_);rfl;rfl;rotate_left;(first |exact RG |exact Xo))
  |exact congrArg D.i (z8y hd)
  |exact congrArg D.i (z8z hd)
  |((refine ai ?_ ?_ ?_);rotate_left;(first |exact na |exact nb))
  |((refine lent_step' [(1000000,1000000),(1000001,1000001),(1000002,1000002)] ((show LCall _ _ _ _ _ _ from(ha ins n (by omega) h0 (by omega)))) ?_ ?_ ?_ ?_);rotate_left 0;rfl;(exact⟨rfl,rfl,rfl,trivial⟩);rfl)
  |((refine lent_step' [(1000000,1000000),(1000001,1000001),(1000002,1000002)] (hb ins n (by omega) h0 (by omega)) ?_ ?_ ?_ ?_);rotate_left 0;rfl;(exact⟨rfl,rfl,rfl,trivial⟩);rfl)
  |((refine lent_step' [(1000000,1000000),(1000001,1000001),(1000002,1000002)] (hb (ins++(aN R a n).1) (aN R a n).2 (by rw[List.length_append];omega) (by omega) (by omega)) ?_ ?_ ?_ ?_);rotate_left 0;rfl;(exact⟨rfl,rfl,rfl,trivial⟩);rfl)
  |((refine lent_step' [(1000000,1000000),(1000001,1000001),(1000002,1000002)] (dM p R (ins++(aN R a n).1++(aN R b (aN R a n).2).1) (aN R b (aN R a n).2).2 18 0 (by rw[List.length_append,List.length_append];omega)) ?_ ?_ ?_ ?_);rotate_left 0;rfl;(exact⟨rfl,rfl,rfl,trivial⟩);rfl)
  |((refine lent_step' [(1000000,1000000),(1000001,1000001),(1000002,1000002)] (dM p R (ins++(aN R b n).1) (aN R b n).2 16 0 (by rw[List.length_append];omega)) ?_ ?_ ?_ ?_);rotate_left 0;rfl;(exact⟨rfl,rfl,rfl,trivial⟩);rfl)
  |((refine lent_step' [(1000000,1000000),(1000001,1000001),(1000002,1000002)] (ha (ins++(aN R b n).1++[(16,0)]) (aN R b n).2 (by rw[List.length_append,List.length_append];simp only[List.length_cons,List.length_nil];omega) (by omega) (by omega)) ?_ ?_ ?_ ?_);rotate_left 0;rfl;(exact⟨rfl,rfl,rfl,trivial⟩);rfl)
  |((refine lent_step' [(1000000,1000000),(1000001,1000001),(1000002,1000002)] (dM p R (ins++(aN R b n).1++[(16,0)]++(aN R a (aN R b n).2).1) (aN R a (aN R b n).2).2 17 0 (by rw[List.length_append,List.length_append,List.length_append];simp only[List.length_cons,List.length_nil];omega)) ?_ ?_ ?_ ?_);rotate_left 0;rfl;(exact⟨rfl,rfl,rfl,trivial⟩);rfl)
  |((refine aP ?_);refine fin_step' [(1000000,1000000),(1000001,1000001),(1000002,1000002)] rfl ?_ ?_)
  |refine lY ?_
  |refine fD ?_
  |refine And.intro ?_ ?_
  |((refine iK ?_ ?_);rfl;(first |skip))
  |((refine bz ?_);refine fB ?_ ?_ ?_;rfl;rfl;(first |skip))
  |exact @rfl AV _
  |fail)
 all_goals first
  |(rw[sub_le hd];simp[gU,bQ];done)
  |(rw[z3c hd];simp[gU,bQ];done)
theorem Nr(p:Pr)(R:List (Int×Int))(ins:Ins)(n:Int)(k i m:Int)(nm:List UInt8)(a b c d y0:Ex)(j:Nat)(na:PCall Tryz.prog 76 [a.d] (.ret (.i (ae a))))(nb:PCall Tryz.prog 76 [b.d] (.ret (.i (ae b))))(nc:PCall Tryz.prog 76 [c.d] (.ret (.i (ae c))))(nd:PCall Tryz.prog 76 [d.d] (.ret (.i (ae d))))(hj:(bg [ae a,ae b,ae c,ae d]).2=(j:Int))(hy:[a,b,c,d][j]? = some y0)(hx:∀y ∈ [a,b,c,d],XOk p R y)(hz:∀y ∈ [a,b,c,d],Sz (aN R y) (3 * Ref15.nodes y-1) (Ref15.nodes y))(hi:2 * ins.length+3 * (Ref15.nodesL [a,b,c,d]+1)<=2000000)(h0:0<=n)(hn:n+(Ref15.nodesL [a,b,c,d]+1)<=1000000):LCall Tryz.prog 35 [.ptr 1000000 0,.data (Ex.mk k nm i m [a,b,c,d]).d] [(1000000,.cells (bi p ins n 1000001 1000002)),(1000001,.tok 2 (List.map jl ins).length),(1000002,.map false [.int .i64] (List.map iiD R))] (.ret (.data (.tuple []))) [(1000000,.cells (bi p (ins++(gIf [ae a,ae b,ae c,ae d] (bV R [a,b,c,d]) n).1) (gIf [ae a,ae b,ae c,ae d] (bV R [a,b,c,d]) n).2 1000001 1000002)),(1000001,.tok 2 (List.map jl (ins++(gIf [ae a,ae b,ae c,ae d] (bV R [a,b,c,d]) n).1)).length),(1000002,.map false [.int .i64] (List.map iiD R))]:=by
 refine jK Tryz.func35 λhf=>?_
 have hm0:y0 ∈ [a,b,c,d]:=List.mem_of_getElem? hy
 have z0:=hz y0 hm0 (n+1)
 have hx0:=hx y0 hm0
 have fa:fAt (bV R [a,b,c,d]) (bg [ae a,ae b,ae c,ae d]).2=aN R y0:=kJ R hj hy
 have hA:=zdr hj hy
 have hle0:Ref15.nodes y0<=Ref15.nodesL [a,b,c,d]:=lN hm0
 have hlen:[a,b,c,d].length<=9223372036854775807:=by simp
 clear hf
 repeat' ((try conv=>whnf)<;>first
  |(obtain⟨hq1,hq2⟩:=hI0.fin;subst hq1;subst hq2)
  |exact trivial
  |exact aj hd0 ‹_›
  |((refine dB hd0 ?_ ?_);exact rfl)
  |((refine bK hd0 ?_ ?_);exact rfl)
  |refine BrI.intro (λh=>?_) (λh=>?_)
  |((refine au ?_ ?_ ?_ ?_ ?_);rfl;rfl;rotate_left;(first |exact hA |exact RG |exact Xo |exact zfr |exact zfs |exact dR hd0))
  |exact congrArg D.i (zg1 fa)
  |((refine ak.mk 0 ?_);refine⟨aB ([a,b,c,d]) 49 (λ(q:(Ins)×(Int))=>match q with |(is,q)=>[]) (λ(q:(Ins)×(Int))=>match q with |(is,q)=>[(1000000,.cells (bi p is q 1000001 1000002)),(1000001,.tok 2 (List.map jl is).length),(1000002,.map false [.int .i64] (List.map iiD R))]) [0,5,6,47,48] (λi0 r0 q=>match q with |(is,q)=>ChI R (bg [ae a,ae b,ae c,ae d]).2 n (chT R (bg [ae a,ae b,ae c,ae d]).2 n [a,b,c,d] y0 ins) i0 r0 is q),?_⟩;refine ag (((ins++(aN R y0 (n+1)).1++[(5,n)])),((aN R y0 (n+1)).2)) ?_ ?_ (λi0 ⟨is,q⟩ hd0 hI0=>?_) (λi0 x0 r0 ⟨is,q⟩ hd0 hl0 hI0=>?_))
  |refine ah hd0 (?_,?_) ?_ ?_
  |((refine ai ?_ ?_ ?_);rotate_left;(first |exact na |exact nb |exact nc |exact nd |exact vK [ae a,ae b,ae c,ae d]))
  |((refine lent_step' [(1000000,1000000),(1000001,1000001),(1000002,1000002)] (vS p R ins n ⟨h0,by omega⟩) ?_ ?_ ?_ ?_);rotate_left 0;rfl;(exact⟨rfl,rfl,rfl,trivial⟩);rfl)
  |((refine lent_step' [(1000000,1000000),(1000001,1000001),(1000002,1000002)] (hx0 ins (n+1) (by omega) (by omega) (by omega)) ?_ ?_ ?_ ?_);rotate_left 0;rfl;(exact⟨rfl,rfl,rfl,trivial⟩);rfl)
  |((refine lent_step' [(1000000,1000000),(1000001,1000001),(1000002,1000002)] (dM p R (ins++(aN R y0 (n+1)).1) (aN R y0 (n+1)).2 5 n (by rw[List.length_append];omega)) ?_ ?_ ?_ ?_);rotate_left 0;rfl;(exact⟨rfl,rfl,rfl,trivial⟩);rfl)
  |((refine lent_step' [(1000000,1000000),(1000001,1000001),(1000002,1000002)] (dM p R is q 4 n (by have:=hI0.ilen;omega)) ?_ ?_ ?_ ?_);rotate_left 0;rfl;(exact⟨rfl,rfl,rfl,trivial⟩);rfl)
  |((refine lent_step' [(1000000,1000000),(1000001,1000001),(1000002,1000002)] (hx x0 (aX hd0) is q (hI0.fit h).1 (hI0.fit h).2.1 (hI0.fit h).2.2) ?_ ?_ ?_ ?_);rotate_left 0;rfl;(exact⟨rfl,rfl,rfl,trivial⟩);rfl)
  |((refine lent_step' [(1000000,1000000),(1000001,1000001),(1000002,1000002)] (dM p R (chT R (bg [ae a,ae b,ae c,ae d]).2 n [a,b,c,d] y0 ins).1 (chT R (bg [ae a,ae b,ae c,ae d]).2 n [a,b,c,d] y0 ins).2 21 0 (by have:=hI0.ilen;omega)) ?_ ?_ ?_ ?_);rotate_left 0;rfl;(exact⟨rfl,rfl,rfl,trivial⟩);rfl)
  |((refine aP ?_);refine fin_step' [(1000000,1000000),(1000001,1000001),(1000002,1000002)] rfl ?_ ?_)
  |refine aW.l _ ?_
  |refine lY ?_
  |refine fD ?_
  |refine And.intro ?_ ?_
  |((refine qo ?_ ?_ ?_);rfl;rfl;(first |exact rfl |skip))
  |((refine iK ?_ ?_);rfl;(first |skip))
  |((refine bz ?_);refine fB ?_ ?_ ?_;rfl;rfl;(first |skip))
  |exact @rfl AV _
  |fail)
 all_goals first
  |exact ZP hj hy rfl (hz y0 hm0) hi h0 hn
  |exact hI0.at h
  |exact hI0.next h (hz x0 (aX hd0))
  |exact congrArg (List.map jl) (zg0 fa)
theorem w_at{p:Pr}{ins:Ins}{n:Int}{b c:Nat}{k:Int}{f:D}(h:doD[k.toNat]? = some f):(bi p ins n b c)[0+9+k.toNat * 1]? = some (.data f):=by
 rw[show 0+9+k.toNat * 1=k.toNat+9 by omega]
 show(List.map AV.data doD)[k.toNat]? = _
 rw[List.getElem?_map,h];rfl
theorem jS{α:Type}{x:α}{P:Prop}(h:none=some x):P:=by cases h
theorem z0a(p:Pr)(R:List (Int×Int))(ins ins2:Ins)(n n2 op:Int)(x:Ex)(hk:0<=x.kind/\x.kind<20)(hv:doD[x.kind.toNat]? = some (.fn 28 []))(hc:LCall Tryz.prog 28 [.ptr 1000000 0,.data x.d] [(1000000,.cells (bi p ins n 1000001 1000002)),(1000001,.tok 2 (List.map jl ins).length),(1000002,.map false [.int .i64] (List.map iiD R))] (.ret (.data (.tuple []))) [(1000000,.cells (bi p ins2 n2 1000001 1000002)),(1000001,.tok 2 (List.map jl ins2).length),(1000002,.map false [.int .i64] (List.map iiD R))]):LCall Tryz.prog 36 [.ptr 1000000 0,.data x.d] [(1000000,.cells (bi p ins n 1000001 1000002)),(1000001,.tok 2 (List.map jl ins).length),(1000002,.map false [.int .i64] (List.map iiD R))] (.ret (.data (.tuple []))) [(1000000,.cells (bi p ins2 n2 1000001 1000002)),(1000001,.tok 2 (List.map jl ins2).length),(1000002,.map false [.int .i64] (List.map iiD R))]:=by
 refine dC Tryz.func36 ?_
 repeat' ((try conv=>whnf)<;>first
  |(split;rotate_left;(rename_i hv2;exact jS (hv2.symm.trans (w_at hv)));(rename_i v hv2;obtain rfl:v=AV.data (D.fn 28 []):=Option.some.inj (hv2.symm.trans (w_at hv));clear hv2))
  |exact trivial
  |refine And.intro hk ?_
  |((refine lent_step' [(1000000,1000000),(1000001,1000001),(1000002,1000002)] (hc) ?_ ?_ ?_ ?_);rotate_left 0;rfl;(exact⟨rfl,rfl,rfl,trivial⟩);rfl)
  |((refine aP ?_);refine fin_step' [(1000000,1000000),(1000001,1000001),(1000002,1000002)] rfl ?_ ?_)
  |refine fD ?_
  |refine And.intro ?_ ?_
  |((refine bz ?_);refine fB ?_ ?_ ?_;rfl;rfl;(first |exact rfl |skip))
  |exact @rfl AV _
  |fail)
 all_goals rfl
theorem z0b(p:Pr)(R:List (Int×Int))(ins ins2:Ins)(n n2 op:Int)(x:Ex)(hk:0<=x.kind/\x.kind<20)(hv:doD[x.kind.toNat]? = some (.fn 31 []))(hc:LCall Tryz.prog 31 [.ptr 1000000 0,.data x.d] [(1000000,.cells (bi p ins n 1000001 1000002)),(1000001,.tok 2 (List.map jl ins).length),(1000002,.map false [.int .i64] (List.map iiD R))] (.ret (.data (.tuple []))) [(1000000,.cells (bi p ins2 n2 1000001 1000002)),(1000001,.tok 2 (List.map jl ins2).length),(1000002,.map false [.int .i64] (List.map iiD R))]):LCall Tryz.prog 36 [.ptr 1000000 0,.data x.d] [(1000000,.cells (bi p ins n 1000001 1000002)),(1000001,.tok 2 (List.map jl ins).length),(1000002,.map false [.int .i64] (List.map iiD R))] (.ret (.data (.tuple []))) [(1000000,.cells (bi p ins2 n2 1000001 1000002)),(1000001,.tok 2 (List.map jl ins2).length),(1000002,.map false [.int .i64] (List.map iiD R))]:=by
 refine dC Tryz.func36 ?_
 repeat' ((try conv=>whnf)<;>first
  |(split;rotate_left;(rename_i hv2;exact jS (hv2.symm.trans (w_at hv)));(rename_i v hv2;obtain rfl:v=AV.data (D.fn 31 []):=Option.some.inj (hv2.symm.trans (w_at hv));clear hv2))
  |exact trivial
  |refine And.intro hk ?_
  |((refine lent_step' [(1000000,1000000),(1000001,1000001),(1000002,1000002)] (hc) ?_ ?_ ?_ ?_);rotate_left 0;rfl;(exact⟨rfl,rfl,rfl,trivial⟩);rfl)
  |((refine aP ?_);refine fin_step' [(1000000,1000000),(1000001,1000001),(1000002,1000002)] rfl ?_ ?_)
  |refine fD ?_
  |refine And.intro ?_ ?_
  |((refine bz ?_);refine fB ?_ ?_ ?_;rfl;rfl;(first |exact rfl |skip))
  |exact @rfl AV _
  |fail)
 all_goals rfl
theorem JK(p:Pr)(R:List (Int×Int))(ins ins2:Ins)(n n2 op:Int)(x:Ex)(hk:0<=x.kind/\x.kind<20)(hv:doD[x.kind.toNat]? = some (.fn 72 [.ptr [.i op]]))(hc:LCall Tryz.prog 72 [.ptr 1000000 0,.data x.d,.data (.ptr [.i op])] [(1000000,.cells (bi p ins n 1000001 1000002)),(1000001,.tok 2 (List.map jl ins).length),(1000002,.map false [.int .i64] (List.map iiD R))] (.ret (.data (.tuple []))) [(1000000,.cells (bi p ins2 n2 1000001 1000002)),(1000001,.tok 2 (List.map jl ins2).length),(1000002,.map false [.int .i64] (List.map iiD R))]):LCall Tryz.prog 36 [.ptr 1000000 0,.data x.d] [(1000000,.cells (bi p ins n 1000001 1000002)),(1000001,.tok 2 (List.map jl ins).length),(1000002,.map false [.int .i64] (List.map iiD R))] (.ret (.data (.tuple []))) [(1000000,.cells (bi p ins2 n2 1000001 1000002)),(1000001,.tok 2 (List.map jl ins2).length),(1000002,.map false [.int .i64] (List.map iiD R))]:=by
 refine dC Tryz.func36 ?_
 repeat' ((try conv=>whnf)<;>first
  |(split;rotate_left;(rename_i hv2;exact jS (hv2.symm.trans (w_at hv)));(rename_i v hv2;obtain rfl:v=AV.data (D.fn 72 [.ptr [.i op]]):=Option.some.inj (hv2.symm.trans (w_at hv));clear hv2))
  |exact trivial
  |refine And.intro hk ?_
  |((refine lent_step' [(1000000,1000000),(1000001,1000001),(1000002,1000002)] (hc) ?_ ?_ ?_ ?_);rotate_left 0;rfl;(exact⟨rfl,rfl,rfl,trivial⟩);rfl)
  |((refine aP ?_);refine fin_step' [(1000000,1000000),(1000001,1000001),(1000002,1000002)] rfl ?_ ?_)
  |refine fD ?_
  |refine And.intro ?_ ?_
  |((refine bz ?_);refine fB ?_ ?_ ?_;rfl;rfl;(first |exact rfl |skip))
  |exact @rfl AV _
  |fail)
 all_goals rfl
theorem gW(p:Pr)(R:List (Int×Int))(ins ins2:Ins)(n n2 op:Int)(x:Ex)(hk:0<=x.kind/\x.kind<20)(hv:doD[x.kind.toNat]? = some (.fn 73 [.ptr [.i op]]))(hc:LCall Tryz.prog 73 [.ptr 1000000 0,.data x.d,.data (.ptr [.i op])] [(1000000,.cells (bi p ins n 1000001 1000002)),(1000001,.tok 2 (List.map jl ins).length),(1000002,.map false [.int .i64] (List.map iiD R))] (.ret (.data (.tuple []))) [(1000000,.cells (bi p ins2 n2 1000001 1000002)),(1000001,.tok 2 (List.map jl ins2).length),(1000002,.map false [.int .i64] (List.map iiD R))]):LCall Tryz.prog 36 [.ptr 1000000 0,.data x.d] [(1000000,.cells (bi p ins n 1000001 1000002)),(1000001,.tok 2 (List.map jl ins).length),(1000002,.map false [.int .i64] (List.map iiD R))] (.ret (.data (.tuple []))) [(1000000,.cells (bi p ins2 n2 1000001 1000002)),(1000001,.tok 2 (List.map jl ins2).length),(1000002,.map false [.int .i64] (List.map iiD R))]:=by
 refine dC Tryz.func36 ?_
 repeat' ((try conv=>whnf)<;>first
  |(split;rotate_left;(rename_i hv2;exact jS (hv2.symm.trans (w_at hv)));(rename_i v hv2;obtain rfl:v=AV.data (D.fn 73 [.ptr [.i op]]):=Option.some.inj (hv2.symm.trans (w_at hv));clear hv2))
  |exact trivial
  |refine And.intro hk ?_
  |((refine lent_step' [(1000000,1000000),(1000001,1000001),(1000002,1000002)] (hc) ?_ ?_ ?_ ?_);rotate_left 0;rfl;(exact⟨rfl,rfl,rfl,trivial⟩);rfl)
  |((refine aP ?_);refine fin_step' [(1000000,1000000),(1000001,1000001),(1000002,1000002)] rfl ?_ ?_)
  |refine fD ?_
  |refine And.intro ?_ ?_
  |((refine bz ?_);refine fB ?_ ?_ ?_;rfl;rfl;(first |exact rfl |skip))
  |exact @rfl AV _
  |fail)
 all_goals rfl
theorem mW(p:Pr)(R:List (Int×Int))(ins ins2:Ins)(n n2 op:Int)(x:Ex)(hk:0<=x.kind/\x.kind<20)(hv:doD[x.kind.toNat]? = some (.fn 74 [.ptr [.i op]]))(hc:LCall Tryz.prog 74 [.ptr 1000000 0,.data x.d,.data (.ptr [.i op])] [(1000000,.cells (bi p ins n 1000001 1000002)),(1000001,.tok 2 (List.map jl ins).length),(1000002,.map false [.int .i64] (List.map iiD R))] (.ret (.data (.tuple []))) [(1000000,.cells (bi p ins2 n2 1000001 1000002)),(1000001,.tok 2 (List.map jl ins2).length),(1000002,.map false [.int .i64] (List.map iiD R))]):LCall Tryz.prog 36 [.ptr 1000000 0,.data x.d] [(1000000,.cells (bi p ins n 1000001 1000002)),(1000001,.tok 2 (List.map jl ins).length),(1000002,.map false [.int .i64] (List.map iiD R))] (.ret (.data (.tuple []))) [(1000000,.cells (bi p ins2 n2 1000001 1000002)),(1000001,.tok 2 (List.map jl ins2).length),(1000002,.map false [.int .i64] (List.map iiD R))]:=by
 refine dC Tryz.func36 ?_
 repeat' ((try conv=>whnf)<;>first
  |(split;rotate_left;(rename_i hv2;exact jS (hv2.symm.trans (w_at hv)));(rename_i v hv2;obtain rfl:v=AV.data (D.fn 74 [.ptr [.i op]]):=Option.some.inj (hv2.symm.trans (w_at hv));clear hv2))
  |exact trivial
  |refine And.intro hk ?_
  |((refine lent_step' [(1000000,1000000),(1000001,1000001),(1000002,1000002)] (hc) ?_ ?_ ?_ ?_);rotate_left 0;rfl;(exact⟨rfl,rfl,rfl,trivial⟩);rfl)
  |((refine aP ?_);refine fin_step' [(1000000,1000000),(1000001,1000001),(1000002,1000002)] rfl ?_ ?_)
  |refine fD ?_
  |refine And.intro ?_ ?_
  |((refine bz ?_);refine fB ?_ ?_ ?_;rfl;rfl;(first |exact rfl |skip))
  |exact @rfl AV _
  |fail)
 all_goals rfl
theorem z0c(p:Pr)(R:List (Int×Int))(ins ins2:Ins)(n n2 op:Int)(x:Ex)(hk:0<=x.kind/\x.kind<20)(hv:doD[x.kind.toNat]? = some (.fn 34 []))(hc:LCall Tryz.prog 34 [.ptr 1000000 0,.data x.d] [(1000000,.cells (bi p ins n 1000001 1000002)),(1000001,.tok 2 (List.map jl ins).length),(1000002,.map false [.int .i64] (List.map iiD R))] (.ret (.data (.tuple []))) [(1000000,.cells (bi p ins2 n2 1000001 1000002)),(1000001,.tok 2 (List.map jl ins2).length),(1000002,.map false [.int .i64] (List.map iiD R))]):LCall Tryz.prog 36 [.ptr 1000000 0,.data x.d] [(1000000,.cells (bi p ins n 1000001 1000002)),(1000001,.tok 2 (List.map jl ins).length),(1000002,.map false [.int .i64] (List.map iiD R))] (.ret (.data (.tuple []))) [(1000000,.cells (bi p ins2 n2 1000001 1000002)),(1000001,.tok 2 (List.map jl ins2).length),(1000002,.map false [.int .i64] (List.map iiD R))]:=by
 refine dC Tryz.func36 ?_
 repeat' ((try conv=>whnf)<;>first
  |(split;rotate_left;(rename_i hv2;exact jS (hv2.symm.trans (w_at hv)));(rename_i v hv2;obtain rfl:v=AV.data (D.fn 34 []):=Option.some.inj (hv2.symm.trans (w_at hv));clear hv2))
  |exact trivial
  |refine And.intro hk ?_
  |((refine lent_step' [(1000000,1000000),(1000001,1000001),(1000002,1000002)] (hc) ?_ ?_ ?_ ?_);rotate_left 0;rfl;(exact⟨rfl,rfl,rfl,trivial⟩);rfl)
  |((refine aP ?_);refine fin_step' [(1000000,1000000),(1000001,1000001),(1000002,1000002)] rfl ?_ ?_)
  |refine fD ?_
  |refine And.intro ?_ ?_
  |((refine bz ?_);refine fB ?_ ?_ ?_;rfl;rfl;(first |exact rfl |skip))
  |exact @rfl AV _
  |fail)
 all_goals rfl
theorem Ns(p:Pr)(R:List (Int×Int))(ins ins2:Ins)(n n2 op:Int)(x:Ex)(hk:0<=x.kind/\x.kind<20)(hv:doD[x.kind.toNat]? = some (.fn 35 []))(hc:LCall Tryz.prog 35 [.ptr 1000000 0,.data x.d] [(1000000,.cells (bi p ins n 1000001 1000002)),(1000001,.tok 2 (List.map jl ins).length),(1000002,.map false [.int .i64] (List.map iiD R))] (.ret (.data (.tuple []))) [(1000000,.cells (bi p ins2 n2 1000001 1000002)),(1000001,.tok 2 (List.map jl ins2).length),(1000002,.map false [.int .i64] (List.map iiD R))]):LCall Tryz.prog 36 [.ptr 1000000 0,.data x.d] [(1000000,.cells (bi p ins n 1000001 1000002)),(1000001,.tok 2 (List.map jl ins).length),(1000002,.map false [.int .i64] (List.map iiD R))] (.ret (.data (.tuple []))) [(1000000,.cells (bi p ins2 n2 1000001 1000002)),(1000001,.tok 2 (List.map jl ins2).length),(1000002,.map false [.int .i64] (List.map iiD R))]:=by
 refine dC Tryz.func36 ?_
 repeat' ((try conv=>whnf)<;>first
  |(split;rotate_left;(rename_i hv2;exact jS (hv2.symm.trans (w_at hv)));(rename_i v hv2;obtain rfl:v=AV.data (D.fn 35 []):=Option.some.inj (hv2.symm.trans (w_at hv));clear hv2))
  |exact trivial
  |refine And.intro hk ?_
  |((refine lent_step' [(1000000,1000000),(1000001,1000001),(1000002,1000002)] (hc) ?_ ?_ ?_ ?_);rotate_left 0;rfl;(exact⟨rfl,rfl,rfl,trivial⟩);rfl)
  |((refine aP ?_);refine fin_step' [(1000000,1000000),(1000001,1000001),(1000002,1000002)] rfl ?_ ?_)
  |refine fD ?_
  |refine And.intro ?_ ?_
  |((refine bz ?_);refine fB ?_ ?_ ?_;rfl;rfl;(first |exact rfl |skip))
  |exact @rfl AV _
  |fail)
 all_goals rfl
theorem XOk.of{p:Pr}{R:List (Int×Int)}{x:Ex}{G:GF}(hG:aN R x=G) (h:∀(ins:Ins) (n:Int),2 * ins.length+3 * Ref15.nodes x<=2000000->0<=n->n+Ref15.nodes x<=1000000 ->
  LCall Tryz.prog 36 [.ptr 1000000 0,.data x.d] [(1000000,.cells (bi p ins n 1000001 1000002)),(1000001,.tok 2 (List.map jl ins).length),(1000002,.map false [.int .i64] (List.map iiD R))] (.ret (.data (.tuple []))) [(1000000,.cells (bi p (ins++(G n).1) (G n).2 1000001 1000002)),(1000001,.tok 2 (List.map jl (ins++(G n).1)).length),(1000002,.map false [.int .i64] (List.map iiD R))]):XOk p R x:=by subst hG;exact h
theorem zg2{p:Pr}{R:List (Int×Int)}{b:Nat}(hl:p.lines.length<=16/\p.tables.length<=16):∀x:Ex,V p b x->Ref15.nodes x<=512->XOk p R x:=by
 refine Ex.ind λx ih v hN=>?_
 have hw:=v.wf
 obtain⟨g1,g2,g3⟩:=aV hw
 have hE:=Ref15.nodes_eq x
 have hi:∀y∈x.l,XOk p R y:=λy hy=>ih y hy (v.part hy) (by have:=rf hy;omega)
 have hs:∀y∈x.l,Sz (aN R y) (3 * Ref15.nodes y-1) (Ref15.nodes y):=λy hy=>Xi y (nI hw hy)
 have hnd:∀y∈x.l,PCall Tryz.prog 76 [y.d] (.ret (.i (ae y))):=λy hy=>RN y (by have:=rf hy;omega) ⟨p,b,nI hw hy⟩
 have hpos:∀y∈x.l,1<=ae y:=λy hy=>oZ y b p (nI hw hy)
 have hsum:=λhk=>z81 hl v hk
 have hG:=Gu R x
 rcases jR g1 (Int.natCast_nonneg _)with⟨h,hk⟩ |⟨h,hk⟩ |⟨h,hk⟩ |⟨h,hk⟩
 ·rcases hk with q |q |q |q |q
  ·exact XOk.of (G:=bQ 1 x.n) (by rw[hG,q];rfl) λins n h1 h2 h3=>z0a p R ins _ n _ 0 x (by omega) (by rw[q];rfl) (Z7 p R ins n x (by omega))
  ·rw[q]at g2;simp[oP]at g2
  ·exact XOk.of (G:=bQ 2 x.index) (by rw[hG,q];rfl) λins n h1 h2 h3=>JK p R ins _ n _ 2 x (by omega) (by rw[q];rfl) (EC p R ins n 2 x (by omega))
  ·exact XOk.of (G:=bQ 3 x.index) (by rw[hG,q];rfl) λins n h1 h2 h3=>JK p R ins _ n _ 3 x (by omega) (by rw[q];rfl) (EC p R ins n 3 x (by omega))
  ·exact XOk.of (G:=bQ 4 ((lkA x.index R).getD 0)) (by rw[hG,q];rfl) λins n h1 h2 h3=>z0b p R ins _ n _ 0 x (by omega) (by rw[q];rfl) (Z8 p R ins n x (by omega))
 ·obtain⟨y,e⟩:=len1 h
  have hsum:=hsum (by omega)
  obtain⟨k,nm,i,m,l⟩:=x
  obtain rfl:l = [y]:=e
  have hy:=hi y (List.mem_singleton.2 rfl)
  have hzy:=hs y (List.mem_singleton.2 rfl)
  have hN2:Ref15.nodesL [y]=Ref15.nodes y:=by rw[Ref15.nodesL,Ref15.nodesL];rfl
  have hE:Ref15.nodes (Ex.mk k nm i m [y])=1+Ref15.nodes y:=by rw[hE];show 1+Ref15.nodesL [y]=_;rw[hN2]
  have hsum:IntKind.i64.wrap (i+m)=i+m:=hsum
  have cc:∀(op:Int) (ins:Ins) (n:Int),2 * ins.length+3 * Ref15.nodes (Ex.mk k nm i m [y])<=2000000->0<=n->n+Ref15.nodes (Ex.mk k nm i m [y])<=1000000->_:=λop ins n h1 h2 h3=>JJ p R ins n op k i m nm y hy hzy (by omega) h2 (by omega) hsum
  have hG:aN R (Ex.mk k nm i m [y])=genC R k i m (cu [y]) (bV R [y]):=hG
  have hf:fAt (bV R [y]) 0=aN R y:=kJ R (j:=0) rfl rfl
  rcases hk with q |q |q |q |q |q |q |q
  ·have q:k=6:=q
   exact XOk.of (G:=gU (aN R y) (bQ 8 (i+m))) (by rw[hG,q,<-hf];rfl) λins n h1 h2 h3=>gW p R ins _ n _ 8 _ (by rw[show Ex.kind (Ex.mk k nm i m [y])=6 from q];decide) (by rw[show Ex.kind (Ex.mk k nm i m [y])=6 from q];rfl) (cc 8 ins n h1 h2 h3)
  ·have q:k=7:=q
   exact XOk.of (G:=gU (aN R y) (bQ 9 (i+m))) (by rw[hG,q,<-hf];rfl) λins n h1 h2 h3=>gW p R ins _ n _ 9 _ (by rw[show Ex.kind (Ex.mk k nm i m [y])=7 from q];decide) (by rw[show Ex.kind (Ex.mk k nm i m [y])=7 from q];rfl) (cc 9 ins n h1 h2 h3)
  ·have q:k=8:=q
   exact XOk.of (G:=gU (aN R y) (bQ 10 (i+m))) (by rw[hG,q,<-hf];rfl) λins n h1 h2 h3=>gW p R ins _ n _ 10 _ (by rw[show Ex.kind (Ex.mk k nm i m [y])=8 from q];decide) (by rw[show Ex.kind (Ex.mk k nm i m [y])=8 from q];rfl) (cc 10 ins n h1 h2 h3)
  ·have q:k=9:=q
   exact XOk.of (G:=gU (aN R y) (bQ 11 (i+m))) (by rw[hG,q,<-hf];rfl) λins n h1 h2 h3=>gW p R ins _ n _ 11 _ (by rw[show Ex.kind (Ex.mk k nm i m [y])=9 from q];decide) (by rw[show Ex.kind (Ex.mk k nm i m [y])=9 from q];rfl) (cc 11 ins n h1 h2 h3)
  ·have q:k=10:=q
   exact XOk.of (G:=gU (aN R y) (bQ 12 (i+m))) (by rw[hG,q,<-hf];rfl) λins n h1 h2 h3=>gW p R ins _ n _ 12 _ (by rw[show Ex.kind (Ex.mk k nm i m [y])=10 from q];decide) (by rw[show Ex.kind (Ex.mk k nm i m [y])=10 from q];rfl) (cc 12 ins n h1 h2 h3)
  ·have q:k=13:=q
   exact XOk.of (G:=gU (aN R y) (bQ 15 (i+m))) (by rw[hG,q,<-hf];rfl) λins n h1 h2 h3=>gW p R ins _ n _ 15 _ (by rw[show Ex.kind (Ex.mk k nm i m [y])=13 from q];decide) (by rw[show Ex.kind (Ex.mk k nm i m [y])=13 from q];rfl) (cc 15 ins n h1 h2 h3)
  ·have q:k=14:=q
   exact XOk.of (G:=gU (aN R y) (bQ 16 (i+m))) (by rw[hG,q,<-hf];rfl) λins n h1 h2 h3=>gW p R ins _ n _ 16 _ (by rw[show Ex.kind (Ex.mk k nm i m [y])=14 from q];decide) (by rw[show Ex.kind (Ex.mk k nm i m [y])=14 from q];rfl) (cc 16 ins n h1 h2 h3)
  ·have q:k=18:=q
   exact XOk.of (G:=gU (aN R y) (bQ 20 (i+m))) (by rw[hG,q,<-hf];rfl) λins n h1 h2 h3=>gW p R ins _ n _ 20 _ (by rw[show Ex.kind (Ex.mk k nm i m [y])=18 from q];decide) (by rw[show Ex.kind (Ex.mk k nm i m [y])=18 from q];rfl) (cc 20 ins n h1 h2 h3)
 ·obtain⟨a,b',e⟩:=len2 h
  obtain⟨k,nm,i,m,l⟩:=x
  obtain rfl:l = [a,b']:=e
  have ma:a ∈ [a,b']:=by simp
  have mb:b' ∈ [a,b']:=by simp
  have hN2:Ref15.nodesL [a,b']=Ref15.nodes a+Ref15.nodes b':=by rw[Ref15.nodesL,Ref15.nodesL,Ref15.nodesL];rfl
  have hE:Ref15.nodes (Ex.mk k nm i m [a,b'])=1+(Ref15.nodes a+Ref15.nodes b'):=by rw[hE];show 1+Ref15.nodesL [a,b']=_;rw[hN2]
  have hG:aN R (Ex.mk k nm i m [a,b'])=genC R k i m [ae a,ae b'] (bV R [a,b']):=by rw[hG];show genC R k i m (cu [a,b']) _=_;rw[iP];rfl
  have cc:∀(op:Int) (ins:Ins) (n:Int),2 * ins.length+3 * Ref15.nodes (Ex.mk k nm i m [a,b'])<=2000000->0<=n->n+Ref15.nodes (Ex.mk k nm i m [a,b'])<=1000000->LCall Tryz.prog 74 [.ptr 1000000 0,.data (Ex.mk k nm i m [a,b']).d,.data (.ptr [.i op])] [(1000000,.cells (bi p ins n 1000001 1000002)),(1000001,.tok 2 (List.map jl ins).length),(1000002,.map false [.int .i64] (List.map iiD R))] (.ret (.data (.tuple []))) [(1000000,.cells (bi p (ins++(qG op [ae a,ae b'] (bV R [a,b']) n).1) (qG op [ae a,ae b'] (bV R [a,b']) n).2 1000001 1000002)),(1000001,.tok 2 (List.map jl (ins++(qG op [ae a,ae b'] (bV R [a,b']) n).1)).length),(1000002,.map false [.int .i64] (List.map iiD R))]:=by
   intro op ins n h1 h2 h3
   rcases Xc (a:=ae a) (b:=ae b') (hpos a ma)with⟨_,e⟩ |⟨_,e⟩
   ·refine vT p R ins n op k i m nm a b' a b' (hnd a ma) (hnd b' mb) (by rw[e];exact RG) (by rw[e];exact Xo) (hi a ma) (hi b' mb) (hs a ma) (hs b' mb) (by rw[e];exact kJ R (j:=0) rfl rfl) (by rw[e];exact kJ R (j:=1) rfl rfl) (by omega) h2 (by omega)
   ·refine vT p R ins n op k i m nm a b' b' a (hnd a ma) (hnd b' mb) (by rw[e];exact Xo) (by rw[e];exact RG) (hi b' mb) (hi a ma) (hs b' mb) (hs a ma) (by rw[e];exact kJ R (j:=1) rfl rfl) (by rw[e];exact kJ R (j:=0) rfl rfl) (by omega) h2 (by omega)
  rcases hk with q |q |q |q |q
  ·have q:k=11:=q
   exact XOk.of (G:=qG 13 [ae a,ae b'] (bV R [a,b'])) (by rw[hG,q];rfl) λins n h1 h2 h3=>mW p R ins _ n _ 13 _ (by rw[show Ex.kind (Ex.mk k nm i m [a,b'])=11 from q];decide) (by rw[show Ex.kind (Ex.mk k nm i m [a,b'])=11 from q];rfl) (cc 13 ins n h1 h2 h3)
  ·have q:k=12:=q
   exact XOk.of (G:=qG 14 [ae a,ae b'] (bV R [a,b'])) (by rw[hG,q];rfl) λins n h1 h2 h3=>mW p R ins _ n _ 14 _ (by rw[show Ex.kind (Ex.mk k nm i m [a,b'])=12 from q];decide) (by rw[show Ex.kind (Ex.mk k nm i m [a,b'])=12 from q];rfl) (cc 14 ins n h1 h2 h3)
  ·have q:k=15:=q
   exact XOk.of (G:=qG 17 [ae a,ae b'] (bV R [a,b'])) (by rw[hG,q];rfl) λins n h1 h2 h3=>mW p R ins _ n _ 17 _ (by rw[show Ex.kind (Ex.mk k nm i m [a,b'])=15 from q];decide) (by rw[show Ex.kind (Ex.mk k nm i m [a,b'])=15 from q];rfl) (cc 17 ins n h1 h2 h3)
  ·have q:k=16:=q
   exact XOk.of (G:=JD [ae a,ae b'] (bV R [a,b'])) (by rw[hG,q];rfl) λins n h1 h2 h3=>z0c p R ins _ n _ 0 _ (by rw[show Ex.kind (Ex.mk k nm i m [a,b'])=16 from q];decide) (by rw[show Ex.kind (Ex.mk k nm i m [a,b'])=16 from q];rfl) (Z9 p R ins n k i m nm a b' (hnd a ma) (hnd b' mb) (hi a ma) (hi b' mb) (hs a ma) (hs b' mb) (by omega) h2 (by omega))
  ·have q:k=17:=q
   exact XOk.of (G:=qG 19 [ae a,ae b'] (bV R [a,b'])) (by rw[hG,q];rfl) λins n h1 h2 h3=>mW p R ins _ n _ 19 _ (by rw[show Ex.kind (Ex.mk k nm i m [a,b'])=17 from q];decide) (by rw[show Ex.kind (Ex.mk k nm i m [a,b'])=17 from q];rfl) (cc 19 ins n h1 h2 h3)
 ·obtain⟨a,b',c,d,e⟩:=zar h
  obtain⟨k,nm,i,m,l⟩:=x
  obtain rfl:l = [a,b',c,d]:=e
  have hE:Ref15.nodes (Ex.mk k nm i m [a,b',c,d])=1+Ref15.nodesL [a,b',c,d]:=hE
  have hG:aN R (Ex.mk k nm i m [a,b',c,d])=genC R k i m [ae a,ae b',ae c,ae d] (bV R [a,b',c,d]):=by rw[hG];show genC R k i m (cu [a,b',c,d]) _=_;rw[iP];rfl
  obtain⟨j,h1,h2,_,_⟩:=Rz (a:=ae a) (b:=ae b') (c:=ae c) (d:=ae d) (hpos a (List.mem_cons_self ..))
  obtain⟨y0,hy0⟩:∃y0,[a,b',c,d][j]? = some y0:=⟨[a,b',c,d][j]'h1,List.getElem?_eq_getElem h1⟩
  have q:k=19:=hk
  exact XOk.of (G:=gIf [ae a,ae b',ae c,ae d] (bV R [a,b',c,d])) (by rw[hG,q];rfl) λins n h3 h4 h5=>Ns p R ins _ n _ 0 _ (by rw[show Ex.kind (Ex.mk k nm i m [a,b',c,d])=19 from q];decide) (by rw[show Ex.kind (Ex.mk k nm i m [a,b',c,d])=19 from q];rfl) (Nr p R ins n k i m nm a b' c d y0 j (hnd a (show a ∈ [a,b',c,d]by simp)) (hnd b' (show b' ∈ [a,b',c,d]by simp)) (hnd c (show c ∈ [a,b',c,d]by simp)) (hnd d (show d ∈ [a,b',c,d]by simp)) h2 hy0 hi hs (by omega) h4 (by omega))
end Go.Proofs.YtaipffoajgkljaaGreatDoor
