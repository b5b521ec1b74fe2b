/- A part of the proof. -/
import Derived.Test.YtaipffoajgkljaaGreatDoorZQA
import Derived.Test.YtaipffoajgkljaaGreatDoorZYC
set_option linter.all false
set_option maxHeartbeats 4000000
namespace Go.Proofs.YtaipffoajgkljaaGreatDoor
open Go.Fw Go.Fw.Ref15 Go.Fw.Rg Go.Fw.Tl Go.Fw.Lw Go.Fw.Mac
set_option maxRecDepth 10000
variable [af]
theorem NF(p:Pr)(g:gy p)(hb:(jF p != 0)=true):PCall Tryz.prog 7 [p.d] (.ret (.tuple [Xb.d,.i (jF p)])):=by
 refine ay Tryz.func7 ?_
 repeat' ((try conv=>whnf)<;>first
  |exact Bool.noConfusion (hb.symm.trans h)
  |refine BrI.intro (λh=>?_) (λh=>?_)
  |((refine ai ?_ ?_ ?_);rotate_left;exact xG p g)
  |(refine cO ?_;conv=>whnf)
  |fail)
 all_goals rfl
theorem EF(p:Pr)(g:gy p)(hb:jF p=0):PCall Tryz.prog 7 [p.d] (.ret (.tuple [(eF p).d,.i 0])):=by
 refine gI tok hmix ⟨[19],[]⟩ Tryz.func7 rfl (by kernel_rfl) (by kernel_rfl) (by kernel_rfl) λhf=>?_
 have hres:=z88 hb
 have hlim:=Gz hres
 have hck:PCall Tryz.prog 15 [p.d] (.ret (.i 0)):=by have:=xG p g;rw[hb]at this;exact this
 have hlen:p.tables.length<=9223372036854775807:=by omega
 have hlen2:p.stmts.length<=9223372036854775807:=by omega
 clear hf
 repeat' ((try conv=>whnf)<;>first
  |((refine OH [(3,30)] ?_ ?_ ?_);kernel_rfl;(refine wY ?_ ?_);(refine Fq rfl rfl rfl rfl rfl rfl ?_);(repeat((refine wZ ?_ ?_);(first |exact trivial |exact rfl)));exact AC;exact AB)
  |((have hq:=z9b hI0);subst hq)
  |(obtain⟨hq1,hq2⟩:=hI2.fin;subst hq1;subst hq2)
  |((have hk1:=‹(x2.kind==1)=true›);(refine PD (k:=(i2:Int)) (S:=lW (i2:Int) (aN R x2.x n).2 R) rfl (λv hv=>?_) (λhv=>z9a hv)))
  |((have hv2:=zds hv);subst hv2;clear hv)
  |exact(hI2.no ‹(x2.kind==1)=false› ‹(x2.kind==2)=false› ‹(x2.kind==3)=false› h)
  |((refine ak.mk 19 ?_);refine⟨⟨Unit,λ_=>[],λ_=>[(30,.cells (bi p (ins++(aN R x2.x n).1) ((aN R x2.x n).2+1) 900002 28)),(28,.map false [.int .i64] (List.map iiD (lW (i2:Int) (aN R x2.x n).2 R)))],[2,5,71,8,73,72,9],λ_=>True,λ_=>0⟩,?_,λ_ _=>?_⟩)
  |refine⟨(),trivial,?_⟩
  |exact trivial
  |exact aj hd2 ‹_›
  |exact aj hd0 ‹_›
  |refine aZ hd2 ?_
  |refine aZ hd0 ?_
  |refine aK hd2 ?_
  |refine aK hd0 ?_
  |refine BrI.intro (λh=>?_) (λh=>?_)
  |refine Cb.l ?_
  |exact congrArg (Block.map false [KS.int IntKind.i64]) (MF _ _ _)
  |((refine ak.mk 0 ?_);refine⟨aB (p.tables) 34 (λ(tabs:(List (List Int)))=>[]) (λ(tabs:(List (List Int)))=>[(30,.cells [.data (.i p.latency),.data (.i p.tail),.data (.sl 3 (p.params.map Bd.cs)),.data (.sl 3 (p.states.map Bd.cs)),.data (.sl 4 (p.lines.map Ln.cs)),.gs 900001 1 (List.map lnC tabs),.data (.i 0),.nilsl 2,.map 28,.data (.val .nilFunc),.data (.val .nilFunc),.data (.val .nilFunc),.data (.val .nilFunc),.data (.val .nilFunc),.data (.val .nilFunc),.data (.val .nilFunc),.data (.val .nilFunc),.data (.val .nilFunc),.data (.val .nilFunc),.data (.val .nilFunc),.data (.val .nilFunc),.data (.val .nilFunc),.data (.val .nilFunc),.data (.val .nilFunc),.data (.val .nilFunc),.data (.val .nilFunc),.data (.val .nilFunc),.data (.val .nilFunc),.data (.val .nilFunc)]),(900001,.tok 1 (List.map lnC tabs).length)]) [1,2,5,32,33] (λi0 r0 tabs=>tabs++r0.map Tb.values=p.tables.map Tb.values),?_⟩;refine ag ([]) ?_ ?_ (λi0 (tabs:(List (List Int))) hd0 hI0=>?_) (λi0 x0 r0 (tabs:(List (List Int))) hd0 hl0 hI0=>?_))
  |refine ah hd0 (tabs++[x0.values]) ?_ ?_
  |((refine ak.mk 2 ?_);refine⟨aB (p.stmts) 73 (λ(q:(Ins)×(Int)×(List (Int×Int)))=>match q with |(ins,n,R)=>[]) (λ(q:(Ins)×(Int)×(List (Int×Int)))=>match q with |(ins,n,R)=>[(30,.cells (bi p ins n 900002 28)),(900002,.tok 2 (List.map jl ins).length),(28,.map false [.int .i64] (List.map iiD R))]) [2,5,8,71,72] (λi2 r2 q=>match q with |(ins,n,R)=>xA p (cmpL p.stmts 0 [] 0) i2 r2 ins n R),?_⟩;refine ag (([]),(0),([])) ?_ ?_ (λi2 ⟨ins,n,R⟩ hd2 hI2=>?_) (λi2 x2 r2 ⟨ins,n,R⟩ hd2 hl2 hI2=>?_))
  |refine ah hd2 (?_,?_,?_) ?_ ?_
  |((refine ai ?_ ?_ ?_);rotate_left;(first |exact Xv _ |exact Nq _ |exact JI _ |exact hck))
  |((refine lent_step' [(1000000,30),(1000001,900002),(1000002,28)] ((zg2 (R:=R) hlim.2 x2.x hI2.sv.v hI2.sv.nd ins n hI2.fit.1.1 hI2.fit.1.2.1 hI2.fit.1.2.2)) ?_ ?_ ?_ ?_);rotate_left 0;exact rfl;(exact⟨rfl,rfl,rfl,trivial⟩);exact rfl)
  |((refine lent_step' [(1000000,30),(1000001,900002),(1000002,28)] (vS p R (ins++(aN R x2.x n).1) (aN R x2.x n).2 hI2.fit.2.2) ?_ ?_ ?_ ?_);rotate_left 0;exact rfl;(exact⟨rfl,rfl,rfl,trivial⟩);exact rfl)
  |((refine lent_step' [(1000000,30),(1000001,900002),(1000002,28)] (dM p (lW (i2:Int) (aN R x2.x n).2 R) (ins++(aN R x2.x n).1) ((aN R x2.x n).2+1) 5 (aN R x2.x n).2 (by have:=hI2.fit.2.1;omega)) ?_ ?_ ?_ ?_);rotate_left 0;exact rfl;(exact⟨rfl,rfl,rfl,trivial⟩);exact rfl)
  |((refine lent_step' [(1000000,30),(1000001,900002),(1000002,28)] (dM p R (ins++(aN R x2.x n).1) (aN R x2.x n).2 6 x2.index (by have:=hI2.fit.2.1;omega)) ?_ ?_ ?_ ?_);rotate_left 0;exact rfl;(exact⟨rfl,rfl,rfl,trivial⟩);exact rfl)
  |((refine lent_step' [(1000000,30),(1000001,900002),(1000002,28)] (dM p R (ins++(aN R x2.x n).1) (aN R x2.x n).2 7 x2.index (by have:=hI2.fit.2.1;omega)) ?_ ?_ ?_ ?_);rotate_left 0;exact rfl;(exact⟨rfl,rfl,rfl,trivial⟩);exact rfl)
  |((refine lent_step' [(1000000,30),(1000001,900002),(1000002,28)] (dM p R (ins++(aN R x2.x n).1) (aN R x2.x n).2 22 0 (by have:=hI2.fit.2.1;omega)) ?_ ?_ ?_ ?_);rotate_left 0;exact rfl;(exact⟨rfl,rfl,rfl,trivial⟩);exact rfl)
  |refine aW.l _ ?_
  |((refine dS ?_ ?_ ?_ ?_ ?_ ?_)<;>exact rfl)
  |((refine dL ?_ ?_ ?_ ?_)<;>exact rfl)
  |((refine au ?_ ?_ ?_ ?_ ?_);exact rfl;exact rfl;rotate_left;(first |exact ax hd2 |exact ax hd0))
  |refine lY ?_
  |refine FB ?_ ?_ ?_
  |refine fD ?_
  |(refine cO ?_;conv=>whnf)
  |refine And.intro ?_ ?_
  |((refine qo ?_ ?_ ?_);exact rfl;exact rfl;(first |exact dU |exact rfl |skip))
  |((refine iK ?_ ?_);exact rfl;(first |exact dU |skip))
  |exact @rfl AV _
  |exact @rfl Block _
  |exact fA rfl
  |fail)
 all_goals first
  |rfl
  |exact ZR hI0
  |exact Xp hres
  |exact hI2.let_ ‹_›
  |exact hI2.set_ ‹_› h
  |exact hI2.push_ ‹_› ‹_› h
  |exact hI2.out_ ‹_› ‹_› ‹_›
  |(rw[List.length_map];exact Nat.le_trans (ZQ hI0) (by rw[List.length_map];omega))
  |exact absurd h (by decide)
theorem yg(p:Pr)(g:gy p):PCall Tryz.prog 7 [p.d] (.ret (.tuple [(zf p).1.d,.i (zf p).2])):=by
 unfold zf
 cases h:(jF p != 0)with
 |true=>exact NF p g h
 |false=>exact EF p g (by simpa using h)
end Go.Proofs.YtaipffoajgkljaaGreatDoor
