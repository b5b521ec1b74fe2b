/- Contracts: package lower: Compile. -/
import Derived.Test.YthpbakljheeabaaGreatDoorZQA
import Derived.Test.YthpbakljheeabaaGreatDoorZYC
set_option linter.unusedSectionVars false
set_option linter.unusedSimpArgs false
set_option linter.unusedVariables false
set_option maxHeartbeats 4000000
namespace Go.Proofs.YthpbakljheeabaaGreatDoor
open Go.Fw Go.Fw.Ref15 Go.Fw.Rg Go.Fw.Tl Go.Fw.Lw Go.Fw.Mac
set_option maxRecDepth 10000
variable [ah]
theorem Ai(p:Pr)(g:gq p)(hb:(kZ p != 0)=true):PCall Tryz.prog 13 [p.d] (.ret (.tuple [UD.d,.i (kZ p)])):=by
 refine aJ Tryz.func13 ?_
 repeat' ((try(conv=>whnf))<;>first
  |(exact Bool.noConfusion (hb.symm.trans h))
  |refine BrI.intro (λh=>?_) (λh=>?_)
  |((refine ai ?_ ?_ ?_);rotate_left;(exact qm p g))
  |(refine fA ?_;conv=>whnf)
  |fail)
 all_goals first
  |(rfl)
  |skip
theorem C9(p:Pr)(g:gq p)(hb:kZ p=0):PCall Tryz.prog 13 [p.d] (.ret (.tuple [(ji p).d,.i 0])):=by
 refine iH tok hmix ⟨[19],[]⟩ Tryz.func13 rfl (by kernel_rfl) (by kernel_rfl) (by kernel_rfl) λhf=>?_
 have hres:=J9 hb
 have hlim:=Ko hres
 have hck:PCall Tryz.prog 14 [p.d] (.ret (.i 0)):=by have:=qm p g;rw[hb]at this;exact this
 have hlen:p.tables.length<=9223372036854775807:=by omega
 have hlen2:p.stmts.length<=9223372036854775807:=by omega
 clear hf
 repeat' ((try(conv=>whnf))<;>first
  |((refine LX [(3,30)] ?_ ?_ ?_);kernel_rfl;(refine vU ?_ ?_);(refine DV rfl rfl rfl rfl rfl rfl ?_);(repeat((refine vV ?_ ?_);(first |exact trivial |exact rfl)));(exact zD);(exact zC))
  |((have hq:=z1z hI0);subst hq)
  |(obtain⟨hq1,hq2⟩:=hI2.fin;subst hq1;subst hq2)
  |((have hk1:=‹(x2.kind==1)=true›);(refine Ns (k:=(i2:Int)) (S:=lL (i2:Int) (aU R x2.x n).2 R) rfl (λv hv=>?_) (λhv=>z1y hv)))
  |((have hv2:=z6p hv);subst hv2;clear hv)
  |(exact(hI2.no ‹(x2.kind==1)=false› ‹(x2.kind==2)=false› ‹(x2.kind==3)=false› h))
  |((refine au.mk 19 ?_);refine⟨⟨Unit,λ_=>[],λ_=>[(30,.cells (aY p (ins++(aU R x2.x n).1) ((aU R x2.x n).2+1) 900002 28)),(28,.map false [.int .i64] (List.map iiD (lL (i2:Int) (aU R x2.x n).2 R)))],[2,5,71,8,73,72,9],λ_=>True,λ_=>0⟩,?_,λ_ _=>?_⟩)
  |(refine⟨(),trivial,?_⟩)
  |exact trivial
  |exact aj hd2 ‹_›
  |exact aj hd0 ‹_›
  |refine bu hd2 ?_
  |refine bu hd0 ?_
  |refine aN hd2 ?_
  |refine aN hd0 ?_
  |refine BrI.intro (λh=>?_) (λh=>?_)
  |(exact congrArg (Block.map false [KS.int IntKind.i64]) (JW _ _ _))
  |((refine au.mk 0 ?_);refine⟨aF (p.tables) 34 (λ(tabs:(List (List Int)))=>[]) (λ(tabs:(List (List Int)))=>[(30,.cells [.data (.i p.latency),.data (.i p.tail),.data (.sl 3 (p.params.map Bd.cs)),.data (.sl 3 (p.states.map Bd.cs)),.data (.sl 4 (p.lines.map Ln.cs)),.gs 900001 1 (List.map lnC tabs),.data (.i 0),.nilsl 2,.map 28,.data (.val .nilFunc),.data (.val .nilFunc),.data (.val .nilFunc),.data (.val .nilFunc),.data (.val .nilFunc),.data (.val .nilFunc),.data (.val .nilFunc),.data (.val .nilFunc),.data (.val .nilFunc),.data (.val .nilFunc),.data (.val .nilFunc),.data (.val .nilFunc),.data (.val .nilFunc),.data (.val .nilFunc),.data (.val .nilFunc),.data (.val .nilFunc),.data (.val .nilFunc),.data (.val .nilFunc),.data (.val .nilFunc),.data (.val .nilFunc)]),(900001,.tok 1 (List.map lnC tabs).length)]) [1,2,5,32,33] (λi0 r0 tabs=>tabs++r0.map Tb.values=p.tables.map Tb.values),?_⟩;refine af ([]) ?_ ?_ (λi0 (tabs:(List (List Int))) hd0 hI0=>?_) (λi0 x0 r0 (tabs:(List (List Int))) hd0 hl0 hI0=>?_))
  |(refine ag hd0 (tabs++[x0.values]) ?_ ?_)
  |((refine au.mk 2 ?_);refine⟨aF (p.stmts) 73 (λ(q:(Ins)×(Int)×(List (Int×Int)))=>match q with |(ins,n,R)=>[]) (λ(q:(Ins)×(Int)×(List (Int×Int)))=>match q with |(ins,n,R)=>[(30,.cells (aY p ins n 900002 28)),(900002,.tok 2 (List.map iT ins).length),(28,.map false [.int .i64] (List.map iiD R))]) [2,5,8,71,72] (λi2 r2 q=>match q with |(ins,n,R)=>wH p (cmpL p.stmts 0 [] 0) i2 r2 ins n R),?_⟩;refine af (([]),(0),([])) ?_ ?_ (λi2 ⟨ins,n,R⟩ hd2 hI2=>?_) (λi2 x2 r2 ⟨ins,n,R⟩ hd2 hl2 hI2=>?_))
  |(refine ag hd2 (?_,?_,?_) ?_ ?_)
  |((refine ai ?_ ?_ ?_);rotate_left;(first |exact UY _ |exact Kw _ |exact H5 _ |exact hck))
  |((refine lent_step' [(1000000,30),(1000001,900002),(1000002,28)] ((zae (R:=R) hlim.2 x2.x hI2.sv.v hI2.sv.nd ins n hI2.fit.1.1 hI2.fit.1.2.1 hI2.fit.1.2.2)) ?_ ?_ ?_ ?_);rotate_left 0;exact rfl;(exact⟨rfl,rfl,rfl,trivial⟩);exact rfl)
  |((refine lent_step' [(1000000,30),(1000001,900002),(1000002,28)] (uJ p R (ins++(aU R x2.x n).1) (aU R x2.x n).2 hI2.fit.2.2) ?_ ?_ ?_ ?_);rotate_left 0;exact rfl;(exact⟨rfl,rfl,rfl,trivial⟩);exact rfl)
  |((refine lent_step' [(1000000,30),(1000001,900002),(1000002,28)] (dJ p (lL (i2:Int) (aU R x2.x n).2 R) (ins++(aU R x2.x n).1) ((aU R x2.x n).2+1) 5 (aU R x2.x n).2 (by have:=hI2.fit.2.1;omega)) ?_ ?_ ?_ ?_);rotate_left 0;exact rfl;(exact⟨rfl,rfl,rfl,trivial⟩);exact rfl)
  |((refine lent_step' [(1000000,30),(1000001,900002),(1000002,28)] (dJ p R (ins++(aU R x2.x n).1) (aU R x2.x n).2 6 x2.index (by have:=hI2.fit.2.1;omega)) ?_ ?_ ?_ ?_);rotate_left 0;exact rfl;(exact⟨rfl,rfl,rfl,trivial⟩);exact rfl)
  |((refine lent_step' [(1000000,30),(1000001,900002),(1000002,28)] (dJ p R (ins++(aU R x2.x n).1) (aU R x2.x n).2 7 x2.index (by have:=hI2.fit.2.1;omega)) ?_ ?_ ?_ ?_);rotate_left 0;exact rfl;(exact⟨rfl,rfl,rfl,trivial⟩);exact rfl)
  |((refine lent_step' [(1000000,30),(1000001,900002),(1000002,28)] (dJ p R (ins++(aU R x2.x n).1) (aU R x2.x n).2 22 0 (by have:=hI2.fit.2.1;omega)) ?_ ?_ ?_ ?_);rotate_left 0;exact rfl;(exact⟨rfl,rfl,rfl,trivial⟩);exact rfl)
  |(refine aZ.l _ ?_)
  |((refine eH ?_ ?_ ?_ ?_ ?_ ?_)<;>exact rfl)
  |((refine fE ?_ ?_ ?_ ?_)<;>exact rfl)
  |((refine ay ?_ ?_ ?_ ?_ ?_);exact rfl;exact rfl;rotate_left;(first |exact ax hd2 |exact ax hd0))
  |((refine aK ?_ ?_);exact rfl)
  |((refine app_step' ?_ ?_ ?_ ?_ ?_ ?_ ?_);exact rfl;exact rfl;exact rfl;exact rfl)
  |((refine ak ?_ ?_);kernel_rfl)
  |(refine fA ?_;conv=>whnf)
  |(refine And.intro ?_ ?_)
  |((refine rP ?_ ?_ ?_);exact rfl;exact rfl;(first |exact fK |exact rfl |skip))
  |((refine jl ?_ ?_);exact rfl;(first |exact fK |skip))
  |exact @rfl AV _
  |exact @rfl Block _
  |exact jm rfl
  |fail)
 all_goals first
  |(rfl)
  |((exact Xo hI0))
  |((exact UU hres))
  |((exact hI2.let_ ‹_›))
  |((exact hI2.set_ ‹_› h))
  |((exact hI2.push_ ‹_› ‹_› h))
  |((exact hI2.out_ ‹_› ‹_› ‹_›))
  |((rw[List.length_map];exact Nat.le_trans (Xn hI0) (by rw[List.length_map];omega)))
  |((exact absurd h (by decide)))
  |skip
theorem Iw(p:Pr)(g:gq p):PCall Tryz.prog 13 [p.d] (.ret (.tuple [(yg p).1.d,.i (yg p).2])):=by
 unfold yg
 cases h:(kZ p != 0)with
 |true=>exact Ai p g h
 |false=>exact C9 p g (by simpa using h)
end Go.Proofs.YthpbakljheeabaaGreatDoor
