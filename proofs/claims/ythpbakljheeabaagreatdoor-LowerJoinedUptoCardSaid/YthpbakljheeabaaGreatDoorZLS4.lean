/- Contracts: package lower: Compile. -/
import Derived.Test.YthpbakljheeabaaGreatDoorZQA
import Derived.Test.YthpbakljheeabaaGreatDoorZYC
set_option linter.unusedSectionVars false
set_option linter.unusedSimpArgs false
set_option linter.unusedVariables false
set_option maxHeartbeats 4000000
namespace Go.Proofs.YthpbakljheeabaaGreatDoor
open Go.Fw Go.Fw.Ref15 Go.Fw.Rg Go.Fw.Tl Go.Fw.Lw Go.Fw.Mac
set_option maxRecDepth 10000
variable [af]
theorem JY(p:Pr)(g:jc p)(hb:(o7 p != 0)=true):PCall Tryz.prog 13 [p.d] (.ret (.tuple [Ue.d,.i (o7 p)])):=by
 refine ae tok hmix ⟨[],[]⟩ Tryz.func13 rfl (by kernel_rfl) (by kernel_rfl) (by kernel_rfl) λhf=>?_
 clear hf
 repeat' ((try(conv=>whnf))<;>first
  |(exact Bool.noConfusion (hb.symm.trans h))
  |refine BrI.intro (λh=>?_) (λh=>?_)
  |((refine ax ?_ ?_ ?_);rotate_left;(exact Cj p g))
  |((refine aj ?_);refine⟨[],rfl,?_,trivial⟩;conv=>whnf)
  |fail)
 all_goals first
  |(rfl)
  |skip
theorem Pi(p:Pr)(g:jc p)(hb:o7 p=0):PCall Tryz.prog 13 [p.d] (.ret (.tuple [(z03 p).d,.i 0])):=by
 refine ae tok hmix ⟨[19],[]⟩ Tryz.func13 rfl (by kernel_rfl) (by kernel_rfl) (by kernel_rfl) λhf=>?_
 have hres:=z1i hb
 have hlim:=Uo hres
 have hck:PCall Tryz.prog 14 [p.d] (.ret (.i 0)):=by have:=Cj p g;rw[hb]at this;exact this
 have hlen:p.tables.length<=9223372036854775807:=by omega
 have hlen2:p.stmts.length<=9223372036854775807:=by omega
 clear hf
 repeat' ((try(conv=>whnf))<;>first
  |((refine Le [(3,30)] ?_ ?_ ?_);kernel_rfl;(refine vG ?_ ?_);(refine Dv rfl rfl rfl rfl rfl rfl ?_);(repeat((refine vH ?_ ?_);(first |exact trivial |exact rfl)));(exact zn);(exact zl))
  |((have hq:=z1k hI0);subst hq)
  |(obtain⟨hq1,hq2⟩:=hI2.fin;subst hq1;subst hq2)
  |((have hk1:=‹(x2.kind==1)=true›);(refine MK (k:=(i2:Int)) (S:=mM (i2:Int) (bn R x2.x n).2 R) rfl (λv hv=>?_) (λhv=>z1j hv)))
  |((have hv2:=z6i hv);subst hv2;clear hv)
  |(exact(hI2.no ‹(x2.kind==1)=false› ‹(x2.kind==2)=false› ‹(x2.kind==3)=false› h))
  |((refine aB.mk 19 ?_);refine⟨⟨Unit,λ_=>[],λ_=>[(30,.cells (aX p (ins++(bn R x2.x n).1) ((bn R x2.x n).2+1) 900002 28)),(28,.map false [.int .i64] (List.map iiD (mM (i2:Int) (bn R x2.x n).2 R)))],[2,5,71,8,73,72,9],λ_=>True,λ_=>0⟩,?_,λ_ _=>?_⟩)
  |(refine⟨(),trivial,?_⟩)
  |exact trivial
  |exact au hd2 ‹_›
  |exact au hd0 ‹_›
  |refine bu hd2 ?_
  |refine bu hd0 ?_
  |refine aN hd2 ?_
  |refine aN hd0 ?_
  |refine BrI.intro (λh=>?_) (λh=>?_)
  |(exact congrArg (Block.map false [KS.int IntKind.i64]) (JA _ _ _))
  |((refine aB.mk 0 ?_);refine⟨aJ (p.tables) 34 (λ(tabs:(List (List Int)))=>[]) (λ(tabs:(List (List Int)))=>[(30,.cells [.data (.i p.latency),.data (.i p.tail),.data (.sl 3 (p.params.map Bd.cs)),.data (.sl 3 (p.states.map Bd.cs)),.data (.sl 4 (p.lines.map Ln.cs)),.gs 900001 1 (List.map lnC tabs),.data (.i 0),.nilsl 2,.map 28,.data (.val .nilFunc),.data (.val .nilFunc),.data (.val .nilFunc),.data (.val .nilFunc),.data (.val .nilFunc),.data (.val .nilFunc),.data (.val .nilFunc),.data (.val .nilFunc),.data (.val .nilFunc),.data (.val .nilFunc),.data (.val .nilFunc),.data (.val .nilFunc),.data (.val .nilFunc),.data (.val .nilFunc),.data (.val .nilFunc),.data (.val .nilFunc),.data (.val .nilFunc),.data (.val .nilFunc),.data (.val .nilFunc),.data (.val .nilFunc)]),(900001,.tok 1 (List.map lnC tabs).length)]) [1,2,5,32,33] (λi0 r0 tabs=>tabs++r0.map Tb.values=p.tables.map Tb.values),?_⟩;refine ah ([]) ?_ ?_ (λi0 (tabs:(List (List Int))) hd0 hI0=>?_) (λi0 x0 r0 (tabs:(List (List Int))) hd0 hl0 hI0=>?_))
  |(refine ai hd0 (tabs++[x0.values]) ?_ ?_)
  |((refine aB.mk 2 ?_);refine⟨aJ (p.stmts) 73 (λ(q:(Ins)×(Int)×(List (Int×Int)))=>match q with |(ins,n,R)=>[]) (λ(q:(Ins)×(Int)×(List (Int×Int)))=>match q with |(ins,n,R)=>[(30,.cells (aX p ins n 900002 28)),(900002,.tok 2 (List.map insC ins).length),(28,.map false [.int .i64] (List.map iiD R))]) [2,5,8,71,72] (λi2 r2 q=>match q with |(ins,n,R)=>vV p (cmpL p.stmts 0 [] 0) i2 r2 ins n R),?_⟩;refine ah (([]),(0),([])) ?_ ?_ (λi2 ⟨ins,n,R⟩ hd2 hI2=>?_) (λi2 x2 r2 ⟨ins,n,R⟩ hd2 hl2 hI2=>?_))
  |(refine ai hd2 (?_,?_,?_) ?_ ?_)
  |((refine ax ?_ ?_ ?_);rotate_left;(first |exact Uw _ |exact JO _ |exact GU _ |exact hck))
  |((refine lent_step' [(1000000,30),(1000001,900002),(1000002,28)] ((zak (R:=R) hlim.2 x2.x hI2.sv.v hI2.sv.nd ins n hI2.fit.1.1 hI2.fit.1.2.1 hI2.fit.1.2.2)) ?_ ?_ ?_ ?_);rotate_left 0;exact rfl;(exact⟨rfl,rfl,rfl,trivial⟩);exact rfl)
  |((refine lent_step' [(1000000,30),(1000001,900002),(1000002,28)] (uz p R (ins++(bn R x2.x n).1) (bn R x2.x n).2 hI2.fit.2.2) ?_ ?_ ?_ ?_);rotate_left 0;exact rfl;(exact⟨rfl,rfl,rfl,trivial⟩);exact rfl)
  |((refine lent_step' [(1000000,30),(1000001,900002),(1000002,28)] (dF p (mM (i2:Int) (bn R x2.x n).2 R) (ins++(bn R x2.x n).1) ((bn R x2.x n).2+1) 5 (bn R x2.x n).2 (by have:=hI2.fit.2.1;omega)) ?_ ?_ ?_ ?_);rotate_left 0;exact rfl;(exact⟨rfl,rfl,rfl,trivial⟩);exact rfl)
  |((refine lent_step' [(1000000,30),(1000001,900002),(1000002,28)] (dF p R (ins++(bn R x2.x n).1) (bn R x2.x n).2 6 x2.index (by have:=hI2.fit.2.1;omega)) ?_ ?_ ?_ ?_);rotate_left 0;exact rfl;(exact⟨rfl,rfl,rfl,trivial⟩);exact rfl)
  |((refine lent_step' [(1000000,30),(1000001,900002),(1000002,28)] (dF p R (ins++(bn R x2.x n).1) (bn R x2.x n).2 7 x2.index (by have:=hI2.fit.2.1;omega)) ?_ ?_ ?_ ?_);rotate_left 0;exact rfl;(exact⟨rfl,rfl,rfl,trivial⟩);exact rfl)
  |((refine lent_step' [(1000000,30),(1000001,900002),(1000002,28)] (dF p R (ins++(bn R x2.x n).1) (bn R x2.x n).2 22 0 (by have:=hI2.fit.2.1;omega)) ?_ ?_ ?_ ?_);rotate_left 0;exact rfl;(exact⟨rfl,rfl,rfl,trivial⟩);exact rfl)
  |(refine aZ.l _ ?_)
  |((refine dY ?_ ?_ ?_ ?_ ?_ ?_)<;>exact rfl)
  |((refine eX ?_ ?_ ?_ ?_)<;>exact rfl)
  |((refine aH ?_ ?_ ?_ ?_ ?_);exact rfl;exact rfl;rotate_left;(first |exact aF hd2 |exact aF hd0))
  |((refine aP ?_ ?_);exact rfl)
  |((refine app_step' ?_ ?_ ?_ ?_ ?_ ?_ ?_);exact rfl;exact rfl;exact rfl;exact rfl)
  |((refine az ?_ ?_);kernel_rfl)
  |((refine aj ?_);refine⟨[],rfl,?_,trivial⟩;conv=>whnf)
  |(refine And.intro ?_ ?_)
  |((refine rq ?_ ?_ ?_);exact rfl;exact rfl;(first |exact fE |exact rfl |skip))
  |((refine jf ?_ ?_);exact rfl;(first |exact fE |skip))
  |exact @rfl AV _
  |exact @rfl Block _
  |exact iU rfl
  |fail)
 all_goals first
  |(rfl)
  |((exact WX hI0))
  |((exact Ur hres))
  |((exact hI2.let_ ‹_›))
  |((exact hI2.set_ ‹_› h))
  |((exact hI2.push_ ‹_› ‹_› h))
  |((exact hI2.out_ ‹_› ‹_› ‹_›))
  |((rw[List.length_map];exact Nat.le_trans (WW hI0) (by rw[List.length_map];omega)))
  |((exact absurd h (by decide)))
  |skip
theorem Hy(p:Pr)(g:jc p):PCall Tryz.prog 13 [p.d] (.ret (.tuple [(xP p).1.d,.i (xP p).2])):=by
 unfold xP
 cases h:(o7 p != 0)with
 |true=>exact JY p g h
 |false=>exact Pi p g (by simpa using h)
end Go.Proofs.YthpbakljheeabaaGreatDoor
