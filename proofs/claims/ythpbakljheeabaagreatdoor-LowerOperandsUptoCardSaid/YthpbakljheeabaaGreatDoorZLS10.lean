/- Contracts: the laws of lower: LowerOperands. -/
import Derived.Test.YthpbakljheeabaaGreatDoorZQC
set_option linter.unusedSectionVars false
set_option linter.unusedSimpArgs false
set_option linter.unusedVariables false
set_option maxHeartbeats 4000000
namespace Go.Proofs.YthpbakljheeabaaGreatDoor
open Go.Fw Go.Fw.Ref15 Go.Fw.Rg Go.Fw.Tl Go.Fw.Lw
open Go.Fw.Mac hiding W
set_option maxRecDepth 10000
variable [af]
theorem Xo(c:Cd)(u:Nat)(a:Int)(g:c.Sm)(hfw:Ai c=false):PCall Tryz.prog 5 [c.d,.val (.int .u16 (u:Int)),.i a] (.ret (.b true)):=by
 refine ae tok hmix ⟨[],[]⟩ Tryz.func5 rfl (by kernel_rfl) (by kernel_rfl) (by kernel_rfl) λhf=>?_
 have hff:PCall Tryz.prog 9 [c.d] (.ret (.b false)):=by have:=zK c g;rw[hfw]at this;exact this
 clear hf
 repeat' ((try(conv=>whnf))<;>first
  |((refine Go.Fw.BrI.tt_of ?_ ?_);exact rfl)
  |refine BrI.intro (λh=>?_) (λh=>?_)
  |((refine ak ?_ ?_ ?_);rotate_left;(first |exact vS |exact hff |exact jg c g))
  |((refine bu ?_ ?_ (λhg=>?_) ?_);exact rfl)
  |((refine dB ?_ ?_);exact rfl;exact rfl)
  |((refine ai ?_);refine⟨[],rfl,?_,trivial⟩;conv=>whnf)
  |fail)
 all_goals first
  |((exact absurd h (by decide)))
  |skip
theorem z1r(c:Cd)(u:Nat)(a:Int)(g:c.Sm)(hk:checkP c=false):PCall Tryz.prog 5 [c.d,.val (.int .u16 (u:Int)),.i a] (.ret (.b true)):=by
 refine ae tok hmix ⟨[],[]⟩ Tryz.func5 rfl (by kernel_rfl) (by kernel_rfl) (by kernel_rfl) λhf=>?_
 have hc:PCall Tryz.prog 10 [c.d] (.ret (.i 200)):=by have:=jg c g;rw[hk]at this;exact this
 clear hf
 repeat' ((try(conv=>whnf))<;>first
  |((refine Go.Fw.BrI.tt_of ?_ ?_);exact z1p _ _)
  |refine BrI.intro (λh=>?_) (λh=>?_)
  |((refine ak ?_ ?_ ?_);rotate_left;(first |exact vS |exact zK c g |exact hc))
  |((refine bu ?_ ?_ (λhg=>?_) ?_);exact rfl)
  |((refine dB ?_ ?_);exact rfl;exact rfl)
  |((refine ai ?_);refine⟨[],rfl,?_,trivial⟩;conv=>whnf)
  |fail)
 all_goals first
  |((exact absurd h (by decide)))
  |skip
theorem Uu(c:Cd)(u:Nat)(a:Int)(g:c.Sm)(h0:0<c.instrs.length):PCall Tryz.prog 10 [.agg [.i c.latency,.i c.tail,.sl 3 (c.params.map Bd.cs),.sl 3 (c.states.map Bd.cs),.sl 4 (c.lines.map Ln.cs),.sl 1 (c.tables.map lnC),.i c.regs,.sl 2 ((((([]:List (List D)).take 0++c.instrs.map insC).set (0+((opI c u:Nat):Int).toNat) [.i (opX c u).1,.i a]).drop 0).take (0+(c.instrs.map insC).length))]] (.ret (.i (okE (checkP { c with instrs:=c.instrs.set (opI c u) ((opX c u).1,a) })))):=by
 rw[z6u h0,z1o (by rw[List.length_set,List.length_map,Nat.zero_add])]
 exact jg { c with instrs:=c.instrs.set (opI c u) ((opX c u).1,a) } ⟨g.params,g.states,g.lines,g.tables,by show(c.instrs.set _ _).length<=_;rw[List.length_set];exact g.instrs,g.table⟩
theorem z1s(c:Cd)(u:Nat)(a:Int)(g:c.Sm)(hu:u<=65535)(hfw:Ai c=true)(hk:checkP c=true):PCall Tryz.prog 5 [c.d,.val (.int .u16 (u:Int)),.i a] (.ret (.b true)):=by
 refine ae tok hmix ⟨[7,25],[]⟩ Tryz.func5 rfl (by kernel_rfl) (by kernel_rfl) (by kernel_rfl) λhf=>?_
 have hcc:PCall Tryz.prog 10 [c.d] (.ret (.i 0)):=by have:=jg c g;rw[hk]at this;exact this
 have hff:PCall Tryz.prog 9 [c.d] (.ret (.b true)):=by have:=zK c g;rw[hfw]at this;exact this
 have hin:=z6h g hfw
 have h0:0<c.instrs.length:=by obtain⟨l,x,e⟩:=z1l g hk;rw[e];simp
 have hlen:c.instrs.length<=9223372036854775807:=by omega
 clear hf
 repeat' ((try(conv=>whnf))<;>first
  |((refine aA.mk 7 ?_);refine⟨⟨Unit,λ_=>[(7,.data (.i ((opI c u:Nat):Int))),(8,.data (.i 0)),(9,.data (.i 0))],λ_=>[],[2,3],λ_=>True,λ_=>0⟩,?_,λ_ _=>?_⟩)
  |((refine aA.mk 25 ?_);refine⟨⟨Unit,λ_=>[(8,.data (.i (effP c (opX c u).1).2.2.1)),(9,.data (.i (effP c (opX c u).1).2.2.2))],λ_=>[],[2,3,7],λ_=>True,λ_=>0⟩,?_,λ_ _=>?_⟩)
  |(refine⟨(),trivial,?_⟩)
  |(refine aY.r 117 ?_)
  |(have hq:=hI1.fin;subst hq)
  |exact trivial
  |exact au hd1 ‹_›
  |refine BrI.tt ?_
  |refine bi hd1 ?_
  |refine aK hd1 ?_
  |refine BrI.intro (λh=>?_) (λh=>?_)
  |((refine oH ?_ ?_ ?_ ?_ ?_ ?_ ?_ ?_);exact rfl;exact rfl;exact rfl;exact Nat.zero_le _;exact rfl;exact Nat.zero_le _;(rw[List.length_map];omega))
  |((refine jr ?_ ?_ ?_ ?_ ?_);exact rfl;exact rfl;exact rfl;exact(z9g h0))
  |((refine gQ ?_ ?_ ?_ ?_ ?_ ?_ ?_ ?_ ?_);exact rfl;exact rfl;exact rfl;exact rfl;exact iP rfl;exact rfl;rotate_left;exact(z6t h0))
  |((refine aG ?_ ?_ ?_ ?_ ?_);exact rfl;exact rfl;rotate_left;(first |exact z6s h0 |exact aC hd1))
  |(exact congrArg (λn=>AV.data (D.i n)) (z1q h0 hu))
  |(exact congrArg (λe:Int×Int=>AV.data (D.i e.1)) (z6i h).symm)
  |(exact congrArg (λe:Int×Int=>AV.data (D.i e.2)) (z6i h).symm)
  |(exact congrArg (λe:Int×Int=>AV.data (D.i e.1)) (z6j h).symm)
  |(exact congrArg (λn=>AV.data (D.i n)) (z9i h))
  |(exact congrArg (λe:Int×Int=>AV.data (D.i e.1)) (z6k h).symm)
  |(exact congrArg (λn=>AV.data (D.i n)) (z9j h))
  |(exact congrArg (λe:Int×Int=>AV.data (D.i e.1)) (z6l h).symm)
  |(exact congrArg (λn=>AV.data (D.i n)) (z9k h))
  |(exact congrArg (λe:Int×Int=>AV.data (D.i e.1)) (z6m h).symm)
  |(exact congrArg (λe:Int×Int=>AV.data (D.i e.2)) (z6m h).symm)
  |(exact congrArg (λe:Int×Int=>AV.data (D.i e.1)) (z6n h).symm)
  |(exact congrArg (λe:Int×Int=>AV.data (D.i e.2)) (z6n h).symm)
  |(exact congrArg (λe:Int×Int=>AV.data (D.i e.1)) (z6o h).symm)
  |(exact congrArg (λn=>AV.data (D.i n)) (z9l h))
  |(exact congrArg (λe:Int×Int=>AV.data (D.i e.1)) (Yp h).symm)
  |(exact congrArg (λn=>AV.data (D.i n)) (z6x h))
  |(exact congrArg (λe:Int×Int=>AV.data (D.i e.1)) (Yq h).symm)
  |(exact congrArg (λn=>AV.data (D.i n)) (z6y h))
  |(exact congrArg (λe:Int×Int=>AV.data (D.i e.1)) (Yr h).symm)
  |(exact congrArg (λe:Int×Int=>AV.data (D.i e.2)) (Yr h).symm)
  |(exact congrArg (λe:Int×Int=>AV.data (D.i e.1)) (z6p ‹((opX c u).1==1)=false› ‹((opX c u).1==2)=false› ‹((opX c u).1==3)=false› ‹((opX c u).1==6)=false› ‹((opX c u).1==4)=false› ‹((opX c u).1==5)=false› ‹((opX c u).1==7)=false› ‹((opX c u).1==10)=false› ‹((opX c u).1==11)=false› ‹((opX c u).1==20)=false›).symm)
  |(exact congrArg (λe:Int×Int=>AV.data (D.i e.2)) (z6p ‹((opX c u).1==1)=false› ‹((opX c u).1==2)=false› ‹((opX c u).1==3)=false› ‹((opX c u).1==6)=false› ‹((opX c u).1==4)=false› ‹((opX c u).1==5)=false› ‹((opX c u).1==7)=false› ‹((opX c u).1==10)=false› ‹((opX c u).1==11)=false› ‹((opX c u).1==20)=false›).symm)
  |((refine aA.mk 1 ?_);refine⟨aI (c.instrs) 88 (λ(w:(Bool))=>[(10,.data (.val (.bool w)))]) (λ(w:(Bool))=>[]) [2,3,7,86,87] (λi1 r1 w=>Ee c u a (checkP { c with instrs:=c.instrs.set (opI c u) ((opX c u).1,a) }) i1 r1 w),?_⟩;refine ag ((bif decide (a>=(effP c (opX c u).1).2.2.1)then decide (a<=(effP c (opX c u).1).2.2.2)else false)) ?_ ?_ (λi1 (w:(Bool)) hd1 hI1=>?_) (λi1 x1 r1 (w:(Bool)) hd1 hl1 hI1=>?_))
  |(refine ah hd1 ?_ ?_ ?_)
  |((refine ak ?_ ?_ ?_);rotate_left;(first |exact vS |exact hff |exact hcc))
  |((refine sZ ?_ ?_);exact rfl)
  |((refine FC ?_ ?_ ?_);rotate_left;(exact Uu c u a g h0))
  |((refine aN ?_ ?_);exact rfl)
  |((refine bu ?_ ?_ (λhg=>?_) ?_);exact rfl)
  |((refine dB ?_ ?_);exact rfl;exact rfl)
  |((refine ai ?_);refine⟨[],rfl,?_,trivial⟩;conv=>whnf)
  |(refine And.intro ?_ ?_)
  |exact @rfl AV _
  |fail)
 all_goals first
  |((exact⟨(Xm hk (by omega) (by omega) (z1m h0) rfl).symm⟩))
  |((exact z6v h0))
  |((exact z9h))
  |((exact congrArg D.b (z6w _)))
  |((exact hI1.hit h))
  |((exact hI1.no h))
  |((exact absurd h (by decide)))
  |skip
theorem Xp(c:Cd)(u:Nat)(a:Int)(g:c.Sm)(hu:u<=65535):PCall Tryz.prog 5 [c.d,.val (.int .u16 (u:Int)),.i a] (.ret (.b true)):=by
 cases hk:checkP c with
 |false=>exact z1r c u a g hk
 |true=>
  cases hfw:Ai c with
  |false=>exact Xo c u a g hfw
  |true=>exact z1s c u a g hu hfw hk
end Go.Proofs.YthpbakljheeabaaGreatDoor
