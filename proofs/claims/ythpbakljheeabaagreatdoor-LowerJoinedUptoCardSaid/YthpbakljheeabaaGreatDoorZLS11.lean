/- Contracts: the laws of lower: LowerJoined. -/
import Derived.Test.YthpbakljheeabaaGreatDoorZLS10
import Derived.Test.YthpbakljheeabaaGreatDoorZLD19
set_option linter.unusedSectionVars false
set_option linter.unusedSimpArgs false
set_option linter.unusedVariables false
set_option maxHeartbeats 4000000
namespace Go.Proofs.YthpbakljheeabaaGreatDoor
open Go.Fw Go.Fw.Ref15 Go.Fw.Rg Go.Fw.Tl Go.Fw.Lw
open Go.Fw.Mac hiding W
set_option maxRecDepth 10000
variable [af]
section
variable (c d : Cd) (g : c.Sm) (gd : d.Sm)
theorem z2j(g:c.Sm)(gd:d.Sm):PCall Tryz.prog 10 [.agg [.i c.latency,.i c.tail,.sl 3 (c.params.map Bd.cs),.sl 3 (c.states.map Bd.cs),.sl 4 (c.lines.map Ln.cs),.sl 1 (c.tables.map lnC),.i d.regs,.sl 2 (d.instrs.map insC)]] (.ret (.i (okE (checkP (jd c d))))):=
 jm (jd c d) ⟨g.params,g.states,g.lines,g.tables,gd.instrs,g.table⟩
theorem z2k(g:c.Sm)(gd:d.Sm)(h:gQ c=true/\gQ d=true/\c.regs<=1000)(k:checkP c=true/\checkP (jd c d)=true):PCall Tryz.prog 10 [.agg [.i c.latency,.i c.tail,.sl 3 (c.params.map Bd.cs),.sl 3 (c.states.map Bd.cs),.sl 4 (c.lines.map Ln.cs),.sl 1 (c.tables.map lnC),.i (jM c d),.sl 2 ((((jL c d).map insC).drop 0).take (jL c d).length)]] (.ret (.i 200)):=by
 rw[List.drop_zero,List.take_of_length_le (by simp)]
 have:=jm (XH c d) (z9w g gd h);rw[z7f g gd h k]at this;exact this
theorem z2l(g:c.Sm)(gd:d.Sm)(h:gQ c=true/\gQ d=true/\c.regs<=1000):PCall Tryz.prog 10 [.agg [.i c.latency,.i c.tail,.sl 3 (c.params.map Bd.cs),.sl 3 (c.states.map Bd.cs),.sl 4 (c.lines.map Ln.cs),.sl 1 (c.tables.map lnC),.i (jM c d),.sl 2 ((((jnM c d).map insC).drop 0).take (jL c d).length)]] (.ret (.i (okE (checkP (Pm c d))))):=by
 rw[List.drop_zero,List.take_of_length_le (by rw[List.length_map,wQ];exact Nat.le_refl _)]
 exact jm (Pm c d) (z9x g gd h)
end
theorem XK(c d:Cd)(g:c.Sm)(gd:d.Sm):PCall Tryz.prog 6 [c.d,d.d] (.ret (.b true)):=by
 refine ae tok hmix ⟨[11],[]⟩ Tryz.func6 rfl (by kernel_rfl) (by kernel_rfl) (by kernel_rfl) λhf=>?_
 clear hf
 repeat' ((try(conv=>whnf))<;>first
  |((refine aB.mk 11 ?_);have hf:=z2f ‹(bif (bif !gQ c then true else !gQ d)then true else decide (c.regs>1000))=false›;have hk:=zax ‹(bif okE (checkP c) != 0 then true else okE (checkP (jd c d)) != 0)=false›;have hl:=JZ g gd hf;refine⟨⟨Unit,λ_=>[(5,.ptr 5 0)],λ_=>[(5,.cells [.data (.i c.latency),.data (.i c.tail),.data (.sl 3 (c.params.map Bd.cs)),.data (.sl 3 (c.states.map Bd.cs)),.data (.sl 4 (c.lines.map Ln.cs)),.data (.sl 1 (c.tables.map lnC)),.data (.i (jM c d)),.own 59 2 2 0 (jL c d).length]),(59,.arr 2 2 ((jL c d).map insC)),(2,.cells [.data (.i c.latency),.data (.i c.tail),.data (.sl 3 (c.params.map Bd.cs)),.data (.sl 3 (c.states.map Bd.cs)),.data (.sl 4 (c.lines.map Ln.cs)),.data (.sl 1 (c.tables.map lnC)),.data (.i c.regs),.data (.sl 2 (c.instrs.map insC))])],[2,3],λ_=>True,λ_=>0⟩,?_,λ_ _=>?_⟩)
  |(refine⟨(),trivial,?_⟩)
  |((obtain⟨hq,hq2⟩:=z2g hd0 hI0);subst hq;subst hq2)
  |(refine aZ.r 59 ?_)
  |(exact absurd h (z7k hd2 hd0))
  |(exact absurd h (z7l hd2))
  |exact trivial
  |exact au hd2 ‹_›
  |exact au hd0 ‹_›
  |((refine dV hd0 ?_ ?_);(exact rfl))
  |((refine dE hd0 ?_ ?_);(exact rfl))
  |refine BrI.intro (λh=>?_) (λh=>?_)
  |((refine oO ?_ ?_ ?_ ?_ ?_ ?_ ?_ ?_);exact rfl;exact rfl;exact rfl;(first |exact Nat.zero_le _ |(rw[List.length_append,Nat.zero_add];exact Nat.le_add_left _ _));exact rfl;(first |exact Nat.zero_le _ |(have hl:=JZ g gd (z2f ‹(bif (bif !gQ c then true else !gQ d)then true else decide (c.regs>1000))=false›);rw[List.length_map];omega));(have hl:=JZ g gd (z2f ‹(bif (bif !gQ c then true else !gQ d)then true else decide (c.regs>1000))=false›);rw[List.length_map];omega))
  |((refine jC ?_ ?_ ?_ ?_ ?_);exact rfl;exact rfl;exact rfl;(first |exact z7i hd2 |exact XI hd0))
  |((refine iY ?_ ?_ ?_ ?_ ?_ ?_ ?_);exact rfl;exact rfl;rotate_left 2;exact zay hd2 hd0;exact rfl)
  |((refine gW ?_ ?_ ?_ ?_ ?_ ?_ ?_ ?_ ?_);exact rfl;exact rfl;exact rfl;exact rfl;exact iU rfl;exact rfl;rotate_left;exact zab hd0 hI0.1)
  |(refine⟨insC x0,zab hd0 hI0.1,?_⟩)
  |(exact z7m)
  |(exact z7n)
  |(exact z9z hd0 hI0.1 h)
  |(exact z90 hd0 hI0.1 h)
  |((refine aB.mk 0 ?_);have hlen:(jL c d).length<=9223372036854775807:=(by omega);refine⟨aJ (jL c d) 73 (λ(q:(Ins)×(Bool))=>match q with |(es,ag)=>[(6,.data (.val (.bool ag)))]) (λ(q:(Ins)×(Bool))=>match q with |(es,ag)=>[(5,.cells [.data (.i c.latency),.data (.i c.tail),.data (.sl 3 (c.params.map Bd.cs)),.data (.sl 3 (c.states.map Bd.cs)),.data (.sl 4 (c.lines.map Ln.cs)),.data (.sl 1 (c.tables.map lnC)),.data (.i (jM c d)),.own 59 2 2 0 (jL c d).length]),(59,.arr 2 2 (es.map insC)),(2,.cells [.data (.i c.latency),.data (.i c.tail),.data (.sl 3 (c.params.map Bd.cs)),.data (.sl 3 (c.states.map Bd.cs)),.data (.sl 4 (c.lines.map Ln.cs)),.data (.sl 1 (c.tables.map lnC)),.data (.i c.regs),.data (.sl 2 (c.instrs.map insC))])]) [2,5,71,72] (λi0 r0 q=>match q with |(es,ag)=>es=jst c d i0/\ag=agM ((jL c d).take i0)),?_⟩;refine ah (((jL c d)),(false)) ?_ ?_ (λi0 ⟨es,ag⟩ hd0 hI0=>?_) (λi0 x0 r0 ⟨es,ag⟩ hd0 hl0 hI0=>?_))
  |(refine ai hd0 ((jst c d (i0+1)),?_) ?_ ?_)
  |((refine aB.mk 2 ?_);have hlen2:((jL c d).take i0).length<=9223372036854775807:=(by rw[List.length_take];omega);refine⟨aJ ((jL c d).take i0) 9 (λ(aq:(Bool))=>[(6,.data (.val (.bool aq)))]) (λ(aq:(Bool))=>[(5,.cells [.data (.i c.latency),.data (.i c.tail),.data (.sl 3 (c.params.map Bd.cs)),.data (.sl 3 (c.states.map Bd.cs)),.data (.sl 4 (c.lines.map Ln.cs)),.data (.sl 1 (c.tables.map lnC)),.data (.i (jM c d)),.own 59 2 2 0 (jL c d).length]),(59,.arr 2 2 ((jst c d (i0+1)).map insC)),(2,.cells [.data (.i c.latency),.data (.i c.tail),.data (.sl 3 (c.params.map Bd.cs)),.data (.sl 3 (c.states.map Bd.cs)),.data (.sl 4 (c.lines.map Ln.cs)),.data (.sl 1 (c.tables.map lnC)),.data (.i c.regs),.data (.sl 2 (c.instrs.map insC))]),(8,.cells [.data (.i x0.1),.data (.i x0.2)])]) [2,5,7,8,71,72,73] (λi2 r2 aq=>aq=(ag || twP (((jL c d).take i0).take i2) x0)),?_⟩;refine ah (ag) ?_ ?_ (λi2 (aq:(Bool)) hd2 hI2=>?_) (λi2 x2 r2 (aq:(Bool)) hd2 hl2 hI2=>?_))
  |(refine ai hd2 ?_ ?_ ?_)
  |((refine ax ?_ ?_ ?_);rotate_left;(first |exact Pj |exact HY c g |exact HY d gd |exact jm c g |exact z2j c d g gd))
  |((refine tK ?_ ?_);exact rfl)
  |((refine FP ?_ ?_ ?_);rotate_left;(first |exact z2k c d g gd hf hk |exact z2l c d g gd hf))
  |((refine bG ?_ ?_ (λhg=>?_) ?_);exact rfl)
  |((refine dJ ?_ ?_);exact rfl;exact rfl)
  |((refine az ?_ ?_);kernel_rfl)
  |((refine aj ?_);refine⟨[],rfl,?_,trivial⟩;conv=>whnf)
  |(refine And.intro ?_ ?_)
  |exact @rfl AV _
  |fail)
 all_goals first
  |(rfl)
  |((exact z7h))
  |((exact z7g))
  |((exact z2h hd0 hd2 hI0.2 hI2))
  |((exact z2i hd2 hI2))
  |((exact(Bool.or_false _).symm))
  |((exact absurd h (by decide)))
  |((exact congrArg D.b (zaz (z9y g gd hf hk))))
  |skip
end Go.Proofs.YthpbakljheeabaaGreatDoor
