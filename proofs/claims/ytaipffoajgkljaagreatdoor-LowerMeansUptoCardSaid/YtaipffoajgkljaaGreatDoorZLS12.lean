/- A part of the proof. -/
import Derived.Test.YtaipffoajgkljaaGreatDoorZQC
import Derived.Test.YtaipffoajgkljaaGreatDoorZWA
import Derived.Test.YtaipffoajgkljaaGreatDoorZMB
set_option linter.all false
set_option maxHeartbeats 4000000
namespace Go.Proofs.YtaipffoajgkljaaGreatDoor
open Go.Fw Go.Fw.Ref15 Go.Fw.Rg Go.Fw.Tl Go.Fw.Lw Go.Fw.Mn
open Go.Fw.Mac hiding W
set_option maxRecDepth 10000
variable [af]
theorem XO(p:Pr)(A:Fr)(o e f:Int)(x:Mn.St)(c:Cd)(g:gy p)(h1:PCall Tryz.prog 6 [p.d,.sl 1 (A.params.map aC),.sl 1 (A.inp.map aC),.sl 1 (A.side.map aC),(⟨A.vals,A.lines⟩:Mn.St).d] (.ret (.tuple [.i o,x.d,.i e])))(h2:PCall Tryz.prog 7 [p.d] (.ret (.tuple [c.d,.i f])))(he:(bif e != 0 then true else f != 0)=true)(hl:A.lines.length<=1073741824):PCall Tryz.prog 3 [p.d,.sl 1 (A.params.map aC),.sl 1 (A.inp.map aC),.sl 1 (A.side.map aC),(⟨A.vals,A.lines⟩:Mn.St).d] (.ret (.b true)):=by
 refine dh Tryz.func3 λhf=>?_
 have hl_a:A.lines.length<=9223372036854775807:=by omega
 clear hf
 repeat' ((try conv=>whnf)<;>first
  |exact Bool.noConfusion (show false=true from h)
  |exact Bool.noConfusion (he.symm.trans h)
  |exact trivial
  |exact aj hd0 ‹_›
  |refine aZ hd0 ?_
  |refine aK hd0 ?_
  |refine BrI.intro (λh=>?_) (λh=>?_)
  |((refine ak.mk 0 ?_);refine⟨aB (A.lines) 46 (λ(_:Unit)=>[]) (λ(_:Unit)=>[]) [1,2,3,5,9,44,45] (λi0 r0 _=>True),?_⟩;refine ag () ?_ ?_ (λi0 (_:Unit) hd0 hI0=>?_) (λi0 x0 r0 (_:Unit) hd0 hl0 hI0=>?_))
  |refine ah hd0 () ?_ ?_
  |((refine ai ?_ ?_ ?_);rotate_left;(first |exact EG |exact Qa p g.sm g.hn g.hT |exact h1 |exact h2))
  |((refine au ?_ ?_ ?_ ?_ ?_);rfl;rfl;rotate_left;exact ax hd0)
  |(refine cO ?_;conv=>whnf)
  |refine And.intro ?_ ?_
  |exact @rfl AV _
  |fail)
theorem z08(p:Pr)(A:Fr)(o:Int)(x:Mn.St)(g:gy p)(h1:PCall Tryz.prog 6 [p.d,.sl 1 (A.params.map aC),.sl 1 (A.inp.map aC),.sl 1 (A.side.map aC),(⟨A.vals,A.lines⟩:Mn.St).d] (.ret (.tuple [.i o,x.d,.i 0])))(h2:PCall Tryz.prog 7 [p.d] (.ret (.tuple [(eF p).d,.i 0])))(h3:PCall Tryz.prog 8 [(eF p).d] (.ret (.i 0)))(h4:PCall Tryz.prog 10 [(eF p).d,.sl 1 (A.params.map aC),.sl 1 (A.inp.map aC),.sl 1 (A.side.map aC),(⟨A.vals,A.lines⟩:Mn.St).d] (.ret (.tuple [.i o,x.d])))(h5:PCall Tryz.prog 11 [x.d,x.d] (.ret (.b true)))(ha:Bz p A)(hp:0<=p.latency/\p.latency<=4096)(hl:A.lines.length<=1073741824):PCall Tryz.prog 3 [p.d,.sl 1 (A.params.map aC),.sl 1 (A.inp.map aC),.sl 1 (A.side.map aC),(⟨A.vals,A.lines⟩:Mn.St).d] (.ret (.b true)):=by
 refine dh Tryz.func3 λhf=>?_
 have hl_a:A.lines.length<=9223372036854775807:=by omega
 clear hf
 repeat' ((try conv=>whnf)<;>first
  |exact Bool.noConfusion (show false=true from h)
  |exact(zgd ha hp h).elim
  |exact(zgf ha hd2 h).elim
  |exact trivial
  |exact aj hd2 ‹_›
  |exact aj hd0 ‹_›
  |refine aZ hd2 ?_
  |refine aZ hd0 ?_
  |refine aK hd2 ?_
  |refine aK hd0 ?_
  |refine BrI.intro (λh=>?_) (λh=>?_)
  |((refine au ?_ ?_ ?_ ?_ ?_);rfl;rfl;rotate_left;exact zge ha hd2)
  |((refine ak.mk 0 ?_);refine⟨aB (A.lines) 46 (λ(_:Unit)=>[]) (λ(_:Unit)=>[]) [1,2,3,5,9,44,45] (λi0 r0 _=>True),?_⟩;refine ag () ?_ ?_ (λi0 (_:Unit) hd0 hI0=>?_) (λi0 x0 r0 (_:Unit) hd0 hl0 hI0=>?_))
  |refine ah hd0 () ?_ ?_
  |((refine ak.mk 2 ?_);refine⟨aB (A.lines) 129 (λ(_:Unit)=>[]) (λ(_:Unit)=>[]) [1,2,3,9,13,14,16,127,128] (λi2 r2 _=>True),?_⟩;refine ag () ?_ ?_ (λi2 (_:Unit) hd2 hI2=>?_) (λi2 x2 r2 (_:Unit) hd2 hl2 hI2=>?_))
  |refine ah hd2 () ?_ ?_
  |((refine ai ?_ ?_ ?_);rotate_left;(first |exact EG |exact Qa p g.sm g.hn g.hT |exact h1 |exact h2 |exact h3 |exact GR p g |exact h4 |exact h5))
  |((refine au ?_ ?_ ?_ ?_ ?_);rfl;rfl;rotate_left;(first |exact ax hd2 |exact ax hd0))
  |((refine aY ?_ ?_ (λhg=>?_) ?_);rfl)
  |((refine bY ?_ ?_);rfl;rfl)
  |(refine cO ?_;conv=>whnf)
  |refine And.intro ?_ ?_
  |exact @rfl AV _
  |fail)
 all_goals exact congrArg D.b (zgc o)
theorem zab(p:Pr)(g:(eF p).Sm)(h:Res p):PCall Tryz.prog 8 [(eF p).d] (.ret (.i 0)):=by
 have:=BD (eF p) g;rw[Mac.check_eq,RD h]at this;exact this
theorem XP(p:Pr)(A:Fr)(g:gy p)(ha:ASm A)(hs:(⟨A.vals,A.lines⟩:Mn.St).Sm)(hq:(⟨A.vals,A.lines⟩:Sta).Sm)(ht:∀t∈p.tables,t.values.length<=268435456) :
  PCall Tryz.prog 3 [p.d,.sl 1 (A.params.map aC),.sl 1 (A.inp.map aC),.sl 1 (A.side.map aC),(⟨A.vals,A.lines⟩:Mn.St).d] (.ret (.b true)):=by
 have c1:=XJ p A g ha hs
 have c2:=yg p g
 cases he:((Gq p A).2.2 != 0)with
 |true=>exact XO p A _ _ _ _ _ g c1 c2 (by rw[he];rfl) hs.lines
 |false=>
  have h0:(Gq p A).2.2=0:=by simpa using he
  obtain⟨q0,q1,q2,q3⟩:=Zx h0
  rw[q3]at c1
  have hB:=(Mn.chkZ q0).1
  have hA:=PR (MQ hB.res) q1 q2
  have hS:=Eo q0 q1 q2
  have hlim:=Gz hB.res
  have hz:=Eu hB.res p.stmts 0 [] 0 rfl
  have k1:=g.sm.params;have k2:=g.sm.states
  have gc:=z0q g hB.res ⟨by omega,by omega⟩ ht
  have hr:0<=(eF p).regs/\(eF p).regs<=65536:=⟨hz.2.1,by show(cmpL p.stmts 0 [] 0).2<=_;omega⟩
  have c4:=x9 (eF p) A.params A.inp A.side ⟨A.vals,A.lines⟩ _ _ gc hq hr (SS hB.res hA hS hr.1 hlim.2)
  have hx:(⟨(stepM p A).2.vals,(stepM p A).2.lines⟩:Sta).Sm:=zaa hA hS hq hB.res
  have c5:=yh _ _ hx hx
  rw[Mac.sameSt_iff.2 rfl]at c5
  exact z08 p A _ _ g c1 (EF p g q0) (zab p gc hB.res) c4 c5 hA (MQ hB.res) hs.lines
end Go.Proofs.YtaipffoajgkljaaGreatDoor
