/- The law NamesPrinted. -/
import Derived.Test.YtmfehangcmbidaaGreatDoorZSS22
import Derived.Test.YtmfehangcmbidaaGreatDoorZSB
set_option linter.unusedSectionVars false
set_option linter.unusedSimpArgs false
set_option linter.unusedVariables false
set_option maxHeartbeats 400000
namespace Go.Proofs.YtmfehangcmbidaaGreatDoor
open Go.Fw Go.Fw.Lx Go.Fw.Sy
set_option maxRecDepth 10000
variable [ae]
theorem KD(p x:Pr)(e:Int)(b:Bool)(qF:aj Tryz.prog 21 [p.d] (.ret (.b b)))(qR:aj Tryz.prog 22 [p.d] (.ret (.tuple [x.d,.i e])))(he:(e != 0)=true):aj Tryz.prog 8 [p.d] (.ret (.b true)):=by
 refine bV Tryz.func8 ?_
 repeat' ((try(conv=>whnf))<;>first
  |refine BrI.intro (λh=>?_) (λh=>?_)
  |(exact Bool.noConfusion (he.symm.trans h))
  |((refine ai ?_ ?_ ?_);rotate_left;(first |exact xH |exact qF |exact qR))
  |(refine qo ?_;conv=>whnf)
  |fail)
 all_goals first
  |((exact Bool.noConfusion h))
  |skip
theorem Bg(p x:Pr)(l:List Pr)(b:Bool)(s:Sy.Str)(f i g:Int)(qF:aj Tryz.prog 21 [p.d] (.ret (.b b)))(qR:aj Tryz.prog 22 [p.d] (.ret (.tuple [x.d,.i 0])))(qP:aj Tryz.prog 11 [.sl 8 [x.cs]] (.ret (.tuple [.str s,.i f])))(qQ:aj Tryz.prog 10 [.str s] (.ret (.tuple [prs l,.i i,.i g])))(hg:(bif bif f != 0 then true else g==2 then true else g==140)=true)(hb:(bif f != 0 then true else g != 0)=true):aj Tryz.prog 8 [p.d] (.ret (.b true)):=by
 refine bV Tryz.func8 ?_
 repeat' ((try(conv=>whnf))<;>first
  |((refine mP ?_ ?_);exact rfl)
  |refine BrI.intro (λh=>?_) (λh=>?_)
  |(exact Pv hb h)
  |((refine ai ?_ ?_ ?_);rotate_left;(first |exact xH |exact qF |exact qR |exact qP |exact qQ))
  |(refine aB.l _ ?_)
  |(refine qo ?_;conv=>whnf)
  |fail)
 all_goals first
  |((exact congrArg (λz=>D.val (Value.bool z)) hg))
  |skip
theorem Qi(p x y:Pr)(b:Bool)(s:Sy.Str)(qF:aj Tryz.prog 21 [p.d] (.ret (.b b)))(qR:aj Tryz.prog 22 [p.d] (.ret (.tuple [x.d,.i 0])))(qP:aj Tryz.prog 11 [.sl 8 [x.cs]] (.ret (.tuple [.str s,.i 0])))(qQ:aj Tryz.prog 10 [.str s] (.ret (.tuple [.sl 8 [y.cs],.i 0,.i 0])))(qY:aj Tryz.prog 22 [y.d] (.ret (.tuple [x.d,.i 0])))(qS:aj Tryz.prog 23 [x.d,x.d] (.ret (.b true))):aj Tryz.prog 8 [p.d] (.ret (.b true)):=by
 refine bV Tryz.func8 ?_
 repeat' ((try(conv=>whnf))<;>first
  |((refine mP ?_ ?_);exact rfl)
  |refine BrI.intro (λh=>?_) (λh=>?_)
  |((refine Lx.idx_lit' ?_ ?_ ?_ ?_);exact rfl;exact rfl;exact rfl)
  |((refine ai ?_ ?_ ?_);rotate_left;(first |exact xH |exact Iz _ _ |exact qF |exact qR |exact qP |exact qQ |exact qY))
  |(refine aB.l _ ?_)
  |((refine aV ?_ ?_);exact rfl)
  |((refine aP ?_ ?_ (λhg=>?_) ?_);exact rfl)
  |((refine bH ?_ ?_);exact rfl;exact rfl)
  |(refine qo ?_;conv=>whnf)
  |fail)
 all_goals first
  |((refine congrArg (λz=>D.val (Value.bool z)) ?_;rw[Sy.same_refl];rfl))
  |skip
theorem KE(p:Pr)(hw:wP p<=104857600):aj Tryz.prog 8 [p.d] (.ret (.b true)):=by
 have hN:=z6b hw
 have qF:=XE p hN.s hN.n hN.v
 have qR:=qf p hN.s hN.n
 cases he:((Nam.resolveC p).2 != 0)with
 |true=>exact KD p _ _ _ qF qR he
 |false=>
  have he:(Nam.resolveC p).2=0:=by simpa using he
  have hx:=z6a he
  have hA:=Nam.again_bare he
  rw[he]at qR
  generalize (Nam.resolveC p).1=x at qR hx hA
  have hX:([x].map wP).sum<=1073741823:=by simp only[List.map_cons,List.map_nil,List.sum_cons,List.sum_nil];omega
  have hW:=z8f hX
  have hM:=z6b (p:=bareP x) (by rw[z06];omega)
  cases z9x [x]with
  |no h=>exact Bg p x [] _ _ _ _ _ qF qR (E8 hW h) (NQ (by decide) z0u) rfl rfl
  |yes t h hp ha=>
   cases hT:decide ((t.length:Int)>65536)with
   |true=>exact Bg p x [] _ _ _ _ _ qF qR (E8 hW h) (DF t hT) rfl rfl
   |false=>
    refine Qi p x (bareP x) _ t qF qR (E8 hW h) (NQ (by have:=of_decide_eq_false hT;omega) (hp hT)) ?_ ?_
    ·have:=qf (bareP x) hM.s hM.n
     rw[hA]at this;exact this
    ·have:=Iz x x
     rw[Sy.same_refl]at this;exact this
end Go.Proofs.YtmfehangcmbidaaGreatDoor
