/- MeaningDelay: a processor that pushes its input to a line, and taps it, puts out what came in as many samples before, and one more; before that, silence; for arguments of a bulk of at most 1048576 together; the arguments read afterwards as before. Conditions: the row's own. -/
import Derived.Test.YtgehpmgkaeohaaaGreatDoorZYB1
import Derived.Test.YtgehpmgkaeohaaaGreatDoorZWB
set_option linter.all false
namespace Go.Proofs.YtgehpmgkaeohaaaGreatDoor.delayLaw
open Go.Fw Go.Fw.Ref15 Go.Fw.Rg Go.Fw.Tl Go.Fw.Mn Go.Proofs.YtgehpmgkaeohaaaGreatDoor Go.ChangeShapes Go.WideShapes Go.RowKit
set_option maxRecDepth 100000
theorem contract(H:Type)(enc:TypeId×Value->H)(W:World)(base:Nat)(args:Array Value)(ds gs:List (DataW H))(before:List MemPlace)(hsh:W.ShapedOpen Tryz.prog)(hL:laidMetH Tryz.prog Rows.meaningDelayUptoRow.laid W)
  (hval:∀(j:Nat) t v,Tryz.f8.params[j]? = some t->args[j]? = some v->Value.okWide Tryz.prog W .any base t v)
  (hW:DataW.Whole enc Tryz.prog Tryz.f8.params.toList Rows.meaningDelaySpec.vars false W args.toList ds gs before) (hk:Rows.uptoSmall H (ds++gs)=true) :
  Calls Tryz.prog 8 args W λe W'=>∃v,e = .returned v/\Rows.meaningDelaySpec.post enc Tryz.prog Tryz.f8 false true false false W args v W':=by
 refine IP tok' z8f (fn:=Tryz.f8) rfl (tb:=4) rfl (by kernel_rfl) laid ?_ (z8c hsh hL) hval hW ?_ ?_
 ·intro t ht
  simp only[Tryz.f8,List.mem_cons,List.not_mem_nil,or_false]at ht
  rcases ht with rfl |rfl |rfl
  ·exact⟨by decide,by kernel_rfl,of_decide_eq_true (by kernel_rfl)⟩
  ·exact⟨by decide,by kernel_rfl,of_decide_eq_true (by kernel_rfl)⟩
  ·exact⟨by decide,by kernel_rfl,of_decide_eq_true (by kernel_rfl)⟩
 ·intro xs hx
  obtain⟨d0,ds0,n0,l0,xs0,rfl,k0,rfl,hx0⟩:=qZ hx
  obtain⟨d1,ds1,n1,l1,xs1,rfl,k1,rfl,hx1⟩:=qZ hx0
  obtain⟨d2,ds2,n2,l2,xs2,rfl,k2,rfl,hx2⟩:=qZ hx1
  obtain⟨rfl,rfl⟩:=WW hx2
  rfl
 ·intro _ xs hx
  obtain⟨d0,ds0,n0,l0,xs0,rfl,k0,rfl,hx0⟩:=qZ hx
  obtain⟨d1,ds1,n1,l1,xs1,rfl,k1,rfl,hx1⟩:=qZ hx0
  obtain⟨d2,ds2,n2,l2,xs2,rfl,k2,rfl,hx2⟩:=qZ hx1
  obtain⟨rfl,rfl⟩:=WW hx2
  have hb:=z8e hk
  simp only[Rows.uptoBulkAll]at hb
  obtain⟨a0,rfl,h0,b0⟩:=z8d k0
  obtain⟨a1,rfl,b1,c1⟩:=WV (k:=.u8) rfl k1
  obtain⟨a2,rfl,b2,c2⟩:=WV (k:=.u8) rfl k2
  exact U3 ⟨_,Tryz.func8,by kernel_rfl,by kernel_rfl⟩ (XR a0 a1 a2 ⟨b1,c1⟩ ⟨b2,c2⟩ b0 (by omega))
theorem lifted(os:Os)(started:os.Started)(H:Type)(enc:TypeId×Value->H)(F:Stop.Interp) :
  ReturnsInHanded {} Tryz.checked os 8 .any ((Rows.OpenSpec.upto Rows.meaningDelaySpec).preRow enc Tryz.prog Tryz.f8 Rows.meaningDelayUptoRow.domain false Rows.meaningDelayUptoRow.laid) (((Rows.OpenSpec.upto Rows.meaningDelaySpec).at F).post enc Tryz.prog Tryz.f8 false true false false):=by
 refine returnsInHanded_of_row (C:=Tryz.checked) (s:=Rows.OpenSpec.upto Rows.meaningDelaySpec) own started (by kernel_rfl) Tryz.func8
  (witness_row_at (enc:=enc) (C:=Tryz.checked) false (laidWorld os) #[.slice none 0 0,.int .u8 0,.int .u8 0] rfl (by kernel_rfl) (by kernel_rfl) (by kernel_rfl)
   (OpenSpec.preRow_of_cond 8 (x:=([.nil,.lit (.int .u8 0),.lit (.int .u8 0)],[],[])) (by kernel_rfl) (by kernel_rfl) (λk hk=>by cases hk;kernel_rfl) (by kernel_rfl) (laid_met os _))) ?_
 intro W base args ds gs before hval hW _ hk _ hL hsh _
 exact contract H enc W base args ds gs before hsh hL hval hW (hk _ rfl)
theorem k1:Tryz.pinned.checked.prog.funcNamed Rows.meaningDelayUptoRow.func=some 8:=by kernel_rfl
theorem k2:(Rows.meaningDelayUptoRow.inPlace==Tryz.pinned.checked.prog.inPlace 8)=true:=by kernel_rfl
theorem k3:(Rows.meaningDelayUptoRow.unfollowed==Tryz.pinned.checked.prog.unfollowed 8)=true:=by kernel_rfl
theorem k4:(Rows.meaningDelayUptoRow.recurses==Tryz.pinned.checked.prog.recurses 8)=true:=by kernel_rfl
theorem k5:(Rows.meaningDelayUptoRow.named==Tryz.pinned.checked.prog.varsNamed 8)=true:=by kernel_rfl
theorem k6:(Rows.meaningDelayUptoRow.lifted==Tryz.pinned.checked.prog.liftsFinal)=true:=by kernel_rfl
theorem k7:(Tryz.pinned.checked.prog.make==some Rows.meaningDelayUptoRow.make)=true:=by kernel_rfl
theorem zaq:joinedFacts Tryz.pinned.checked.prog 8 Tryz.f8 (Rows.OpenSpec.upto Rows.meaningDelaySpec).bare Rows.meaningDelayUptoRow=true:=by
 unfold joinedFacts
 repeat' (with_reducible refine zh9 ?_ ?_)
 all_goals first |with_reducible exact zge |with_reducible exact zgf |with_reducible exact zdq |with_reducible exact zdr |with_reducible exact zds |with_reducible exact zdt |with_reducible exact k2 |with_reducible exact k3 |with_reducible exact k4 |with_reducible exact k5 |with_reducible exact k6 |with_reducible exact k7 |kernel_rfl
theorem said:Rows.MeaningDelayUptoSaid:=
 OpenClaim.holds_of_cond 8 Tryz.f8 rfl rfl rfl rfl rfl rfl rfl ⟨rfl,rfl,rfl,rfl,rfl⟩ rfl rfl rfl rfl rfl k1 Tryz.func8 zaq
  (of_decide_eq_true (by kernel_rfl)) (by unfold Func.isWrapper;first |(rw[if_pos (by decide +kernel)];kernel_rfl) |(rw[if_neg (by decide +kernel)];exact⟨rfl,rfl⟩))
  (λos started H enc _ F=>by rw[OpenClaim.pre_eq_preRow];exact lifted os started H enc F)
theorem plain(f:FuncId)(fn:Func)(hf:Tryz.pinned.checked.prog.funcNamed "soundpost/soundpostlaw18.MeaningDelay" = some f)(hfn:Tryz.pinned.checked.prog.funcs[f]? = some fn) :
  true=Tryz.pinned.checked.prog.looks []/\∀(j:Nat) t,fn.params[j]? = some t->Tryz.pinned.checked.prog.wantsStandIn t=false:=by
 obtain rfl:f=8:=Option.some.inj ((show Tryz.pinned.checked.prog.funcNamed "soundpost/soundpostlaw18.MeaningDelay" = some 8 from k1).symm.trans hf) |>.symm
 obtain rfl:fn=Tryz.f8:=(Option.some.inj (Tryz.func8.symm.trans hfn)).symm
 refine⟨by kernel_rfl,λj t ht=>?_⟩
 have ht:t∈Tryz.f8.params.toList:=by simpa using Array.mem_of_getElem? ht
 simp only[Tryz.f8,List.mem_cons,List.not_mem_nil,or_false]at ht
 rcases ht with rfl |rfl |rfl
 ·exact(show Tryz.prog.wantsStandIn 51=false by kernel_rfl)
 ·exact(show Tryz.prog.wantsStandIn 5=false by kernel_rfl)
 ·exact(show Tryz.prog.wantsStandIn 5=false by kernel_rfl)
theorem holds:Rows.MeaningDelayUptoCardSaid:=
 Claim7.holds_tied_plain_at .later [] _ _ _ _ said (λ_ h=>by cases h) (by kernel_rfl) (λ_ h=>by cases h) meaningDelayUpto_row_tie rfl ⟨rfl,rfl⟩ (by kernel_rfl) rfl plain (by kernel_rfl)
end Go.Proofs.YtgehpmgkaeohaaaGreatDoor.delayLaw
