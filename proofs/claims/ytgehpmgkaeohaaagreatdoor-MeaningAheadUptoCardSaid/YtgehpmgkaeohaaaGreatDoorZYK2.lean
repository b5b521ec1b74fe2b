/- MeaningAhead: the step of a processor does not depend on samples of the inputs that are further ahead than tails.Latency says; for arguments of a bulk of at most 1048576 together; the arguments read afterwards as before. Conditions: the row's own. -/
import Derived.Test.YtgehpmgkaeohaaaGreatDoorZYB1
import Derived.Test.YtgehpmgkaeohaaaGreatDoorZWB
set_option linter.all false
namespace Go.Proofs.YtgehpmgkaeohaaaGreatDoor.aheadLaw
open Go.Fw Go.Fw.Ref15 Go.Fw.Rg Go.Fw.Tl Go.Fw.Mn Go.Proofs.YtgehpmgkaeohaaaGreatDoor Go.ChangeShapes Go.WideShapes Go.RowKit
set_option maxRecDepth 100000
theorem contract(H:Type)(enc:TypeId×Value->H)(W:World)(base:Nat)(args:Array Value)(ds gs:List (DataW H))(before:List MemPlace)(hsh:W.ShapedOpen Tryz.prog)(hL:laidMetH Tryz.prog Rows.meaningAheadUptoRow.laid W)
  (hval:∀(j:Nat) t v,Tryz.f6.params[j]? = some t->args[j]? = some v->Value.okWide Tryz.prog W .any base t v)
  (hW:DataW.Whole enc Tryz.prog Tryz.f6.params.toList Rows.meaningAheadSpec.vars false W args.toList ds gs before) (hk:Rows.uptoSmall H (ds++gs)=true) :
  Calls Tryz.prog 6 args W λe W'=>∃v,e = .returned v/\Rows.meaningAheadSpec.post enc Tryz.prog Tryz.f6 false true false false W args v W':=by
 refine Jc tok' zaa (fn:=Tryz.f6) rfl (tb:=4) rfl (by kernel_rfl) laid ?_ (z98 hsh hL) hval hW ?_ ?_
 ·intro t ht
  simp only[Tryz.f6,List.mem_cons,List.not_mem_nil,or_false]at ht
  rcases ht with rfl |rfl |rfl |rfl |rfl |rfl
  ·exact⟨by decide,by kernel_rfl,of_decide_eq_true (by kernel_rfl)⟩
  ·exact⟨by decide,by kernel_rfl,of_decide_eq_true (by kernel_rfl)⟩
  ·exact⟨by decide,by kernel_rfl,of_decide_eq_true (by kernel_rfl)⟩
  ·exact⟨by decide,by kernel_rfl,of_decide_eq_true (by kernel_rfl)⟩
  ·exact⟨by decide,by kernel_rfl,of_decide_eq_true (by kernel_rfl)⟩
  ·exact⟨by decide,by kernel_rfl,of_decide_eq_true (by kernel_rfl)⟩
 ·intro xs hx
  obtain⟨d0,ds0,n0,l0,xs0,rfl,k0,rfl,hx0⟩:=jL hx
  obtain⟨d1,ds1,n1,l1,xs1,rfl,k1,rfl,hx1⟩:=jL hx0
  obtain⟨d2,ds2,n2,l2,xs2,rfl,k2,rfl,hx2⟩:=jL hx1
  obtain⟨d3,ds3,n3,l3,xs3,rfl,k3,rfl,hx3⟩:=jL hx2
  obtain⟨d4,ds4,n4,l4,xs4,rfl,k4,rfl,hx4⟩:=jL hx3
  obtain⟨d5,ds5,n5,l5,xs5,rfl,k5,rfl,hx5⟩:=jL hx4
  obtain⟨rfl,rfl⟩:=XB hx5
  rfl
 ·intro _ xs hx
  obtain⟨d0,ds0,n0,l0,xs0,rfl,k0,rfl,hx0⟩:=jL hx
  obtain⟨d1,ds1,n1,l1,xs1,rfl,k1,rfl,hx1⟩:=jL hx0
  obtain⟨d2,ds2,n2,l2,xs2,rfl,k2,rfl,hx2⟩:=jL hx1
  obtain⟨d3,ds3,n3,l3,xs3,rfl,k3,rfl,hx3⟩:=jL hx2
  obtain⟨d4,ds4,n4,l4,xs4,rfl,k4,rfl,hx4⟩:=jL hx3
  obtain⟨d5,ds5,n5,l5,xs5,rfl,k5,rfl,hx5⟩:=jL hx4
  obtain⟨rfl,rfl⟩:=XB hx5
  have hb:=z99 hk
  simp only[Rows.uptoBulkAll]at hb
  obtain⟨a0,rfl,g0,f0⟩:=zii k0 (by omega)
  obtain⟨a1,rfl,h1⟩:=xR k1
  obtain⟨a2,rfl,h2⟩:=xR k2
  obtain⟨a3,rfl,h3⟩:=xR k3
  obtain⟨a4,rfl,h4⟩:=xR k4
  obtain⟨a5,rfl,h5⟩:=z0u k5 (by omega)
  exact VA ⟨_,Tryz.func6,by kernel_rfl,by kernel_rfl⟩ (zAn a0 ⟨a1,a2,a3,a5.vals,a5.lines,[]⟩ a4 g0 ⟨by show a1.length<=_;omega,by show a2.length<=_;omega,by show a3.length<=_;omega⟩ h5)
theorem lifted(os:Os)(started:os.Started)(H:Type)(enc:TypeId×Value->H)(F:Stop.Interp) :
  ReturnsInHanded {} Tryz.checked os 6 .any ((Rows.OpenSpec.upto Rows.meaningAheadSpec).preRow enc Tryz.prog Tryz.f6 Rows.meaningAheadUptoRow.domain false Rows.meaningAheadUptoRow.laid) (((Rows.OpenSpec.upto Rows.meaningAheadSpec).at F).post enc Tryz.prog Tryz.f6 false true false false):=by
 refine returnsInHanded_of_row (C:=Tryz.checked) (s:=Rows.OpenSpec.upto Rows.meaningAheadSpec) own started (by kernel_rfl) Tryz.func6
  (witness_row_at (enc:=enc) (C:=Tryz.checked) false (laidWorld os) #[.agg #[.string .empty,.int .i64 0,.int .i64 0,.slice none 0 0,.slice none 0 0,.slice none 0 0,.slice none 0 0,.slice none 0 0],.slice none 0 0,.slice none 0 0,.slice none 0 0,.slice none 0 0,.agg #[.slice none 0 0,.slice none 0 0]] rfl (by kernel_rfl) (by kernel_rfl) (by kernel_rfl)
   (OpenSpec.preRow_of_cond 8 (x:=([.agg [.lit (.string []),.lit (.int .i64 0),.lit (.int .i64 0),.nil,.nil,.nil,.nil,.nil],.nil,.nil,.nil,.nil,.agg [.nil,.nil]],[],[])) (by kernel_rfl) (by kernel_rfl) (λk hk=>by cases hk;kernel_rfl) (by kernel_rfl) (laid_met os _))) ?_
 intro W base args ds gs before hval hW _ hk _ hL hsh _
 exact contract H enc W base args ds gs before hsh hL hval hW (hk _ rfl)
theorem k1:Tryz.pinned.checked.prog.funcNamed Rows.meaningAheadUptoRow.func=some 6:=by kernel_rfl
theorem k2:(Rows.meaningAheadUptoRow.inPlace==Tryz.pinned.checked.prog.inPlace 6)=true:=by kernel_rfl
theorem k3:(Rows.meaningAheadUptoRow.unfollowed==Tryz.pinned.checked.prog.unfollowed 6)=true:=by kernel_rfl
theorem k4:(Rows.meaningAheadUptoRow.recurses==Tryz.pinned.checked.prog.recurses 6)=true:=by kernel_rfl
theorem k5:(Rows.meaningAheadUptoRow.named==Tryz.pinned.checked.prog.varsNamed 6)=true:=by kernel_rfl
theorem k6:(Rows.meaningAheadUptoRow.lifted==Tryz.pinned.checked.prog.liftsFinal)=true:=by kernel_rfl
theorem k7:(Tryz.pinned.checked.prog.make==some Rows.meaningAheadUptoRow.make)=true:=by kernel_rfl
theorem zA5:joinedFacts Tryz.pinned.checked.prog 6 Tryz.f6 (Rows.OpenSpec.upto Rows.meaningAheadSpec).bare Rows.meaningAheadUptoRow=true:=by
 unfold joinedFacts
 repeat' (with_reducible refine zkc ?_ ?_)
 all_goals first |with_reducible exact zij |with_reducible exact zik |with_reducible exact zfi |with_reducible exact zfj |with_reducible exact zfk |with_reducible exact zfl |with_reducible exact k2 |with_reducible exact k3 |with_reducible exact k4 |with_reducible exact k5 |with_reducible exact k6 |with_reducible exact k7 |kernel_rfl
theorem said:Rows.MeaningAheadUptoSaid:=
 OpenClaim.holds_of_cond 6 Tryz.f6 rfl rfl rfl rfl rfl rfl rfl ⟨rfl,rfl,rfl,rfl,rfl⟩ rfl rfl rfl rfl rfl k1 Tryz.func6 zA5
  (of_decide_eq_true (by kernel_rfl)) (by unfold Func.isWrapper;first |(rw[if_pos (by decide +kernel)];kernel_rfl) |(rw[if_neg (by decide +kernel)];exact⟨rfl,rfl⟩))
  (λos started H enc _ F=>by rw[OpenClaim.pre_eq_preRow];exact lifted os started H enc F)
theorem plain(f:FuncId)(fn:Func)(hf:Tryz.pinned.checked.prog.funcNamed "soundpost/soundpostlaw18.MeaningAhead" = some f)(hfn:Tryz.pinned.checked.prog.funcs[f]? = some fn) :
  true=Tryz.pinned.checked.prog.looks []/\∀(j:Nat) t,fn.params[j]? = some t->Tryz.pinned.checked.prog.wantsStandIn t=false:=by
 obtain rfl:f=6:=Option.some.inj ((show Tryz.pinned.checked.prog.funcNamed "soundpost/soundpostlaw18.MeaningAhead" = some 6 from k1).symm.trans hf) |>.symm
 obtain rfl:fn=Tryz.f6:=(Option.some.inj (Tryz.func6.symm.trans hfn)).symm
 refine⟨by kernel_rfl,λj t ht=>?_⟩
 have ht:t∈Tryz.f6.params.toList:=by simpa using Array.mem_of_getElem? ht
 simp only[Tryz.f6,List.mem_cons,List.not_mem_nil,or_false]at ht
 rcases ht with rfl |rfl |rfl |rfl |rfl |rfl
 ·exact(show Tryz.prog.wantsStandIn 27=false by kernel_rfl)
 ·exact(show Tryz.prog.wantsStandIn 28=false by kernel_rfl)
 ·exact(show Tryz.prog.wantsStandIn 28=false by kernel_rfl)
 ·exact(show Tryz.prog.wantsStandIn 28=false by kernel_rfl)
 ·exact(show Tryz.prog.wantsStandIn 28=false by kernel_rfl)
 ·exact(show Tryz.prog.wantsStandIn 31=false by kernel_rfl)
theorem holds:Rows.MeaningAheadUptoCardSaid:=
 Claim7.holds_tied_plain_at .later [] _ _ _ _ said (λ_ h=>by cases h) (by kernel_rfl) (λ_ h=>by cases h) meaningAheadUpto_row_tie rfl ⟨rfl,rfl⟩ (by kernel_rfl) rfl plain (by kernel_rfl)
end Go.Proofs.YtgehpmgkaeohaaaGreatDoor.aheadLaw
