/- LowerJoined: a valid code, with a further register in the place of what it gives out, and then another valid code for the same declarations, are valid together just when nothing is pushed again; for arguments of a bulk of at most 1048576 together; the arguments read afterwards as before. Conditions: the row's own. -/
import Derived.Test.YthpbakljheeabaaGreatDoorZLP1
import Derived.Test.YthpbakljheeabaaGreatDoorZLS11
set_option linter.unusedSectionVars false
set_option linter.unusedSimpArgs false
set_option linter.unusedVariables false
namespace Go.Proofs.YthpbakljheeabaaGreatDoor.joinedLaw
open Go.Fw Go.Fw.Ref15 Go.Fw.Rg Go.Proofs.YthpbakljheeabaaGreatDoor Go.ChangeShapes Go.WideShapes Go.RowKit
set_option maxRecDepth 100000
theorem contract(H:Type)(enc:TypeId×Value->H)(W:World)(base:Nat)(args:Array Value)(ds gs:List (DataW H))(before:List MemPlace)(hsh:W.ShapedOpen Tryz.prog)(hL:laidMetH Tryz.prog Rows.lowerJoinedUptoRow.laid W)
  (hval:∀(j:Nat) t v,Tryz.f6.params[j]? = some t->args[j]? = some v->Value.okWide Tryz.prog W .any base t v)
  (hW:DataW.Whole enc Tryz.prog Tryz.f6.params.toList Rows.lowerJoinedSpec.vars false W args.toList ds gs before) (hk:Rows.uptoSmall H (ds++gs)=true) :
  Calls Tryz.prog 6 args W λe W'=>∃v,e = .returned v/\Rows.lowerJoinedSpec.post enc Tryz.prog Tryz.f6 false true false false W args v W':=by
 refine FN tok' z0o (fn:=Tryz.f6) rfl (tb:=4) rfl (by kernel_rfl) laid ?_ (z0l hsh hL) hval hW ?_ ?_
 ·intro t ht
  have:t=27:=by simpa[Tryz.f6]using ht
  subst this
  exact⟨by decide,by kernel_rfl,of_decide_eq_true (by kernel_rfl)⟩
 ·intro xs hx
  obtain⟨d,e,rfl,_⟩:=z99 (t:=27) (u:=27) hx
  rfl
 ·intro _ xs hx
  obtain⟨d,e,rfl,n0,l0,n1,l1,k0,k1,rfl⟩:=z99 (t:=27) (u:=27) hx
  have hb:=z0n hk
  simp only[Rows.uptoBulkAll]at hb
  obtain⟨a0,rfl,g0⟩:=Tv k0 (by omega)
  obtain⟨a1,rfl,g1⟩:=Tv k1 (by omega)
  exact QY ⟨_,Tryz.func6,by kernel_rfl,by kernel_rfl⟩ (XK a0 a1 g0 g1)
theorem lifted(os:Os)(started:os.Started)(H:Type)(enc:TypeId×Value->H)(F:Stop.Interp) :
  ReturnsInHanded {} Tryz.checked os 6 .any ((Rows.OpenSpec.upto Rows.lowerJoinedSpec).preRow enc Tryz.prog Tryz.f6 Rows.lowerJoinedUptoRow.domain false Rows.lowerJoinedUptoRow.laid) (((Rows.OpenSpec.upto Rows.lowerJoinedSpec).at F).post enc Tryz.prog Tryz.f6 false true false false):=by
 refine returnsInHanded_of_row (C:=Tryz.checked) (s:=Rows.OpenSpec.upto Rows.lowerJoinedSpec) own started (by kernel_rfl) Tryz.func6
  (witness_row_at (enc:=enc) (C:=Tryz.checked) false (laidWorld os) #[.agg #[.int .i64 0,.int .i64 0,.slice none 0 0,.slice none 0 0,.slice none 0 0,.slice none 0 0,.int .i64 0,.slice none 0 0],.agg #[.int .i64 0,.int .i64 0,.slice none 0 0,.slice none 0 0,.slice none 0 0,.slice none 0 0,.int .i64 0,.slice none 0 0]] rfl (by kernel_rfl) (by kernel_rfl) (by kernel_rfl)
   (OpenSpec.preRow_of_cond 8 (x:=([.agg [.lit (.int .i64 0),.lit (.int .i64 0),.nil,.nil,.nil,.nil,.lit (.int .i64 0),.nil],.agg [.lit (.int .i64 0),.lit (.int .i64 0),.nil,.nil,.nil,.nil,.lit (.int .i64 0),.nil]],[],[])) (by kernel_rfl) (by kernel_rfl) (λk hk=>by cases hk;kernel_rfl) (by kernel_rfl) (laid_met os _))) ?_
 intro W base args ds gs before hval hW _ hk _ hL hsh _
 exact contract H enc W base args ds gs before hsh hL hval hW (hk _ rfl)
theorem said:Rows.LowerJoinedUptoSaid:=
 OpenClaim.holds_of_cond 6 Tryz.f6 rfl rfl rfl rfl rfl rfl rfl ⟨rfl,rfl,rfl,rfl,rfl⟩ rfl rfl rfl rfl rfl (by kernel_rfl) Tryz.func6 (by kernel_rfl)
  (of_decide_eq_true (by kernel_rfl)) (by unfold Func.isWrapper;first |(rw[if_pos (by decide +kernel)];kernel_rfl) |(rw[if_neg (by decide +kernel)];exact⟨rfl,rfl⟩))
  (λos started H enc _ F=>by rw[OpenClaim.pre_eq_preRow];exact lifted os started H enc F)
theorem plain(f:FuncId)(fn:Func)(hf:Tryz.pinned.checked.prog.funcNamed "soundpost/soundpostlaw19.LowerJoined" = some f)(hfn:Tryz.pinned.checked.prog.funcs[f]? = some fn) :
  true=Tryz.pinned.checked.prog.looks []/\∀(j:Nat) t,fn.params[j]? = some t->Tryz.pinned.checked.prog.wantsStandIn t=false:=by
 obtain rfl:f=6:=Option.some.inj ((show Tryz.prog.funcNamed "soundpost/soundpostlaw19.LowerJoined" = some 6 by kernel_rfl).symm.trans hf) |>.symm
 obtain rfl:fn=Tryz.f6:=(Option.some.inj (Tryz.func6.symm.trans hfn)).symm
 refine⟨by kernel_rfl,λj t ht=>?_⟩
 have ht:t∈Tryz.f6.params.toList:=by simpa using Array.mem_of_getElem? ht
 have:t=27:=by simpa[Tryz.f6]using ht
 subst this
 exact(show Tryz.prog.wantsStandIn 27=false by kernel_rfl)
theorem holds:Rows.LowerJoinedUptoCardSaid:=
 Claim7.holds_tied_plain_at .later [] _ _ _ _ said (λ_ h=>by cases h) (by kernel_rfl) (λ_ h=>by cases h) lowerJoinedUpto_row_tie rfl ⟨rfl,rfl⟩ (by kernel_rfl) rfl plain (by kernel_rfl)
end Go.Proofs.YthpbakljheeabaaGreatDoor.joinedLaw
