/- TailsCheckSpec: Check matches the specification; for arguments of a bulk of at most 1048576 together; the arguments read afterwards as before. Conditions: the row's own. -/
import Derived.Test.YtogfjinopifenaaGreatDoorZTP1
import Derived.Test.YtogfjinopifenaaGreatDoorZWA
set_option linter.unusedSectionVars false
set_option linter.unusedSimpArgs false
set_option linter.unusedVariables false
namespace Go.Proofs.YtogfjinopifenaaGreatDoor.checkLaw
open Go.Fw Go.Fw.Ref15 Go.Fw.Rg Go.Proofs.YtogfjinopifenaaGreatDoor Go.ChangeShapes Go.WideShapes Go.RowKit
set_option maxRecDepth 100000
theorem contract(H:Type)(enc:TypeId×Value->H)(W:World)(base:Nat)(args:Array Value)(ds gs:List (DataW H))(before:List MemPlace)(hsh:W.ShapedOpen Tryz.prog)(hL:laidMetH Tryz.prog Rows.tailsCheckSpecUptoRow.laid W)
  (hval:∀(j:Nat) t v,Tryz.f4.params[j]? = some t->args[j]? = some v->Value.okWide Tryz.prog W .any base t v)
  (hW:DataW.Whole enc Tryz.prog Tryz.f4.params.toList Rows.tailsCheckSpecSpec.vars false W args.toList ds gs before) (hk:Rows.uptoSmall H (ds++gs)=true) :
  Calls Tryz.prog 4 args W λe W'=>∃v,e = .returned v/\Rows.tailsCheckSpecSpec.post enc Tryz.prog Tryz.f4 false true false false W args v W':=by
 refine bJ tok' jI (fn:=Tryz.f4) rfl (tb:=4) rfl (by kernel_rfl) laid ?_ (jE hsh hL) hval hW ?_ ?_
 ·intro t ht
  have:t=27:=by simpa[Tryz.f4]using ht
  subst this
  exact⟨by decide,by kernel_rfl,of_decide_eq_true (by kernel_rfl)⟩
 ·intro xs hx
  obtain⟨d,rfl,_⟩:=oM (t:=27) hx
  rfl
 ·intro _ xs hx
  obtain⟨d,rfl,n0,l0,k0,rfl⟩:=oM (t:=27) hx
  have hb:=jH hk
  simp only[Rows.uptoBulkAll]at hb
  obtain⟨a0,rfl,g0,f0⟩:=nG k0 (by omega)
  exact eY ⟨_,Tryz.func4,by kernel_rfl,by kernel_rfl⟩ (jy a0 g0)
theorem lifted(os:Os)(started:os.Started)(H:Type)(enc:TypeId×Value->H)(F:Stop.Interp) :
  ReturnsInHanded {} Tryz.checked os 4 .any ((Rows.OpenSpec.upto Rows.tailsCheckSpecSpec).preRow enc Tryz.prog Tryz.f4 Rows.tailsCheckSpecUptoRow.domain false Rows.tailsCheckSpecUptoRow.laid) (((Rows.OpenSpec.upto Rows.tailsCheckSpecSpec).at F).post enc Tryz.prog Tryz.f4 false true false false):=by
 refine returnsInHanded_of_row (C:=Tryz.checked) (s:=Rows.OpenSpec.upto Rows.tailsCheckSpecSpec) own started (by kernel_rfl) Tryz.func4
  (witness_row_at (enc:=enc) (C:=Tryz.checked) false (laidWorld os) #[.agg #[.string .empty,.int .i64 0,.int .i64 0,.slice none 0 0,.slice none 0 0,.slice none 0 0,.slice none 0 0,.slice none 0 0]] rfl (by kernel_rfl) (by kernel_rfl) (by kernel_rfl)
   (OpenSpec.preRow_of_cond 8 (x:=([.agg [.lit (.string []),.lit (.int .i64 0),.lit (.int .i64 0),.nil,.nil,.nil,.nil,.nil]],[],[])) (by kernel_rfl) (by kernel_rfl) (λk hk=>by cases hk;kernel_rfl) (by kernel_rfl) (laid_met os _))) ?_
 intro W base args ds gs before hval hW _ hk _ hL hsh _
 exact contract H enc W base args ds gs before hsh hL hval hW (hk _ rfl)
theorem said:Rows.TailsCheckSpecUptoSaid:=
 OpenClaim.holds_of_cond 4 Tryz.f4 rfl rfl rfl rfl rfl rfl rfl ⟨rfl,rfl,rfl,rfl,rfl⟩ rfl rfl rfl rfl rfl (by kernel_rfl) Tryz.func4 (by kernel_rfl)
  (of_decide_eq_true (by kernel_rfl)) (by unfold Func.isWrapper;first |(rw[if_pos (by decide +kernel)];kernel_rfl) |(rw[if_neg (by decide +kernel)];exact⟨rfl,rfl⟩))
  (λos started H enc _ F=>by rw[OpenClaim.pre_eq_preRow];exact lifted os started H enc F)
theorem plain(f:FuncId)(fn:Func)(hf:Tryz.pinned.checked.prog.funcNamed "soundpost/soundpostlaw17.TailsCheckSpec" = some f)(hfn:Tryz.pinned.checked.prog.funcs[f]? = some fn) :
  true=Tryz.pinned.checked.prog.looks []/\∀(j:Nat) t,fn.params[j]? = some t->Tryz.pinned.checked.prog.wantsStandIn t=false:=by
 obtain rfl:f=4:=Option.some.inj ((show Tryz.prog.funcNamed "soundpost/soundpostlaw17.TailsCheckSpec" = some 4 by kernel_rfl).symm.trans hf) |>.symm
 obtain rfl:fn=Tryz.f4:=(Option.some.inj (Tryz.func4.symm.trans hfn)).symm
 refine⟨by kernel_rfl,λj t ht=>?_⟩
 have ht:t∈Tryz.f4.params.toList:=by simpa using Array.mem_of_getElem? ht
 have:t=27:=by simpa[Tryz.f4]using ht
 subst this
 exact(show Tryz.prog.wantsStandIn 27=false by kernel_rfl)
theorem holds:Rows.TailsCheckSpecUptoCardSaid:=
 Claim7.holds_tied_plain_at .later [] _ _ _ _ said (λ_ h=>by cases h) (by kernel_rfl) (λ_ h=>by cases h) tailsCheckSpecUpto_row_tie rfl ⟨rfl,rfl⟩ (by kernel_rfl) rfl plain (by kernel_rfl)
end Go.Proofs.YtogfjinopifenaaGreatDoor.checkLaw
