/- SyntaxChange: if one token of a source that is accepted is replaced by another one, Parse accepts the result, or refuses this token or a later one; for arguments of a bulk of at most 1048576 together; the arguments read afterwards as before. Conditions: the row's own. -/
import Derived.Test.YtmfehangcmbidaaGreatDoorZYP1
import Derived.Test.YtmfehangcmbidaaGreatDoorZSS20
set_option linter.unusedSectionVars false
set_option linter.unusedSimpArgs false
set_option linter.unusedVariables false
namespace Go.Proofs.YtmfehangcmbidaaGreatDoor.changeLaw
open Go.Fw Go.Fw.Lx Go.Fw.Sy Go.Proofs.YtmfehangcmbidaaGreatDoor Go.ChangeShapes Go.WideShapes Go.RowKit
set_option maxRecDepth 100000
theorem contract(H:Type)(enc:TypeId×Value->H)(W:World)(base:Nat)(args:Array Value)(ds gs:List (DataW H))(before:List MemPlace)(hsh:W.ShapedOpen Tryz.prog)(hL:laidMetH Tryz.prog Rows.syntaxChangeUptoRow.laid W)
  (hval:∀(j:Nat) t v,Tryz.f6.params[j]? = some t->args[j]? = some v->Value.okWide Tryz.prog W .any base t v)
  (hW:DataW.Whole enc Tryz.prog Tryz.f6.params.toList Rows.syntaxChangeSpec.vars false W args.toList ds gs before) (hk:Rows.uptoSmall H (ds++gs)=true) :
  Calls Tryz.prog 6 args W λe W'=>∃v,e = .returned v/\Rows.syntaxChangeSpec.post enc Tryz.prog Tryz.f6 false true false false W args v W':=by
 refine nT tok' Ii (fn:=Tryz.f6) rfl (tb:=4) rfl (by kernel_rfl) laid ?_ (Ig hsh hL) hval hW ?_ ?_
 ·intro t ht
  have:t=9\/t=3\/t=38:=by simpa[Tryz.f6]using ht
  rcases this with rfl |rfl |rfl
  ·exact⟨by decide,by kernel_rfl,of_decide_eq_true (by kernel_rfl)⟩
  ·exact⟨by decide,by kernel_rfl,of_decide_eq_true (by kernel_rfl)⟩
  ·exact⟨by decide,by kernel_rfl,of_decide_eq_true (by kernel_rfl)⟩
 ·intro xs hx
  obtain⟨d,e,f,rfl,_⟩:=z4p (t:=9) (u:=3) (v:=38) hx
  rfl
 ·intro _ xs hx
  obtain⟨d,e,f,rfl,n0,l0,n1,l1,n2,l2,k0,k1,k2,rfl⟩:=z4p (t:=9) (u:=3) (v:=38) hx
  have hb:=Ih hk
  simp only[Rows.uptoBulkAll]at hb
  obtain⟨a0,rfl,h0⟩:=Fg rfl k0
  obtain⟨a1,rfl,_⟩:=Ff (k:=.i64) rfl k1
  obtain⟨a2,rfl,h2,_⟩:=z3e k2
  exact yN ⟨_,Tryz.func6,by kernel_rfl,by kernel_rfl⟩ (Ox a0 a1 a2 (by omega))
theorem lifted(os:Os)(started:os.Started)(H:Type)(enc:TypeId×Value->H)(F:Stop.Interp) :
  ReturnsInHanded {} Tryz.checked os 6 .any ((Rows.OpenSpec.upto Rows.syntaxChangeSpec).preRow enc Tryz.prog Tryz.f6 Rows.syntaxChangeUptoRow.domain false Rows.syntaxChangeUptoRow.laid) (((Rows.OpenSpec.upto Rows.syntaxChangeSpec).at F).post enc Tryz.prog Tryz.f6 false true false false):=by
 refine returnsInHanded_of_row (C:=Tryz.checked) (s:=Rows.OpenSpec.upto Rows.syntaxChangeSpec) own started (by kernel_rfl) Tryz.func6
  (witness_row_at (enc:=enc) (C:=Tryz.checked) false (laidWorld os) #[.string .empty,.int .i64 0,.agg #[.int .i64 0,.string .empty,.int .i64 0,.int .i64 0]] rfl (by kernel_rfl) (by kernel_rfl) (by kernel_rfl)
   (OpenSpec.preRow_of_cond 8 (x:=([.lit (.string []),.lit (.int .i64 0),.agg [.lit (.int .i64 0),.lit (.string []),.lit (.int .i64 0),.lit (.int .i64 0)]],[],[])) (by kernel_rfl) (by kernel_rfl) (λk hk=>by cases hk;kernel_rfl) (by kernel_rfl) (laid_met os _))) ?_
 intro W base args ds gs before hval hW _ hk _ hL hsh _
 exact contract H enc W base args ds gs before hsh hL hval hW (hk _ rfl)
theorem said:Rows.SyntaxChangeUptoSaid:=
 OpenClaim.holds_of_cond 6 Tryz.f6 rfl rfl rfl rfl rfl rfl rfl ⟨rfl,rfl,rfl,rfl,rfl⟩ rfl rfl rfl rfl rfl (by kernel_rfl) Tryz.func6 (by kernel_rfl)
  (of_decide_eq_true (by kernel_rfl)) (by unfold Func.isWrapper;first |(rw[if_pos (by decide +kernel)];kernel_rfl) |(rw[if_neg (by decide +kernel)];exact⟨rfl,rfl⟩))
  (λos started H enc _ F=>by rw[OpenClaim.pre_eq_preRow];exact lifted os started H enc F)
theorem plain(f:FuncId)(fn:Func)(hf:Tryz.pinned.checked.prog.funcNamed "soundpost/soundpostlaw14.SyntaxChange" = some f)(hfn:Tryz.pinned.checked.prog.funcs[f]? = some fn) :
  true=Tryz.pinned.checked.prog.looks []/\∀(j:Nat) t,fn.params[j]? = some t->Tryz.pinned.checked.prog.wantsStandIn t=false:=by
 obtain rfl:f=6:=Option.some.inj ((show Tryz.prog.funcNamed "soundpost/soundpostlaw14.SyntaxChange" = some 6 by kernel_rfl).symm.trans hf) |>.symm
 obtain rfl:fn=Tryz.f6:=(Option.some.inj (Tryz.func6.symm.trans hfn)).symm
 refine⟨by kernel_rfl,λj t ht=>?_⟩
 have ht:t∈Tryz.f6.params.toList:=by simpa using Array.mem_of_getElem? ht
 have:t=9\/t=3\/t=38:=by simpa[Tryz.f6]using ht
 rcases this with rfl |rfl |rfl
 ·exact(show Tryz.prog.wantsStandIn 9=false by kernel_rfl)
 ·exact(show Tryz.prog.wantsStandIn 3=false by kernel_rfl)
 ·exact(show Tryz.prog.wantsStandIn 38=false by kernel_rfl)
theorem holds:Rows.SyntaxChangeUptoCardSaid:=
 Claim7.holds_tied_plain_at .later [] _ _ _ _ said (λ_ h=>by cases h) (by kernel_rfl) (λ_ h=>by cases h) syntaxChangeUpto_row_tie rfl ⟨rfl,rfl⟩ (by kernel_rfl) rfl plain (by kernel_rfl)
end Go.Proofs.YtmfehangcmbidaaGreatDoor.changeLaw
