/- SyntaxParentheses: parentheses around the expressions of statements do not change what is parsed; for arguments of a bulk of at most 1048576 together; the arguments read afterwards as before. Conditions: the row's own. -/
import Derived.Test.YtmfehangcmbidaaGreatDoorZYP1
import Derived.Test.YtmfehangcmbidaaGreatDoorZSS23
set_option linter.unusedSectionVars false
set_option linter.unusedSimpArgs false
set_option linter.unusedVariables false
namespace Go.Proofs.YtmfehangcmbidaaGreatDoor.parLaw
open Go.Fw Go.Fw.Lx Go.Fw.Sy Go.Proofs.YtmfehangcmbidaaGreatDoor Go.ChangeShapes Go.WideShapes Go.RowKit
set_option maxRecDepth 100000
theorem contract(H:Type)(enc:TypeId×Value->H)(W:World)(base:Nat)(args:Array Value)(ds gs:List (DataW H))(before:List MemPlace)(hsh:W.ShapedOpen Tryz.prog)(hL:laidMetH Tryz.prog Rows.syntaxParenthesesUptoRow.laid W)
  (hval:∀(j:Nat) t v,Tryz.f7.params[j]? = some t->args[j]? = some v->Value.okWide Tryz.prog W .any base t v)
  (hW:DataW.Whole enc Tryz.prog Tryz.f7.params.toList Rows.syntaxParenthesesSpec.vars false W args.toList ds gs before) (hk:Rows.uptoSmall H (ds++gs)=true) :
  Calls Tryz.prog 7 args W λe W'=>∃v,e = .returned v/\Rows.syntaxParenthesesSpec.post enc Tryz.prog Tryz.f7 false true false false W args v W':=by
 refine EG tok' X9 (fn:=Tryz.f7) rfl (tb:=4) rfl (by kernel_rfl) laid ?_ (X7 hsh hL) hval hW ?_ ?_
 ·intro t ht
  have:t=9\/t=33:=by simpa[Tryz.f7]using ht
  rcases this with rfl |rfl
  ·exact⟨by decide,by kernel_rfl,of_decide_eq_true (by kernel_rfl)⟩
  ·exact⟨by decide,by kernel_rfl,of_decide_eq_true (by kernel_rfl)⟩
 ·intro xs hx
  obtain⟨d,e,rfl,_⟩:=z7h (t:=9) (u:=33) hx
  rfl
 ·intro _ xs hx
  obtain⟨d,e,rfl,n0,l0,n1,l1,k0,k1,rfl⟩:=z7h (t:=9) (u:=33) hx
  have hb:=X8 hk
  simp only[Rows.uptoBulkAll]at hb
  obtain⟨a0,rfl,h0⟩:=z1a rfl k0
  obtain⟨a1,rfl,h1⟩:=UB k1
  exact PL ⟨_,Tryz.func7,by kernel_rfl,by kernel_rfl⟩ (ZM a0 a1 (by omega))
theorem lifted(os:Os)(started:os.Started)(H:Type)(enc:TypeId×Value->H)(F:Stop.Interp) :
  ReturnsInHanded {} Tryz.checked os 7 .any ((Rows.OpenSpec.upto Rows.syntaxParenthesesSpec).preRow enc Tryz.prog Tryz.f7 Rows.syntaxParenthesesUptoRow.domain false Rows.syntaxParenthesesUptoRow.laid) (((Rows.OpenSpec.upto Rows.syntaxParenthesesSpec).at F).post enc Tryz.prog Tryz.f7 false true false false):=by
 refine returnsInHanded_of_row (C:=Tryz.checked) (s:=Rows.OpenSpec.upto Rows.syntaxParenthesesSpec) own started (by kernel_rfl) Tryz.func7
  (witness_row_at (enc:=enc) (C:=Tryz.checked) false (laidWorld os) #[.string .empty,.slice none 0 0] rfl (by kernel_rfl) (by kernel_rfl) (by kernel_rfl)
   (OpenSpec.preRow_of_cond 8 (x:=([.lit (.string []),.nil],[],[])) (by kernel_rfl) (by kernel_rfl) (λk hk=>by cases hk;kernel_rfl) (by kernel_rfl) (laid_met os _))) ?_
 intro W base args ds gs before hval hW _ hk _ hL hsh _
 exact contract H enc W base args ds gs before hsh hL hval hW (hk _ rfl)
theorem said:Rows.SyntaxParenthesesUptoSaid:=
 OpenClaim.holds_of_cond 7 Tryz.f7 rfl rfl rfl rfl rfl rfl rfl ⟨rfl,rfl,rfl,rfl,rfl⟩ rfl rfl rfl rfl rfl (by kernel_rfl) Tryz.func7 (by kernel_rfl)
  (of_decide_eq_true (by kernel_rfl)) (by unfold Func.isWrapper;first |(rw[if_pos (by decide +kernel)];kernel_rfl) |(rw[if_neg (by decide +kernel)];exact⟨rfl,rfl⟩))
  (λos started H enc _ F=>by rw[OpenClaim.pre_eq_preRow];exact lifted os started H enc F)
theorem plain(f:FuncId)(fn:Func)(hf:Tryz.pinned.checked.prog.funcNamed "soundpost/soundpostlaw14.SyntaxParentheses" = some f)(hfn:Tryz.pinned.checked.prog.funcs[f]? = some fn) :
  true=Tryz.pinned.checked.prog.looks []/\∀(j:Nat) t,fn.params[j]? = some t->Tryz.pinned.checked.prog.wantsStandIn t=false:=by
 obtain rfl:f=7:=Option.some.inj ((show Tryz.prog.funcNamed "soundpost/soundpostlaw14.SyntaxParentheses" = some 7 by kernel_rfl).symm.trans hf) |>.symm
 obtain rfl:fn=Tryz.f7:=(Option.some.inj (Tryz.func7.symm.trans hfn)).symm
 refine⟨by kernel_rfl,λj t ht=>?_⟩
 have ht:t∈Tryz.f7.params.toList:=by simpa using Array.mem_of_getElem? ht
 have:t=9\/t=33:=by simpa[Tryz.f7]using ht
 rcases this with rfl |rfl
 ·exact(show Tryz.prog.wantsStandIn 9=false by kernel_rfl)
 ·exact(show Tryz.prog.wantsStandIn 33=false by kernel_rfl)
theorem holds:Rows.SyntaxParenthesesUptoCardSaid:=
 Claim7.holds_tied_plain_at .later [] _ _ _ _ said (λ_ h=>by cases h) (by kernel_rfl) (λ_ h=>by cases h) syntaxParenthesesUpto_row_tie rfl ⟨rfl,rfl⟩ (by kernel_rfl) rfl plain (by kernel_rfl)
end Go.Proofs.YtmfehangcmbidaaGreatDoor.parLaw
