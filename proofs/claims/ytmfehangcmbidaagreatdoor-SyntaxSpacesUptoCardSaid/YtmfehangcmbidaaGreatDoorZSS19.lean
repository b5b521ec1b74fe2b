/- Contracts: the law SyntaxChange. -/
import Derived.Test.YtmfehangcmbidaaGreatDoorZSS17
import Derived.Test.YtmfehangcmbidaaGreatDoorZLS6
import Derived.Test.YtmfehangcmbidaaGreatDoorZSD9
set_option linter.unusedSectionVars false
set_option linter.unusedSimpArgs false
set_option linter.unusedVariables false
set_option maxHeartbeats 4000000
namespace Go.Proofs.YtmfehangcmbidaaGreatDoor
open Go.Fw Go.Fw.Lx Go.Fw.Sy
set_option maxRecDepth 10000
variable [ae]
def vO(src:Sy.Str)(l:List Tk)(e f:Int)(other:Tk):Bool:=bif bif bif bif bif decide ((src.length:Int)>2000)then true else e != 0 then true else f != 0 then true else((l.map Tk.cs).length:Int)==0 then true else decide (((l.map Tk.cs).length:Int)>1000)then true else !(EW other)
def S9(g a:Int)(b s:Sy.Str):Bool:=bif bif g==0 then a==0 else false then true else bif bif g==140 then decide (a>=(b.length:Int))else false then decide (a<=(s.length:Int))else false
theorem kK(src:Sy.Str)(n:Int)(other:Tk)(l:List Tk)(x:List Pr)(p e p2 f:Int)(hE:vO src l e f other=true)(qL:aj Tryz.prog 15 [.str src] (.ret (.tuple [toks l,.i p,.i e])))(qP:aj Tryz.prog 10 [.str src] (.ret (.tuple [prs x,.i p2,.i f]))):aj Tryz.prog 6 [.str src,.i n,other.d] (.ret (.b true)):=by
 refine af tok hmix ⟨[],[]⟩ Tryz.func6 rfl (by kernel_rfl) (by kernel_rfl) (by kernel_rfl) λhf=>?_
 clear hf
 repeat' ((try(conv=>whnf))<;>first
  |with_reducible exact trivial
  |with_reducible exact rfl
  |with_reducible refine BrI.tt ?_
  |with_reducible refine BrI.ff ?_
  |with_reducible refine BrI.intro (λh=>?_) (λh=>?_)
  |(exact Bool.noConfusion (hE.symm.trans h))
  |((with_reducible refine ai ?_ ?_ ?_);rotate_left;(first |exact iK |exact qL |exact qP |exact zu other |fail))
  |(with_reducible refine aB.l _ ?_)
  |((with_reducible refine di ?_ ?_ ?_ ?_ ?_ ?_)<;>exact rfl)
  |((with_reducible refine dF ?_ ?_ ?_ ?_)<;>exact rfl)
  |((with_reducible refine kH ?_ ?_ ?_);exact rfl;exact rfl)
  |((with_reducible refine aW ?_ ?_ ?_ ?_ ?_);exact rfl;exact rfl;rotate_left;(first |with_reducible exact ve ‹_› |fail))
  |((with_reducible refine bW ?_ ?_);exact rfl)
  |((with_reducible refine app_step' ?_ ?_ ?_ ?_ ?_ ?_ ?_);exact rfl;exact rfl;exact rfl;exact rfl)
  |((with_reducible refine nil_step' ?_ ?_ ?_ ?_);exact rfl;exact rfl)
  |((with_reducible refine aJ ?_ ?_ (λhg=>?_) ?_);exact rfl)
  |((with_reducible refine iT ?_ ?_ (λhg=>?_) ?_);exact rfl)
  |((with_reducible refine aX ?_ ?_);with_reducible exact rfl;with_reducible exact rfl)
  |((with_reducible refine same_step ?_ ?_);with_reducible exact rfl)
  |((with_reducible refine sV ?_ ?_);kernel_rfl)
  |((with_reducible refine aF ?_ ?_);kernel_rfl)
  |((with_reducible refine fJ ?_ ?_);kernel_rfl)
  |((with_reducible refine ah ?_);refine⟨[],rfl,?_,trivial⟩;conv=>whnf)
  |((with_reducible refine ret_need ?_ ?_);rotate_left;refine⟨[],rfl,?_,trivial⟩;conv=>whnf)
  |((with_reducible refine pan_need ?_ ?_);rotate_left;refine⟨[],rfl,?_,trivial⟩;conv=>whnf)
  |((with_reducible refine pan_step ?_);refine⟨[],rfl,?_,trivial⟩;conv=>whnf)
  |(with_reducible refine And.intro ?_ ?_)
  |((with_reducible refine sZ ?_ ?_ ?_);exact rfl;exact rfl;(first |with_reducible exact map_app |with_reducible exact map_app3 |with_reducible exact map_app4 |exact cu |exact rfl |skip))
  |((with_reducible refine fK ?_ ?_);exact rfl;(first |with_reducible exact map_app |with_reducible exact map_app3 |with_reducible exact map_app4 |exact cu |exact rfl |skip))
  |((with_reducible refine aI ?_);refine dA ?_ ?_ ?_;exact rfl;exact rfl;(first |exact rfl |skip))
  |exact @rfl AV _
  |exact @rfl Block _
  |exact @rfl (List AV) _
  |exact eU rfl
  |fail)
 all_goals first
  |((exact Bool.noConfusion h))
  |(rfl)
  |skip
theorem Gi(src:Sy.Str)(n:Int)(other:Tk)(l:List Tk)(x y:List Pr)(j:Nat)(s b:Sy.Str)(a g:Int)(hE:vO src l 0 0 other=false)(qL:aj Tryz.prog 15 [.str src] (.ret (.tuple [toks l,.i 0,.i 0])))(qP:aj Tryz.prog 10 [.str src] (.ret (.tuple [prs x,.i 0,.i 0])))(hJ:IntKind.i64.wrap ((IntKind.u64.wrap n).tmod (IntKind.u64.wrap ((l.map Tk.cs).length:Int)))=(j:Int))(hj:j<l.length)(hl:l.length<=1048576)(qS:aj Tryz.prog 16 [toks (l.set j other)] (.ret (.tuple [.str s,.i 0])))(qB:aj Tryz.prog 16 [toks ((l.set j other).take j)] (.ret (.tuple [.str b,.i 0])))(qZ:aj Tryz.prog 10 [.str s] (.ret (.tuple [prs y,.i a,.i g])))(hp:Lib.hasPrefix s b=true)(hF:S9 g a b s=true):aj Tryz.prog 6 [.str src,.i n,other.d] (.ret (.b true)):=by
 refine af tok hmix ⟨[10],[]⟩ Tryz.func6 rfl (by kernel_rfl) (by kernel_rfl) (by kernel_rfl) λhf=>?_
 have qB':aj Tryz.prog 16 [.sl 4 (cut none (some (j:Int)) ((l.set j other).map Tk.cs))] (.ret (.tuple [.str b,.i 0])):=by rw[show cut none (some (j:Int)) ((l.set j other).map Tk.cs)=((l.set j other).take j).map Tk.cs by simp[cut,List.map_take]];exact qB
 clear hf
 repeat' ((try(conv=>whnf))<;>first
  |(with_reducible refine aB.r 67 ?_)
  |with_reducible exact trivial
  |with_reducible exact rfl
  |with_reducible refine BrI.tt ?_
  |with_reducible refine BrI.ff ?_
  |with_reducible refine BrI.intro (λh=>?_) (λh=>?_)
  |(exact Bool.noConfusion (hE.symm.trans h))
  |((with_reducible refine wo ?_ ?_ ?_ ?_ ?_ ?_ ?_ ?_);exact rfl;exact rfl;exact rfl;exact(by decide);exact rfl)
  |((with_reducible refine nU ?_ ?_ ?_ ?_ ?_);exact rfl;exact rfl;exact rfl)
  |((with_reducible refine kS ?_ ?_ ?_ ?_ ?_ ?_ ?_ ?_ ?_);exact rfl;exact rfl;exact rfl;exact rfl;exact eU rfl;exact rfl;rotate_left;exact z2d hJ hj)
  |((with_reducible refine freeze_step ?_ ?_ ?_ ?_ ?_ ?_ ?_);exact rfl;exact rfl;exact rfl;exact rfl;exact rfl)
  |((with_reducible refine aN.mk 10 ?_);refine⟨⟨Unit,λ_=>[(14,.data (toks (l.set j other))),(13,.data (.i (j:Int)))],λ_=>[],[],λ_=>True,λ_=>0⟩,?_,λ_ _=>?_⟩)
  |(refine⟨(),trivial,?_⟩)
  |((with_reducible refine ai ?_ ?_ ?_);rotate_left;(first |exact iK |exact qL |exact qP |exact zu other |exact qS |exact qB' |exact qZ |exact qX s b |fail))
  |(with_reducible refine aB.l _ ?_)
  |((with_reducible refine di ?_ ?_ ?_ ?_ ?_ ?_)<;>exact rfl)
  |((with_reducible refine dF ?_ ?_ ?_ ?_)<;>exact rfl)
  |((with_reducible refine kH ?_ ?_ ?_);exact rfl;exact rfl)
  |((with_reducible refine aW ?_ ?_ ?_ ?_ ?_);exact rfl;exact rfl;rotate_left;(first |with_reducible exact ve ‹_› |fail))
  |((with_reducible refine bW ?_ ?_);exact rfl)
  |((with_reducible refine app_step' ?_ ?_ ?_ ?_ ?_ ?_ ?_);exact rfl;exact rfl;exact rfl;exact rfl)
  |((with_reducible refine nil_step' ?_ ?_ ?_ ?_);exact rfl;exact rfl)
  |((with_reducible refine aJ ?_ ?_ (λhg=>?_) ?_);exact rfl)
  |((with_reducible refine iT ?_ ?_ (λhg=>?_) ?_);exact rfl)
  |((with_reducible refine aX ?_ ?_);with_reducible exact rfl;with_reducible exact rfl)
  |((with_reducible refine same_step ?_ ?_);with_reducible exact rfl)
  |((with_reducible refine sV ?_ ?_);kernel_rfl)
  |((with_reducible refine aF ?_ ?_);kernel_rfl)
  |((with_reducible refine fJ ?_ ?_);kernel_rfl)
  |((with_reducible refine ah ?_);refine⟨[],rfl,?_,trivial⟩;conv=>whnf)
  |((with_reducible refine ret_need ?_ ?_);rotate_left;refine⟨[],rfl,?_,trivial⟩;conv=>whnf)
  |((with_reducible refine pan_need ?_ ?_);rotate_left;refine⟨[],rfl,?_,trivial⟩;conv=>whnf)
  |((with_reducible refine pan_step ?_);refine⟨[],rfl,?_,trivial⟩;conv=>whnf)
  |(with_reducible refine And.intro ?_ ?_)
  |((with_reducible refine sZ ?_ ?_ ?_);exact rfl;exact rfl;(first |with_reducible exact map_app |with_reducible exact map_app3 |with_reducible exact map_app4 |exact cu |exact rfl |skip))
  |((with_reducible refine fK ?_ ?_);exact rfl;(first |with_reducible exact map_app |with_reducible exact map_app3 |with_reducible exact map_app4 |exact cu |exact rfl |skip))
  |((with_reducible refine aI ?_);refine dA ?_ ?_ ?_;exact rfl;exact rfl;(first |exact rfl |skip))
  |exact @rfl AV _
  |exact @rfl Block _
  |exact @rfl (List AV) _
  |exact eU rfl
  |fail)
 all_goals first
  |((exact Bool.noConfusion h))
  |(rfl)
  |((rw[List.length_map];exact z2g (by omega) hl))
  |((rw[List.length_map];omega))
  |((rw[hJ];exact Int.natCast_nonneg _))
  |((rw[hJ,Nat.zero_add,List.length_map];exact Int.ofNat_lt.2 hj))
  |((exact z2e))
  |((exact z2f hJ rfl))
  |((exact congrArg (λz=>AV.data (D.val (Value.int IntKind.i64 z))) hJ))
  |((exact Int.natCast_nonneg _))
  |((simp only[List.length_map,List.length_set];omega))
  |((exact Bool.noConfusion (((congrArg Bool.not hp).symm.trans h:(false:Bool)=true))))
  |((exact congrArg (λz=>D.val (Value.bool z)) hF))
  |skip
end Go.Proofs.YtmfehangcmbidaaGreatDoor
