/- Contracts: the law SyntaxJoined. -/
import Derived.Test.YtmfehangcmbidaaGreatDoorZXE
set_option linter.unusedSectionVars false
set_option linter.unusedSimpArgs false
set_option linter.unusedVariables false
set_option maxHeartbeats 400000
namespace Go.Proofs.YtmfehangcmbidaaGreatDoor
open Go.Fw Go.Fw.Lx Go.Fw.Sy
set_option maxRecDepth 10000
variable [ae]
theorem bD{s:Sy.Str}{r:D}(h:s.length<=1073741823)(e:gY s=r):aj Tryz.prog 10 [.str s] (.ret r):=by
 have:=Bz s (WS h);rw[e]at this;exact this
def Ol(a b:Sy.Str):Bool:=bif decide ((a.length:Int)>2000)then true else decide ((b.length:Int)>2000)
theorem IX(a b:Sy.Str)(hE:Ol a b=true):aj Tryz.prog 5 [.str a,.str b] (.ret (.b true)):=by
 refine af tok hmix ⟨[],[]⟩ Tryz.func5 rfl (by kernel_rfl) (by kernel_rfl) (by kernel_rfl) λhf=>?_
 clear hf
 repeat' ((try(conv=>whnf))<;>first
  |refine BrI.intro (λh=>?_) (λh=>?_)
  |(exact Bool.noConfusion (hE.symm.trans h))
  |((refine ai ?_ ?_ ?_);rotate_left;(exact iK))
  |((refine ah ?_);refine⟨[],rfl,?_,trivial⟩;conv=>whnf)
  |fail)
 all_goals first
  |((exact Bool.noConfusion h))
  |skip
theorem BA(a b:Sy.Str)(i e:Int)(r:List Pr)(j f:Int)(hE:Ol a b=false)(qa:aj Tryz.prog 10 [.str a] (.ret (.tuple [.sl 8 [],.i i,.i e])))(he:(e != 0)=true)(qb:aj Tryz.prog 10 [.str b] (.ret (.tuple [prs r,.i j,.i f]))):aj Tryz.prog 5 [.str a,.str b] (.ret (.b true)):=by
 refine af tok hmix ⟨[],[]⟩ Tryz.func5 rfl (by kernel_rfl) (by kernel_rfl) (by kernel_rfl) λhf=>?_
 clear hf
 repeat' ((try(conv=>whnf))<;>first
  |refine BrI.intro (λh=>?_) (λh=>?_)
  |(exact Bool.noConfusion (hE.symm.trans h))
  |(exact Bool.noConfusion (he.symm.trans h))
  |((refine ai ?_ ?_ ?_);rotate_left;(first |exact iK |exact qa |exact qb))
  |((refine ah ?_);refine⟨[],rfl,?_,trivial⟩;conv=>whnf)
  |fail)
 all_goals first
  |((exact Bool.noConfusion h))
  |(rfl)
  |skip
theorem BB(a b:Sy.Str)(x:List Pr)(j k f:Int)(ha:a.length<=1048576)(hb:b.length<=1048576)(hE:Ol a b=false)(qa:aj Tryz.prog 10 [.str a] (.ret (.tuple [prs x,.i 0,.i 0])))(qb:aj Tryz.prog 10 [.str b] (.ret (.tuple [.sl 8 [],.i j,.i f])))(qz:aj Tryz.prog 10 [.str (a++[10]++b)] (.ret (.tuple [.sl 8 [],.i k,.i f])))(hf':(f != 0)=true)(hk:(k==IntKind.i64.wrap (IntKind.i64.wrap (j+(a.length:Int))+1))=true):aj Tryz.prog 5 [.str a,.str b] (.ret (.b true)):=by
 refine af tok hmix ⟨[],[]⟩ Tryz.func5 rfl (by kernel_rfl) (by kernel_rfl) (by kernel_rfl) λhf=>?_
 clear hf
 repeat' ((try(conv=>whnf))<;>first
  |refine BrI.intro (λh=>?_) (λh=>?_)
  |(exact Bool.noConfusion (hE.symm.trans h))
  |(exact Bool.noConfusion (hf'.symm.trans h))
  |((refine ai ?_ ?_ ?_);rotate_left;(first |exact iK |exact qa |exact qb |exact qz))
  |((refine ah ?_);refine⟨[],rfl,?_,trivial⟩;conv=>whnf)
  |(refine And.intro ?_ ?_)
  |fail)
 all_goals first
  |((exact Bool.noConfusion h))
  |((show(_:Int)<=9223372036854775807;simp only[List.length_append,List.length_cons,List.length_nil];omega))
  |((refine congrArg (λz=>D.val (Value.bool z)) ?_;rw[hk,show(f==f)=true from beq_self_eq_true f];rfl))
  |skip
theorem joined_ok(a b:Sy.Str)(x y:List Pr)(ha:a.length<=1048576)(hb:b.length<=1048576)(hx:x.length<=1048576)(hy:y.length<=1048576)(hE:Ol a b=false)(qa:aj Tryz.prog 10 [.str a] (.ret (.tuple [prs x,.i 0,.i 0])))(qb:aj Tryz.prog 10 [.str b] (.ret (.tuple [prs y,.i 0,.i 0])))(qz:aj Tryz.prog 10 [.str (a++[10]++b)] (.ret (.tuple [prs (x++y),.i 0,.i 0]))):aj Tryz.prog 5 [.str a,.str b] (.ret (.b true)):=by
 refine af tok hmix ⟨[],[]⟩ Tryz.func5 rfl (by kernel_rfl) (by kernel_rfl) (by kernel_rfl) λhf=>?_
 have hq:aj Tryz.prog 12 [prs (x++y),.sl 8 (([]++x.map Pr.cs)++y.map Pr.cs)] (.ret (.b true)):=by have h:=eP (x++y) (x++y);rw[wB]at h;rw[List.nil_append,<-List.map_append];exact h
 clear hf
 repeat' ((try(conv=>whnf))<;>first
  |((refine yO ?_ ?_);kernel_rfl)
  |refine BrI.intro (λh=>?_) (λh=>?_)
  |(exact Bool.noConfusion (hE.symm.trans h))
  |((refine Lx.gi_step ?_ ?_);kernel_rfl)
  |((refine ai ?_ ?_ ?_);rotate_left;(first |exact iK |exact qa |exact qb |exact qz |exact hq))
  |(refine aB.l _ ?_)
  |((refine app_step' ?_ ?_ ?_ ?_ ?_ ?_ ?_);exact rfl;exact rfl;exact rfl;exact rfl)
  |((refine ah ?_);refine⟨[],rfl,?_,trivial⟩;conv=>whnf)
  |(refine And.intro ?_ ?_)
  |exact eU rfl
  |fail)
 all_goals first
  |((exact Bool.noConfusion h))
  |(rfl)
  |((show(_:Int)<=9223372036854775807;simp only[List.length_append,List.length_cons,List.length_nil];omega))
  |((rw[List.length_map];omega))
  |((show([]++x.map Pr.cs).length<=_;rw[List.nil_append,List.length_map];omega))
  |skip
end Go.Proofs.YtmfehangcmbidaaGreatDoor
