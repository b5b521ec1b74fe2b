/- Contracts: the reference of package lex: small functions. -/
import Derived.Test.YtmfehangcmbidaaGreatDoorZLX
set_option linter.unusedSectionVars false
set_option linter.unusedSimpArgs false
set_option linter.unusedVariables false
set_option maxHeartbeats 400000
namespace Go.Proofs.YtmfehangcmbidaaGreatDoor
open Go.Fw Go.Fw.Lx
set_option maxRecDepth 10000
variable [ae]
theorem zt(c:UInt8)  : aj Tryz.prog 94 [D.u8 c] (.ret (.b (Ref03.letter c))):=by
 refine af tok hmix ⟨[],[]⟩ Tryz.func94 rfl (by kernel_rfl) (by kernel_rfl) (by kernel_rfl) λhf=>?_
 clear hf
 repeat' ((try(conv=>whnf))<;>first
  |((with_reducible refine ah ?_);refine⟨[],rfl,?_,trivial⟩;conv=>whnf)
  |fail)
 all_goals(try simp only[Bool.cond_true_left,Bool.cond_false_right,Bool.cond_false_left,Bool.cond_true_right,Bool.not_eq_true',Bool.not_eq_false',bne,Ex.css_len,List.length_map,Int.toNat_zero]at *)
 all_goals first
  |(simp only[Ref03.letter,Bool.not_true,Bool.not_false,Bool.and_true,Bool.true_and,Bool.and_false,Bool.false_and,Bool.or_true,Bool.true_or,Bool.or_false,Bool.false_or,if_true,if_false,reduceIte,Bool.false_eq_true,Bool.not_not,Bool.not_eq_true',beq_self_eq_true,List.all_cons,List.all_nil,List.any_cons,List.any_nil,List.length_map,bne,eq_self,Int.toNat_zero, *];done)
  |skip
theorem I7(c:UInt8)  : aj Tryz.prog 129 [D.u8 c] (.ret (.b (Ref03.figure c))):=by
 refine af tok hmix ⟨[],[]⟩ Tryz.func129 rfl (by kernel_rfl) (by kernel_rfl) (by kernel_rfl) λhf=>?_
 clear hf
 repeat' ((try(conv=>whnf))<;>first
  |((with_reducible refine ah ?_);refine⟨[],rfl,?_,trivial⟩;conv=>whnf)
  |fail)
 all_goals(try simp only[Bool.cond_true_left,Bool.cond_false_right,Bool.cond_false_left,Bool.cond_true_right,Bool.not_eq_true',Bool.not_eq_false',bne,Ex.css_len,List.length_map,Int.toNat_zero]at *)
 all_goals first
  |(simp only[Ref03.figure,Bool.not_true,Bool.not_false,Bool.and_true,Bool.true_and,Bool.and_false,Bool.false_and,Bool.or_true,Bool.true_or,Bool.or_false,Bool.false_or,if_true,if_false,reduceIte,Bool.false_eq_true,Bool.not_not,Bool.not_eq_true',beq_self_eq_true,List.all_cons,List.all_nil,List.any_cons,List.any_nil,List.length_map,bne,eq_self,Int.toNat_zero, *];done)
  |skip
theorem SY(c:UInt8)  : aj Tryz.prog 95 [D.u8 c] (.ret (.b (Ref03.part c))):=by
 refine af tok hmix ⟨[],[]⟩ Tryz.func95 rfl (by kernel_rfl) (by kernel_rfl) (by kernel_rfl) λhf=>?_
 clear hf
 repeat' ((try(conv=>whnf))<;>first
  |((with_reducible refine ai ?_ ?_ ?_);rotate_left;(first |exact zt _ |exact I7 _))
  |((with_reducible refine aJ ?_ ?_ (λhg=>?_) ?_);exact rfl)
  |((with_reducible refine aX ?_ ?_);with_reducible exact rfl;with_reducible exact rfl)
  |((with_reducible refine ah ?_);refine⟨[],rfl,?_,trivial⟩;conv=>whnf)
  |fail)
 all_goals(try simp only[Bool.cond_true_left,Bool.cond_false_right,Bool.cond_false_left,Bool.cond_true_right,Bool.not_eq_true',Bool.not_eq_false',bne,Ex.css_len,List.length_map,Int.toNat_zero]at *)
 all_goals first
  |(simp only[Ref03.part,Bool.not_true,Bool.not_false,Bool.and_true,Bool.true_and,Bool.and_false,Bool.false_and,Bool.or_true,Bool.true_or,Bool.or_false,Bool.false_or,if_true,if_false,reduceIte,Bool.false_eq_true,Bool.not_not,Bool.not_eq_true',beq_self_eq_true,List.all_cons,List.all_nil,List.any_cons,List.any_nil,List.length_map,bne,eq_self,Int.toNat_zero, *];done)
  |skip
theorem Ot(c:UInt8)  : aj Tryz.prog 47 [D.u8 c] (.ret (.b (Ib c))):=by
 refine af tok hmix ⟨[],[]⟩ Tryz.func47 rfl (by kernel_rfl) (by kernel_rfl) (by kernel_rfl) λhf=>?_
 have hlen:([123,125,40,41,59,44,61,58,46,60,62,33,43,45,42,47]:Str).length<=9223372036854775807:=by decide
 clear hf
 repeat' ((try(conv=>whnf))<;>first
  |exact trivial
  |exact aO hd0 ‹_›
  |((refine dB hd0 ?_ ?_);(exact rfl))
  |((refine bM hd0 ?_ ?_);(exact rfl))
  |refine BrI.intro (λh=>?_) (λh=>?_)
  |((refine aN.mk 0 ?_);refine⟨bI (([123,125,40,41,59,44,61,58,46,60,62,33,43,45,42,47]:Str)) 4 (λ(_:Unit)=>[]) (λ(_:Unit)=>[]) [0,3] (λi0 r0 _=>Ib c=r0.any λx=>(x.toNat:Int)==(c.toNat:Int)),?_⟩;refine au () ?_ ?_ (λi0 (_:Unit) hd0 hI0=>?_) (λi0 x0 r0 (_:Unit) hd0 hl0 hI0=>?_))
  |(refine ak hd0 () ?_ ?_)
  |refine CG hd0 ?_
  |((refine ah ?_);refine⟨[],rfl,?_,trivial⟩;conv=>whnf)
  |(refine And.intro ?_ ?_)
  |exact @rfl AV _
  |fail)
 all_goals first
  |(rfl)
  |((rw[hI0];simp only[List.any_cons,h,Bool.true_or];first |done |rfl))
  |((rw[hI0];rfl))
  |skip
theorem gGq(s:Str)  : aj Tryz.prog 46 [.str s] (.ret (.b (Ref03.name s))):=by
 refine af tok hmix ⟨[],[]⟩ Tryz.func46 rfl (by kernel_rfl) (by kernel_rfl) (by kernel_rfl) λhf=>?_
 clear hf
 repeat' ((try(conv=>whnf))<;>first
  |with_reducible exact trivial
  |with_reducible exact aO hd0 ‹_›
  |((with_reducible refine dB hd0 ?_ ?_);(exact rfl))
  |((with_reducible refine bM hd0 ?_ ?_);(exact rfl))
  |with_reducible refine BrI.intro (λh=>?_) (λh=>?_)
  |((with_reducible refine xh ?_ ?_ ?_);decide;(simp[lQ]at hg;omega))
  |((with_reducible refine aN.mk 0 ?_);have hlen:s.length<=9223372036854775807:=(by simp only[Bool.cond_true_left,Bool.or_eq_false_iff,decide_eq_false_iff_not]at h;omega);refine⟨bI (s) 3 (λ(_:Unit)=>[]) (λ(_:Unit)=>[]) [0] (λi0 r0 _=>Ref03.name s=r0.all Ref03.part),?_⟩;with_reducible refine au () ?_ ?_ (λi0 (_:Unit) hd0 hI0=>?_) (λi0 x0 r0 (_:Unit) hd0 hl0 hI0=>?_))
  |(with_reducible refine ak hd0 () ?_ ?_)
  |((with_reducible refine ai ?_ ?_ ?_);rotate_left;(first |exact zt _ |exact SY _))
  |with_reducible refine CG hd0 ?_
  |((with_reducible refine aJ ?_ ?_ (λhg=>?_) ?_);exact rfl)
  |((with_reducible refine aX ?_ ?_);with_reducible exact rfl;with_reducible exact rfl)
  |((with_reducible refine ah ?_);refine⟨[],rfl,?_,trivial⟩;conv=>whnf)
  |(with_reducible refine And.intro ?_ ?_)
  |exact @rfl AV _
  |fail)
 all_goals(try simp only[Bool.cond_true_left,Bool.cond_false_right,Bool.cond_false_left,Bool.cond_true_right,Bool.not_eq_true',Bool.not_eq_false',bne,Ex.css_len,List.length_map,Int.toNat_zero]at *)
 all_goals first
  |(rw[hI0];(try simp only[Ref03.name,Bool.not_true,Bool.not_false,Bool.and_true,Bool.true_and,Bool.and_false,Bool.false_and,Bool.or_true,Bool.true_or,Bool.or_false,Bool.false_or,if_true,if_false,reduceIte,Bool.false_eq_true,Bool.not_not,Bool.not_eq_true',beq_self_eq_true,List.all_cons,List.all_nil,List.any_cons,List.any_nil,List.length_map,bne,eq_self,Int.toNat_zero, *]);first |done |rfl)
  |(simp only[Ref03.name,Bool.not_true,Bool.not_false,Bool.and_true,Bool.true_and,Bool.and_false,Bool.false_and,Bool.or_true,Bool.true_or,Bool.or_false,Bool.false_or,if_true,if_false,reduceIte,Bool.false_eq_true,Bool.not_not,Bool.not_eq_true',beq_self_eq_true,List.all_cons,List.all_nil,List.any_cons,List.any_nil,List.length_map,bne,eq_self,Int.toNat_zero, *];done)
  |skip
theorem zu(t:Tk)  : aj Tryz.prog 17 [t.d] (.ret (.b (EW t))):=by
 refine af tok hmix ⟨[],[]⟩ Tryz.func17 rfl (by kernel_rfl) (by kernel_rfl) (by kernel_rfl) λhf=>?_
 clear hf
 repeat' ((try(conv=>whnf))<;>first
  |with_reducible refine BrI.intro (λh=>?_) (λh=>?_)
  |((with_reducible refine xh ?_ ?_ ?_);decide;(simp[lQ]at hg;omega))
  |((with_reducible refine ai ?_ ?_ ?_);rotate_left;(first |exact gGq _ |exact Ot _))
  |((with_reducible refine aJ ?_ ?_ (λhg=>?_) ?_);exact rfl)
  |((with_reducible refine aX ?_ ?_);with_reducible exact rfl;with_reducible exact rfl)
  |((with_reducible refine ah ?_);refine⟨[],rfl,?_,trivial⟩;conv=>whnf)
  |fail)
 all_goals(try simp only[Bool.cond_true_left,Bool.cond_false_right,Bool.cond_false_left,Bool.cond_true_right,Bool.not_eq_true',Bool.not_eq_false',bne,Ex.css_len,List.length_map,Int.toNat_zero]at *)
 all_goals first
  |(simp only[EW,Bool.not_true,Bool.not_false,Bool.and_true,Bool.true_and,Bool.and_false,Bool.false_and,Bool.or_true,Bool.true_or,Bool.or_false,Bool.false_or,if_true,if_false,reduceIte,Bool.false_eq_true,Bool.not_not,Bool.not_eq_true',beq_self_eq_true,List.all_cons,List.all_nil,List.any_cons,List.any_nil,List.length_map,bne,eq_self,Int.toNat_zero, *];done)
  |skip
end Go.Proofs.YtmfehangcmbidaaGreatDoor
