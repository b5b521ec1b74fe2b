/- Contracts: package syntax and its reference: equality of processors. -/
import Derived.Test.YtmfehangcmbidaaGreatDoorZDS
set_option linter.unusedSectionVars false
set_option linter.unusedSimpArgs false
set_option linter.unusedVariables false
set_option maxHeartbeats 8000000
namespace Go.Proofs.YtmfehangcmbidaaGreatDoor
open Go.Fw Go.Fw.Ref15 Go.Fw.Sy
set_option maxRecDepth 10000
variable [ae]
theorem IQ(l m:List Int)  : aj Tryz.prog 64 [ints l,ints m] (.ret (.b (Dp l m))):=by
 refine af tok hmix ⟨[],[]⟩ Tryz.func64 rfl (by kernel_rfl) (by kernel_rfl) (by kernel_rfl) λhf=>?_
 have hlen:l.length<=9223372036854775807:=by simpa using(hf (ints l) (by simp)).sl.1
 clear hf
 repeat' ((try(conv=>whnf))<;>first
  |with_reducible exact trivial
  |with_reducible exact aO hd0 ‹_›
  |((with_reducible refine dB hd0 ?_ ?_);(assumption))
  |((with_reducible refine bM hd0 ?_ ?_);(assumption))
  |with_reducible refine BrI.intro (λh=>?_) (λh=>?_)
  |((with_reducible refine aN.mk 0 ?_);have hz:l.length=m.length:=(by simp at h;omega);have hk0:(l.zip m).length=(l.map Tz).length:=(by rw[bT hz,List.length_map]);have hlz:(l.zip m).length<=9223372036854775807:=(by rw[bT hz];exact hlen);refine⟨bI (l.zip m) 13 (λ(_:Unit)=>[]) (λ(_:Unit)=>[]) [0,1,12] (λi0 r0 _=>Dp l m=r0.all YG),?_⟩;with_reducible refine au () ?_ ?_ (λi0 (_:Unit) hd0 hI0=>?_) (λi0 x0 r0 (_:Unit) hd0 hl0 hI0=>?_))
  |(with_reducible refine ak hd0 () ?_ ?_)
  |((with_reducible refine aW ?_ ?_ ?_ ?_ ?_);exact rfl;exact rfl;rotate_left;(first |with_reducible exact eu hd0 |with_reducible exact eF hd0))
  |((with_reducible refine aF ?_ ?_);kernel_rfl)
  |((with_reducible refine ah ?_);refine⟨[],rfl,?_,trivial⟩;conv=>whnf)
  |(with_reducible refine And.intro ?_ ?_)
  |exact @rfl AV _
  |fail)
 all_goals(try simp only[Bool.cond_true_left,Bool.cond_false_right,Bool.cond_false_left,Bool.cond_true_right,Bool.not_eq_true',Bool.not_eq_false',bne,Ex.css_len,List.length_map,Int.toNat_zero]at *)
 all_goals first
  |(rw[hI0];(try simp only[YG,Bool.not_true,Bool.not_false,Bool.and_true,Bool.true_and,Bool.and_false,Bool.false_and,Bool.or_true,Bool.true_or,Bool.or_false,Bool.false_or,if_true,if_false,reduceIte,Bool.false_eq_true,Bool.not_not,Bool.not_eq_true',beq_self_eq_true,List.all_cons,List.all_nil,List.any_cons,List.any_nil,List.length_map,bne,eq_self,Int.toNat_zero, *]);first |done |rfl)
  |(simp only[Dp,lenE,Bool.not_true,Bool.not_false,Bool.and_true,Bool.true_and,Bool.and_false,Bool.false_and,Bool.or_true,Bool.true_or,Bool.or_false,Bool.false_or,if_true,if_false,reduceIte,Bool.false_eq_true,Bool.not_not,Bool.not_eq_true',beq_self_eq_true,List.all_cons,List.all_nil,List.any_cons,List.any_nil,List.length_map,bne,eq_self,Int.toNat_zero, *];done)
  |skip
theorem NU(l m:List Bd)  : aj Tryz.prog 67 [.sl 3 (l.map Bd.cs),.sl 3 (m.map Bd.cs)] (.ret (.b (dX l m))):=by
 refine af tok hmix ⟨[],[]⟩ Tryz.func67 rfl (by kernel_rfl) (by kernel_rfl) (by kernel_rfl) λhf=>?_
 have hlen:l.length<=9223372036854775807:=by simpa using(hf (.sl 3 (l.map Bd.cs)) (by simp)).sl.1
 clear hf
 repeat' ((try(conv=>whnf))<;>first
  |with_reducible exact trivial
  |with_reducible exact aO hd0 ‹_›
  |((with_reducible refine dB hd0 ?_ ?_);(assumption))
  |((with_reducible refine bM hd0 ?_ ?_);(assumption))
  |with_reducible refine BrI.intro (λh=>?_) (λh=>?_)
  |((with_reducible refine aN.mk 0 ?_);have hz:l.length=m.length:=(by simp at h;omega);have hk0:(l.zip m).length=(l.map Bd.cs).length:=(by rw[bT hz,List.length_map]);have hlz:(l.zip m).length<=9223372036854775807:=(by rw[bT hz];exact hlen);refine⟨bI (l.zip m) 13 (λ(_:Unit)=>[]) (λ(_:Unit)=>[]) [0,1,12] (λi0 r0 _=>dX l m=r0.all vZ),?_⟩;with_reducible refine au () ?_ ?_ (λi0 (_:Unit) hd0 hI0=>?_) (λi0 x0 r0 (_:Unit) hd0 hl0 hI0=>?_))
  |(with_reducible refine ak hd0 () ?_ ?_)
  |((with_reducible refine kH ?_ ?_ ?_);exact rfl;exact rfl)
  |((with_reducible refine aW ?_ ?_ ?_ ?_ ?_);exact rfl;exact rfl;rotate_left;(first |with_reducible exact eu hd0 |with_reducible exact eF hd0))
  |((with_reducible refine bW ?_ ?_);exact rfl)
  |((with_reducible refine aF ?_ ?_);kernel_rfl)
  |((with_reducible refine ah ?_);refine⟨[],rfl,?_,trivial⟩;conv=>whnf)
  |(with_reducible refine And.intro ?_ ?_)
  |exact @rfl AV _
  |fail)
 all_goals(try simp only[Bool.cond_true_left,Bool.cond_false_right,Bool.cond_false_left,Bool.cond_true_right,Bool.not_eq_true',Bool.not_eq_false',bne,Ex.css_len,List.length_map,Int.toNat_zero]at *)
 all_goals first
  |(rw[hI0];(try simp only[vZ,Bool.not_true,Bool.not_false,Bool.and_true,Bool.true_and,Bool.and_false,Bool.false_and,Bool.or_true,Bool.true_or,Bool.or_false,Bool.false_or,if_true,if_false,reduceIte,Bool.false_eq_true,Bool.not_not,Bool.not_eq_true',beq_self_eq_true,List.all_cons,List.all_nil,List.any_cons,List.any_nil,List.length_map,bne,eq_self,Int.toNat_zero, *]);first |done |rfl)
  |(simp only[dX,Bool.not_true,Bool.not_false,Bool.and_true,Bool.true_and,Bool.and_false,Bool.false_and,Bool.or_true,Bool.true_or,Bool.or_false,Bool.false_or,if_true,if_false,reduceIte,Bool.false_eq_true,Bool.not_not,Bool.not_eq_true',beq_self_eq_true,List.all_cons,List.all_nil,List.any_cons,List.any_nil,List.length_map,bne,eq_self,Int.toNat_zero, *];done)
  |skip
theorem NV(l m:List Ln)  : aj Tryz.prog 68 [.sl 4 (l.map Ln.cs),.sl 4 (m.map Ln.cs)] (.ret (.b (lenE jS l m))):=by
 refine af tok hmix ⟨[],[]⟩ Tryz.func68 rfl (by kernel_rfl) (by kernel_rfl) (by kernel_rfl) λhf=>?_
 have hlen:l.length<=9223372036854775807:=by simpa using(hf (.sl 4 (l.map Ln.cs)) (by simp)).sl.1
 clear hf
 repeat' ((try(conv=>whnf))<;>first
  |with_reducible exact trivial
  |with_reducible exact aO hd0 ‹_›
  |((with_reducible refine dB hd0 ?_ ?_);(assumption))
  |((with_reducible refine bM hd0 ?_ ?_);(assumption))
  |with_reducible refine BrI.intro (λh=>?_) (λh=>?_)
  |((with_reducible refine aN.mk 0 ?_);have hz:l.length=m.length:=(by simp at h;omega);have hk0:(l.zip m).length=(l.map Ln.cs).length:=(by rw[bT hz,List.length_map]);have hlz:(l.zip m).length<=9223372036854775807:=(by rw[bT hz];exact hlen);refine⟨bI (l.zip m) 13 (λ(_:Unit)=>[]) (λ(_:Unit)=>[]) [0,1,12] (λi0 r0 _=>lenE jS l m=r0.all jS),?_⟩;with_reducible refine au () ?_ ?_ (λi0 (_:Unit) hd0 hI0=>?_) (λi0 x0 r0 (_:Unit) hd0 hl0 hI0=>?_))
  |(with_reducible refine ak hd0 () ?_ ?_)
  |((with_reducible refine kH ?_ ?_ ?_);exact rfl;exact rfl)
  |((with_reducible refine aW ?_ ?_ ?_ ?_ ?_);exact rfl;exact rfl;rotate_left;(first |with_reducible exact eu hd0 |with_reducible exact eF hd0))
  |((with_reducible refine bW ?_ ?_);exact rfl)
  |((with_reducible refine aF ?_ ?_);kernel_rfl)
  |((with_reducible refine ah ?_);refine⟨[],rfl,?_,trivial⟩;conv=>whnf)
  |(with_reducible refine And.intro ?_ ?_)
  |exact @rfl AV _
  |fail)
 all_goals(try simp only[Bool.cond_true_left,Bool.cond_false_right,Bool.cond_false_left,Bool.cond_true_right,Bool.not_eq_true',Bool.not_eq_false',bne,Ex.css_len,List.length_map,Int.toNat_zero]at *)
 all_goals first
  |(rw[hI0];(try simp only[jS,Bool.not_true,Bool.not_false,Bool.and_true,Bool.true_and,Bool.and_false,Bool.false_and,Bool.or_true,Bool.true_or,Bool.or_false,Bool.false_or,if_true,if_false,reduceIte,Bool.false_eq_true,Bool.not_not,Bool.not_eq_true',beq_self_eq_true,List.all_cons,List.all_nil,List.any_cons,List.any_nil,List.length_map,bne,eq_self,Int.toNat_zero, *]);first |done |rfl)
  |(simp only[lenE,Bool.not_true,Bool.not_false,Bool.and_true,Bool.true_and,Bool.and_false,Bool.false_and,Bool.or_true,Bool.true_or,Bool.or_false,Bool.false_or,if_true,if_false,reduceIte,Bool.false_eq_true,Bool.not_not,Bool.not_eq_true',beq_self_eq_true,List.all_cons,List.all_nil,List.any_cons,List.any_nil,List.length_map,bne,eq_self,Int.toNat_zero, *];done)
  |skip
theorem Vw(a b:Tb)  : aj Tryz.prog 63 [.agg a.cs,.agg b.cs] (.ret (.b (tbE (a,b)))):=by
 refine af tok hmix ⟨[],[]⟩ Tryz.func63 rfl (by kernel_rfl) (by kernel_rfl) (by kernel_rfl) λhf=>?_
 clear hf
 repeat' ((try(conv=>whnf))<;>first
  |((with_reducible refine ai ?_ ?_ ?_);rotate_left;(exact IQ _ _))
  |((with_reducible refine aJ ?_ ?_ (λhg=>?_) ?_);exact rfl)
  |((with_reducible refine aX ?_ ?_);with_reducible exact rfl;with_reducible exact rfl)
  |((with_reducible refine ah ?_);refine⟨[],rfl,?_,trivial⟩;conv=>whnf)
  |fail)
 all_goals(try simp only[Bool.cond_true_left,Bool.cond_false_right,Bool.cond_false_left,Bool.cond_true_right,Bool.not_eq_true',Bool.not_eq_false',bne,Ex.css_len,List.length_map,Int.toNat_zero]at *)
 all_goals first
  |(simp only[tbE,Bool.not_true,Bool.not_false,Bool.and_true,Bool.true_and,Bool.and_false,Bool.false_and,Bool.or_true,Bool.true_or,Bool.or_false,Bool.false_or,if_true,if_false,reduceIte,Bool.false_eq_true,Bool.not_not,Bool.not_eq_true',beq_self_eq_true,List.all_cons,List.all_nil,List.any_cons,List.any_nil,List.length_map,bne,eq_self,Int.toNat_zero, *];done)
  |skip
theorem NW(l m:List Ex)(ih:∀x∈l,∀y,aj Tryz.prog 66 [x.d,y.d] (.ret (.b (dQ x y)))):aj Tryz.prog 107 [.sl 5 (l.map Ex.cs),.sl 5 (m.map Ex.cs),.fn 66 []] (.ret (.b (z1u l m))):=by
 refine af tok hmix ⟨[],[]⟩ Tryz.func107 rfl (by kernel_rfl) (by kernel_rfl) (by kernel_rfl) λhf=>?_
 have hlen:l.length<=9223372036854775807:=by simpa using(hf (.sl 5 (l.map Ex.cs)) (by simp)).sl.1
 clear hf
 repeat' ((try(conv=>whnf))<;>first
  |with_reducible exact trivial
  |with_reducible exact aO hd0 ‹_›
  |((with_reducible refine dB hd0 ?_ ?_);(assumption))
  |((with_reducible refine bM hd0 ?_ ?_);(assumption))
  |with_reducible refine BrI.intro (λh=>?_) (λh=>?_)
  |((with_reducible refine aN.mk 0 ?_);have hz:l.length=m.length:=(by simp at h;omega);have hk0:(l.zip m).length=(l.map Ex.cs).length:=(by rw[bT hz,List.length_map]);have hlz:(l.zip m).length<=9223372036854775807:=(by rw[bT hz];exact hlen);refine⟨bI (l.zip m) 17 (λ(_:Unit)=>[]) (λ(_:Unit)=>[]) [1,2,15,16] (λi0 r0 _=>z1u l m=r0.all exE),?_⟩;with_reducible refine au () ?_ ?_ (λi0 (_:Unit) hd0 hI0=>?_) (λi0 x0 r0 (_:Unit) hd0 hl0 hI0=>?_))
  |(with_reducible refine ak hd0 () ?_ ?_)
  |((with_reducible refine ai ?_ ?_ ?_);rotate_left;(exact ih _ (List.of_mem_zip (lV hd0)).1 _))
  |((with_reducible refine aW ?_ ?_ ?_ ?_ ?_);exact rfl;exact rfl;rotate_left;(first |with_reducible exact eu hd0 |with_reducible exact eF hd0))
  |((with_reducible refine bW ?_ ?_);exact rfl)
  |((with_reducible refine ah ?_);refine⟨[],rfl,?_,trivial⟩;conv=>whnf)
  |(with_reducible refine And.intro ?_ ?_)
  |exact @rfl AV _
  |fail)
 all_goals(try simp only[Bool.cond_true_left,Bool.cond_false_right,Bool.cond_false_left,Bool.cond_true_right,Bool.not_eq_true',Bool.not_eq_false',bne,Ex.css_len,List.length_map,Int.toNat_zero]at *)
 all_goals first
  |(rw[hI0];(try simp only[exE,Bool.not_true,Bool.not_false,Bool.and_true,Bool.true_and,Bool.and_false,Bool.false_and,Bool.or_true,Bool.true_or,Bool.or_false,Bool.false_or,if_true,if_false,reduceIte,Bool.false_eq_true,Bool.not_not,Bool.not_eq_true',beq_self_eq_true,List.all_cons,List.all_nil,List.any_cons,List.any_nil,List.length_map,bne,eq_self,Int.toNat_zero, *]);first |done |rfl)
  |(simp only[z1u,lenE,Bool.not_true,Bool.not_false,Bool.and_true,Bool.true_and,Bool.and_false,Bool.false_and,Bool.or_true,Bool.true_or,Bool.or_false,Bool.false_or,if_true,if_false,reduceIte,Bool.false_eq_true,Bool.not_not,Bool.not_eq_true',beq_self_eq_true,List.all_cons,List.all_nil,List.any_cons,List.any_nil,List.length_map,bne,eq_self,Int.toNat_zero, *];done)
  |skip
theorem zT(a b:Ex)  : aj Tryz.prog 66 [a.d,b.d] (.ret (.b (dQ a b))):=by
 revert b;revert a;refine Ex.ind λa ih b=>?_
 refine af tok hmix ⟨[],[]⟩ Tryz.func66 rfl (by kernel_rfl) (by kernel_rfl) (by kernel_rfl) λhf=>?_
 clear hf
 repeat' ((try(conv=>whnf))<;>first
  |((with_reducible refine ai ?_ ?_ ?_);rotate_left;((have hq:=NW a.l b.l ih;rw[<-Ex.css_eq,<-Ex.css_eq]at hq;exact hq)))
  |((with_reducible refine aJ ?_ ?_ (λhg=>?_) ?_);exact rfl)
  |((with_reducible refine aX ?_ ?_);with_reducible exact rfl;with_reducible exact rfl)
  |((with_reducible refine ah ?_);refine⟨[],rfl,?_,trivial⟩;conv=>whnf)
  |fail)
 all_goals(try simp only[Bool.cond_true_left,Bool.cond_false_right,Bool.cond_false_left,Bool.cond_true_right,Bool.not_eq_true',Bool.not_eq_false',bne,Ex.css_len,List.length_map,Int.toNat_zero]at *)
 all_goals first
  |((exact congrArg D.b (Dq a b)))
  |skip
theorem Vx(a b:Sm)  : aj Tryz.prog 65 [a.d,b.d] (.ret (.b (smE (a,b)))):=by
 refine af tok hmix ⟨[],[]⟩ Tryz.func65 rfl (by kernel_rfl) (by kernel_rfl) (by kernel_rfl) λhf=>?_
 clear hf
 repeat' ((try(conv=>whnf))<;>first
  |((with_reducible refine ai ?_ ?_ ?_);rotate_left;(exact zT _ _))
  |((with_reducible refine aJ ?_ ?_ (λhg=>?_) ?_);exact rfl)
  |((with_reducible refine aX ?_ ?_);with_reducible exact rfl;with_reducible exact rfl)
  |((with_reducible refine ah ?_);refine⟨[],rfl,?_,trivial⟩;conv=>whnf)
  |fail)
 all_goals(try simp only[Bool.cond_true_left,Bool.cond_false_right,Bool.cond_false_left,Bool.cond_true_right,Bool.not_eq_true',Bool.not_eq_false',bne,Ex.css_len,List.length_map,Int.toNat_zero]at *)
 all_goals first
  |(simp only[smE,Bool.not_true,Bool.not_false,Bool.and_true,Bool.true_and,Bool.and_false,Bool.false_and,Bool.or_true,Bool.true_or,Bool.or_false,Bool.false_or,if_true,if_false,reduceIte,Bool.false_eq_true,Bool.not_not,Bool.not_eq_true',beq_self_eq_true,List.all_cons,List.all_nil,List.any_cons,List.any_nil,List.length_map,bne,eq_self,Int.toNat_zero, *];done)
  |skip
theorem NY(l m:List Tb)  : aj Tryz.prog 69 [.sl 2 (l.map Tb.cs),.sl 2 (m.map Tb.cs),.fn 63 []] (.ret (.b (lenE tbE l m))):=by
 refine af tok hmix ⟨[],[]⟩ Tryz.func69 rfl (by kernel_rfl) (by kernel_rfl) (by kernel_rfl) λhf=>?_
 have hlen:l.length<=9223372036854775807:=by simpa using(hf (.sl 2 (l.map Tb.cs)) (by simp)).sl.1
 clear hf
 repeat' ((try(conv=>whnf))<;>first
  |with_reducible exact trivial
  |with_reducible exact aO hd0 ‹_›
  |((with_reducible refine dB hd0 ?_ ?_);(assumption))
  |((with_reducible refine bM hd0 ?_ ?_);(assumption))
  |with_reducible refine BrI.intro (λh=>?_) (λh=>?_)
  |((with_reducible refine aN.mk 0 ?_);have hz:l.length=m.length:=(by simp at h;omega);have hk0:(l.zip m).length=(l.map Tb.cs).length:=(by rw[bT hz,List.length_map]);have hlz:(l.zip m).length<=9223372036854775807:=(by rw[bT hz];exact hlen);refine⟨bI (l.zip m) 17 (λ(_:Unit)=>[]) (λ(_:Unit)=>[]) [1,2,15,16] (λi0 r0 _=>lenE tbE l m=r0.all tbE),?_⟩;with_reducible refine au () ?_ ?_ (λi0 (_:Unit) hd0 hI0=>?_) (λi0 x0 r0 (_:Unit) hd0 hl0 hI0=>?_))
  |(with_reducible refine ak hd0 () ?_ ?_)
  |((with_reducible refine ai ?_ ?_ ?_);rotate_left;(exact Vw _ _))
  |((with_reducible refine aW ?_ ?_ ?_ ?_ ?_);exact rfl;exact rfl;rotate_left;(first |with_reducible exact eu hd0 |with_reducible exact eF hd0))
  |((with_reducible refine bW ?_ ?_);exact rfl)
  |((with_reducible refine ah ?_);refine⟨[],rfl,?_,trivial⟩;conv=>whnf)
  |(with_reducible refine And.intro ?_ ?_)
  |exact @rfl AV _
  |fail)
 all_goals(try simp only[Bool.cond_true_left,Bool.cond_false_right,Bool.cond_false_left,Bool.cond_true_right,Bool.not_eq_true',Bool.not_eq_false',bne,Ex.css_len,List.length_map,Int.toNat_zero]at *)
 all_goals first
  |(rw[hI0];(try simp only[List.all_cons,Bool.not_true,Bool.not_false,Bool.and_true,Bool.true_and,Bool.and_false,Bool.false_and,Bool.or_true,Bool.true_or,Bool.or_false,Bool.false_or,if_true,if_false,reduceIte,Bool.false_eq_true,Bool.not_not,Bool.not_eq_true',beq_self_eq_true,List.all_cons,List.all_nil,List.any_cons,List.any_nil,List.length_map,bne,eq_self,Int.toNat_zero, *]);first |done |rfl)
  |(simp only[lenE,Bool.not_true,Bool.not_false,Bool.and_true,Bool.true_and,Bool.and_false,Bool.false_and,Bool.or_true,Bool.true_or,Bool.or_false,Bool.false_or,if_true,if_false,reduceIte,Bool.false_eq_true,Bool.not_not,Bool.not_eq_true',beq_self_eq_true,List.all_cons,List.all_nil,List.any_cons,List.any_nil,List.length_map,bne,eq_self,Int.toNat_zero, *];done)
  |skip
theorem NZ(l m:List Sm)  : aj Tryz.prog 70 [.sl 8 (l.map Sm.cs),.sl 8 (m.map Sm.cs),.fn 65 []] (.ret (.b (lenE smE l m))):=by
 refine af tok hmix ⟨[],[]⟩ Tryz.func70 rfl (by kernel_rfl) (by kernel_rfl) (by kernel_rfl) λhf=>?_
 have hlen:l.length<=9223372036854775807:=by simpa using(hf (.sl 8 (l.map Sm.cs)) (by simp)).sl.1
 clear hf
 repeat' ((try(conv=>whnf))<;>first
  |with_reducible exact trivial
  |with_reducible exact aO hd0 ‹_›
  |((with_reducible refine dB hd0 ?_ ?_);(assumption))
  |((with_reducible refine bM hd0 ?_ ?_);(assumption))
  |with_reducible refine BrI.intro (λh=>?_) (λh=>?_)
  |((with_reducible refine aN.mk 0 ?_);have hz:l.length=m.length:=(by simp at h;omega);have hk0:(l.zip m).length=(l.map Sm.cs).length:=(by rw[bT hz,List.length_map]);have hlz:(l.zip m).length<=9223372036854775807:=(by rw[bT hz];exact hlen);refine⟨bI (l.zip m) 17 (λ(_:Unit)=>[]) (λ(_:Unit)=>[]) [1,2,15,16] (λi0 r0 _=>lenE smE l m=r0.all smE),?_⟩;with_reducible refine au () ?_ ?_ (λi0 (_:Unit) hd0 hI0=>?_) (λi0 x0 r0 (_:Unit) hd0 hl0 hI0=>?_))
  |(with_reducible refine ak hd0 () ?_ ?_)
  |((with_reducible refine ai ?_ ?_ ?_);rotate_left;(exact Vx _ _))
  |((with_reducible refine aW ?_ ?_ ?_ ?_ ?_);exact rfl;exact rfl;rotate_left;(first |with_reducible exact eu hd0 |with_reducible exact eF hd0))
  |((with_reducible refine bW ?_ ?_);exact rfl)
  |((with_reducible refine ah ?_);refine⟨[],rfl,?_,trivial⟩;conv=>whnf)
  |(with_reducible refine And.intro ?_ ?_)
  |exact @rfl AV _
  |fail)
 all_goals(try simp only[Bool.cond_true_left,Bool.cond_false_right,Bool.cond_false_left,Bool.cond_true_right,Bool.not_eq_true',Bool.not_eq_false',bne,Ex.css_len,List.length_map,Int.toNat_zero]at *)
 all_goals first
  |(rw[hI0];(try simp only[List.all_cons,Bool.not_true,Bool.not_false,Bool.and_true,Bool.true_and,Bool.and_false,Bool.false_and,Bool.or_true,Bool.true_or,Bool.or_false,Bool.false_or,if_true,if_false,reduceIte,Bool.false_eq_true,Bool.not_not,Bool.not_eq_true',beq_self_eq_true,List.all_cons,List.all_nil,List.any_cons,List.any_nil,List.length_map,bne,eq_self,Int.toNat_zero, *]);first |done |rfl)
  |(simp only[lenE,Bool.not_true,Bool.not_false,Bool.and_true,Bool.true_and,Bool.and_false,Bool.false_and,Bool.or_true,Bool.true_or,Bool.or_false,Bool.false_or,if_true,if_false,reduceIte,Bool.false_eq_true,Bool.not_not,Bool.not_eq_true',beq_self_eq_true,List.all_cons,List.all_nil,List.any_cons,List.any_nil,List.length_map,bne,eq_self,Int.toNat_zero, *];done)
  |skip
theorem vK(a b:Pr)  : aj Tryz.prog 27 [a.d,b.d] (.ret (.b (fO a b))):=by
 refine af tok hmix ⟨[],[]⟩ Tryz.func27 rfl (by kernel_rfl) (by kernel_rfl) (by kernel_rfl) λhf=>?_
 clear hf
 repeat' ((try(conv=>whnf))<;>first
  |((with_reducible refine ai ?_ ?_ ?_);rotate_left;(first |exact NU _ _ |exact NV _ _ |exact NY _ _ |exact NZ _ _))
  |((with_reducible refine aJ ?_ ?_ (λhg=>?_) ?_);exact rfl)
  |((with_reducible refine aX ?_ ?_);with_reducible exact rfl;with_reducible exact rfl)
  |((with_reducible refine ah ?_);refine⟨[],rfl,?_,trivial⟩;conv=>whnf)
  |fail)
 all_goals(try simp only[Bool.cond_true_left,Bool.cond_false_right,Bool.cond_false_left,Bool.cond_true_right,Bool.not_eq_true',Bool.not_eq_false',bne,Ex.css_len,List.length_map,Int.toNat_zero]at *)
 all_goals first
  |(simp only[fO,FO,Bool.not_true,Bool.not_false,Bool.and_true,Bool.true_and,Bool.and_false,Bool.false_and,Bool.or_true,Bool.true_or,Bool.or_false,Bool.false_or,if_true,if_false,reduceIte,Bool.false_eq_true,Bool.not_not,Bool.not_eq_true',beq_self_eq_true,List.all_cons,List.all_nil,List.any_cons,List.any_nil,List.length_map,bne,eq_self,Int.toNat_zero, *];done)
  |skip
theorem N7(l m:List Int)  : aj Tryz.prog 81 [ints l,ints m] (.ret (.b (Dp l m))):=by
 refine af tok hmix ⟨[],[]⟩ Tryz.func81 rfl (by kernel_rfl) (by kernel_rfl) (by kernel_rfl) λhf=>?_
 have hlen:l.length<=9223372036854775807:=by simpa using(hf (ints l) (by simp)).sl.1
 clear hf
 repeat' ((try(conv=>whnf))<;>first
  |with_reducible exact trivial
  |with_reducible exact aO hd0 ‹_›
  |((with_reducible refine dB hd0 ?_ ?_);(assumption))
  |((with_reducible refine bM hd0 ?_ ?_);(assumption))
  |with_reducible refine BrI.intro (λh=>?_) (λh=>?_)
  |((with_reducible refine aN.mk 0 ?_);have hz:l.length=m.length:=(by simp at h;omega);have hk0:(l.zip m).length=(l.map Tz).length:=(by rw[bT hz,List.length_map]);have hlz:(l.zip m).length<=9223372036854775807:=(by rw[bT hz];exact hlen);refine⟨bI (l.zip m) 5 (λ(_:Unit)=>[]) (λ(_:Unit)=>[]) [0,1] (λi0 r0 _=>Dp l m=r0.all YG),?_⟩;with_reducible refine au () ?_ ?_ (λi0 (_:Unit) hd0 hI0=>?_) (λi0 x0 r0 (_:Unit) hd0 hl0 hI0=>?_))
  |(with_reducible refine ak hd0 () ?_ ?_)
  |((with_reducible refine aW ?_ ?_ ?_ ?_ ?_);exact rfl;exact rfl;rotate_left;(first |with_reducible exact eu hd0 |with_reducible exact eF hd0))
  |((with_reducible refine aF ?_ ?_);kernel_rfl)
  |((with_reducible refine ah ?_);refine⟨[],rfl,?_,trivial⟩;conv=>whnf)
  |(with_reducible refine And.intro ?_ ?_)
  |exact @rfl AV _
  |fail)
 all_goals(try simp only[Bool.cond_true_left,Bool.cond_false_right,Bool.cond_false_left,Bool.cond_true_right,Bool.not_eq_true',Bool.not_eq_false',bne,Ex.css_len,List.length_map,Int.toNat_zero]at *)
 all_goals first
  |(rw[hI0];(try simp only[YG,Bool.not_true,Bool.not_false,Bool.and_true,Bool.true_and,Bool.and_false,Bool.false_and,Bool.or_true,Bool.true_or,Bool.or_false,Bool.false_or,if_true,if_false,reduceIte,Bool.false_eq_true,Bool.not_not,Bool.not_eq_true',beq_self_eq_true,List.all_cons,List.all_nil,List.any_cons,List.any_nil,List.length_map,bne,eq_self,Int.toNat_zero, *]);first |done |rfl)
  |(simp only[Dp,lenE,Bool.not_true,Bool.not_false,Bool.and_true,Bool.true_and,Bool.and_false,Bool.false_and,Bool.or_true,Bool.true_or,Bool.or_false,Bool.false_or,if_true,if_false,reduceIte,Bool.false_eq_true,Bool.not_not,Bool.not_eq_true',beq_self_eq_true,List.all_cons,List.all_nil,List.any_cons,List.any_nil,List.length_map,bne,eq_self,Int.toNat_zero, *];done)
  |skip
theorem zU(a b:Ex)  : aj Tryz.prog 82 [a.d,b.d] (.ret (.b (dQ a b))):=by
 revert b;revert a;refine Ex.ind λa ih b=>?_
 refine af tok hmix ⟨[],[]⟩ Tryz.func82 rfl (by kernel_rfl) (by kernel_rfl) (by kernel_rfl) λhf=>?_
 have hlen:=Ex.fits (hf a.d (by simp))
 clear hf
 repeat' ((try(conv=>whnf))<;>first
  |with_reducible exact trivial
  |with_reducible exact aO hd0 ‹_›
  |((with_reducible refine dB hd0 ?_ ?_);(assumption))
  |((with_reducible refine bM hd0 ?_ ?_);(assumption))
  |with_reducible refine BrI.intro (λh=>?_) (λh=>?_)
  |((with_reducible refine aN.mk 0 ?_);have hz:a.l.length=b.l.length:=(by simp[Ex.css_len]at h;omega);have hk0:(a.l.zip b.l).length=(Ex.css a.l).length:=(by rw[bT hz,Ex.css_len]);have hlz:(a.l.zip b.l).length<=9223372036854775807:=(by rw[bT hz];exact hlen);refine⟨bI (a.l.zip b.l) 5 (λ(_:Unit)=>[]) (λ(_:Unit)=>[]) [2,3] (λi0 r0 _=>dQ a b=r0.all λq=>dQ q.1 q.2),?_⟩;with_reducible refine au () ?_ ?_ (λi0 (_:Unit) hd0 hI0=>?_) (λi0 x0 r0 (_:Unit) hd0 hl0 hI0=>?_))
  |(with_reducible refine ak hd0 () ?_ ?_)
  |((with_reducible refine ai ?_ ?_ ?_);rotate_left;(exact ih _ (List.of_mem_zip (lV hd0)).1 _))
  |((with_reducible refine aW ?_ ?_ ?_ ?_ ?_);exact rfl;exact rfl;rotate_left;(first |with_reducible exact EP hd0 |with_reducible exact EQ hd0))
  |((with_reducible refine bW ?_ ?_);exact rfl)
  |((with_reducible refine aF ?_ ?_);kernel_rfl)
  |((with_reducible refine ah ?_);refine⟨[],rfl,?_,trivial⟩;conv=>whnf)
  |(with_reducible refine And.intro ?_ ?_)
  |exact @rfl AV _
  |fail)
 all_goals(try simp only[Bool.cond_true_left,Bool.cond_false_right,Bool.cond_false_left,Bool.cond_true_right,Bool.not_eq_true',Bool.not_eq_false',bne,Ex.css_len,List.length_map,Int.toNat_zero]at *)
 all_goals first
  |(rw[hI0];(try simp only[List.all_cons,Bool.not_true,Bool.not_false,Bool.and_true,Bool.true_and,Bool.and_false,Bool.false_and,Bool.or_true,Bool.true_or,Bool.or_false,Bool.false_or,if_true,if_false,reduceIte,Bool.false_eq_true,Bool.not_not,Bool.not_eq_true',beq_self_eq_true,List.all_cons,List.all_nil,List.any_cons,List.any_nil,List.length_map,bne,eq_self,Int.toNat_zero, *]);first |done |rfl)
  |(simp only[lU,Bool.not_true,Bool.not_false,Bool.and_true,Bool.true_and,Bool.and_false,Bool.false_and,Bool.or_true,Bool.true_or,Bool.or_false,Bool.false_or,if_true,if_false,reduceIte,Bool.false_eq_true,Bool.not_not,Bool.not_eq_true',beq_self_eq_true,List.all_cons,List.all_nil,List.any_cons,List.any_nil,List.length_map,bne,eq_self,Int.toNat_zero, *];done)
  |((rw[lU,<-sU hz];simp_all;done))
  |skip
theorem jw(l m:List Bd)  : aj Tryz.prog 80 [.sl 3 (l.map Bd.cs),.sl 3 (m.map Bd.cs)] (.ret (.b (dX l m))):=by
 refine af tok hmix ⟨[],[]⟩ Tryz.func80 rfl (by kernel_rfl) (by kernel_rfl) (by kernel_rfl) λhf=>?_
 have hlen:l.length<=9223372036854775807:=by simpa using(hf (.sl 3 (l.map Bd.cs)) (by simp)).sl.1
 clear hf
 repeat' ((try(conv=>whnf))<;>first
  |with_reducible exact trivial
  |with_reducible exact aO hd0 ‹_›
  |((with_reducible refine dB hd0 ?_ ?_);(assumption))
  |((with_reducible refine bM hd0 ?_ ?_);(assumption))
  |with_reducible refine BrI.intro (λh=>?_) (λh=>?_)
  |((with_reducible refine aN.mk 0 ?_);have hz:l.length=m.length:=(by simp at h;omega);have hk0:(l.zip m).length=(l.map Bd.cs).length:=(by rw[bT hz,List.length_map]);have hlz:(l.zip m).length<=9223372036854775807:=(by rw[bT hz];exact hlen);refine⟨bI (l.zip m) 5 (λ(_:Unit)=>[]) (λ(_:Unit)=>[]) [0,1] (λi0 r0 _=>dX l m=r0.all vZ),?_⟩;with_reducible refine au () ?_ ?_ (λi0 (_:Unit) hd0 hI0=>?_) (λi0 x0 r0 (_:Unit) hd0 hl0 hI0=>?_))
  |(with_reducible refine ak hd0 () ?_ ?_)
  |((with_reducible refine kH ?_ ?_ ?_);exact rfl;exact rfl)
  |((with_reducible refine aW ?_ ?_ ?_ ?_ ?_);exact rfl;exact rfl;rotate_left;(first |with_reducible exact eu hd0 |with_reducible exact eF hd0))
  |((with_reducible refine bW ?_ ?_);exact rfl)
  |((with_reducible refine aF ?_ ?_);kernel_rfl)
  |((with_reducible refine ah ?_);refine⟨[],rfl,?_,trivial⟩;conv=>whnf)
  |(with_reducible refine And.intro ?_ ?_)
  |exact @rfl AV _
  |fail)
 all_goals(try simp only[Bool.cond_true_left,Bool.cond_false_right,Bool.cond_false_left,Bool.cond_true_right,Bool.not_eq_true',Bool.not_eq_false',bne,Ex.css_len,List.length_map,Int.toNat_zero]at *)
 all_goals first
  |(rw[hI0];(try simp only[vZ,Bool.not_true,Bool.not_false,Bool.and_true,Bool.true_and,Bool.and_false,Bool.false_and,Bool.or_true,Bool.true_or,Bool.or_false,Bool.false_or,if_true,if_false,reduceIte,Bool.false_eq_true,Bool.not_not,Bool.not_eq_true',beq_self_eq_true,List.all_cons,List.all_nil,List.any_cons,List.any_nil,List.length_map,bne,eq_self,Int.toNat_zero, *]);first |done |rfl)
  |(simp only[dX,Bool.not_true,Bool.not_false,Bool.and_true,Bool.true_and,Bool.and_false,Bool.false_and,Bool.or_true,Bool.true_or,Bool.or_false,Bool.false_or,if_true,if_false,reduceIte,Bool.false_eq_true,Bool.not_not,Bool.not_eq_true',beq_self_eq_true,List.all_cons,List.all_nil,List.any_cons,List.any_nil,List.length_map,bne,eq_self,Int.toNat_zero, *];done)
  |skip
theorem Vy(a b:Pr)(hE:wz a b=true):aj Tryz.prog 33 [a.d,b.d] (.ret (.b false)):=by
 refine af tok hmix ⟨[],[]⟩ Tryz.func33 rfl (by kernel_rfl) (by kernel_rfl) (by kernel_rfl) λhf=>?_
 clear hf
 repeat' ((try(conv=>whnf))<;>first
  |(exact Bool.noConfusion (show true=false from hE.symm.trans h))
  |refine BrI.intro (λh=>?_) (λh=>?_)
  |((refine ai ?_ ?_ ?_);rotate_left;(exact jw _ _))
  |((refine aJ ?_ ?_ (λhg=>?_) ?_);exact rfl)
  |((refine aX ?_ ?_);exact rfl;exact rfl)
  |((refine ah ?_);refine⟨[],rfl,?_,trivial⟩;conv=>whnf)
  |fail)
 all_goals first
  |skip
theorem Vz(a b:Pr)(hE:wz a b=false)(hE2:zi a b=true):aj Tryz.prog 33 [a.d,b.d] (.ret (.b false)):=by
 refine af tok hmix ⟨[],[]⟩ Tryz.func33 rfl (by kernel_rfl) (by kernel_rfl) (by kernel_rfl) λhf=>?_
 clear hf
 repeat' ((try(conv=>whnf))<;>first
  |(exact Bool.noConfusion ((show true=false from hE2.symm.trans h)))
  |refine BrI.intro (λh=>?_) (λh=>?_)
  |(exact Bool.noConfusion (hE.symm.trans h))
  |((refine ai ?_ ?_ ?_);rotate_left;(exact jw _ _))
  |((refine aJ ?_ ?_ (λhg=>?_) ?_);exact rfl)
  |((refine aX ?_ ?_);exact rfl;exact rfl)
  |((refine ah ?_);refine⟨[],rfl,?_,trivial⟩;conv=>whnf)
  |fail)
 all_goals first
  |skip
theorem VA(a b:Pr)(hE:wz a b=false)(hE2:zi a b=false)(hz0:a.lines.length=b.lines.length)(hz2:a.tables.length=b.tables.length)(hz4:a.stmts.length=b.stmts.length):aj Tryz.prog 33 [a.d,b.d] (.ret (.b ((a.lines.zip b.lines).all jS&&((a.tables.zip b.tables).all tbE&&(a.stmts.zip b.stmts).all smE)))):=by
 refine af tok hmix ⟨[],[]⟩ Tryz.func33 rfl (by kernel_rfl) (by kernel_rfl) (by kernel_rfl) λhf=>?_
 have hq:=Pr.fits (hf a.d (by simp))
 have hl0:(a.lines.zip b.lines).length<=9223372036854775807:=by rw[bT hz0];exact hq.lines
 have hl2:(a.tables.zip b.tables).length<=9223372036854775807:=by rw[bT hz2];exact hq.tables
 have hl4:(a.stmts.zip b.stmts).length<=9223372036854775807:=by rw[bT hz4];exact hq.stmts
 have hk0:(a.lines.zip b.lines).length=(a.lines.map Ln.cs).length:=by rw[bT hz0,List.length_map]
 have hk2:(a.tables.zip b.tables).length=(a.tables.map Tb.cs).length:=by rw[bT hz2,List.length_map]
 have hk4:(a.stmts.zip b.stmts).length=(a.stmts.map Sm.cs).length:=by rw[bT hz4,List.length_map]
 clear hf
 repeat' ((try(conv=>whnf))<;>first
  |exact trivial
  |exact aO hd4 ‹_›
  |exact aO hd2 ‹_›
  |exact aO hd0 ‹_›
  |((refine dB hd4 ?_ ?_);(assumption))
  |((refine dB hd2 ?_ ?_);(assumption))
  |((refine dB hd0 ?_ ?_);(assumption))
  |((refine bM hd4 ?_ ?_);(assumption))
  |((refine bM hd2 ?_ ?_);(assumption))
  |((refine bM hd0 ?_ ?_);(assumption))
  |refine BrI.intro (λh=>?_) (λh=>?_)
  |(exact Bool.noConfusion (hE.symm.trans h))
  |(exact Bool.noConfusion (hE2.symm.trans h))
  |((refine kH ?_ ?_ ?_);exact rfl;exact rfl)
  |((refine aN.mk 0 ?_);refine⟨bI (a.lines.zip b.lines) 5 (λ(_:Unit)=>[]) (λ(_:Unit)=>[]) [2,3] (λi0 r0 _=>(a.lines.zip b.lines).all jS=r0.all jS),?_⟩;refine au () ?_ ?_ (λi0 (_:Unit) hd0 hI0=>?_) (λi0 x0 r0 (_:Unit) hd0 hl0 hI0=>?_))
  |(refine ak hd0 () ?_ ?_)
  |((refine aN.mk 2 ?_);refine⟨bI (a.tables.zip b.tables) 6 (λ(_:Unit)=>[]) (λ(_:Unit)=>[]) [2,3] (λi2 r2 _=>(a.lines.zip b.lines).all jS=true/\(a.tables.zip b.tables).all tbE=r2.all tbE),?_⟩;refine au () ?_ ?_ (λi2 (_:Unit) hd2 hI2=>?_) (λi2 x2 r2 (_:Unit) hd2 hl2 hI2=>?_))
  |(refine ak hd2 () ?_ ?_)
  |((refine aN.mk 4 ?_);refine⟨bI (a.stmts.zip b.stmts) 7 (λ(_:Unit)=>[]) (λ(_:Unit)=>[]) [2,3] (λi4 r4 _=>(a.lines.zip b.lines).all jS=true/\(a.tables.zip b.tables).all tbE=true/\(a.stmts.zip b.stmts).all smE=r4.all smE),?_⟩;refine au () ?_ ?_ (λi4 (_:Unit) hd4 hI4=>?_) (λi4 x4 r4 (_:Unit) hd4 hl4 hI4=>?_))
  |(refine ak hd4 () ?_ ?_)
  |((refine ai ?_ ?_ ?_);rotate_left;(first |exact jw _ _ |exact N7 _ _ |exact zU _ _))
  |((refine aW ?_ ?_ ?_ ?_ ?_);exact rfl;exact rfl;rotate_left;(first |exact eu hd4 |exact eF hd4 |exact eu hd2 |exact eF hd2 |exact eu hd0 |exact eF hd0))
  |((refine bW ?_ ?_);exact rfl)
  |((refine aJ ?_ ?_ (λhg=>?_) ?_);exact rfl)
  |((refine iT ?_ ?_ (λhg=>?_) ?_);exact rfl)
  |((refine aX ?_ ?_);exact rfl;exact rfl)
  |((refine aF ?_ ?_);kernel_rfl)
  |((refine ah ?_);refine⟨[],rfl,?_,trivial⟩;conv=>whnf)
  |(refine And.intro ?_ ?_)
  |exact @rfl AV _
  |fail)
 all_goals first
  |((refine congrArg D.b ?_;rw[Rq hI0 (z4c h)];rfl))
  |((exact Iz hI0 (z1v h)))
  |((exact hI0))
  |((refine congrArg D.b ?_;rw[hI2.1,Rq hI2.2 (by have:=(KF x2).symm.trans h;simpa using this)];rfl))
  |((exact Iz hI2.2 (by have:=(KF x2).symm.trans h;simpa using this)))
  |((exact hI2.2))
  |((refine congrArg D.b ?_;rw[hI4.1,hI4.2.1,Rq hI4.2.2 (by have:=(KE x4).symm.trans h;simpa using this)];rfl))
  |((exact Iz hI4.2.2 (by have:=(KE x4).symm.trans h;simpa using this)))
  |((refine congrArg D.b ?_;rw[hI4.1,hI4.2.1,hI4.2.2];rfl))
  |skip
theorem N8(a b:Pr):aj Tryz.prog 33 [a.d,b.d] (.ret (.b (fO a b))):=by
 cases h1:wz a b with
 |true=>rw[YM h1];exact Vy a b h1
 |false=>
  cases h2:zi a b with
  |true=>rw[YN h2];exact Vz a b h1 h2
  |false=>
   obtain⟨e,z0,z2,z4⟩:=Ro h1 h2
   rw[e];exact VA a b h1 h2 z0 z2 z4
theorem eP(l m:List Pr)  : aj Tryz.prog 12 [prs l,prs m] (.ret (.b (lenE (λq=>fO q.1 q.2) l m))):=by
 refine af tok hmix ⟨[],[]⟩ Tryz.func12 rfl (by kernel_rfl) (by kernel_rfl) (by kernel_rfl) λhf=>?_
 have hlen:l.length<=9223372036854775807:=by simpa using(hf (prs l) (by simp)).sl.1
 clear hf
 repeat' ((try(conv=>whnf))<;>first
  |with_reducible exact trivial
  |with_reducible exact aO hd0 ‹_›
  |((with_reducible refine dB hd0 ?_ ?_);(assumption))
  |((with_reducible refine bM hd0 ?_ ?_);(assumption))
  |with_reducible refine BrI.intro (λh=>?_) (λh=>?_)
  |((with_reducible refine aN.mk 0 ?_);have hz:l.length=m.length:=(by simp at h;omega);have hk0:(l.zip m).length=(l.map Pr.cs).length:=(by rw[bT hz,List.length_map]);have hlz:(l.zip m).length<=9223372036854775807:=(by rw[bT hz];exact hlen);refine⟨bI (l.zip m) 5 (λ(_:Unit)=>[]) (λ(_:Unit)=>[]) [0,1] (λi0 r0 _=>lenE (λq=>fO q.1 q.2) l m=r0.all λq=>fO q.1 q.2),?_⟩;with_reducible refine au () ?_ ?_ (λi0 (_:Unit) hd0 hI0=>?_) (λi0 x0 r0 (_:Unit) hd0 hl0 hI0=>?_))
  |(with_reducible refine ak hd0 () ?_ ?_)
  |((with_reducible refine ai ?_ ?_ ?_);rotate_left;(exact N8 _ _))
  |((with_reducible refine aW ?_ ?_ ?_ ?_ ?_);exact rfl;exact rfl;rotate_left;(first |with_reducible exact eu hd0 |with_reducible exact eF hd0))
  |((with_reducible refine bW ?_ ?_);exact rfl)
  |((with_reducible refine aF ?_ ?_);kernel_rfl)
  |((with_reducible refine ah ?_);refine⟨[],rfl,?_,trivial⟩;conv=>whnf)
  |(with_reducible refine And.intro ?_ ?_)
  |exact @rfl AV _
  |fail)
 all_goals(try simp only[Bool.cond_true_left,Bool.cond_false_right,Bool.cond_false_left,Bool.cond_true_right,Bool.not_eq_true',Bool.not_eq_false',bne,Ex.css_len,List.length_map,Int.toNat_zero]at *)
 all_goals first
  |(rw[hI0];(try simp only[List.all_cons,Bool.not_true,Bool.not_false,Bool.and_true,Bool.true_and,Bool.and_false,Bool.false_and,Bool.or_true,Bool.true_or,Bool.or_false,Bool.false_or,if_true,if_false,reduceIte,Bool.false_eq_true,Bool.not_not,Bool.not_eq_true',beq_self_eq_true,List.all_cons,List.all_nil,List.any_cons,List.any_nil,List.length_map,bne,eq_self,Int.toNat_zero, *]);first |done |rfl)
  |(simp only[lenE,Bool.not_true,Bool.not_false,Bool.and_true,Bool.true_and,Bool.and_false,Bool.false_and,Bool.or_true,Bool.true_or,Bool.or_false,Bool.false_or,if_true,if_false,reduceIte,Bool.false_eq_true,Bool.not_not,Bool.not_eq_true',beq_self_eq_true,List.all_cons,List.all_nil,List.any_cons,List.any_nil,List.length_map,bne,eq_self,Int.toNat_zero, *];done)
  |skip
theorem Dy(x:Ex)(hx:nodes x<=1073741824):aj Tryz.prog 79 [x.d] (.ret (zM x).d):=by
 revert x;refine Ex.ind λx ih hx=>?_
 refine af tok hmix ⟨[],[]⟩ Tryz.func79 rfl (by kernel_rfl) (by kernel_rfl) (by kernel_rfl) λhf=>?_
 have hlen:=Ex.fits (hf x.d (by simp))
 have hN:=JR x
 have hL:=EN x.l
 clear hf
 repeat' ((try(conv=>whnf))<;>first
  |exact trivial
  |exact aO hd1 ‹_›
  |refine BrI.tt ?_
  |refine JS hd1 ?_
  |refine EO hd1 ?_
  |refine BrI.intro (λh=>?_) (λh=>?_)
  |((refine aN.mk 1 ?_);refine⟨bI (x.l) 19 (λ(q:(Int)×(List Ex))=>match q with |(k,out)=>[]) (λ(q:(Int)×(List Ex))=>match q with |(k,out)=>[(1,.cells [.data (.i k),.data (.str x.name),.data (.i 0),.data (.i x.n),.gs 900001 5 (out.map Ex.cs)]),(900001,.tok 5 (out.map Ex.cs).length)]) [1,2,17,18] (λi1 r1 q=>match q with |(k,out)=>(zQ x.kind=k/\x.l.map zM=out++r1.map zM)/\out.length=i1/\vY r1<=1073741824),?_⟩;refine au (?_,([])) ?_ ?_ (λi1 ⟨k,out⟩ hd1 hI1=>?_) (λi1 x1 r1 ⟨k,out⟩ hd1 hl1 hI1=>?_))
  |(refine ak hd1 (?_,(out++[zM x1])) ?_ ?_)
  |((refine ai ?_ ?_ ?_);rotate_left;(exact ih _ (lV hd1) (by have:=hI1.2.2;simp only[vY]at this;omega)))
  |(refine aB.l _ ?_)
  |((refine di ?_ ?_ ?_ ?_ ?_ ?_)<;>exact rfl)
  |((refine dF ?_ ?_ ?_ ?_)<;>exact rfl)
  |((refine aW ?_ ?_ ?_ ?_ ?_);exact rfl;exact rfl;rotate_left;(exact AP hd1))
  |((refine bW ?_ ?_);exact rfl)
  |((refine app_step' ?_ ?_ ?_ ?_ ?_ ?_ ?_);exact rfl;exact rfl;exact rfl;exact rfl)
  |((refine aF ?_ ?_);kernel_rfl)
  |((refine ah ?_);refine⟨[],rfl,?_,trivial⟩;conv=>whnf)
  |(refine And.intro ?_ ?_)
  |((refine sZ ?_ ?_ ?_);exact rfl;exact rfl;(first |exact cu |skip))
  |((refine fK ?_ ?_);exact rfl;(first |exact cu |skip))
  |exact @rfl AV _
  |exact eU rfl
  |fail)
 all_goals first
  |(rfl)
  |((exact YO h))
  |((exact YP h))
  |((exact YQ h))
  |((exact YR ‹_› ‹_› h))
  |(omega)
  |((rw[Vl,hI1.1.1,hI1.1.2];simp only[List.map_nil,List.append_nil,Ex.css_map];rfl))
  |((rw[hI1.1.2];simp only[List.map_cons,List.append_assoc,List.cons_append,List.nil_append];done))
  |((simp only[List.length_append,List.length_cons,List.length_nil];omega))
  |((have:=hI1.2.2;simp only[vY]at this;omega))
  |((have:=hI1.2.1;simp only[List.length_map];omega))
  |skip
theorem N9(l:List Sm)(hl:l.length<=1073741824):aA Tryz.prog 78 [.data (.sl 8 (l.map Sm.cs))] [] (.ret (.own 1000000 1 8 0 l.length)) [(1000000,.arr 1 8 (l.map Sm.cs))]:=by
 refine ag tok hmix ⟨[],[]⟩ Tryz.func78 rfl (by kernel_rfl) (by kernel_rfl) (by kernel_rfl) λhf=>?_
 clear hf
 repeat' ((try(conv=>whnf))<;>first
  |(refine aB.r 5 ?_)
  |(obtain rfl:l = []:=(List.length_eq_zero_iff.1 (by simpa using hz));clear hz;refine Vm [(2,.own 5 1 8 0 0)] [(5,.arr 1 8 [])] ?_ ?_)
  |exact trivial
  |refine BrI.tt ?_
  |refine BrI.ff ?_
  |(refine Ul.mk (λhz=>?_) ?_)
  |((refine wo ?_ ?_ ?_ ?_ ?_ ?_ ?_ ?_);exact rfl;exact rfl;exact rfl;exact eU rfl;exact rfl;(exact Nat.zero_le _);(rw[List.length_map];exact hl))
  |(refine fin_step' [(1000000,5)] rfl ?_ ?_)
  |(exact YU rfl ((Nat.zero_add _).trans (List.length_map _)))
  |(exact Vo rfl)
  |((refine ah ?_);refine fin_step' [(1000000,5)] rfl ?_ ?_)
  |((refine dF ?_ ?_ ?_ ?_)<;>exact rfl)
  |(refine And.intro ?_ ?_)
  |exact @rfl AV _
  |exact @rfl Block _
  |fail)
 all_goals first
  |(rfl)
  |skip
theorem RV(p:Pr)(hl:p.stmts.length<=1073741823)(hn:∀s∈p.stmts,nodes s.x<=1073741824):aj Tryz.prog 32 [p.d] (.ret (Fq p).d):=by
 refine af tok hmix ⟨[7],[]⟩ Tryz.func32 rfl (by kernel_rfl) (by kernel_rfl) (by kernel_rfl) λhf=>?_
 have hlen:p.stmts.length<=9223372036854775807:=by omega
 have hle:p.stmts.length<=1073741824:=by omega
 clear hf
 repeat' ((try(conv=>whnf))<;>first
  |with_reducible exact trivial
  |with_reducible exact aO hd0 ‹_›
  |((with_reducible refine dB hd0 ?_ ?_);(exact rfl))
  |((with_reducible refine bM hd0 ?_ ?_);(exact rfl))
  |((with_reducible refine nU ?_ ?_ ?_ ?_ ?_);exact rfl;exact rfl;exact rfl)
  |((with_reducible refine ER ?_ ?_ ?_ ?_ ?_);exact rfl;exact rfl;rotate_left;exact WQ hI0)
  |((with_reducible refine kS ?_ ?_ ?_ ?_ ?_ ?_ ?_ ?_ ?_);exact rfl;exact rfl;exact rfl;exact rfl;exact eU rfl;exact rfl;rotate_left;(first |exact WQ hI0 |exact YS hI0))
  |((with_reducible refine aN.mk 7 ?_);refine⟨⟨Unit,λ_=>[],λ_=>[(1,.cells [.data (.str p.name),.data (.i p.latency),.data (.i p.tail),.data (.sl 3 (p.params.map Bd.cs)),.data (.sl 3 (p.states.map Bd.cs)),.data (.sl 4 (p.lines.map Ln.cs)),.data (.sl 2 (p.tables.map Tb.cs)),.data (.sl 8 ((p.stmts.map UZ).map Sm.cs))])],[1,2],λ_=>True,λ_=>0⟩,?_,λ_ _=>?_⟩)
  |(refine⟨(),trivial,?_⟩)
  |((with_reducible refine aN.mk 0 ?_);refine⟨bI (p.stmts) 12 (λ(q:(List Sm)×(List Sm))=>match q with |(dn,rs)=>[]) (λ(q:(List Sm)×(List Sm))=>match q with |(dn,rs)=>[(800000,.arr 1 8 (dn.map smb++rs.map Sm.cs))]) [1,2,10,11] (λi0 r0 q=>match q with |(dn,rs)=>BI p dn rs r0 i0),?_⟩;with_reducible refine au (([]),(p.stmts)) ?_ ?_ (λi0 ⟨dn,rs⟩ hd0 hI0=>?_) (λi0 x0 r0 ⟨dn,rs⟩ hd0 hl0 hI0=>?_))
  |(with_reducible refine ak hd0 ((dn++[x0]),(r0)) ?_ ?_)
  |((with_reducible refine ai ?_ ?_ ?_);rotate_left;(exact Dy _ (hn _ (lV hd0))))
  |((with_reducible refine tq [(1000000,800000)] (N9 p.stmts hle) ?_ ?_ ?_ ?_);rotate_left 0;exact rfl;(exact trivial);exact rfl)
  |((with_reducible refine aF ?_ ?_);kernel_rfl)
  |((with_reducible refine ah ?_);refine⟨[],rfl,?_,trivial⟩;conv=>whnf)
  |(with_reducible refine And.intro ?_ ?_)
  |exact @rfl AV _
  |exact @rfl Block _
  |fail)
 all_goals first
  |(rfl)
  |((exact⟨rfl,rfl,rfl⟩))
  |((exact(WR hI0).1))
  |((have:=(WR hI0).2;rw[Nat.zero_add]at this;exact this))
  |((exact Int.natCast_nonneg _))
  |((exact z4d hl0))
  |((exact YT hI0))
  |((refine congrArg (Block.arr 1 8) (z1w hI0 ?_);rfl))
  |skip
theorem IR(a b:Pr)(hl:b.stmts.length<=1073741823)(hn:∀s∈b.stmts,nodes s.x<=1073741824):aj Tryz.prog 31 [a.d,b.d] (.ret (.b (fO a (Fq b)))):=by
 refine af tok hmix ⟨[],[]⟩ Tryz.func31 rfl (by kernel_rfl) (by kernel_rfl) (by kernel_rfl) λhf=>?_
 clear hf
 repeat' ((try(conv=>whnf))<;>first
  |((refine ai ?_ ?_ ?_);rotate_left;(first |exact vK _ _ |exact RV b hl hn))
  |((refine aF ?_ ?_);kernel_rfl)
  |((refine ah ?_);refine⟨[],rfl,?_,trivial⟩;conv=>whnf)
  |fail)
theorem Bv(l m:List Pr)(hs:∀p∈m,p.stmts.length<=1073741823)(hn:∀p∈m,∀s∈p.stmts,nodes s.x<=1073741824):aj Tryz.prog 30 [prs l,prs m,.fn 31 []] (.ret (.b (lenE (λq=>fO q.1 (Fq q.2)) l m))):=by
 refine af tok hmix ⟨[],[]⟩ Tryz.func30 rfl (by kernel_rfl) (by kernel_rfl) (by kernel_rfl) λhf=>?_
 have hlen:l.length<=9223372036854775807:=by simpa using(hf (prs l) (by simp)).sl.1
 clear hf
 repeat' ((try(conv=>whnf))<;>first
  |with_reducible exact trivial
  |with_reducible exact aO hd0 ‹_›
  |((with_reducible refine dB hd0 ?_ ?_);(assumption))
  |((with_reducible refine bM hd0 ?_ ?_);(assumption))
  |with_reducible refine BrI.intro (λh=>?_) (λh=>?_)
  |((with_reducible refine aN.mk 0 ?_);have hz:l.length=m.length:=(by simp at h;omega);have hk0:(l.zip m).length=(l.map Pr.cs).length:=(by rw[bT hz,List.length_map]);have hlz:(l.zip m).length<=9223372036854775807:=(by rw[bT hz];exact hlen);refine⟨bI (l.zip m) 17 (λ(_:Unit)=>[]) (λ(_:Unit)=>[]) [1,2,15,16] (λi0 r0 _=>lenE (λq=>fO q.1 (Fq q.2)) l m=r0.all λq=>fO q.1 (Fq q.2)),?_⟩;with_reducible refine au () ?_ ?_ (λi0 (_:Unit) hd0 hI0=>?_) (λi0 x0 r0 (_:Unit) hd0 hl0 hI0=>?_))
  |(with_reducible refine ak hd0 () ?_ ?_)
  |((with_reducible refine ai ?_ ?_ ?_);rotate_left;(exact IR _ _ (hs _ (List.of_mem_zip (lV hd0)).2) (hn _ (List.of_mem_zip (lV hd0)).2)))
  |((with_reducible refine aW ?_ ?_ ?_ ?_ ?_);exact rfl;exact rfl;rotate_left;(first |with_reducible exact eu hd0 |with_reducible exact eF hd0))
  |((with_reducible refine bW ?_ ?_);exact rfl)
  |((with_reducible refine ah ?_);refine⟨[],rfl,?_,trivial⟩;conv=>whnf)
  |(with_reducible refine And.intro ?_ ?_)
  |exact @rfl AV _
  |fail)
 all_goals(try simp only[Bool.cond_true_left,Bool.cond_false_right,Bool.cond_false_left,Bool.cond_true_right,Bool.not_eq_true',Bool.not_eq_false',bne,Ex.css_len,List.length_map,Int.toNat_zero]at *)
 all_goals first
  |(rw[hI0];(try simp only[List.all_cons,Bool.not_true,Bool.not_false,Bool.and_true,Bool.true_and,Bool.and_false,Bool.false_and,Bool.or_true,Bool.true_or,Bool.or_false,Bool.false_or,if_true,if_false,reduceIte,Bool.false_eq_true,Bool.not_not,Bool.not_eq_true',beq_self_eq_true,List.all_cons,List.all_nil,List.any_cons,List.any_nil,List.length_map,bne,eq_self,Int.toNat_zero, *]);first |done |rfl)
  |(simp only[lenE,Bool.not_true,Bool.not_false,Bool.and_true,Bool.true_and,Bool.and_false,Bool.false_and,Bool.or_true,Bool.true_or,Bool.or_false,Bool.false_or,if_true,if_false,reduceIte,Bool.false_eq_true,Bool.not_not,Bool.not_eq_true',beq_self_eq_true,List.all_cons,List.all_nil,List.any_cons,List.any_nil,List.length_map,bne,eq_self,Int.toNat_zero, *];done)
  |skip
end Go.Proofs.YtmfehangcmbidaaGreatDoor
