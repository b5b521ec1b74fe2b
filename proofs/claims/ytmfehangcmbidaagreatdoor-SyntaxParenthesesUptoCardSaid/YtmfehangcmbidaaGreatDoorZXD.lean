/- Contracts: package syntax and its reference: equality of processors. -/
import Derived.Test.YtmfehangcmbidaaGreatDoorZDS
set_option linter.unusedSectionVars false
set_option linter.unusedSimpArgs false
set_option linter.unusedVariables false
set_option maxHeartbeats 8000000
namespace Go.Proofs.YtmfehangcmbidaaGreatDoor
open Go.Fw Go.Fw.Ref15 Go.Fw.Sy
set_option maxRecDepth 10000
variable [ae]
theorem Ii(l m:List Int)  : aB Tryz.prog 64 [ints l,ints m] (.ret (.b (Dj l m))):=by
 refine ag tok hmix ⟨[],[]⟩ Tryz.func64 rfl (by kernel_rfl) (by kernel_rfl) (by kernel_rfl) λhf=>?_
 have hlen:l.length<=9223372036854775807:=by simpa using(hf (ints l) (by simp)).sl.1
 clear hf
 repeat' ((try(conv=>whnf))<;>first
  |with_reducible exact trivial
  |with_reducible exact aT hd0 ‹_›
  |((with_reducible refine dS hd0 ?_ ?_);(assumption))
  |((with_reducible refine dw hd0 ?_ ?_);(assumption))
  |with_reducible refine BrI.intro (λh=>?_) (λh=>?_)
  |((with_reducible refine aN.mk 0 ?_);have hz:l.length=m.length:=(by simp at h;omega);have hk0:(l.zip m).length=(l.map SQ).length:=(by rw[bT hz,List.length_map]);have hlz:(l.zip m).length<=9223372036854775807:=(by rw[bT hz];exact hlen);refine⟨bQ (l.zip m) 13 (λ(_:Unit)=>[]) (λ(_:Unit)=>[]) [0,1,12] (λi0 r0 _=>Dj l m=r0.all YM),?_⟩;with_reducible refine ay () ?_ ?_ (λi0 (_:Unit) hd0 hI0=>?_) (λi0 x0 r0 (_:Unit) hd0 hl0 hI0=>?_))
  |(with_reducible refine au hd0 () ?_ ?_)
  |((with_reducible refine bf ?_ ?_ ?_ ?_ ?_);exact rfl;exact rfl;rotate_left;(first |with_reducible exact fB hd0 |with_reducible exact fC hd0))
  |((with_reducible refine aH ?_ ?_);kernel_rfl)
  |((with_reducible refine ai ?_);refine⟨[],rfl,?_,trivial⟩;conv=>whnf)
  |(with_reducible refine And.intro ?_ ?_)
  |exact @rfl AV _
  |fail)
 all_goals(try simp only[Bool.cond_true_left,Bool.cond_false_right,Bool.cond_false_left,Bool.cond_true_right,Bool.not_eq_true',Bool.not_eq_false',bne,Ex.css_len,List.length_map,Int.toNat_zero]at *)
 all_goals first
  |(rw[hI0];(try simp only[YM,Bool.not_true,Bool.not_false,Bool.and_true,Bool.true_and,Bool.and_false,Bool.false_and,Bool.or_true,Bool.true_or,Bool.or_false,Bool.false_or,if_true,if_false,reduceIte,Bool.false_eq_true,Bool.not_not,Bool.not_eq_true',beq_self_eq_true,List.all_cons,List.all_nil,List.any_cons,List.any_nil,List.length_map,bne,eq_self,Int.toNat_zero, *]);first |done |rfl)
  |(simp only[Dj,lenE,Bool.not_true,Bool.not_false,Bool.and_true,Bool.true_and,Bool.and_false,Bool.false_and,Bool.or_true,Bool.true_or,Bool.or_false,Bool.false_or,if_true,if_false,reduceIte,Bool.false_eq_true,Bool.not_not,Bool.not_eq_true',beq_self_eq_true,List.all_cons,List.all_nil,List.any_cons,List.any_nil,List.length_map,bne,eq_self,Int.toNat_zero, *];done)
  |skip
theorem Np(l m:List Bd)  : aB Tryz.prog 67 [.sl 3 (l.map Bd.cs),.sl 3 (m.map Bd.cs)] (.ret (.b (dY l m))):=by
 refine ag tok hmix ⟨[],[]⟩ Tryz.func67 rfl (by kernel_rfl) (by kernel_rfl) (by kernel_rfl) λhf=>?_
 have hlen:l.length<=9223372036854775807:=by simpa using(hf (.sl 3 (l.map Bd.cs)) (by simp)).sl.1
 clear hf
 repeat' ((try(conv=>whnf))<;>first
  |with_reducible exact trivial
  |with_reducible exact aT hd0 ‹_›
  |((with_reducible refine dS hd0 ?_ ?_);(assumption))
  |((with_reducible refine dw hd0 ?_ ?_);(assumption))
  |with_reducible refine BrI.intro (λh=>?_) (λh=>?_)
  |((with_reducible refine aN.mk 0 ?_);have hz:l.length=m.length:=(by simp at h;omega);have hk0:(l.zip m).length=(l.map Bd.cs).length:=(by rw[bT hz,List.length_map]);have hlz:(l.zip m).length<=9223372036854775807:=(by rw[bT hz];exact hlen);refine⟨bQ (l.zip m) 13 (λ(_:Unit)=>[]) (λ(_:Unit)=>[]) [0,1,12] (λi0 r0 _=>dY l m=r0.all wu),?_⟩;with_reducible refine ay () ?_ ?_ (λi0 (_:Unit) hd0 hI0=>?_) (λi0 x0 r0 (_:Unit) hd0 hl0 hI0=>?_))
  |(with_reducible refine au hd0 () ?_ ?_)
  |((with_reducible refine mi ?_ ?_ ?_);exact rfl;exact rfl)
  |((with_reducible refine bf ?_ ?_ ?_ ?_ ?_);exact rfl;exact rfl;rotate_left;(first |with_reducible exact fB hd0 |with_reducible exact fC hd0))
  |((with_reducible refine bZ ?_ ?_);exact rfl)
  |((with_reducible refine aH ?_ ?_);kernel_rfl)
  |((with_reducible refine ai ?_);refine⟨[],rfl,?_,trivial⟩;conv=>whnf)
  |(with_reducible refine And.intro ?_ ?_)
  |exact @rfl AV _
  |fail)
 all_goals(try simp only[Bool.cond_true_left,Bool.cond_false_right,Bool.cond_false_left,Bool.cond_true_right,Bool.not_eq_true',Bool.not_eq_false',bne,Ex.css_len,List.length_map,Int.toNat_zero]at *)
 all_goals first
  |(rw[hI0];(try simp only[wu,Bool.not_true,Bool.not_false,Bool.and_true,Bool.true_and,Bool.and_false,Bool.false_and,Bool.or_true,Bool.true_or,Bool.or_false,Bool.false_or,if_true,if_false,reduceIte,Bool.false_eq_true,Bool.not_not,Bool.not_eq_true',beq_self_eq_true,List.all_cons,List.all_nil,List.any_cons,List.any_nil,List.length_map,bne,eq_self,Int.toNat_zero, *]);first |done |rfl)
  |(simp only[dY,Bool.not_true,Bool.not_false,Bool.and_true,Bool.true_and,Bool.and_false,Bool.false_and,Bool.or_true,Bool.true_or,Bool.or_false,Bool.false_or,if_true,if_false,reduceIte,Bool.false_eq_true,Bool.not_not,Bool.not_eq_true',beq_self_eq_true,List.all_cons,List.all_nil,List.any_cons,List.any_nil,List.length_map,bne,eq_self,Int.toNat_zero, *];done)
  |skip
theorem Nq(l m:List Ln)  : aB Tryz.prog 68 [.sl 4 (l.map Ln.cs),.sl 4 (m.map Ln.cs)] (.ret (.b (lenE jZ l m))):=by
 refine ag tok hmix ⟨[],[]⟩ Tryz.func68 rfl (by kernel_rfl) (by kernel_rfl) (by kernel_rfl) λhf=>?_
 have hlen:l.length<=9223372036854775807:=by simpa using(hf (.sl 4 (l.map Ln.cs)) (by simp)).sl.1
 clear hf
 repeat' ((try(conv=>whnf))<;>first
  |with_reducible exact trivial
  |with_reducible exact aT hd0 ‹_›
  |((with_reducible refine dS hd0 ?_ ?_);(assumption))
  |((with_reducible refine dw hd0 ?_ ?_);(assumption))
  |with_reducible refine BrI.intro (λh=>?_) (λh=>?_)
  |((with_reducible refine aN.mk 0 ?_);have hz:l.length=m.length:=(by simp at h;omega);have hk0:(l.zip m).length=(l.map Ln.cs).length:=(by rw[bT hz,List.length_map]);have hlz:(l.zip m).length<=9223372036854775807:=(by rw[bT hz];exact hlen);refine⟨bQ (l.zip m) 13 (λ(_:Unit)=>[]) (λ(_:Unit)=>[]) [0,1,12] (λi0 r0 _=>lenE jZ l m=r0.all jZ),?_⟩;with_reducible refine ay () ?_ ?_ (λi0 (_:Unit) hd0 hI0=>?_) (λi0 x0 r0 (_:Unit) hd0 hl0 hI0=>?_))
  |(with_reducible refine au hd0 () ?_ ?_)
  |((with_reducible refine mi ?_ ?_ ?_);exact rfl;exact rfl)
  |((with_reducible refine bf ?_ ?_ ?_ ?_ ?_);exact rfl;exact rfl;rotate_left;(first |with_reducible exact fB hd0 |with_reducible exact fC hd0))
  |((with_reducible refine bZ ?_ ?_);exact rfl)
  |((with_reducible refine aH ?_ ?_);kernel_rfl)
  |((with_reducible refine ai ?_);refine⟨[],rfl,?_,trivial⟩;conv=>whnf)
  |(with_reducible refine And.intro ?_ ?_)
  |exact @rfl AV _
  |fail)
 all_goals(try simp only[Bool.cond_true_left,Bool.cond_false_right,Bool.cond_false_left,Bool.cond_true_right,Bool.not_eq_true',Bool.not_eq_false',bne,Ex.css_len,List.length_map,Int.toNat_zero]at *)
 all_goals first
  |(rw[hI0];(try simp only[jZ,Bool.not_true,Bool.not_false,Bool.and_true,Bool.true_and,Bool.and_false,Bool.false_and,Bool.or_true,Bool.true_or,Bool.or_false,Bool.false_or,if_true,if_false,reduceIte,Bool.false_eq_true,Bool.not_not,Bool.not_eq_true',beq_self_eq_true,List.all_cons,List.all_nil,List.any_cons,List.any_nil,List.length_map,bne,eq_self,Int.toNat_zero, *]);first |done |rfl)
  |(simp only[lenE,Bool.not_true,Bool.not_false,Bool.and_true,Bool.true_and,Bool.and_false,Bool.false_and,Bool.or_true,Bool.true_or,Bool.or_false,Bool.false_or,if_true,if_false,reduceIte,Bool.false_eq_true,Bool.not_not,Bool.not_eq_true',beq_self_eq_true,List.all_cons,List.all_nil,List.any_cons,List.any_nil,List.length_map,bne,eq_self,Int.toNat_zero, *];done)
  |skip
theorem Va(a b:Tb)  : aB Tryz.prog 63 [.agg a.cs,.agg b.cs] (.ret (.b (tbE (a,b)))):=by
 refine ag tok hmix ⟨[],[]⟩ Tryz.func63 rfl (by kernel_rfl) (by kernel_rfl) (by kernel_rfl) λhf=>?_
 clear hf
 repeat' ((try(conv=>whnf))<;>first
  |((with_reducible refine ak ?_ ?_ ?_);rotate_left;(exact Ii _ _))
  |((with_reducible refine aQ ?_ ?_ (λhg=>?_) ?_);exact rfl)
  |((with_reducible refine bK ?_ ?_);with_reducible exact rfl;with_reducible exact rfl)
  |((with_reducible refine ai ?_);refine⟨[],rfl,?_,trivial⟩;conv=>whnf)
  |fail)
 all_goals(try simp only[Bool.cond_true_left,Bool.cond_false_right,Bool.cond_false_left,Bool.cond_true_right,Bool.not_eq_true',Bool.not_eq_false',bne,Ex.css_len,List.length_map,Int.toNat_zero]at *)
 all_goals first
  |(simp only[tbE,Bool.not_true,Bool.not_false,Bool.and_true,Bool.true_and,Bool.and_false,Bool.false_and,Bool.or_true,Bool.true_or,Bool.or_false,Bool.false_or,if_true,if_false,reduceIte,Bool.false_eq_true,Bool.not_not,Bool.not_eq_true',beq_self_eq_true,List.all_cons,List.all_nil,List.any_cons,List.any_nil,List.length_map,bne,eq_self,Int.toNat_zero, *];done)
  |skip
theorem Nr(l m:List Ex)(ih:∀x∈l,∀y,aB Tryz.prog 66 [x.d,y.d] (.ret (.b (dN x y)))):aB Tryz.prog 107 [.sl 5 (l.map Ex.cs),.sl 5 (m.map Ex.cs),.fn 66 []] (.ret (.b (z2w l m))):=by
 refine ag tok hmix ⟨[],[]⟩ Tryz.func107 rfl (by kernel_rfl) (by kernel_rfl) (by kernel_rfl) λhf=>?_
 have hlen:l.length<=9223372036854775807:=by simpa using(hf (.sl 5 (l.map Ex.cs)) (by simp)).sl.1
 clear hf
 repeat' ((try(conv=>whnf))<;>first
  |with_reducible exact trivial
  |with_reducible exact aT hd0 ‹_›
  |((with_reducible refine dS hd0 ?_ ?_);(assumption))
  |((with_reducible refine dw hd0 ?_ ?_);(assumption))
  |with_reducible refine BrI.intro (λh=>?_) (λh=>?_)
  |((with_reducible refine aN.mk 0 ?_);have hz:l.length=m.length:=(by simp at h;omega);have hk0:(l.zip m).length=(l.map Ex.cs).length:=(by rw[bT hz,List.length_map]);have hlz:(l.zip m).length<=9223372036854775807:=(by rw[bT hz];exact hlen);refine⟨bQ (l.zip m) 17 (λ(_:Unit)=>[]) (λ(_:Unit)=>[]) [1,2,15,16] (λi0 r0 _=>z2w l m=r0.all exE),?_⟩;with_reducible refine ay () ?_ ?_ (λi0 (_:Unit) hd0 hI0=>?_) (λi0 x0 r0 (_:Unit) hd0 hl0 hI0=>?_))
  |(with_reducible refine au hd0 () ?_ ?_)
  |((with_reducible refine ak ?_ ?_ ?_);rotate_left;(exact ih _ (List.of_mem_zip (mg hd0)).1 _))
  |((with_reducible refine bf ?_ ?_ ?_ ?_ ?_);exact rfl;exact rfl;rotate_left;(first |with_reducible exact fB hd0 |with_reducible exact fC hd0))
  |((with_reducible refine bZ ?_ ?_);exact rfl)
  |((with_reducible refine ai ?_);refine⟨[],rfl,?_,trivial⟩;conv=>whnf)
  |(with_reducible refine And.intro ?_ ?_)
  |exact @rfl AV _
  |fail)
 all_goals(try simp only[Bool.cond_true_left,Bool.cond_false_right,Bool.cond_false_left,Bool.cond_true_right,Bool.not_eq_true',Bool.not_eq_false',bne,Ex.css_len,List.length_map,Int.toNat_zero]at *)
 all_goals first
  |(rw[hI0];(try simp only[exE,Bool.not_true,Bool.not_false,Bool.and_true,Bool.true_and,Bool.and_false,Bool.false_and,Bool.or_true,Bool.true_or,Bool.or_false,Bool.false_or,if_true,if_false,reduceIte,Bool.false_eq_true,Bool.not_not,Bool.not_eq_true',beq_self_eq_true,List.all_cons,List.all_nil,List.any_cons,List.any_nil,List.length_map,bne,eq_self,Int.toNat_zero, *]);first |done |rfl)
  |(simp only[z2w,lenE,Bool.not_true,Bool.not_false,Bool.and_true,Bool.true_and,Bool.and_false,Bool.false_and,Bool.or_true,Bool.true_or,Bool.or_false,Bool.false_or,if_true,if_false,reduceIte,Bool.false_eq_true,Bool.not_not,Bool.not_eq_true',beq_self_eq_true,List.all_cons,List.all_nil,List.any_cons,List.any_nil,List.length_map,bne,eq_self,Int.toNat_zero, *];done)
  |skip
theorem zW(a b:Ex)  : aB Tryz.prog 66 [a.d,b.d] (.ret (.b (dN a b))):=by
 revert b;revert a;refine Ex.ind λa ih b=>?_
 refine ag tok hmix ⟨[],[]⟩ Tryz.func66 rfl (by kernel_rfl) (by kernel_rfl) (by kernel_rfl) λhf=>?_
 clear hf
 repeat' ((try(conv=>whnf))<;>first
  |((with_reducible refine ak ?_ ?_ ?_);rotate_left;((have hq:=Nr a.l b.l ih;rw[<-Ex.css_eq,<-Ex.css_eq]at hq;exact hq)))
  |((with_reducible refine aQ ?_ ?_ (λhg=>?_) ?_);exact rfl)
  |((with_reducible refine bK ?_ ?_);with_reducible exact rfl;with_reducible exact rfl)
  |((with_reducible refine ai ?_);refine⟨[],rfl,?_,trivial⟩;conv=>whnf)
  |fail)
 all_goals(try simp only[Bool.cond_true_left,Bool.cond_false_right,Bool.cond_false_left,Bool.cond_true_right,Bool.not_eq_true',Bool.not_eq_false',bne,Ex.css_len,List.length_map,Int.toNat_zero]at *)
 all_goals first
  |((exact congrArg D.b (Dk a b)))
  |skip
theorem Vb(a b:Sm)  : aB Tryz.prog 65 [a.d,b.d] (.ret (.b (smE (a,b)))):=by
 refine ag tok hmix ⟨[],[]⟩ Tryz.func65 rfl (by kernel_rfl) (by kernel_rfl) (by kernel_rfl) λhf=>?_
 clear hf
 repeat' ((try(conv=>whnf))<;>first
  |((with_reducible refine ak ?_ ?_ ?_);rotate_left;(exact zW _ _))
  |((with_reducible refine aQ ?_ ?_ (λhg=>?_) ?_);exact rfl)
  |((with_reducible refine bK ?_ ?_);with_reducible exact rfl;with_reducible exact rfl)
  |((with_reducible refine ai ?_);refine⟨[],rfl,?_,trivial⟩;conv=>whnf)
  |fail)
 all_goals(try simp only[Bool.cond_true_left,Bool.cond_false_right,Bool.cond_false_left,Bool.cond_true_right,Bool.not_eq_true',Bool.not_eq_false',bne,Ex.css_len,List.length_map,Int.toNat_zero]at *)
 all_goals first
  |(simp only[smE,Bool.not_true,Bool.not_false,Bool.and_true,Bool.true_and,Bool.and_false,Bool.false_and,Bool.or_true,Bool.true_or,Bool.or_false,Bool.false_or,if_true,if_false,reduceIte,Bool.false_eq_true,Bool.not_not,Bool.not_eq_true',beq_self_eq_true,List.all_cons,List.all_nil,List.any_cons,List.any_nil,List.length_map,bne,eq_self,Int.toNat_zero, *];done)
  |skip
theorem Ns(l m:List Tb)  : aB Tryz.prog 69 [.sl 2 (l.map Tb.cs),.sl 2 (m.map Tb.cs),.fn 63 []] (.ret (.b (lenE tbE l m))):=by
 refine ag tok hmix ⟨[],[]⟩ Tryz.func69 rfl (by kernel_rfl) (by kernel_rfl) (by kernel_rfl) λhf=>?_
 have hlen:l.length<=9223372036854775807:=by simpa using(hf (.sl 2 (l.map Tb.cs)) (by simp)).sl.1
 clear hf
 repeat' ((try(conv=>whnf))<;>first
  |with_reducible exact trivial
  |with_reducible exact aT hd0 ‹_›
  |((with_reducible refine dS hd0 ?_ ?_);(assumption))
  |((with_reducible refine dw hd0 ?_ ?_);(assumption))
  |with_reducible refine BrI.intro (λh=>?_) (λh=>?_)
  |((with_reducible refine aN.mk 0 ?_);have hz:l.length=m.length:=(by simp at h;omega);have hk0:(l.zip m).length=(l.map Tb.cs).length:=(by rw[bT hz,List.length_map]);have hlz:(l.zip m).length<=9223372036854775807:=(by rw[bT hz];exact hlen);refine⟨bQ (l.zip m) 17 (λ(_:Unit)=>[]) (λ(_:Unit)=>[]) [1,2,15,16] (λi0 r0 _=>lenE tbE l m=r0.all tbE),?_⟩;with_reducible refine ay () ?_ ?_ (λi0 (_:Unit) hd0 hI0=>?_) (λi0 x0 r0 (_:Unit) hd0 hl0 hI0=>?_))
  |(with_reducible refine au hd0 () ?_ ?_)
  |((with_reducible refine ak ?_ ?_ ?_);rotate_left;(exact Va _ _))
  |((with_reducible refine bf ?_ ?_ ?_ ?_ ?_);exact rfl;exact rfl;rotate_left;(first |with_reducible exact fB hd0 |with_reducible exact fC hd0))
  |((with_reducible refine bZ ?_ ?_);exact rfl)
  |((with_reducible refine ai ?_);refine⟨[],rfl,?_,trivial⟩;conv=>whnf)
  |(with_reducible refine And.intro ?_ ?_)
  |exact @rfl AV _
  |fail)
 all_goals(try simp only[Bool.cond_true_left,Bool.cond_false_right,Bool.cond_false_left,Bool.cond_true_right,Bool.not_eq_true',Bool.not_eq_false',bne,Ex.css_len,List.length_map,Int.toNat_zero]at *)
 all_goals first
  |(rw[hI0];(try simp only[List.all_cons,Bool.not_true,Bool.not_false,Bool.and_true,Bool.true_and,Bool.and_false,Bool.false_and,Bool.or_true,Bool.true_or,Bool.or_false,Bool.false_or,if_true,if_false,reduceIte,Bool.false_eq_true,Bool.not_not,Bool.not_eq_true',beq_self_eq_true,List.all_cons,List.all_nil,List.any_cons,List.any_nil,List.length_map,bne,eq_self,Int.toNat_zero, *]);first |done |rfl)
  |(simp only[lenE,Bool.not_true,Bool.not_false,Bool.and_true,Bool.true_and,Bool.and_false,Bool.false_and,Bool.or_true,Bool.true_or,Bool.or_false,Bool.false_or,if_true,if_false,reduceIte,Bool.false_eq_true,Bool.not_not,Bool.not_eq_true',beq_self_eq_true,List.all_cons,List.all_nil,List.any_cons,List.any_nil,List.length_map,bne,eq_self,Int.toNat_zero, *];done)
  |skip
theorem Nu(l m:List Sm)  : aB Tryz.prog 70 [.sl 8 (l.map Sm.cs),.sl 8 (m.map Sm.cs),.fn 65 []] (.ret (.b (lenE smE l m))):=by
 refine ag tok hmix ⟨[],[]⟩ Tryz.func70 rfl (by kernel_rfl) (by kernel_rfl) (by kernel_rfl) λhf=>?_
 have hlen:l.length<=9223372036854775807:=by simpa using(hf (.sl 8 (l.map Sm.cs)) (by simp)).sl.1
 clear hf
 repeat' ((try(conv=>whnf))<;>first
  |with_reducible exact trivial
  |with_reducible exact aT hd0 ‹_›
  |((with_reducible refine dS hd0 ?_ ?_);(assumption))
  |((with_reducible refine dw hd0 ?_ ?_);(assumption))
  |with_reducible refine BrI.intro (λh=>?_) (λh=>?_)
  |((with_reducible refine aN.mk 0 ?_);have hz:l.length=m.length:=(by simp at h;omega);have hk0:(l.zip m).length=(l.map Sm.cs).length:=(by rw[bT hz,List.length_map]);have hlz:(l.zip m).length<=9223372036854775807:=(by rw[bT hz];exact hlen);refine⟨bQ (l.zip m) 17 (λ(_:Unit)=>[]) (λ(_:Unit)=>[]) [1,2,15,16] (λi0 r0 _=>lenE smE l m=r0.all smE),?_⟩;with_reducible refine ay () ?_ ?_ (λi0 (_:Unit) hd0 hI0=>?_) (λi0 x0 r0 (_:Unit) hd0 hl0 hI0=>?_))
  |(with_reducible refine au hd0 () ?_ ?_)
  |((with_reducible refine ak ?_ ?_ ?_);rotate_left;(exact Vb _ _))
  |((with_reducible refine bf ?_ ?_ ?_ ?_ ?_);exact rfl;exact rfl;rotate_left;(first |with_reducible exact fB hd0 |with_reducible exact fC hd0))
  |((with_reducible refine bZ ?_ ?_);exact rfl)
  |((with_reducible refine ai ?_);refine⟨[],rfl,?_,trivial⟩;conv=>whnf)
  |(with_reducible refine And.intro ?_ ?_)
  |exact @rfl AV _
  |fail)
 all_goals(try simp only[Bool.cond_true_left,Bool.cond_false_right,Bool.cond_false_left,Bool.cond_true_right,Bool.not_eq_true',Bool.not_eq_false',bne,Ex.css_len,List.length_map,Int.toNat_zero]at *)
 all_goals first
  |(rw[hI0];(try simp only[List.all_cons,Bool.not_true,Bool.not_false,Bool.and_true,Bool.true_and,Bool.and_false,Bool.false_and,Bool.or_true,Bool.true_or,Bool.or_false,Bool.false_or,if_true,if_false,reduceIte,Bool.false_eq_true,Bool.not_not,Bool.not_eq_true',beq_self_eq_true,List.all_cons,List.all_nil,List.any_cons,List.any_nil,List.length_map,bne,eq_self,Int.toNat_zero, *]);first |done |rfl)
  |(simp only[lenE,Bool.not_true,Bool.not_false,Bool.and_true,Bool.true_and,Bool.and_false,Bool.false_and,Bool.or_true,Bool.true_or,Bool.or_false,Bool.false_or,if_true,if_false,reduceIte,Bool.false_eq_true,Bool.not_not,Bool.not_eq_true',beq_self_eq_true,List.all_cons,List.all_nil,List.any_cons,List.any_nil,List.length_map,bne,eq_self,Int.toNat_zero, *];done)
  |skip
theorem vM(a b:Pr)  : aB Tryz.prog 27 [a.d,b.d] (.ret (.b (fK a b))):=by
 refine ag tok hmix ⟨[],[]⟩ Tryz.func27 rfl (by kernel_rfl) (by kernel_rfl) (by kernel_rfl) λhf=>?_
 clear hf
 repeat' ((try(conv=>whnf))<;>first
  |((with_reducible refine ak ?_ ?_ ?_);rotate_left;(first |exact Np _ _ |exact Nq _ _ |exact Ns _ _ |exact Nu _ _))
  |((with_reducible refine aQ ?_ ?_ (λhg=>?_) ?_);exact rfl)
  |((with_reducible refine bK ?_ ?_);with_reducible exact rfl;with_reducible exact rfl)
  |((with_reducible refine ai ?_);refine⟨[],rfl,?_,trivial⟩;conv=>whnf)
  |fail)
 all_goals(try simp only[Bool.cond_true_left,Bool.cond_false_right,Bool.cond_false_left,Bool.cond_true_right,Bool.not_eq_true',Bool.not_eq_false',bne,Ex.css_len,List.length_map,Int.toNat_zero]at *)
 all_goals first
  |(simp only[fK,Fg,Bool.not_true,Bool.not_false,Bool.and_true,Bool.true_and,Bool.and_false,Bool.false_and,Bool.or_true,Bool.true_or,Bool.or_false,Bool.false_or,if_true,if_false,reduceIte,Bool.false_eq_true,Bool.not_not,Bool.not_eq_true',beq_self_eq_true,List.all_cons,List.all_nil,List.any_cons,List.any_nil,List.length_map,bne,eq_self,Int.toNat_zero, *];done)
  |skip
theorem Nv(l m:List Int)  : aB Tryz.prog 81 [ints l,ints m] (.ret (.b (Dj l m))):=by
 refine ag tok hmix ⟨[],[]⟩ Tryz.func81 rfl (by kernel_rfl) (by kernel_rfl) (by kernel_rfl) λhf=>?_
 have hlen:l.length<=9223372036854775807:=by simpa using(hf (ints l) (by simp)).sl.1
 clear hf
 repeat' ((try(conv=>whnf))<;>first
  |with_reducible exact trivial
  |with_reducible exact aT hd0 ‹_›
  |((with_reducible refine dS hd0 ?_ ?_);(assumption))
  |((with_reducible refine dw hd0 ?_ ?_);(assumption))
  |with_reducible refine BrI.intro (λh=>?_) (λh=>?_)
  |((with_reducible refine aN.mk 0 ?_);have hz:l.length=m.length:=(by simp at h;omega);have hk0:(l.zip m).length=(l.map SQ).length:=(by rw[bT hz,List.length_map]);have hlz:(l.zip m).length<=9223372036854775807:=(by rw[bT hz];exact hlen);refine⟨bQ (l.zip m) 5 (λ(_:Unit)=>[]) (λ(_:Unit)=>[]) [0,1] (λi0 r0 _=>Dj l m=r0.all YM),?_⟩;with_reducible refine ay () ?_ ?_ (λi0 (_:Unit) hd0 hI0=>?_) (λi0 x0 r0 (_:Unit) hd0 hl0 hI0=>?_))
  |(with_reducible refine au hd0 () ?_ ?_)
  |((with_reducible refine bf ?_ ?_ ?_ ?_ ?_);exact rfl;exact rfl;rotate_left;(first |with_reducible exact fB hd0 |with_reducible exact fC hd0))
  |((with_reducible refine aH ?_ ?_);kernel_rfl)
  |((with_reducible refine ai ?_);refine⟨[],rfl,?_,trivial⟩;conv=>whnf)
  |(with_reducible refine And.intro ?_ ?_)
  |exact @rfl AV _
  |fail)
 all_goals(try simp only[Bool.cond_true_left,Bool.cond_false_right,Bool.cond_false_left,Bool.cond_true_right,Bool.not_eq_true',Bool.not_eq_false',bne,Ex.css_len,List.length_map,Int.toNat_zero]at *)
 all_goals first
  |(rw[hI0];(try simp only[YM,Bool.not_true,Bool.not_false,Bool.and_true,Bool.true_and,Bool.and_false,Bool.false_and,Bool.or_true,Bool.true_or,Bool.or_false,Bool.false_or,if_true,if_false,reduceIte,Bool.false_eq_true,Bool.not_not,Bool.not_eq_true',beq_self_eq_true,List.all_cons,List.all_nil,List.any_cons,List.any_nil,List.length_map,bne,eq_self,Int.toNat_zero, *]);first |done |rfl)
  |(simp only[Dj,lenE,Bool.not_true,Bool.not_false,Bool.and_true,Bool.true_and,Bool.and_false,Bool.false_and,Bool.or_true,Bool.true_or,Bool.or_false,Bool.false_or,if_true,if_false,reduceIte,Bool.false_eq_true,Bool.not_not,Bool.not_eq_true',beq_self_eq_true,List.all_cons,List.all_nil,List.any_cons,List.any_nil,List.length_map,bne,eq_self,Int.toNat_zero, *];done)
  |skip
theorem zX(a b:Ex)  : aB Tryz.prog 82 [a.d,b.d] (.ret (.b (dN a b))):=by
 revert b;revert a;refine Ex.ind λa ih b=>?_
 refine ag tok hmix ⟨[],[]⟩ Tryz.func82 rfl (by kernel_rfl) (by kernel_rfl) (by kernel_rfl) λhf=>?_
 have hlen:=Ex.fits (hf a.d (by simp))
 clear hf
 repeat' ((try(conv=>whnf))<;>first
  |with_reducible exact trivial
  |with_reducible exact aT hd0 ‹_›
  |((with_reducible refine dS hd0 ?_ ?_);(assumption))
  |((with_reducible refine dw hd0 ?_ ?_);(assumption))
  |with_reducible refine BrI.intro (λh=>?_) (λh=>?_)
  |((with_reducible refine aN.mk 0 ?_);have hz:a.l.length=b.l.length:=(by simp[Ex.css_len]at h;omega);have hk0:(a.l.zip b.l).length=(Ex.css a.l).length:=(by rw[bT hz,Ex.css_len]);have hlz:(a.l.zip b.l).length<=9223372036854775807:=(by rw[bT hz];exact hlen);refine⟨bQ (a.l.zip b.l) 5 (λ(_:Unit)=>[]) (λ(_:Unit)=>[]) [2,3] (λi0 r0 _=>dN a b=r0.all λq=>dN q.1 q.2),?_⟩;with_reducible refine ay () ?_ ?_ (λi0 (_:Unit) hd0 hI0=>?_) (λi0 x0 r0 (_:Unit) hd0 hl0 hI0=>?_))
  |(with_reducible refine au hd0 () ?_ ?_)
  |((with_reducible refine ak ?_ ?_ ?_);rotate_left;(exact ih _ (List.of_mem_zip (mg hd0)).1 _))
  |((with_reducible refine bf ?_ ?_ ?_ ?_ ?_);exact rfl;exact rfl;rotate_left;(first |with_reducible exact PT hd0 |with_reducible exact PU hd0))
  |((with_reducible refine bZ ?_ ?_);exact rfl)
  |((with_reducible refine aH ?_ ?_);kernel_rfl)
  |((with_reducible refine ai ?_);refine⟨[],rfl,?_,trivial⟩;conv=>whnf)
  |(with_reducible refine And.intro ?_ ?_)
  |exact @rfl AV _
  |fail)
 all_goals(try simp only[Bool.cond_true_left,Bool.cond_false_right,Bool.cond_false_left,Bool.cond_true_right,Bool.not_eq_true',Bool.not_eq_false',bne,Ex.css_len,List.length_map,Int.toNat_zero]at *)
 all_goals first
  |(rw[hI0];(try simp only[List.all_cons,Bool.not_true,Bool.not_false,Bool.and_true,Bool.true_and,Bool.and_false,Bool.false_and,Bool.or_true,Bool.true_or,Bool.or_false,Bool.false_or,if_true,if_false,reduceIte,Bool.false_eq_true,Bool.not_not,Bool.not_eq_true',beq_self_eq_true,List.all_cons,List.all_nil,List.any_cons,List.any_nil,List.length_map,bne,eq_self,Int.toNat_zero, *]);first |done |rfl)
  |(simp only[mf,Bool.not_true,Bool.not_false,Bool.and_true,Bool.true_and,Bool.and_false,Bool.false_and,Bool.or_true,Bool.true_or,Bool.or_false,Bool.false_or,if_true,if_false,reduceIte,Bool.false_eq_true,Bool.not_not,Bool.not_eq_true',beq_self_eq_true,List.all_cons,List.all_nil,List.any_cons,List.any_nil,List.length_map,bne,eq_self,Int.toNat_zero, *];done)
  |((rw[mf,<-tK hz];simp_all;done))
  |skip
theorem jE(l m:List Bd)  : aB Tryz.prog 80 [.sl 3 (l.map Bd.cs),.sl 3 (m.map Bd.cs)] (.ret (.b (dY l m))):=by
 refine ag tok hmix ⟨[],[]⟩ Tryz.func80 rfl (by kernel_rfl) (by kernel_rfl) (by kernel_rfl) λhf=>?_
 have hlen:l.length<=9223372036854775807:=by simpa using(hf (.sl 3 (l.map Bd.cs)) (by simp)).sl.1
 clear hf
 repeat' ((try(conv=>whnf))<;>first
  |with_reducible exact trivial
  |with_reducible exact aT hd0 ‹_›
  |((with_reducible refine dS hd0 ?_ ?_);(assumption))
  |((with_reducible refine dw hd0 ?_ ?_);(assumption))
  |with_reducible refine BrI.intro (λh=>?_) (λh=>?_)
  |((with_reducible refine aN.mk 0 ?_);have hz:l.length=m.length:=(by simp at h;omega);have hk0:(l.zip m).length=(l.map Bd.cs).length:=(by rw[bT hz,List.length_map]);have hlz:(l.zip m).length<=9223372036854775807:=(by rw[bT hz];exact hlen);refine⟨bQ (l.zip m) 5 (λ(_:Unit)=>[]) (λ(_:Unit)=>[]) [0,1] (λi0 r0 _=>dY l m=r0.all wu),?_⟩;with_reducible refine ay () ?_ ?_ (λi0 (_:Unit) hd0 hI0=>?_) (λi0 x0 r0 (_:Unit) hd0 hl0 hI0=>?_))
  |(with_reducible refine au hd0 () ?_ ?_)
  |((with_reducible refine mi ?_ ?_ ?_);exact rfl;exact rfl)
  |((with_reducible refine bf ?_ ?_ ?_ ?_ ?_);exact rfl;exact rfl;rotate_left;(first |with_reducible exact fB hd0 |with_reducible exact fC hd0))
  |((with_reducible refine bZ ?_ ?_);exact rfl)
  |((with_reducible refine aH ?_ ?_);kernel_rfl)
  |((with_reducible refine ai ?_);refine⟨[],rfl,?_,trivial⟩;conv=>whnf)
  |(with_reducible refine And.intro ?_ ?_)
  |exact @rfl AV _
  |fail)
 all_goals(try simp only[Bool.cond_true_left,Bool.cond_false_right,Bool.cond_false_left,Bool.cond_true_right,Bool.not_eq_true',Bool.not_eq_false',bne,Ex.css_len,List.length_map,Int.toNat_zero]at *)
 all_goals first
  |(rw[hI0];(try simp only[wu,Bool.not_true,Bool.not_false,Bool.and_true,Bool.true_and,Bool.and_false,Bool.false_and,Bool.or_true,Bool.true_or,Bool.or_false,Bool.false_or,if_true,if_false,reduceIte,Bool.false_eq_true,Bool.not_not,Bool.not_eq_true',beq_self_eq_true,List.all_cons,List.all_nil,List.any_cons,List.any_nil,List.length_map,bne,eq_self,Int.toNat_zero, *]);first |done |rfl)
  |(simp only[dY,Bool.not_true,Bool.not_false,Bool.and_true,Bool.true_and,Bool.and_false,Bool.false_and,Bool.or_true,Bool.true_or,Bool.or_false,Bool.false_or,if_true,if_false,reduceIte,Bool.false_eq_true,Bool.not_not,Bool.not_eq_true',beq_self_eq_true,List.all_cons,List.all_nil,List.any_cons,List.any_nil,List.length_map,bne,eq_self,Int.toNat_zero, *];done)
  |skip
theorem Vd(a b:Pr)(hE:wI a b=true):aB Tryz.prog 33 [a.d,b.d] (.ret (.b false)):=by
 refine ag tok hmix ⟨[],[]⟩ Tryz.func33 rfl (by kernel_rfl) (by kernel_rfl) (by kernel_rfl) λhf=>?_
 clear hf
 repeat' ((try(conv=>whnf))<;>first
  |(exact Bool.noConfusion (show true=false from hE.symm.trans h))
  |refine BrI.intro (λh=>?_) (λh=>?_)
  |((refine ak ?_ ?_ ?_);rotate_left;(exact jE _ _))
  |((refine aQ ?_ ?_ (λhg=>?_) ?_);exact rfl)
  |((refine bK ?_ ?_);exact rfl;exact rfl)
  |((refine ai ?_);refine⟨[],rfl,?_,trivial⟩;conv=>whnf)
  |fail)
 all_goals first
  |skip
theorem Ve(a b:Pr)(hE:wI a b=false)(hE2:zi a b=true):aB Tryz.prog 33 [a.d,b.d] (.ret (.b false)):=by
 refine ag tok hmix ⟨[],[]⟩ Tryz.func33 rfl (by kernel_rfl) (by kernel_rfl) (by kernel_rfl) λhf=>?_
 clear hf
 repeat' ((try(conv=>whnf))<;>first
  |(exact Bool.noConfusion ((show true=false from hE2.symm.trans h)))
  |refine BrI.intro (λh=>?_) (λh=>?_)
  |(exact Bool.noConfusion (hE.symm.trans h))
  |((refine ak ?_ ?_ ?_);rotate_left;(exact jE _ _))
  |((refine aQ ?_ ?_ (λhg=>?_) ?_);exact rfl)
  |((refine bK ?_ ?_);exact rfl;exact rfl)
  |((refine ai ?_);refine⟨[],rfl,?_,trivial⟩;conv=>whnf)
  |fail)
 all_goals first
  |skip
theorem Vf(a b:Pr)(hE:wI a b=false)(hE2:zi a b=false)(hz0:a.lines.length=b.lines.length)(hz2:a.tables.length=b.tables.length)(hz4:a.stmts.length=b.stmts.length):aB Tryz.prog 33 [a.d,b.d] (.ret (.b ((a.lines.zip b.lines).all jZ&&((a.tables.zip b.tables).all tbE&&(a.stmts.zip b.stmts).all smE)))):=by
 refine ag tok hmix ⟨[],[]⟩ Tryz.func33 rfl (by kernel_rfl) (by kernel_rfl) (by kernel_rfl) λhf=>?_
 have hq:=Pr.fits (hf a.d (by simp))
 have hl0:(a.lines.zip b.lines).length<=9223372036854775807:=by rw[bT hz0];exact hq.lines
 have hl2:(a.tables.zip b.tables).length<=9223372036854775807:=by rw[bT hz2];exact hq.tables
 have hl4:(a.stmts.zip b.stmts).length<=9223372036854775807:=by rw[bT hz4];exact hq.stmts
 have hk0:(a.lines.zip b.lines).length=(a.lines.map Ln.cs).length:=by rw[bT hz0,List.length_map]
 have hk2:(a.tables.zip b.tables).length=(a.tables.map Tb.cs).length:=by rw[bT hz2,List.length_map]
 have hk4:(a.stmts.zip b.stmts).length=(a.stmts.map Sm.cs).length:=by rw[bT hz4,List.length_map]
 clear hf
 repeat' ((try(conv=>whnf))<;>first
  |exact trivial
  |exact aT hd4 ‹_›
  |exact aT hd2 ‹_›
  |exact aT hd0 ‹_›
  |((refine dS hd4 ?_ ?_);(assumption))
  |((refine dS hd2 ?_ ?_);(assumption))
  |((refine dS hd0 ?_ ?_);(assumption))
  |((refine dw hd4 ?_ ?_);(assumption))
  |((refine dw hd2 ?_ ?_);(assumption))
  |((refine dw hd0 ?_ ?_);(assumption))
  |refine BrI.intro (λh=>?_) (λh=>?_)
  |(exact Bool.noConfusion (hE.symm.trans h))
  |(exact Bool.noConfusion (hE2.symm.trans h))
  |((refine mi ?_ ?_ ?_);exact rfl;exact rfl)
  |((refine aN.mk 0 ?_);refine⟨bQ (a.lines.zip b.lines) 5 (λ(_:Unit)=>[]) (λ(_:Unit)=>[]) [2,3] (λi0 r0 _=>(a.lines.zip b.lines).all jZ=r0.all jZ),?_⟩;refine ay () ?_ ?_ (λi0 (_:Unit) hd0 hI0=>?_) (λi0 x0 r0 (_:Unit) hd0 hl0 hI0=>?_))
  |(refine au hd0 () ?_ ?_)
  |((refine aN.mk 2 ?_);refine⟨bQ (a.tables.zip b.tables) 6 (λ(_:Unit)=>[]) (λ(_:Unit)=>[]) [2,3] (λi2 r2 _=>(a.lines.zip b.lines).all jZ=true/\(a.tables.zip b.tables).all tbE=r2.all tbE),?_⟩;refine ay () ?_ ?_ (λi2 (_:Unit) hd2 hI2=>?_) (λi2 x2 r2 (_:Unit) hd2 hl2 hI2=>?_))
  |(refine au hd2 () ?_ ?_)
  |((refine aN.mk 4 ?_);refine⟨bQ (a.stmts.zip b.stmts) 7 (λ(_:Unit)=>[]) (λ(_:Unit)=>[]) [2,3] (λi4 r4 _=>(a.lines.zip b.lines).all jZ=true/\(a.tables.zip b.tables).all tbE=true/\(a.stmts.zip b.stmts).all smE=r4.all smE),?_⟩;refine ay () ?_ ?_ (λi4 (_:Unit) hd4 hI4=>?_) (λi4 x4 r4 (_:Unit) hd4 hl4 hI4=>?_))
  |(refine au hd4 () ?_ ?_)
  |((refine ak ?_ ?_ ?_);rotate_left;(first |exact jE _ _ |exact Nv _ _ |exact zX _ _))
  |((refine bf ?_ ?_ ?_ ?_ ?_);exact rfl;exact rfl;rotate_left;(first |exact fB hd4 |exact fC hd4 |exact fB hd2 |exact fC hd2 |exact fB hd0 |exact fC hd0))
  |((refine bZ ?_ ?_);exact rfl)
  |((refine aQ ?_ ?_ (λhg=>?_) ?_);exact rfl)
  |((refine ku ?_ ?_ (λhg=>?_) ?_);exact rfl)
  |((refine bK ?_ ?_);exact rfl;exact rfl)
  |((refine aH ?_ ?_);kernel_rfl)
  |((refine ai ?_);refine⟨[],rfl,?_,trivial⟩;conv=>whnf)
  |(refine And.intro ?_ ?_)
  |exact @rfl AV _
  |fail)
 all_goals first
  |((refine congrArg D.b ?_;rw[QL hI0 (z6f h)];rfl))
  |((exact H5 hI0 (z2x h)))
  |((exact hI0))
  |((refine congrArg D.b ?_;rw[hI2.1,QL hI2.2 (by have:=(JX x2).symm.trans h;simpa using this)];rfl))
  |((exact H5 hI2.2 (by have:=(JX x2).symm.trans h;simpa using this)))
  |((exact hI2.2))
  |((refine congrArg D.b ?_;rw[hI4.1,hI4.2.1,QL hI4.2.2 (by have:=(JW x4).symm.trans h;simpa using this)];rfl))
  |((exact H5 hI4.2.2 (by have:=(JW x4).symm.trans h;simpa using this)))
  |((refine congrArg D.b ?_;rw[hI4.1,hI4.2.1,hI4.2.2];rfl))
  |skip
theorem Ny(a b:Pr):aB Tryz.prog 33 [a.d,b.d] (.ret (.b (fK a b))):=by
 cases h1:wI a b with
 |true=>rw[YS h1];exact Vd a b h1
 |false=>
  cases h2:zi a b with
  |true=>rw[YT h2];exact Ve a b h1 h2
  |false=>
   obtain⟨e,z0,z2,z4⟩:=QK h1 h2
   rw[e];exact Vf a b h1 h2 z0 z2 z4
theorem mQ(l m:List Pr)  : aB Tryz.prog 12 [prs l,prs m] (.ret (.b (lenE (λq=>fK q.1 q.2) l m))):=by
 refine ag tok hmix ⟨[],[]⟩ Tryz.func12 rfl (by kernel_rfl) (by kernel_rfl) (by kernel_rfl) λhf=>?_
 have hlen:l.length<=9223372036854775807:=by simpa using(hf (prs l) (by simp)).sl.1
 clear hf
 repeat' ((try(conv=>whnf))<;>first
  |with_reducible exact trivial
  |with_reducible exact aT hd0 ‹_›
  |((with_reducible refine dS hd0 ?_ ?_);(assumption))
  |((with_reducible refine dw hd0 ?_ ?_);(assumption))
  |with_reducible refine BrI.intro (λh=>?_) (λh=>?_)
  |((with_reducible refine aN.mk 0 ?_);have hz:l.length=m.length:=(by simp at h;omega);have hk0:(l.zip m).length=(l.map Pr.cs).length:=(by rw[bT hz,List.length_map]);have hlz:(l.zip m).length<=9223372036854775807:=(by rw[bT hz];exact hlen);refine⟨bQ (l.zip m) 5 (λ(_:Unit)=>[]) (λ(_:Unit)=>[]) [0,1] (λi0 r0 _=>lenE (λq=>fK q.1 q.2) l m=r0.all λq=>fK q.1 q.2),?_⟩;with_reducible refine ay () ?_ ?_ (λi0 (_:Unit) hd0 hI0=>?_) (λi0 x0 r0 (_:Unit) hd0 hl0 hI0=>?_))
  |(with_reducible refine au hd0 () ?_ ?_)
  |((with_reducible refine ak ?_ ?_ ?_);rotate_left;(exact Ny _ _))
  |((with_reducible refine bf ?_ ?_ ?_ ?_ ?_);exact rfl;exact rfl;rotate_left;(first |with_reducible exact fB hd0 |with_reducible exact fC hd0))
  |((with_reducible refine bZ ?_ ?_);exact rfl)
  |((with_reducible refine aH ?_ ?_);kernel_rfl)
  |((with_reducible refine ai ?_);refine⟨[],rfl,?_,trivial⟩;conv=>whnf)
  |(with_reducible refine And.intro ?_ ?_)
  |exact @rfl AV _
  |fail)
 all_goals(try simp only[Bool.cond_true_left,Bool.cond_false_right,Bool.cond_false_left,Bool.cond_true_right,Bool.not_eq_true',Bool.not_eq_false',bne,Ex.css_len,List.length_map,Int.toNat_zero]at *)
 all_goals first
  |(rw[hI0];(try simp only[List.all_cons,Bool.not_true,Bool.not_false,Bool.and_true,Bool.true_and,Bool.and_false,Bool.false_and,Bool.or_true,Bool.true_or,Bool.or_false,Bool.false_or,if_true,if_false,reduceIte,Bool.false_eq_true,Bool.not_not,Bool.not_eq_true',beq_self_eq_true,List.all_cons,List.all_nil,List.any_cons,List.any_nil,List.length_map,bne,eq_self,Int.toNat_zero, *]);first |done |rfl)
  |(simp only[lenE,Bool.not_true,Bool.not_false,Bool.and_true,Bool.true_and,Bool.and_false,Bool.false_and,Bool.or_true,Bool.true_or,Bool.or_false,Bool.false_or,if_true,if_false,reduceIte,Bool.false_eq_true,Bool.not_not,Bool.not_eq_true',beq_self_eq_true,List.all_cons,List.all_nil,List.any_cons,List.any_nil,List.length_map,bne,eq_self,Int.toNat_zero, *];done)
  |skip
theorem Dt(x:Ex)(hx:nodes x<=1073741824):aB Tryz.prog 79 [x.d] (.ret (zQ x).d):=by
 revert x;refine Ex.ind λx ih hx=>?_
 refine ag tok hmix ⟨[],[]⟩ Tryz.func79 rfl (by kernel_rfl) (by kernel_rfl) (by kernel_rfl) λhf=>?_
 have hlen:=Ex.fits (hf x.d (by simp))
 have hN:=Jt x
 have hL:=EH x.l
 clear hf
 repeat' ((try(conv=>whnf))<;>first
  |exact trivial
  |exact aT hd1 ‹_›
  |refine BrI.tt ?_
  |refine Ug hd1 ?_
  |refine PR hd1 ?_
  |refine BrI.intro (λh=>?_) (λh=>?_)
  |((refine aN.mk 1 ?_);refine⟨bQ (x.l) 19 (λ(q:(Int)×(List Ex))=>match q with |(k,out)=>[]) (λ(q:(Int)×(List Ex))=>match q with |(k,out)=>[(1,.cells [.data (.i k),.data (.str x.name),.data (.i 0),.data (.i x.n),.gs 900001 5 (out.map Ex.cs)]),(900001,.tok 5 (out.map Ex.cs).length)]) [1,2,17,18] (λi1 r1 q=>match q with |(k,out)=>(zU x.kind=k/\x.l.map zQ=out++r1.map zQ)/\out.length=i1/\wo r1<=1073741824),?_⟩;refine ay (?_,([])) ?_ ?_ (λi1 ⟨k,out⟩ hd1 hI1=>?_) (λi1 x1 r1 ⟨k,out⟩ hd1 hl1 hI1=>?_))
  |(refine au hd1 (?_,(out++[zQ x1])) ?_ ?_)
  |((refine ak ?_ ?_ ?_);rotate_left;(exact ih _ (mg hd1) (by have:=hI1.2.2;simp only[wo]at this;omega)))
  |(refine aF.l _ ?_)
  |((refine dD ?_ ?_ ?_ ?_ ?_ ?_)<;>exact rfl)
  |((refine dO ?_ ?_ ?_ ?_)<;>exact rfl)
  |((refine bf ?_ ?_ ?_ ?_ ?_);exact rfl;exact rfl;rotate_left;(exact Me hd1))
  |((refine bZ ?_ ?_);exact rfl)
  |((refine app_step' ?_ ?_ ?_ ?_ ?_ ?_ ?_);exact rfl;exact rfl;exact rfl;exact rfl)
  |((refine aH ?_ ?_);kernel_rfl)
  |((refine ai ?_);refine⟨[],rfl,?_,trivial⟩;conv=>whnf)
  |(refine And.intro ?_ ?_)
  |((refine vw ?_ ?_ ?_);exact rfl;exact rfl;(first |exact dA |skip))
  |((refine gq ?_ ?_);exact rfl;(first |exact dA |skip))
  |exact @rfl AV _
  |exact gu rfl
  |fail)
 all_goals first
  |(rfl)
  |((exact YU h))
  |((exact YV h))
  |((exact YW h))
  |((exact YX ‹_› ‹_› h))
  |(omega)
  |((rw[U1,hI1.1.1,hI1.1.2];simp only[List.map_nil,List.append_nil,Ex.css_map];rfl))
  |((rw[hI1.1.2];simp only[List.map_cons,List.append_assoc,List.cons_append,List.nil_append];done))
  |((simp only[List.length_append,List.length_cons,List.length_nil];omega))
  |((have:=hI1.2.2;simp only[wo]at this;omega))
  |((have:=hI1.2.1;simp only[List.length_map];omega))
  |skip
theorem Nz(l:List Sm)(hl:l.length<=1073741824):aA Tryz.prog 78 [.data (.sl 8 (l.map Sm.cs))] [] (.ret (.own 1000000 1 8 0 l.length)) [(1000000,.arr 1 8 (l.map Sm.cs))]:=by
 refine ah tok hmix ⟨[],[]⟩ Tryz.func78 rfl (by kernel_rfl) (by kernel_rfl) (by kernel_rfl) λhf=>?_
 clear hf
 repeat' ((try(conv=>whnf))<;>first
  |(refine aF.r 5 ?_)
  |(obtain rfl:l = []:=(List.length_eq_zero_iff.1 (by simpa using hz));clear hz;refine U2 [(2,.own 5 1 8 0 0)] [(5,.arr 1 8 [])] ?_ ?_)
  |exact trivial
  |refine BrI.tt ?_
  |refine BrI.ff ?_
  |(refine TS.mk (λhz=>?_) ?_)
  |((refine EK ?_ ?_ ?_ ?_ ?_ ?_ ?_ ?_);exact rfl;exact rfl;exact rfl;exact gu rfl;exact rfl;(exact Nat.zero_le _);(rw[List.length_map];exact hl))
  |(refine fin_step' [(1000000,5)] rfl ?_ ?_)
  |(exact Y0 rfl ((Nat.zero_add _).trans (List.length_map _)))
  |(exact U3 rfl)
  |((refine ai ?_);refine fin_step' [(1000000,5)] rfl ?_ ?_)
  |((refine dO ?_ ?_ ?_ ?_)<;>exact rfl)
  |(refine And.intro ?_ ?_)
  |exact @rfl AV _
  |exact @rfl Block _
  |fail)
 all_goals first
  |(rfl)
  |skip
theorem Q8(p:Pr)(hl:p.stmts.length<=1073741823)(hn:∀s∈p.stmts,nodes s.x<=1073741824):aB Tryz.prog 32 [p.d] (.ret (EU p).d):=by
 refine ag tok hmix ⟨[7],[]⟩ Tryz.func32 rfl (by kernel_rfl) (by kernel_rfl) (by kernel_rfl) λhf=>?_
 have hlen:p.stmts.length<=9223372036854775807:=by omega
 have hle:p.stmts.length<=1073741824:=by omega
 clear hf
 repeat' ((try(conv=>whnf))<;>first
  |with_reducible exact trivial
  |with_reducible exact aT hd0 ‹_›
  |((with_reducible refine dS hd0 ?_ ?_);(exact rfl))
  |((with_reducible refine dw hd0 ?_ ?_);(exact rfl))
  |((with_reducible refine ww ?_ ?_ ?_ ?_ ?_);exact rfl;exact rfl;exact rfl)
  |((with_reducible refine EJ ?_ ?_ ?_ ?_ ?_);exact rfl;exact rfl;rotate_left;exact WO hI0)
  |((with_reducible refine qx ?_ ?_ ?_ ?_ ?_ ?_ ?_ ?_ ?_);exact rfl;exact rfl;exact rfl;exact rfl;exact gu rfl;exact rfl;rotate_left;(first |exact WO hI0 |exact YY hI0))
  |((with_reducible refine aN.mk 7 ?_);refine⟨⟨Unit,λ_=>[],λ_=>[(1,.cells [.data (.str p.name),.data (.i p.latency),.data (.i p.tail),.data (.sl 3 (p.params.map Bd.cs)),.data (.sl 3 (p.states.map Bd.cs)),.data (.sl 4 (p.lines.map Ln.cs)),.data (.sl 2 (p.tables.map Tb.cs)),.data (.sl 8 ((p.stmts.map UF).map Sm.cs))])],[1,2],λ_=>True,λ_=>0⟩,?_,λ_ _=>?_⟩)
  |(refine⟨(),trivial,?_⟩)
  |((with_reducible refine aN.mk 0 ?_);refine⟨bQ (p.stmts) 12 (λ(q:(List Sm)×(List Sm))=>match q with |(dn,rs)=>[]) (λ(q:(List Sm)×(List Sm))=>match q with |(dn,rs)=>[(800000,.arr 1 8 (dn.map smb++rs.map Sm.cs))]) [1,2,10,11] (λi0 r0 q=>match q with |(dn,rs)=>BI p dn rs r0 i0),?_⟩;with_reducible refine ay (([]),(p.stmts)) ?_ ?_ (λi0 ⟨dn,rs⟩ hd0 hI0=>?_) (λi0 x0 r0 ⟨dn,rs⟩ hd0 hl0 hI0=>?_))
  |(with_reducible refine au hd0 ((dn++[x0]),(r0)) ?_ ?_)
  |((with_reducible refine ak ?_ ?_ ?_);rotate_left;(exact Dt _ (hn _ (mg hd0))))
  |((with_reducible refine tN [(1000000,800000)] (Nz p.stmts hle) ?_ ?_ ?_ ?_);rotate_left 0;exact rfl;(exact trivial);exact rfl)
  |((with_reducible refine aH ?_ ?_);kernel_rfl)
  |((with_reducible refine ai ?_);refine⟨[],rfl,?_,trivial⟩;conv=>whnf)
  |(with_reducible refine And.intro ?_ ?_)
  |exact @rfl AV _
  |exact @rfl Block _
  |fail)
 all_goals first
  |(rfl)
  |((exact⟨rfl,rfl,rfl⟩))
  |((exact(WP hI0).1))
  |((have:=(WP hI0).2;rw[Nat.zero_add]at this;exact this))
  |((exact Int.natCast_nonneg _))
  |((exact z6g hl0))
  |((exact YZ hI0))
  |((refine congrArg (Block.arr 1 8) (z2y hI0 ?_);rfl))
  |skip
theorem Ij(a b:Pr)(hl:b.stmts.length<=1073741823)(hn:∀s∈b.stmts,nodes s.x<=1073741824):aB Tryz.prog 31 [a.d,b.d] (.ret (.b (fK a (EU b)))):=by
 refine ag tok hmix ⟨[],[]⟩ Tryz.func31 rfl (by kernel_rfl) (by kernel_rfl) (by kernel_rfl) λhf=>?_
 clear hf
 repeat' ((try(conv=>whnf))<;>first
  |((refine ak ?_ ?_ ?_);rotate_left;(first |exact vM _ _ |exact Q8 b hl hn))
  |((refine aH ?_ ?_);kernel_rfl)
  |((refine ai ?_);refine⟨[],rfl,?_,trivial⟩;conv=>whnf)
  |fail)
theorem Bv(l m:List Pr)(hs:∀p∈m,p.stmts.length<=1073741823)(hn:∀p∈m,∀s∈p.stmts,nodes s.x<=1073741824):aB Tryz.prog 30 [prs l,prs m,.fn 31 []] (.ret (.b (lenE (λq=>fK q.1 (EU q.2)) l m))):=by
 refine ag tok hmix ⟨[],[]⟩ Tryz.func30 rfl (by kernel_rfl) (by kernel_rfl) (by kernel_rfl) λhf=>?_
 have hlen:l.length<=9223372036854775807:=by simpa using(hf (prs l) (by simp)).sl.1
 clear hf
 repeat' ((try(conv=>whnf))<;>first
  |with_reducible exact trivial
  |with_reducible exact aT hd0 ‹_›
  |((with_reducible refine dS hd0 ?_ ?_);(assumption))
  |((with_reducible refine dw hd0 ?_ ?_);(assumption))
  |with_reducible refine BrI.intro (λh=>?_) (λh=>?_)
  |((with_reducible refine aN.mk 0 ?_);have hz:l.length=m.length:=(by simp at h;omega);have hk0:(l.zip m).length=(l.map Pr.cs).length:=(by rw[bT hz,List.length_map]);have hlz:(l.zip m).length<=9223372036854775807:=(by rw[bT hz];exact hlen);refine⟨bQ (l.zip m) 17 (λ(_:Unit)=>[]) (λ(_:Unit)=>[]) [1,2,15,16] (λi0 r0 _=>lenE (λq=>fK q.1 (EU q.2)) l m=r0.all λq=>fK q.1 (EU q.2)),?_⟩;with_reducible refine ay () ?_ ?_ (λi0 (_:Unit) hd0 hI0=>?_) (λi0 x0 r0 (_:Unit) hd0 hl0 hI0=>?_))
  |(with_reducible refine au hd0 () ?_ ?_)
  |((with_reducible refine ak ?_ ?_ ?_);rotate_left;(exact Ij _ _ (hs _ (List.of_mem_zip (mg hd0)).2) (hn _ (List.of_mem_zip (mg hd0)).2)))
  |((with_reducible refine bf ?_ ?_ ?_ ?_ ?_);exact rfl;exact rfl;rotate_left;(first |with_reducible exact fB hd0 |with_reducible exact fC hd0))
  |((with_reducible refine bZ ?_ ?_);exact rfl)
  |((with_reducible refine ai ?_);refine⟨[],rfl,?_,trivial⟩;conv=>whnf)
  |(with_reducible refine And.intro ?_ ?_)
  |exact @rfl AV _
  |fail)
 all_goals(try simp only[Bool.cond_true_left,Bool.cond_false_right,Bool.cond_false_left,Bool.cond_true_right,Bool.not_eq_true',Bool.not_eq_false',bne,Ex.css_len,List.length_map,Int.toNat_zero]at *)
 all_goals first
  |(rw[hI0];(try simp only[List.all_cons,Bool.not_true,Bool.not_false,Bool.and_true,Bool.true_and,Bool.and_false,Bool.false_and,Bool.or_true,Bool.true_or,Bool.or_false,Bool.false_or,if_true,if_false,reduceIte,Bool.false_eq_true,Bool.not_not,Bool.not_eq_true',beq_self_eq_true,List.all_cons,List.all_nil,List.any_cons,List.any_nil,List.length_map,bne,eq_self,Int.toNat_zero, *]);first |done |rfl)
  |(simp only[lenE,Bool.not_true,Bool.not_false,Bool.and_true,Bool.true_and,Bool.and_false,Bool.false_and,Bool.or_true,Bool.true_or,Bool.or_false,Bool.false_or,if_true,if_false,reduceIte,Bool.false_eq_true,Bool.not_not,Bool.not_eq_true',beq_self_eq_true,List.all_cons,List.all_nil,List.any_cons,List.any_nil,List.length_map,bne,eq_self,Int.toNat_zero, *];done)
  |skip
end Go.Proofs.YtmfehangcmbidaaGreatDoor
