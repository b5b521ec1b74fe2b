/- Contracts: package syntax and its reference: equality of processors. -/
import Derived.Test.YtmfehangcmbidaaGreatDoorZDS
set_option linter.unusedSectionVars false
set_option linter.unusedSimpArgs false
set_option linter.unusedVariables false
set_option maxHeartbeats 8000000
namespace Go.Proofs.YtmfehangcmbidaaGreatDoor
open Go.Fw Go.Fw.Ref15 Go.Fw.Sy
set_option maxRecDepth 10000
variable [ae]
theorem Jm(l m:List Int)  : aA Tryz.prog 64 [ints l,ints m] (.ret (.b (Eg l m))):=by
 refine af tok hmix ⟨[],[]⟩ Tryz.func64 rfl (by kernel_rfl) (by kernel_rfl) (by kernel_rfl) λhf=>?_
 have hlen:l.length<=9223372036854775807:=by simpa using(hf (ints l) (by simp)).sl.1
 clear hf
 repeat' ((try(conv=>whnf))<;>first
  |with_reducible exact trivial
  |with_reducible exact aK hd0 ‹_›
  |((with_reducible refine eP hd0 ?_ ?_);(assumption))
  |((with_reducible refine dK hd0 ?_ ?_);(assumption))
  |with_reducible refine BrI.intro (λh=>?_) (λh=>?_)
  |((with_reducible refine aN.mk 0 ?_);have hz:l.length=m.length:=(by simp at h;omega);have hk0:(l.zip m).length=(l.map Uw).length:=(by rw[bY hz,List.length_map]);have hlz:(l.zip m).length<=9223372036854775807:=(by rw[bY hz];exact hlen);refine⟨bn (l.zip m) 13 (λ(_:Unit)=>[]) (λ(_:Unit)=>[]) [0,1,12] (λi0 r0 _=>Eg l m=r0.all Z4),?_⟩;with_reducible refine au () ?_ ?_ (λi0 (_:Unit) hd0 hI0=>?_) (λi0 x0 r0 (_:Unit) hd0 hl0 hI0=>?_))
  |(with_reducible refine ak hd0 () ?_ ?_)
  |((with_reducible refine aU ?_ ?_ ?_ ?_ ?_);exact rfl;exact rfl;rotate_left;(first |with_reducible exact fV hd0 |with_reducible exact fZ hd0))
  |((with_reducible refine aI ?_ ?_);kernel_rfl)
  |((with_reducible refine ai ?_);refine⟨[],rfl,?_,trivial⟩;conv=>whnf)
  |(with_reducible refine And.intro ?_ ?_)
  |exact @rfl AV _
  |fail)
 all_goals(try simp only[Bool.cond_true_left,Bool.cond_false_right,Bool.cond_false_left,Bool.cond_true_right,Bool.not_eq_true',Bool.not_eq_false',bne,Ex.css_len,List.length_map,Int.toNat_zero]at *)
 all_goals first
  |(rw[hI0];(try simp only[Z4,Bool.not_true,Bool.not_false,Bool.and_true,Bool.true_and,Bool.and_false,Bool.false_and,Bool.or_true,Bool.true_or,Bool.or_false,Bool.false_or,if_true,if_false,reduceIte,Bool.false_eq_true,Bool.not_not,Bool.not_eq_true',beq_self_eq_true,List.all_cons,List.all_nil,List.any_cons,List.any_nil,List.length_map,bne,eq_self,Int.toNat_zero, *]);first |done |rfl)
  |(simp only[Eg,lenE,Bool.not_true,Bool.not_false,Bool.and_true,Bool.true_and,Bool.and_false,Bool.false_and,Bool.or_true,Bool.true_or,Bool.or_false,Bool.false_or,if_true,if_false,reduceIte,Bool.false_eq_true,Bool.not_not,Bool.not_eq_true',beq_self_eq_true,List.all_cons,List.all_nil,List.any_cons,List.any_nil,List.length_map,bne,eq_self,Int.toNat_zero, *];done)
  |skip
theorem OG(l m:List Bd)  : aA Tryz.prog 67 [.sl 3 (l.map Bd.cs),.sl 3 (m.map Bd.cs)] (.ret (.b (eY l m))):=by
 refine af tok hmix ⟨[],[]⟩ Tryz.func67 rfl (by kernel_rfl) (by kernel_rfl) (by kernel_rfl) λhf=>?_
 have hlen:l.length<=9223372036854775807:=by simpa using(hf (.sl 3 (l.map Bd.cs)) (by simp)).sl.1
 clear hf
 repeat' ((try(conv=>whnf))<;>first
  |with_reducible exact trivial
  |with_reducible exact aK hd0 ‹_›
  |((with_reducible refine eP hd0 ?_ ?_);(assumption))
  |((with_reducible refine dK hd0 ?_ ?_);(assumption))
  |with_reducible refine BrI.intro (λh=>?_) (λh=>?_)
  |((with_reducible refine aN.mk 0 ?_);have hz:l.length=m.length:=(by simp at h;omega);have hk0:(l.zip m).length=(l.map Bd.cs).length:=(by rw[bY hz,List.length_map]);have hlz:(l.zip m).length<=9223372036854775807:=(by rw[bY hz];exact hlen);refine⟨bn (l.zip m) 13 (λ(_:Unit)=>[]) (λ(_:Unit)=>[]) [0,1,12] (λi0 r0 _=>eY l m=r0.all xu),?_⟩;with_reducible refine au () ?_ ?_ (λi0 (_:Unit) hd0 hI0=>?_) (λi0 x0 r0 (_:Unit) hd0 hl0 hI0=>?_))
  |(with_reducible refine ak hd0 () ?_ ?_)
  |((with_reducible refine ni ?_ ?_ ?_);exact rfl;exact rfl)
  |((with_reducible refine aU ?_ ?_ ?_ ?_ ?_);exact rfl;exact rfl;rotate_left;(first |with_reducible exact fV hd0 |with_reducible exact fZ hd0))
  |((with_reducible refine bg ?_ ?_);exact rfl)
  |((with_reducible refine aI ?_ ?_);kernel_rfl)
  |((with_reducible refine ai ?_);refine⟨[],rfl,?_,trivial⟩;conv=>whnf)
  |(with_reducible refine And.intro ?_ ?_)
  |exact @rfl AV _
  |fail)
 all_goals(try simp only[Bool.cond_true_left,Bool.cond_false_right,Bool.cond_false_left,Bool.cond_true_right,Bool.not_eq_true',Bool.not_eq_false',bne,Ex.css_len,List.length_map,Int.toNat_zero]at *)
 all_goals first
  |(rw[hI0];(try simp only[xu,Bool.not_true,Bool.not_false,Bool.and_true,Bool.true_and,Bool.and_false,Bool.false_and,Bool.or_true,Bool.true_or,Bool.or_false,Bool.false_or,if_true,if_false,reduceIte,Bool.false_eq_true,Bool.not_not,Bool.not_eq_true',beq_self_eq_true,List.all_cons,List.all_nil,List.any_cons,List.any_nil,List.length_map,bne,eq_self,Int.toNat_zero, *]);first |done |rfl)
  |(simp only[eY,Bool.not_true,Bool.not_false,Bool.and_true,Bool.true_and,Bool.and_false,Bool.false_and,Bool.or_true,Bool.true_or,Bool.or_false,Bool.false_or,if_true,if_false,reduceIte,Bool.false_eq_true,Bool.not_not,Bool.not_eq_true',beq_self_eq_true,List.all_cons,List.all_nil,List.any_cons,List.any_nil,List.length_map,bne,eq_self,Int.toNat_zero, *];done)
  |skip
theorem OH(l m:List Ln)  : aA Tryz.prog 68 [.sl 4 (l.map Ln.cs),.sl 4 (m.map Ln.cs)] (.ret (.b (lenE kJ l m))):=by
 refine af tok hmix ⟨[],[]⟩ Tryz.func68 rfl (by kernel_rfl) (by kernel_rfl) (by kernel_rfl) λhf=>?_
 have hlen:l.length<=9223372036854775807:=by simpa using(hf (.sl 4 (l.map Ln.cs)) (by simp)).sl.1
 clear hf
 repeat' ((try(conv=>whnf))<;>first
  |with_reducible exact trivial
  |with_reducible exact aK hd0 ‹_›
  |((with_reducible refine eP hd0 ?_ ?_);(assumption))
  |((with_reducible refine dK hd0 ?_ ?_);(assumption))
  |with_reducible refine BrI.intro (λh=>?_) (λh=>?_)
  |((with_reducible refine aN.mk 0 ?_);have hz:l.length=m.length:=(by simp at h;omega);have hk0:(l.zip m).length=(l.map Ln.cs).length:=(by rw[bY hz,List.length_map]);have hlz:(l.zip m).length<=9223372036854775807:=(by rw[bY hz];exact hlen);refine⟨bn (l.zip m) 13 (λ(_:Unit)=>[]) (λ(_:Unit)=>[]) [0,1,12] (λi0 r0 _=>lenE kJ l m=r0.all kJ),?_⟩;with_reducible refine au () ?_ ?_ (λi0 (_:Unit) hd0 hI0=>?_) (λi0 x0 r0 (_:Unit) hd0 hl0 hI0=>?_))
  |(with_reducible refine ak hd0 () ?_ ?_)
  |((with_reducible refine ni ?_ ?_ ?_);exact rfl;exact rfl)
  |((with_reducible refine aU ?_ ?_ ?_ ?_ ?_);exact rfl;exact rfl;rotate_left;(first |with_reducible exact fV hd0 |with_reducible exact fZ hd0))
  |((with_reducible refine bg ?_ ?_);exact rfl)
  |((with_reducible refine aI ?_ ?_);kernel_rfl)
  |((with_reducible refine ai ?_);refine⟨[],rfl,?_,trivial⟩;conv=>whnf)
  |(with_reducible refine And.intro ?_ ?_)
  |exact @rfl AV _
  |fail)
 all_goals(try simp only[Bool.cond_true_left,Bool.cond_false_right,Bool.cond_false_left,Bool.cond_true_right,Bool.not_eq_true',Bool.not_eq_false',bne,Ex.css_len,List.length_map,Int.toNat_zero]at *)
 all_goals first
  |(rw[hI0];(try simp only[kJ,Bool.not_true,Bool.not_false,Bool.and_true,Bool.true_and,Bool.and_false,Bool.false_and,Bool.or_true,Bool.true_or,Bool.or_false,Bool.false_or,if_true,if_false,reduceIte,Bool.false_eq_true,Bool.not_not,Bool.not_eq_true',beq_self_eq_true,List.all_cons,List.all_nil,List.any_cons,List.any_nil,List.length_map,bne,eq_self,Int.toNat_zero, *]);first |done |rfl)
  |(simp only[lenE,Bool.not_true,Bool.not_false,Bool.and_true,Bool.true_and,Bool.and_false,Bool.false_and,Bool.or_true,Bool.true_or,Bool.or_false,Bool.false_or,if_true,if_false,reduceIte,Bool.false_eq_true,Bool.not_not,Bool.not_eq_true',beq_self_eq_true,List.all_cons,List.all_nil,List.any_cons,List.any_nil,List.length_map,bne,eq_self,Int.toNat_zero, *];done)
  |skip
theorem Wh(a b:Tb)  : aA Tryz.prog 63 [.agg a.cs,.agg b.cs] (.ret (.b (tbE (a,b)))):=by
 refine af tok hmix ⟨[],[]⟩ Tryz.func63 rfl (by kernel_rfl) (by kernel_rfl) (by kernel_rfl) λhf=>?_
 clear hf
 repeat' ((try(conv=>whnf))<;>first
  |((with_reducible refine ax ?_ ?_ ?_);rotate_left;(exact Jm _ _))
  |((with_reducible refine aT ?_ ?_ (λhg=>?_) ?_);exact rfl)
  |((with_reducible refine bQ ?_ ?_);with_reducible exact rfl;with_reducible exact rfl)
  |((with_reducible refine ai ?_);refine⟨[],rfl,?_,trivial⟩;conv=>whnf)
  |fail)
 all_goals(try simp only[Bool.cond_true_left,Bool.cond_false_right,Bool.cond_false_left,Bool.cond_true_right,Bool.not_eq_true',Bool.not_eq_false',bne,Ex.css_len,List.length_map,Int.toNat_zero]at *)
 all_goals first
  |(simp only[tbE,Bool.not_true,Bool.not_false,Bool.and_true,Bool.true_and,Bool.and_false,Bool.false_and,Bool.or_true,Bool.true_or,Bool.or_false,Bool.false_or,if_true,if_false,reduceIte,Bool.false_eq_true,Bool.not_not,Bool.not_eq_true',beq_self_eq_true,List.all_cons,List.all_nil,List.any_cons,List.any_nil,List.length_map,bne,eq_self,Int.toNat_zero, *];done)
  |skip
theorem OI(l m:List Ex)(ih:∀x∈l,∀y,aA Tryz.prog 66 [x.d,y.d] (.ret (.b (eF x y)))):aA Tryz.prog 107 [.sl 5 (l.map Ex.cs),.sl 5 (m.map Ex.cs),.fn 66 []] (.ret (.b (z5w l m))):=by
 refine af tok hmix ⟨[],[]⟩ Tryz.func107 rfl (by kernel_rfl) (by kernel_rfl) (by kernel_rfl) λhf=>?_
 have hlen:l.length<=9223372036854775807:=by simpa using(hf (.sl 5 (l.map Ex.cs)) (by simp)).sl.1
 clear hf
 repeat' ((try(conv=>whnf))<;>first
  |with_reducible exact trivial
  |with_reducible exact aK hd0 ‹_›
  |((with_reducible refine eP hd0 ?_ ?_);(assumption))
  |((with_reducible refine dK hd0 ?_ ?_);(assumption))
  |with_reducible refine BrI.intro (λh=>?_) (λh=>?_)
  |((with_reducible refine aN.mk 0 ?_);have hz:l.length=m.length:=(by simp at h;omega);have hk0:(l.zip m).length=(l.map Ex.cs).length:=(by rw[bY hz,List.length_map]);have hlz:(l.zip m).length<=9223372036854775807:=(by rw[bY hz];exact hlen);refine⟨bn (l.zip m) 17 (λ(_:Unit)=>[]) (λ(_:Unit)=>[]) [1,2,15,16] (λi0 r0 _=>z5w l m=r0.all exE),?_⟩;with_reducible refine au () ?_ ?_ (λi0 (_:Unit) hd0 hI0=>?_) (λi0 x0 r0 (_:Unit) hd0 hl0 hI0=>?_))
  |(with_reducible refine ak hd0 () ?_ ?_)
  |((with_reducible refine ax ?_ ?_ ?_);rotate_left;(exact ih _ (List.of_mem_zip (iD hd0)).1 _))
  |((with_reducible refine aU ?_ ?_ ?_ ?_ ?_);exact rfl;exact rfl;rotate_left;(first |with_reducible exact fV hd0 |with_reducible exact fZ hd0))
  |((with_reducible refine bg ?_ ?_);exact rfl)
  |((with_reducible refine ai ?_);refine⟨[],rfl,?_,trivial⟩;conv=>whnf)
  |(with_reducible refine And.intro ?_ ?_)
  |exact @rfl AV _
  |fail)
 all_goals(try simp only[Bool.cond_true_left,Bool.cond_false_right,Bool.cond_false_left,Bool.cond_true_right,Bool.not_eq_true',Bool.not_eq_false',bne,Ex.css_len,List.length_map,Int.toNat_zero]at *)
 all_goals first
  |(rw[hI0];(try simp only[exE,Bool.not_true,Bool.not_false,Bool.and_true,Bool.true_and,Bool.and_false,Bool.false_and,Bool.or_true,Bool.true_or,Bool.or_false,Bool.false_or,if_true,if_false,reduceIte,Bool.false_eq_true,Bool.not_not,Bool.not_eq_true',beq_self_eq_true,List.all_cons,List.all_nil,List.any_cons,List.any_nil,List.length_map,bne,eq_self,Int.toNat_zero, *]);first |done |rfl)
  |(simp only[z5w,lenE,Bool.not_true,Bool.not_false,Bool.and_true,Bool.true_and,Bool.and_false,Bool.false_and,Bool.or_true,Bool.true_or,Bool.or_false,Bool.false_or,if_true,if_false,reduceIte,Bool.false_eq_true,Bool.not_not,Bool.not_eq_true',beq_self_eq_true,List.all_cons,List.all_nil,List.any_cons,List.any_nil,List.length_map,bne,eq_self,Int.toNat_zero, *];done)
  |skip
theorem AU(a b:Ex)  : aA Tryz.prog 66 [a.d,b.d] (.ret (.b (eF a b))):=by
 revert b;revert a;refine Ex.ind λa ih b=>?_
 refine af tok hmix ⟨[],[]⟩ Tryz.func66 rfl (by kernel_rfl) (by kernel_rfl) (by kernel_rfl) λhf=>?_
 clear hf
 repeat' ((try(conv=>whnf))<;>first
  |((with_reducible refine ax ?_ ?_ ?_);rotate_left;((have hq:=OI a.l b.l ih;rw[<-Ex.css_eq,<-Ex.css_eq]at hq;exact hq)))
  |((with_reducible refine aT ?_ ?_ (λhg=>?_) ?_);exact rfl)
  |((with_reducible refine bQ ?_ ?_);with_reducible exact rfl;with_reducible exact rfl)
  |((with_reducible refine ai ?_);refine⟨[],rfl,?_,trivial⟩;conv=>whnf)
  |fail)
 all_goals(try simp only[Bool.cond_true_left,Bool.cond_false_right,Bool.cond_false_left,Bool.cond_true_right,Bool.not_eq_true',Bool.not_eq_false',bne,Ex.css_len,List.length_map,Int.toNat_zero]at *)
 all_goals first
  |((exact congrArg D.b (Eh a b)))
  |skip
theorem Wi(a b:Sm)  : aA Tryz.prog 65 [a.d,b.d] (.ret (.b (smE (a,b)))):=by
 refine af tok hmix ⟨[],[]⟩ Tryz.func65 rfl (by kernel_rfl) (by kernel_rfl) (by kernel_rfl) λhf=>?_
 clear hf
 repeat' ((try(conv=>whnf))<;>first
  |((with_reducible refine ax ?_ ?_ ?_);rotate_left;(exact AU _ _))
  |((with_reducible refine aT ?_ ?_ (λhg=>?_) ?_);exact rfl)
  |((with_reducible refine bQ ?_ ?_);with_reducible exact rfl;with_reducible exact rfl)
  |((with_reducible refine ai ?_);refine⟨[],rfl,?_,trivial⟩;conv=>whnf)
  |fail)
 all_goals(try simp only[Bool.cond_true_left,Bool.cond_false_right,Bool.cond_false_left,Bool.cond_true_right,Bool.not_eq_true',Bool.not_eq_false',bne,Ex.css_len,List.length_map,Int.toNat_zero]at *)
 all_goals first
  |(simp only[smE,Bool.not_true,Bool.not_false,Bool.and_true,Bool.true_and,Bool.and_false,Bool.false_and,Bool.or_true,Bool.true_or,Bool.or_false,Bool.false_or,if_true,if_false,reduceIte,Bool.false_eq_true,Bool.not_not,Bool.not_eq_true',beq_self_eq_true,List.all_cons,List.all_nil,List.any_cons,List.any_nil,List.length_map,bne,eq_self,Int.toNat_zero, *];done)
  |skip
theorem OJ(l m:List Tb)  : aA Tryz.prog 69 [.sl 2 (l.map Tb.cs),.sl 2 (m.map Tb.cs),.fn 63 []] (.ret (.b (lenE tbE l m))):=by
 refine af tok hmix ⟨[],[]⟩ Tryz.func69 rfl (by kernel_rfl) (by kernel_rfl) (by kernel_rfl) λhf=>?_
 have hlen:l.length<=9223372036854775807:=by simpa using(hf (.sl 2 (l.map Tb.cs)) (by simp)).sl.1
 clear hf
 repeat' ((try(conv=>whnf))<;>first
  |with_reducible exact trivial
  |with_reducible exact aK hd0 ‹_›
  |((with_reducible refine eP hd0 ?_ ?_);(assumption))
  |((with_reducible refine dK hd0 ?_ ?_);(assumption))
  |with_reducible refine BrI.intro (λh=>?_) (λh=>?_)
  |((with_reducible refine aN.mk 0 ?_);have hz:l.length=m.length:=(by simp at h;omega);have hk0:(l.zip m).length=(l.map Tb.cs).length:=(by rw[bY hz,List.length_map]);have hlz:(l.zip m).length<=9223372036854775807:=(by rw[bY hz];exact hlen);refine⟨bn (l.zip m) 17 (λ(_:Unit)=>[]) (λ(_:Unit)=>[]) [1,2,15,16] (λi0 r0 _=>lenE tbE l m=r0.all tbE),?_⟩;with_reducible refine au () ?_ ?_ (λi0 (_:Unit) hd0 hI0=>?_) (λi0 x0 r0 (_:Unit) hd0 hl0 hI0=>?_))
  |(with_reducible refine ak hd0 () ?_ ?_)
  |((with_reducible refine ax ?_ ?_ ?_);rotate_left;(exact Wh _ _))
  |((with_reducible refine aU ?_ ?_ ?_ ?_ ?_);exact rfl;exact rfl;rotate_left;(first |with_reducible exact fV hd0 |with_reducible exact fZ hd0))
  |((with_reducible refine bg ?_ ?_);exact rfl)
  |((with_reducible refine ai ?_);refine⟨[],rfl,?_,trivial⟩;conv=>whnf)
  |(with_reducible refine And.intro ?_ ?_)
  |exact @rfl AV _
  |fail)
 all_goals(try simp only[Bool.cond_true_left,Bool.cond_false_right,Bool.cond_false_left,Bool.cond_true_right,Bool.not_eq_true',Bool.not_eq_false',bne,Ex.css_len,List.length_map,Int.toNat_zero]at *)
 all_goals first
  |(rw[hI0];(try simp only[List.all_cons,Bool.not_true,Bool.not_false,Bool.and_true,Bool.true_and,Bool.and_false,Bool.false_and,Bool.or_true,Bool.true_or,Bool.or_false,Bool.false_or,if_true,if_false,reduceIte,Bool.false_eq_true,Bool.not_not,Bool.not_eq_true',beq_self_eq_true,List.all_cons,List.all_nil,List.any_cons,List.any_nil,List.length_map,bne,eq_self,Int.toNat_zero, *]);first |done |rfl)
  |(simp only[lenE,Bool.not_true,Bool.not_false,Bool.and_true,Bool.true_and,Bool.and_false,Bool.false_and,Bool.or_true,Bool.true_or,Bool.or_false,Bool.false_or,if_true,if_false,reduceIte,Bool.false_eq_true,Bool.not_not,Bool.not_eq_true',beq_self_eq_true,List.all_cons,List.all_nil,List.any_cons,List.any_nil,List.length_map,bne,eq_self,Int.toNat_zero, *];done)
  |skip
theorem OL(l m:List Sm)  : aA Tryz.prog 70 [.sl 8 (l.map Sm.cs),.sl 8 (m.map Sm.cs),.fn 65 []] (.ret (.b (lenE smE l m))):=by
 refine af tok hmix ⟨[],[]⟩ Tryz.func70 rfl (by kernel_rfl) (by kernel_rfl) (by kernel_rfl) λhf=>?_
 have hlen:l.length<=9223372036854775807:=by simpa using(hf (.sl 8 (l.map Sm.cs)) (by simp)).sl.1
 clear hf
 repeat' ((try(conv=>whnf))<;>first
  |with_reducible exact trivial
  |with_reducible exact aK hd0 ‹_›
  |((with_reducible refine eP hd0 ?_ ?_);(assumption))
  |((with_reducible refine dK hd0 ?_ ?_);(assumption))
  |with_reducible refine BrI.intro (λh=>?_) (λh=>?_)
  |((with_reducible refine aN.mk 0 ?_);have hz:l.length=m.length:=(by simp at h;omega);have hk0:(l.zip m).length=(l.map Sm.cs).length:=(by rw[bY hz,List.length_map]);have hlz:(l.zip m).length<=9223372036854775807:=(by rw[bY hz];exact hlen);refine⟨bn (l.zip m) 17 (λ(_:Unit)=>[]) (λ(_:Unit)=>[]) [1,2,15,16] (λi0 r0 _=>lenE smE l m=r0.all smE),?_⟩;with_reducible refine au () ?_ ?_ (λi0 (_:Unit) hd0 hI0=>?_) (λi0 x0 r0 (_:Unit) hd0 hl0 hI0=>?_))
  |(with_reducible refine ak hd0 () ?_ ?_)
  |((with_reducible refine ax ?_ ?_ ?_);rotate_left;(exact Wi _ _))
  |((with_reducible refine aU ?_ ?_ ?_ ?_ ?_);exact rfl;exact rfl;rotate_left;(first |with_reducible exact fV hd0 |with_reducible exact fZ hd0))
  |((with_reducible refine bg ?_ ?_);exact rfl)
  |((with_reducible refine ai ?_);refine⟨[],rfl,?_,trivial⟩;conv=>whnf)
  |(with_reducible refine And.intro ?_ ?_)
  |exact @rfl AV _
  |fail)
 all_goals(try simp only[Bool.cond_true_left,Bool.cond_false_right,Bool.cond_false_left,Bool.cond_true_right,Bool.not_eq_true',Bool.not_eq_false',bne,Ex.css_len,List.length_map,Int.toNat_zero]at *)
 all_goals first
  |(rw[hI0];(try simp only[List.all_cons,Bool.not_true,Bool.not_false,Bool.and_true,Bool.true_and,Bool.and_false,Bool.false_and,Bool.or_true,Bool.true_or,Bool.or_false,Bool.false_or,if_true,if_false,reduceIte,Bool.false_eq_true,Bool.not_not,Bool.not_eq_true',beq_self_eq_true,List.all_cons,List.all_nil,List.any_cons,List.any_nil,List.length_map,bne,eq_self,Int.toNat_zero, *]);first |done |rfl)
  |(simp only[lenE,Bool.not_true,Bool.not_false,Bool.and_true,Bool.true_and,Bool.and_false,Bool.false_and,Bool.or_true,Bool.true_or,Bool.or_false,Bool.false_or,if_true,if_false,reduceIte,Bool.false_eq_true,Bool.not_not,Bool.not_eq_true',beq_self_eq_true,List.all_cons,List.all_nil,List.any_cons,List.any_nil,List.length_map,bne,eq_self,Int.toNat_zero, *];done)
  |skip
theorem wU(a b:Pr)  : aA Tryz.prog 27 [a.d,b.d] (.ret (.b (dV a b))):=by
 refine af tok hmix ⟨[],[]⟩ Tryz.func27 rfl (by kernel_rfl) (by kernel_rfl) (by kernel_rfl) λhf=>?_
 clear hf
 repeat' ((try(conv=>whnf))<;>first
  |((with_reducible refine ax ?_ ?_ ?_);rotate_left;(first |exact OG _ _ |exact OH _ _ |exact OJ _ _ |exact OL _ _))
  |((with_reducible refine aT ?_ ?_ (λhg=>?_) ?_);exact rfl)
  |((with_reducible refine bQ ?_ ?_);with_reducible exact rfl;with_reducible exact rfl)
  |((with_reducible refine ai ?_);refine⟨[],rfl,?_,trivial⟩;conv=>whnf)
  |fail)
 all_goals(try simp only[Bool.cond_true_left,Bool.cond_false_right,Bool.cond_false_left,Bool.cond_true_right,Bool.not_eq_true',Bool.not_eq_false',bne,Ex.css_len,List.length_map,Int.toNat_zero]at *)
 all_goals first
  |(simp only[dV,Gy,Bool.not_true,Bool.not_false,Bool.and_true,Bool.true_and,Bool.and_false,Bool.false_and,Bool.or_true,Bool.true_or,Bool.or_false,Bool.false_or,if_true,if_false,reduceIte,Bool.false_eq_true,Bool.not_not,Bool.not_eq_true',beq_self_eq_true,List.all_cons,List.all_nil,List.any_cons,List.any_nil,List.length_map,bne,eq_self,Int.toNat_zero, *];done)
  |skip
theorem OM(l m:List Int)  : aA Tryz.prog 81 [ints l,ints m] (.ret (.b (Eg l m))):=by
 refine af tok hmix ⟨[],[]⟩ Tryz.func81 rfl (by kernel_rfl) (by kernel_rfl) (by kernel_rfl) λhf=>?_
 have hlen:l.length<=9223372036854775807:=by simpa using(hf (ints l) (by simp)).sl.1
 clear hf
 repeat' ((try(conv=>whnf))<;>first
  |with_reducible exact trivial
  |with_reducible exact aK hd0 ‹_›
  |((with_reducible refine eP hd0 ?_ ?_);(assumption))
  |((with_reducible refine dK hd0 ?_ ?_);(assumption))
  |with_reducible refine BrI.intro (λh=>?_) (λh=>?_)
  |((with_reducible refine aN.mk 0 ?_);have hz:l.length=m.length:=(by simp at h;omega);have hk0:(l.zip m).length=(l.map Uw).length:=(by rw[bY hz,List.length_map]);have hlz:(l.zip m).length<=9223372036854775807:=(by rw[bY hz];exact hlen);refine⟨bn (l.zip m) 5 (λ(_:Unit)=>[]) (λ(_:Unit)=>[]) [0,1] (λi0 r0 _=>Eg l m=r0.all Z4),?_⟩;with_reducible refine au () ?_ ?_ (λi0 (_:Unit) hd0 hI0=>?_) (λi0 x0 r0 (_:Unit) hd0 hl0 hI0=>?_))
  |(with_reducible refine ak hd0 () ?_ ?_)
  |((with_reducible refine aU ?_ ?_ ?_ ?_ ?_);exact rfl;exact rfl;rotate_left;(first |with_reducible exact fV hd0 |with_reducible exact fZ hd0))
  |((with_reducible refine aI ?_ ?_);kernel_rfl)
  |((with_reducible refine ai ?_);refine⟨[],rfl,?_,trivial⟩;conv=>whnf)
  |(with_reducible refine And.intro ?_ ?_)
  |exact @rfl AV _
  |fail)
 all_goals(try simp only[Bool.cond_true_left,Bool.cond_false_right,Bool.cond_false_left,Bool.cond_true_right,Bool.not_eq_true',Bool.not_eq_false',bne,Ex.css_len,List.length_map,Int.toNat_zero]at *)
 all_goals first
  |(rw[hI0];(try simp only[Z4,Bool.not_true,Bool.not_false,Bool.and_true,Bool.true_and,Bool.and_false,Bool.false_and,Bool.or_true,Bool.true_or,Bool.or_false,Bool.false_or,if_true,if_false,reduceIte,Bool.false_eq_true,Bool.not_not,Bool.not_eq_true',beq_self_eq_true,List.all_cons,List.all_nil,List.any_cons,List.any_nil,List.length_map,bne,eq_self,Int.toNat_zero, *]);first |done |rfl)
  |(simp only[Eg,lenE,Bool.not_true,Bool.not_false,Bool.and_true,Bool.true_and,Bool.and_false,Bool.false_and,Bool.or_true,Bool.true_or,Bool.or_false,Bool.false_or,if_true,if_false,reduceIte,Bool.false_eq_true,Bool.not_not,Bool.not_eq_true',beq_self_eq_true,List.all_cons,List.all_nil,List.any_cons,List.any_nil,List.length_map,bne,eq_self,Int.toNat_zero, *];done)
  |skip
theorem AX(a b:Ex)  : aA Tryz.prog 82 [a.d,b.d] (.ret (.b (eF a b))):=by
 revert b;revert a;refine Ex.ind λa ih b=>?_
 refine af tok hmix ⟨[],[]⟩ Tryz.func82 rfl (by kernel_rfl) (by kernel_rfl) (by kernel_rfl) λhf=>?_
 have hlen:=Ex.fits (hf a.d (by simp))
 clear hf
 repeat' ((try(conv=>whnf))<;>first
  |with_reducible exact trivial
  |with_reducible exact aK hd0 ‹_›
  |((with_reducible refine eP hd0 ?_ ?_);(assumption))
  |((with_reducible refine dK hd0 ?_ ?_);(assumption))
  |with_reducible refine BrI.intro (λh=>?_) (λh=>?_)
  |((with_reducible refine aN.mk 0 ?_);have hz:a.l.length=b.l.length:=(by simp[Ex.css_len]at h;omega);have hk0:(a.l.zip b.l).length=(Ex.css a.l).length:=(by rw[bY hz,Ex.css_len]);have hlz:(a.l.zip b.l).length<=9223372036854775807:=(by rw[bY hz];exact hlen);refine⟨bn (a.l.zip b.l) 5 (λ(_:Unit)=>[]) (λ(_:Unit)=>[]) [2,3] (λi0 r0 _=>eF a b=r0.all λq=>eF q.1 q.2),?_⟩;with_reducible refine au () ?_ ?_ (λi0 (_:Unit) hd0 hI0=>?_) (λi0 x0 r0 (_:Unit) hd0 hl0 hI0=>?_))
  |(with_reducible refine ak hd0 () ?_ ?_)
  |((with_reducible refine ax ?_ ?_ ?_);rotate_left;(exact ih _ (List.of_mem_zip (iD hd0)).1 _))
  |((with_reducible refine aU ?_ ?_ ?_ ?_ ?_);exact rfl;exact rfl;rotate_left;(first |with_reducible exact Q5 hd0 |with_reducible exact Q7 hd0))
  |((with_reducible refine bg ?_ ?_);exact rfl)
  |((with_reducible refine aI ?_ ?_);kernel_rfl)
  |((with_reducible refine ai ?_);refine⟨[],rfl,?_,trivial⟩;conv=>whnf)
  |(with_reducible refine And.intro ?_ ?_)
  |exact @rfl AV _
  |fail)
 all_goals(try simp only[Bool.cond_true_left,Bool.cond_false_right,Bool.cond_false_left,Bool.cond_true_right,Bool.not_eq_true',Bool.not_eq_false',bne,Ex.css_len,List.length_map,Int.toNat_zero]at *)
 all_goals first
  |(rw[hI0];(try simp only[List.all_cons,Bool.not_true,Bool.not_false,Bool.and_true,Bool.true_and,Bool.and_false,Bool.false_and,Bool.or_true,Bool.true_or,Bool.or_false,Bool.false_or,if_true,if_false,reduceIte,Bool.false_eq_true,Bool.not_not,Bool.not_eq_true',beq_self_eq_true,List.all_cons,List.all_nil,List.any_cons,List.any_nil,List.length_map,bne,eq_self,Int.toNat_zero, *]);first |done |rfl)
  |(simp only[ng,Bool.not_true,Bool.not_false,Bool.and_true,Bool.true_and,Bool.and_false,Bool.false_and,Bool.or_true,Bool.true_or,Bool.or_false,Bool.false_or,if_true,if_false,reduceIte,Bool.false_eq_true,Bool.not_not,Bool.not_eq_true',beq_self_eq_true,List.all_cons,List.all_nil,List.any_cons,List.any_nil,List.length_map,bne,eq_self,Int.toNat_zero, *];done)
  |((rw[ng,<-uF hz];simp_all;done))
  |skip
theorem jO(l m:List Bd)  : aA Tryz.prog 80 [.sl 3 (l.map Bd.cs),.sl 3 (m.map Bd.cs)] (.ret (.b (eY l m))):=by
 refine af tok hmix ⟨[],[]⟩ Tryz.func80 rfl (by kernel_rfl) (by kernel_rfl) (by kernel_rfl) λhf=>?_
 have hlen:l.length<=9223372036854775807:=by simpa using(hf (.sl 3 (l.map Bd.cs)) (by simp)).sl.1
 clear hf
 repeat' ((try(conv=>whnf))<;>first
  |with_reducible exact trivial
  |with_reducible exact aK hd0 ‹_›
  |((with_reducible refine eP hd0 ?_ ?_);(assumption))
  |((with_reducible refine dK hd0 ?_ ?_);(assumption))
  |with_reducible refine BrI.intro (λh=>?_) (λh=>?_)
  |((with_reducible refine aN.mk 0 ?_);have hz:l.length=m.length:=(by simp at h;omega);have hk0:(l.zip m).length=(l.map Bd.cs).length:=(by rw[bY hz,List.length_map]);have hlz:(l.zip m).length<=9223372036854775807:=(by rw[bY hz];exact hlen);refine⟨bn (l.zip m) 5 (λ(_:Unit)=>[]) (λ(_:Unit)=>[]) [0,1] (λi0 r0 _=>eY l m=r0.all xu),?_⟩;with_reducible refine au () ?_ ?_ (λi0 (_:Unit) hd0 hI0=>?_) (λi0 x0 r0 (_:Unit) hd0 hl0 hI0=>?_))
  |(with_reducible refine ak hd0 () ?_ ?_)
  |((with_reducible refine ni ?_ ?_ ?_);exact rfl;exact rfl)
  |((with_reducible refine aU ?_ ?_ ?_ ?_ ?_);exact rfl;exact rfl;rotate_left;(first |with_reducible exact fV hd0 |with_reducible exact fZ hd0))
  |((with_reducible refine bg ?_ ?_);exact rfl)
  |((with_reducible refine aI ?_ ?_);kernel_rfl)
  |((with_reducible refine ai ?_);refine⟨[],rfl,?_,trivial⟩;conv=>whnf)
  |(with_reducible refine And.intro ?_ ?_)
  |exact @rfl AV _
  |fail)
 all_goals(try simp only[Bool.cond_true_left,Bool.cond_false_right,Bool.cond_false_left,Bool.cond_true_right,Bool.not_eq_true',Bool.not_eq_false',bne,Ex.css_len,List.length_map,Int.toNat_zero]at *)
 all_goals first
  |(rw[hI0];(try simp only[xu,Bool.not_true,Bool.not_false,Bool.and_true,Bool.true_and,Bool.and_false,Bool.false_and,Bool.or_true,Bool.true_or,Bool.or_false,Bool.false_or,if_true,if_false,reduceIte,Bool.false_eq_true,Bool.not_not,Bool.not_eq_true',beq_self_eq_true,List.all_cons,List.all_nil,List.any_cons,List.any_nil,List.length_map,bne,eq_self,Int.toNat_zero, *]);first |done |rfl)
  |(simp only[eY,Bool.not_true,Bool.not_false,Bool.and_true,Bool.true_and,Bool.and_false,Bool.false_and,Bool.or_true,Bool.true_or,Bool.or_false,Bool.false_or,if_true,if_false,reduceIte,Bool.false_eq_true,Bool.not_not,Bool.not_eq_true',beq_self_eq_true,List.all_cons,List.all_nil,List.any_cons,List.any_nil,List.length_map,bne,eq_self,Int.toNat_zero, *];done)
  |skip
theorem Wj(a b:Pr)(hE:xA a b=true):aA Tryz.prog 33 [a.d,b.d] (.ret (.b false)):=by
 refine af tok hmix ⟨[],[]⟩ Tryz.func33 rfl (by kernel_rfl) (by kernel_rfl) (by kernel_rfl) λhf=>?_
 clear hf
 repeat' ((try(conv=>whnf))<;>first
  |(exact Bool.noConfusion (show true=false from hE.symm.trans h))
  |refine BrI.intro (λh=>?_) (λh=>?_)
  |((refine ax ?_ ?_ ?_);rotate_left;(exact jO _ _))
  |((refine aT ?_ ?_ (λhg=>?_) ?_);exact rfl)
  |((refine bQ ?_ ?_);exact rfl;exact rfl)
  |((refine ai ?_);refine⟨[],rfl,?_,trivial⟩;conv=>whnf)
  |fail)
 all_goals first
  |skip
theorem Wl(a b:Pr)(hE:xA a b=false)(hE2:zX a b=true):aA Tryz.prog 33 [a.d,b.d] (.ret (.b false)):=by
 refine af tok hmix ⟨[],[]⟩ Tryz.func33 rfl (by kernel_rfl) (by kernel_rfl) (by kernel_rfl) λhf=>?_
 clear hf
 repeat' ((try(conv=>whnf))<;>first
  |(exact Bool.noConfusion ((show true=false from hE2.symm.trans h)))
  |refine BrI.intro (λh=>?_) (λh=>?_)
  |(exact Bool.noConfusion (hE.symm.trans h))
  |((refine ax ?_ ?_ ?_);rotate_left;(exact jO _ _))
  |((refine aT ?_ ?_ (λhg=>?_) ?_);exact rfl)
  |((refine bQ ?_ ?_);exact rfl;exact rfl)
  |((refine ai ?_);refine⟨[],rfl,?_,trivial⟩;conv=>whnf)
  |fail)
 all_goals first
  |skip
theorem Wn(a b:Pr)(hE:xA a b=false)(hE2:zX a b=false)(hz0:a.lines.length=b.lines.length)(hz2:a.tables.length=b.tables.length)(hz4:a.stmts.length=b.stmts.length):aA Tryz.prog 33 [a.d,b.d] (.ret (.b ((a.lines.zip b.lines).all kJ&&((a.tables.zip b.tables).all tbE&&(a.stmts.zip b.stmts).all smE)))):=by
 refine af tok hmix ⟨[],[]⟩ Tryz.func33 rfl (by kernel_rfl) (by kernel_rfl) (by kernel_rfl) λhf=>?_
 have hq:=Pr.fits (hf a.d (by simp))
 have hl0:(a.lines.zip b.lines).length<=9223372036854775807:=by rw[bY hz0];exact hq.lines
 have hl2:(a.tables.zip b.tables).length<=9223372036854775807:=by rw[bY hz2];exact hq.tables
 have hl4:(a.stmts.zip b.stmts).length<=9223372036854775807:=by rw[bY hz4];exact hq.stmts
 have hk0:(a.lines.zip b.lines).length=(a.lines.map Ln.cs).length:=by rw[bY hz0,List.length_map]
 have hk2:(a.tables.zip b.tables).length=(a.tables.map Tb.cs).length:=by rw[bY hz2,List.length_map]
 have hk4:(a.stmts.zip b.stmts).length=(a.stmts.map Sm.cs).length:=by rw[bY hz4,List.length_map]
 clear hf
 repeat' ((try(conv=>whnf))<;>first
  |exact trivial
  |exact aK hd4 ‹_›
  |exact aK hd2 ‹_›
  |exact aK hd0 ‹_›
  |((refine eP hd4 ?_ ?_);(assumption))
  |((refine eP hd2 ?_ ?_);(assumption))
  |((refine eP hd0 ?_ ?_);(assumption))
  |((refine dK hd4 ?_ ?_);(assumption))
  |((refine dK hd2 ?_ ?_);(assumption))
  |((refine dK hd0 ?_ ?_);(assumption))
  |refine BrI.intro (λh=>?_) (λh=>?_)
  |(exact Bool.noConfusion (hE.symm.trans h))
  |(exact Bool.noConfusion (hE2.symm.trans h))
  |((refine ni ?_ ?_ ?_);exact rfl;exact rfl)
  |((refine aN.mk 0 ?_);refine⟨bn (a.lines.zip b.lines) 5 (λ(_:Unit)=>[]) (λ(_:Unit)=>[]) [2,3] (λi0 r0 _=>(a.lines.zip b.lines).all kJ=r0.all kJ),?_⟩;refine au () ?_ ?_ (λi0 (_:Unit) hd0 hI0=>?_) (λi0 x0 r0 (_:Unit) hd0 hl0 hI0=>?_))
  |(refine ak hd0 () ?_ ?_)
  |((refine aN.mk 2 ?_);refine⟨bn (a.tables.zip b.tables) 6 (λ(_:Unit)=>[]) (λ(_:Unit)=>[]) [2,3] (λi2 r2 _=>(a.lines.zip b.lines).all kJ=true/\(a.tables.zip b.tables).all tbE=r2.all tbE),?_⟩;refine au () ?_ ?_ (λi2 (_:Unit) hd2 hI2=>?_) (λi2 x2 r2 (_:Unit) hd2 hl2 hI2=>?_))
  |(refine ak hd2 () ?_ ?_)
  |((refine aN.mk 4 ?_);refine⟨bn (a.stmts.zip b.stmts) 7 (λ(_:Unit)=>[]) (λ(_:Unit)=>[]) [2,3] (λi4 r4 _=>(a.lines.zip b.lines).all kJ=true/\(a.tables.zip b.tables).all tbE=true/\(a.stmts.zip b.stmts).all smE=r4.all smE),?_⟩;refine au () ?_ ?_ (λi4 (_:Unit) hd4 hI4=>?_) (λi4 x4 r4 (_:Unit) hd4 hl4 hI4=>?_))
  |(refine ak hd4 () ?_ ?_)
  |((refine ax ?_ ?_ ?_);rotate_left;(first |exact jO _ _ |exact OM _ _ |exact AX _ _))
  |((refine aU ?_ ?_ ?_ ?_ ?_);exact rfl;exact rfl;rotate_left;(first |exact fV hd4 |exact fZ hd4 |exact fV hd2 |exact fZ hd2 |exact fV hd0 |exact fZ hd0))
  |((refine bg ?_ ?_);exact rfl)
  |((refine aT ?_ ?_ (λhg=>?_) ?_);exact rfl)
  |((refine kK ?_ ?_ (λhg=>?_) ?_);exact rfl)
  |((refine bQ ?_ ?_);exact rfl;exact rfl)
  |((refine aI ?_ ?_);kernel_rfl)
  |((refine ai ?_);refine⟨[],rfl,?_,trivial⟩;conv=>whnf)
  |(refine And.intro ?_ ?_)
  |exact @rfl AV _
  |fail)
 all_goals first
  |((refine congrArg D.b ?_;rw[SH hI0 (z9j h)];rfl))
  |((exact I9 hI0 (z5x h)))
  |((exact hI0))
  |((refine congrArg D.b ?_;rw[hI2.1,SH hI2.2 (by have:=(LH x2).symm.trans h;simpa using this)];rfl))
  |((exact I9 hI2.2 (by have:=(LH x2).symm.trans h;simpa using this)))
  |((exact hI2.2))
  |((refine congrArg D.b ?_;rw[hI4.1,hI4.2.1,SH hI4.2.2 (by have:=(LG x4).symm.trans h;simpa using this)];rfl))
  |((exact I9 hI4.2.2 (by have:=(LG x4).symm.trans h;simpa using this)))
  |((refine congrArg D.b ?_;rw[hI4.1,hI4.2.1,hI4.2.2];rfl))
  |skip
theorem OO(a b:Pr):aA Tryz.prog 33 [a.d,b.d] (.ret (.b (dV a b))):=by
 cases h1:xA a b with
 |true=>rw[z0b h1];exact Wj a b h1
 |false=>
  cases h2:zX a b with
  |true=>rw[z0c h2];exact Wl a b h1 h2
  |false=>
   obtain⟨e,z0,z2,z4⟩:=SG h1 h2
   rw[e];exact Wn a b h1 h2 z0 z2 z4
theorem AY(x:Ex)(hx:nodes x<=1073741824):aA Tryz.prog 83 [x.d] (.ret (gp x).d):=by
 revert x;refine Ex.ind λx ih hx=>?_
 refine af tok hmix ⟨[],[]⟩ Tryz.func83 rfl (by kernel_rfl) (by kernel_rfl) (by kernel_rfl) λhf=>?_
 have hlen:=Ex.fits (hf x.d (by simp))
 have hN:=DN x
 have hL:=zC x.l
 clear hf
 repeat' ((try(conv=>whnf))<;>first
  |exact trivial
  |exact aK hd0 ‹_›
  |refine KJ hd0 ?_
  |refine F6 hd0 ?_
  |refine BrI.intro (λh=>?_) (λh=>?_)
  |((refine aN.mk 0 ?_);refine⟨bn (x.l) 4 (λ(l:(List Ex))=>[(3,.gs 20 5 (l.map Ex.cs))]) (λ(l:(List Ex))=>[(20,.tok 5 (l.map Ex.cs).length)]) [1,2] (λi0 r0 l=>x.l.map gp=l++r0.map gp/\l.length=i0/\nodesL r0<=1073741824),?_⟩;refine au [] ?_ ?_ (λi0 (l:(List Ex)) hd0 hI0=>?_) (λi0 x0 r0 (l:(List Ex)) hd0 hl0 hI0=>?_))
  |(refine ak hd0 (l++[gp x0]) ?_ ?_)
  |((refine ax ?_ ?_ ?_);rotate_left;(exact ih _ (iD hd0) (by have:=hI0.2.2;simp only[nodesL]at this;omega)))
  |(refine aG.l _ ?_)
  |((refine aU ?_ ?_ ?_ ?_ ?_);exact rfl;exact rfl;rotate_left;(exact wB hd0))
  |((refine bg ?_ ?_);exact rfl)
  |((refine app_step' ?_ ?_ ?_ ?_ ?_ ?_ ?_);exact rfl;exact rfl;exact rfl;exact rfl)
  |((refine ai ?_);refine⟨[],rfl,?_,trivial⟩;conv=>whnf)
  |(refine And.intro ?_ ?_)
  |((refine qR ?_ ?_ ?_);exact rfl;exact rfl;(first |exact bT |exact rfl |skip))
  |((refine fJ ?_ ?_);exact rfl;(first |exact bT |skip))
  |exact @rfl AV _
  |exact @rfl Block _
  |exact fK rfl
  |fail)
 all_goals first
  |((rfl))
  |((omega))
  |((rw[Ei,SI h,hI0.1];simp only[List.map_nil,List.append_nil,Ex.css_map];rfl))
  |((rw[Ei,V3 h,hI0.1];simp only[List.map_nil,List.append_nil,Ex.css_map];rfl))
  |((rw[hI0.1];simp only[List.map_cons,List.append_assoc,List.cons_append,List.nil_append];done))
  |((simp only[List.length_append,List.length_cons,List.length_nil];omega))
  |((have:=hI0.2.2;simp only[nodesL]at this;omega))
  |((have:=hI0.2.1;simp only[List.length_map];omega))
  |skip
theorem OQ(p:Pr)(hl:p.stmts.length<=1073741823)(hn:∀s∈p.stmts,nodes s.x<=1073741824):aA Tryz.prog 34 [p.d] (.ret (dE p).d):=by
 refine af tok hmix ⟨[],[]⟩ Tryz.func34 rfl (by kernel_rfl) (by kernel_rfl) (by kernel_rfl) λhf=>?_
 have hlen:p.stmts.length<=9223372036854775807:=by omega
 clear hf
 repeat' ((try(conv=>whnf))<;>first
  |exact trivial
  |exact aK hd0 ‹_›
  |refine gX hd0 ?_
  |refine eH hd0 ?_
  |((refine aN.mk 0 ?_);refine⟨bn (p.stmts) 4 (λ(l:(List Sm))=>[(3,.gs 6 8 (l.map Sm.cs))]) (λ(l:(List Sm))=>[(6,.tok 8 (l.map Sm.cs).length)]) [1,2] (λi0 r0 l=>p.stmts.map uO=l++r0.map uO/\l.length=i0),?_⟩;refine au [] ?_ ?_ (λi0 (l:(List Sm)) hd0 hI0=>?_) (λi0 x0 r0 (l:(List Sm)) hd0 hl0 hI0=>?_))
  |(refine ak hd0 (l++[uO x0]) ?_ ?_)
  |((refine ax ?_ ?_ ?_);rotate_left;(exact AY _ (hn _ (iD hd0))))
  |(refine aG.l _ ?_)
  |((refine aU ?_ ?_ ?_ ?_ ?_);exact rfl;exact rfl;rotate_left;(exact cO hd0))
  |((refine bg ?_ ?_);exact rfl)
  |((refine app_step' ?_ ?_ ?_ ?_ ?_ ?_ ?_);exact rfl;exact rfl;exact rfl;exact rfl)
  |((refine ai ?_);refine⟨[],rfl,?_,trivial⟩;conv=>whnf)
  |(refine And.intro ?_ ?_)
  |((refine qR ?_ ?_ ?_);exact rfl;exact rfl;(first |exact rfl |skip))
  |((refine fJ ?_ ?_);exact rfl;(first |skip))
  |exact @rfl AV _
  |exact @rfl Block _
  |exact fK rfl
  |fail)
 all_goals first
  |((rfl))
  |((simp only[List.map_nil,List.append_nil]at hI0;rw[<-hI0.1]))
  |((rw[hI0.1];simp only[List.map_cons,List.append_assoc,List.cons_append,List.nil_append];done))
  |((simp only[List.length_append,List.length_cons,List.length_nil];omega))
  |((have:=hI0.2;simp only[List.length_map];omega))
  |((refine Eq.trans ?_ bT;rfl))
  |skip
theorem fF(l:List Pr)(hl:l.length<=1073741823)(hs:∀p∈l,p.stmts.length<=1073741823)(hn:∀p∈l,∀s∈p.stmts,nodes s.x<=1073741824):aA Tryz.prog 13 [prs l] (.ret (prs (l.map dE))):=by
 refine af tok hmix ⟨[],[]⟩ Tryz.func13 rfl (by kernel_rfl) (by kernel_rfl) (by kernel_rfl) λhf=>?_
 have hlen:l.length<=9223372036854775807:=by omega
 clear hf
 repeat' ((try(conv=>whnf))<;>first
  |exact trivial
  |exact aK hd0 ‹_›
  |refine gX hd0 ?_
  |refine eH hd0 ?_
  |((refine aN.mk 0 ?_);refine⟨bn (l) 4 (λ(out:(List Pr))=>[(3,.gs 5 8 (out.map Pr.cs))]) (λ(out:(List Pr))=>[(5,.tok 8 (out.map Pr.cs).length)]) [0] (λi0 r0 out=>l.map dE=out++r0.map dE/\out.length=i0),?_⟩;refine au [] ?_ ?_ (λi0 (out:(List Pr)) hd0 hI0=>?_) (λi0 x0 r0 (out:(List Pr)) hd0 hl0 hI0=>?_))
  |(refine ak hd0 (out++[dE x0]) ?_ ?_)
  |((refine ax ?_ ?_ ?_);rotate_left;(exact OQ _ (hs _ (iD hd0)) (hn _ (iD hd0))))
  |(refine aG.l _ ?_)
  |((refine aU ?_ ?_ ?_ ?_ ?_);exact rfl;exact rfl;rotate_left;(exact cO hd0))
  |((refine bg ?_ ?_);exact rfl)
  |((refine app_step' ?_ ?_ ?_ ?_ ?_ ?_ ?_);exact rfl;exact rfl;exact rfl;exact rfl)
  |((refine ai ?_);refine⟨[],rfl,?_,trivial⟩;conv=>whnf)
  |(refine And.intro ?_ ?_)
  |((refine qR ?_ ?_ ?_);exact rfl;exact rfl;(first |exact bT |exact rfl |skip))
  |((refine fJ ?_ ?_);exact rfl;(first |exact bT |skip))
  |exact @rfl AV _
  |exact @rfl Block _
  |exact fK rfl
  |fail)
 all_goals first
  |((rfl))
  |((simp only[List.map_nil,List.append_nil]at hI0;rw[<-hI0.1]))
  |((rw[hI0.1];simp only[List.map_cons,List.append_assoc,List.cons_append,List.nil_append];done))
  |((simp only[List.length_append,List.length_cons,List.length_nil];omega))
  |((have:=hI0.2;simp only[List.length_map];omega))
  |skip
theorem fG(l m:List Pr)  : aA Tryz.prog 12 [prs l,prs m] (.ret (.b (lenE (λq=>dV q.1 q.2) l m))):=by
 refine af tok hmix ⟨[],[]⟩ Tryz.func12 rfl (by kernel_rfl) (by kernel_rfl) (by kernel_rfl) λhf=>?_
 have hlen:l.length<=9223372036854775807:=by simpa using(hf (prs l) (by simp)).sl.1
 clear hf
 repeat' ((try(conv=>whnf))<;>first
  |with_reducible exact trivial
  |with_reducible exact aK hd0 ‹_›
  |((with_reducible refine eP hd0 ?_ ?_);(assumption))
  |((with_reducible refine dK hd0 ?_ ?_);(assumption))
  |with_reducible refine BrI.intro (λh=>?_) (λh=>?_)
  |((with_reducible refine aN.mk 0 ?_);have hz:l.length=m.length:=(by simp at h;omega);have hk0:(l.zip m).length=(l.map Pr.cs).length:=(by rw[bY hz,List.length_map]);have hlz:(l.zip m).length<=9223372036854775807:=(by rw[bY hz];exact hlen);refine⟨bn (l.zip m) 5 (λ(_:Unit)=>[]) (λ(_:Unit)=>[]) [0,1] (λi0 r0 _=>lenE (λq=>dV q.1 q.2) l m=r0.all λq=>dV q.1 q.2),?_⟩;with_reducible refine au () ?_ ?_ (λi0 (_:Unit) hd0 hI0=>?_) (λi0 x0 r0 (_:Unit) hd0 hl0 hI0=>?_))
  |(with_reducible refine ak hd0 () ?_ ?_)
  |((with_reducible refine ax ?_ ?_ ?_);rotate_left;(exact OO _ _))
  |((with_reducible refine aU ?_ ?_ ?_ ?_ ?_);exact rfl;exact rfl;rotate_left;(first |with_reducible exact fV hd0 |with_reducible exact fZ hd0))
  |((with_reducible refine bg ?_ ?_);exact rfl)
  |((with_reducible refine aI ?_ ?_);kernel_rfl)
  |((with_reducible refine ai ?_);refine⟨[],rfl,?_,trivial⟩;conv=>whnf)
  |(with_reducible refine And.intro ?_ ?_)
  |exact @rfl AV _
  |fail)
 all_goals(try simp only[Bool.cond_true_left,Bool.cond_false_right,Bool.cond_false_left,Bool.cond_true_right,Bool.not_eq_true',Bool.not_eq_false',bne,Ex.css_len,List.length_map,Int.toNat_zero]at *)
 all_goals first
  |(rw[hI0];(try simp only[List.all_cons,Bool.not_true,Bool.not_false,Bool.and_true,Bool.true_and,Bool.and_false,Bool.false_and,Bool.or_true,Bool.true_or,Bool.or_false,Bool.false_or,if_true,if_false,reduceIte,Bool.false_eq_true,Bool.not_not,Bool.not_eq_true',beq_self_eq_true,List.all_cons,List.all_nil,List.any_cons,List.any_nil,List.length_map,bne,eq_self,Int.toNat_zero, *]);first |done |rfl)
  |(simp only[lenE,Bool.not_true,Bool.not_false,Bool.and_true,Bool.true_and,Bool.and_false,Bool.false_and,Bool.or_true,Bool.true_or,Bool.or_false,Bool.false_or,if_true,if_false,reduceIte,Bool.false_eq_true,Bool.not_not,Bool.not_eq_true',beq_self_eq_true,List.all_cons,List.all_nil,List.any_cons,List.any_nil,List.length_map,bne,eq_self,Int.toNat_zero, *];done)
  |skip
theorem Jn(x:Ex)  : aA Tryz.prog 84 [x.d] (.ret (.i (count x))):=by
 revert x;refine Ex.ind λx ih=>?_
 refine af tok hmix ⟨[],[]⟩ Tryz.func84 rfl (by kernel_rfl) (by kernel_rfl) (by kernel_rfl) λhf=>?_
 have hlen:=Ex.fits (hf x.d (by simp))
 clear hf
 repeat' ((try(conv=>whnf))<;>first
  |(refine Jb hd0 ?_)
  |(refine GG hd0 ?_)
  |exact trivial
  |exact aK hd0 ‹_›
  |refine BrI.intro (λh=>?_) (λh=>?_)
  |((refine aN.mk 0 ?_);refine⟨bn (x.l) 4 (λ(n:(Int))=>[(3,.data (.val (.int .i64 n)))]) (λ(n:(Int))=>[]) [1] (λi0 r0 n=>rM x.l 1=rM r0 n/\1<=n/\n<=2100),?_⟩;refine au ?_ ?_ ?_ (λi0 (n:(Int)) hd0 hI0=>?_) (λi0 x0 r0 (n:(Int)) hd0 hl0 hI0=>?_))
  |(refine ak hd0 ?_ ?_ ?_)
  |((refine ax ?_ ?_ ?_);rotate_left;(exact ih _ (iD hd0)))
  |((refine aU ?_ ?_ ?_ ?_ ?_);exact rfl;exact rfl;rotate_left;(exact wB hd0))
  |((refine bg ?_ ?_);exact rfl)
  |((refine ai ?_);refine⟨[],rfl,?_,trivial⟩;conv=>whnf)
  |(refine And.intro ?_ ?_)
  |exact @rfl AV _
  |fail)
 all_goals first
  |(decide)
  |((rw[X6,count_eq,hI0.1];rfl))
  |((rw[X6,count_eq,hI0.1,Ja (of_decide_eq_false h)]))
  |((have h:=of_decide_eq_true h;have h1:=Gz x0;have h2:=count_le x0;rw[gW (by omega) (by omega)];first |omega |(rw[hI0.1,rM,if_pos h])))
  |skip
theorem Tt(p:Pr)  : aA Tryz.prog 35 [p.d] (.ret (.b (fewP p))):=by
 refine af tok hmix ⟨[],[]⟩ Tryz.func35 rfl (by kernel_rfl) (by kernel_rfl) (by kernel_rfl) λhf=>?_
 have hq:=Pr.fits (hf p.d (by simp))
 have hlen1:=hq.stmts;have hlen2:=hq.tables
 clear hf
 repeat' ((try(conv=>whnf))<;>first
  |exact trivial
  |exact aK hd2 ‹_›
  |exact aK hd0 ‹_›
  |refine gX hd2 ?_
  |refine gX hd0 ?_
  |refine eH hd2 ?_
  |refine eH hd0 ?_
  |refine BrI.intro (λh=>?_) (λh=>?_)
  |((refine aN.mk 0 ?_);have hs:=z5z h;refine⟨bn (p.tables) 4 (λ(n:(Int))=>[(3,.data (.val (.int .i64 n)))]) (λ(n:(Int))=>[]) [1] (λi0 r0 n=>z0j p.tables 0=z0j r0 n/\0<=n/\n+1000 * (r0.length:Int)<=20000),?_⟩;refine au ?_ ?_ ?_ (λi0 (n:(Int)) hd0 hI0=>?_) (λi0 x0 r0 (n:(Int)) hd0 hl0 hI0=>?_))
  |(refine ak hd0 ?_ ?_ ?_)
  |((refine aN.mk 2 ?_);refine⟨bn (p.stmts) 5 (λ(n:(Int))=>[(3,.data (.val (.int .i64 n)))]) (λ(n:(Int))=>[]) [1] (λi2 r2 n=>z2f p.stmts (z0j p.tables 0)=z2f r2 n/\0<=n/\n+1001 * (r2.length:Int)<=100000),?_⟩;refine au ?_ ?_ ?_ (λi2 (n:(Int)) hd2 hI2=>?_) (λi2 x2 r2 (n:(Int)) hd2 hl2 hI2=>?_))
  |(refine ak hd2 ?_ ?_ ?_)
  |((refine ax ?_ ?_ ?_);rotate_left;(exact Jn _))
  |((refine aU ?_ ?_ ?_ ?_ ?_);exact rfl;exact rfl;rotate_left;(first |exact cO hd2 |exact cO hd0))
  |((refine bg ?_ ?_);exact rfl)
  |((refine ai ?_);refine⟨[],rfl,?_,trivial⟩;conv=>whnf)
  |(refine And.intro ?_ ?_)
  |exact @rfl AV _
  |fail)
 all_goals first
  |((exact congrArg D.b (z6a h).symm))
  |((exact congrArg D.b (z0k h hI2.1).symm))
  |((rw[hI0.1];rfl))
  |(decide)
  |((have:=hs.tables;omega))
  |((have h1:=hI0.2.2;have:=hs.stmts;simp only[List.length_nil]at h1;omega))
  |((have h0:=hI0.2.2;have h1:=Ol (n:=x0.values.length) (by omega);simp only[List.length_map,z0l,List.length_cons]at h0 ⊢;rw[gW (by omega) (by omega)];first |omega |(rw[hI0.1,z0j])))
  |((have h0:=hI2.2.2;have h1:=Gz x2.x;have h2:=count_le x2.x;simp only[List.length_cons]at h0;rw[gW (by omega) (by omega)];first |omega |(rw[hI2.1,z2f])))
  |skip
theorem bW(l:List Pr)  : aA Tryz.prog 14 [prs l] (.ret (.b (zY l))):=by
 refine af tok hmix ⟨[],[]⟩ Tryz.func14 rfl (by kernel_rfl) (by kernel_rfl) (by kernel_rfl) λhf=>?_
 have hlen:l.length<=9223372036854775807:=by simpa using(hf (prs l) (by simp)).sl.1
 clear hf
 repeat' ((try(conv=>whnf))<;>first
  |exact trivial
  |exact aK hd0 ‹_›
  |refine BP hd0 ?_
  |refine zD hd0 ?_
  |refine BrI.intro (λh=>?_) (λh=>?_)
  |((refine aN.mk 0 ?_);refine⟨bn (l) 3 (λ(_:Unit)=>[]) (λ(_:Unit)=>[]) [0] (λi0 r0 _=>(l.take 3).all fewP=(r0.take (3-i0)).all fewP),?_⟩;refine au () ?_ ?_ (λi0 (_:Unit) hd0 hI0=>?_) (λi0 x0 r0 (_:Unit) hd0 hl0 hI0=>?_))
  |(refine ak hd0 () ?_ ?_)
  |((refine ax ?_ ?_ ?_);rotate_left;(exact Tt _))
  |((refine aU ?_ ?_ ?_ ?_ ?_);exact rfl;exact rfl;rotate_left;(exact cO hd0))
  |((refine bg ?_ ?_);exact rfl)
  |((refine ai ?_);refine⟨[],rfl,?_,trivial⟩;conv=>whnf)
  |(refine And.intro ?_ ?_)
  |exact @rfl AV _
  |fail)
 all_goals first
  |((exact congrArg D.b (X7 hI0 (.inl rfl))))
  |((exact congrArg D.b (z9k hI0 (of_decide_eq_true ‹decide ((i0:Int)<3)=true›) h).symm))
  |((exact z0m hI0 (of_decide_eq_true ‹decide ((i0:Int)<3)=true›) h))
  |((exact congrArg D.b (X7 hI0 (.inr (by have:=of_decide_eq_false h;omega)))))
  |skip
theorem Ep(x:Ex)(hx:nodes x<=1073741824):aA Tryz.prog 79 [x.d] (.ret (gp x).d):=by
 revert x;refine Ex.ind λx ih hx=>?_
 refine af tok hmix ⟨[],[]⟩ Tryz.func79 rfl (by kernel_rfl) (by kernel_rfl) (by kernel_rfl) λhf=>?_
 have hlen:=Ex.fits (hf x.d (by simp))
 have hN:=DN x
 have hL:=zC x.l
 clear hf
 repeat' ((try(conv=>whnf))<;>first
  |exact trivial
  |exact aK hd1 ‹_›
  |refine BrI.tt ?_
  |refine KJ hd1 ?_
  |refine F6 hd1 ?_
  |refine BrI.intro (λh=>?_) (λh=>?_)
  |((refine aN.mk 1 ?_);refine⟨bn (x.l) 19 (λ(q:(Int)×(List Ex))=>match q with |(k,out)=>[]) (λ(q:(Int)×(List Ex))=>match q with |(k,out)=>[(1,.cells [.data (.i k),.data (.str x.name),.data (.i 0),.data (.i x.n),.gs 900001 5 (out.map Ex.cs)]),(900001,.tok 5 (out.map Ex.cs).length)]) [1,2,17,18] (λi1 r1 q=>match q with |(k,out)=>(xM x.kind=k/\x.l.map gp=out++r1.map gp)/\out.length=i1/\nodesL r1<=1073741824),?_⟩;refine au (?_,([])) ?_ ?_ (λi1 ⟨k,out⟩ hd1 hI1=>?_) (λi1 x1 r1 ⟨k,out⟩ hd1 hl1 hI1=>?_))
  |(refine ak hd1 (?_,(out++[gp x1])) ?_ ?_)
  |((refine ax ?_ ?_ ?_);rotate_left;(exact ih _ (iD hd1) (by have:=hI1.2.2;simp only[nodesL]at this;omega)))
  |(refine aG.l _ ?_)
  |((refine dO ?_ ?_ ?_ ?_ ?_ ?_)<;>exact rfl)
  |((refine eG ?_ ?_ ?_ ?_)<;>exact rfl)
  |((refine aU ?_ ?_ ?_ ?_ ?_);exact rfl;exact rfl;rotate_left;(exact wB hd1))
  |((refine bg ?_ ?_);exact rfl)
  |((refine app_step' ?_ ?_ ?_ ?_ ?_ ?_ ?_);exact rfl;exact rfl;exact rfl;exact rfl)
  |((refine aI ?_ ?_);kernel_rfl)
  |((refine ai ?_);refine⟨[],rfl,?_,trivial⟩;conv=>whnf)
  |(refine And.intro ?_ ?_)
  |((refine qR ?_ ?_ ?_);exact rfl;exact rfl;(first |exact bT |skip))
  |((refine fJ ?_ ?_);exact rfl;(first |exact bT |skip))
  |exact @rfl AV _
  |exact fK rfl
  |fail)
 all_goals first
  |(rfl)
  |((exact z0d h))
  |((exact z0e h))
  |((exact z0f h))
  |((exact z0g ‹_› ‹_› h))
  |(omega)
  |((rw[Ei,hI1.1.1,hI1.1.2];simp only[List.map_nil,List.append_nil,Ex.css_map];rfl))
  |((rw[hI1.1.2];simp only[List.map_cons,List.append_assoc,List.cons_append,List.nil_append];done))
  |((simp only[List.length_append,List.length_cons,List.length_nil];omega))
  |((have:=hI1.2.2;simp only[nodesL]at this;omega))
  |((have:=hI1.2.1;simp only[List.length_map];omega))
  |skip
theorem OT(l:List Sm)(hl:l.length<=1073741824):aC Tryz.prog 78 [.data (.sl 8 (l.map Sm.cs))] [] (.ret (.own 1000000 1 8 0 l.length)) [(1000000,.arr 1 8 (l.map Sm.cs))]:=by
 refine ag tok hmix ⟨[],[]⟩ Tryz.func78 rfl (by kernel_rfl) (by kernel_rfl) (by kernel_rfl) λhf=>?_
 clear hf
 repeat' ((try(conv=>whnf))<;>first
  |(refine aG.r 5 ?_)
  |(obtain rfl:l = []:=(List.length_eq_zero_iff.1 (by simpa using hz));clear hz;refine V4 [(2,.own 5 1 8 0 0)] [(5,.arr 1 8 [])] ?_ ?_)
  |exact trivial
  |refine BrI.tt ?_
  |refine BrI.ff ?_
  |(refine U6.mk (λhz=>?_) ?_)
  |((refine F8 ?_ ?_ ?_ ?_ ?_ ?_ ?_ ?_);exact rfl;exact rfl;exact rfl;exact fK rfl;exact rfl;(exact Nat.zero_le _);(rw[List.length_map];exact hl))
  |(refine fin_step' [(1000000,5)] rfl ?_ ?_)
  |(exact z0p rfl ((Nat.zero_add _).trans (List.length_map _)))
  |(exact V5 rfl)
  |((refine ai ?_);refine fin_step' [(1000000,5)] rfl ?_ ?_)
  |((refine eG ?_ ?_ ?_ ?_)<;>exact rfl)
  |(refine And.intro ?_ ?_)
  |exact @rfl AV _
  |exact @rfl Block _
  |fail)
 all_goals first
  |(rfl)
  |skip
theorem Tu(p:Pr)(hl:p.stmts.length<=1073741823)(hn:∀s∈p.stmts,nodes s.x<=1073741824):aA Tryz.prog 32 [p.d] (.ret (dE p).d):=by
 refine af tok hmix ⟨[7],[]⟩ Tryz.func32 rfl (by kernel_rfl) (by kernel_rfl) (by kernel_rfl) λhf=>?_
 have hlen:p.stmts.length<=9223372036854775807:=by omega
 have hle:p.stmts.length<=1073741824:=by omega
 clear hf
 repeat' ((try(conv=>whnf))<;>first
  |with_reducible exact trivial
  |with_reducible exact aK hd0 ‹_›
  |((with_reducible refine eP hd0 ?_ ?_);(exact rfl))
  |((with_reducible refine dK hd0 ?_ ?_);(exact rfl))
  |((with_reducible refine xw ?_ ?_ ?_ ?_ ?_);exact rfl;exact rfl;exact rfl)
  |((with_reducible refine F7 ?_ ?_ ?_ ?_ ?_);exact rfl;exact rfl;rotate_left;exact X8 hI0)
  |((with_reducible refine rF ?_ ?_ ?_ ?_ ?_ ?_ ?_ ?_ ?_);exact rfl;exact rfl;exact rfl;exact rfl;exact fK rfl;exact rfl;rotate_left;(first |exact X8 hI0 |exact z0n hI0))
  |((with_reducible refine aN.mk 7 ?_);refine⟨⟨Unit,λ_=>[],λ_=>[(1,.cells [.data (.str p.name),.data (.i p.latency),.data (.i p.tail),.data (.sl 3 (p.params.map Bd.cs)),.data (.sl 3 (p.states.map Bd.cs)),.data (.sl 4 (p.lines.map Ln.cs)),.data (.sl 2 (p.tables.map Tb.cs)),.data (.sl 8 ((p.stmts.map uO).map Sm.cs))])],[1,2],λ_=>True,λ_=>0⟩,?_,λ_ _=>?_⟩)
  |(refine⟨(),trivial,?_⟩)
  |((with_reducible refine aN.mk 0 ?_);refine⟨bn (p.stmts) 12 (λ(q:(List Sm)×(List Sm))=>match q with |(dn,rs)=>[]) (λ(q:(List Sm)×(List Sm))=>match q with |(dn,rs)=>[(800000,.arr 1 8 (dn.map smb++rs.map Sm.cs))]) [1,2,10,11] (λi0 r0 q=>match q with |(dn,rs)=>BI p dn rs r0 i0),?_⟩;with_reducible refine au (([]),(p.stmts)) ?_ ?_ (λi0 ⟨dn,rs⟩ hd0 hI0=>?_) (λi0 x0 r0 ⟨dn,rs⟩ hd0 hl0 hI0=>?_))
  |(with_reducible refine ak hd0 ((dn++[x0]),(r0)) ?_ ?_)
  |((with_reducible refine ax ?_ ?_ ?_);rotate_left;(exact Ep _ (hn _ (iD hd0))))
  |((with_reducible refine uG [(1000000,800000)] (OT p.stmts hle) ?_ ?_ ?_ ?_);rotate_left 0;exact rfl;(exact trivial);exact rfl)
  |((with_reducible refine aI ?_ ?_);kernel_rfl)
  |((with_reducible refine ai ?_);refine⟨[],rfl,?_,trivial⟩;conv=>whnf)
  |(with_reducible refine And.intro ?_ ?_)
  |exact @rfl AV _
  |exact @rfl Block _
  |fail)
 all_goals first
  |(rfl)
  |((exact⟨rfl,rfl,rfl⟩))
  |((exact(X9 hI0).1))
  |((have:=(X9 hI0).2;rw[Nat.zero_add]at this;exact this))
  |((exact Int.natCast_nonneg _))
  |((exact z9l hl0))
  |((exact z0o hI0))
  |((refine congrArg (Block.arr 1 8) (z6b hI0 ?_);rfl))
  |skip
theorem Jo(a b:Pr)(hl:b.stmts.length<=1073741823)(hn:∀s∈b.stmts,nodes s.x<=1073741824):aA Tryz.prog 31 [a.d,b.d] (.ret (.b (dV a (dE b)))):=by
 refine af tok hmix ⟨[],[]⟩ Tryz.func31 rfl (by kernel_rfl) (by kernel_rfl) (by kernel_rfl) λhf=>?_
 clear hf
 repeat' ((try(conv=>whnf))<;>first
  |((refine ax ?_ ?_ ?_);rotate_left;(first |exact wU _ _ |exact Tu b hl hn))
  |((refine aI ?_ ?_);kernel_rfl)
  |((refine ai ?_);refine⟨[],rfl,?_,trivial⟩;conv=>whnf)
  |fail)
theorem CJ(l m:List Pr)(hs:∀p∈m,p.stmts.length<=1073741823)(hn:∀p∈m,∀s∈p.stmts,nodes s.x<=1073741824):aA Tryz.prog 30 [prs l,prs m,.fn 31 []] (.ret (.b (lenE (λq=>dV q.1 (dE q.2)) l m))):=by
 refine af tok hmix ⟨[],[]⟩ Tryz.func30 rfl (by kernel_rfl) (by kernel_rfl) (by kernel_rfl) λhf=>?_
 have hlen:l.length<=9223372036854775807:=by simpa using(hf (prs l) (by simp)).sl.1
 clear hf
 repeat' ((try(conv=>whnf))<;>first
  |with_reducible exact trivial
  |with_reducible exact aK hd0 ‹_›
  |((with_reducible refine eP hd0 ?_ ?_);(assumption))
  |((with_reducible refine dK hd0 ?_ ?_);(assumption))
  |with_reducible refine BrI.intro (λh=>?_) (λh=>?_)
  |((with_reducible refine aN.mk 0 ?_);have hz:l.length=m.length:=(by simp at h;omega);have hk0:(l.zip m).length=(l.map Pr.cs).length:=(by rw[bY hz,List.length_map]);have hlz:(l.zip m).length<=9223372036854775807:=(by rw[bY hz];exact hlen);refine⟨bn (l.zip m) 17 (λ(_:Unit)=>[]) (λ(_:Unit)=>[]) [1,2,15,16] (λi0 r0 _=>lenE (λq=>dV q.1 (dE q.2)) l m=r0.all λq=>dV q.1 (dE q.2)),?_⟩;with_reducible refine au () ?_ ?_ (λi0 (_:Unit) hd0 hI0=>?_) (λi0 x0 r0 (_:Unit) hd0 hl0 hI0=>?_))
  |(with_reducible refine ak hd0 () ?_ ?_)
  |((with_reducible refine ax ?_ ?_ ?_);rotate_left;(exact Jo _ _ (hs _ (List.of_mem_zip (iD hd0)).2) (hn _ (List.of_mem_zip (iD hd0)).2)))
  |((with_reducible refine aU ?_ ?_ ?_ ?_ ?_);exact rfl;exact rfl;rotate_left;(first |with_reducible exact fV hd0 |with_reducible exact fZ hd0))
  |((with_reducible refine bg ?_ ?_);exact rfl)
  |((with_reducible refine ai ?_);refine⟨[],rfl,?_,trivial⟩;conv=>whnf)
  |(with_reducible refine And.intro ?_ ?_)
  |exact @rfl AV _
  |fail)
 all_goals(try simp only[Bool.cond_true_left,Bool.cond_false_right,Bool.cond_false_left,Bool.cond_true_right,Bool.not_eq_true',Bool.not_eq_false',bne,Ex.css_len,List.length_map,Int.toNat_zero]at *)
 all_goals first
  |(rw[hI0];(try simp only[List.all_cons,Bool.not_true,Bool.not_false,Bool.and_true,Bool.true_and,Bool.and_false,Bool.false_and,Bool.or_true,Bool.true_or,Bool.or_false,Bool.false_or,if_true,if_false,reduceIte,Bool.false_eq_true,Bool.not_not,Bool.not_eq_true',beq_self_eq_true,List.all_cons,List.all_nil,List.any_cons,List.any_nil,List.length_map,bne,eq_self,Int.toNat_zero, *]);first |done |rfl)
  |(simp only[lenE,Bool.not_true,Bool.not_false,Bool.and_true,Bool.true_and,Bool.and_false,Bool.false_and,Bool.or_true,Bool.true_or,Bool.or_false,Bool.false_or,if_true,if_false,reduceIte,Bool.false_eq_true,Bool.not_not,Bool.not_eq_true',beq_self_eq_true,List.all_cons,List.all_nil,List.any_cons,List.any_nil,List.length_map,bne,eq_self,Int.toNat_zero, *];done)
  |skip
end Go.Proofs.YtmfehangcmbidaaGreatDoor
