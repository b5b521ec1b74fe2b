/- Contracts: package syntax and its reference: equality of processors. -/
import Derived.Test.YtmfehangcmbidaaGreatDoorZDS
set_option linter.unusedSectionVars false
set_option linter.unusedSimpArgs false
set_option linter.unusedVariables false
set_option maxHeartbeats 8000000
namespace Go.Proofs.YtmfehangcmbidaaGreatDoor
open Go.Fw Go.Fw.Ref15 Go.Fw.Sy
set_option maxRecDepth 10000
variable [ae]
theorem Kr(l m:List Int)  : aj Tryz.prog 64 [ints l,ints m] (.ret (.b (TU l m))):=by
 refine dM Tryz.func64 λhf=>?_
 have hlen:l.length<=9223372036854775807:=by simpa using(hf (ints l) (by simp)).sl.1
 clear hf
 repeat' ((try(conv=>whnf))<;>first
  |with_reducible exact trivial
  |with_reducible exact ah hd0 ‹_›
  |((with_reducible refine dC hd0 ?_ ?_);(assumption))
  |((with_reducible refine bT hd0 ?_ ?_);(assumption))
  |with_reducible refine BrI.intro (λh=>?_) (λh=>?_)
  |((with_reducible refine ak.mk 0 ?_);have hz:l.length=m.length:=(by simp at h;omega);have hk0:(l.zip m).length=(l.map U7).length:=(by rw[di hz,List.length_map]);have hlz:(l.zip m).length<=9223372036854775807:=(by rw[di hz];exact hlen);refine⟨aF (l.zip m) 13 (λ(_:Unit)=>[]) (λ(_:Unit)=>[]) [0,1,12] (λi0 r0 _=>TU l m=r0.all z5g),?_⟩;with_reducible refine ag () ?_ ?_ (λi0 (_:Unit) hd0 hI0=>?_) (λi0 x0 r0 (_:Unit) hd0 hl0 hI0=>?_))
  |(with_reducible refine af hd0 () ?_ ?_)
  |((with_reducible refine aJ ?_ ?_ ?_ ?_ ?_);exact rfl;exact rfl;rotate_left;(first |with_reducible exact gQ hd0 |with_reducible exact gU hd0))
  |((with_reducible refine aH ?_ ?_);kernel_rfl)
  |((with_reducible refine aC ?_);refine⟨[],rfl,?_,trivial⟩;conv=>whnf)
  |(with_reducible refine And.intro ?_ ?_)
  |exact @rfl AV _
  |fail)
 all_goals(try simp only[csimp]at *)
 all_goals first
  |(rw[hI0];(try simp only[z5g,Bool.not_true,Bool.not_false,Bool.and_true,Bool.true_and,Bool.and_false,Bool.false_and,Bool.or_true,Bool.true_or,Bool.or_false,Bool.false_or,if_true,if_false,reduceIte,Bool.false_eq_true,Bool.not_not,Bool.not_eq_true',beq_self_eq_true,List.all_cons,List.all_nil,List.any_cons,List.any_nil,List.length_map,bne,eq_self,Int.toNat_zero, *]);first |done |rfl)
  |(simp only[TU,lenE,Bool.not_true,Bool.not_false,Bool.and_true,Bool.true_and,Bool.and_false,Bool.false_and,Bool.or_true,Bool.true_or,Bool.or_false,Bool.false_or,if_true,if_false,reduceIte,Bool.false_eq_true,Bool.not_not,Bool.not_eq_true',beq_self_eq_true,List.all_cons,List.all_nil,List.any_cons,List.any_nil,List.length_map,bne,eq_self,Int.toNat_zero, *];done)
  |skip
theorem PS(l m:List Bd)  : aj Tryz.prog 67 [.sl 3 (l.map Bd.cs),.sl 3 (m.map Bd.cs)] (.ret (.b (dK l m))):=by
 refine dM Tryz.func67 λhf=>?_
 have hlen:l.length<=9223372036854775807:=by simpa using(hf (.sl 3 (l.map Bd.cs)) (by simp)).sl.1
 clear hf
 repeat' ((try(conv=>whnf))<;>first
  |with_reducible exact trivial
  |with_reducible exact ah hd0 ‹_›
  |((with_reducible refine dC hd0 ?_ ?_);(assumption))
  |((with_reducible refine bT hd0 ?_ ?_);(assumption))
  |with_reducible refine BrI.intro (λh=>?_) (λh=>?_)
  |((with_reducible refine ak.mk 0 ?_);have hz:l.length=m.length:=(by simp at h;omega);have hk0:(l.zip m).length=(l.map Bd.cs).length:=(by rw[di hz,List.length_map]);have hlz:(l.zip m).length<=9223372036854775807:=(by rw[di hz];exact hlen);refine⟨aF (l.zip m) 13 (λ(_:Unit)=>[]) (λ(_:Unit)=>[]) [0,1,12] (λi0 r0 _=>dK l m=r0.all rJ),?_⟩;with_reducible refine ag () ?_ ?_ (λi0 (_:Unit) hd0 hI0=>?_) (λi0 x0 r0 (_:Unit) hd0 hl0 hI0=>?_))
  |(with_reducible refine af hd0 () ?_ ?_)
  |((with_reducible refine yN ?_ ?_ ?_);exact rfl;exact rfl)
  |((with_reducible refine aJ ?_ ?_ ?_ ?_ ?_);exact rfl;exact rfl;rotate_left;(first |with_reducible exact gQ hd0 |with_reducible exact gU hd0))
  |((with_reducible refine aV ?_ ?_);exact rfl)
  |((with_reducible refine aH ?_ ?_);kernel_rfl)
  |((with_reducible refine aC ?_);refine⟨[],rfl,?_,trivial⟩;conv=>whnf)
  |(with_reducible refine And.intro ?_ ?_)
  |exact @rfl AV _
  |fail)
 all_goals(try simp only[csimp]at *)
 all_goals first
  |(rw[hI0];(try simp only[rJ,Bool.not_true,Bool.not_false,Bool.and_true,Bool.true_and,Bool.and_false,Bool.false_and,Bool.or_true,Bool.true_or,Bool.or_false,Bool.false_or,if_true,if_false,reduceIte,Bool.false_eq_true,Bool.not_not,Bool.not_eq_true',beq_self_eq_true,List.all_cons,List.all_nil,List.any_cons,List.any_nil,List.length_map,bne,eq_self,Int.toNat_zero, *]);first |done |rfl)
  |(simp only[dK,Bool.not_true,Bool.not_false,Bool.and_true,Bool.true_and,Bool.and_false,Bool.false_and,Bool.or_true,Bool.true_or,Bool.or_false,Bool.false_or,if_true,if_false,reduceIte,Bool.false_eq_true,Bool.not_not,Bool.not_eq_true',beq_self_eq_true,List.all_cons,List.all_nil,List.any_cons,List.any_nil,List.length_map,bne,eq_self,Int.toNat_zero, *];done)
  |skip
theorem PT(l m:List Ln)  : aj Tryz.prog 68 [.sl 4 (l.map Ln.cs),.sl 4 (m.map Ln.cs)] (.ret (.b (lenE lM l m))):=by
 refine dM Tryz.func68 λhf=>?_
 have hlen:l.length<=9223372036854775807:=by simpa using(hf (.sl 4 (l.map Ln.cs)) (by simp)).sl.1
 clear hf
 repeat' ((try(conv=>whnf))<;>first
  |with_reducible exact trivial
  |with_reducible exact ah hd0 ‹_›
  |((with_reducible refine dC hd0 ?_ ?_);(assumption))
  |((with_reducible refine bT hd0 ?_ ?_);(assumption))
  |with_reducible refine BrI.intro (λh=>?_) (λh=>?_)
  |((with_reducible refine ak.mk 0 ?_);have hz:l.length=m.length:=(by simp at h;omega);have hk0:(l.zip m).length=(l.map Ln.cs).length:=(by rw[di hz,List.length_map]);have hlz:(l.zip m).length<=9223372036854775807:=(by rw[di hz];exact hlen);refine⟨aF (l.zip m) 13 (λ(_:Unit)=>[]) (λ(_:Unit)=>[]) [0,1,12] (λi0 r0 _=>lenE lM l m=r0.all lM),?_⟩;with_reducible refine ag () ?_ ?_ (λi0 (_:Unit) hd0 hI0=>?_) (λi0 x0 r0 (_:Unit) hd0 hl0 hI0=>?_))
  |(with_reducible refine af hd0 () ?_ ?_)
  |((with_reducible refine yN ?_ ?_ ?_);exact rfl;exact rfl)
  |((with_reducible refine aJ ?_ ?_ ?_ ?_ ?_);exact rfl;exact rfl;rotate_left;(first |with_reducible exact gQ hd0 |with_reducible exact gU hd0))
  |((with_reducible refine aV ?_ ?_);exact rfl)
  |((with_reducible refine aH ?_ ?_);kernel_rfl)
  |((with_reducible refine aC ?_);refine⟨[],rfl,?_,trivial⟩;conv=>whnf)
  |(with_reducible refine And.intro ?_ ?_)
  |exact @rfl AV _
  |fail)
 all_goals(try simp only[csimp]at *)
 all_goals first
  |(rw[hI0];(try simp only[lM,Bool.not_true,Bool.not_false,Bool.and_true,Bool.true_and,Bool.and_false,Bool.false_and,Bool.or_true,Bool.true_or,Bool.or_false,Bool.false_or,if_true,if_false,reduceIte,Bool.false_eq_true,Bool.not_not,Bool.not_eq_true',beq_self_eq_true,List.all_cons,List.all_nil,List.any_cons,List.any_nil,List.length_map,bne,eq_self,Int.toNat_zero, *]);first |done |rfl)
  |(simp only[lenE,Bool.not_true,Bool.not_false,Bool.and_true,Bool.true_and,Bool.and_false,Bool.false_and,Bool.or_true,Bool.true_or,Bool.or_false,Bool.false_or,if_true,if_false,reduceIte,Bool.false_eq_true,Bool.not_not,Bool.not_eq_true',beq_self_eq_true,List.all_cons,List.all_nil,List.any_cons,List.any_nil,List.length_map,bne,eq_self,Int.toNat_zero, *];done)
  |skip
theorem Xu(a b:Tb)  : aj Tryz.prog 63 [.agg a.cs,.agg b.cs] (.ret (.b (tbE (a,b)))):=by
 refine bV Tryz.func63 ?_
 repeat' ((try(conv=>whnf))<;>first
  |((with_reducible refine ai ?_ ?_ ?_);rotate_left;(exact Kr _ _))
  |((with_reducible refine aP ?_ ?_ (λhg=>?_) ?_);exact rfl)
  |((with_reducible refine bH ?_ ?_);with_reducible exact rfl;with_reducible exact rfl)
  |((with_reducible refine aC ?_);refine⟨[],rfl,?_,trivial⟩;conv=>whnf)
  |fail)
 all_goals(try simp only[csimp]at *)
 all_goals first
  |(simp only[tbE,Bool.not_true,Bool.not_false,Bool.and_true,Bool.true_and,Bool.and_false,Bool.false_and,Bool.or_true,Bool.true_or,Bool.or_false,Bool.false_or,if_true,if_false,reduceIte,Bool.false_eq_true,Bool.not_not,Bool.not_eq_true',beq_self_eq_true,List.all_cons,List.all_nil,List.any_cons,List.any_nil,List.length_map,bne,eq_self,Int.toNat_zero, *];done)
  |skip
theorem PU(l m:List Ex)(ih:∀x∈l,∀y,aj Tryz.prog 66 [x.d,y.d] (.ret (.b (dG x y)))):aj Tryz.prog 107 [.sl 5 (l.map Ex.cs),.sl 5 (m.map Ex.cs),.fn 66 []] (.ret (.b (z5h l m))):=by
 refine dM Tryz.func107 λhf=>?_
 have hlen:l.length<=9223372036854775807:=by simpa using(hf (.sl 5 (l.map Ex.cs)) (by simp)).sl.1
 clear hf
 repeat' ((try(conv=>whnf))<;>first
  |with_reducible exact trivial
  |with_reducible exact ah hd0 ‹_›
  |((with_reducible refine dC hd0 ?_ ?_);(assumption))
  |((with_reducible refine bT hd0 ?_ ?_);(assumption))
  |with_reducible refine BrI.intro (λh=>?_) (λh=>?_)
  |((with_reducible refine ak.mk 0 ?_);have hz:l.length=m.length:=(by simp at h;omega);have hk0:(l.zip m).length=(l.map Ex.cs).length:=(by rw[di hz,List.length_map]);have hlz:(l.zip m).length<=9223372036854775807:=(by rw[di hz];exact hlen);refine⟨aF (l.zip m) 17 (λ(_:Unit)=>[]) (λ(_:Unit)=>[]) [1,2,15,16] (λi0 r0 _=>z5h l m=r0.all exE),?_⟩;with_reducible refine ag () ?_ ?_ (λi0 (_:Unit) hd0 hI0=>?_) (λi0 x0 r0 (_:Unit) hd0 hl0 hI0=>?_))
  |(with_reducible refine af hd0 () ?_ ?_)
  |((with_reducible refine ai ?_ ?_ ?_);rotate_left;(exact ih _ (List.of_mem_zip (dB hd0)).1 _))
  |((with_reducible refine aJ ?_ ?_ ?_ ?_ ?_);exact rfl;exact rfl;rotate_left;(first |with_reducible exact gQ hd0 |with_reducible exact gU hd0))
  |((with_reducible refine aV ?_ ?_);exact rfl)
  |((with_reducible refine aC ?_);refine⟨[],rfl,?_,trivial⟩;conv=>whnf)
  |(with_reducible refine And.intro ?_ ?_)
  |exact @rfl AV _
  |fail)
 all_goals(try simp only[csimp]at *)
 all_goals first
  |(rw[hI0];(try simp only[exE,Bool.not_true,Bool.not_false,Bool.and_true,Bool.true_and,Bool.and_false,Bool.false_and,Bool.or_true,Bool.true_or,Bool.or_false,Bool.false_or,if_true,if_false,reduceIte,Bool.false_eq_true,Bool.not_not,Bool.not_eq_true',beq_self_eq_true,List.all_cons,List.all_nil,List.any_cons,List.any_nil,List.length_map,bne,eq_self,Int.toNat_zero, *]);first |done |rfl)
  |(simp only[z5h,lenE,Bool.not_true,Bool.not_false,Bool.and_true,Bool.true_and,Bool.and_false,Bool.false_and,Bool.or_true,Bool.true_or,Bool.or_false,Bool.false_or,if_true,if_false,reduceIte,Bool.false_eq_true,Bool.not_not,Bool.not_eq_true',beq_self_eq_true,List.all_cons,List.all_nil,List.any_cons,List.any_nil,List.length_map,bne,eq_self,Int.toNat_zero, *];done)
  |skip
theorem BJ(a b:Ex)  : aj Tryz.prog 66 [a.d,b.d] (.ret (.b (dG a b))):=by
 revert b;revert a;refine Ex.ind λa ih b=>?_
 refine bV Tryz.func66 ?_
 repeat' ((try(conv=>whnf))<;>first
  |((with_reducible refine ai ?_ ?_ ?_);rotate_left;((have hq:=PU a.l b.l ih;rw[<-Ex.css_eq,<-Ex.css_eq]at hq;exact hq)))
  |((with_reducible refine aP ?_ ?_ (λhg=>?_) ?_);exact rfl)
  |((with_reducible refine bH ?_ ?_);with_reducible exact rfl;with_reducible exact rfl)
  |((with_reducible refine aC ?_);refine⟨[],rfl,?_,trivial⟩;conv=>whnf)
  |fail)
 all_goals(try simp only[csimp]at *)
 all_goals first
  |((exact congrArg D.b (EH a b)))
  |skip
theorem Xv(a b:Sm)  : aj Tryz.prog 65 [a.d,b.d] (.ret (.b (smE (a,b)))):=by
 refine bV Tryz.func65 ?_
 repeat' ((try(conv=>whnf))<;>first
  |((with_reducible refine ai ?_ ?_ ?_);rotate_left;(exact BJ _ _))
  |((with_reducible refine aP ?_ ?_ (λhg=>?_) ?_);exact rfl)
  |((with_reducible refine bH ?_ ?_);with_reducible exact rfl;with_reducible exact rfl)
  |((with_reducible refine aC ?_);refine⟨[],rfl,?_,trivial⟩;conv=>whnf)
  |fail)
 all_goals(try simp only[csimp]at *)
 all_goals first
  |(simp only[smE,Bool.not_true,Bool.not_false,Bool.and_true,Bool.true_and,Bool.and_false,Bool.false_and,Bool.or_true,Bool.true_or,Bool.or_false,Bool.false_or,if_true,if_false,reduceIte,Bool.false_eq_true,Bool.not_not,Bool.not_eq_true',beq_self_eq_true,List.all_cons,List.all_nil,List.any_cons,List.any_nil,List.length_map,bne,eq_self,Int.toNat_zero, *];done)
  |skip
theorem PV(l m:List Tb)  : aj Tryz.prog 69 [.sl 2 (l.map Tb.cs),.sl 2 (m.map Tb.cs),.fn 63 []] (.ret (.b (lenE tbE l m))):=by
 refine dM Tryz.func69 λhf=>?_
 have hlen:l.length<=9223372036854775807:=by simpa using(hf (.sl 2 (l.map Tb.cs)) (by simp)).sl.1
 clear hf
 repeat' ((try(conv=>whnf))<;>first
  |with_reducible exact trivial
  |with_reducible exact ah hd0 ‹_›
  |((with_reducible refine dC hd0 ?_ ?_);(assumption))
  |((with_reducible refine bT hd0 ?_ ?_);(assumption))
  |with_reducible refine BrI.intro (λh=>?_) (λh=>?_)
  |((with_reducible refine ak.mk 0 ?_);have hz:l.length=m.length:=(by simp at h;omega);have hk0:(l.zip m).length=(l.map Tb.cs).length:=(by rw[di hz,List.length_map]);have hlz:(l.zip m).length<=9223372036854775807:=(by rw[di hz];exact hlen);refine⟨aF (l.zip m) 17 (λ(_:Unit)=>[]) (λ(_:Unit)=>[]) [1,2,15,16] (λi0 r0 _=>lenE tbE l m=r0.all tbE),?_⟩;with_reducible refine ag () ?_ ?_ (λi0 (_:Unit) hd0 hI0=>?_) (λi0 x0 r0 (_:Unit) hd0 hl0 hI0=>?_))
  |(with_reducible refine af hd0 () ?_ ?_)
  |((with_reducible refine ai ?_ ?_ ?_);rotate_left;(exact Xu _ _))
  |((with_reducible refine aJ ?_ ?_ ?_ ?_ ?_);exact rfl;exact rfl;rotate_left;(first |with_reducible exact gQ hd0 |with_reducible exact gU hd0))
  |((with_reducible refine aV ?_ ?_);exact rfl)
  |((with_reducible refine aC ?_);refine⟨[],rfl,?_,trivial⟩;conv=>whnf)
  |(with_reducible refine And.intro ?_ ?_)
  |exact @rfl AV _
  |fail)
 all_goals(try simp only[csimp]at *)
 all_goals first
  |(rw[hI0];(try simp only[List.all_cons,Bool.not_true,Bool.not_false,Bool.and_true,Bool.true_and,Bool.and_false,Bool.false_and,Bool.or_true,Bool.true_or,Bool.or_false,Bool.false_or,if_true,if_false,reduceIte,Bool.false_eq_true,Bool.not_not,Bool.not_eq_true',beq_self_eq_true,List.all_cons,List.all_nil,List.any_cons,List.any_nil,List.length_map,bne,eq_self,Int.toNat_zero, *]);first |done |rfl)
  |(simp only[lenE,Bool.not_true,Bool.not_false,Bool.and_true,Bool.true_and,Bool.and_false,Bool.false_and,Bool.or_true,Bool.true_or,Bool.or_false,Bool.false_or,if_true,if_false,reduceIte,Bool.false_eq_true,Bool.not_not,Bool.not_eq_true',beq_self_eq_true,List.all_cons,List.all_nil,List.any_cons,List.any_nil,List.length_map,bne,eq_self,Int.toNat_zero, *];done)
  |skip
theorem PW(l m:List Sm)  : aj Tryz.prog 70 [.sl 8 (l.map Sm.cs),.sl 8 (m.map Sm.cs),.fn 65 []] (.ret (.b (lenE smE l m))):=by
 refine dM Tryz.func70 λhf=>?_
 have hlen:l.length<=9223372036854775807:=by simpa using(hf (.sl 8 (l.map Sm.cs)) (by simp)).sl.1
 clear hf
 repeat' ((try(conv=>whnf))<;>first
  |with_reducible exact trivial
  |with_reducible exact ah hd0 ‹_›
  |((with_reducible refine dC hd0 ?_ ?_);(assumption))
  |((with_reducible refine bT hd0 ?_ ?_);(assumption))
  |with_reducible refine BrI.intro (λh=>?_) (λh=>?_)
  |((with_reducible refine ak.mk 0 ?_);have hz:l.length=m.length:=(by simp at h;omega);have hk0:(l.zip m).length=(l.map Sm.cs).length:=(by rw[di hz,List.length_map]);have hlz:(l.zip m).length<=9223372036854775807:=(by rw[di hz];exact hlen);refine⟨aF (l.zip m) 17 (λ(_:Unit)=>[]) (λ(_:Unit)=>[]) [1,2,15,16] (λi0 r0 _=>lenE smE l m=r0.all smE),?_⟩;with_reducible refine ag () ?_ ?_ (λi0 (_:Unit) hd0 hI0=>?_) (λi0 x0 r0 (_:Unit) hd0 hl0 hI0=>?_))
  |(with_reducible refine af hd0 () ?_ ?_)
  |((with_reducible refine ai ?_ ?_ ?_);rotate_left;(exact Xv _ _))
  |((with_reducible refine aJ ?_ ?_ ?_ ?_ ?_);exact rfl;exact rfl;rotate_left;(first |with_reducible exact gQ hd0 |with_reducible exact gU hd0))
  |((with_reducible refine aV ?_ ?_);exact rfl)
  |((with_reducible refine aC ?_);refine⟨[],rfl,?_,trivial⟩;conv=>whnf)
  |(with_reducible refine And.intro ?_ ?_)
  |exact @rfl AV _
  |fail)
 all_goals(try simp only[csimp]at *)
 all_goals first
  |(rw[hI0];(try simp only[List.all_cons,Bool.not_true,Bool.not_false,Bool.and_true,Bool.true_and,Bool.and_false,Bool.false_and,Bool.or_true,Bool.true_or,Bool.or_false,Bool.false_or,if_true,if_false,reduceIte,Bool.false_eq_true,Bool.not_not,Bool.not_eq_true',beq_self_eq_true,List.all_cons,List.all_nil,List.any_cons,List.any_nil,List.length_map,bne,eq_self,Int.toNat_zero, *]);first |done |rfl)
  |(simp only[lenE,Bool.not_true,Bool.not_false,Bool.and_true,Bool.true_and,Bool.and_false,Bool.false_and,Bool.or_true,Bool.true_or,Bool.or_false,Bool.false_or,if_true,if_false,reduceIte,Bool.false_eq_true,Bool.not_not,Bool.not_eq_true',beq_self_eq_true,List.all_cons,List.all_nil,List.any_cons,List.any_nil,List.length_map,bne,eq_self,Int.toNat_zero, *];done)
  |skip
theorem PX(a b:Pr)  : aj Tryz.prog 27 [a.d,b.d] (.ret (.b (lS a b))):=by
 refine bV Tryz.func27 ?_
 repeat' ((try(conv=>whnf))<;>first
  |((with_reducible refine ai ?_ ?_ ?_);rotate_left;(first |exact PS _ _ |exact PT _ _ |exact PV _ _ |exact PW _ _))
  |((with_reducible refine aP ?_ ?_ (λhg=>?_) ?_);exact rfl)
  |((with_reducible refine bH ?_ ?_);with_reducible exact rfl;with_reducible exact rfl)
  |((with_reducible refine aC ?_);refine⟨[],rfl,?_,trivial⟩;conv=>whnf)
  |fail)
 all_goals(try simp only[csimp]at *)
 all_goals first
  |(simp only[lS,TV,Bool.not_true,Bool.not_false,Bool.and_true,Bool.true_and,Bool.and_false,Bool.false_and,Bool.or_true,Bool.true_or,Bool.or_false,Bool.false_or,if_true,if_false,reduceIte,Bool.false_eq_true,Bool.not_not,Bool.not_eq_true',beq_self_eq_true,List.all_cons,List.all_nil,List.any_cons,List.any_nil,List.length_map,bne,eq_self,Int.toNat_zero, *];done)
  |skip
theorem E5(x:Ex)(hx:nodes x<=1073741824):aj Tryz.prog 79 [x.d] (.ret (bareX x).d):=by
 revert x;refine Ex.ind λx ih hx=>?_
 refine dM Tryz.func79 λhf=>?_
 have hlen:=Ex.fits (hf x.d (by simp))
 have hN:=jC x
 have hL:=uT x.l
 clear hf
 repeat' ((try(conv=>whnf))<;>first
  |exact trivial
  |exact ah hd1 ‹_›
  |refine BrI.tt ?_
  |refine nK hd1 ?_
  |refine kR hd1 ?_
  |refine BrI.intro (λh=>?_) (λh=>?_)
  |((refine ak.mk 1 ?_);refine⟨aF (x.l) 19 (λ(q:(Int)×(List Ex))=>match q with |(k,out)=>[]) (λ(q:(Int)×(List Ex))=>match q with |(k,out)=>[(1,.cells [.data (.i k),.data (.str x.name),.data (.i 0),.data (.i x.n),.gs 900001 5 (out.map Ex.cs)]),(900001,.tok 5 (out.map Ex.cs).length)]) [1,2,17,18] (λi1 r1 q=>match q with |(k,out)=>(BG x.kind=k/\x.l.map bareX=out++r1.map bareX)/\out.length=i1/\nodesL r1<=1073741824),?_⟩;refine ag (?_,([])) ?_ ?_ (λi1 ⟨k,out⟩ hd1 hI1=>?_) (λi1 x1 r1 ⟨k,out⟩ hd1 hl1 hI1=>?_))
  |(refine af hd1 (?_,(out++[bareX x1])) ?_ ?_)
  |((refine ai ?_ ?_ ?_);rotate_left;(exact ih _ (dB hd1) (by have:=hI1.2.2;simp only[nodesL]at this;omega)))
  |(refine aB.l _ ?_)
  |((refine bW ?_ ?_ ?_ ?_ ?_ ?_)<;>exact rfl)
  |((refine dm ?_ ?_ ?_ ?_)<;>exact rfl)
  |((refine aJ ?_ ?_ ?_ ?_ ?_);exact rfl;exact rfl;rotate_left;(exact jq hd1))
  |((refine aV ?_ ?_);exact rfl)
  |((refine app_step' ?_ ?_ ?_ ?_ ?_ ?_ ?_);exact rfl;exact rfl;exact rfl;exact rfl)
  |((refine aH ?_ ?_);kernel_rfl)
  |(refine qo ?_;conv=>whnf)
  |(refine And.intro ?_ ?_)
  |((refine oD ?_ ?_ ?_);exact rfl;exact rfl;(first |exact dO |skip))
  |((refine fH ?_ ?_);exact rfl;(first |exact dO |skip))
  |exact @rfl AV _
  |exact eX rfl
  |fail)
 all_goals first
  |(rfl)
  |((exact z0n h))
  |((exact z0o h))
  |((exact z0p h))
  |((exact z0q ‹_› ‹_› h))
  |(omega)
  |((rw[qC,hI1.1.1,hI1.1.2];simp only[List.map_nil,List.append_nil,Ex.css_map];rfl))
  |((rw[hI1.1.2];simp only[List.map_cons,List.append_assoc,List.cons_append,List.nil_append];done))
  |((simp only[List.length_append,List.length_cons,List.length_nil];omega))
  |((have:=hI1.2.2;simp only[nodesL]at this;omega))
  |((have:=hI1.2.1;simp only[List.length_map];omega))
  |skip
theorem PY(l:List Sm)(hl:l.length<=1073741824):ax Tryz.prog 78 [.data (.sl 8 (l.map Sm.cs))] [] (.ret (.own 1000000 1 8 0 l.length)) [(1000000,.arr 1 8 (l.map Sm.cs))]:=by
 refine bg Tryz.func78 ?_
 repeat' ((try(conv=>whnf))<;>first
  |(refine aB.r 5 ?_)
  |(obtain rfl:l = []:=(List.length_eq_zero_iff.1 (by simpa using hz));clear hz;refine WP [(2,.own 5 1 8 0 0)] [(5,.arr 1 8 [])] ?_ ?_)
  |exact trivial
  |refine BrI.tt ?_
  |refine BrI.ff ?_
  |(refine VI.mk (λhz=>?_) ?_)
  |((refine GR ?_ ?_ ?_ ?_ ?_ ?_ ?_ ?_);exact rfl;exact rfl;exact rfl;exact eX rfl;exact rfl;(exact Nat.zero_le _);(rw[List.length_map];exact hl))
  |(refine fin_step' [(1000000,5)] rfl ?_ ?_)
  |(exact z0t rfl ((Nat.zero_add _).trans (List.length_map _)))
  |(exact WQ rfl)
  |((refine aC ?_);refine fin_step' [(1000000,5)] rfl ?_ ?_)
  |((refine dm ?_ ?_ ?_ ?_)<;>exact rfl)
  |(refine And.intro ?_ ?_)
  |exact @rfl AV _
  |exact @rfl Block _
  |fail)
 all_goals first
  |(rfl)
  |skip
theorem U0(p:Pr)(hl:p.stmts.length<=1073741823)(hn:∀s∈p.stmts,nodes s.x<=1073741824):aj Tryz.prog 32 [p.d] (.ret (bareP p).d):=by
 refine nJ tok hmix ⟨[7],[]⟩ Tryz.func32 rfl (by kernel_rfl) (by kernel_rfl) (by kernel_rfl) λhf=>?_
 have hlen:p.stmts.length<=9223372036854775807:=by omega
 have hle:p.stmts.length<=1073741824:=by omega
 clear hf
 repeat' ((try(conv=>whnf))<;>first
  |with_reducible exact trivial
  |with_reducible exact ah hd0 ‹_›
  |((with_reducible refine dC hd0 ?_ ?_);(exact rfl))
  |((with_reducible refine bT hd0 ?_ ?_);(exact rfl))
  |((with_reducible refine xR ?_ ?_ ?_ ?_ ?_);exact rfl;exact rfl;exact rfl)
  |((with_reducible refine GN ?_ ?_ ?_ ?_ ?_);exact rfl;exact rfl;rotate_left;exact Yj hI0)
  |((with_reducible refine rO ?_ ?_ ?_ ?_ ?_ ?_ ?_ ?_ ?_);exact rfl;exact rfl;exact rfl;exact rfl;exact eX rfl;exact rfl;rotate_left;(first |exact Yj hI0 |exact z0r hI0))
  |((with_reducible refine ak.mk 7 ?_);refine⟨⟨Unit,λ_=>[],λ_=>[(1,.cells [.data (.str p.name),.data (.i p.latency),.data (.i p.tail),.data (.sl 3 (p.params.map Bd.cs)),.data (.sl 3 (p.states.map Bd.cs)),.data (.sl 4 (p.lines.map Ln.cs)),.data (.sl 2 (p.tables.map Tb.cs)),.data (.sl 8 ((p.stmts.map bareS).map Sm.cs))])],[1,2],λ_=>True,λ_=>0⟩,?_,λ_ _=>?_⟩)
  |(refine⟨(),trivial,?_⟩)
  |((with_reducible refine ak.mk 0 ?_);refine⟨aF (p.stmts) 12 (λ(q:(List Sm)×(List Sm))=>match q with |(dn,rs)=>[]) (λ(q:(List Sm)×(List Sm))=>match q with |(dn,rs)=>[(800000,.arr 1 8 (dn.map smb++rs.map Sm.cs))]) [1,2,10,11] (λi0 r0 q=>match q with |(dn,rs)=>BI p dn rs r0 i0),?_⟩;with_reducible refine ag (([]),(p.stmts)) ?_ ?_ (λi0 ⟨dn,rs⟩ hd0 hI0=>?_) (λi0 x0 r0 ⟨dn,rs⟩ hd0 hl0 hI0=>?_))
  |(with_reducible refine af hd0 ((dn++[x0]),(r0)) ?_ ?_)
  |((with_reducible refine ai ?_ ?_ ?_);rotate_left;(exact E5 _ (hn _ (dB hd0))))
  |((with_reducible refine iq [(1000000,800000)] (PY p.stmts hle) ?_ ?_ ?_ ?_);rotate_left 0;exact rfl;(exact trivial);exact rfl)
  |((with_reducible refine aH ?_ ?_);kernel_rfl)
  |((with_reducible refine aC ?_);refine⟨[],rfl,?_,trivial⟩;conv=>whnf)
  |(with_reducible refine And.intro ?_ ?_)
  |exact @rfl AV _
  |exact @rfl Block _
  |fail)
 all_goals first
  |(rfl)
  |((exact⟨rfl,rfl,rfl⟩))
  |((exact(Yk hI0).1))
  |((have:=(Yk hI0).2;rw[Nat.zero_add]at this;exact this))
  |((exact Int.natCast_nonneg _))
  |((exact z7z hl0))
  |((exact z0s hI0))
  |((refine congrArg (Block.arr 1 8) (z5i hI0 ?_);rfl))
  |skip
theorem Kt(a b:Pr)(hl:b.stmts.length<=1073741823)(hn:∀s∈b.stmts,nodes s.x<=1073741824):aj Tryz.prog 31 [a.d,b.d] (.ret (.b (lS a (bareP b)))):=by
 refine bV Tryz.func31 ?_
 repeat' ((try(conv=>whnf))<;>first
  |((refine ai ?_ ?_ ?_);rotate_left;(first |exact PX _ _ |exact U0 b hl hn))
  |((refine aH ?_ ?_);kernel_rfl)
  |(refine qo ?_;conv=>whnf)
  |fail)
theorem DD(l m:List Pr)(hs:∀p∈m,p.stmts.length<=1073741823)(hn:∀p∈m,∀s∈p.stmts,nodes s.x<=1073741824):aj Tryz.prog 30 [prs l,prs m,.fn 31 []] (.ret (.b (lenE (λq=>lS q.1 (bareP q.2)) l m))):=by
 refine dM Tryz.func30 λhf=>?_
 have hlen:l.length<=9223372036854775807:=by simpa using(hf (prs l) (by simp)).sl.1
 clear hf
 repeat' ((try(conv=>whnf))<;>first
  |with_reducible exact trivial
  |with_reducible exact ah hd0 ‹_›
  |((with_reducible refine dC hd0 ?_ ?_);(assumption))
  |((with_reducible refine bT hd0 ?_ ?_);(assumption))
  |with_reducible refine BrI.intro (λh=>?_) (λh=>?_)
  |((with_reducible refine ak.mk 0 ?_);have hz:l.length=m.length:=(by simp at h;omega);have hk0:(l.zip m).length=(l.map Pr.cs).length:=(by rw[di hz,List.length_map]);have hlz:(l.zip m).length<=9223372036854775807:=(by rw[di hz];exact hlen);refine⟨aF (l.zip m) 17 (λ(_:Unit)=>[]) (λ(_:Unit)=>[]) [1,2,15,16] (λi0 r0 _=>lenE (λq=>lS q.1 (bareP q.2)) l m=r0.all λq=>lS q.1 (bareP q.2)),?_⟩;with_reducible refine ag () ?_ ?_ (λi0 (_:Unit) hd0 hI0=>?_) (λi0 x0 r0 (_:Unit) hd0 hl0 hI0=>?_))
  |(with_reducible refine af hd0 () ?_ ?_)
  |((with_reducible refine ai ?_ ?_ ?_);rotate_left;(exact Kt _ _ (hs _ (List.of_mem_zip (dB hd0)).2) (hn _ (List.of_mem_zip (dB hd0)).2)))
  |((with_reducible refine aJ ?_ ?_ ?_ ?_ ?_);exact rfl;exact rfl;rotate_left;(first |with_reducible exact gQ hd0 |with_reducible exact gU hd0))
  |((with_reducible refine aV ?_ ?_);exact rfl)
  |((with_reducible refine aC ?_);refine⟨[],rfl,?_,trivial⟩;conv=>whnf)
  |(with_reducible refine And.intro ?_ ?_)
  |exact @rfl AV _
  |fail)
 all_goals(try simp only[csimp]at *)
 all_goals first
  |(rw[hI0];(try simp only[List.all_cons,Bool.not_true,Bool.not_false,Bool.and_true,Bool.true_and,Bool.and_false,Bool.false_and,Bool.or_true,Bool.true_or,Bool.or_false,Bool.false_or,if_true,if_false,reduceIte,Bool.false_eq_true,Bool.not_not,Bool.not_eq_true',beq_self_eq_true,List.all_cons,List.all_nil,List.any_cons,List.any_nil,List.length_map,bne,eq_self,Int.toNat_zero, *]);first |done |rfl)
  |(simp only[lenE,Bool.not_true,Bool.not_false,Bool.and_true,Bool.true_and,Bool.and_false,Bool.false_and,Bool.or_true,Bool.true_or,Bool.or_false,Bool.false_or,if_true,if_false,reduceIte,Bool.false_eq_true,Bool.not_not,Bool.not_eq_true',beq_self_eq_true,List.all_cons,List.all_nil,List.any_cons,List.any_nil,List.length_map,bne,eq_self,Int.toNat_zero, *];done)
  |skip
end Go.Proofs.YtmfehangcmbidaaGreatDoor
