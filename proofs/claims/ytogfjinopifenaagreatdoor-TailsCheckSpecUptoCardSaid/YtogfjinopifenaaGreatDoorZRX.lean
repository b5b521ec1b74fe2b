/- Contracts: the reference of names, small functions. -/
import Derived.Test.YtogfjinopifenaaGreatDoorZK6
import Derived.Test.YtogfjinopifenaaGreatDoorZLL
set_option linter.unusedSectionVars false
set_option linter.unusedSimpArgs false
set_option linter.unusedVariables false
set_option maxHeartbeats 8000000
namespace Go.Proofs.YtogfjinopifenaaGreatDoor
open Go.Fw Go.Fw.Ref15
set_option maxRecDepth 10000
variable [GlobInt]
theorem cO(l:List (List UInt8))(s:List UInt8)  : PCall Tryz.prog 69 [strs l,.str s] (.ret (.i (find l s))):=by
 refine af Tryz.func69 λhf=>?_
 have hlen:l.length<=9223372036854775807:=by simpa using(hf (strs l) (by simp)).sl.1
 clear hf
 repeat' ((try(conv=>whnf))<;>first
  |exact trivial
  |exact idx_next hd0 ‹_›
  |refine br_nil hd0 ?_
  |refine br_cons hd0 ?_
  |refine BrI.intro (λh=>?_) (λh=>?_)
  |((refine LoopAt.mk 0 ?_);refine⟨rangeL (l) 5 (λ(_:Unit)=>[]) (λ(_:Unit)=>[]) [0,1] (λi0 r0 _=>find l s=findFrom s r0 i0),?_⟩;refine rangeL_rule () ?_ ?_ (λi0 (_:Unit) hd0 hI0=>?_) (λi0 x0 r0 (_:Unit) hd0 hl0 hI0=>?_))
  |(refine rangeL_next hd0 () ?_ ?_)
  |((refine idx_step ?_ ?_ ?_ ?_ ?_);exact rfl;exact rfl;rotate_left;(exact idx_drop hd0))
  |(refine ah ?_;conv=>whnf)
  |(refine And.intro ?_ ?_)
  |exact @rfl AV _)
 all_goals first
  |(rw[hI0];(try simp only[findFrom,Bool.not_true,Bool.not_false,Bool.and_true,Bool.true_and,Bool.and_false,Bool.false_and,Bool.or_true,Bool.true_or,Bool.or_false,Bool.false_or,if_true,if_false,reduceIte,Bool.false_eq_true,Bool.not_not,Bool.not_eq_true',beq_self_eq_true,List.all_cons,List.all_nil,List.any_cons,List.any_nil,List.length_map,bne,eq_self,Int.toNat_zero, *]);first |done |rfl)
  |(simp_all[find,findFrom])
  |skip
theorem jb(k:Int)  : PCall Tryz.prog 139 [.i k] (.ret (.i (parts k))):=by
 refine ae Tryz.func139 ?_
 repeat' ((try(conv=>whnf))<;>first
  |refine BrI.tt ?_
  |refine BrI.intro (λh=>?_) (λh=>?_)
  |(refine ah ?_;conv=>whnf))
 all_goals first
  |(simp_all[parts])
  |skip
theorem dL(k:Int)  : PCall Tryz.prog 123 [.i k] (.ret (.b (named k))):=by
 refine ae Tryz.func123 ?_
 repeat' ((try(conv=>whnf))<;>first
  |(refine ah ?_;conv=>whnf))
 all_goals first
  |(simp_all[named])
  |skip
theorem fV(a b:Int)  : PCall Tryz.prog 121 [.i a,.i b] (.ret (.b (between a b))):=by
 refine ae Tryz.func121 ?_
 repeat' ((try(conv=>whnf))<;>first
  |(refine ah ?_;conv=>whnf))
 all_goals first
  |(simp_all[between])
  |skip
theorem gX(x:Ex)  : PCall Tryz.prog 116 [x.d] (.ret (.b (formed x))):=by
 revert x;refine Ex.ind λx ih=>?_
 refine af Tryz.func116 λhf=>?_
 have hlen:=Ex.fits (hf x.d (by simp))
 clear hf
 repeat' ((try(conv=>whnf))<;>first
  |with_reducible exact trivial
  |with_reducible exact idx_next hd0 ‹_›
  |with_reducible refine br_nil_e hd0 ?_
  |with_reducible refine br_cons_e hd0 ?_
  |with_reducible refine BrI.intro (λh=>?_) (λh=>?_)
  |((with_reducible refine LoopAt.mk 0 ?_);refine⟨rangeL (x.l) 3 (λ(_:Unit)=>[]) (λ(_:Unit)=>[]) [1] (λi0 r0 _=>formed x=formeds r0),?_⟩;with_reducible refine rangeL_rule () ?_ ?_ (λi0 (_:Unit) hd0 hI0=>?_) (λi0 x0 r0 (_:Unit) hd0 hl0 hI0=>?_))
  |(with_reducible refine rangeL_next hd0 () ?_ ?_)
  |((with_reducible refine call_step ?_ ?_ ?_);rotate_left;(first |exact jb _ |exact dL _ |exact ih _ (drop_mem ‹_›)))
  |((with_reducible refine idx_step ?_ ?_ ?_ ?_ ?_);exact rfl;exact rfl;rotate_left;(with_reducible exact idx_drop_e hd0))
  |((with_reducible refine len_step ?_ ?_);exact rfl)
  |((with_reducible refine guard_stepT ?_ ?_ (λhg=>?_) ?_);exact rfl)
  |((with_reducible refine val_step ?_ ?_);with_reducible exact rfl;with_reducible exact rfl)
  |((with_reducible refine chk_stepP ?_ ?_);kernel_rfl)
  |((with_reducible refine ret_step ?_);refine⟨[],rfl,?_,trivial⟩;conv=>whnf)
  |(with_reducible refine And.intro ?_ ?_)
  |exact @rfl AV _)
 all_goals(try simp only[csimp]at *)
 all_goals first
  |(rw[hI0];(try simp only[formeds,Bool.not_true,Bool.not_false,Bool.and_true,Bool.true_and,Bool.and_false,Bool.false_and,Bool.or_true,Bool.true_or,Bool.or_false,Bool.false_or,if_true,if_false,reduceIte,Bool.false_eq_true,Bool.not_not,Bool.not_eq_true',beq_self_eq_true,List.all_cons,List.all_nil,List.any_cons,List.any_nil,List.length_map,bne,eq_self,Int.toNat_zero, *]);first |done |rfl)
  |(simp only[formed_eq,Bool.not_true,Bool.not_false,Bool.and_true,Bool.true_and,Bool.and_false,Bool.false_and,Bool.or_true,Bool.true_or,Bool.or_false,Bool.false_or,if_true,if_false,reduceIte,Bool.false_eq_true,Bool.not_not,Bool.not_eq_true',beq_self_eq_true,List.all_cons,List.all_nil,List.any_cons,List.any_nil,List.length_map,bne,eq_self,Int.toNat_zero, *];done)
  |skip
theorem jc(x:Ex)(hx:nodes x<=1073741824):PCall Tryz.prog 117 [x.d] (.ret (.i (nodes x:Nat))):=by
 revert x;refine Ex.ind λx ih hx=>?_
 refine af Tryz.func117 λhf=>?_
 have hlen:=Ex.fits (hf x.d (by simp))
 clear hf
 repeat' ((try(conv=>whnf))<;>first
  |exact trivial
  |exact idx_next hd0 ‹_›
  |refine br_nil_e hd0 ?_
  |refine br_cons_e hd0 ?_
  |((refine LoopAt.mk 0 ?_);refine⟨rangeL (x.l) 4 (λ(n:(Int))=>[(3,.data (.val (.int .i64 n)))]) (λ(n:(Int))=>[]) [1] (λi0 r0 n=>0<=n/\(nodes x:Int)=n+(nodesL r0:Nat)),?_⟩;refine rangeL_rule ?_ ?_ ?_ (λi0 (n:(Int)) hd0 hI0=>?_) (λi0 x0 r0 (n:(Int)) hd0 hl0 hI0=>?_))
  |(refine rangeL_next hd0 ?_ ?_ ?_)
  |((refine call_step ?_ ?_ ?_);rotate_left;(exact ih _ (drop_mem ‹_›) (by simp only[nodesL]at hI0;omega)))
  |((refine idx_step ?_ ?_ ?_ ?_ ?_);exact rfl;exact rfl;rotate_left;(exact idx_drop_e hd0))
  |((refine len_step ?_ ?_);exact rfl)
  |(refine ah ?_;conv=>whnf)
  |(refine And.intro ?_ ?_)
  |exact @rfl AV _)
 all_goals first
  |omega
  |((rw[nodes_eq];omega))
  |((simp only[nodesL]at hI0;rw[wrap_ok (by omega) (by omega)];omega))
  |((simp only[nodesL]at hI0;exact congrArg D.i (by omega)))
  |skip
theorem gY(p:Pr)  : PCall Tryz.prog 65 [p.d] (.ret (.b (Formed p))):=by
 refine af Tryz.func65 λhf=>?_
 have hlen:=(Pr.fits (hf p.d (by simp))).stmts
 clear hf
 repeat' ((try(conv=>whnf))<;>first
  |with_reducible exact trivial
  |with_reducible exact idx_next hd0 ‹_›
  |with_reducible refine br_nil hd0 ?_
  |with_reducible refine br_cons hd0 ?_
  |with_reducible refine BrI.intro (λh=>?_) (λh=>?_)
  |((with_reducible refine LoopAt.mk 0 ?_);refine⟨rangeL (p.stmts) 3 (λ(_:Unit)=>[]) (λ(_:Unit)=>[]) [1] (λi0 r0 _=>Formed p=r0.all stmtOk),?_⟩;with_reducible refine rangeL_rule () ?_ ?_ (λi0 (_:Unit) hd0 hI0=>?_) (λi0 x0 r0 (_:Unit) hd0 hl0 hI0=>?_))
  |(with_reducible refine rangeL_next hd0 () ?_ ?_)
  |((with_reducible refine call_step ?_ ?_ ?_);rotate_left;(exact gX _))
  |((with_reducible refine idx_step ?_ ?_ ?_ ?_ ?_);exact rfl;exact rfl;rotate_left;(with_reducible exact idx_drop hd0))
  |((with_reducible refine len_step ?_ ?_);exact rfl)
  |((with_reducible refine guard_step ?_ ?_ (λhg=>?_) ?_);exact rfl)
  |((with_reducible refine val_step ?_ ?_);with_reducible exact rfl;with_reducible exact rfl)
  |((with_reducible refine ret_step ?_);refine⟨[],rfl,?_,trivial⟩;conv=>whnf)
  |(with_reducible refine And.intro ?_ ?_)
  |exact @rfl AV _)
 all_goals(try simp only[csimp]at *)
 all_goals first
  |(rw[hI0];(try simp only[Formed,Bool.not_true,Bool.not_false,Bool.and_true,Bool.true_and,Bool.and_false,Bool.false_and,Bool.or_true,Bool.true_or,Bool.or_false,Bool.false_or,if_true,if_false,reduceIte,Bool.false_eq_true,Bool.not_not,Bool.not_eq_true',beq_self_eq_true,List.all_cons,List.all_nil,List.any_cons,List.any_nil,List.length_map,bne,eq_self,Int.toNat_zero, *]);first |done |rfl)
  |(simp only[Formed,Bool.not_true,Bool.not_false,Bool.and_true,Bool.true_and,Bool.and_false,Bool.false_and,Bool.or_true,Bool.true_or,Bool.or_false,Bool.false_or,if_true,if_false,reduceIte,Bool.false_eq_true,Bool.not_not,Bool.not_eq_true',beq_self_eq_true,List.all_cons,List.all_nil,List.any_cons,List.any_nil,List.length_map,bne,eq_self,Int.toNat_zero, *];done)
  |(simp only[stmtOk,Bool.not_true,Bool.not_false,Bool.and_true,Bool.true_and,Bool.and_false,Bool.false_and,Bool.or_true,Bool.true_or,Bool.or_false,Bool.false_or,if_true,if_false,reduceIte,Bool.false_eq_true,Bool.not_not,Bool.not_eq_true',beq_self_eq_true,List.all_cons,List.all_nil,List.any_cons,List.any_nil,List.length_map,bne,eq_self,Int.toNat_zero, *];done)
  |skip
theorem fZ(x:Ex)  : PCall Tryz.prog 122 [x.d] (.ret (.b (numbers x))):=by
 revert x;refine Ex.ind λx ih=>?_
 refine af Tryz.func122 λhf=>?_
 have hlen:=Ex.fits (hf x.d (by simp))
 clear hf
 repeat' ((try(conv=>whnf))<;>first
  |with_reducible exact trivial
  |with_reducible exact idx_next hd0 ‹_›
  |with_reducible refine br_nil_e hd0 ?_
  |with_reducible refine br_cons_e hd0 ?_
  |with_reducible refine BrI.intro (λh=>?_) (λh=>?_)
  |((with_reducible refine LoopAt.mk 0 ?_);refine⟨rangeL (x.l) 3 (λ(_:Unit)=>[]) (λ(_:Unit)=>[]) [1] (λi0 r0 _=>numbers x=numbersL r0),?_⟩;with_reducible refine rangeL_rule () ?_ ?_ (λi0 (_:Unit) hd0 hI0=>?_) (λi0 x0 r0 (_:Unit) hd0 hl0 hI0=>?_))
  |(with_reducible refine rangeL_next hd0 () ?_ ?_)
  |((with_reducible refine call_step ?_ ?_ ?_);rotate_left;(exact ih _ (drop_mem ‹_›)))
  |((with_reducible refine idx_step ?_ ?_ ?_ ?_ ?_);exact rfl;exact rfl;rotate_left;(with_reducible exact idx_drop_e hd0))
  |((with_reducible refine len_step ?_ ?_);exact rfl)
  |((with_reducible refine ret_step ?_);refine⟨[],rfl,?_,trivial⟩;conv=>whnf)
  |(with_reducible refine And.intro ?_ ?_)
  |exact @rfl AV _)
 all_goals(try simp only[csimp]at *)
 all_goals first
  |(rw[hI0];(try simp only[numbersL,Bool.not_true,Bool.not_false,Bool.and_true,Bool.true_and,Bool.and_false,Bool.false_and,Bool.or_true,Bool.true_or,Bool.or_false,Bool.false_or,if_true,if_false,reduceIte,Bool.false_eq_true,Bool.not_not,Bool.not_eq_true',beq_self_eq_true,List.all_cons,List.all_nil,List.any_cons,List.any_nil,List.length_map,bne,eq_self,Int.toNat_zero, *]);first |done |rfl)
  |(simp only[numbers_eq,Bool.not_true,Bool.not_false,Bool.and_true,Bool.true_and,Bool.and_false,Bool.false_and,Bool.or_true,Bool.true_or,Bool.or_false,Bool.false_or,if_true,if_false,reduceIte,Bool.false_eq_true,Bool.not_not,Bool.not_eq_true',beq_self_eq_true,List.all_cons,List.all_nil,List.any_cons,List.any_nil,List.length_map,bne,eq_self,Int.toNat_zero, *];done)
  |skip
theorem cZ(l:List Bd)(hl:l.length<=1073741824):PCall Tryz.prog 73 [.sl 3 (l.map Bd.cs)] (.ret (strs (bounds l))):=by
 refine af Tryz.func73 λhf=>?_
 have hlen:l.length<=9223372036854775807:=by omega
 clear hf
 repeat' ((try(conv=>whnf))<;>first
  |with_reducible exact trivial
  |with_reducible exact idx_next hd0 ‹_›
  |with_reducible refine br_nil hd0 ?_
  |with_reducible refine br_cons hd0 ?_
  |((with_reducible refine LoopAt.mk 0 ?_);refine⟨rangeL (l) 4 (λ(out:(List Str))=>[(3,.gs 5 1 (out.map strC))]) (λ(out:(List Str))=>[(5,.tok 1 (out.map strC).length)]) [0] (λi0 r0 out=>bounds l=out++bounds r0/\out.length=i0),?_⟩;with_reducible refine rangeL_rule [] ?_ ?_ (λi0 (out:(List Str)) hd0 hI0=>?_) (λi0 x0 r0 (out:(List Str)) hd0 hl0 hI0=>?_))
  |(with_reducible refine rangeL_next hd0 ?_ ?_ ?_)
  |(with_reducible refine ChooseI.l _ ?_)
  |((with_reducible refine idx_step ?_ ?_ ?_ ?_ ?_);exact rfl;exact rfl;rotate_left;(with_reducible exact idx_drop hd0))
  |((with_reducible refine app_step' ?_ ?_ ?_ ?_ ?_ ?_ ?_);exact rfl;exact rfl;exact rfl;exact rfl)
  |((with_reducible refine ret_step ?_);refine⟨[],rfl,?_,trivial⟩;conv=>whnf)
  |(with_reducible refine And.intro ?_ ?_)
  |((with_reducible refine gs_eq ?_ ?_ ?_);exact rfl;exact rfl;(first |exact map_snoc |exact rfl |skip))
  |((with_reducible refine tok_eq ?_ ?_);exact rfl;(first |exact map_snoc |skip))
  |exact @rfl AV _
  |exact @rfl Block _
  |exact ble_le rfl)
 all_goals(try simp only[csimp]at *)
 all_goals first
  |(rw[hI0.1];(try simp only[bounds,List.map_cons,List.map_nil,List.append_nil,List.append_assoc,List.cons_append,List.nil_append,Bool.not_true,Bool.not_false,Bool.and_true,Bool.true_and,Bool.and_false,Bool.false_and,Bool.or_true,Bool.true_or,Bool.or_false,Bool.false_or,if_true,if_false,reduceIte,Bool.false_eq_true,Bool.not_not,Bool.not_eq_true',beq_self_eq_true,List.all_cons,List.all_nil,List.any_cons,List.any_nil,List.length_map,bne,eq_self,Int.toNat_zero, *]);first |done |rfl)
  |(simp only[bounds,List.map_cons,List.map_nil,List.append_nil,List.append_assoc,List.cons_append,List.nil_append,Bool.not_true,Bool.not_false,Bool.and_true,Bool.true_and,Bool.and_false,Bool.false_and,Bool.or_true,Bool.true_or,Bool.or_false,Bool.false_or,if_true,if_false,reduceIte,Bool.false_eq_true,Bool.not_not,Bool.not_eq_true',beq_self_eq_true,List.all_cons,List.all_nil,List.any_cons,List.any_nil,List.length_map,bne,eq_self,Int.toNat_zero, *];done)
  |omega
  |(simp_all[bounds])
  |skip
theorem dh(l:List Bd)(hl:l.length<=1073741824):LCall Tryz.prog 73 [.data (.sl 3 (l.map Bd.cs))] [] (.ret (.gs 1000000 1 ((bounds l).map strC))) [(1000000,.tok 1 ((bounds l).map strC).length)]:=by
 refine aP Tryz.func73 λhf=>?_
 have hlen:l.length<=9223372036854775807:=by omega
 clear hf
 repeat' ((try(conv=>whnf))<;>first
  |with_reducible exact trivial
  |with_reducible exact idx_next hd0 ‹_›
  |with_reducible refine br_nil hd0 ?_
  |with_reducible refine br_cons hd0 ?_
  |((with_reducible refine LoopAt.mk 0 ?_);refine⟨rangeL (l) 4 (λ(out:(List Str))=>[(3,.gs 5 1 (out.map strC))]) (λ(out:(List Str))=>[(5,.tok 1 (out.map strC).length)]) [0] (λi0 r0 out=>bounds l=out++bounds r0/\out.length=i0),?_⟩;with_reducible refine rangeL_rule [] ?_ ?_ (λi0 (out:(List Str)) hd0 hI0=>?_) (λi0 x0 r0 (out:(List Str)) hd0 hl0 hI0=>?_))
  |(with_reducible refine rangeL_next hd0 ?_ ?_ ?_)
  |((with_reducible refine ret_step ?_);refine fin_step' [(1000000,5)] rfl ?_ ?_)
  |(with_reducible refine ChooseI.l _ ?_)
  |((with_reducible refine idx_step ?_ ?_ ?_ ?_ ?_);exact rfl;exact rfl;rotate_left;(with_reducible exact idx_drop hd0))
  |((with_reducible refine app_step' ?_ ?_ ?_ ?_ ?_ ?_ ?_);exact rfl;exact rfl;exact rfl;exact rfl)
  |(with_reducible refine And.intro ?_ ?_)
  |((with_reducible refine gs_eq ?_ ?_ ?_);exact rfl;exact rfl;(first |exact map_snoc |exact rfl |skip))
  |((with_reducible refine tok_eq ?_ ?_);exact rfl;(first |exact map_snoc |skip))
  |((with_reducible refine ren_guard ?_);refine gs_ren ?_ ?_ ?_;exact rfl;exact rfl;(first |skip))
  |exact @rfl AV _
  |exact @rfl Block _
  |exact ble_le rfl)
 all_goals(try simp only[csimp]at *)
 all_goals first
  |(rw[hI0.1];(try simp only[bounds,List.map_cons,List.map_nil,List.append_nil,List.append_assoc,List.cons_append,List.nil_append,Bool.not_true,Bool.not_false,Bool.and_true,Bool.true_and,Bool.and_false,Bool.false_and,Bool.or_true,Bool.true_or,Bool.or_false,Bool.false_or,if_true,if_false,reduceIte,Bool.false_eq_true,Bool.not_not,Bool.not_eq_true',beq_self_eq_true,List.all_cons,List.all_nil,List.any_cons,List.any_nil,List.length_map,bne,eq_self,Int.toNat_zero, *]);first |done |rfl)
  |(simp only[bounds,List.map_cons,List.map_nil,List.append_nil,List.append_assoc,List.cons_append,List.nil_append,Bool.not_true,Bool.not_false,Bool.and_true,Bool.true_and,Bool.and_false,Bool.false_and,Bool.or_true,Bool.true_or,Bool.or_false,Bool.false_or,if_true,if_false,reduceIte,Bool.false_eq_true,Bool.not_not,Bool.not_eq_true',beq_self_eq_true,List.all_cons,List.all_nil,List.any_cons,List.any_nil,List.length_map,bne,eq_self,Int.toNat_zero, *];done)
  |omega
  |(simp_all[bounds])
  |skip
theorem bG(p:Pr)(hp:p.Small):PCall Tryz.prog 74 [p.d] (.ret (strs (lines p))):=by
 refine af Tryz.func74 λhf=>?_
 have hlen:=(Pr.fits (hf p.d (by simp))).lines
 have hs:=hp.lines
 clear hf
 repeat' ((try(conv=>whnf))<;>first
  |with_reducible exact trivial
  |with_reducible exact idx_next hd0 ‹_›
  |with_reducible refine br_nil hd0 ?_
  |with_reducible refine br_cons hd0 ?_
  |((with_reducible refine LoopAt.mk 0 ?_);refine⟨rangeL (p.lines) 4 (λ(out:(List Str))=>[(3,.gs 5 1 (out.map strC))]) (λ(out:(List Str))=>[(5,.tok 1 (out.map strC).length)]) [1] (λi0 r0 out=>lines p=out++r0.map (·.name)/\out.length=i0),?_⟩;with_reducible refine rangeL_rule [] ?_ ?_ (λi0 (out:(List Str)) hd0 hI0=>?_) (λi0 x0 r0 (out:(List Str)) hd0 hl0 hI0=>?_))
  |(with_reducible refine rangeL_next hd0 ?_ ?_ ?_)
  |(with_reducible refine ChooseI.l _ ?_)
  |((with_reducible refine idx_step ?_ ?_ ?_ ?_ ?_);exact rfl;exact rfl;rotate_left;(with_reducible exact idx_drop hd0))
  |((with_reducible refine app_step' ?_ ?_ ?_ ?_ ?_ ?_ ?_);exact rfl;exact rfl;exact rfl;exact rfl)
  |((with_reducible refine ret_step ?_);refine⟨[],rfl,?_,trivial⟩;conv=>whnf)
  |(with_reducible refine And.intro ?_ ?_)
  |((with_reducible refine gs_eq ?_ ?_ ?_);exact rfl;exact rfl;(first |exact map_snoc |exact rfl |skip))
  |((with_reducible refine tok_eq ?_ ?_);exact rfl;(first |exact map_snoc |skip))
  |exact @rfl AV _
  |exact @rfl Block _
  |exact ble_le rfl)
 all_goals(try simp only[csimp]at *)
 all_goals first
  |(rw[hI0.1];(try simp only[lines,List.map_cons,List.map_nil,List.append_nil,List.append_assoc,List.cons_append,List.nil_append,Bool.not_true,Bool.not_false,Bool.and_true,Bool.true_and,Bool.and_false,Bool.false_and,Bool.or_true,Bool.true_or,Bool.or_false,Bool.false_or,if_true,if_false,reduceIte,Bool.false_eq_true,Bool.not_not,Bool.not_eq_true',beq_self_eq_true,List.all_cons,List.all_nil,List.any_cons,List.any_nil,List.length_map,bne,eq_self,Int.toNat_zero, *]);first |done |rfl)
  |(simp only[lines,List.map_cons,List.map_nil,List.append_nil,List.append_assoc,List.cons_append,List.nil_append,Bool.not_true,Bool.not_false,Bool.and_true,Bool.true_and,Bool.and_false,Bool.false_and,Bool.or_true,Bool.true_or,Bool.or_false,Bool.false_or,if_true,if_false,reduceIte,Bool.false_eq_true,Bool.not_not,Bool.not_eq_true',beq_self_eq_true,List.all_cons,List.all_nil,List.any_cons,List.any_nil,List.length_map,bne,eq_self,Int.toNat_zero, *];done)
  |omega
  |(simp_all[lines])
  |skip
theorem di(p:Pr)(hp:p.Small):PCall Tryz.prog 118 [p.d] (.ret (strs (tables p))):=by
 refine af Tryz.func118 λhf=>?_
 have hlen:=(Pr.fits (hf p.d (by simp))).tables
 have hs:=hp.tables
 clear hf
 repeat' ((try(conv=>whnf))<;>first
  |with_reducible exact trivial
  |with_reducible exact idx_next hd0 ‹_›
  |with_reducible refine br_nil hd0 ?_
  |with_reducible refine br_cons hd0 ?_
  |((with_reducible refine LoopAt.mk 0 ?_);refine⟨rangeL (p.tables) 4 (λ(out:(List Str))=>[(3,.gs 5 1 (out.map strC))]) (λ(out:(List Str))=>[(5,.tok 1 (out.map strC).length)]) [1] (λi0 r0 out=>tables p=out++r0.map (·.name)/\out.length=i0),?_⟩;with_reducible refine rangeL_rule [] ?_ ?_ (λi0 (out:(List Str)) hd0 hI0=>?_) (λi0 x0 r0 (out:(List Str)) hd0 hl0 hI0=>?_))
  |(with_reducible refine rangeL_next hd0 ?_ ?_ ?_)
  |(with_reducible refine ChooseI.l _ ?_)
  |((with_reducible refine idx_step ?_ ?_ ?_ ?_ ?_);exact rfl;exact rfl;rotate_left;(with_reducible exact idx_drop hd0))
  |((with_reducible refine app_step' ?_ ?_ ?_ ?_ ?_ ?_ ?_);exact rfl;exact rfl;exact rfl;exact rfl)
  |((with_reducible refine ret_step ?_);refine⟨[],rfl,?_,trivial⟩;conv=>whnf)
  |(with_reducible refine And.intro ?_ ?_)
  |((with_reducible refine gs_eq ?_ ?_ ?_);exact rfl;exact rfl;(first |exact map_snoc |exact rfl |skip))
  |((with_reducible refine tok_eq ?_ ?_);exact rfl;(first |exact map_snoc |skip))
  |exact @rfl AV _
  |exact @rfl Block _
  |exact ble_le rfl)
 all_goals(try simp only[csimp]at *)
 all_goals first
  |(rw[hI0.1];(try simp only[tables,List.map_cons,List.map_nil,List.append_nil,List.append_assoc,List.cons_append,List.nil_append,Bool.not_true,Bool.not_false,Bool.and_true,Bool.true_and,Bool.and_false,Bool.false_and,Bool.or_true,Bool.true_or,Bool.or_false,Bool.false_or,if_true,if_false,reduceIte,Bool.false_eq_true,Bool.not_not,Bool.not_eq_true',beq_self_eq_true,List.all_cons,List.all_nil,List.any_cons,List.any_nil,List.length_map,bne,eq_self,Int.toNat_zero, *]);first |done |rfl)
  |(simp only[tables,List.map_cons,List.map_nil,List.append_nil,List.append_assoc,List.cons_append,List.nil_append,Bool.not_true,Bool.not_false,Bool.and_true,Bool.true_and,Bool.and_false,Bool.false_and,Bool.or_true,Bool.true_or,Bool.or_false,Bool.false_or,if_true,if_false,reduceIte,Bool.false_eq_true,Bool.not_not,Bool.not_eq_true',beq_self_eq_true,List.all_cons,List.all_nil,List.any_cons,List.any_nil,List.length_map,bne,eq_self,Int.toNat_zero, *];done)
  |omega
  |(simp_all[tables])
  |skip
theorem dX(p:Pr)(hp:p.Small):PCall Tryz.prog 67 [p.d] (.ret (strs (Declared p))):=by
 refine af Tryz.func67 λhf=>?_
 have hlen:=(Pr.fits (hf p.d (by simp))).stmts
 have hs1:=hp.params;have hs2:=hp.states;have hs3:=hp.lines;have hs4:=hp.tables;have hs5:=hp.stmts
 clear hf
 repeat' ((try(conv=>whnf))<;>first
  |exact trivial
  |exact idx_next hd0 ‹_›
  |refine br_nil hd0 ?_
  |refine br_cons hd0 ?_
  |refine BrI.intro (λh=>?_) (λh=>?_)
  |((refine LoopAt.mk 0 ?_);refine⟨rangeL (p.stmts) 4 (λ(out:(List Str))=>[(3,.gs 800000 1 (out.map strC))]) (λ(out:(List Str))=>[(800000,.tok 1 (out.map strC).length)]) [1] (λi0 r0 out=>Declared p=out++lets r0/\out.length<=p.params.length+p.states.length+p.lines.length+p.tables.length+i0),?_⟩;refine rangeL_rule (bounds p.params++bounds p.states++lines p++tables p) ?_ ?_ (λi0 (out:(List Str)) hd0 hI0=>?_) (λi0 x0 r0 (out:(List Str)) hd0 hl0 hI0=>?_))
  |(refine rangeL_next hd0 ?_ ?_ ?_)
  |((refine call_step ?_ ?_ ?_);rotate_left;(first |exact bG _ (by assumption) |exact di _ (by assumption)))
  |((refine lent_step [(1000000,800000)] (dh ?_ ?_) ?_ ?_ ?_ ?_);rotate_left 2;exact rfl;(exact trivial);exact rfl)
  |((refine lent_step [(1000000,800100)] (dh ?_ ?_) ?_ ?_ ?_ ?_);rotate_left 2;exact rfl;(exact trivial);exact rfl)
  |(refine ChooseI.l _ ?_)
  |((refine idx_step ?_ ?_ ?_ ?_ ?_);exact rfl;exact rfl;rotate_left;(exact idx_drop hd0))
  |((refine app_step' ?_ ?_ ?_ ?_ ?_ ?_ ?_);exact rfl;exact rfl;exact rfl;exact rfl)
  |((refine chk_stepP ?_ ?_);kernel_rfl)
  |(refine ah ?_;conv=>whnf)
  |(refine And.intro ?_ ?_)
  |((refine gs_eq ?_ ?_ ?_);exact rfl;exact rfl;(first |exact map_app4 |exact map_snoc |skip))
  |((refine tok_eq ?_ ?_);exact rfl;(first |exact map_app4 |exact map_snoc |skip))
  |exact @rfl AV _
  |exact ble_le rfl)
 all_goals first
  |omega
  |((simp only[List.length_map,bounds,lines,tables,List.length_append];omega))
  |((simp only[Declared];done))
  |((simp_all[Declared,lets];done))
  |((simp_all[lets];omega))
  |skip
theorem jd(p:Pr)(name:Str)(b:Nat)(hb:b<=p.stmts.length):PCall Tryz.prog 141 [p.d,.str name,.i (b:Int)] (.ret (.i (given p name b))):=by
 refine af Tryz.func141 λhf=>?_
 have hlen:=(Pr.fits (hf p.d (by simp))).stmts
 have hk:(p.stmts.take b).length=b:=by simp;omega
 have hlk:(p.stmts.take b).length<=9223372036854775807:=by omega
 clear hf
 repeat' ((try(conv=>whnf))<;>first
  |exact trivial
  |exact idx_next hd0 ‹_›
  |((refine br_nil_k hd0 ?_ ?_);(assumption))
  |((refine br_cons_k hd0 ?_ ?_);(assumption))
  |refine BrI.intro (λh=>?_) (λh=>?_)
  |((refine LoopAt.mk 0 ?_);refine⟨rangeL (p.stmts.take b) 7 (λ(_:Unit)=>[]) (λ(_:Unit)=>[]) [1,2,3] (λi0 r0 _=>given p name b=givenFrom name r0 i0),?_⟩;refine rangeL_rule () ?_ ?_ (λi0 (_:Unit) hd0 hI0=>?_) (λi0 x0 r0 (_:Unit) hd0 hl0 hI0=>?_))
  |(refine rangeL_next hd0 () ?_ ?_)
  |((refine idx_step ?_ ?_ ?_ ?_ ?_);exact rfl;exact rfl;rotate_left;(exact idx_take hd0))
  |((refine guard_step ?_ ?_ (λhg=>?_) ?_);exact rfl)
  |((refine val_step ?_ ?_);exact rfl;exact rfl)
  |(refine ah ?_;conv=>whnf)
  |(refine And.intro ?_ ?_)
  |exact @rfl AV _)
 all_goals first
  |(rw[hI0];(try simp only[givenFrom,Bool.not_true,Bool.not_false,Bool.and_true,Bool.true_and,Bool.and_false,Bool.false_and,Bool.or_true,Bool.true_or,Bool.or_false,Bool.false_or,if_true,if_false,reduceIte,Bool.false_eq_true,Bool.not_not,Bool.not_eq_true',beq_self_eq_true,List.all_cons,List.all_nil,List.any_cons,List.any_nil,List.length_map,bne,eq_self,Int.toNat_zero, *]);first |done |rfl)
  |(simp_all[given,givenFrom])
  |skip
theorem je(p:Pr)(i:Nat)(s:Sm)(hs:p.stmts[i]? = some s):PCall Tryz.prog 75 [p.d,.i (i:Int)] (.ret (.b (again p i s))):=by
 refine af Tryz.func75 λhf=>?_
 have hlen:=(Pr.fits (hf p.d (by simp))).stmts
 have hi:i<p.stmts.length:=(List.getElem?_eq_some_iff.1 hs).1
 have hk:(p.stmts.take i).length=i:=by simp;omega
 have hlk:(p.stmts.take i).length<=9223372036854775807:=by omega
 clear hf
 repeat' ((try(conv=>whnf))<;>first
  |with_reducible exact trivial
  |with_reducible exact idx_next hd0 ‹_›
  |((with_reducible refine br_nil_k hd0 ?_ ?_);(assumption))
  |((with_reducible refine br_cons_k hd0 ?_ ?_);(assumption))
  |with_reducible refine BrI.intro (λh=>?_) (λh=>?_)
  |((with_reducible refine LoopAt.mk 0 ?_);refine⟨rangeL (p.stmts.take i) 6 (λ(_:Unit)=>[]) (λ(_:Unit)=>[]) [1,2,5] (λi0 r0 _=>again p i s=r0.any λt=>t.kind==4 || (s.kind != 1&&t.kind==s.kind&&t.name==s.name)),?_⟩;with_reducible refine rangeL_rule () ?_ ?_ (λi0 (_:Unit) hd0 hI0=>?_) (λi0 x0 r0 (_:Unit) hd0 hl0 hI0=>?_))
  |(with_reducible refine rangeL_next hd0 () ?_ ?_)
  |((with_reducible refine idx_step ?_ ?_ ?_ ?_ ?_);exact rfl;exact rfl;rotate_left;(first |with_reducible exact idx_get ‹_› |with_reducible exact idx_take hd0))
  |((with_reducible refine len_step ?_ ?_);exact rfl)
  |((with_reducible refine ret_step ?_);refine⟨[],rfl,?_,trivial⟩;conv=>whnf)
  |(with_reducible refine And.intro ?_ ?_)
  |exact @rfl AV _)
 all_goals(try simp only[csimp]at *)
 all_goals first
  |(rw[hI0];(try simp only[again,Bool.not_true,Bool.not_false,Bool.and_true,Bool.true_and,Bool.and_false,Bool.false_and,Bool.or_true,Bool.true_or,Bool.or_false,Bool.false_or,if_true,if_false,reduceIte,Bool.false_eq_true,Bool.not_not,Bool.not_eq_true',beq_self_eq_true,List.all_cons,List.all_nil,List.any_cons,List.any_nil,List.length_map,bne,eq_self,Int.toNat_zero, *]);first |done |rfl)
  |(simp only[again,Bool.not_true,Bool.not_false,Bool.and_true,Bool.true_and,Bool.and_false,Bool.false_and,Bool.or_true,Bool.true_or,Bool.or_false,Bool.false_or,if_true,if_false,reduceIte,Bool.false_eq_true,Bool.not_not,Bool.not_eq_true',beq_self_eq_true,List.all_cons,List.all_nil,List.any_cons,List.any_nil,List.length_map,bne,eq_self,Int.toNat_zero, *];done)
  |skip
theorem dm(c:UInt8)  : PCall Tryz.prog 119 [D.u8 c] (.ret (.b (Ref03.letter c))):=by
 refine ae Tryz.func119 ?_
 repeat' ((try(conv=>whnf))<;>first
  |((with_reducible refine ret_step ?_);refine⟨[],rfl,?_,trivial⟩;conv=>whnf))
 all_goals(try simp only[csimp]at *)
 all_goals first
  |(simp only[Ref03.letter,Bool.not_true,Bool.not_false,Bool.and_true,Bool.true_and,Bool.and_false,Bool.false_and,Bool.or_true,Bool.true_or,Bool.or_false,Bool.false_or,if_true,if_false,reduceIte,Bool.false_eq_true,Bool.not_not,Bool.not_eq_true',beq_self_eq_true,List.all_cons,List.all_nil,List.any_cons,List.any_nil,List.length_map,bne,eq_self,Int.toNat_zero, *];done)
  |skip
theorem gZ(c:UInt8)  : PCall Tryz.prog 140 [D.u8 c] (.ret (.b (Ref03.figure c))):=by
 refine ae Tryz.func140 ?_
 repeat' ((try(conv=>whnf))<;>first
  |((with_reducible refine ret_step ?_);refine⟨[],rfl,?_,trivial⟩;conv=>whnf))
 all_goals(try simp only[csimp]at *)
 all_goals first
  |(simp only[Ref03.figure,Bool.not_true,Bool.not_false,Bool.and_true,Bool.true_and,Bool.and_false,Bool.false_and,Bool.or_true,Bool.true_or,Bool.or_false,Bool.false_or,if_true,if_false,reduceIte,Bool.false_eq_true,Bool.not_not,Bool.not_eq_true',beq_self_eq_true,List.all_cons,List.all_nil,List.any_cons,List.any_nil,List.length_map,bne,eq_self,Int.toNat_zero, *];done)
  |skip
theorem jQ(c:UInt8)  : PCall Tryz.prog 120 [D.u8 c] (.ret (.b (Ref03.part c))):=by
 refine ae Tryz.func120 ?_
 repeat' ((try(conv=>whnf))<;>first
  |((with_reducible refine call_step ?_ ?_ ?_);rotate_left;(first |exact dm _ |exact gZ _))
  |((with_reducible refine guard_step ?_ ?_ (λhg=>?_) ?_);exact rfl)
  |((with_reducible refine val_step ?_ ?_);with_reducible exact rfl;with_reducible exact rfl)
  |((with_reducible refine ret_step ?_);refine⟨[],rfl,?_,trivial⟩;conv=>whnf))
 all_goals(try simp only[csimp]at *)
 all_goals first
  |(simp only[Ref03.part,Bool.not_true,Bool.not_false,Bool.and_true,Bool.true_and,Bool.and_false,Bool.false_and,Bool.or_true,Bool.true_or,Bool.or_false,Bool.false_or,if_true,if_false,reduceIte,Bool.false_eq_true,Bool.not_not,Bool.not_eq_true',beq_self_eq_true,List.all_cons,List.all_nil,List.any_cons,List.any_nil,List.length_map,bne,eq_self,Int.toNat_zero, *];done)
  |skip
theorem jR(s:Str)  : PCall Tryz.prog 68 [.str s] (.ret (.b (Ref03.name s))):=by
 refine ae Tryz.func68 ?_
 repeat' ((try(conv=>whnf))<;>first
  |with_reducible exact trivial
  |with_reducible exact idx_next hd0 ‹_›
  |((with_reducible refine br_nil_k hd0 ?_ ?_);(exact rfl))
  |((with_reducible refine br_cons_k hd0 ?_ ?_);(exact rfl))
  |with_reducible refine BrI.intro (λh=>?_) (λh=>?_)
  |((with_reducible refine str_getD ?_ ?_ ?_);decide;(simp[wantB]at hg;omega))
  |((with_reducible refine LoopAt.mk 0 ?_);have hlen:s.length<=9223372036854775807:=(by simp only[Bool.cond_true_left,Bool.or_eq_false_iff,decide_eq_false_iff_not]at h;omega);refine⟨rangeL (s) 3 (λ(_:Unit)=>[]) (λ(_:Unit)=>[]) [0] (λi0 r0 _=>Ref03.name s=r0.all Ref03.part),?_⟩;with_reducible refine rangeL_rule () ?_ ?_ (λi0 (_:Unit) hd0 hI0=>?_) (λi0 x0 r0 (_:Unit) hd0 hl0 hI0=>?_))
  |(with_reducible refine rangeL_next hd0 () ?_ ?_)
  |((with_reducible refine call_step ?_ ?_ ?_);rotate_left;(first |exact dm _ |exact jQ _))
  |with_reducible refine str_idx hd0 ?_
  |((with_reducible refine guard_step ?_ ?_ (λhg=>?_) ?_);exact rfl)
  |((with_reducible refine val_step ?_ ?_);with_reducible exact rfl;with_reducible exact rfl)
  |((with_reducible refine ret_step ?_);refine⟨[],rfl,?_,trivial⟩;conv=>whnf)
  |(with_reducible refine And.intro ?_ ?_)
  |exact @rfl AV _)
 all_goals(try simp only[csimp]at *)
 all_goals first
  |(rw[hI0];(try simp only[Ref03.name,Bool.not_true,Bool.not_false,Bool.and_true,Bool.true_and,Bool.and_false,Bool.false_and,Bool.or_true,Bool.true_or,Bool.or_false,Bool.false_or,if_true,if_false,reduceIte,Bool.false_eq_true,Bool.not_not,Bool.not_eq_true',beq_self_eq_true,List.all_cons,List.all_nil,List.any_cons,List.any_nil,List.length_map,bne,eq_self,Int.toNat_zero, *]);first |done |rfl)
  |(simp only[Ref03.name,Bool.not_true,Bool.not_false,Bool.and_true,Bool.true_and,Bool.and_false,Bool.false_and,Bool.or_true,Bool.true_or,Bool.or_false,Bool.false_or,if_true,if_false,reduceIte,Bool.false_eq_true,Bool.not_not,Bool.not_eq_true',beq_self_eq_true,List.all_cons,List.all_nil,List.any_cons,List.any_nil,List.length_map,bne,eq_self,Int.toNat_zero, *];done)
  |skip
theorem jf   : PCall Tryz.prog 70 [] (.ret (strs words)):=by
 refine ae Tryz.func70 ?_
 repeat' ((try(conv=>whnf))<;>first
  |(refine ChooseI.l _ ?_)
  |(refine ah ?_;conv=>whnf))
 all_goals first
  |(rfl)
  |skip
theorem ig(p:Pr)  : PCall Tryz.prog 71 [p.d] (.ret (.b (ranged p))):=by
 refine af Tryz.func71 λhf=>?_
 have hq:=Pr.fits (hf p.d (by simp))
 have hlen1:=hq.params;have hlen2:=hq.states;have hlen3:=hq.lines;have hlen4:=hq.tables;have hlen5:=hq.stmts;have hlen6:=hq.values
 clear hf
 repeat' ((try(conv=>whnf))<;>first
  |with_reducible exact trivial
  |with_reducible exact idx_next hd10 ‹_›
  |with_reducible exact idx_next hd8 ‹_›
  |with_reducible exact idx_next hd6 ‹_›
  |with_reducible exact idx_next hd4 ‹_›
  |with_reducible exact idx_next hd2 ‹_›
  |with_reducible exact idx_next hd0 ‹_›
  |with_reducible refine br_nil hd10 ?_
  |with_reducible refine br_nil hd8 ?_
  |with_reducible refine br_nil hd6 ?_
  |with_reducible refine br_nil hd4 ?_
  |with_reducible refine br_nil hd2 ?_
  |with_reducible refine br_nil hd0 ?_
  |with_reducible refine br_cons hd10 ?_
  |with_reducible refine br_cons hd8 ?_
  |with_reducible refine br_cons hd6 ?_
  |with_reducible refine br_cons hd4 ?_
  |with_reducible refine br_cons hd2 ?_
  |with_reducible refine br_cons hd0 ?_
  |with_reducible refine BrI.intro (λh=>?_) (λh=>?_)
  |((with_reducible refine LoopAt.mk 0 ?_);refine⟨rangeL (p.params) 3 (λ(_:Unit)=>[]) (λ(_:Unit)=>[]) [1] (λi0 r0 _=>ranged p=(bdsOk r0&&(bdsOk p.states&&(lnsOk p.lines&&(tbsOk p.tables&&smsOk p.stmts))))),?_⟩;with_reducible refine rangeL_rule () ?_ ?_ (λi0 (_:Unit) hd0 hI0=>?_) (λi0 x0 r0 (_:Unit) hd0 hl0 hI0=>?_))
  |(with_reducible refine rangeL_next hd0 () ?_ ?_)
  |((with_reducible refine LoopAt.mk 2 ?_);refine⟨rangeL (p.states) 4 (λ(_:Unit)=>[]) (λ(_:Unit)=>[]) [1] (λi2 r2 _=>ranged p=(bdsOk r2&&(lnsOk p.lines&&(tbsOk p.tables&&smsOk p.stmts)))),?_⟩;with_reducible refine rangeL_rule () ?_ ?_ (λi2 (_:Unit) hd2 hI2=>?_) (λi2 x2 r2 (_:Unit) hd2 hl2 hI2=>?_))
  |(with_reducible refine rangeL_next hd2 () ?_ ?_)
  |((with_reducible refine LoopAt.mk 4 ?_);refine⟨rangeL (p.lines) 5 (λ(_:Unit)=>[]) (λ(_:Unit)=>[]) [1] (λi4 r4 _=>ranged p=(lnsOk r4&&(tbsOk p.tables&&smsOk p.stmts))),?_⟩;with_reducible refine rangeL_rule () ?_ ?_ (λi4 (_:Unit) hd4 hI4=>?_) (λi4 x4 r4 (_:Unit) hd4 hl4 hI4=>?_))
  |(with_reducible refine rangeL_next hd4 () ?_ ?_)
  |((with_reducible refine LoopAt.mk 6 ?_);refine⟨rangeL (p.tables) 6 (λ(_:Unit)=>[]) (λ(_:Unit)=>[]) [1] (λi6 r6 _=>ranged p=(tbsOk r6&&smsOk p.stmts)),?_⟩;with_reducible refine rangeL_rule () ?_ ?_ (λi6 (_:Unit) hd6 hI6=>?_) (λi6 x6 r6 (_:Unit) hd6 hl6 hI6=>?_))
  |(with_reducible refine rangeL_next hd6 () ?_ ?_)
  |((with_reducible refine LoopAt.mk 8 ?_);have hlen8:x6.values.length<=9223372036854775807:=hlen6 x6 (drop_mem hd6);refine⟨rangeL (x6.values) 7 (λ(_:Unit)=>[]) (λ(_:Unit)=>[]) [1,6] (λi8 r8 _=>ranged p=((valsOk r8&&tbsOk r6)&&smsOk p.stmts)),?_⟩;with_reducible refine rangeL_rule () ?_ ?_ (λi8 (_:Unit) hd8 hI8=>?_) (λi8 x8 r8 (_:Unit) hd8 hl8 hI8=>?_))
  |(with_reducible refine rangeL_next hd8 () ?_ ?_)
  |((with_reducible refine LoopAt.mk 10 ?_);refine⟨rangeL (p.stmts) 8 (λ(_:Unit)=>[]) (λ(_:Unit)=>[]) [1] (λi10 r10 _=>ranged p=smsOk r10),?_⟩;with_reducible refine rangeL_rule () ?_ ?_ (λi10 (_:Unit) hd10 hI10=>?_) (λi10 x10 r10 (_:Unit) hd10 hl10 hI10=>?_))
  |(with_reducible refine rangeL_next hd10 () ?_ ?_)
  |((with_reducible refine call_step ?_ ?_ ?_);rotate_left;(first |exact fV _ _ |exact fZ _))
  |((with_reducible refine idx_step ?_ ?_ ?_ ?_ ?_);exact rfl;exact rfl;rotate_left;(first |with_reducible exact idx_drop hd10 |with_reducible exact idx_drop hd8 |with_reducible exact idx_drop hd6 |with_reducible exact idx_drop hd4 |with_reducible exact idx_drop hd2 |with_reducible exact idx_drop hd0))
  |((with_reducible refine len_step ?_ ?_);exact rfl)
  |((with_reducible refine chk_stepP ?_ ?_);kernel_rfl)
  |((with_reducible refine ret_step ?_);refine⟨[],rfl,?_,trivial⟩;conv=>whnf)
  |(with_reducible refine And.intro ?_ ?_)
  |exact @rfl AV _)
 all_goals(try simp only[csimp]at *)
 all_goals first
  |(rw[hI10];(try simp only[bdsOk,lnsOk,tbsOk,smsOk,valsOk,Bool.not_true,Bool.not_false,Bool.and_true,Bool.true_and,Bool.and_false,Bool.false_and,Bool.or_true,Bool.true_or,Bool.or_false,Bool.false_or,if_true,if_false,reduceIte,Bool.false_eq_true,Bool.not_not,Bool.not_eq_true',beq_self_eq_true,List.all_cons,List.all_nil,List.any_cons,List.any_nil,List.length_map,bne,eq_self,Int.toNat_zero, *]);first |done |rfl)
  |(rw[hI8];(try simp only[bdsOk,lnsOk,tbsOk,smsOk,valsOk,Bool.not_true,Bool.not_false,Bool.and_true,Bool.true_and,Bool.and_false,Bool.false_and,Bool.or_true,Bool.true_or,Bool.or_false,Bool.false_or,if_true,if_false,reduceIte,Bool.false_eq_true,Bool.not_not,Bool.not_eq_true',beq_self_eq_true,List.all_cons,List.all_nil,List.any_cons,List.any_nil,List.length_map,bne,eq_self,Int.toNat_zero, *]);first |done |rfl)
  |(rw[hI6];(try simp only[bdsOk,lnsOk,tbsOk,smsOk,valsOk,Bool.not_true,Bool.not_false,Bool.and_true,Bool.true_and,Bool.and_false,Bool.false_and,Bool.or_true,Bool.true_or,Bool.or_false,Bool.false_or,if_true,if_false,reduceIte,Bool.false_eq_true,Bool.not_not,Bool.not_eq_true',beq_self_eq_true,List.all_cons,List.all_nil,List.any_cons,List.any_nil,List.length_map,bne,eq_self,Int.toNat_zero, *]);first |done |rfl)
  |(rw[hI4];(try simp only[bdsOk,lnsOk,tbsOk,smsOk,valsOk,Bool.not_true,Bool.not_false,Bool.and_true,Bool.true_and,Bool.and_false,Bool.false_and,Bool.or_true,Bool.true_or,Bool.or_false,Bool.false_or,if_true,if_false,reduceIte,Bool.false_eq_true,Bool.not_not,Bool.not_eq_true',beq_self_eq_true,List.all_cons,List.all_nil,List.any_cons,List.any_nil,List.length_map,bne,eq_self,Int.toNat_zero, *]);first |done |rfl)
  |(rw[hI2];(try simp only[bdsOk,lnsOk,tbsOk,smsOk,valsOk,Bool.not_true,Bool.not_false,Bool.and_true,Bool.true_and,Bool.and_false,Bool.false_and,Bool.or_true,Bool.true_or,Bool.or_false,Bool.false_or,if_true,if_false,reduceIte,Bool.false_eq_true,Bool.not_not,Bool.not_eq_true',beq_self_eq_true,List.all_cons,List.all_nil,List.any_cons,List.any_nil,List.length_map,bne,eq_self,Int.toNat_zero, *]);first |done |rfl)
  |(rw[hI0];(try simp only[bdsOk,lnsOk,tbsOk,smsOk,valsOk,Bool.not_true,Bool.not_false,Bool.and_true,Bool.true_and,Bool.and_false,Bool.false_and,Bool.or_true,Bool.true_or,Bool.or_false,Bool.false_or,if_true,if_false,reduceIte,Bool.false_eq_true,Bool.not_not,Bool.not_eq_true',beq_self_eq_true,List.all_cons,List.all_nil,List.any_cons,List.any_nil,List.length_map,bne,eq_self,Int.toNat_zero, *]);first |done |rfl)
  |(simp only[ranged_eq,Bool.not_true,Bool.not_false,Bool.and_true,Bool.true_and,Bool.and_false,Bool.false_and,Bool.or_true,Bool.true_or,Bool.or_false,Bool.false_or,if_true,if_false,reduceIte,Bool.false_eq_true,Bool.not_not,Bool.not_eq_true',beq_self_eq_true,List.all_cons,List.all_nil,List.any_cons,List.any_nil,List.length_map,bne,eq_self,Int.toNat_zero, *];done)
  |skip
theorem gm(p:Pr)(hn:∀s∈p.stmts,nodes s.x<=1073741824):PCall Tryz.prog 66 [p.d] (.ret (.b (limited p))):=by
 refine af Tryz.func66 λhf=>?_
 have hq:=Pr.fits (hf p.d (by simp))
 have hlen3:=hq.lines;have hlen4:=hq.tables;have hlen5:=hq.stmts
 clear hf
 repeat' ((try(conv=>whnf))<;>first
  |with_reducible exact trivial
  |with_reducible exact idx_next hd4 ‹_›
  |with_reducible exact idx_next hd2 ‹_›
  |with_reducible exact idx_next hd0 ‹_›
  |with_reducible refine br_nil hd4 ?_
  |with_reducible refine br_nil hd2 ?_
  |with_reducible refine br_nil hd0 ?_
  |with_reducible refine br_cons hd4 ?_
  |with_reducible refine br_cons hd2 ?_
  |with_reducible refine br_cons hd0 ?_
  |with_reducible refine BrI.intro (λh=>?_) (λh=>?_)
  |((with_reducible refine LoopAt.mk 0 ?_);refine⟨rangeL (p.lines) 3 (λ(_:Unit)=>[]) (λ(_:Unit)=>[]) [1] (λi0 r0 _=>limited p=(r0.all lineOk&&(p.tables.all tableOk&&(p.stmts.all exprOk&&memOk p)))),?_⟩;with_reducible refine rangeL_rule () ?_ ?_ (λi0 (_:Unit) hd0 hI0=>?_) (λi0 x0 r0 (_:Unit) hd0 hl0 hI0=>?_))
  |(with_reducible refine rangeL_next hd0 () ?_ ?_)
  |((with_reducible refine LoopAt.mk 2 ?_);refine⟨rangeL (p.tables) 4 (λ(_:Unit)=>[]) (λ(_:Unit)=>[]) [1] (λi2 r2 _=>limited p=(r2.all tableOk&&(p.stmts.all exprOk&&memOk p))),?_⟩;with_reducible refine rangeL_rule () ?_ ?_ (λi2 (_:Unit) hd2 hI2=>?_) (λi2 x2 r2 (_:Unit) hd2 hl2 hI2=>?_))
  |(with_reducible refine rangeL_next hd2 () ?_ ?_)
  |((with_reducible refine LoopAt.mk 4 ?_);refine⟨rangeL (p.stmts) 5 (λ(_:Unit)=>[]) (λ(_:Unit)=>[]) [1] (λi4 r4 _=>limited p=(r4.all exprOk&&memOk p)),?_⟩;with_reducible refine rangeL_rule () ?_ ?_ (λi4 (_:Unit) hd4 hI4=>?_) (λi4 x4 r4 (_:Unit) hd4 hl4 hI4=>?_))
  |(with_reducible refine rangeL_next hd4 () ?_ ?_)
  |((with_reducible refine call_step ?_ ?_ ?_);rotate_left;(exact jc _ (hn _ (drop_mem hd4))))
  |((with_reducible refine idx_step ?_ ?_ ?_ ?_ ?_);exact rfl;exact rfl;rotate_left;(first |with_reducible exact idx_drop hd4 |with_reducible exact idx_drop hd2 |with_reducible exact idx_drop hd0))
  |((with_reducible refine len_step ?_ ?_);exact rfl)
  |((with_reducible refine guard_step ?_ ?_ (λhg=>?_) ?_);exact rfl)
  |((with_reducible refine val_step ?_ ?_);with_reducible exact rfl;with_reducible exact rfl)
  |((with_reducible refine ret_step ?_);refine⟨[],rfl,?_,trivial⟩;conv=>whnf)
  |(with_reducible refine And.intro ?_ ?_)
  |exact @rfl AV _)
 all_goals(try simp only[csimp]at *)
 all_goals first
  |(rw[hI4];(try simp only[lineOk,tableOk,exprOk,memOk,Bool.not_true,Bool.not_false,Bool.and_true,Bool.true_and,Bool.and_false,Bool.false_and,Bool.or_true,Bool.true_or,Bool.or_false,Bool.false_or,if_true,if_false,reduceIte,Bool.false_eq_true,Bool.not_not,Bool.not_eq_true',beq_self_eq_true,List.all_cons,List.all_nil,List.any_cons,List.any_nil,List.length_map,bne,eq_self,Int.toNat_zero, *]);first |done |rfl)
  |(rw[hI2];(try simp only[lineOk,tableOk,exprOk,memOk,Bool.not_true,Bool.not_false,Bool.and_true,Bool.true_and,Bool.and_false,Bool.false_and,Bool.or_true,Bool.true_or,Bool.or_false,Bool.false_or,if_true,if_false,reduceIte,Bool.false_eq_true,Bool.not_not,Bool.not_eq_true',beq_self_eq_true,List.all_cons,List.all_nil,List.any_cons,List.any_nil,List.length_map,bne,eq_self,Int.toNat_zero, *]);first |done |rfl)
  |(rw[hI0];(try simp only[lineOk,tableOk,exprOk,memOk,Bool.not_true,Bool.not_false,Bool.and_true,Bool.true_and,Bool.and_false,Bool.false_and,Bool.or_true,Bool.true_or,Bool.or_false,Bool.false_or,if_true,if_false,reduceIte,Bool.false_eq_true,Bool.not_not,Bool.not_eq_true',beq_self_eq_true,List.all_cons,List.all_nil,List.any_cons,List.any_nil,List.length_map,bne,eq_self,Int.toNat_zero, *]);first |done |rfl)
  |(simp only[limited_eq,few,Bool.not_true,Bool.not_false,Bool.and_true,Bool.true_and,Bool.and_false,Bool.false_and,Bool.or_true,Bool.true_or,Bool.or_false,Bool.false_or,if_true,if_false,reduceIte,Bool.false_eq_true,Bool.not_not,Bool.not_eq_true',beq_self_eq_true,List.all_cons,List.all_nil,List.any_cons,List.any_nil,List.length_map,bne,eq_self,Int.toNat_zero, *];done)
  |skip
theorem jg(p:Pr)(n:Str)(b:Nat)(hp:p.Small)(hb:b<=p.stmts.length):PCall Tryz.prog 124 [p.d,.str n,.i (b:Int)] (.ret (.tuple [(value p n b).1.d,.b (value p n b).2])):=by
 refine af Tryz.func124 λhf=>?_
 have hs1:p.params.length<=1073741824:=Nat.le_trans hp.params (by decide)
 have hs2:p.states.length<=1073741824:=Nat.le_trans hp.states (by decide)
 clear hf
 repeat' ((try(conv=>whnf))<;>first
  |refine BrI.intro (λh=>?_) (λh=>?_)
  |((refine call_step ?_ ?_ ?_);rotate_left;(first |exact cZ _ (by assumption) |exact cO _ _ |exact jd _ _ _ (by assumption)))
  |((refine lent_step [(1000000,800000)] (dh ?_ ?_) ?_ ?_ ?_ ?_);rotate_left 2;exact rfl;(exact trivial);exact rfl)
  |((refine chk_stepP ?_ ?_);kernel_rfl)
  |(refine ah ?_;conv=>whnf))
 all_goals first
  |(simp only[value,Bool.not_true,Bool.not_false,Bool.and_true,Bool.true_and,Bool.and_false,Bool.false_and,Bool.or_true,Bool.true_or,Bool.or_false,Bool.false_or,if_true,if_false,reduceIte,Bool.false_eq_true,Bool.not_not,Bool.not_eq_true',beq_self_eq_true,List.all_cons,List.all_nil,List.any_cons,List.any_nil,List.length_map,bne,eq_self,Int.toNat_zero, *]<;>rfl)
  |(exfalso;simp_all;done)
  |skip
theorem dY(p:Pr)(b:Nat)(x:Ex)(hp:p.Small)(hb:b<=p.stmts.length)(hx:nodes x<=1073741824):PCall Tryz.prog 72 [p.d,x.d,.i (b:Int)] (.ret (.tuple [(resolved p b x).1.d,.b (resolved p b x).2])):=by
 revert x;refine Ex.ind λx ih hx=>?_
 refine af Tryz.func72 λhf=>?_
 have hlen:=Ex.fits (hf x.d (by simp))
 have hN:=nodes_eq x
 have hL:=len_nodes x.l
 clear hf
 repeat' ((try(conv=>whnf))<;>first
  |with_reducible exact trivial
  |with_reducible exact idx_next hd0 ‹_›
  |with_reducible refine br_nil_e hd0 ?_
  |with_reducible refine br_cons_e hd0 ?_
  |with_reducible refine BrI.intro (λh=>?_) (λh=>?_)
  |((with_reducible refine LoopAt.mk 0 ?_);refine⟨rangeL (x.l) 10 (λ(q:(Bool)×(Int)×(List Ex))=>match q with |(ok,idx,out)=>[(9,.data (.val (.bool ok)))]) (λ(q:(Bool)×(Int)×(List Ex))=>match q with |(ok,idx,out)=>[(8,.cells [.data (.i x.kind),.data (.str x.name),.data (.val (.int .i64 idx)),.data (.i x.n),.gs 900008 5 (out.map Ex.cs)]),(900008,.tok 5 (out.map Ex.cs).length)]) [2,3,4,6,8] (λi0 r0 q=>match q with |(ok,idx,out)=>resolved p b x=(⟨x.kind,x.name,idx,x.n,out++(resolvedL p b r0).1⟩,ok&&(resolvedL p b r0).2)/\out.length=i0/\nodesL r0<=1073741824),?_⟩;with_reducible refine rangeL_rule (?_,?_,([])) ?_ ?_ (λi0 ⟨ok,idx,out⟩ hd0 hI0=>?_) (λi0 x0 r0 ⟨ok,idx,out⟩ hd0 hl0 hI0=>?_))
  |(with_reducible refine rangeL_next hd0 (?_,?_,?_) ?_ ?_)
  |((with_reducible refine call_step ?_ ?_ ?_);rotate_left;(first |exact dL _ |exact jg _ _ _ (by assumption) (by assumption) |exact bG _ (by assumption) |exact cO _ _ |exact di _ (by assumption) |exact ih _ (drop_mem hd0) (by have:=hI0.2.2;simp only[nodesL]at this;omega)))
  |(with_reducible refine ChooseI.l _ ?_)
  |((with_reducible refine nilgs_step ?_ ?_ ?_ ?_ ?_ ?_)<;>exact rfl)
  |((with_reducible refine tok0_step ?_ ?_ ?_ ?_)<;>exact rfl)
  |((with_reducible refine idx_step ?_ ?_ ?_ ?_ ?_);exact rfl;exact rfl;rotate_left;(with_reducible exact idx_drop_e hd0))
  |((with_reducible refine len_step ?_ ?_);exact rfl)
  |((with_reducible refine app_step' ?_ ?_ ?_ ?_ ?_ ?_ ?_);exact rfl;exact rfl;exact rfl;exact rfl)
  |((with_reducible refine chk_stepP ?_ ?_);kernel_rfl)
  |((with_reducible refine ret_step ?_);refine⟨[],rfl,?_,trivial⟩;conv=>whnf)
  |(with_reducible refine And.intro ?_ ?_)
  |((with_reducible refine gs_eq ?_ ?_ ?_);exact rfl;exact rfl;(first |exact map_snoc |skip))
  |((with_reducible refine tok_eq ?_ ?_);exact rfl;(first |exact map_snoc |skip))
  |exact @rfl AV _
  |exact ble_le rfl)
 all_goals(try simp only[csimp]at *)
 all_goals first
  |(simp only[resolved_eq,Bool.not_true,Bool.not_false,Bool.and_true,Bool.true_and,Bool.and_false,Bool.false_and,Bool.or_true,Bool.true_or,Bool.or_false,Bool.false_or,if_true,if_false,reduceIte,Bool.false_eq_true,Bool.not_not,Bool.not_eq_true',beq_self_eq_true,List.all_cons,List.all_nil,List.any_cons,List.any_nil,List.length_map,bne,eq_self,Int.toNat_zero, *]<;>rfl)
  |omega
  |((rw[hI0.1];simp only[resolvedL,List.append_nil,Bool.and_true,Ex.css_map];rfl))
  |((rw[hI0.1];simp only[resolvedL,List.append_assoc,List.cons_append,List.nil_append,Bool.and_assoc,Bool.cond_false_right];done))
  |((simp only[resolved_eq,exIndex,List.nil_append,bne,Bool.not_false,Bool.not_true,Bool.and_true,Bool.and_false,Bool.false_eq_true,if_true,if_false,reduceIte, *];done))
  |((simp only[List.length_nil];done))
  |((simp only[List.length_append,List.length_cons,List.length_nil];omega))
  |((have:=hI0.2.2;simp only[nodesL]at this;omega))
  |((rw[resolved_eq,exIndex];simp_all;done))
  |skip
theorem gp(p:Pr)(hp:p.Small)(hn:∀s∈p.stmts,nodes s.x<=1073741824):PCall Tryz.prog 40 [p.d] (.ret (.tuple [(Resolve p).1.d,.i (Resolve p).2])):=by
 refine af Tryz.func40 λhf=>?_
 have hlen:=(Pr.fits (hf p.d (by simp))).stmts
 have hs1:=hp.params;have hs2:=hp.states;have hs3:=hp.lines;have hs4:=hp.tables;have hs5:=hp.stmts
 have hb1:p.states.length<=1073741824:=by omega
 have hld:(Declared p).length<=9223372036854775807:=by(have:=declared_len p;omega)
 clear hf
 repeat' ((try(conv=>whnf))<;>first
  |with_reducible exact trivial
  |with_reducible exact idx_next hd4 ‹_›
  |with_reducible exact idx_next hd2 ‹_›
  |with_reducible exact idx_next hd0 ‹_›
  |with_reducible refine br_nil hd4 ?_
  |with_reducible refine br_nil hd2 ?_
  |with_reducible refine br_nil hd0 ?_
  |with_reducible refine br_cons hd4 ?_
  |with_reducible refine br_cons hd2 ?_
  |with_reducible refine br_cons hd0 ?_
  |with_reducible refine BrI.intro (λh=>?_) (λh=>?_)
  |((with_reducible refine LoopAt.mk 0 ?_);refine⟨rangeL (Declared p) 5 (λ(_:Unit)=>[]) (λ(_:Unit)=>[]) [1,2,4] (λi0 r0 _=>Resolve p=if !r0.all nameOk then(Pr.none,150)else if !uniqueFrom (Declared p) (Declared p) 0 then(Pr.none,151)else if !ranged p then(Pr.none,161)else fin p [] (resolveL p p.stmts 0 false)),?_⟩;with_reducible refine rangeL_rule () ?_ ?_ (λi0 (_:Unit) hd0 hI0=>?_) (λi0 x0 r0 (_:Unit) hd0 hl0 hI0=>?_))
  |(with_reducible refine rangeL_next hd0 () ?_ ?_)
  |((with_reducible refine LoopAt.mk 2 ?_);refine⟨rangeL (Declared p) 6 (λ(_:Unit)=>[]) (λ(_:Unit)=>[]) [1,2,4] (λi2 r2 _=>Resolve p=if !uniqueFrom (Declared p) r2 i2 then(Pr.none,151)else if !ranged p then(Pr.none,161)else fin p [] (resolveL p p.stmts 0 false)),?_⟩;with_reducible refine rangeL_rule () ?_ ?_ (λi2 (_:Unit) hd2 hI2=>?_) (λi2 x2 r2 (_:Unit) hd2 hl2 hI2=>?_))
  |(with_reducible refine rangeL_next hd2 () ?_ ?_)
  |((with_reducible refine LoopAt.mk 4 ?_);refine⟨rangeL (p.stmts) 9 (λ(q:(Bool)×(List Sm))=>match q with |(out,done)=>[(8,.data (.val (.bool out)))]) (λ(q:(Bool)×(List Sm))=>match q with |(out,done)=>[(7,.cells [.data (.str p.name),.data (.i p.latency),.data (.i p.tail),.data (.sl 3 (p.params.map Bd.cs)),.data (.sl 3 (p.states.map Bd.cs)),.data (.sl 4 (p.lines.map Ln.cs)),.data (.sl 2 (p.tables.map Tb.cs)),.gs 78 8 (done.map Sm.cs)]),(78,.tok 8 (done.map Sm.cs).length)]) [1,2,7] (λi4 r4 q=>match q with |(out,done)=>Resolve p=fin p done (resolveL p r4 i4 out)/\done.length=i4),?_⟩;with_reducible refine rangeL_rule (?_,([])) ?_ ?_ (λi4 ⟨out,done⟩ hd4 hI4=>?_) (λi4 x4 r4 ⟨out,done⟩ hd4 hl4 hI4=>?_))
  |(with_reducible refine rangeL_next hd4 (?_,(done++[⟨x4.kind,x4.name,smIndex p x4,(resolved p i4 x4.x).1⟩])) ?_ ?_)
  |((with_reducible refine call_step ?_ ?_ ?_);rotate_left;(first |exact gY _ |exact gm _ (by assumption) |exact dX _ (by assumption) |exact jR _ |exact jf |exact cO _ _ |exact ig _ |exact cZ _ (by assumption) |exact bG _ (by assumption) |exact je _ _ x4 (drop_get hd4) |exact dY _ _ _ hp (Nat.le_of_lt hl4) (hn _ (drop_mem hd4))))
  |(with_reducible refine ChooseI.l _ ?_)
  |((with_reducible refine idx_step ?_ ?_ ?_ ?_ ?_);exact rfl;exact rfl;rotate_left;(first |with_reducible exact idx_drop hd4 |with_reducible exact idx_drop hd2 |with_reducible exact idx_drop hd0))
  |((with_reducible refine len_step ?_ ?_);exact rfl)
  |((with_reducible refine app_step' ?_ ?_ ?_ ?_ ?_ ?_ ?_);exact rfl;exact rfl;exact rfl;exact rfl)
  |((with_reducible refine guard_stepT ?_ ?_ (λhg=>?_) ?_);exact rfl)
  |((with_reducible refine val_step ?_ ?_);with_reducible exact rfl;with_reducible exact rfl)
  |((with_reducible refine chk_stepP ?_ ?_);kernel_rfl)
  |((with_reducible refine ret_step ?_);refine⟨[],rfl,?_,trivial⟩;conv=>whnf)
  |(with_reducible refine And.intro ?_ ?_)
  |((with_reducible refine gs_eq ?_ ?_ ?_);exact rfl;exact rfl;(first |exact rfl |skip))
  |((with_reducible refine tok_eq ?_ ?_);exact rfl;(first |skip))
  |exact @rfl AV _
  |exact @rfl Block _
  |exact ble_le rfl)
 all_goals(try simp only[csimp]at *)
 all_goals first
  |(rw[hI2];(try simp only[nameOk,uniqueFrom,resolveL,smIndex,Bool.not_true,Bool.not_false,Bool.and_true,Bool.true_and,Bool.and_false,Bool.false_and,Bool.or_true,Bool.true_or,Bool.or_false,Bool.false_or,if_true,if_false,reduceIte,Bool.false_eq_true,Bool.not_not,Bool.not_eq_true',beq_self_eq_true,List.all_cons,List.all_nil,List.any_cons,List.any_nil,List.length_map,bne,eq_self,Int.toNat_zero, *]);first |done |rfl)
  |(rw[hI0];(try simp only[nameOk,uniqueFrom,resolveL,smIndex,Bool.not_true,Bool.not_false,Bool.and_true,Bool.true_and,Bool.and_false,Bool.false_and,Bool.or_true,Bool.true_or,Bool.or_false,Bool.false_or,if_true,if_false,reduceIte,Bool.false_eq_true,Bool.not_not,Bool.not_eq_true',beq_self_eq_true,List.all_cons,List.all_nil,List.any_cons,List.any_nil,List.length_map,bne,eq_self,Int.toNat_zero, *]);first |done |rfl)
  |(rw[hI4.1];(try simp only[nameOk,uniqueFrom,resolveL,smIndex,Bool.not_true,Bool.not_false,Bool.and_true,Bool.true_and,Bool.and_false,Bool.false_and,Bool.or_true,Bool.true_or,Bool.or_false,Bool.false_or,if_true,if_false,reduceIte,Bool.false_eq_true,Bool.not_not,Bool.not_eq_true',beq_self_eq_true,List.all_cons,List.all_nil,List.any_cons,List.any_nil,List.length_map,bne,eq_self,Int.toNat_zero, *]);first |done |rfl)
  |(simp only[Resolve,nameOk,Bool.not_true,Bool.not_false,Bool.and_true,Bool.true_and,Bool.and_false,Bool.false_and,Bool.or_true,Bool.true_or,Bool.or_false,Bool.false_or,if_true,if_false,reduceIte,Bool.false_eq_true,Bool.not_not,Bool.not_eq_true',beq_self_eq_true,List.all_cons,List.all_nil,List.any_cons,List.any_nil,List.length_map,bne,eq_self,Int.toNat_zero, *]<;>rfl)
  |omega
  |((rw[hI4.1];simp only[nameOk,uniqueFrom,resolveL,smIndex,Bool.not_true,Bool.not_false,Bool.and_true,Bool.true_and,Bool.and_false,Bool.false_and,Bool.or_true,Bool.true_or,Bool.or_false,Bool.false_or,if_true,if_false,reduceIte,Bool.false_eq_true,Bool.not_not,Bool.not_eq_true',beq_self_eq_true,List.all_cons,List.all_nil,List.any_cons,List.any_nil,List.length_map,bne,eq_self,Int.toNat_zero, *];exact fin_cons))
  |((rw[hI4.1];simp only[resolveL,Ref15.fin,List.append_nil,Bool.not_true,Bool.not_false,Bool.and_true,Bool.true_and,Bool.and_false,Bool.false_and,Bool.or_true,Bool.true_or,Bool.or_false,Bool.false_or,if_true,if_false,reduceIte,Bool.false_eq_true,Bool.not_not,Bool.not_eq_true',beq_self_eq_true,List.all_cons,List.all_nil,List.any_cons,List.any_nil,List.length_map,bne,eq_self,Int.toNat_zero, *]<;>rfl))
  |((simp only[List.length_append,List.length_cons,List.length_nil];omega))
  |((simp only[List.length_nil];done))
  |((simp only[smIndex,Bool.not_true,Bool.not_false,Bool.and_true,Bool.true_and,Bool.and_false,Bool.false_and,Bool.or_true,Bool.true_or,Bool.or_false,Bool.false_or,if_true,if_false,reduceIte,Bool.false_eq_true,Bool.not_not,Bool.not_eq_true',beq_self_eq_true,List.all_cons,List.all_nil,List.any_cons,List.any_nil,List.length_map,bne,eq_self,Int.toNat_zero, *];refine Eq.trans ?_ map_snoc;rfl))
  |skip
end Go.Proofs.YtogfjinopifenaaGreatDoor
