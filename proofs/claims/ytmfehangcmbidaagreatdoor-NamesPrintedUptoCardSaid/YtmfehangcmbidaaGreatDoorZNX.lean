/- Contracts: package names, small functions. -/
import Derived.Test.YtmfehangcmbidaaGreatDoorZLL
import Derived.Test.YtmfehangcmbidaaGreatDoorZK6
set_option linter.unusedSectionVars false
set_option linter.unusedSimpArgs false
set_option linter.unusedVariables false
set_option maxHeartbeats 400000
namespace Go.Proofs.YtmfehangcmbidaaGreatDoor
open Go.Fw Go.Fw.Nam
set_option maxRecDepth 10000
variable [ae]
theorem gz(b:Bool)(e:Int)  : aj Tryz.prog 61 [.b b,.i e] (kS 24 b e):=by
 refine bV Tryz.func61 ?_
 repeat' ((try(conv=>whnf))<;>first
  |with_reducible refine BrI.intro (λh=>?_) (λh=>?_)
  |((with_reducible refine lN ?_ ?_);rotate_left;refine⟨[],rfl,?_,trivial⟩;conv=>whnf)
  |((with_reducible refine lQ ?_ ?_);rotate_left;refine⟨[],rfl,?_,trivial⟩;conv=>whnf))
 all_goals(try simp only[csimp]at *)
 all_goals first
  |omega
  |skip
theorem Bc(n:Int)  : aj Tryz.prog 102 [.i n] (.ret (.b (sample n))):=by
 refine bV Tryz.func102 ?_
 repeat' ((try(conv=>whnf))<;>first
  |((with_reducible refine aC ?_);refine⟨[],rfl,?_,trivial⟩;conv=>whnf))
 all_goals(try simp only[csimp]at *)
 all_goals first
  |(simp only[sample,Bool.not_true,Bool.not_false,Bool.and_true,Bool.true_and,Bool.and_false,Bool.false_and,Bool.or_true,Bool.true_or,Bool.or_false,Bool.false_or,if_true,if_false,reduceIte,Bool.false_eq_true,Bool.not_not,Bool.not_eq_true',beq_self_eq_true,List.all_cons,List.all_nil,List.any_cons,List.any_nil,List.length_map,bne,eq_self,Int.toNat_zero, *];done)
  |skip
theorem xG(k:Int)  : aj Tryz.prog 60 [.i k] (.ret (.tuple [.i (arity k).1,.b (arity k).2])):=by
 refine bV Tryz.func60 ?_
 repeat' ((try(conv=>whnf))<;>first
  |refine BrI.tt ?_
  |refine BrI.intro (λh=>?_) (λh=>?_)
  |(refine qo ?_;conv=>whnf))
 all_goals first
  |(simp_all[arity])
  |skip
theorem Ip(x:Ex)  : aj Tryz.prog 97 [x.d] (kS 24 (dR x) 1):=by
 refine bV Tryz.func97 ?_
 repeat' ((try(conv=>whnf))<;>first
  |with_reducible refine aQ (gz _ _) (λh=>?_) (λh=>?_)
  |((with_reducible refine ai ?_ ?_ ?_);rotate_left;(exact xG _))
  |((with_reducible refine ig ?_ ?_);with_reducible exact rfl)
  |((with_reducible refine lN ?_ ?_);rotate_left;refine⟨[],rfl,?_,trivial⟩;conv=>whnf)
  |((with_reducible refine lQ ?_ ?_);rotate_left;refine⟨[],rfl,?_,trivial⟩;conv=>whnf))
 all_goals(try simp only[csimp]at *)
 all_goals first
  |(simp only[dR,Bool.not_true,Bool.not_false,Bool.and_true,Bool.true_and,Bool.and_false,Bool.false_and,Bool.or_true,Bool.true_or,Bool.or_false,Bool.false_or,if_true,if_false,reduceIte,Bool.false_eq_true,Bool.not_not,Bool.not_eq_true',beq_self_eq_true,List.all_cons,List.all_nil,List.any_cons,List.any_nil,List.length_map,bne,eq_self,Int.toNat_zero, *];done)
  |skip
theorem Qc(x:Ex)  : aj Tryz.prog 96 [x.d,.fn 97 []] (kS 24 (every dR x) 1):=by
 revert x;refine Ex.ind λx ih=>?_
 refine dM Tryz.func96 λhf=>?_
 have hlen:=Ex.fits (hf x.d (by simp))
 clear hf
 repeat' ((try(conv=>whnf))<;>first
  |exact trivial
  |exact ah hd0 ‹_›
  |refine nK hd0 ?_
  |refine kR hd0 ?_
  |refine aQ (Ip x) (λh=>?_) (λh=>?_)
  |refine aQ (ih x0 (dB hd0)) (λh=>?_) (λh=>?_)
  |((refine ak.mk 0 ?_);refine⟨aF (x.l) 12 (λ(_:Unit)=>[]) (λ(_:Unit)=>[]) [1,10,11] (λi0 r0 _=>every dR x=jd dR r0),?_⟩;refine ag () ?_ ?_ (λi0 (_:Unit) hd0 hI0=>?_) (λi0 x0 r0 (_:Unit) hd0 hl0 hI0=>?_))
  |(refine af hd0 () ?_ ?_)
  |((refine aJ ?_ ?_ ?_ ?_ ?_);exact rfl;exact rfl;rotate_left;(exact jq hd0))
  |((refine aV ?_ ?_);exact rfl)
  |((refine lN ?_ ?_);rotate_left;refine⟨[],rfl,?_,trivial⟩;conv=>whnf)
  |((refine lQ ?_ ?_);rotate_left;refine⟨[],rfl,?_,trivial⟩;conv=>whnf)
  |(refine And.intro ?_ ?_)
  |exact @rfl AV _)
 all_goals first
  |(rw[hI0];(try simp only[jd,Bool.not_true,Bool.not_false,Bool.and_true,Bool.true_and,Bool.and_false,Bool.false_and,Bool.or_true,Bool.true_or,Bool.or_false,Bool.false_or,if_true,if_false,reduceIte,Bool.false_eq_true,Bool.not_not,Bool.not_eq_true',beq_self_eq_true,List.all_cons,List.all_nil,List.any_cons,List.any_nil,List.length_map,bne,eq_self,Int.toNat_zero, *]);first |done |rfl)
  |(simp only[jD,Bool.not_true,Bool.not_false,Bool.and_true,Bool.true_and,Bool.and_false,Bool.false_and,Bool.or_true,Bool.true_or,Bool.or_false,Bool.false_or,if_true,if_false,reduceIte,Bool.false_eq_true,Bool.not_not,Bool.not_eq_true',beq_self_eq_true,List.all_cons,List.all_nil,List.any_cons,List.any_nil,List.length_map,bne,eq_self,Int.toNat_zero, *];done)
  |skip
theorem iQ(p:Pr)  : aj Tryz.prog 55 [p.d] (kS 24 (formed p) 1):=by
 refine dM Tryz.func55 λhf=>?_
 have hlen:=(Pr.fits (hf p.d (by simp))).stmts
 clear hf
 repeat' ((try(conv=>whnf))<;>first
  |with_reducible exact trivial
  |with_reducible exact ah hd0 ‹_›
  |with_reducible refine bz hd0 ?_
  |with_reducible refine aS hd0 ?_
  |with_reducible refine aQ (gz _ _) (λh=>?_) (λh=>?_)
  |with_reducible refine aQ (Qc _) (λh=>?_) (λh=>?_)
  |((with_reducible refine ak.mk 0 ?_);refine⟨aF (p.stmts) 7 (λ(_:Unit)=>[]) (λ(_:Unit)=>[]) [5,6] (λi0 r0 _=>formed p=r0.all λs=>SA s&&every dR s.x),?_⟩;with_reducible refine ag () ?_ ?_ (λi0 (_:Unit) hd0 hI0=>?_) (λi0 x0 r0 (_:Unit) hd0 hl0 hI0=>?_))
  |(with_reducible refine af hd0 () ?_ ?_)
  |((with_reducible refine aJ ?_ ?_ ?_ ?_ ?_);exact rfl;exact rfl;rotate_left;(with_reducible exact aA hd0))
  |((with_reducible refine aV ?_ ?_);exact rfl)
  |((with_reducible refine ig ?_ ?_);with_reducible exact rfl)
  |((with_reducible refine lN ?_ ?_);rotate_left;refine⟨[],rfl,?_,trivial⟩;conv=>whnf)
  |((with_reducible refine lQ ?_ ?_);rotate_left;refine⟨[],rfl,?_,trivial⟩;conv=>whnf)
  |(with_reducible refine And.intro ?_ ?_)
  |exact @rfl AV _)
 all_goals(try simp only[csimp]at *)
 all_goals first
  |(rw[hI0];(try simp only[SA,Bool.not_true,Bool.not_false,Bool.and_true,Bool.true_and,Bool.and_false,Bool.false_and,Bool.or_true,Bool.true_or,Bool.or_false,Bool.false_or,if_true,if_false,reduceIte,Bool.false_eq_true,Bool.not_not,Bool.not_eq_true',beq_self_eq_true,List.all_cons,List.all_nil,List.any_cons,List.any_nil,List.length_map,bne,eq_self,Int.toNat_zero, *]);first |done |rfl)
  |(simp only[formed,Bool.not_true,Bool.not_false,Bool.and_true,Bool.true_and,Bool.and_false,Bool.false_and,Bool.or_true,Bool.true_or,Bool.or_false,Bool.false_or,if_true,if_false,reduceIte,Bool.false_eq_true,Bool.not_not,Bool.not_eq_true',beq_self_eq_true,List.all_cons,List.all_nil,List.any_cons,List.any_nil,List.length_map,bne,eq_self,Int.toNat_zero, *];done)
  |skip
theorem Iq(x:Ex)  : aj Tryz.prog 105 [x.d] (kS 24 (eU x) 161):=by
 refine bV Tryz.func105 ?_
 repeat' ((try(conv=>whnf))<;>first
  |with_reducible refine aQ (gz _ _) (λh=>?_) (λh=>?_)
  |((with_reducible refine ig ?_ ?_);with_reducible exact rfl)
  |((with_reducible refine lN ?_ ?_);rotate_left;refine⟨[],rfl,?_,trivial⟩;conv=>whnf)
  |((with_reducible refine lQ ?_ ?_);rotate_left;refine⟨[],rfl,?_,trivial⟩;conv=>whnf))
 all_goals(try simp only[csimp]at *)
 all_goals first
  |(simp only[eU,Bool.not_true,Bool.not_false,Bool.and_true,Bool.true_and,Bool.and_false,Bool.false_and,Bool.or_true,Bool.true_or,Bool.or_false,Bool.false_or,if_true,if_false,reduceIte,Bool.false_eq_true,Bool.not_not,Bool.not_eq_true',beq_self_eq_true,List.all_cons,List.all_nil,List.any_cons,List.any_nil,List.length_map,bne,eq_self,Int.toNat_zero, *];done)
  |skip
theorem Qd(x:Ex)  : aj Tryz.prog 96 [x.d,.fn 105 []] (kS 24 (every eU x) 161):=by
 revert x;refine Ex.ind λx ih=>?_
 refine dM Tryz.func96 λhf=>?_
 have hlen:=Ex.fits (hf x.d (by simp))
 clear hf
 repeat' ((try(conv=>whnf))<;>first
  |exact trivial
  |exact ah hd0 ‹_›
  |refine nK hd0 ?_
  |refine kR hd0 ?_
  |refine aQ (Iq x) (λh=>?_) (λh=>?_)
  |refine aQ (ih x0 (dB hd0)) (λh=>?_) (λh=>?_)
  |((refine ak.mk 0 ?_);refine⟨aF (x.l) 12 (λ(_:Unit)=>[]) (λ(_:Unit)=>[]) [1,10,11] (λi0 r0 _=>every eU x=jd eU r0),?_⟩;refine ag () ?_ ?_ (λi0 (_:Unit) hd0 hI0=>?_) (λi0 x0 r0 (_:Unit) hd0 hl0 hI0=>?_))
  |(refine af hd0 () ?_ ?_)
  |((refine aJ ?_ ?_ ?_ ?_ ?_);exact rfl;exact rfl;rotate_left;(exact jq hd0))
  |((refine aV ?_ ?_);exact rfl)
  |((refine lN ?_ ?_);rotate_left;refine⟨[],rfl,?_,trivial⟩;conv=>whnf)
  |((refine lQ ?_ ?_);rotate_left;refine⟨[],rfl,?_,trivial⟩;conv=>whnf)
  |(refine And.intro ?_ ?_)
  |exact @rfl AV _)
 all_goals first
  |(rw[hI0];(try simp only[jd,Bool.not_true,Bool.not_false,Bool.and_true,Bool.true_and,Bool.and_false,Bool.false_and,Bool.or_true,Bool.true_or,Bool.or_false,Bool.false_or,if_true,if_false,reduceIte,Bool.false_eq_true,Bool.not_not,Bool.not_eq_true',beq_self_eq_true,List.all_cons,List.all_nil,List.any_cons,List.any_nil,List.length_map,bne,eq_self,Int.toNat_zero, *]);first |done |rfl)
  |(simp only[jD,Bool.not_true,Bool.not_false,Bool.and_true,Bool.true_and,Bool.and_false,Bool.false_and,Bool.or_true,Bool.true_or,Bool.or_false,Bool.false_or,if_true,if_false,reduceIte,Bool.false_eq_true,Bool.not_not,Bool.not_eq_true',beq_self_eq_true,List.all_cons,List.all_nil,List.any_cons,List.any_nil,List.length_map,bne,eq_self,Int.toNat_zero, *];done)
  |skip
end Go.Proofs.YtmfehangcmbidaaGreatDoor
namespace Go.Proofs.YtmfehangcmbidaaGreatDoor
open Go.Fw Go.Fw.Nam Go.Fw.Ref15
set_option maxRecDepth 10000
variable [ae]
theorem Fa(x:Ex)(n:Nat)(hn:n<=1099511627776):ax Tryz.prog 98 [.data x.d,.ptr 1000000 0] [(1000000,.cells [.data (.i (n:Int))])] (.ret (.data (.tuple []))) [(1000000,.cells [.data (.i ((n+1:Nat):Int))])]:=by
 refine bg Tryz.func98 ?_
 repeat' ((try(conv=>whnf))<;>first
  |exact trivial
  |((refine aC ?_);refine fin_step' [] rfl ?_ ?_)
  |(refine And.intro ?_ ?_))
 all_goals first
  |((exact congrArg (λz=>D.val (Value.int IntKind.i64 z)) (yM (b:=1) (by omega))))
  |skip
theorem Qe(x:Ex)(n:Nat)(hn:n+nodes x<=1099511627776):ax Tryz.prog 96 [.data x.d,.fn 98 [.ptr 1000000 0]] [(1000000,.cells [.data (.i (n:Int))])] (.ret (.data (.tuple []))) [(1000000,.cells [.data (.i ((n+nodes x:Nat):Int))])]:=by
 revert n;revert x;refine Ex.ind λx ih n hn=>?_
 refine xQ Tryz.func96 λhf=>?_
 have hlen:=Ex.fits (yh.data (hf (.data x.d) (by simp)))
 have hN:=jC x
 clear hf
 repeat' ((try(conv=>whnf))<;>first
  |exact trivial
  |exact ah hd0 ‹_›
  |refine nK hd0 ?_
  |refine kR hd0 ?_
  |((refine ak.mk 0 ?_);refine⟨aF (x.l) 12 (λ(k:(Nat))=>[]) (λ(k:(Nat))=>[(1000000,.cells [.data (.val (.int .i64 (k:Int)))])]) [1,10,11] (λi0 r0 k=>n+nodes x=k+nodesL r0),?_⟩;refine ag (n+1) ?_ ?_ (λi0 (k:(Nat)) hd0 hI0=>?_) (λi0 x0 r0 (k:(Nat)) hd0 hl0 hI0=>?_))
  |(refine af hd0 (k+nodes x0) ?_ ?_)
  |((refine lent_step' [(1000000,1000000)] (Fa x n (by omega)) ?_ ?_ ?_ ?_);rotate_left 0;exact rfl;(exact⟨rfl,trivial⟩);exact rfl)
  |((refine lent_step' [(1000000,1000000)] (ih x0 (dB hd0) k (by simp only[nodesL]at hI0;omega)) ?_ ?_ ?_ ?_);rotate_left 0;exact rfl;(exact⟨rfl,trivial⟩);exact rfl)
  |((refine aC ?_);refine fin_step' [] rfl ?_ ?_)
  |((refine aJ ?_ ?_ ?_ ?_ ?_);exact rfl;exact rfl;rotate_left;(exact jq hd0))
  |((refine aV ?_ ?_);exact rfl)
  |(refine And.intro ?_ ?_)
  |exact @rfl AV _)
 all_goals first
  |omega
  |((simp only[nodesL]at hI0;omega))
  |((simp only[nodesL]at hI0;exact congrArg (λz:Nat=>D.val (Value.int IntKind.i64 (z:Int))) (by omega)))
  |skip
theorem Ir(n:Int)  : aj Tryz.prog 104 [.i n] (.ret (.b (!sample n))):=by
 refine bV Tryz.func104 ?_
 repeat' ((try(conv=>whnf))<;>first
  |((refine ai ?_ ?_ ?_);rotate_left;(exact Bc _))
  |(refine qo ?_;conv=>whnf))
 all_goals first
  |skip
theorem Fe(l:List Int)  : aj Tryz.prog 132 [ints l,.fn 104 []] (.ret (.i (tq l 0))):=by
 refine dM Tryz.func132 λhf=>?_
 have hlen:l.length<=9223372036854775807:=by simpa using(hf (ints l) (by simp)).sl.1
 clear hf
 repeat' ((try(conv=>whnf))<;>first
  |exact trivial
  |exact ah hd0 ‹_›
  |refine bz hd0 ?_
  |refine aS hd0 ?_
  |refine BrI.intro (λh=>?_) (λh=>?_)
  |((refine ak.mk 0 ?_);refine⟨aF (l) 8 (λ(_:Unit)=>[]) (λ(_:Unit)=>[]) [0,1,7] (λi0 r0 _=>tq l 0=tq r0 i0),?_⟩;refine ag () ?_ ?_ (λi0 (_:Unit) hd0 hI0=>?_) (λi0 x0 r0 (_:Unit) hd0 hl0 hI0=>?_))
  |(refine af hd0 () ?_ ?_)
  |((refine ai ?_ ?_ ?_);rotate_left;(exact Ir _))
  |((refine aJ ?_ ?_ ?_ ?_ ?_);exact rfl;exact rfl;rotate_left;(exact aA hd0))
  |(refine qo ?_;conv=>whnf)
  |(refine And.intro ?_ ?_)
  |exact @rfl AV _)
 all_goals first
  |(rw[hI0];(try simp only[tq,Bool.not_true,Bool.not_false,Bool.and_true,Bool.true_and,Bool.and_false,Bool.false_and,Bool.or_true,Bool.true_or,Bool.or_false,Bool.false_or,if_true,if_false,reduceIte,Bool.false_eq_true,Bool.not_not,Bool.not_eq_true',beq_self_eq_true,List.all_cons,List.all_nil,List.any_cons,List.any_nil,List.length_map,bne,eq_self,Int.toNat_zero, *]);first |done |rfl)
  |((simp_all[tq];done))
  |skip
theorem yw(l:List Int)  : aj Tryz.prog 103 [ints l,.fn 104 []] (.ret (.b (bad l))):=by
 refine bV Tryz.func103 ?_
 repeat' ((try(conv=>whnf))<;>first
  |((refine ai ?_ ?_ ?_);rotate_left;(exact Fe _))
  |(refine qo ?_;conv=>whnf))
 all_goals first
  |(simp only[bad,Bool.not_true,Bool.not_false,Bool.and_true,Bool.true_and,Bool.and_false,Bool.false_and,Bool.or_true,Bool.true_or,Bool.or_false,Bool.false_or,if_true,if_false,reduceIte,Bool.false_eq_true,Bool.not_not,Bool.not_eq_true',beq_self_eq_true,List.all_cons,List.all_nil,List.any_cons,List.any_nil,List.length_map,bne,eq_self,Int.toNat_zero, *];done)
  |skip
end Go.Proofs.YtmfehangcmbidaaGreatDoor
namespace Go.Proofs.YtmfehangcmbidaaGreatDoor
open Go.Fw Go.Fw.Nam
set_option maxRecDepth 10000
variable [ae]
theorem ji(p:Pr)(hn:∀s∈p.stmts,Ref15.nodes s.x<=1073741824):aj Tryz.prog 56 [p.d] (kS 24 (limited p) 2):=by
 refine dM Tryz.func56 λhf=>?_
 have hq:=Pr.fits (hf p.d (by simp))
 have hlen3:=hq.lines;have hlen4:=hq.tables;have hlen5:=hq.stmts
 clear hf
 repeat' ((try(conv=>whnf))<;>first
  |with_reducible exact trivial
  |with_reducible exact ah hd4 ‹_›
  |with_reducible exact ah hd2 ‹_›
  |with_reducible exact ah hd0 ‹_›
  |with_reducible refine bz hd4 ?_
  |with_reducible refine bz hd2 ?_
  |with_reducible refine bz hd0 ?_
  |with_reducible refine aS hd4 ?_
  |with_reducible refine aS hd2 ?_
  |with_reducible refine aS hd0 ?_
  |with_reducible refine aQ (gz _ _) (λh=>?_) (λh=>?_)
  |((with_reducible refine ak.mk 0 ?_);refine⟨aF (p.lines) 55 (λ(ok:(Bool))=>[(3,.data (.val (.bool ok)))]) (λ(ok:(Bool))=>[]) [1,53,54] (λi0 r0 ok=>limited p=(ok&&(r0.all ln1&&(p.tables.all tb1&&p.stmts.all sm1)))),?_⟩;with_reducible refine ag ?_ ?_ ?_ (λi0 (ok:(Bool)) hd0 hI0=>?_) (λi0 x0 r0 (ok:(Bool)) hd0 hl0 hI0=>?_))
  |(with_reducible refine af hd0 ?_ ?_ ?_)
  |((with_reducible refine ak.mk 2 ?_);refine⟨aF (p.tables) 74 (λ(ok:(Bool))=>[(3,.data (.val (.bool ok)))]) (λ(ok:(Bool))=>[]) [1,72,73] (λi2 r2 ok=>limited p=(ok&&(r2.all tb1&&p.stmts.all sm1))),?_⟩;with_reducible refine ag ?_ ?_ ?_ (λi2 (ok:(Bool)) hd2 hI2=>?_) (λi2 x2 r2 (ok:(Bool)) hd2 hl2 hI2=>?_))
  |(with_reducible refine af hd2 ?_ ?_ ?_)
  |((with_reducible refine ak.mk 4 ?_);refine⟨aF (p.stmts) 95 (λ(ok:(Bool))=>[(3,.data (.val (.bool ok)))]) (λ(ok:(Bool))=>[]) [93,94] (λi4 r4 ok=>limited p=(ok&&r4.all sm1)),?_⟩;with_reducible refine ag ?_ ?_ ?_ (λi4 (ok:(Bool)) hd4 hI4=>?_) (λi4 x4 r4 (ok:(Bool)) hd4 hl4 hI4=>?_))
  |(with_reducible refine af hd4 ?_ ?_ ?_)
  |((with_reducible refine lent_step' [(1000000,10)] (Qe x4.x 0 (by have:=hn _ (dB hd4);omega)) ?_ ?_ ?_ ?_);rotate_left 0;exact rfl;(exact⟨rfl,trivial⟩);exact rfl)
  |((with_reducible refine aJ ?_ ?_ ?_ ?_ ?_);exact rfl;exact rfl;rotate_left;(first |with_reducible exact aA hd4 |with_reducible exact aA hd2 |with_reducible exact aA hd0))
  |((with_reducible refine aV ?_ ?_);exact rfl)
  |((with_reducible refine lN ?_ ?_);rotate_left;refine⟨[],rfl,?_,trivial⟩;conv=>whnf)
  |((with_reducible refine lQ ?_ ?_);rotate_left;refine⟨[],rfl,?_,trivial⟩;conv=>whnf)
  |(with_reducible refine And.intro ?_ ?_)
  |exact @rfl AV _)
 all_goals(try simp only[csimp]at *)
 all_goals first
  |(rw[hI4];(try simp only[ln1,tb1,sm1,Bool.and_assoc,Nat.zero_add,Bool.not_true,Bool.not_false,Bool.and_true,Bool.true_and,Bool.and_false,Bool.false_and,Bool.or_true,Bool.true_or,Bool.or_false,Bool.false_or,if_true,if_false,reduceIte,Bool.false_eq_true,Bool.not_not,Bool.not_eq_true',beq_self_eq_true,List.all_cons,List.all_nil,List.any_cons,List.any_nil,List.length_map,bne,eq_self,Int.toNat_zero, *]);first |done |rfl)
  |(rw[hI2];(try simp only[ln1,tb1,sm1,Bool.and_assoc,Nat.zero_add,Bool.not_true,Bool.not_false,Bool.and_true,Bool.true_and,Bool.and_false,Bool.false_and,Bool.or_true,Bool.true_or,Bool.or_false,Bool.false_or,if_true,if_false,reduceIte,Bool.false_eq_true,Bool.not_not,Bool.not_eq_true',beq_self_eq_true,List.all_cons,List.all_nil,List.any_cons,List.any_nil,List.length_map,bne,eq_self,Int.toNat_zero, *]);first |done |rfl)
  |(rw[hI0];(try simp only[ln1,tb1,sm1,Bool.and_assoc,Nat.zero_add,Bool.not_true,Bool.not_false,Bool.and_true,Bool.true_and,Bool.and_false,Bool.false_and,Bool.or_true,Bool.true_or,Bool.or_false,Bool.false_or,if_true,if_false,reduceIte,Bool.false_eq_true,Bool.not_not,Bool.not_eq_true',beq_self_eq_true,List.all_cons,List.all_nil,List.any_cons,List.any_nil,List.length_map,bne,eq_self,Int.toNat_zero, *]);first |done |rfl)
  |(rfl)
  |skip
end Go.Proofs.YtmfehangcmbidaaGreatDoor
