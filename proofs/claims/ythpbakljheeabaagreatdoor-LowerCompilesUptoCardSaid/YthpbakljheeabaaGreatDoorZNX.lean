/- Contracts: package names, small functions. -/
import Derived.Test.YthpbakljheeabaaGreatDoorZLL
import Derived.Test.YthpbakljheeabaaGreatDoorZK6
set_option linter.unusedSectionVars false
set_option linter.unusedSimpArgs false
set_option linter.unusedVariables false
set_option maxHeartbeats 400000
namespace Go.Proofs.YthpbakljheeabaaGreatDoor
open Go.Fw Go.Fw.Nam
set_option maxRecDepth 10000
variable [ah]
theorem gz(b:Bool)(e:Int)  : PCall Tryz.prog 84 [.b b,.i e] (kS 30 b e):=by
 refine aJ Tryz.func84 ?_
 repeat' ((try(conv=>whnf))<;>first
  |with_reducible refine BrI.intro (λh=>?_) (λh=>?_)
  |((with_reducible refine lD ?_ ?_);rotate_left;refine⟨[],rfl,?_,trivial⟩;conv=>whnf)
  |((with_reducible refine lF ?_ ?_);rotate_left;refine⟨[],rfl,?_,trivial⟩;conv=>whnf))
 all_goals(try simp only[csimp]at *)
 all_goals first
  |omega
  |skip
theorem Ae(n:Int)  : PCall Tryz.prog 102 [.i n] (.ret (.b (sample n))):=by
 refine aJ Tryz.func102 ?_
 repeat' ((try(conv=>whnf))<;>first
  |((with_reducible refine aI ?_);refine⟨[],rfl,?_,trivial⟩;conv=>whnf))
 all_goals(try simp only[csimp]at *)
 all_goals first
  |(simp only[sample,Bool.not_true,Bool.not_false,Bool.and_true,Bool.true_and,Bool.and_false,Bool.false_and,Bool.or_true,Bool.true_or,Bool.or_false,Bool.false_or,if_true,if_false,reduceIte,Bool.false_eq_true,Bool.not_not,Bool.not_eq_true',beq_self_eq_true,List.all_cons,List.all_nil,List.any_cons,List.any_nil,List.length_map,bne,eq_self,Int.toNat_zero, *];done)
  |skip
theorem wI(k:Int)  : PCall Tryz.prog 83 [.i k] (.ret (.tuple [.i (arity k).1,.b (arity k).2])):=by
 refine aJ Tryz.func83 ?_
 repeat' ((try(conv=>whnf))<;>first
  |refine BrI.tt ?_
  |refine BrI.intro (λh=>?_) (λh=>?_)
  |(refine fA ?_;conv=>whnf))
 all_goals first
  |(simp_all[arity])
  |skip
theorem H8(x:Ex)  : PCall Tryz.prog 97 [x.d] (kS 30 (kP x) 1):=by
 refine aJ Tryz.func97 ?_
 repeat' ((try(conv=>whnf))<;>first
  |with_reducible refine aP (gz _ _) (λh=>?_) (λh=>?_)
  |((with_reducible refine ai ?_ ?_ ?_);rotate_left;(exact wI _))
  |((with_reducible refine fZ ?_ ?_);with_reducible exact rfl)
  |((with_reducible refine lD ?_ ?_);rotate_left;refine⟨[],rfl,?_,trivial⟩;conv=>whnf)
  |((with_reducible refine lF ?_ ?_);rotate_left;refine⟨[],rfl,?_,trivial⟩;conv=>whnf))
 all_goals(try simp only[csimp]at *)
 all_goals first
  |(simp only[kP,Bool.not_true,Bool.not_false,Bool.and_true,Bool.true_and,Bool.and_false,Bool.false_and,Bool.or_true,Bool.true_or,Bool.or_false,Bool.false_or,if_true,if_false,reduceIte,Bool.false_eq_true,Bool.not_not,Bool.not_eq_true',beq_self_eq_true,List.all_cons,List.all_nil,List.any_cons,List.any_nil,List.length_map,bne,eq_self,Int.toNat_zero, *];done)
  |skip
theorem Pj(x:Ex)  : PCall Tryz.prog 96 [x.d,.fn 97 []] (kS 30 (every kP x) 1):=by
 revert x;refine Ex.ind λx ih=>?_
 refine dA Tryz.func96 λhf=>?_
 have hlen:=Ex.fits (hf x.d (by simp))
 clear hf
 repeat' ((try(conv=>whnf))<;>first
  |exact trivial
  |exact aj hd0 ‹_›
  |refine jB hd0 ?_
  |refine fV hd0 ?_
  |refine aP (H8 x) (λh=>?_) (λh=>?_)
  |refine aP (ih x0 (bn hd0)) (λh=>?_) (λh=>?_)
  |((refine au.mk 0 ?_);refine⟨aF (x.l) 12 (λ(_:Unit)=>[]) (λ(_:Unit)=>[]) [1,10,11] (λi0 r0 _=>every kP x=ui kP r0),?_⟩;refine af () ?_ ?_ (λi0 (_:Unit) hd0 hI0=>?_) (λi0 x0 r0 (_:Unit) hd0 hl0 hI0=>?_))
  |(refine ag hd0 () ?_ ?_)
  |((refine ay ?_ ?_ ?_ ?_ ?_);exact rfl;exact rfl;rotate_left;(exact dS hd0))
  |((refine aK ?_ ?_);exact rfl)
  |((refine lD ?_ ?_);rotate_left;refine⟨[],rfl,?_,trivial⟩;conv=>whnf)
  |((refine lF ?_ ?_);rotate_left;refine⟨[],rfl,?_,trivial⟩;conv=>whnf)
  |(refine And.intro ?_ ?_)
  |exact @rfl AV _)
 all_goals first
  |(rw[hI0];(try simp only[ui,Bool.not_true,Bool.not_false,Bool.and_true,Bool.true_and,Bool.and_false,Bool.false_and,Bool.or_true,Bool.true_or,Bool.or_false,Bool.false_or,if_true,if_false,reduceIte,Bool.false_eq_true,Bool.not_not,Bool.not_eq_true',beq_self_eq_true,List.all_cons,List.all_nil,List.any_cons,List.any_nil,List.length_map,bne,eq_self,Int.toNat_zero, *]);first |done |rfl)
  |(simp only[xP,Bool.not_true,Bool.not_false,Bool.and_true,Bool.true_and,Bool.and_false,Bool.false_and,Bool.or_true,Bool.true_or,Bool.or_false,Bool.false_or,if_true,if_false,reduceIte,Bool.false_eq_true,Bool.not_not,Bool.not_eq_true',beq_self_eq_true,List.all_cons,List.all_nil,List.any_cons,List.any_nil,List.length_map,bne,eq_self,Int.toNat_zero, *];done)
  |skip
theorem iP(p:Pr)  : PCall Tryz.prog 78 [p.d] (kS 30 (formed p) 1):=by
 refine dA Tryz.func78 λhf=>?_
 have hlen:=(Pr.fits (hf p.d (by simp))).stmts
 clear hf
 repeat' ((try(conv=>whnf))<;>first
  |with_reducible exact trivial
  |with_reducible exact aj hd0 ‹_›
  |with_reducible refine bu hd0 ?_
  |with_reducible refine aN hd0 ?_
  |with_reducible refine aP (gz _ _) (λh=>?_) (λh=>?_)
  |with_reducible refine aP (Pj _) (λh=>?_) (λh=>?_)
  |((with_reducible refine au.mk 0 ?_);refine⟨aF (p.stmts) 7 (λ(_:Unit)=>[]) (λ(_:Unit)=>[]) [5,6] (λi0 r0 _=>formed p=r0.all λs=>V5 s&&every kP s.x),?_⟩;with_reducible refine af () ?_ ?_ (λi0 (_:Unit) hd0 hI0=>?_) (λi0 x0 r0 (_:Unit) hd0 hl0 hI0=>?_))
  |(with_reducible refine ag hd0 () ?_ ?_)
  |((with_reducible refine ay ?_ ?_ ?_ ?_ ?_);exact rfl;exact rfl;rotate_left;(with_reducible exact ax hd0))
  |((with_reducible refine aK ?_ ?_);exact rfl)
  |((with_reducible refine fZ ?_ ?_);with_reducible exact rfl)
  |((with_reducible refine lD ?_ ?_);rotate_left;refine⟨[],rfl,?_,trivial⟩;conv=>whnf)
  |((with_reducible refine lF ?_ ?_);rotate_left;refine⟨[],rfl,?_,trivial⟩;conv=>whnf)
  |(with_reducible refine And.intro ?_ ?_)
  |exact @rfl AV _)
 all_goals(try simp only[csimp]at *)
 all_goals first
  |(rw[hI0];(try simp only[V5,Bool.not_true,Bool.not_false,Bool.and_true,Bool.true_and,Bool.and_false,Bool.false_and,Bool.or_true,Bool.true_or,Bool.or_false,Bool.false_or,if_true,if_false,reduceIte,Bool.false_eq_true,Bool.not_not,Bool.not_eq_true',beq_self_eq_true,List.all_cons,List.all_nil,List.any_cons,List.any_nil,List.length_map,bne,eq_self,Int.toNat_zero, *]);first |done |rfl)
  |(simp only[formed,Bool.not_true,Bool.not_false,Bool.and_true,Bool.true_and,Bool.and_false,Bool.false_and,Bool.or_true,Bool.true_or,Bool.or_false,Bool.false_or,if_true,if_false,reduceIte,Bool.false_eq_true,Bool.not_not,Bool.not_eq_true',beq_self_eq_true,List.all_cons,List.all_nil,List.any_cons,List.any_nil,List.length_map,bne,eq_self,Int.toNat_zero, *];done)
  |skip
theorem H9(x:Ex)  : PCall Tryz.prog 104 [x.d] (kS 30 (lX x) 161):=by
 refine aJ Tryz.func104 ?_
 repeat' ((try(conv=>whnf))<;>first
  |with_reducible refine aP (gz _ _) (λh=>?_) (λh=>?_)
  |((with_reducible refine fZ ?_ ?_);with_reducible exact rfl)
  |((with_reducible refine lD ?_ ?_);rotate_left;refine⟨[],rfl,?_,trivial⟩;conv=>whnf)
  |((with_reducible refine lF ?_ ?_);rotate_left;refine⟨[],rfl,?_,trivial⟩;conv=>whnf))
 all_goals(try simp only[csimp]at *)
 all_goals first
  |(simp only[lX,Bool.not_true,Bool.not_false,Bool.and_true,Bool.true_and,Bool.and_false,Bool.false_and,Bool.or_true,Bool.true_or,Bool.or_false,Bool.false_or,if_true,if_false,reduceIte,Bool.false_eq_true,Bool.not_not,Bool.not_eq_true',beq_self_eq_true,List.all_cons,List.all_nil,List.any_cons,List.any_nil,List.length_map,bne,eq_self,Int.toNat_zero, *];done)
  |skip
theorem Pm(x:Ex)  : PCall Tryz.prog 96 [x.d,.fn 104 []] (kS 30 (every lX x) 161):=by
 revert x;refine Ex.ind λx ih=>?_
 refine dA Tryz.func96 λhf=>?_
 have hlen:=Ex.fits (hf x.d (by simp))
 clear hf
 repeat' ((try(conv=>whnf))<;>first
  |exact trivial
  |exact aj hd0 ‹_›
  |refine jB hd0 ?_
  |refine fV hd0 ?_
  |refine aP (H9 x) (λh=>?_) (λh=>?_)
  |refine aP (ih x0 (bn hd0)) (λh=>?_) (λh=>?_)
  |((refine au.mk 0 ?_);refine⟨aF (x.l) 12 (λ(_:Unit)=>[]) (λ(_:Unit)=>[]) [1,10,11] (λi0 r0 _=>every lX x=ui lX r0),?_⟩;refine af () ?_ ?_ (λi0 (_:Unit) hd0 hI0=>?_) (λi0 x0 r0 (_:Unit) hd0 hl0 hI0=>?_))
  |(refine ag hd0 () ?_ ?_)
  |((refine ay ?_ ?_ ?_ ?_ ?_);exact rfl;exact rfl;rotate_left;(exact dS hd0))
  |((refine aK ?_ ?_);exact rfl)
  |((refine lD ?_ ?_);rotate_left;refine⟨[],rfl,?_,trivial⟩;conv=>whnf)
  |((refine lF ?_ ?_);rotate_left;refine⟨[],rfl,?_,trivial⟩;conv=>whnf)
  |(refine And.intro ?_ ?_)
  |exact @rfl AV _)
 all_goals first
  |(rw[hI0];(try simp only[ui,Bool.not_true,Bool.not_false,Bool.and_true,Bool.true_and,Bool.and_false,Bool.false_and,Bool.or_true,Bool.true_or,Bool.or_false,Bool.false_or,if_true,if_false,reduceIte,Bool.false_eq_true,Bool.not_not,Bool.not_eq_true',beq_self_eq_true,List.all_cons,List.all_nil,List.any_cons,List.any_nil,List.length_map,bne,eq_self,Int.toNat_zero, *]);first |done |rfl)
  |(simp only[xP,Bool.not_true,Bool.not_false,Bool.and_true,Bool.true_and,Bool.and_false,Bool.false_and,Bool.or_true,Bool.true_or,Bool.or_false,Bool.false_or,if_true,if_false,reduceIte,Bool.false_eq_true,Bool.not_not,Bool.not_eq_true',beq_self_eq_true,List.all_cons,List.all_nil,List.any_cons,List.any_nil,List.length_map,bne,eq_self,Int.toNat_zero, *];done)
  |skip
end Go.Proofs.YthpbakljheeabaaGreatDoor
namespace Go.Proofs.YthpbakljheeabaaGreatDoor
open Go.Fw Go.Fw.Nam Go.Fw.Ref15
set_option maxRecDepth 10000
variable [ah]
theorem EI(x:Ex)(n:Nat)(hn:n<=1099511627776):LCall Tryz.prog 98 [.data x.d,.ptr 1000000 0] [(1000000,.cells [.data (.i (n:Int))])] (.ret (.data (.tuple []))) [(1000000,.cells [.data (.i ((n+1:Nat):Int))])]:=by
 refine dX Tryz.func98 ?_
 repeat' ((try(conv=>whnf))<;>first
  |exact trivial
  |((refine aI ?_);refine fin_step' [] rfl ?_ ?_)
  |(refine And.intro ?_ ?_))
 all_goals first
  |((exact congrArg (λz=>D.val (Value.int IntKind.i64 z)) (uj (b:=1) (by omega))))
  |skip
theorem Pn(x:Ex)(n:Nat)(hn:n+nodes x<=1099511627776):LCall Tryz.prog 96 [.data x.d,.fn 98 [.ptr 1000000 0]] [(1000000,.cells [.data (.i (n:Int))])] (.ret (.data (.tuple []))) [(1000000,.cells [.data (.i ((n+nodes x:Nat):Int))])]:=by
 revert n;revert x;refine Ex.ind λx ih n hn=>?_
 refine jJ Tryz.func96 λhf=>?_
 have hlen:=Ex.fits (vJ.data (hf (.data x.d) (by simp)))
 have hN:=nodes_eq x
 clear hf
 repeat' ((try(conv=>whnf))<;>first
  |exact trivial
  |exact aj hd0 ‹_›
  |refine jB hd0 ?_
  |refine fV hd0 ?_
  |((refine au.mk 0 ?_);refine⟨aF (x.l) 12 (λ(k:(Nat))=>[]) (λ(k:(Nat))=>[(1000000,.cells [.data (.val (.int .i64 (k:Int)))])]) [1,10,11] (λi0 r0 k=>n+nodes x=k+nodesL r0),?_⟩;refine af (n+1) ?_ ?_ (λi0 (k:(Nat)) hd0 hI0=>?_) (λi0 x0 r0 (k:(Nat)) hd0 hl0 hI0=>?_))
  |(refine ag hd0 (k+nodes x0) ?_ ?_)
  |((refine lent_step' [(1000000,1000000)] (EI x n (by omega)) ?_ ?_ ?_ ?_);rotate_left 0;exact rfl;(exact⟨rfl,trivial⟩);exact rfl)
  |((refine lent_step' [(1000000,1000000)] (ih x0 (bn hd0) k (by simp only[nodesL]at hI0;omega)) ?_ ?_ ?_ ?_);rotate_left 0;exact rfl;(exact⟨rfl,trivial⟩);exact rfl)
  |((refine aI ?_);refine fin_step' [] rfl ?_ ?_)
  |((refine ay ?_ ?_ ?_ ?_ ?_);exact rfl;exact rfl;rotate_left;(exact dS hd0))
  |((refine aK ?_ ?_);exact rfl)
  |(refine And.intro ?_ ?_)
  |exact @rfl AV _)
 all_goals first
  |omega
  |((simp only[nodesL]at hI0;omega))
  |((simp only[nodesL]at hI0;exact congrArg (λz:Nat=>D.val (Value.int IntKind.i64 (z:Int))) (by omega)))
  |skip
theorem Ia(n:Int)  : PCall Tryz.prog 103 [.i n] (.ret (.b (!sample n))):=by
 refine aJ Tryz.func103 ?_
 repeat' ((try(conv=>whnf))<;>first
  |((refine ai ?_ ?_ ?_);rotate_left;(exact Ae _))
  |(refine fA ?_;conv=>whnf))
 all_goals first
  |skip
theorem EJ(l:List Int)  : PCall Tryz.prog 66 [ints l,.fn 103 []] (.ret (.i (lY l 0))):=by
 refine dA Tryz.func66 λhf=>?_
 have hlen:l.length<=9223372036854775807:=by simpa using(hf (ints l) (by simp)).sl.1
 clear hf
 repeat' ((try(conv=>whnf))<;>first
  |exact trivial
  |exact aj hd0 ‹_›
  |refine bu hd0 ?_
  |refine aN hd0 ?_
  |refine BrI.intro (λh=>?_) (λh=>?_)
  |((refine au.mk 0 ?_);refine⟨aF (l) 8 (λ(_:Unit)=>[]) (λ(_:Unit)=>[]) [0,1,7] (λi0 r0 _=>lY l 0=lY r0 i0),?_⟩;refine af () ?_ ?_ (λi0 (_:Unit) hd0 hI0=>?_) (λi0 x0 r0 (_:Unit) hd0 hl0 hI0=>?_))
  |(refine ag hd0 () ?_ ?_)
  |((refine ai ?_ ?_ ?_);rotate_left;(exact Ia _))
  |((refine ay ?_ ?_ ?_ ?_ ?_);exact rfl;exact rfl;rotate_left;(exact ax hd0))
  |(refine fA ?_;conv=>whnf)
  |(refine And.intro ?_ ?_)
  |exact @rfl AV _)
 all_goals first
  |(rw[hI0];(try simp only[lY,Bool.not_true,Bool.not_false,Bool.and_true,Bool.true_and,Bool.and_false,Bool.false_and,Bool.or_true,Bool.true_or,Bool.or_false,Bool.false_or,if_true,if_false,reduceIte,Bool.false_eq_true,Bool.not_not,Bool.not_eq_true',beq_self_eq_true,List.all_cons,List.all_nil,List.any_cons,List.any_nil,List.length_map,bne,eq_self,Int.toNat_zero, *]);first |done |rfl)
  |((simp_all[lY];done))
  |skip
theorem xx(l:List Int)  : PCall Tryz.prog 44 [ints l,.fn 103 []] (.ret (.b (bad l))):=by
 refine aJ Tryz.func44 ?_
 repeat' ((try(conv=>whnf))<;>first
  |((refine ai ?_ ?_ ?_);rotate_left;(exact EJ _))
  |(refine fA ?_;conv=>whnf))
 all_goals first
  |(simp only[bad,Bool.not_true,Bool.not_false,Bool.and_true,Bool.true_and,Bool.and_false,Bool.false_and,Bool.or_true,Bool.true_or,Bool.or_false,Bool.false_or,if_true,if_false,reduceIte,Bool.false_eq_true,Bool.not_not,Bool.not_eq_true',beq_self_eq_true,List.all_cons,List.all_nil,List.any_cons,List.any_nil,List.length_map,bne,eq_self,Int.toNat_zero, *];done)
  |skip
end Go.Proofs.YthpbakljheeabaaGreatDoor
namespace Go.Proofs.YthpbakljheeabaaGreatDoor
open Go.Fw Go.Fw.Nam
set_option maxRecDepth 10000
variable [ah]
theorem je(p:Pr)(hn:∀s∈p.stmts,Ref15.nodes s.x<=1073741824):PCall Tryz.prog 79 [p.d] (kS 30 (limited p) 2):=by
 refine dA Tryz.func79 λhf=>?_
 have hq:=Pr.fits (hf p.d (by simp))
 have hlen3:=hq.lines;have hlen4:=hq.tables;have hlen5:=hq.stmts
 clear hf
 repeat' ((try(conv=>whnf))<;>first
  |with_reducible exact trivial
  |with_reducible exact aj hd4 ‹_›
  |with_reducible exact aj hd2 ‹_›
  |with_reducible exact aj hd0 ‹_›
  |with_reducible refine bu hd4 ?_
  |with_reducible refine bu hd2 ?_
  |with_reducible refine bu hd0 ?_
  |with_reducible refine aN hd4 ?_
  |with_reducible refine aN hd2 ?_
  |with_reducible refine aN hd0 ?_
  |with_reducible refine aP (gz _ _) (λh=>?_) (λh=>?_)
  |((with_reducible refine au.mk 0 ?_);refine⟨aF (p.lines) 55 (λ(ok:(Bool))=>[(3,.data (.val (.bool ok)))]) (λ(ok:(Bool))=>[]) [1,53,54] (λi0 r0 ok=>limited p=(ok&&(r0.all ln1&&(p.tables.all tb1&&p.stmts.all sm1)))),?_⟩;with_reducible refine af ?_ ?_ ?_ (λi0 (ok:(Bool)) hd0 hI0=>?_) (λi0 x0 r0 (ok:(Bool)) hd0 hl0 hI0=>?_))
  |(with_reducible refine ag hd0 ?_ ?_ ?_)
  |((with_reducible refine au.mk 2 ?_);refine⟨aF (p.tables) 74 (λ(ok:(Bool))=>[(3,.data (.val (.bool ok)))]) (λ(ok:(Bool))=>[]) [1,72,73] (λi2 r2 ok=>limited p=(ok&&(r2.all tb1&&p.stmts.all sm1))),?_⟩;with_reducible refine af ?_ ?_ ?_ (λi2 (ok:(Bool)) hd2 hI2=>?_) (λi2 x2 r2 (ok:(Bool)) hd2 hl2 hI2=>?_))
  |(with_reducible refine ag hd2 ?_ ?_ ?_)
  |((with_reducible refine au.mk 4 ?_);refine⟨aF (p.stmts) 95 (λ(ok:(Bool))=>[(3,.data (.val (.bool ok)))]) (λ(ok:(Bool))=>[]) [93,94] (λi4 r4 ok=>limited p=(ok&&r4.all sm1)),?_⟩;with_reducible refine af ?_ ?_ ?_ (λi4 (ok:(Bool)) hd4 hI4=>?_) (λi4 x4 r4 (ok:(Bool)) hd4 hl4 hI4=>?_))
  |(with_reducible refine ag hd4 ?_ ?_ ?_)
  |((with_reducible refine lent_step' [(1000000,10)] (Pn x4.x 0 (by have:=hn _ (bn hd4);omega)) ?_ ?_ ?_ ?_);rotate_left 0;exact rfl;(exact⟨rfl,trivial⟩);exact rfl)
  |((with_reducible refine ay ?_ ?_ ?_ ?_ ?_);exact rfl;exact rfl;rotate_left;(first |with_reducible exact ax hd4 |with_reducible exact ax hd2 |with_reducible exact ax hd0))
  |((with_reducible refine aK ?_ ?_);exact rfl)
  |((with_reducible refine lD ?_ ?_);rotate_left;refine⟨[],rfl,?_,trivial⟩;conv=>whnf)
  |((with_reducible refine lF ?_ ?_);rotate_left;refine⟨[],rfl,?_,trivial⟩;conv=>whnf)
  |(with_reducible refine And.intro ?_ ?_)
  |exact @rfl AV _)
 all_goals(try simp only[csimp]at *)
 all_goals first
  |(rw[hI4];(try simp only[ln1,tb1,sm1,Bool.and_assoc,Nat.zero_add,Bool.not_true,Bool.not_false,Bool.and_true,Bool.true_and,Bool.and_false,Bool.false_and,Bool.or_true,Bool.true_or,Bool.or_false,Bool.false_or,if_true,if_false,reduceIte,Bool.false_eq_true,Bool.not_not,Bool.not_eq_true',beq_self_eq_true,List.all_cons,List.all_nil,List.any_cons,List.any_nil,List.length_map,bne,eq_self,Int.toNat_zero, *]);first |done |rfl)
  |(rw[hI2];(try simp only[ln1,tb1,sm1,Bool.and_assoc,Nat.zero_add,Bool.not_true,Bool.not_false,Bool.and_true,Bool.true_and,Bool.and_false,Bool.false_and,Bool.or_true,Bool.true_or,Bool.or_false,Bool.false_or,if_true,if_false,reduceIte,Bool.false_eq_true,Bool.not_not,Bool.not_eq_true',beq_self_eq_true,List.all_cons,List.all_nil,List.any_cons,List.any_nil,List.length_map,bne,eq_self,Int.toNat_zero, *]);first |done |rfl)
  |(rw[hI0];(try simp only[ln1,tb1,sm1,Bool.and_assoc,Nat.zero_add,Bool.not_true,Bool.not_false,Bool.and_true,Bool.true_and,Bool.and_false,Bool.false_and,Bool.or_true,Bool.true_or,Bool.or_false,Bool.false_or,if_true,if_false,reduceIte,Bool.false_eq_true,Bool.not_not,Bool.not_eq_true',beq_self_eq_true,List.all_cons,List.all_nil,List.any_cons,List.any_nil,List.length_map,bne,eq_self,Int.toNat_zero, *]);first |done |rfl)
  |(rfl)
  |skip
end Go.Proofs.YthpbakljheeabaaGreatDoor
