/- A part of the proof. -/
import Derived.Test.YtaipffoajgkljaaGreatDoorZLL
import Derived.Test.YtaipffoajgkljaaGreatDoorZK6
set_option linter.all false
set_option maxHeartbeats 400000
namespace Go.Proofs.YtaipffoajgkljaaGreatDoor
open Go.Fw Go.Fw.Nam
set_option maxRecDepth 10000
variable [af]
theorem gX(b:Bool)(e:Int)  : PCall Tryz.prog 113 [.b b,.i e] (lM 34 b e):=by
 refine ay Tryz.func113 ?_
 repeat' ((try conv=>whnf)<;>first
  |with_reducible refine BrI.intro (λh=>?_) (λh=>?_)
  |((refine mF ?_ ?_);rotate_left;refine⟨[],rfl,?_,trivial⟩;conv=>whnf)
  |((refine mG ?_ ?_);rotate_left;refine⟨[],rfl,?_,trivial⟩;conv=>whnf))
 all_goals(try simp only[xe]at *)
 all_goals omega
theorem BG(n:Int)  : PCall Tryz.prog 131 [.i n] (.ret (.b (sample n))):=by
 refine ay Tryz.func131 ?_
 repeat' ((try conv=>whnf)<;>first
  |(refine cO ?_;conv=>whnf))
 all_goals(try simp only[xe]at *)
 all_goals (simp only[sample,Bool.not_true,Bool.not_false,Bool.and_true,Bool.true_and,Bool.and_false,Bool.false_and,Bool.or_true,Bool.true_or,Bool.or_false,Bool.false_or,if_true,if_false,reduceIte,Bool.false_eq_true,Bool.not_not,Bool.not_eq_true',beq_self_eq_true,List.all_cons,List.all_nil,List.any_cons,List.any_nil,List.length_map,bne,eq_self,Int.toNat_zero, *];done)
theorem xB(k:Int)  : PCall Tryz.prog 112 [.i k] (.ret (.tuple [.i (arity k).1,.b (arity k).2])):=by
 refine ay Tryz.func112 ?_
 repeat' ((try conv=>whnf)<;>first
  |refine BrI.tt ?_
  |refine BrI.intro (λh=>?_) (λh=>?_)
  |(refine cO ?_;conv=>whnf))
 all_goals simp_all[arity]
theorem JL(x:Ex)  : PCall Tryz.prog 126 [x.d] (lM 34 (lJ x) 1):=by
 refine ay Tryz.func126 ?_
 repeat' ((try conv=>whnf)<;>first
  |refine aQ (gX _ _) (λh=>?_) (λh=>?_)
  |((refine ai ?_ ?_ ?_);rotate_left;exact xB _)
  |((refine gJ ?_ ?_);with_reducible exact rfl)
  |((refine mF ?_ ?_);rotate_left;refine⟨[],rfl,?_,trivial⟩;conv=>whnf)
  |((refine mG ?_ ?_);rotate_left;refine⟨[],rfl,?_,trivial⟩;conv=>whnf))
 all_goals(try simp only[xe]at *)
 all_goals (simp only[lJ,Bool.not_true,Bool.not_false,Bool.and_true,Bool.true_and,Bool.and_false,Bool.false_and,Bool.or_true,Bool.true_or,Bool.or_false,Bool.false_or,if_true,if_false,reduceIte,Bool.false_eq_true,Bool.not_not,Bool.not_eq_true',beq_self_eq_true,List.all_cons,List.all_nil,List.any_cons,List.any_nil,List.length_map,bne,eq_self,Int.toNat_zero, *];done)
theorem RQ(x:Ex)  : PCall Tryz.prog 125 [x.d,.fn 126 []] (lM 34 (every lJ x) 1):=by
 revert x;refine Ex.ind λx ih=>?_
 refine dh Tryz.func125 λhf=>?_
 have hlen:=Ex.fits (hf x.d (by simp))
 clear hf
 repeat' ((try conv=>whnf)<;>first
  |exact trivial
  |exact aj hd0 ‹_›
  |refine jA hd0 ?_
  |refine fK hd0 ?_
  |refine aQ (JL x) (λh=>?_) (λh=>?_)
  |refine aQ (ih x0 (aX hd0)) (λh=>?_) (λh=>?_)
  |((refine ak.mk 0 ?_);refine⟨aB (x.l) 12 (λ(_:Unit)=>[]) (λ(_:Unit)=>[]) [1,10,11] (λi0 r0 _=>every lJ x=uU lJ r0),?_⟩;refine ag () ?_ ?_ (λi0 (_:Unit) hd0 hI0=>?_) (λi0 x0 r0 (_:Unit) hd0 hl0 hI0=>?_))
  |refine ah hd0 () ?_ ?_
  |((refine au ?_ ?_ ?_ ?_ ?_);rfl;rfl;rotate_left;exact dR hd0)
  |refine lY ?_
  |((refine mF ?_ ?_);rotate_left;refine⟨[],rfl,?_,trivial⟩;conv=>whnf)
  |((refine mG ?_ ?_);rotate_left;refine⟨[],rfl,?_,trivial⟩;conv=>whnf)
  |refine And.intro ?_ ?_
  |exact @rfl AV _)
 all_goals first
  |(rw[hI0];(try simp only[uU,Bool.not_true,Bool.not_false,Bool.and_true,Bool.true_and,Bool.and_false,Bool.false_and,Bool.or_true,Bool.true_or,Bool.or_false,Bool.false_or,if_true,if_false,reduceIte,Bool.false_eq_true,Bool.not_not,Bool.not_eq_true',beq_self_eq_true,List.all_cons,List.all_nil,List.any_cons,List.any_nil,List.length_map,bne,eq_self,Int.toNat_zero, *]);first |done |rfl)
  |(simp only[yS,Bool.not_true,Bool.not_false,Bool.and_true,Bool.true_and,Bool.and_false,Bool.false_and,Bool.or_true,Bool.true_or,Bool.or_false,Bool.false_or,if_true,if_false,reduceIte,Bool.false_eq_true,Bool.not_not,Bool.not_eq_true',beq_self_eq_true,List.all_cons,List.all_nil,List.any_cons,List.any_nil,List.length_map,bne,eq_self,Int.toNat_zero, *];done)
theorem jf(p:Pr)  : PCall Tryz.prog 107 [p.d] (lM 34 (formed p) 1):=by
 refine dh Tryz.func107 λhf=>?_
 have hlen:=(Pr.fits (hf p.d (by simp))).stmts
 clear hf
 repeat' ((try conv=>whnf)<;>first
  |with_reducible exact trivial
  |with_reducible exact aj hd0 ‹_›
  |refine aZ hd0 ?_
  |refine aK hd0 ?_
  |refine aQ (gX _ _) (λh=>?_) (λh=>?_)
  |refine aQ (RQ _) (λh=>?_) (λh=>?_)
  |((with_reducible refine ak.mk 0 ?_);refine⟨aB (p.stmts) 7 (λ(_:Unit)=>[]) (λ(_:Unit)=>[]) [5,6] (λi0 r0 _=>formed p=r0.all λs=>YH s&&every lJ s.x),?_⟩;refine ag () ?_ ?_ (λi0 (_:Unit) hd0 hI0=>?_) (λi0 x0 r0 (_:Unit) hd0 hl0 hI0=>?_))
  |refine ah hd0 () ?_ ?_
  |((with_reducible refine au ?_ ?_ ?_ ?_ ?_);rfl;rfl;rotate_left;(with_reducible exact ax hd0))
  |refine lY ?_
  |((refine gJ ?_ ?_);with_reducible exact rfl)
  |((refine mF ?_ ?_);rotate_left;refine⟨[],rfl,?_,trivial⟩;conv=>whnf)
  |((refine mG ?_ ?_);rotate_left;refine⟨[],rfl,?_,trivial⟩;conv=>whnf)
  |with_reducible refine And.intro ?_ ?_
  |exact @rfl AV _)
 all_goals(try simp only[xe]at *)
 all_goals first
  |(rw[hI0];(try simp only[YH,Bool.not_true,Bool.not_false,Bool.and_true,Bool.true_and,Bool.and_false,Bool.false_and,Bool.or_true,Bool.true_or,Bool.or_false,Bool.false_or,if_true,if_false,reduceIte,Bool.false_eq_true,Bool.not_not,Bool.not_eq_true',beq_self_eq_true,List.all_cons,List.all_nil,List.any_cons,List.any_nil,List.length_map,bne,eq_self,Int.toNat_zero, *]);first |done |rfl)
  |(simp only[formed,Bool.not_true,Bool.not_false,Bool.and_true,Bool.true_and,Bool.and_false,Bool.false_and,Bool.or_true,Bool.true_or,Bool.or_false,Bool.false_or,if_true,if_false,reduceIte,Bool.false_eq_true,Bool.not_not,Bool.not_eq_true',beq_self_eq_true,List.all_cons,List.all_nil,List.any_cons,List.any_nil,List.length_map,bne,eq_self,Int.toNat_zero, *];done)
theorem JM(x:Ex)  : PCall Tryz.prog 133 [x.d] (lM 34 (nD x) 161):=by
 refine ay Tryz.func133 ?_
 repeat' ((try conv=>whnf)<;>first
  |refine aQ (gX _ _) (λh=>?_) (λh=>?_)
  |((refine gJ ?_ ?_);with_reducible exact rfl)
  |((refine mF ?_ ?_);rotate_left;refine⟨[],rfl,?_,trivial⟩;conv=>whnf)
  |((refine mG ?_ ?_);rotate_left;refine⟨[],rfl,?_,trivial⟩;conv=>whnf))
 all_goals(try simp only[xe]at *)
 all_goals (simp only[nD,Bool.not_true,Bool.not_false,Bool.and_true,Bool.true_and,Bool.and_false,Bool.false_and,Bool.or_true,Bool.true_or,Bool.or_false,Bool.false_or,if_true,if_false,reduceIte,Bool.false_eq_true,Bool.not_not,Bool.not_eq_true',beq_self_eq_true,List.all_cons,List.all_nil,List.any_cons,List.any_nil,List.length_map,bne,eq_self,Int.toNat_zero, *];done)
theorem RU(x:Ex)  : PCall Tryz.prog 125 [x.d,.fn 133 []] (lM 34 (every nD x) 161):=by
 revert x;refine Ex.ind λx ih=>?_
 refine dh Tryz.func125 λhf=>?_
 have hlen:=Ex.fits (hf x.d (by simp))
 clear hf
 repeat' ((try conv=>whnf)<;>first
  |exact trivial
  |exact aj hd0 ‹_›
  |refine jA hd0 ?_
  |refine fK hd0 ?_
  |refine aQ (JM x) (λh=>?_) (λh=>?_)
  |refine aQ (ih x0 (aX hd0)) (λh=>?_) (λh=>?_)
  |((refine ak.mk 0 ?_);refine⟨aB (x.l) 12 (λ(_:Unit)=>[]) (λ(_:Unit)=>[]) [1,10,11] (λi0 r0 _=>every nD x=uU nD r0),?_⟩;refine ag () ?_ ?_ (λi0 (_:Unit) hd0 hI0=>?_) (λi0 x0 r0 (_:Unit) hd0 hl0 hI0=>?_))
  |refine ah hd0 () ?_ ?_
  |((refine au ?_ ?_ ?_ ?_ ?_);rfl;rfl;rotate_left;exact dR hd0)
  |refine lY ?_
  |((refine mF ?_ ?_);rotate_left;refine⟨[],rfl,?_,trivial⟩;conv=>whnf)
  |((refine mG ?_ ?_);rotate_left;refine⟨[],rfl,?_,trivial⟩;conv=>whnf)
  |refine And.intro ?_ ?_
  |exact @rfl AV _)
 all_goals first
  |(rw[hI0];(try simp only[uU,Bool.not_true,Bool.not_false,Bool.and_true,Bool.true_and,Bool.and_false,Bool.false_and,Bool.or_true,Bool.true_or,Bool.or_false,Bool.false_or,if_true,if_false,reduceIte,Bool.false_eq_true,Bool.not_not,Bool.not_eq_true',beq_self_eq_true,List.all_cons,List.all_nil,List.any_cons,List.any_nil,List.length_map,bne,eq_self,Int.toNat_zero, *]);first |done |rfl)
  |(simp only[yS,Bool.not_true,Bool.not_false,Bool.and_true,Bool.true_and,Bool.and_false,Bool.false_and,Bool.or_true,Bool.true_or,Bool.or_false,Bool.false_or,if_true,if_false,reduceIte,Bool.false_eq_true,Bool.not_not,Bool.not_eq_true',beq_self_eq_true,List.all_cons,List.all_nil,List.any_cons,List.any_nil,List.length_map,bne,eq_self,Int.toNat_zero, *];done)
end Go.Proofs.YtaipffoajgkljaaGreatDoor
namespace Go.Proofs.YtaipffoajgkljaaGreatDoor
open Go.Fw Go.Fw.Nam Go.Fw.Ref15
set_option maxRecDepth 10000
variable [af]
theorem GH(x:Ex)(n:Nat)(hn:n<=1099511627776):LCall Tryz.prog 127 [.data x.d,.ptr 1000000 0] [(1000000,.cells [.data (.i (n:Int))])] (.ret (.data (.tuple []))) [(1000000,.cells [.data (.i ((n+1:Nat):Int))])]:=by
 refine dC Tryz.func127 ?_
 repeat' ((try conv=>whnf)<;>first
  |exact trivial
  |((refine aP ?_);refine fin_step' [] rfl ?_ ?_)
  |(refine And.intro ?_ ?_))
 all_goals exact congrArg (λz=>D.val (Value.int IntKind.i64 z)) (uV (b:=1) (by omega))
theorem RV(x:Ex)(n:Nat)(hn:n+nodes x<=1099511627776):LCall Tryz.prog 125 [.data x.d,.fn 127 [.ptr 1000000 0]] [(1000000,.cells [.data (.i (n:Int))])] (.ret (.data (.tuple []))) [(1000000,.cells [.data (.i ((n+nodes x:Nat):Int))])]:=by
 revert n;revert x;refine Ex.ind λx ih n hn=>?_
 refine jK Tryz.func125 λhf=>?_
 have hlen:=Ex.fits (wR.data (hf (.data x.d) (by simp)))
 have hN:=nodes_eq x
 clear hf
 repeat' ((try conv=>whnf)<;>first
  |exact trivial
  |exact aj hd0 ‹_›
  |refine jA hd0 ?_
  |refine fK hd0 ?_
  |((refine ak.mk 0 ?_);refine⟨aB (x.l) 12 (λ(k:(Nat))=>[]) (λ(k:(Nat))=>[(1000000,.cells [.data (.val (.int .i64 (k:Int)))])]) [1,10,11] (λi0 r0 k=>n+nodes x=k+nodesL r0),?_⟩;refine ag (n+1) ?_ ?_ (λi0 (k:(Nat)) hd0 hI0=>?_) (λi0 x0 r0 (k:(Nat)) hd0 hl0 hI0=>?_))
  |refine ah hd0 (k+nodes x0) ?_ ?_
  |((refine lent_step' [(1000000,1000000)] (GH x n (by omega)) ?_ ?_ ?_ ?_);rotate_left 0;rfl;(exact⟨rfl,trivial⟩);rfl)
  |((refine lent_step' [(1000000,1000000)] (ih x0 (aX hd0) k (by simp only[nodesL]at hI0;omega)) ?_ ?_ ?_ ?_);rotate_left 0;rfl;(exact⟨rfl,trivial⟩);rfl)
  |((refine aP ?_);refine fin_step' [] rfl ?_ ?_)
  |((refine au ?_ ?_ ?_ ?_ ?_);rfl;rfl;rotate_left;exact dR hd0)
  |refine lY ?_
  |refine And.intro ?_ ?_
  |exact @rfl AV _)
 all_goals first
  |omega
  |(simp only[nodesL]at hI0;omega)
  |(simp only[nodesL]at hI0;exact congrArg (λz:Nat=>D.val (Value.int IntKind.i64 (z:Int))) (by omega))
theorem JO(n:Int)  : PCall Tryz.prog 132 [.i n] (.ret (.b (!sample n))):=by
 refine ay Tryz.func132 ?_
 repeat' ((try conv=>whnf)<;>first
  |((refine ai ?_ ?_ ?_);rotate_left;exact BG _)
  |(refine cO ?_;conv=>whnf))
theorem GI(l:List Int)  : PCall Tryz.prog 94 [ints l,.fn 132 []] (.ret (.i (nG l 0))):=by
 refine dh Tryz.func94 λhf=>?_
 have hlen:l.length<=9223372036854775807:=by simpa using(hf (ints l) (by simp)).sl.1
 clear hf
 repeat' ((try conv=>whnf)<;>first
  |exact trivial
  |exact aj hd0 ‹_›
  |refine aZ hd0 ?_
  |refine aK hd0 ?_
  |refine BrI.intro (λh=>?_) (λh=>?_)
  |((refine ak.mk 0 ?_);refine⟨aB (l) 8 (λ(_:Unit)=>[]) (λ(_:Unit)=>[]) [0,1,7] (λi0 r0 _=>nG l 0=nG r0 i0),?_⟩;refine ag () ?_ ?_ (λi0 (_:Unit) hd0 hI0=>?_) (λi0 x0 r0 (_:Unit) hd0 hl0 hI0=>?_))
  |refine ah hd0 () ?_ ?_
  |((refine ai ?_ ?_ ?_);rotate_left;exact JO _)
  |((refine au ?_ ?_ ?_ ?_ ?_);rfl;rfl;rotate_left;exact ax hd0)
  |(refine cO ?_;conv=>whnf)
  |refine And.intro ?_ ?_
  |exact @rfl AV _)
 all_goals first
  |(rw[hI0];(try simp only[nG,Bool.not_true,Bool.not_false,Bool.and_true,Bool.true_and,Bool.and_false,Bool.false_and,Bool.or_true,Bool.true_or,Bool.or_false,Bool.false_or,if_true,if_false,reduceIte,Bool.false_eq_true,Bool.not_not,Bool.not_eq_true',beq_self_eq_true,List.all_cons,List.all_nil,List.any_cons,List.any_nil,List.length_map,bne,eq_self,Int.toNat_zero, *]);first |done |rfl)
  |(simp_all[nG];done)
theorem yC(l:List Int)  : PCall Tryz.prog 50 [ints l,.fn 132 []] (.ret (.b (bad l))):=by
 refine ay Tryz.func50 ?_
 repeat' ((try conv=>whnf)<;>first
  |((refine ai ?_ ?_ ?_);rotate_left;exact GI _)
  |(refine cO ?_;conv=>whnf))
 all_goals (simp only[bad,Bool.not_true,Bool.not_false,Bool.and_true,Bool.true_and,Bool.and_false,Bool.false_and,Bool.or_true,Bool.true_or,Bool.or_false,Bool.false_or,if_true,if_false,reduceIte,Bool.false_eq_true,Bool.not_not,Bool.not_eq_true',beq_self_eq_true,List.all_cons,List.all_nil,List.any_cons,List.any_nil,List.length_map,bne,eq_self,Int.toNat_zero, *];done)
end Go.Proofs.YtaipffoajgkljaaGreatDoor
namespace Go.Proofs.YtaipffoajgkljaaGreatDoor
open Go.Fw Go.Fw.Nam
set_option maxRecDepth 10000
variable [af]
theorem jH(p:Pr)(hn:∀s∈p.stmts,Ref15.nodes s.x<=1073741824):PCall Tryz.prog 108 [p.d] (lM 34 (limited p) 2):=by
 refine dh Tryz.func108 λhf=>?_
 have hq:=Pr.fits (hf p.d (by simp))
 have hlen3:=hq.lines;have hlen4:=hq.tables;have hlen5:=hq.stmts
 clear hf
 repeat' ((try conv=>whnf)<;>first
  |with_reducible exact trivial
  |with_reducible exact aj hd4 ‹_›
  |with_reducible exact aj hd2 ‹_›
  |with_reducible exact aj hd0 ‹_›
  |refine aZ hd4 ?_
  |refine aZ hd2 ?_
  |refine aZ hd0 ?_
  |refine aK hd4 ?_
  |refine aK hd2 ?_
  |refine aK hd0 ?_
  |refine aQ (gX _ _) (λh=>?_) (λh=>?_)
  |((with_reducible refine ak.mk 0 ?_);refine⟨aB (p.lines) 55 (λ(ok:(Bool))=>[(3,.data (.val (.bool ok)))]) (λ(ok:(Bool))=>[]) [1,53,54] (λi0 r0 ok=>limited p=(ok&&(r0.all ln1&&(p.tables.all tb1&&p.stmts.all sm1)))),?_⟩;refine ag ?_ ?_ ?_ (λi0 (ok:(Bool)) hd0 hI0=>?_) (λi0 x0 r0 (ok:(Bool)) hd0 hl0 hI0=>?_))
  |refine ah hd0 ?_ ?_ ?_
  |((with_reducible refine ak.mk 2 ?_);refine⟨aB (p.tables) 74 (λ(ok:(Bool))=>[(3,.data (.val (.bool ok)))]) (λ(ok:(Bool))=>[]) [1,72,73] (λi2 r2 ok=>limited p=(ok&&(r2.all tb1&&p.stmts.all sm1))),?_⟩;refine ag ?_ ?_ ?_ (λi2 (ok:(Bool)) hd2 hI2=>?_) (λi2 x2 r2 (ok:(Bool)) hd2 hl2 hI2=>?_))
  |refine ah hd2 ?_ ?_ ?_
  |((with_reducible refine ak.mk 4 ?_);refine⟨aB (p.stmts) 95 (λ(ok:(Bool))=>[(3,.data (.val (.bool ok)))]) (λ(ok:(Bool))=>[]) [93,94] (λi4 r4 ok=>limited p=(ok&&r4.all sm1)),?_⟩;refine ag ?_ ?_ ?_ (λi4 (ok:(Bool)) hd4 hI4=>?_) (λi4 x4 r4 (ok:(Bool)) hd4 hl4 hI4=>?_))
  |refine ah hd4 ?_ ?_ ?_
  |((refine lent_step' [(1000000,10)] (RV x4.x 0 (by have:=hn _ (aX hd4);omega)) ?_ ?_ ?_ ?_);rotate_left 0;rfl;(exact⟨rfl,trivial⟩);rfl)
  |((with_reducible refine au ?_ ?_ ?_ ?_ ?_);rfl;rfl;rotate_left;(first |with_reducible exact ax hd4 |with_reducible exact ax hd2 |with_reducible exact ax hd0))
  |refine lY ?_
  |((refine mF ?_ ?_);rotate_left;refine⟨[],rfl,?_,trivial⟩;conv=>whnf)
  |((refine mG ?_ ?_);rotate_left;refine⟨[],rfl,?_,trivial⟩;conv=>whnf)
  |with_reducible refine And.intro ?_ ?_
  |exact @rfl AV _)
 all_goals(try simp only[xe]at *)
 all_goals first
  |(rw[hI4];(try simp only[ln1,tb1,sm1,Bool.and_assoc,Nat.zero_add,Bool.not_true,Bool.not_false,Bool.and_true,Bool.true_and,Bool.and_false,Bool.false_and,Bool.or_true,Bool.true_or,Bool.or_false,Bool.false_or,if_true,if_false,reduceIte,Bool.false_eq_true,Bool.not_not,Bool.not_eq_true',beq_self_eq_true,List.all_cons,List.all_nil,List.any_cons,List.any_nil,List.length_map,bne,eq_self,Int.toNat_zero, *]);first |done |rfl)
  |(rw[hI2];(try simp only[ln1,tb1,sm1,Bool.and_assoc,Nat.zero_add,Bool.not_true,Bool.not_false,Bool.and_true,Bool.true_and,Bool.and_false,Bool.false_and,Bool.or_true,Bool.true_or,Bool.or_false,Bool.false_or,if_true,if_false,reduceIte,Bool.false_eq_true,Bool.not_not,Bool.not_eq_true',beq_self_eq_true,List.all_cons,List.all_nil,List.any_cons,List.any_nil,List.length_map,bne,eq_self,Int.toNat_zero, *]);first |done |rfl)
  |(rw[hI0];(try simp only[ln1,tb1,sm1,Bool.and_assoc,Nat.zero_add,Bool.not_true,Bool.not_false,Bool.and_true,Bool.true_and,Bool.and_false,Bool.false_and,Bool.or_true,Bool.true_or,Bool.or_false,Bool.false_or,if_true,if_false,reduceIte,Bool.false_eq_true,Bool.not_not,Bool.not_eq_true',beq_self_eq_true,List.all_cons,List.all_nil,List.any_cons,List.any_nil,List.length_map,bne,eq_self,Int.toNat_zero, *]);first |done |rfl)
  |rfl
end Go.Proofs.YtaipffoajgkljaaGreatDoor
