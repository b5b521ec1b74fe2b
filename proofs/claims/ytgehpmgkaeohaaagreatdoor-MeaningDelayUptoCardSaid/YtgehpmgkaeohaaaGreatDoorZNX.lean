/- A part of the proof. -/
import Derived.Test.YtgehpmgkaeohaaaGreatDoorZLL
import Derived.Test.YtgehpmgkaeohaaaGreatDoorZK6
set_option linter.all false
set_option maxHeartbeats 400000
namespace Go.Proofs.YtgehpmgkaeohaaaGreatDoor
open Go.Fw Go.Fw.Nam
set_option maxRecDepth 10000
variable [ae]
theorem gz(b:Bool)(e:Int)  : PCall Tryz.prog 57 [.b b,.i e] (lD 34 b e):=by
 refine ak Tryz.func57 ?_
 repeat' ((try conv=>whnf)<;>first
  |with_reducible refine BrI.intro (λh=>?_) (λh=>?_)
  |((refine l9 ?_ ?_);rotate_left;refine⟨[],rfl,?_,trivial⟩;conv=>whnf)
  |((refine mf ?_ ?_);rotate_left;refine⟨[],rfl,?_,trivial⟩;conv=>whnf))
 all_goals(try simp only[csmp]at *)
 all_goals omega
theorem BU(n:Int)  : PCall Tryz.prog 106 [.i n] (.ret (.b (sample n))):=by
 refine ak Tryz.func106 ?_
 repeat' ((try conv=>whnf)<;>first
  |(refine dm ?_;conv=>whnf))
 all_goals(try simp only[csmp]at *)
 all_goals (simp only[sample,Bool.not_true,Bool.not_false,Bool.and_true,Bool.true_and,Bool.and_false,Bool.false_and,Bool.or_true,Bool.true_or,Bool.or_false,Bool.false_or,if_true,if_false,reduceIte,Bool.false_eq_true,Bool.not_not,Bool.not_eq_true',beq_self_eq_true,List.all_cons,List.all_nil,List.any_cons,List.any_nil,List.length_map,bne,eq_self,Int.toNat_zero, *];done)
theorem xN(k:Int)  : PCall Tryz.prog 56 [.i k] (.ret (.tuple [.i (arity k).1,.b (arity k).2])):=by
 refine ak Tryz.func56 ?_
 repeat' ((try conv=>whnf)<;>first
  |refine BrI.tt ?_
  |refine BrI.intro (λh=>?_) (λh=>?_)
  |(refine dm ?_;conv=>whnf))
 all_goals simp_all[arity]
theorem JH(x:Ex)  : PCall Tryz.prog 100 [x.d] (lD 34 (lw x) 1):=by
 refine ak Tryz.func100 ?_
 repeat' ((try conv=>whnf)<;>first
  |refine aT (gz _ _) (λh=>?_) (λh=>?_)
  |((refine ah ?_ ?_ ?_);rotate_left;exact xN _)
  |((refine gq ?_ ?_);with_reducible exact rfl)
  |((refine l9 ?_ ?_);rotate_left;refine⟨[],rfl,?_,trivial⟩;conv=>whnf)
  |((refine mf ?_ ?_);rotate_left;refine⟨[],rfl,?_,trivial⟩;conv=>whnf))
 all_goals(try simp only[csmp]at *)
 all_goals (simp only[lw,Bool.not_true,Bool.not_false,Bool.and_true,Bool.true_and,Bool.and_false,Bool.false_and,Bool.or_true,Bool.true_or,Bool.or_false,Bool.false_or,if_true,if_false,reduceIte,Bool.false_eq_true,Bool.not_not,Bool.not_eq_true',beq_self_eq_true,List.all_cons,List.all_nil,List.any_cons,List.any_nil,List.length_map,bne,eq_self,Int.toNat_zero, *];done)
theorem RY(x:Ex)  : PCall Tryz.prog 99 [x.d,.fn 100 []] (lD 34 (every lw x) 1):=by
 revert x;refine Ex.ind λx ih=>?_
 refine dJ Tryz.func99 λhf=>?_
 have hlen:=Ex.fits (hf x.d (by simp))
 clear hf
 repeat' ((try conv=>whnf)<;>first
  |exact trivial
  |exact ai hd0 ‹_›
  |refine kF hd0 ?_
  |refine iD hd0 ?_
  |refine aT (JH x) (λh=>?_) (λh=>?_)
  |refine aT (ih x0 (bK hd0)) (λh=>?_) (λh=>?_)
  |((refine ax.mk 0 ?_);refine⟨aJ (x.l) 12 (λ(_:Unit)=>[]) (λ(_:Unit)=>[]) [1,10,11] (λi0 r0 _=>every lw x=vg lw r0),?_⟩;refine af () ?_ ?_ (λi0 (_:Unit) hd0 hI0=>?_) (λi0 x0 r0 (_:Unit) hd0 hl0 hI0=>?_))
  |refine ag hd0 () ?_ ?_
  |((refine aH ?_ ?_ ?_ ?_ ?_);rfl;rfl;rotate_left;exact fO hd0)
  |refine pF ?_
  |((refine l9 ?_ ?_);rotate_left;refine⟨[],rfl,?_,trivial⟩;conv=>whnf)
  |((refine mf ?_ ?_);rotate_left;refine⟨[],rfl,?_,trivial⟩;conv=>whnf)
  |refine And.intro ?_ ?_
  |exact @rfl AV _)
 all_goals first
  |(rw[hI0];(try simp only[vg,Bool.not_true,Bool.not_false,Bool.and_true,Bool.true_and,Bool.and_false,Bool.false_and,Bool.or_true,Bool.true_or,Bool.or_false,Bool.false_or,if_true,if_false,reduceIte,Bool.false_eq_true,Bool.not_not,Bool.not_eq_true',beq_self_eq_true,List.all_cons,List.all_nil,List.any_cons,List.any_nil,List.length_map,bne,eq_self,Int.toNat_zero, *]);first |done |rfl)
  |(simp only[yX,Bool.not_true,Bool.not_false,Bool.and_true,Bool.true_and,Bool.and_false,Bool.false_and,Bool.or_true,Bool.true_or,Bool.or_false,Bool.false_or,if_true,if_false,reduceIte,Bool.false_eq_true,Bool.not_not,Bool.not_eq_true',beq_self_eq_true,List.all_cons,List.all_nil,List.any_cons,List.any_nil,List.length_map,bne,eq_self,Int.toNat_zero, *];done)
theorem iY(p:Pr)  : PCall Tryz.prog 51 [p.d] (lD 34 (formed p) 1):=by
 refine dJ Tryz.func51 λhf=>?_
 have hlen:=(Pr.fits (hf p.d (by simp))).stmts
 clear hf
 repeat' ((try conv=>whnf)<;>first
  |with_reducible exact trivial
  |with_reducible exact ai hd0 ‹_›
  |refine bM hd0 ?_
  |refine aU hd0 ?_
  |refine aT (gz _ _) (λh=>?_) (λh=>?_)
  |refine aT (RY _) (λh=>?_) (λh=>?_)
  |((with_reducible refine ax.mk 0 ?_);refine⟨aJ (p.stmts) 7 (λ(_:Unit)=>[]) (λ(_:Unit)=>[]) [5,6] (λi0 r0 _=>formed p=r0.all λs=>YJ s&&every lw s.x),?_⟩;refine af () ?_ ?_ (λi0 (_:Unit) hd0 hI0=>?_) (λi0 x0 r0 (_:Unit) hd0 hl0 hI0=>?_))
  |refine ag hd0 () ?_ ?_
  |((with_reducible refine aH ?_ ?_ ?_ ?_ ?_);rfl;rfl;rotate_left;(with_reducible exact aG hd0))
  |refine pF ?_
  |((refine gq ?_ ?_);with_reducible exact rfl)
  |((refine l9 ?_ ?_);rotate_left;refine⟨[],rfl,?_,trivial⟩;conv=>whnf)
  |((refine mf ?_ ?_);rotate_left;refine⟨[],rfl,?_,trivial⟩;conv=>whnf)
  |with_reducible refine And.intro ?_ ?_
  |exact @rfl AV _)
 all_goals(try simp only[csmp]at *)
 all_goals first
  |(rw[hI0];(try simp only[YJ,Bool.not_true,Bool.not_false,Bool.and_true,Bool.true_and,Bool.and_false,Bool.false_and,Bool.or_true,Bool.true_or,Bool.or_false,Bool.false_or,if_true,if_false,reduceIte,Bool.false_eq_true,Bool.not_not,Bool.not_eq_true',beq_self_eq_true,List.all_cons,List.all_nil,List.any_cons,List.any_nil,List.length_map,bne,eq_self,Int.toNat_zero, *]);first |done |rfl)
  |(simp only[formed,Bool.not_true,Bool.not_false,Bool.and_true,Bool.true_and,Bool.and_false,Bool.false_and,Bool.or_true,Bool.true_or,Bool.or_false,Bool.false_or,if_true,if_false,reduceIte,Bool.false_eq_true,Bool.not_not,Bool.not_eq_true',beq_self_eq_true,List.all_cons,List.all_nil,List.any_cons,List.any_nil,List.length_map,bne,eq_self,Int.toNat_zero, *];done)
theorem JI(x:Ex)  : PCall Tryz.prog 108 [x.d] (lD 34 (mW x) 161):=by
 refine ak Tryz.func108 ?_
 repeat' ((try conv=>whnf)<;>first
  |refine aT (gz _ _) (λh=>?_) (λh=>?_)
  |((refine gq ?_ ?_);with_reducible exact rfl)
  |((refine l9 ?_ ?_);rotate_left;refine⟨[],rfl,?_,trivial⟩;conv=>whnf)
  |((refine mf ?_ ?_);rotate_left;refine⟨[],rfl,?_,trivial⟩;conv=>whnf))
 all_goals(try simp only[csmp]at *)
 all_goals (simp only[mW,Bool.not_true,Bool.not_false,Bool.and_true,Bool.true_and,Bool.and_false,Bool.false_and,Bool.or_true,Bool.true_or,Bool.or_false,Bool.false_or,if_true,if_false,reduceIte,Bool.false_eq_true,Bool.not_not,Bool.not_eq_true',beq_self_eq_true,List.all_cons,List.all_nil,List.any_cons,List.any_nil,List.length_map,bne,eq_self,Int.toNat_zero, *];done)
theorem Si(x:Ex)  : PCall Tryz.prog 99 [x.d,.fn 108 []] (lD 34 (every mW x) 161):=by
 revert x;refine Ex.ind λx ih=>?_
 refine dJ Tryz.func99 λhf=>?_
 have hlen:=Ex.fits (hf x.d (by simp))
 clear hf
 repeat' ((try conv=>whnf)<;>first
  |exact trivial
  |exact ai hd0 ‹_›
  |refine kF hd0 ?_
  |refine iD hd0 ?_
  |refine aT (JI x) (λh=>?_) (λh=>?_)
  |refine aT (ih x0 (bK hd0)) (λh=>?_) (λh=>?_)
  |((refine ax.mk 0 ?_);refine⟨aJ (x.l) 12 (λ(_:Unit)=>[]) (λ(_:Unit)=>[]) [1,10,11] (λi0 r0 _=>every mW x=vg mW r0),?_⟩;refine af () ?_ ?_ (λi0 (_:Unit) hd0 hI0=>?_) (λi0 x0 r0 (_:Unit) hd0 hl0 hI0=>?_))
  |refine ag hd0 () ?_ ?_
  |((refine aH ?_ ?_ ?_ ?_ ?_);rfl;rfl;rotate_left;exact fO hd0)
  |refine pF ?_
  |((refine l9 ?_ ?_);rotate_left;refine⟨[],rfl,?_,trivial⟩;conv=>whnf)
  |((refine mf ?_ ?_);rotate_left;refine⟨[],rfl,?_,trivial⟩;conv=>whnf)
  |refine And.intro ?_ ?_
  |exact @rfl AV _)
 all_goals first
  |(rw[hI0];(try simp only[vg,Bool.not_true,Bool.not_false,Bool.and_true,Bool.true_and,Bool.and_false,Bool.false_and,Bool.or_true,Bool.true_or,Bool.or_false,Bool.false_or,if_true,if_false,reduceIte,Bool.false_eq_true,Bool.not_not,Bool.not_eq_true',beq_self_eq_true,List.all_cons,List.all_nil,List.any_cons,List.any_nil,List.length_map,bne,eq_self,Int.toNat_zero, *]);first |done |rfl)
  |(simp only[yX,Bool.not_true,Bool.not_false,Bool.and_true,Bool.true_and,Bool.and_false,Bool.false_and,Bool.or_true,Bool.true_or,Bool.or_false,Bool.false_or,if_true,if_false,reduceIte,Bool.false_eq_true,Bool.not_not,Bool.not_eq_true',beq_self_eq_true,List.all_cons,List.all_nil,List.any_cons,List.any_nil,List.length_map,bne,eq_self,Int.toNat_zero, *];done)
end Go.Proofs.YtgehpmgkaeohaaaGreatDoor
namespace Go.Proofs.YtgehpmgkaeohaaaGreatDoor
open Go.Fw Go.Fw.Nam Go.Fw.Ref15
set_option maxRecDepth 10000
variable [ae]
theorem GZ(x:Ex)(n:Nat)(hn:n<=1099511627776):aj Tryz.prog 101 [.data x.d,.ptr 1000000 0] [(1000000,.cells [.data (.i (n:Int))])] (.ret (.data (.tuple []))) [(1000000,.cells [.data (.i ((n+1:Nat):Int))])]:=by
 refine aS Tryz.func101 ?_
 repeat' ((try conv=>whnf)<;>first
  |exact trivial
  |((refine bg ?_);refine fin_step' [] rfl ?_ ?_)
  |(refine And.intro ?_ ?_))
 all_goals exact congrArg (λz=>D.val (Value.int IntKind.i64 z)) (yY (b:=1) (by omega))
theorem Sj(x:Ex)(n:Nat)(hn:n+nodes x<=1099511627776):aj Tryz.prog 99 [.data x.d,.fn 101 [.ptr 1000000 0]] [(1000000,.cells [.data (.i (n:Int))])] (.ret (.data (.tuple []))) [(1000000,.cells [.data (.i ((n+nodes x:Nat):Int))])]:=by
 revert n;revert x;refine Ex.ind λx ih n hn=>?_
 refine o7 Tryz.func99 λhf=>?_
 have hlen:=Ex.fits (wZ.data (hf (.data x.d) (by simp)))
 have hN:=nodes_eq x
 clear hf
 repeat' ((try conv=>whnf)<;>first
  |exact trivial
  |exact ai hd0 ‹_›
  |refine kF hd0 ?_
  |refine iD hd0 ?_
  |((refine ax.mk 0 ?_);refine⟨aJ (x.l) 12 (λ(k:(Nat))=>[]) (λ(k:(Nat))=>[(1000000,.cells [.data (.val (.int .i64 (k:Int)))])]) [1,10,11] (λi0 r0 k=>n+nodes x=k+nodesL r0),?_⟩;refine af (n+1) ?_ ?_ (λi0 (k:(Nat)) hd0 hI0=>?_) (λi0 x0 r0 (k:(Nat)) hd0 hl0 hI0=>?_))
  |refine ag hd0 (k+nodes x0) ?_ ?_
  |((refine lent_step' [(1000000,1000000)] (GZ x n (by omega)) ?_ ?_ ?_ ?_);rotate_left 0;rfl;(exact⟨rfl,trivial⟩);rfl)
  |((refine lent_step' [(1000000,1000000)] (ih x0 (bK hd0) k (by simp only[nodesL]at hI0;omega)) ?_ ?_ ?_ ?_);rotate_left 0;rfl;(exact⟨rfl,trivial⟩);rfl)
  |((refine bg ?_);refine fin_step' [] rfl ?_ ?_)
  |((refine aH ?_ ?_ ?_ ?_ ?_);rfl;rfl;rotate_left;exact fO hd0)
  |refine pF ?_
  |refine And.intro ?_ ?_
  |exact @rfl AV _)
 all_goals first
  |omega
  |(simp only[nodesL]at hI0;omega)
  |(simp only[nodesL]at hI0;exact congrArg (λz:Nat=>D.val (Value.int IntKind.i64 (z:Int))) (by omega))
theorem JJ(n:Int)  : PCall Tryz.prog 107 [.i n] (.ret (.b (!sample n))):=by
 refine ak Tryz.func107 ?_
 repeat' ((try conv=>whnf)<;>first
  |((refine ah ?_ ?_ ?_);rotate_left;exact BU _)
  |(refine dm ?_;conv=>whnf))
theorem G5(l:List Int)  : PCall Tryz.prog 112 [ints l,.fn 107 []] (.ret (.i (mX l 0))):=by
 refine dJ Tryz.func112 λhf=>?_
 have hlen:l.length<=9223372036854775807:=by simpa using(hf (ints l) (by simp)).sl.1
 clear hf
 repeat' ((try conv=>whnf)<;>first
  |exact trivial
  |exact ai hd0 ‹_›
  |refine bM hd0 ?_
  |refine aU hd0 ?_
  |refine BrI.intro (λh=>?_) (λh=>?_)
  |((refine ax.mk 0 ?_);refine⟨aJ (l) 8 (λ(_:Unit)=>[]) (λ(_:Unit)=>[]) [0,1,7] (λi0 r0 _=>mX l 0=mX r0 i0),?_⟩;refine af () ?_ ?_ (λi0 (_:Unit) hd0 hI0=>?_) (λi0 x0 r0 (_:Unit) hd0 hl0 hI0=>?_))
  |refine ag hd0 () ?_ ?_
  |((refine ah ?_ ?_ ?_);rotate_left;exact JJ _)
  |((refine aH ?_ ?_ ?_ ?_ ?_);rfl;rfl;rotate_left;exact aG hd0)
  |(refine dm ?_;conv=>whnf)
  |refine And.intro ?_ ?_
  |exact @rfl AV _)
 all_goals first
  |(rw[hI0];(try simp only[mX,Bool.not_true,Bool.not_false,Bool.and_true,Bool.true_and,Bool.and_false,Bool.false_and,Bool.or_true,Bool.true_or,Bool.or_false,Bool.false_or,if_true,if_false,reduceIte,Bool.false_eq_true,Bool.not_not,Bool.not_eq_true',beq_self_eq_true,List.all_cons,List.all_nil,List.any_cons,List.any_nil,List.length_map,bne,eq_self,Int.toNat_zero, *]);first |done |rfl)
  |(simp_all[mX];done)
theorem yI(l:List Int)  : PCall Tryz.prog 60 [ints l,.fn 107 []] (.ret (.b (bad l))):=by
 refine ak Tryz.func60 ?_
 repeat' ((try conv=>whnf)<;>first
  |((refine ah ?_ ?_ ?_);rotate_left;exact G5 _)
  |(refine dm ?_;conv=>whnf))
 all_goals (simp only[bad,Bool.not_true,Bool.not_false,Bool.and_true,Bool.true_and,Bool.and_false,Bool.false_and,Bool.or_true,Bool.true_or,Bool.or_false,Bool.false_or,if_true,if_false,reduceIte,Bool.false_eq_true,Bool.not_not,Bool.not_eq_true',beq_self_eq_true,List.all_cons,List.all_nil,List.any_cons,List.any_nil,List.length_map,bne,eq_self,Int.toNat_zero, *];done)
end Go.Proofs.YtgehpmgkaeohaaaGreatDoor
namespace Go.Proofs.YtgehpmgkaeohaaaGreatDoor
open Go.Fw Go.Fw.Nam
set_option maxRecDepth 10000
variable [ae]
theorem jq(p:Pr)(hn:∀s∈p.stmts,Ref15.nodes s.x<=1073741824):PCall Tryz.prog 52 [p.d] (lD 34 (limited p) 2):=by
 refine dJ Tryz.func52 λhf=>?_
 have hq:=Pr.fits (hf p.d (by simp))
 have hlen3:=hq.lines;have hlen4:=hq.tables;have hlen5:=hq.stmts
 clear hf
 repeat' ((try conv=>whnf)<;>first
  |with_reducible exact trivial
  |with_reducible exact ai hd4 ‹_›
  |with_reducible exact ai hd2 ‹_›
  |with_reducible exact ai hd0 ‹_›
  |refine bM hd4 ?_
  |refine bM hd2 ?_
  |refine bM hd0 ?_
  |refine aU hd4 ?_
  |refine aU hd2 ?_
  |refine aU hd0 ?_
  |refine aT (gz _ _) (λh=>?_) (λh=>?_)
  |((with_reducible refine ax.mk 0 ?_);refine⟨aJ (p.lines) 55 (λ(ok:(Bool))=>[(3,.data (.val (.bool ok)))]) (λ(ok:(Bool))=>[]) [1,53,54] (λi0 r0 ok=>limited p=(ok&&(r0.all ln1&&(p.tables.all tb1&&p.stmts.all sm1)))),?_⟩;refine af ?_ ?_ ?_ (λi0 (ok:(Bool)) hd0 hI0=>?_) (λi0 x0 r0 (ok:(Bool)) hd0 hl0 hI0=>?_))
  |refine ag hd0 ?_ ?_ ?_
  |((with_reducible refine ax.mk 2 ?_);refine⟨aJ (p.tables) 74 (λ(ok:(Bool))=>[(3,.data (.val (.bool ok)))]) (λ(ok:(Bool))=>[]) [1,72,73] (λi2 r2 ok=>limited p=(ok&&(r2.all tb1&&p.stmts.all sm1))),?_⟩;refine af ?_ ?_ ?_ (λi2 (ok:(Bool)) hd2 hI2=>?_) (λi2 x2 r2 (ok:(Bool)) hd2 hl2 hI2=>?_))
  |refine ag hd2 ?_ ?_ ?_
  |((with_reducible refine ax.mk 4 ?_);refine⟨aJ (p.stmts) 95 (λ(ok:(Bool))=>[(3,.data (.val (.bool ok)))]) (λ(ok:(Bool))=>[]) [93,94] (λi4 r4 ok=>limited p=(ok&&r4.all sm1)),?_⟩;refine af ?_ ?_ ?_ (λi4 (ok:(Bool)) hd4 hI4=>?_) (λi4 x4 r4 (ok:(Bool)) hd4 hl4 hI4=>?_))
  |refine ag hd4 ?_ ?_ ?_
  |((refine lent_step' [(1000000,10)] (Sj x4.x 0 (by have:=hn _ (bK hd4);omega)) ?_ ?_ ?_ ?_);rotate_left 0;rfl;(exact⟨rfl,trivial⟩);rfl)
  |((with_reducible refine aH ?_ ?_ ?_ ?_ ?_);rfl;rfl;rotate_left;(first |with_reducible exact aG hd4 |with_reducible exact aG hd2 |with_reducible exact aG hd0))
  |refine pF ?_
  |((refine l9 ?_ ?_);rotate_left;refine⟨[],rfl,?_,trivial⟩;conv=>whnf)
  |((refine mf ?_ ?_);rotate_left;refine⟨[],rfl,?_,trivial⟩;conv=>whnf)
  |with_reducible refine And.intro ?_ ?_
  |exact @rfl AV _)
 all_goals(try simp only[csmp]at *)
 all_goals first
  |(rw[hI4];(try simp only[ln1,tb1,sm1,Bool.and_assoc,Nat.zero_add,Bool.not_true,Bool.not_false,Bool.and_true,Bool.true_and,Bool.and_false,Bool.false_and,Bool.or_true,Bool.true_or,Bool.or_false,Bool.false_or,if_true,if_false,reduceIte,Bool.false_eq_true,Bool.not_not,Bool.not_eq_true',beq_self_eq_true,List.all_cons,List.all_nil,List.any_cons,List.any_nil,List.length_map,bne,eq_self,Int.toNat_zero, *]);first |done |rfl)
  |(rw[hI2];(try simp only[ln1,tb1,sm1,Bool.and_assoc,Nat.zero_add,Bool.not_true,Bool.not_false,Bool.and_true,Bool.true_and,Bool.and_false,Bool.false_and,Bool.or_true,Bool.true_or,Bool.or_false,Bool.false_or,if_true,if_false,reduceIte,Bool.false_eq_true,Bool.not_not,Bool.not_eq_true',beq_self_eq_true,List.all_cons,List.all_nil,List.any_cons,List.any_nil,List.length_map,bne,eq_self,Int.toNat_zero, *]);first |done |rfl)
  |(rw[hI0];(try simp only[ln1,tb1,sm1,Bool.and_assoc,Nat.zero_add,Bool.not_true,Bool.not_false,Bool.and_true,Bool.true_and,Bool.and_false,Bool.false_and,Bool.or_true,Bool.true_or,Bool.or_false,Bool.false_or,if_true,if_false,reduceIte,Bool.false_eq_true,Bool.not_not,Bool.not_eq_true',beq_self_eq_true,List.all_cons,List.all_nil,List.any_cons,List.any_nil,List.length_map,bne,eq_self,Int.toNat_zero, *]);first |done |rfl)
  |rfl
end Go.Proofs.YtgehpmgkaeohaaaGreatDoor
