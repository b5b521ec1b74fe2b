/- A part of the proof. -/
import Derived.Test.YtgehpmgkaeohaaaGreatDoorZLL
import Derived.Test.YtgehpmgkaeohaaaGreatDoorZK6
set_option linter.all false
set_option maxHeartbeats 400000
namespace Go.Proofs.YtgehpmgkaeohaaaGreatDoor
open Go.Fw Go.Fw.Nam
set_option maxRecDepth 10000
variable [ae]
theorem gB(b:Bool)(e:Int)  : PCall Tryz.prog 57 [.b b,.i e] (lF 34 b e):=by
 refine aj Tryz.func57 ?_
 repeat' ((try conv=>whnf)<;>first
  |with_reducible refine BrI.intro (λh=>?_) (λh=>?_)
  |((refine mf ?_ ?_);rotate_left;refine⟨[],rfl,?_,trivial⟩;conv=>whnf)
  |((refine mg ?_ ?_);rotate_left;refine⟨[],rfl,?_,trivial⟩;conv=>whnf))
 all_goals(try simp only[csmp]at *)
 all_goals omega
theorem CG(n:Int)  : PCall Tryz.prog 106 [.i n] (.ret (.b (sample n))):=by
 refine aj Tryz.func106 ?_
 repeat' ((try conv=>whnf)<;>first
  |(refine cO ?_;conv=>whnf))
 all_goals(try simp only[csmp]at *)
 all_goals (simp only[sample,Bool.not_true,Bool.not_false,Bool.and_true,Bool.true_and,Bool.and_false,Bool.false_and,Bool.or_true,Bool.true_or,Bool.or_false,Bool.false_or,if_true,if_false,reduceIte,Bool.false_eq_true,Bool.not_not,Bool.not_eq_true',beq_self_eq_true,List.all_cons,List.all_nil,List.any_cons,List.any_nil,List.length_map,bne,eq_self,Int.toNat_zero, *];done)
theorem yh(k:Int)  : PCall Tryz.prog 56 [.i k] (.ret (.tuple [.i (arity k).1,.b (arity k).2])):=by
 refine aj Tryz.func56 ?_
 repeat' ((try conv=>whnf)<;>first
  |refine BrI.tt ?_
  |refine BrI.intro (λh=>?_) (λh=>?_)
  |(refine cO ?_;conv=>whnf))
 all_goals simp_all[arity]
theorem J8(x:Ex)  : PCall Tryz.prog 100 [x.d] (lF 34 (lD x) 1):=by
 refine aj Tryz.func100 ?_
 repeat' ((try conv=>whnf)<;>first
  |refine aU (gB _ _) (λh=>?_) (λh=>?_)
  |((refine ah ?_ ?_ ?_);rotate_left;exact yh _)
  |((refine gu ?_ ?_);with_reducible exact rfl)
  |((refine mf ?_ ?_);rotate_left;refine⟨[],rfl,?_,trivial⟩;conv=>whnf)
  |((refine mg ?_ ?_);rotate_left;refine⟨[],rfl,?_,trivial⟩;conv=>whnf))
 all_goals(try simp only[csmp]at *)
 all_goals (simp only[lD,Bool.not_true,Bool.not_false,Bool.and_true,Bool.true_and,Bool.and_false,Bool.false_and,Bool.or_true,Bool.true_or,Bool.or_false,Bool.false_or,if_true,if_false,reduceIte,Bool.false_eq_true,Bool.not_not,Bool.not_eq_true',beq_self_eq_true,List.all_cons,List.all_nil,List.any_cons,List.any_nil,List.length_map,bne,eq_self,Int.toNat_zero, *];done)
theorem Tt(x:Ex)  : PCall Tryz.prog 99 [x.d,.fn 100 []] (lF 34 (every lD x) 1):=by
 revert x;refine Ex.ind λx ih=>?_
 refine dh Tryz.func99 λhf=>?_
 have hlen:=Ex.fits (hf x.d (by simp))
 clear hf
 repeat' ((try conv=>whnf)<;>first
  |exact trivial
  |exact ai hd0 ‹_›
  |refine kG hd0 ?_
  |refine iw hd0 ?_
  |refine aU (J8 x) (λh=>?_) (λh=>?_)
  |refine aU (ih x0 (bU hd0)) (λh=>?_) (λh=>?_)
  |((refine au.mk 0 ?_);refine⟨aH (x.l) 12 (λ(_:Unit)=>[]) (λ(_:Unit)=>[]) [1,10,11] (λi0 r0 _=>every lD x=vM lD r0),?_⟩;refine af () ?_ ?_ (λi0 (_:Unit) hd0 hI0=>?_) (λi0 x0 r0 (_:Unit) hd0 hl0 hI0=>?_))
  |refine ag hd0 () ?_ ?_
  |((refine aB ?_ ?_ ?_ ?_ ?_);rfl;rfl;rotate_left;exact eY hd0)
  |refine oK ?_
  |((refine mf ?_ ?_);rotate_left;refine⟨[],rfl,?_,trivial⟩;conv=>whnf)
  |((refine mg ?_ ?_);rotate_left;refine⟨[],rfl,?_,trivial⟩;conv=>whnf)
  |refine And.intro ?_ ?_
  |exact @rfl AV _)
 all_goals first
  |(rw[hI0];(try simp only[vM,Bool.not_true,Bool.not_false,Bool.and_true,Bool.true_and,Bool.and_false,Bool.false_and,Bool.or_true,Bool.true_or,Bool.or_false,Bool.false_or,if_true,if_false,reduceIte,Bool.false_eq_true,Bool.not_not,Bool.not_eq_true',beq_self_eq_true,List.all_cons,List.all_nil,List.any_cons,List.any_nil,List.length_map,bne,eq_self,Int.toNat_zero, *]);first |done |rfl)
  |(simp only[zt,Bool.not_true,Bool.not_false,Bool.and_true,Bool.true_and,Bool.and_false,Bool.false_and,Bool.or_true,Bool.true_or,Bool.or_false,Bool.false_or,if_true,if_false,reduceIte,Bool.false_eq_true,Bool.not_not,Bool.not_eq_true',beq_self_eq_true,List.all_cons,List.all_nil,List.any_cons,List.any_nil,List.length_map,bne,eq_self,Int.toNat_zero, *];done)
theorem iY(p:Pr)  : PCall Tryz.prog 51 [p.d] (lF 34 (formed p) 1):=by
 refine dh Tryz.func51 λhf=>?_
 have hlen:=(Pr.fits (hf p.d (by simp))).stmts
 clear hf
 repeat' ((try conv=>whnf)<;>first
  |with_reducible exact trivial
  |with_reducible exact ai hd0 ‹_›
  |refine bu hd0 ?_
  |refine aP hd0 ?_
  |refine aU (gB _ _) (λh=>?_) (λh=>?_)
  |refine aU (Tt _) (λh=>?_) (λh=>?_)
  |((with_reducible refine au.mk 0 ?_);refine⟨aH (p.stmts) 7 (λ(_:Unit)=>[]) (λ(_:Unit)=>[]) [5,6] (λi0 r0 _=>formed p=r0.all λs=>Zq s&&every lD s.x),?_⟩;refine af () ?_ ?_ (λi0 (_:Unit) hd0 hI0=>?_) (λi0 x0 r0 (_:Unit) hd0 hl0 hI0=>?_))
  |refine ag hd0 () ?_ ?_
  |((with_reducible refine aB ?_ ?_ ?_ ?_ ?_);rfl;rfl;rotate_left;(with_reducible exact ay hd0))
  |refine oK ?_
  |((refine gu ?_ ?_);with_reducible exact rfl)
  |((refine mf ?_ ?_);rotate_left;refine⟨[],rfl,?_,trivial⟩;conv=>whnf)
  |((refine mg ?_ ?_);rotate_left;refine⟨[],rfl,?_,trivial⟩;conv=>whnf)
  |with_reducible refine And.intro ?_ ?_
  |exact @rfl AV _)
 all_goals(try simp only[csmp]at *)
 all_goals first
  |(rw[hI0];(try simp only[Zq,Bool.not_true,Bool.not_false,Bool.and_true,Bool.true_and,Bool.and_false,Bool.false_and,Bool.or_true,Bool.true_or,Bool.or_false,Bool.false_or,if_true,if_false,reduceIte,Bool.false_eq_true,Bool.not_not,Bool.not_eq_true',beq_self_eq_true,List.all_cons,List.all_nil,List.any_cons,List.any_nil,List.length_map,bne,eq_self,Int.toNat_zero, *]);first |done |rfl)
  |(simp only[formed,Bool.not_true,Bool.not_false,Bool.and_true,Bool.true_and,Bool.and_false,Bool.false_and,Bool.or_true,Bool.true_or,Bool.or_false,Bool.false_or,if_true,if_false,reduceIte,Bool.false_eq_true,Bool.not_not,Bool.not_eq_true',beq_self_eq_true,List.all_cons,List.all_nil,List.any_cons,List.any_nil,List.length_map,bne,eq_self,Int.toNat_zero, *];done)
theorem J9(x:Ex)  : PCall Tryz.prog 108 [x.d] (lF 34 (mX x) 161):=by
 refine aj Tryz.func108 ?_
 repeat' ((try conv=>whnf)<;>first
  |refine aU (gB _ _) (λh=>?_) (λh=>?_)
  |((refine gu ?_ ?_);with_reducible exact rfl)
  |((refine mf ?_ ?_);rotate_left;refine⟨[],rfl,?_,trivial⟩;conv=>whnf)
  |((refine mg ?_ ?_);rotate_left;refine⟨[],rfl,?_,trivial⟩;conv=>whnf))
 all_goals(try simp only[csmp]at *)
 all_goals (simp only[mX,Bool.not_true,Bool.not_false,Bool.and_true,Bool.true_and,Bool.and_false,Bool.false_and,Bool.or_true,Bool.true_or,Bool.or_false,Bool.false_or,if_true,if_false,reduceIte,Bool.false_eq_true,Bool.not_not,Bool.not_eq_true',beq_self_eq_true,List.all_cons,List.all_nil,List.any_cons,List.any_nil,List.length_map,bne,eq_self,Int.toNat_zero, *];done)
theorem Tu(x:Ex)  : PCall Tryz.prog 99 [x.d,.fn 108 []] (lF 34 (every mX x) 161):=by
 revert x;refine Ex.ind λx ih=>?_
 refine dh Tryz.func99 λhf=>?_
 have hlen:=Ex.fits (hf x.d (by simp))
 clear hf
 repeat' ((try conv=>whnf)<;>first
  |exact trivial
  |exact ai hd0 ‹_›
  |refine kG hd0 ?_
  |refine iw hd0 ?_
  |refine aU (J9 x) (λh=>?_) (λh=>?_)
  |refine aU (ih x0 (bU hd0)) (λh=>?_) (λh=>?_)
  |((refine au.mk 0 ?_);refine⟨aH (x.l) 12 (λ(_:Unit)=>[]) (λ(_:Unit)=>[]) [1,10,11] (λi0 r0 _=>every mX x=vM mX r0),?_⟩;refine af () ?_ ?_ (λi0 (_:Unit) hd0 hI0=>?_) (λi0 x0 r0 (_:Unit) hd0 hl0 hI0=>?_))
  |refine ag hd0 () ?_ ?_
  |((refine aB ?_ ?_ ?_ ?_ ?_);rfl;rfl;rotate_left;exact eY hd0)
  |refine oK ?_
  |((refine mf ?_ ?_);rotate_left;refine⟨[],rfl,?_,trivial⟩;conv=>whnf)
  |((refine mg ?_ ?_);rotate_left;refine⟨[],rfl,?_,trivial⟩;conv=>whnf)
  |refine And.intro ?_ ?_
  |exact @rfl AV _)
 all_goals first
  |(rw[hI0];(try simp only[vM,Bool.not_true,Bool.not_false,Bool.and_true,Bool.true_and,Bool.and_false,Bool.false_and,Bool.or_true,Bool.true_or,Bool.or_false,Bool.false_or,if_true,if_false,reduceIte,Bool.false_eq_true,Bool.not_not,Bool.not_eq_true',beq_self_eq_true,List.all_cons,List.all_nil,List.any_cons,List.any_nil,List.length_map,bne,eq_self,Int.toNat_zero, *]);first |done |rfl)
  |(simp only[zt,Bool.not_true,Bool.not_false,Bool.and_true,Bool.true_and,Bool.and_false,Bool.false_and,Bool.or_true,Bool.true_or,Bool.or_false,Bool.false_or,if_true,if_false,reduceIte,Bool.false_eq_true,Bool.not_not,Bool.not_eq_true',beq_self_eq_true,List.all_cons,List.all_nil,List.any_cons,List.any_nil,List.length_map,bne,eq_self,Int.toNat_zero, *];done)
end Go.Proofs.YtgehpmgkaeohaaaGreatDoor
namespace Go.Proofs.YtgehpmgkaeohaaaGreatDoor
open Go.Fw Go.Fw.Nam Go.Fw.Ref15
set_option maxRecDepth 10000
variable [ae]
theorem Hy(x:Ex)(n:Nat)(hn:n<=1099511627776):ak Tryz.prog 101 [.data x.d,.ptr 1000000 0] [(1000000,.cells [.data (.i (n:Int))])] (.ret (.data (.tuple []))) [(1000000,.cells [.data (.i ((n+1:Nat):Int))])]:=by
 refine aT Tryz.func101 ?_
 repeat' ((try conv=>whnf)<;>first
  |exact trivial
  |((refine bg ?_);refine fin_step' [] rfl ?_ ?_)
  |(refine And.intro ?_ ?_))
 all_goals exact congrArg (λz=>D.val (Value.int IntKind.i64 z)) (zu (b:=1) (by omega))
theorem Tv(x:Ex)(n:Nat)(hn:n+nodes x<=1099511627776):ak Tryz.prog 99 [.data x.d,.fn 101 [.ptr 1000000 0]] [(1000000,.cells [.data (.i (n:Int))])] (.ret (.data (.tuple []))) [(1000000,.cells [.data (.i ((n+nodes x:Nat):Int))])]:=by
 revert n;revert x;refine Ex.ind λx ih n hn=>?_
 refine pg Tryz.func99 λhf=>?_
 have hlen:=Ex.fits (xy.data (hf (.data x.d) (by simp)))
 have hN:=nodes_eq x
 clear hf
 repeat' ((try conv=>whnf)<;>first
  |exact trivial
  |exact ai hd0 ‹_›
  |refine kG hd0 ?_
  |refine iw hd0 ?_
  |((refine au.mk 0 ?_);refine⟨aH (x.l) 12 (λ(k:(Nat))=>[]) (λ(k:(Nat))=>[(1000000,.cells [.data (.val (.int .i64 (k:Int)))])]) [1,10,11] (λi0 r0 k=>n+nodes x=k+nodesL r0),?_⟩;refine af (n+1) ?_ ?_ (λi0 (k:(Nat)) hd0 hI0=>?_) (λi0 x0 r0 (k:(Nat)) hd0 hl0 hI0=>?_))
  |refine ag hd0 (k+nodes x0) ?_ ?_
  |((refine lent_step' [(1000000,1000000)] (Hy x n (by omega)) ?_ ?_ ?_ ?_);rotate_left 0;rfl;(exact⟨rfl,trivial⟩);rfl)
  |((refine lent_step' [(1000000,1000000)] (ih x0 (bU hd0) k (by simp only[nodesL]at hI0;omega)) ?_ ?_ ?_ ?_);rotate_left 0;rfl;(exact⟨rfl,trivial⟩);rfl)
  |((refine bg ?_);refine fin_step' [] rfl ?_ ?_)
  |((refine aB ?_ ?_ ?_ ?_ ?_);rfl;rfl;rotate_left;exact eY hd0)
  |refine oK ?_
  |refine And.intro ?_ ?_
  |exact @rfl AV _)
 all_goals first
  |omega
  |(simp only[nodesL]at hI0;omega)
  |(simp only[nodesL]at hI0;exact congrArg (λz:Nat=>D.val (Value.int IntKind.i64 (z:Int))) (by omega))
theorem Ko(n:Int)  : PCall Tryz.prog 107 [.i n] (.ret (.b (!sample n))):=by
 refine aj Tryz.func107 ?_
 repeat' ((try conv=>whnf)<;>first
  |((refine ah ?_ ?_ ?_);rotate_left;exact CG _)
  |(refine cO ?_;conv=>whnf))
theorem Hz(l:List Int)  : PCall Tryz.prog 112 [ints l,.fn 107 []] (.ret (.i (mY l 0))):=by
 refine dh Tryz.func112 λhf=>?_
 have hlen:l.length<=9223372036854775807:=by simpa using(hf (ints l) (by simp)).sl.1
 clear hf
 repeat' ((try conv=>whnf)<;>first
  |exact trivial
  |exact ai hd0 ‹_›
  |refine bu hd0 ?_
  |refine aP hd0 ?_
  |refine BrI.intro (λh=>?_) (λh=>?_)
  |((refine au.mk 0 ?_);refine⟨aH (l) 8 (λ(_:Unit)=>[]) (λ(_:Unit)=>[]) [0,1,7] (λi0 r0 _=>mY l 0=mY r0 i0),?_⟩;refine af () ?_ ?_ (λi0 (_:Unit) hd0 hI0=>?_) (λi0 x0 r0 (_:Unit) hd0 hl0 hI0=>?_))
  |refine ag hd0 () ?_ ?_
  |((refine ah ?_ ?_ ?_);rotate_left;exact Ko _)
  |((refine aB ?_ ?_ ?_ ?_ ?_);rfl;rfl;rotate_left;exact ay hd0)
  |(refine cO ?_;conv=>whnf)
  |refine And.intro ?_ ?_
  |exact @rfl AV _)
 all_goals first
  |(rw[hI0];(try simp only[mY,Bool.not_true,Bool.not_false,Bool.and_true,Bool.true_and,Bool.and_false,Bool.false_and,Bool.or_true,Bool.true_or,Bool.or_false,Bool.false_or,if_true,if_false,reduceIte,Bool.false_eq_true,Bool.not_not,Bool.not_eq_true',beq_self_eq_true,List.all_cons,List.all_nil,List.any_cons,List.any_nil,List.length_map,bne,eq_self,Int.toNat_zero, *]);first |done |rfl)
  |(simp_all[mY];done)
theorem yZ(l:List Int)  : PCall Tryz.prog 60 [ints l,.fn 107 []] (.ret (.b (bad l))):=by
 refine aj Tryz.func60 ?_
 repeat' ((try conv=>whnf)<;>first
  |((refine ah ?_ ?_ ?_);rotate_left;exact Hz _)
  |(refine cO ?_;conv=>whnf))
 all_goals (simp only[bad,Bool.not_true,Bool.not_false,Bool.and_true,Bool.true_and,Bool.and_false,Bool.false_and,Bool.or_true,Bool.true_or,Bool.or_false,Bool.false_or,if_true,if_false,reduceIte,Bool.false_eq_true,Bool.not_not,Bool.not_eq_true',beq_self_eq_true,List.all_cons,List.all_nil,List.any_cons,List.any_nil,List.length_map,bne,eq_self,Int.toNat_zero, *];done)
end Go.Proofs.YtgehpmgkaeohaaaGreatDoor
namespace Go.Proofs.YtgehpmgkaeohaaaGreatDoor
open Go.Fw Go.Fw.Nam
set_option maxRecDepth 10000
variable [ae]
theorem jo(p:Pr)(hn:∀s∈p.stmts,Ref15.nodes s.x<=1073741824):PCall Tryz.prog 52 [p.d] (lF 34 (limited p) 2):=by
 refine dh Tryz.func52 λhf=>?_
 have hq:=Pr.fits (hf p.d (by simp))
 have hlen3:=hq.lines;have hlen4:=hq.tables;have hlen5:=hq.stmts
 clear hf
 repeat' ((try conv=>whnf)<;>first
  |with_reducible exact trivial
  |with_reducible exact ai hd4 ‹_›
  |with_reducible exact ai hd2 ‹_›
  |with_reducible exact ai hd0 ‹_›
  |refine bu hd4 ?_
  |refine bu hd2 ?_
  |refine bu hd0 ?_
  |refine aP hd4 ?_
  |refine aP hd2 ?_
  |refine aP hd0 ?_
  |refine aU (gB _ _) (λh=>?_) (λh=>?_)
  |((with_reducible refine au.mk 0 ?_);refine⟨aH (p.lines) 55 (λ(ok:(Bool))=>[(3,.data (.val (.bool ok)))]) (λ(ok:(Bool))=>[]) [1,53,54] (λi0 r0 ok=>limited p=(ok&&(r0.all ln1&&(p.tables.all tb1&&p.stmts.all sm1)))),?_⟩;refine af ?_ ?_ ?_ (λi0 (ok:(Bool)) hd0 hI0=>?_) (λi0 x0 r0 (ok:(Bool)) hd0 hl0 hI0=>?_))
  |refine ag hd0 ?_ ?_ ?_
  |((with_reducible refine au.mk 2 ?_);refine⟨aH (p.tables) 74 (λ(ok:(Bool))=>[(3,.data (.val (.bool ok)))]) (λ(ok:(Bool))=>[]) [1,72,73] (λi2 r2 ok=>limited p=(ok&&(r2.all tb1&&p.stmts.all sm1))),?_⟩;refine af ?_ ?_ ?_ (λi2 (ok:(Bool)) hd2 hI2=>?_) (λi2 x2 r2 (ok:(Bool)) hd2 hl2 hI2=>?_))
  |refine ag hd2 ?_ ?_ ?_
  |((with_reducible refine au.mk 4 ?_);refine⟨aH (p.stmts) 95 (λ(ok:(Bool))=>[(3,.data (.val (.bool ok)))]) (λ(ok:(Bool))=>[]) [93,94] (λi4 r4 ok=>limited p=(ok&&r4.all sm1)),?_⟩;refine af ?_ ?_ ?_ (λi4 (ok:(Bool)) hd4 hI4=>?_) (λi4 x4 r4 (ok:(Bool)) hd4 hl4 hI4=>?_))
  |refine ag hd4 ?_ ?_ ?_
  |((refine lent_step' [(1000000,10)] (Tv x4.x 0 (by have:=hn _ (bU hd4);omega)) ?_ ?_ ?_ ?_);rotate_left 0;rfl;(exact⟨rfl,trivial⟩);rfl)
  |((with_reducible refine aB ?_ ?_ ?_ ?_ ?_);rfl;rfl;rotate_left;(first |with_reducible exact ay hd4 |with_reducible exact ay hd2 |with_reducible exact ay hd0))
  |refine oK ?_
  |((refine mf ?_ ?_);rotate_left;refine⟨[],rfl,?_,trivial⟩;conv=>whnf)
  |((refine mg ?_ ?_);rotate_left;refine⟨[],rfl,?_,trivial⟩;conv=>whnf)
  |with_reducible refine And.intro ?_ ?_
  |exact @rfl AV _)
 all_goals(try simp only[csmp]at *)
 all_goals first
  |(rw[hI4];(try simp only[ln1,tb1,sm1,Bool.and_assoc,Nat.zero_add,Bool.not_true,Bool.not_false,Bool.and_true,Bool.true_and,Bool.and_false,Bool.false_and,Bool.or_true,Bool.true_or,Bool.or_false,Bool.false_or,if_true,if_false,reduceIte,Bool.false_eq_true,Bool.not_not,Bool.not_eq_true',beq_self_eq_true,List.all_cons,List.all_nil,List.any_cons,List.any_nil,List.length_map,bne,eq_self,Int.toNat_zero, *]);first |done |rfl)
  |(rw[hI2];(try simp only[ln1,tb1,sm1,Bool.and_assoc,Nat.zero_add,Bool.not_true,Bool.not_false,Bool.and_true,Bool.true_and,Bool.and_false,Bool.false_and,Bool.or_true,Bool.true_or,Bool.or_false,Bool.false_or,if_true,if_false,reduceIte,Bool.false_eq_true,Bool.not_not,Bool.not_eq_true',beq_self_eq_true,List.all_cons,List.all_nil,List.any_cons,List.any_nil,List.length_map,bne,eq_self,Int.toNat_zero, *]);first |done |rfl)
  |(rw[hI0];(try simp only[ln1,tb1,sm1,Bool.and_assoc,Nat.zero_add,Bool.not_true,Bool.not_false,Bool.and_true,Bool.true_and,Bool.and_false,Bool.false_and,Bool.or_true,Bool.true_or,Bool.or_false,Bool.false_or,if_true,if_false,reduceIte,Bool.false_eq_true,Bool.not_not,Bool.not_eq_true',beq_self_eq_true,List.all_cons,List.all_nil,List.any_cons,List.any_nil,List.length_map,bne,eq_self,Int.toNat_zero, *]);first |done |rfl)
  |rfl
end Go.Proofs.YtgehpmgkaeohaaaGreatDoor
