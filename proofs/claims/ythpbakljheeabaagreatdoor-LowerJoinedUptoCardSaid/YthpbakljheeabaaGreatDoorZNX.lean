/- Contracts: package names, small functions. -/
import Derived.Test.YthpbakljheeabaaGreatDoorZLL
import Derived.Test.YthpbakljheeabaaGreatDoorZK6
set_option linter.unusedSectionVars false
set_option linter.unusedSimpArgs false
set_option linter.unusedVariables false
set_option maxHeartbeats 400000
namespace Go.Proofs.YthpbakljheeabaaGreatDoor
open Go.Fw Go.Fw.Nam
set_option maxRecDepth 10000
variable [af]
theorem gm(b:Bool)(e:Int)  : PCall Tryz.prog 84 [.b b,.i e] (kN 30 b e):=by
 refine ae tok hmix ⟨[],[]⟩ Tryz.func84 rfl (by kernel_rfl) (by kernel_rfl) (by kernel_rfl) λhf=>?_
 clear hf
 repeat' ((try(conv=>whnf))<;>first
  |with_reducible refine BrI.intro (λh=>?_) (λh=>?_)
  |((with_reducible refine lq ?_ ?_);rotate_left;refine⟨[],rfl,?_,trivial⟩;conv=>whnf)
  |((with_reducible refine lu ?_ ?_);rotate_left;refine⟨[],rfl,?_,trivial⟩;conv=>whnf))
 all_goals(try simp only[Bool.cond_true_left,Bool.cond_false_right,Bool.cond_false_left,Bool.cond_true_right,Bool.not_eq_true',Bool.not_eq_false',bne,Ex.css_len,List.length_map,Int.toNat_zero]at *)
 all_goals first
  |omega
  |skip
theorem zS(n:Int)  : PCall Tryz.prog 102 [.i n] (.ret (.b (sample n))):=by
 refine ae tok hmix ⟨[],[]⟩ Tryz.func102 rfl (by kernel_rfl) (by kernel_rfl) (by kernel_rfl) λhf=>?_
 clear hf
 repeat' ((try(conv=>whnf))<;>first
  |((with_reducible refine aj ?_);refine⟨[],rfl,?_,trivial⟩;conv=>whnf))
 all_goals(try simp only[Bool.cond_true_left,Bool.cond_false_right,Bool.cond_false_left,Bool.cond_true_right,Bool.not_eq_true',Bool.not_eq_false',bne,Ex.css_len,List.length_map,Int.toNat_zero]at *)
 all_goals first
  |(simp only[sample,Bool.not_true,Bool.not_false,Bool.and_true,Bool.true_and,Bool.and_false,Bool.false_and,Bool.or_true,Bool.true_or,Bool.or_false,Bool.false_or,if_true,if_false,reduceIte,Bool.false_eq_true,Bool.not_not,Bool.not_eq_true',beq_self_eq_true,List.all_cons,List.all_nil,List.any_cons,List.any_nil,List.length_map,bne,eq_self,Int.toNat_zero, *];done)
  |skip
theorem vW(k:Int)  : PCall Tryz.prog 83 [.i k] (.ret (.tuple [.i (arity k).1,.b (arity k).2])):=by
 refine ae tok hmix ⟨[],[]⟩ Tryz.func83 rfl (by kernel_rfl) (by kernel_rfl) (by kernel_rfl) λhf=>?_
 clear hf
 repeat' ((try(conv=>whnf))<;>first
  |refine BrI.tt ?_
  |refine BrI.intro (λh=>?_) (λh=>?_)
  |((refine aj ?_);refine⟨[],rfl,?_,trivial⟩;conv=>whnf))
 all_goals first
  |(simp_all[arity])
  |skip
theorem GY(x:Ex)  : PCall Tryz.prog 97 [x.d] (kN 30 (kK x) 1):=by
 refine ae tok hmix ⟨[],[]⟩ Tryz.func97 rfl (by kernel_rfl) (by kernel_rfl) (by kernel_rfl) λhf=>?_
 clear hf
 repeat' ((try(conv=>whnf))<;>first
  |with_reducible refine aQ (gm _ _) (λh=>?_) (λh=>?_)
  |((with_reducible refine ax ?_ ?_ ?_);rotate_left;(exact vW _))
  |((with_reducible refine fO ?_ ?_);with_reducible exact rfl)
  |((with_reducible refine lq ?_ ?_);rotate_left;refine⟨[],rfl,?_,trivial⟩;conv=>whnf)
  |((with_reducible refine lu ?_ ?_);rotate_left;refine⟨[],rfl,?_,trivial⟩;conv=>whnf))
 all_goals(try simp only[Bool.cond_true_left,Bool.cond_false_right,Bool.cond_false_left,Bool.cond_true_right,Bool.not_eq_true',Bool.not_eq_false',bne,Ex.css_len,List.length_map,Int.toNat_zero]at *)
 all_goals first
  |(simp only[kK,Bool.not_true,Bool.not_false,Bool.and_true,Bool.true_and,Bool.and_false,Bool.false_and,Bool.or_true,Bool.true_or,Bool.or_false,Bool.false_or,if_true,if_false,reduceIte,Bool.false_eq_true,Bool.not_not,Bool.not_eq_true',beq_self_eq_true,List.all_cons,List.all_nil,List.any_cons,List.any_nil,List.length_map,bne,eq_self,Int.toNat_zero, *];done)
  |skip
theorem OY(x:Ex)  : PCall Tryz.prog 96 [x.d,.fn 97 []] (kN 30 (every kK x) 1):=by
 revert x;refine Ex.ind λx ih=>?_
 refine ae tok hmix ⟨[],[]⟩ Tryz.func96 rfl (by kernel_rfl) (by kernel_rfl) (by kernel_rfl) λhf=>?_
 have hlen:=Ex.fits (hf x.d (by simp))
 clear hf
 repeat' ((try(conv=>whnf))<;>first
  |exact trivial
  |exact au hd0 ‹_›
  |refine jW hd0 ?_
  |refine gU hd0 ?_
  |refine aQ (GY x) (λh=>?_) (λh=>?_)
  |refine aQ (ih x0 (bK hd0)) (λh=>?_) (λh=>?_)
  |((refine aB.mk 0 ?_);refine⟨aJ (x.l) 12 (λ(_:Unit)=>[]) (λ(_:Unit)=>[]) [1,10,11] (λi0 r0 _=>every kK x=tH kK r0),?_⟩;refine ah () ?_ ?_ (λi0 (_:Unit) hd0 hI0=>?_) (λi0 x0 r0 (_:Unit) hd0 hl0 hI0=>?_))
  |(refine ai hd0 () ?_ ?_)
  |((refine aH ?_ ?_ ?_ ?_ ?_);exact rfl;exact rfl;rotate_left;(exact dX hd0))
  |((refine aP ?_ ?_);exact rfl)
  |((refine lq ?_ ?_);rotate_left;refine⟨[],rfl,?_,trivial⟩;conv=>whnf)
  |((refine lu ?_ ?_);rotate_left;refine⟨[],rfl,?_,trivial⟩;conv=>whnf)
  |(refine And.intro ?_ ?_)
  |exact @rfl AV _)
 all_goals first
  |(rw[hI0];(try simp only[tH,Bool.not_true,Bool.not_false,Bool.and_true,Bool.true_and,Bool.and_false,Bool.false_and,Bool.or_true,Bool.true_or,Bool.or_false,Bool.false_or,if_true,if_false,reduceIte,Bool.false_eq_true,Bool.not_not,Bool.not_eq_true',beq_self_eq_true,List.all_cons,List.all_nil,List.any_cons,List.any_nil,List.length_map,bne,eq_self,Int.toNat_zero, *]);first |done |rfl)
  |(simp only[xA,Bool.not_true,Bool.not_false,Bool.and_true,Bool.true_and,Bool.and_false,Bool.false_and,Bool.or_true,Bool.true_or,Bool.or_false,Bool.false_or,if_true,if_false,reduceIte,Bool.false_eq_true,Bool.not_not,Bool.not_eq_true',beq_self_eq_true,List.all_cons,List.all_nil,List.any_cons,List.any_nil,List.length_map,bne,eq_self,Int.toNat_zero, *];done)
  |skip
theorem iI(p:Pr)  : PCall Tryz.prog 78 [p.d] (kN 30 (formed p) 1):=by
 refine ae tok hmix ⟨[],[]⟩ Tryz.func78 rfl (by kernel_rfl) (by kernel_rfl) (by kernel_rfl) λhf=>?_
 have hlen:=(Pr.fits (hf p.d (by simp))).stmts
 clear hf
 repeat' ((try(conv=>whnf))<;>first
  |with_reducible exact trivial
  |with_reducible exact au hd0 ‹_›
  |with_reducible refine bu hd0 ?_
  |with_reducible refine aN hd0 ?_
  |with_reducible refine aQ (gm _ _) (λh=>?_) (λh=>?_)
  |with_reducible refine aQ (OY _) (λh=>?_) (λh=>?_)
  |((with_reducible refine aB.mk 0 ?_);refine⟨aJ (p.stmts) 7 (λ(_:Unit)=>[]) (λ(_:Unit)=>[]) [5,6] (λi0 r0 _=>formed p=r0.all λs=>VG s&&every kK s.x),?_⟩;with_reducible refine ah () ?_ ?_ (λi0 (_:Unit) hd0 hI0=>?_) (λi0 x0 r0 (_:Unit) hd0 hl0 hI0=>?_))
  |(with_reducible refine ai hd0 () ?_ ?_)
  |((with_reducible refine aH ?_ ?_ ?_ ?_ ?_);exact rfl;exact rfl;rotate_left;(with_reducible exact aF hd0))
  |((with_reducible refine aP ?_ ?_);exact rfl)
  |((with_reducible refine fO ?_ ?_);with_reducible exact rfl)
  |((with_reducible refine lq ?_ ?_);rotate_left;refine⟨[],rfl,?_,trivial⟩;conv=>whnf)
  |((with_reducible refine lu ?_ ?_);rotate_left;refine⟨[],rfl,?_,trivial⟩;conv=>whnf)
  |(with_reducible refine And.intro ?_ ?_)
  |exact @rfl AV _)
 all_goals(try simp only[Bool.cond_true_left,Bool.cond_false_right,Bool.cond_false_left,Bool.cond_true_right,Bool.not_eq_true',Bool.not_eq_false',bne,Ex.css_len,List.length_map,Int.toNat_zero]at *)
 all_goals first
  |(rw[hI0];(try simp only[VG,Bool.not_true,Bool.not_false,Bool.and_true,Bool.true_and,Bool.and_false,Bool.false_and,Bool.or_true,Bool.true_or,Bool.or_false,Bool.false_or,if_true,if_false,reduceIte,Bool.false_eq_true,Bool.not_not,Bool.not_eq_true',beq_self_eq_true,List.all_cons,List.all_nil,List.any_cons,List.any_nil,List.length_map,bne,eq_self,Int.toNat_zero, *]);first |done |rfl)
  |(simp only[formed,Bool.not_true,Bool.not_false,Bool.and_true,Bool.true_and,Bool.and_false,Bool.false_and,Bool.or_true,Bool.true_or,Bool.or_false,Bool.false_or,if_true,if_false,reduceIte,Bool.false_eq_true,Bool.not_not,Bool.not_eq_true',beq_self_eq_true,List.all_cons,List.all_nil,List.any_cons,List.any_nil,List.length_map,bne,eq_self,Int.toNat_zero, *];done)
  |skip
theorem GZ(x:Ex)  : PCall Tryz.prog 104 [x.d] (kN 30 (lQ x) 161):=by
 refine ae tok hmix ⟨[],[]⟩ Tryz.func104 rfl (by kernel_rfl) (by kernel_rfl) (by kernel_rfl) λhf=>?_
 clear hf
 repeat' ((try(conv=>whnf))<;>first
  |with_reducible refine aQ (gm _ _) (λh=>?_) (λh=>?_)
  |((with_reducible refine fO ?_ ?_);with_reducible exact rfl)
  |((with_reducible refine lq ?_ ?_);rotate_left;refine⟨[],rfl,?_,trivial⟩;conv=>whnf)
  |((with_reducible refine lu ?_ ?_);rotate_left;refine⟨[],rfl,?_,trivial⟩;conv=>whnf))
 all_goals(try simp only[Bool.cond_true_left,Bool.cond_false_right,Bool.cond_false_left,Bool.cond_true_right,Bool.not_eq_true',Bool.not_eq_false',bne,Ex.css_len,List.length_map,Int.toNat_zero]at *)
 all_goals first
  |(simp only[lQ,Bool.not_true,Bool.not_false,Bool.and_true,Bool.true_and,Bool.and_false,Bool.false_and,Bool.or_true,Bool.true_or,Bool.or_false,Bool.false_or,if_true,if_false,reduceIte,Bool.false_eq_true,Bool.not_not,Bool.not_eq_true',beq_self_eq_true,List.all_cons,List.all_nil,List.any_cons,List.any_nil,List.length_map,bne,eq_self,Int.toNat_zero, *];done)
  |skip
theorem OZ(x:Ex)  : PCall Tryz.prog 96 [x.d,.fn 104 []] (kN 30 (every lQ x) 161):=by
 revert x;refine Ex.ind λx ih=>?_
 refine ae tok hmix ⟨[],[]⟩ Tryz.func96 rfl (by kernel_rfl) (by kernel_rfl) (by kernel_rfl) λhf=>?_
 have hlen:=Ex.fits (hf x.d (by simp))
 clear hf
 repeat' ((try(conv=>whnf))<;>first
  |exact trivial
  |exact au hd0 ‹_›
  |refine jW hd0 ?_
  |refine gU hd0 ?_
  |refine aQ (GZ x) (λh=>?_) (λh=>?_)
  |refine aQ (ih x0 (bK hd0)) (λh=>?_) (λh=>?_)
  |((refine aB.mk 0 ?_);refine⟨aJ (x.l) 12 (λ(_:Unit)=>[]) (λ(_:Unit)=>[]) [1,10,11] (λi0 r0 _=>every lQ x=tH lQ r0),?_⟩;refine ah () ?_ ?_ (λi0 (_:Unit) hd0 hI0=>?_) (λi0 x0 r0 (_:Unit) hd0 hl0 hI0=>?_))
  |(refine ai hd0 () ?_ ?_)
  |((refine aH ?_ ?_ ?_ ?_ ?_);exact rfl;exact rfl;rotate_left;(exact dX hd0))
  |((refine aP ?_ ?_);exact rfl)
  |((refine lq ?_ ?_);rotate_left;refine⟨[],rfl,?_,trivial⟩;conv=>whnf)
  |((refine lu ?_ ?_);rotate_left;refine⟨[],rfl,?_,trivial⟩;conv=>whnf)
  |(refine And.intro ?_ ?_)
  |exact @rfl AV _)
 all_goals first
  |(rw[hI0];(try simp only[tH,Bool.not_true,Bool.not_false,Bool.and_true,Bool.true_and,Bool.and_false,Bool.false_and,Bool.or_true,Bool.true_or,Bool.or_false,Bool.false_or,if_true,if_false,reduceIte,Bool.false_eq_true,Bool.not_not,Bool.not_eq_true',beq_self_eq_true,List.all_cons,List.all_nil,List.any_cons,List.any_nil,List.length_map,bne,eq_self,Int.toNat_zero, *]);first |done |rfl)
  |(simp only[xA,Bool.not_true,Bool.not_false,Bool.and_true,Bool.true_and,Bool.and_false,Bool.false_and,Bool.or_true,Bool.true_or,Bool.or_false,Bool.false_or,if_true,if_false,reduceIte,Bool.false_eq_true,Bool.not_not,Bool.not_eq_true',beq_self_eq_true,List.all_cons,List.all_nil,List.any_cons,List.any_nil,List.length_map,bne,eq_self,Int.toNat_zero, *];done)
  |skip
end Go.Proofs.YthpbakljheeabaaGreatDoor
namespace Go.Proofs.YthpbakljheeabaaGreatDoor
open Go.Fw Go.Fw.Nam Go.Fw.Ref15
set_option maxRecDepth 10000
variable [af]
theorem Eh(x:Ex)(n:Nat)(hn:n<=1099511627776):LCall Tryz.prog 98 [.data x.d,.ptr 1000000 0] [(1000000,.cells [.data (.i (n:Int))])] (.ret (.data (.tuple []))) [(1000000,.cells [.data (.i ((n+1:Nat):Int))])]:=by
 refine ay tok hmix ⟨[],[]⟩ Tryz.func98 rfl (by kernel_rfl) (by kernel_rfl) (by kernel_rfl) λhf=>?_
 clear hf
 repeat' ((try(conv=>whnf))<;>first
  |exact trivial
  |((refine aj ?_);refine fin_step' [] rfl ?_ ?_)
  |(refine And.intro ?_ ?_))
 all_goals first
  |((exact congrArg (λz=>D.val (Value.int IntKind.i64 z)) (tJ (b:=1) (by omega))))
  |skip
theorem O0(x:Ex)(n:Nat)(hn:n+nodes x<=1099511627776):LCall Tryz.prog 96 [.data x.d,.fn 98 [.ptr 1000000 0]] [(1000000,.cells [.data (.i (n:Int))])] (.ret (.data (.tuple []))) [(1000000,.cells [.data (.i ((n+nodes x:Nat):Int))])]:=by
 revert n;revert x;refine Ex.ind λx ih n hn=>?_
 refine ay tok hmix ⟨[],[]⟩ Tryz.func96 rfl (by kernel_rfl) (by kernel_rfl) (by kernel_rfl) λhf=>?_
 have hlen:=Ex.fits (wU.data (hf (.data x.d) (by simp)))
 have hN:=nodes_eq x
 clear hf
 repeat' ((try(conv=>whnf))<;>first
  |exact trivial
  |exact au hd0 ‹_›
  |refine jW hd0 ?_
  |refine gU hd0 ?_
  |((refine aB.mk 0 ?_);refine⟨aJ (x.l) 12 (λ(k:(Nat))=>[]) (λ(k:(Nat))=>[(1000000,.cells [.data (.val (.int .i64 (k:Int)))])]) [1,10,11] (λi0 r0 k=>n+nodes x=k+nodesL r0),?_⟩;refine ah (n+1) ?_ ?_ (λi0 (k:(Nat)) hd0 hI0=>?_) (λi0 x0 r0 (k:(Nat)) hd0 hl0 hI0=>?_))
  |(refine ai hd0 (k+nodes x0) ?_ ?_)
  |((refine lent_step' [(1000000,1000000)] (Eh x n (by omega)) ?_ ?_ ?_ ?_);rotate_left 0;exact rfl;(exact⟨rfl,trivial⟩);exact rfl)
  |((refine lent_step' [(1000000,1000000)] (ih x0 (bK hd0) k (by simp only[nodesL]at hI0;omega)) ?_ ?_ ?_ ?_);rotate_left 0;exact rfl;(exact⟨rfl,trivial⟩);exact rfl)
  |((refine aj ?_);refine fin_step' [] rfl ?_ ?_)
  |((refine aH ?_ ?_ ?_ ?_ ?_);exact rfl;exact rfl;rotate_left;(exact dX hd0))
  |((refine aP ?_ ?_);exact rfl)
  |(refine And.intro ?_ ?_)
  |exact @rfl AV _)
 all_goals first
  |omega
  |((simp only[nodesL]at hI0;omega))
  |((simp only[nodesL]at hI0;exact congrArg (λz:Nat=>D.val (Value.int IntKind.i64 (z:Int))) (by omega)))
  |skip
theorem G5(n:Int)  : PCall Tryz.prog 103 [.i n] (.ret (.b (!sample n))):=by
 refine ae tok hmix ⟨[],[]⟩ Tryz.func103 rfl (by kernel_rfl) (by kernel_rfl) (by kernel_rfl) λhf=>?_
 clear hf
 repeat' ((try(conv=>whnf))<;>first
  |((refine ax ?_ ?_ ?_);rotate_left;(exact zS _))
  |((refine aj ?_);refine⟨[],rfl,?_,trivial⟩;conv=>whnf))
 all_goals first
  |skip
theorem Ei(l:List Int)  : PCall Tryz.prog 66 [ints l,.fn 103 []] (.ret (.i (lS l 0))):=by
 refine ae tok hmix ⟨[],[]⟩ Tryz.func66 rfl (by kernel_rfl) (by kernel_rfl) (by kernel_rfl) λhf=>?_
 have hlen:l.length<=9223372036854775807:=by simpa using(hf (ints l) (by simp)).sl.1
 clear hf
 repeat' ((try(conv=>whnf))<;>first
  |exact trivial
  |exact au hd0 ‹_›
  |refine bu hd0 ?_
  |refine aN hd0 ?_
  |refine BrI.intro (λh=>?_) (λh=>?_)
  |((refine aB.mk 0 ?_);refine⟨aJ (l) 8 (λ(_:Unit)=>[]) (λ(_:Unit)=>[]) [0,1,7] (λi0 r0 _=>lS l 0=lS r0 i0),?_⟩;refine ah () ?_ ?_ (λi0 (_:Unit) hd0 hI0=>?_) (λi0 x0 r0 (_:Unit) hd0 hl0 hI0=>?_))
  |(refine ai hd0 () ?_ ?_)
  |((refine ax ?_ ?_ ?_);rotate_left;(exact G5 _))
  |((refine aH ?_ ?_ ?_ ?_ ?_);exact rfl;exact rfl;rotate_left;(exact aF hd0))
  |((refine aj ?_);refine⟨[],rfl,?_,trivial⟩;conv=>whnf)
  |(refine And.intro ?_ ?_)
  |exact @rfl AV _)
 all_goals first
  |(rw[hI0];(try simp only[lS,Bool.not_true,Bool.not_false,Bool.and_true,Bool.true_and,Bool.and_false,Bool.false_and,Bool.or_true,Bool.true_or,Bool.or_false,Bool.false_or,if_true,if_false,reduceIte,Bool.false_eq_true,Bool.not_not,Bool.not_eq_true',beq_self_eq_true,List.all_cons,List.all_nil,List.any_cons,List.any_nil,List.length_map,bne,eq_self,Int.toNat_zero, *]);first |done |rfl)
  |((simp_all[lS];done))
  |skip
theorem wX(l:List Int)  : PCall Tryz.prog 44 [ints l,.fn 103 []] (.ret (.b (bad l))):=by
 refine ae tok hmix ⟨[],[]⟩ Tryz.func44 rfl (by kernel_rfl) (by kernel_rfl) (by kernel_rfl) λhf=>?_
 clear hf
 repeat' ((try(conv=>whnf))<;>first
  |((refine ax ?_ ?_ ?_);rotate_left;(exact Ei _))
  |((refine aj ?_);refine⟨[],rfl,?_,trivial⟩;conv=>whnf))
 all_goals first
  |(simp only[bad,Bool.not_true,Bool.not_false,Bool.and_true,Bool.true_and,Bool.and_false,Bool.false_and,Bool.or_true,Bool.true_or,Bool.or_false,Bool.false_or,if_true,if_false,reduceIte,Bool.false_eq_true,Bool.not_not,Bool.not_eq_true',beq_self_eq_true,List.all_cons,List.all_nil,List.any_cons,List.any_nil,List.length_map,bne,eq_self,Int.toNat_zero, *];done)
  |skip
end Go.Proofs.YthpbakljheeabaaGreatDoor
namespace Go.Proofs.YthpbakljheeabaaGreatDoor
open Go.Fw Go.Fw.Nam
set_option maxRecDepth 10000
variable [af]
theorem iZ(p:Pr)(hn:∀s∈p.stmts,Ref15.nodes s.x<=1073741824):PCall Tryz.prog 79 [p.d] (kN 30 (limited p) 2):=by
 refine ae tok hmix ⟨[],[]⟩ Tryz.func79 rfl (by kernel_rfl) (by kernel_rfl) (by kernel_rfl) λhf=>?_
 have hq:=Pr.fits (hf p.d (by simp))
 have hlen3:=hq.lines;have hlen4:=hq.tables;have hlen5:=hq.stmts
 clear hf
 repeat' ((try(conv=>whnf))<;>first
  |with_reducible exact trivial
  |with_reducible exact au hd4 ‹_›
  |with_reducible exact au hd2 ‹_›
  |with_reducible exact au hd0 ‹_›
  |with_reducible refine bu hd4 ?_
  |with_reducible refine bu hd2 ?_
  |with_reducible refine bu hd0 ?_
  |with_reducible refine aN hd4 ?_
  |with_reducible refine aN hd2 ?_
  |with_reducible refine aN hd0 ?_
  |with_reducible refine aQ (gm _ _) (λh=>?_) (λh=>?_)
  |((with_reducible refine aB.mk 0 ?_);refine⟨aJ (p.lines) 55 (λ(ok:(Bool))=>[(3,.data (.val (.bool ok)))]) (λ(ok:(Bool))=>[]) [1,53,54] (λi0 r0 ok=>limited p=(ok&&(r0.all ln1&&(p.tables.all tb1&&p.stmts.all sm1)))),?_⟩;with_reducible refine ah ?_ ?_ ?_ (λi0 (ok:(Bool)) hd0 hI0=>?_) (λi0 x0 r0 (ok:(Bool)) hd0 hl0 hI0=>?_))
  |(with_reducible refine ai hd0 ?_ ?_ ?_)
  |((with_reducible refine aB.mk 2 ?_);refine⟨aJ (p.tables) 74 (λ(ok:(Bool))=>[(3,.data (.val (.bool ok)))]) (λ(ok:(Bool))=>[]) [1,72,73] (λi2 r2 ok=>limited p=(ok&&(r2.all tb1&&p.stmts.all sm1))),?_⟩;with_reducible refine ah ?_ ?_ ?_ (λi2 (ok:(Bool)) hd2 hI2=>?_) (λi2 x2 r2 (ok:(Bool)) hd2 hl2 hI2=>?_))
  |(with_reducible refine ai hd2 ?_ ?_ ?_)
  |((with_reducible refine aB.mk 4 ?_);refine⟨aJ (p.stmts) 95 (λ(ok:(Bool))=>[(3,.data (.val (.bool ok)))]) (λ(ok:(Bool))=>[]) [93,94] (λi4 r4 ok=>limited p=(ok&&r4.all sm1)),?_⟩;with_reducible refine ah ?_ ?_ ?_ (λi4 (ok:(Bool)) hd4 hI4=>?_) (λi4 x4 r4 (ok:(Bool)) hd4 hl4 hI4=>?_))
  |(with_reducible refine ai hd4 ?_ ?_ ?_)
  |((with_reducible refine lent_step' [(1000000,10)] (O0 x4.x 0 (by have:=hn _ (bK hd4);omega)) ?_ ?_ ?_ ?_);rotate_left 0;exact rfl;(exact⟨rfl,trivial⟩);exact rfl)
  |((with_reducible refine aH ?_ ?_ ?_ ?_ ?_);exact rfl;exact rfl;rotate_left;(first |with_reducible exact aF hd4 |with_reducible exact aF hd2 |with_reducible exact aF hd0))
  |((with_reducible refine aP ?_ ?_);exact rfl)
  |((with_reducible refine lq ?_ ?_);rotate_left;refine⟨[],rfl,?_,trivial⟩;conv=>whnf)
  |((with_reducible refine lu ?_ ?_);rotate_left;refine⟨[],rfl,?_,trivial⟩;conv=>whnf)
  |(with_reducible refine And.intro ?_ ?_)
  |exact @rfl AV _)
 all_goals(try simp only[Bool.cond_true_left,Bool.cond_false_right,Bool.cond_false_left,Bool.cond_true_right,Bool.not_eq_true',Bool.not_eq_false',bne,Ex.css_len,List.length_map,Int.toNat_zero]at *)
 all_goals first
  |(rw[hI4];(try simp only[ln1,tb1,sm1,Bool.and_assoc,Nat.zero_add,Bool.not_true,Bool.not_false,Bool.and_true,Bool.true_and,Bool.and_false,Bool.false_and,Bool.or_true,Bool.true_or,Bool.or_false,Bool.false_or,if_true,if_false,reduceIte,Bool.false_eq_true,Bool.not_not,Bool.not_eq_true',beq_self_eq_true,List.all_cons,List.all_nil,List.any_cons,List.any_nil,List.length_map,bne,eq_self,Int.toNat_zero, *]);first |done |rfl)
  |(rw[hI2];(try simp only[ln1,tb1,sm1,Bool.and_assoc,Nat.zero_add,Bool.not_true,Bool.not_false,Bool.and_true,Bool.true_and,Bool.and_false,Bool.false_and,Bool.or_true,Bool.true_or,Bool.or_false,Bool.false_or,if_true,if_false,reduceIte,Bool.false_eq_true,Bool.not_not,Bool.not_eq_true',beq_self_eq_true,List.all_cons,List.all_nil,List.any_cons,List.any_nil,List.length_map,bne,eq_self,Int.toNat_zero, *]);first |done |rfl)
  |(rw[hI0];(try simp only[ln1,tb1,sm1,Bool.and_assoc,Nat.zero_add,Bool.not_true,Bool.not_false,Bool.and_true,Bool.true_and,Bool.and_false,Bool.false_and,Bool.or_true,Bool.true_or,Bool.or_false,Bool.false_or,if_true,if_false,reduceIte,Bool.false_eq_true,Bool.not_not,Bool.not_eq_true',beq_self_eq_true,List.all_cons,List.all_nil,List.any_cons,List.any_nil,List.length_map,bne,eq_self,Int.toNat_zero, *]);first |done |rfl)
  |(rfl)
  |skip
end Go.Proofs.YthpbakljheeabaaGreatDoor
