/- Contracts: the reference of names, small functions. -/
import Derived.Test.YthpbakljheeabaaGreatDoorZK6
import Derived.Test.YthpbakljheeabaaGreatDoorZLL
set_option linter.unusedSectionVars false
set_option linter.unusedSimpArgs false
set_option linter.unusedVariables false
set_option maxHeartbeats 400000
namespace Go.Proofs.YthpbakljheeabaaGreatDoor
open Go.Fw Go.Fw.Ref15
set_option maxRecDepth 10000
variable [ah]
theorem PL(x:Ex)(hx:nodes x<=1073741824):PCall Tryz.prog 24 [x.d] (.ret (.i (nodes x:Nat))):=by
 revert x;refine Ex.ind λx ih hx=>?_
 refine dA Tryz.func24 λhf=>?_
 have hlen:=Ex.fits (hf x.d (by simp))
 clear hf
 repeat' ((try(conv=>whnf))<;>first
  |exact trivial
  |exact aj hd0 ‹_›
  |refine jB hd0 ?_
  |refine fV hd0 ?_
  |((refine au.mk 0 ?_);refine⟨aF (x.l) 4 (λ(n:(Int))=>[(3,.data (.val (.int .i64 n)))]) (λ(n:(Int))=>[]) [1] (λi0 r0 n=>0<=n/\(nodes x:Int)=n+(nodesL r0:Nat)),?_⟩;refine af ?_ ?_ ?_ (λi0 (n:(Int)) hd0 hI0=>?_) (λi0 x0 r0 (n:(Int)) hd0 hl0 hI0=>?_))
  |(refine ag hd0 ?_ ?_ ?_)
  |((refine ai ?_ ?_ ?_);rotate_left;(exact ih _ (bn ‹_›) (by simp only[nodesL]at hI0;omega)))
  |((refine ay ?_ ?_ ?_ ?_ ?_);exact rfl;exact rfl;rotate_left;(exact dS hd0))
  |((refine aK ?_ ?_);exact rfl)
  |(refine fA ?_;conv=>whnf)
  |(refine And.intro ?_ ?_)
  |exact @rfl AV _)
 all_goals first
  |omega
  |((rw[nodes_eq];omega))
  |((simp only[nodesL]at hI0;rw[bJ (by omega) (by omega)];omega))
  |((simp only[nodesL]at hI0;exact congrArg D.i (by omega)))
  |skip
theorem Aj(l m:List Bd)  : PCall Tryz.prog 59 [.sl 3 (l.map Bd.cs),.sl 3 (m.map Bd.cs)] (.ret (.b (dM l m))):=by
 refine dA Tryz.func59 λhf=>?_
 have hlen:l.length<=9223372036854775807:=by simpa using(hf (.sl 3 (l.map Bd.cs)) (by simp)).sl.1
 clear hf
 repeat' ((try(conv=>whnf))<;>first
  |with_reducible exact trivial
  |with_reducible exact aj hd0 ‹_›
  |((with_reducible refine dF hd0 ?_ ?_);(assumption))
  |((with_reducible refine bV hd0 ?_ ?_);(assumption))
  |with_reducible refine BrI.intro (λh=>?_) (λh=>?_)
  |((with_reducible refine au.mk 0 ?_);have hz:l.length=m.length:=(by simp at h;omega);have hk0:(l.zip m).length=(l.map Bd.cs).length:=(by rw[dR hz,List.length_map]);have hlz:(l.zip m).length<=9223372036854775807:=(by rw[dR hz];exact hlen);refine⟨aF (l.zip m) 5 (λ(_:Unit)=>[]) (λ(_:Unit)=>[]) [0,1] (λi0 r0 _=>dM l m=r0.all qL),?_⟩;with_reducible refine af () ?_ ?_ (λi0 (_:Unit) hd0 hI0=>?_) (λi0 x0 r0 (_:Unit) hd0 hl0 hI0=>?_))
  |(with_reducible refine ag hd0 () ?_ ?_)
  |((with_reducible refine pW ?_ ?_ ?_);exact rfl;exact rfl)
  |((with_reducible refine ay ?_ ?_ ?_ ?_ ?_);exact rfl;exact rfl;rotate_left;(first |with_reducible exact ig hd0 |with_reducible exact ik hd0))
  |((with_reducible refine aK ?_ ?_);exact rfl)
  |((with_reducible refine ak ?_ ?_);kernel_rfl)
  |((with_reducible refine aI ?_);refine⟨[],rfl,?_,trivial⟩;conv=>whnf)
  |(with_reducible refine And.intro ?_ ?_)
  |exact @rfl AV _)
 all_goals(try simp only[csimp]at *)
 all_goals first
  |(rw[hI0];(try simp only[qL,Bool.not_true,Bool.not_false,Bool.and_true,Bool.true_and,Bool.and_false,Bool.false_and,Bool.or_true,Bool.true_or,Bool.or_false,Bool.false_or,if_true,if_false,reduceIte,Bool.false_eq_true,Bool.not_not,Bool.not_eq_true',beq_self_eq_true,List.all_cons,List.all_nil,List.any_cons,List.any_nil,List.length_map,bne,eq_self,Int.toNat_zero, *]);first |done |rfl)
  |(simp only[dM,Bool.not_true,Bool.not_false,Bool.and_true,Bool.true_and,Bool.and_false,Bool.false_and,Bool.or_true,Bool.true_or,Bool.or_false,Bool.false_or,if_true,if_false,reduceIte,Bool.false_eq_true,Bool.not_not,Bool.not_eq_true',beq_self_eq_true,List.all_cons,List.all_nil,List.any_cons,List.any_nil,List.length_map,bne,eq_self,Int.toNat_zero, *];done)
  |skip
theorem A7(a b:Pr)  : PCall Tryz.prog 37 [a.d,b.d] (.ret (.b (jK a b))):=by
 refine dA Tryz.func37 λhf=>?_
 have hq:=Pr.fits (hf a.d (by simp))
 have hlen1:=hq.lines;have hlen2:=hq.tables;have hlen3:=hq.values
 clear hf
 repeat' ((try(conv=>whnf))<;>first
  |with_reducible exact trivial
  |with_reducible exact aj hd4 ‹_›
  |with_reducible exact aj hd2 ‹_›
  |with_reducible exact aj hd0 ‹_›
  |((with_reducible refine dF hd4 ?_ ?_);(assumption))
  |((with_reducible refine dF hd2 ?_ ?_);(assumption))
  |((with_reducible refine dF hd0 ?_ ?_);(assumption))
  |((with_reducible refine bV hd4 ?_ ?_);(assumption))
  |((with_reducible refine bV hd2 ?_ ?_);(assumption))
  |((with_reducible refine bV hd0 ?_ ?_);(assumption))
  |with_reducible refine BrI.intro (λh=>?_) (λh=>?_)
  |((with_reducible refine au.mk 0 ?_);have hh:heads a b=true:=(by simp only[heads];simp_all);have hz:a.lines.length=b.lines.length:=(by simp at h;omega);have hz2:a.tables.length=b.tables.length:=(by simp at h;omega);have hk0:(a.lines.zip b.lines).length=(a.lines.map Ln.cs).length:=(by rw[dR hz,List.length_map]);have hlz:(a.lines.zip b.lines).length<=9223372036854775807:=(by rw[dR hz];exact hlen1);refine⟨aF (a.lines.zip b.lines) 5 (λ(_:Unit)=>[]) (λ(_:Unit)=>[]) [2,3] (λi0 r0 _=>jK a b=(r0.all lC&&(a.tables.zip b.tables).all qM)),?_⟩;with_reducible refine af () ?_ ?_ (λi0 (_:Unit) hd0 hI0=>?_) (λi0 x0 r0 (_:Unit) hd0 hl0 hI0=>?_))
  |(with_reducible refine ag hd0 () ?_ ?_)
  |((with_reducible refine au.mk 2 ?_);have hk2:(a.tables.zip b.tables).length=(a.tables.map Tb.cs).length:=(by rw[dR hz2,List.length_map]);have hlz2:(a.tables.zip b.tables).length<=9223372036854775807:=(by rw[dR hz2];exact hlen2);refine⟨aF (a.tables.zip b.tables) 6 (λ(_:Unit)=>[]) (λ(_:Unit)=>[]) [2,3] (λi2 r2 _=>jK a b=r2.all qM),?_⟩;with_reducible refine af () ?_ ?_ (λi2 (_:Unit) hd2 hI2=>?_) (λi2 x2 r2 (_:Unit) hd2 hl2 hI2=>?_))
  |(with_reducible refine ag hd2 () ?_ ?_)
  |((with_reducible refine au.mk 4 ?_);have hz4:x2.1.values.length=x2.2.values.length:=(by simp at h;omega);have hl4:x2.1.values.length<=9223372036854775807:=hlen3 _ (List.of_mem_zip (bn hd2)).1;have hk4:(x2.1.values.zip x2.2.values).length=(x2.1.values.map eU).length:=(by rw[dR hz4,List.length_map]);have hlz4:(x2.1.values.zip x2.2.values).length<=9223372036854775807:=(by rw[dR hz4];exact hl4);refine⟨aF (x2.1.values.zip x2.2.values) 7 (λ(_:Unit)=>[]) (λ(_:Unit)=>[]) [2,3,6] (λi4 r4 _=>jK a b=((r4.all λv=>!(v.1 != v.2))&&r2.all qM)),?_⟩;with_reducible refine af () ?_ ?_ (λi4 (_:Unit) hd4 hI4=>?_) (λi4 x4 r4 (_:Unit) hd4 hl4 hI4=>?_))
  |(with_reducible refine ag hd4 () ?_ ?_)
  |((with_reducible refine ai ?_ ?_ ?_);rotate_left;(exact Aj _ _))
  |((with_reducible refine pW ?_ ?_ ?_);exact rfl;exact rfl)
  |((with_reducible refine ay ?_ ?_ ?_ ?_ ?_);exact rfl;exact rfl;rotate_left;(first |with_reducible exact ig hd4 |with_reducible exact ik hd4 |with_reducible exact ig hd2 |with_reducible exact ik hd2 |with_reducible exact ig hd0 |with_reducible exact ik hd0))
  |((with_reducible refine aK ?_ ?_);exact rfl)
  |((with_reducible refine bD ?_ ?_ (λhg=>?_) ?_);exact rfl)
  |((with_reducible refine dK ?_ ?_);with_reducible exact rfl;with_reducible exact rfl)
  |((with_reducible refine ak ?_ ?_);kernel_rfl)
  |((with_reducible refine aI ?_);refine⟨[],rfl,?_,trivial⟩;conv=>whnf)
  |(with_reducible refine And.intro ?_ ?_)
  |exact @rfl AV _)
 all_goals(try simp only[csimp]at *)
 all_goals first
  |(rw[hI4];(try simp only[lC,qM,Bool.not_true,Bool.not_false,Bool.and_true,Bool.true_and,Bool.and_false,Bool.false_and,Bool.or_true,Bool.true_or,Bool.or_false,Bool.false_or,if_true,if_false,reduceIte,Bool.false_eq_true,Bool.not_not,Bool.not_eq_true',beq_self_eq_true,List.all_cons,List.all_nil,List.any_cons,List.any_nil,List.length_map,bne,eq_self,Int.toNat_zero, *]);first |done |rfl)
  |(rw[hI2];(try simp only[lC,qM,Bool.not_true,Bool.not_false,Bool.and_true,Bool.true_and,Bool.and_false,Bool.false_and,Bool.or_true,Bool.true_or,Bool.or_false,Bool.false_or,if_true,if_false,reduceIte,Bool.false_eq_true,Bool.not_not,Bool.not_eq_true',beq_self_eq_true,List.all_cons,List.all_nil,List.any_cons,List.any_nil,List.length_map,bne,eq_self,Int.toNat_zero, *]);first |done |rfl)
  |(rw[hI0];(try simp only[lC,qM,Bool.not_true,Bool.not_false,Bool.and_true,Bool.true_and,Bool.and_false,Bool.false_and,Bool.or_true,Bool.true_or,Bool.or_false,Bool.false_or,if_true,if_false,reduceIte,Bool.false_eq_true,Bool.not_not,Bool.not_eq_true',beq_self_eq_true,List.all_cons,List.all_nil,List.any_cons,List.any_nil,List.length_map,bne,eq_self,Int.toNat_zero, *]);first |done |rfl)
  |(simp only[jK,Bool.not_true,Bool.not_false,Bool.and_true,Bool.true_and,Bool.and_false,Bool.false_and,Bool.or_true,Bool.true_or,Bool.or_false,Bool.false_or,if_true,if_false,reduceIte,Bool.false_eq_true,Bool.not_not,Bool.not_eq_true',beq_self_eq_true,List.all_cons,List.all_nil,List.any_cons,List.any_nil,List.length_map,bne,eq_self,Int.toNat_zero, *];done)
  |(simp only[heads,jK,Bool.not_true,Bool.not_false,Bool.and_true,Bool.true_and,Bool.and_false,Bool.false_and,Bool.or_true,Bool.true_or,Bool.or_false,Bool.false_or,if_true,if_false,reduceIte,Bool.false_eq_true,Bool.not_not,Bool.not_eq_true',beq_self_eq_true,List.all_cons,List.all_nil,List.any_cons,List.any_nil,List.length_map,bne,eq_self,Int.toNat_zero, *];done)
  |((rw[hI2];simp only[List.all_cons,qM,bne,Bool.not_not,h,Bool.not_false,Bool.true_and];done))
  |skip
theorem NL(p:Pr)(hp:p.Small)(hn:∀s∈p.stmts,nodes s.x<=1073741824)(hv:∀t∈p.tables,t.values.length<=1073741824):PCall Tryz.prog 12 [p.d] (.ret (.b (Few p))):=by
 refine dA Tryz.func12 λhf=>?_
 have hq:=Pr.fits (hf p.d (by simp))
 have hlen1:=hq.stmts;have hlen2:=hq.tables
 have hs1:=hp.params;have hs2:=hp.states;have hs3:=hp.lines;have hs4:=hp.tables;have hs5:=hp.stmts
 clear hf
 repeat' ((try(conv=>whnf))<;>first
  |with_reducible exact trivial
  |with_reducible exact aj hd2 ‹_›
  |with_reducible exact aj hd0 ‹_›
  |with_reducible refine BX hd2 ?_
  |with_reducible refine BX hd0 ?_
  |with_reducible refine zF hd2 ?_
  |with_reducible refine zF hd0 ?_
  |with_reducible refine BrI.intro (λh=>?_) (λh=>?_)
  |((with_reducible refine au.mk 0 ?_);refine⟨aF (p.stmts) 4 (λ(n:(Int))=>[(3,.data (.val (.int .i64 n)))]) (λ(n:(Int))=>[]) [1] (λi0 r0 n=>Few p=BU p (Yk p.tables (ZJ r0 n))/\0<=n/\n<=1099511627776),?_⟩;with_reducible refine af ?_ ?_ ?_ (λi0 (n:(Int)) hd0 hI0=>?_) (λi0 x0 r0 (n:(Int)) hd0 hl0 hI0=>?_))
  |(with_reducible refine ag hd0 ?_ ?_ ?_)
  |((with_reducible refine au.mk 2 ?_);refine⟨aF (p.tables) 5 (λ(n:(Int))=>[(3,.data (.val (.int .i64 n)))]) (λ(n:(Int))=>[]) [1] (λi2 r2 n=>Few p=BU p (Yk r2 n)/\0<=n/\n<=1099511627776),?_⟩;with_reducible refine af ?_ ?_ ?_ (λi2 (n:(Int)) hd2 hI2=>?_) (λi2 x2 r2 (n:(Int)) hd2 hl2 hI2=>?_))
  |(with_reducible refine ag hd2 ?_ ?_ ?_)
  |((with_reducible refine ai ?_ ?_ ?_);rotate_left;(exact PL _ (hn _ (bn hd0))))
  |((with_reducible refine ay ?_ ?_ ?_ ?_ ?_);exact rfl;exact rfl;rotate_left;(first |with_reducible exact ax hd2 |with_reducible exact ax hd0))
  |((with_reducible refine aK ?_ ?_);exact rfl)
  |((with_reducible refine aI ?_);refine⟨[],rfl,?_,trivial⟩;conv=>whnf)
  |(with_reducible refine And.intro ?_ ?_)
  |exact @rfl AV _)
 all_goals(try simp only[csimp]at *)
 all_goals first
  |(rw[hI2.1];(try simp only[ZJ,Yk,BU,Bool.not_true,Bool.not_false,Bool.and_true,Bool.true_and,Bool.and_false,Bool.false_and,Bool.or_true,Bool.true_or,Bool.or_false,Bool.false_or,if_true,if_false,reduceIte,Bool.false_eq_true,Bool.not_not,Bool.not_eq_true',beq_self_eq_true,List.all_cons,List.all_nil,List.any_cons,List.any_nil,List.length_map,bne,eq_self,Int.toNat_zero, *]);first |done |rfl)
  |(rw[hI0.1];(try simp only[ZJ,Yk,BU,Bool.not_true,Bool.not_false,Bool.and_true,Bool.true_and,Bool.and_false,Bool.false_and,Bool.or_true,Bool.true_or,Bool.or_false,Bool.false_or,if_true,if_false,reduceIte,Bool.false_eq_true,Bool.not_not,Bool.not_eq_true',beq_self_eq_true,List.all_cons,List.all_nil,List.any_cons,List.any_nil,List.length_map,bne,eq_self,Int.toNat_zero, *]);first |done |rfl)
  |(simp only[ZJ,Yk,BU,Bool.not_true,Bool.not_false,Bool.and_true,Bool.true_and,Bool.and_false,Bool.false_and,Bool.or_true,Bool.true_or,Bool.or_false,Bool.false_or,if_true,if_false,reduceIte,Bool.false_eq_true,Bool.not_not,Bool.not_eq_true',beq_self_eq_true,List.all_cons,List.all_nil,List.any_cons,List.any_nil,List.length_map,bne,eq_self,Int.toNat_zero, *];done)
  |((rw[show IntKind.i64.wrap ((p.params.length:Int)+p.states.length)=_ from bJ (by omega) (by omega),show IntKind.i64.wrap ((p.params.length:Int)+p.states.length+p.lines.length)=_ from bJ (by omega) (by omega),show IntKind.i64.wrap ((p.params.length:Int)+p.states.length+p.lines.length+p.tables.length)=_ from bJ (by omega) (by omega),show IntKind.i64.wrap ((p.params.length:Int)+p.states.length+p.lines.length+p.tables.length+p.stmts.length)=_ from bJ (by omega) (by omega)];first |rfl |omega))
  |((have h':=h;simp only[decide_eq_true_eq]at h';have:=hn _ (bn hd0);rw[bJ (by omega) (by omega)];first |omega |(rw[hI0.1];simp only[ZJ,Bool.not_true,Bool.not_false,Bool.and_true,Bool.true_and,Bool.and_false,Bool.false_and,Bool.or_true,Bool.true_or,Bool.or_false,Bool.false_or,if_true,if_false,reduceIte,Bool.false_eq_true,Bool.not_not,Bool.not_eq_true',beq_self_eq_true,List.all_cons,List.all_nil,List.any_cons,List.any_nil,List.length_map,bne,eq_self,Int.toNat_zero,h];done)))
  |((have h':=h;simp only[decide_eq_true_eq]at h';have:=hv _ (bn hd2);rw[bJ (by omega) (by omega)];first |omega |(rw[hI2.1];simp only[Yk,Bool.not_true,Bool.not_false,Bool.and_true,Bool.true_and,Bool.and_false,Bool.false_and,Bool.or_true,Bool.true_or,Bool.or_false,Bool.false_or,if_true,if_false,reduceIte,Bool.false_eq_true,Bool.not_not,Bool.not_eq_true',beq_self_eq_true,List.all_cons,List.all_nil,List.any_cons,List.any_nil,List.length_map,bne,eq_self,Int.toNat_zero,h];done)))
  |skip
end Go.Proofs.YthpbakljheeabaaGreatDoor
