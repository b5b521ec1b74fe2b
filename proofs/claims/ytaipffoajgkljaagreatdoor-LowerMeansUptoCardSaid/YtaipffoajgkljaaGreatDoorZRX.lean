/- A part of the proof. -/
import Derived.Test.YtaipffoajgkljaaGreatDoorZK6
import Derived.Test.YtaipffoajgkljaaGreatDoorZLL
set_option linter.all false
set_option maxHeartbeats 400000
namespace Go.Proofs.YtaipffoajgkljaaGreatDoor
open Go.Fw Go.Fw.Ref15
set_option maxRecDepth 10000
variable [af]
theorem SG(x:Ex)(hx:nodes x<=1073741824):PCall Tryz.prog 14 [x.d] (.ret (.i (nodes x:Nat))):=by
 revert x;refine Ex.ind λx ih hx=>?_
 refine dh Tryz.func14 λhf=>?_
 have hlen:=Ex.fits (hf x.d (by simp))
 clear hf
 repeat' ((try conv=>whnf)<;>first
  |exact trivial
  |exact aj hd0 ‹_›
  |refine jA hd0 ?_
  |refine fK hd0 ?_
  |((refine ak.mk 0 ?_);refine⟨aB (x.l) 4 (λ(n:(Int))=>[(3,.data (.val (.int .i64 n)))]) (λ(n:(Int))=>[]) [1] (λi0 r0 n=>0<=n/\(nodes x:Int)=n+(nodesL r0:Nat)),?_⟩;refine ag ?_ ?_ ?_ (λi0 (n:(Int)) hd0 hI0=>?_) (λi0 x0 r0 (n:(Int)) hd0 hl0 hI0=>?_))
  |refine ah hd0 ?_ ?_ ?_
  |((refine ai ?_ ?_ ?_);rotate_left;(exact ih _ (aX ‹_›) (by simp only[nodesL]at hI0;omega)))
  |((refine au ?_ ?_ ?_ ?_ ?_);exact rfl;exact rfl;rotate_left;exact dR hd0)
  |refine lY ?_
  |(refine cO ?_;conv=>whnf)
  |refine And.intro ?_ ?_
  |exact @rfl AV _)
 all_goals first
  |omega
  |(rw[nodes_eq];omega)
  |(simp only[nodesL]at hI0;rw[aO (by omega) (by omega)];omega)
  |(simp only[nodesL]at hI0;exact congrArg D.i (by omega))
theorem BK(l m:List Bd)  : PCall Tryz.prog 79 [.sl 3 (l.map Bd.cs),.sl 3 (m.map Bd.cs)] (.ret (.b (dQ l m))):=by
 refine dh Tryz.func79 λhf=>?_
 have hlen:l.length<=9223372036854775807:=by simpa using(hf (.sl 3 (l.map Bd.cs)) (by simp)).sl.1
 clear hf
 repeat' ((try conv=>whnf)<;>first
  |with_reducible exact trivial
  |with_reducible exact aj hd0 ‹_›
  |((with_reducible refine dB hd0 ?_ ?_);(assumption))
  |((with_reducible refine bK hd0 ?_ ?_);(assumption))
  |with_reducible refine BrI.intro (λh=>?_) (λh=>?_)
  |((with_reducible refine ak.mk 0 ?_);have hz:l.length=m.length:=(by simp at h;omega);have hk0:(l.zip m).length=(l.map Bd.cs).length:=(by rw[dX hz,List.length_map]);have hlz:(l.zip m).length<=9223372036854775807:=(by rw[dX hz];exact hlen);refine⟨aB (l.zip m) 5 (λ(_:Unit)=>[]) (λ(_:Unit)=>[]) [0,1] (λi0 r0 _=>dQ l m=r0.all rY),?_⟩;with_reducible refine ag () ?_ ?_ (λi0 (_:Unit) hd0 hI0=>?_) (λi0 x0 r0 (_:Unit) hd0 hl0 hI0=>?_))
  |with_reducible refine ah hd0 () ?_ ?_
  |((with_reducible refine qO ?_ ?_ ?_);exact rfl;exact rfl)
  |((with_reducible refine au ?_ ?_ ?_ ?_ ?_);exact rfl;exact rfl;rotate_left;(first |with_reducible exact gp hd0 |with_reducible exact gq hd0))
  |((with_reducible refine Fv ?_ ?_);exact rfl)
  |((with_reducible refine AA ?_ ?_);kernel_rfl)
  |((with_reducible refine aP ?_);refine⟨[],rfl,?_,trivial⟩;conv=>whnf)
  |with_reducible refine And.intro ?_ ?_
  |exact @rfl AV _)
 all_goals(try simp only[xe]at *)
 all_goals first
  |(rw[hI0];(try simp only[rY,Bool.not_true,Bool.not_false,Bool.and_true,Bool.true_and,Bool.and_false,Bool.false_and,Bool.or_true,Bool.true_or,Bool.or_false,Bool.false_or,if_true,if_false,reduceIte,Bool.false_eq_true,Bool.not_not,Bool.not_eq_true',beq_self_eq_true,List.all_cons,List.all_nil,List.any_cons,List.any_nil,List.length_map,bne,eq_self,Int.toNat_zero, *]);first |done |rfl)
  |(simp only[dQ,Bool.not_true,Bool.not_false,Bool.and_true,Bool.true_and,Bool.and_false,Bool.false_and,Bool.or_true,Bool.true_or,Bool.or_false,Bool.false_or,if_true,if_false,reduceIte,Bool.false_eq_true,Bool.not_not,Bool.not_eq_true',beq_self_eq_true,List.all_cons,List.all_nil,List.any_cons,List.any_nil,List.length_map,bne,eq_self,Int.toNat_zero, *];done)
theorem CU(a b:Pr)  : PCall Tryz.prog 41 [a.d,b.d] (.ret (.b (kF a b))):=by
 refine dh Tryz.func41 λhf=>?_
 have hq:=Pr.fits (hf a.d (by simp))
 have hlen1:=hq.lines;have hlen2:=hq.tables;have hlen3:=hq.values
 clear hf
 repeat' ((try conv=>whnf)<;>first
  |with_reducible exact trivial
  |with_reducible exact aj hd4 ‹_›
  |with_reducible exact aj hd2 ‹_›
  |with_reducible exact aj hd0 ‹_›
  |((with_reducible refine dB hd4 ?_ ?_);(assumption))
  |((with_reducible refine dB hd2 ?_ ?_);(assumption))
  |((with_reducible refine dB hd0 ?_ ?_);(assumption))
  |((with_reducible refine bK hd4 ?_ ?_);(assumption))
  |((with_reducible refine bK hd2 ?_ ?_);(assumption))
  |((with_reducible refine bK hd0 ?_ ?_);(assumption))
  |with_reducible refine BrI.intro (λh=>?_) (λh=>?_)
  |((with_reducible refine ak.mk 0 ?_);have hh:heads a b=true:=(by simp only[heads];simp_all);have hz:a.lines.length=b.lines.length:=(by simp at h;omega);have hz2:a.tables.length=b.tables.length:=(by simp at h;omega);have hk0:(a.lines.zip b.lines).length=(a.lines.map Ln.cs).length:=(by rw[dX hz,List.length_map]);have hlz:(a.lines.zip b.lines).length<=9223372036854775807:=(by rw[dX hz];exact hlen1);refine⟨aB (a.lines.zip b.lines) 5 (λ(_:Unit)=>[]) (λ(_:Unit)=>[]) [2,3] (λi0 r0 _=>kF a b=(r0.all mr&&(a.tables.zip b.tables).all rZ)),?_⟩;with_reducible refine ag () ?_ ?_ (λi0 (_:Unit) hd0 hI0=>?_) (λi0 x0 r0 (_:Unit) hd0 hl0 hI0=>?_))
  |with_reducible refine ah hd0 () ?_ ?_
  |((with_reducible refine ak.mk 2 ?_);have hk2:(a.tables.zip b.tables).length=(a.tables.map Tb.cs).length:=(by rw[dX hz2,List.length_map]);have hlz2:(a.tables.zip b.tables).length<=9223372036854775807:=(by rw[dX hz2];exact hlen2);refine⟨aB (a.tables.zip b.tables) 6 (λ(_:Unit)=>[]) (λ(_:Unit)=>[]) [2,3] (λi2 r2 _=>kF a b=r2.all rZ),?_⟩;with_reducible refine ag () ?_ ?_ (λi2 (_:Unit) hd2 hI2=>?_) (λi2 x2 r2 (_:Unit) hd2 hl2 hI2=>?_))
  |with_reducible refine ah hd2 () ?_ ?_
  |((with_reducible refine ak.mk 4 ?_);have hz4:x2.1.values.length=x2.2.values.length:=(by simp at h;omega);have hl4:x2.1.values.length<=9223372036854775807:=hlen3 _ (List.of_mem_zip (aX hd2)).1;have hk4:(x2.1.values.zip x2.2.values).length=(x2.1.values.map fF).length:=(by rw[dX hz4,List.length_map]);have hlz4:(x2.1.values.zip x2.2.values).length<=9223372036854775807:=(by rw[dX hz4];exact hl4);refine⟨aB (x2.1.values.zip x2.2.values) 7 (λ(_:Unit)=>[]) (λ(_:Unit)=>[]) [2,3,6] (λi4 r4 _=>kF a b=((r4.all λv=>!(v.1 != v.2))&&r2.all rZ)),?_⟩;with_reducible refine ag () ?_ ?_ (λi4 (_:Unit) hd4 hI4=>?_) (λi4 x4 r4 (_:Unit) hd4 hl4 hI4=>?_))
  |with_reducible refine ah hd4 () ?_ ?_
  |((with_reducible refine ai ?_ ?_ ?_);rotate_left;exact BK _ _)
  |((with_reducible refine qO ?_ ?_ ?_);exact rfl;exact rfl)
  |((with_reducible refine au ?_ ?_ ?_ ?_ ?_);exact rfl;exact rfl;rotate_left;(first |with_reducible exact gp hd4 |with_reducible exact gq hd4 |with_reducible exact gp hd2 |with_reducible exact gq hd2 |with_reducible exact gp hd0 |with_reducible exact gq hd0))
  |((with_reducible refine Fv ?_ ?_);exact rfl)
  |((with_reducible refine aY ?_ ?_ (λhg=>?_) ?_);exact rfl)
  |((with_reducible refine tK ?_ ?_ (λhg=>?_) ?_);exact rfl)
  |((with_reducible refine bY ?_ ?_);with_reducible exact rfl;with_reducible exact rfl)
  |((with_reducible refine AA ?_ ?_);kernel_rfl)
  |((with_reducible refine aP ?_);refine⟨[],rfl,?_,trivial⟩;conv=>whnf)
  |with_reducible refine And.intro ?_ ?_
  |exact @rfl AV _)
 all_goals(try simp only[xe]at *)
 all_goals first
  |(rw[hI4];(try simp only[mr,rZ,Bool.not_true,Bool.not_false,Bool.and_true,Bool.true_and,Bool.and_false,Bool.false_and,Bool.or_true,Bool.true_or,Bool.or_false,Bool.false_or,if_true,if_false,reduceIte,Bool.false_eq_true,Bool.not_not,Bool.not_eq_true',beq_self_eq_true,List.all_cons,List.all_nil,List.any_cons,List.any_nil,List.length_map,bne,eq_self,Int.toNat_zero, *]);first |done |rfl)
  |(rw[hI2];(try simp only[mr,rZ,Bool.not_true,Bool.not_false,Bool.and_true,Bool.true_and,Bool.and_false,Bool.false_and,Bool.or_true,Bool.true_or,Bool.or_false,Bool.false_or,if_true,if_false,reduceIte,Bool.false_eq_true,Bool.not_not,Bool.not_eq_true',beq_self_eq_true,List.all_cons,List.all_nil,List.any_cons,List.any_nil,List.length_map,bne,eq_self,Int.toNat_zero, *]);first |done |rfl)
  |(rw[hI0];(try simp only[mr,rZ,Bool.not_true,Bool.not_false,Bool.and_true,Bool.true_and,Bool.and_false,Bool.false_and,Bool.or_true,Bool.true_or,Bool.or_false,Bool.false_or,if_true,if_false,reduceIte,Bool.false_eq_true,Bool.not_not,Bool.not_eq_true',beq_self_eq_true,List.all_cons,List.all_nil,List.any_cons,List.any_nil,List.length_map,bne,eq_self,Int.toNat_zero, *]);first |done |rfl)
  |(simp only[kF,Bool.not_true,Bool.not_false,Bool.and_true,Bool.true_and,Bool.and_false,Bool.false_and,Bool.or_true,Bool.true_or,Bool.or_false,Bool.false_or,if_true,if_false,reduceIte,Bool.false_eq_true,Bool.not_not,Bool.not_eq_true',beq_self_eq_true,List.all_cons,List.all_nil,List.any_cons,List.any_nil,List.length_map,bne,eq_self,Int.toNat_zero, *];done)
  |(simp only[heads,kF,Bool.not_true,Bool.not_false,Bool.and_true,Bool.true_and,Bool.and_false,Bool.false_and,Bool.or_true,Bool.true_or,Bool.or_false,Bool.false_or,if_true,if_false,reduceIte,Bool.false_eq_true,Bool.not_not,Bool.not_eq_true',beq_self_eq_true,List.all_cons,List.all_nil,List.any_cons,List.any_nil,List.length_map,bne,eq_self,Int.toNat_zero, *];done)
  |(rw[hI2];simp only[List.all_cons,rZ,bne,Bool.not_not,h,Bool.not_false,Bool.true_and];done)
theorem Qa(p:Pr)(hp:p.Small)(hn:∀s∈p.stmts,nodes s.x<=1073741824)(hv:∀t∈p.tables,t.values.length<=1073741824):PCall Tryz.prog 5 [p.d] (.ret (.b (Few p))):=by
 refine dh Tryz.func5 λhf=>?_
 have hq:=Pr.fits (hf p.d (by simp))
 have hlen1:=hq.stmts;have hlen2:=hq.tables
 have hs1:=hp.params;have hs2:=hp.states;have hs3:=hp.lines;have hs4:=hp.tables;have hs5:=hp.stmts
 clear hf
 repeat' ((try conv=>whnf)<;>first
  |with_reducible exact trivial
  |with_reducible exact aj hd2 ‹_›
  |with_reducible exact aj hd0 ‹_›
  |with_reducible refine DY hd2 ?_
  |with_reducible refine DY hd0 ?_
  |with_reducible refine AL hd2 ?_
  |with_reducible refine AL hd0 ?_
  |with_reducible refine BrI.intro (λh=>?_) (λh=>?_)
  |((with_reducible refine ak.mk 0 ?_);refine⟨aB (p.stmts) 4 (λ(n:(Int))=>[(3,.data (.val (.int .i64 n)))]) (λ(n:(Int))=>[]) [1] (λi0 r0 n=>Few p=DW p (z1v p.tables (z5g r0 n))/\0<=n/\n<=1099511627776),?_⟩;with_reducible refine ag ?_ ?_ ?_ (λi0 (n:(Int)) hd0 hI0=>?_) (λi0 x0 r0 (n:(Int)) hd0 hl0 hI0=>?_))
  |with_reducible refine ah hd0 ?_ ?_ ?_
  |((with_reducible refine ak.mk 2 ?_);refine⟨aB (p.tables) 5 (λ(n:(Int))=>[(3,.data (.val (.int .i64 n)))]) (λ(n:(Int))=>[]) [1] (λi2 r2 n=>Few p=DW p (z1v r2 n)/\0<=n/\n<=1099511627776),?_⟩;with_reducible refine ag ?_ ?_ ?_ (λi2 (n:(Int)) hd2 hI2=>?_) (λi2 x2 r2 (n:(Int)) hd2 hl2 hI2=>?_))
  |with_reducible refine ah hd2 ?_ ?_ ?_
  |((with_reducible refine ai ?_ ?_ ?_);rotate_left;(exact SG _ (hn _ (aX hd0))))
  |((with_reducible refine au ?_ ?_ ?_ ?_ ?_);exact rfl;exact rfl;rotate_left;(first |with_reducible exact ax hd2 |with_reducible exact ax hd0))
  |((with_reducible refine Fv ?_ ?_);exact rfl)
  |((with_reducible refine aP ?_);refine⟨[],rfl,?_,trivial⟩;conv=>whnf)
  |with_reducible refine And.intro ?_ ?_
  |exact @rfl AV _)
 all_goals(try simp only[xe]at *)
 all_goals first
  |(rw[hI2.1];(try simp only[z5g,z1v,DW,Bool.not_true,Bool.not_false,Bool.and_true,Bool.true_and,Bool.and_false,Bool.false_and,Bool.or_true,Bool.true_or,Bool.or_false,Bool.false_or,if_true,if_false,reduceIte,Bool.false_eq_true,Bool.not_not,Bool.not_eq_true',beq_self_eq_true,List.all_cons,List.all_nil,List.any_cons,List.any_nil,List.length_map,bne,eq_self,Int.toNat_zero, *]);first |done |rfl)
  |(rw[hI0.1];(try simp only[z5g,z1v,DW,Bool.not_true,Bool.not_false,Bool.and_true,Bool.true_and,Bool.and_false,Bool.false_and,Bool.or_true,Bool.true_or,Bool.or_false,Bool.false_or,if_true,if_false,reduceIte,Bool.false_eq_true,Bool.not_not,Bool.not_eq_true',beq_self_eq_true,List.all_cons,List.all_nil,List.any_cons,List.any_nil,List.length_map,bne,eq_self,Int.toNat_zero, *]);first |done |rfl)
  |(simp only[z5g,z1v,DW,Bool.not_true,Bool.not_false,Bool.and_true,Bool.true_and,Bool.and_false,Bool.false_and,Bool.or_true,Bool.true_or,Bool.or_false,Bool.false_or,if_true,if_false,reduceIte,Bool.false_eq_true,Bool.not_not,Bool.not_eq_true',beq_self_eq_true,List.all_cons,List.all_nil,List.any_cons,List.any_nil,List.length_map,bne,eq_self,Int.toNat_zero, *];done)
  |(rw[show IntKind.i64.wrap ((p.params.length:Int)+p.states.length)=_ from aO (by omega) (by omega),show IntKind.i64.wrap ((p.params.length:Int)+p.states.length+p.lines.length)=_ from aO (by omega) (by omega),show IntKind.i64.wrap ((p.params.length:Int)+p.states.length+p.lines.length+p.tables.length)=_ from aO (by omega) (by omega),show IntKind.i64.wrap ((p.params.length:Int)+p.states.length+p.lines.length+p.tables.length+p.stmts.length)=_ from aO (by omega) (by omega)];first |rfl |omega)
  |(have h':=h;simp only[decide_eq_true_eq]at h';have:=hn _ (aX hd0);rw[aO (by omega) (by omega)];first |omega |(rw[hI0.1];simp only[z5g,Bool.not_true,Bool.not_false,Bool.and_true,Bool.true_and,Bool.and_false,Bool.false_and,Bool.or_true,Bool.true_or,Bool.or_false,Bool.false_or,if_true,if_false,reduceIte,Bool.false_eq_true,Bool.not_not,Bool.not_eq_true',beq_self_eq_true,List.all_cons,List.all_nil,List.any_cons,List.any_nil,List.length_map,bne,eq_self,Int.toNat_zero,h];done))
  |(have h':=h;simp only[decide_eq_true_eq]at h';have:=hv _ (aX hd2);rw[aO (by omega) (by omega)];first |omega |(rw[hI2.1];simp only[z1v,Bool.not_true,Bool.not_false,Bool.and_true,Bool.true_and,Bool.and_false,Bool.false_and,Bool.or_true,Bool.true_or,Bool.or_false,Bool.false_or,if_true,if_false,reduceIte,Bool.false_eq_true,Bool.not_not,Bool.not_eq_true',beq_self_eq_true,List.all_cons,List.all_nil,List.any_cons,List.any_nil,List.length_map,bne,eq_self,Int.toNat_zero,h];done))
end Go.Proofs.YtaipffoajgkljaaGreatDoor
