/- Contracts: the reference of names, small functions. -/
import Derived.Test.YtmfehangcmbidaaGreatDoorZK6
import Derived.Test.YtmfehangcmbidaaGreatDoorZLL
set_option linter.unusedSectionVars false
set_option linter.unusedSimpArgs false
set_option linter.unusedVariables false
set_option maxHeartbeats 400000
namespace Go.Proofs.YtmfehangcmbidaaGreatDoor
open Go.Fw Go.Fw.Ref15
set_option maxRecDepth 10000
variable [ae]
theorem Qh(x:Ex)(hx:nodes x<=1073741824):aj Tryz.prog 53 [x.d] (.ret (.i (nodes x:Nat))):=by
 revert x;refine Ex.ind λx ih hx=>?_
 refine dM Tryz.func53 λhf=>?_
 have hlen:=Ex.fits (hf x.d (by simp))
 clear hf
 repeat' ((try(conv=>whnf))<;>first
  |exact trivial
  |exact ah hd0 ‹_›
  |refine nK hd0 ?_
  |refine kR hd0 ?_
  |((refine ak.mk 0 ?_);refine⟨aF (x.l) 4 (λ(n:(Int))=>[(3,.data (.val (.int .i64 n)))]) (λ(n:(Int))=>[]) [1] (λi0 r0 n=>0<=n/\(nodes x:Int)=n+(nodesL r0:Nat)),?_⟩;refine ag ?_ ?_ ?_ (λi0 (n:(Int)) hd0 hI0=>?_) (λi0 x0 r0 (n:(Int)) hd0 hl0 hI0=>?_))
  |(refine af hd0 ?_ ?_ ?_)
  |((refine ai ?_ ?_ ?_);rotate_left;(exact ih _ (dB ‹_›) (by simp only[nodesL]at hI0;omega)))
  |((refine aJ ?_ ?_ ?_ ?_ ?_);exact rfl;exact rfl;rotate_left;(exact jq hd0))
  |((refine aV ?_ ?_);exact rfl)
  |(refine qo ?_;conv=>whnf)
  |(refine And.intro ?_ ?_)
  |exact @rfl AV _)
 all_goals first
  |omega
  |((rw[jC];omega))
  |((simp only[nodesL]at hI0;rw[eQ (by omega) (by omega)];omega))
  |((simp only[nodesL]at hI0;exact congrArg D.i (by omega)))
  |skip
theorem jk(a b:Ex)  : aj Tryz.prog 52 [a.d,b.d] (.ret (.b (dG a b))):=by
 revert b;revert a;refine Ex.ind λa ih b=>?_
 refine dM Tryz.func52 λhf=>?_
 have hlen:=Ex.fits (hf a.d (by simp))
 clear hf
 repeat' ((try(conv=>whnf))<;>first
  |with_reducible exact trivial
  |with_reducible exact ah hd0 ‹_›
  |((with_reducible refine dC hd0 ?_ ?_);(assumption))
  |((with_reducible refine bT hd0 ?_ ?_);(assumption))
  |with_reducible refine BrI.intro (λh=>?_) (λh=>?_)
  |((with_reducible refine ak.mk 0 ?_);have hz:a.l.length=b.l.length:=(by simp[Ex.css_len]at h;omega);have hk0:(a.l.zip b.l).length=(Ex.css a.l).length:=(by rw[di hz,Ex.css_len]);have hlz:(a.l.zip b.l).length<=9223372036854775807:=(by rw[di hz];exact hlen);refine⟨aF (a.l.zip b.l) 5 (λ(_:Unit)=>[]) (λ(_:Unit)=>[]) [2,3] (λi0 r0 _=>dG a b=r0.all λq=>dG q.1 q.2),?_⟩;with_reducible refine ag () ?_ ?_ (λi0 (_:Unit) hd0 hI0=>?_) (λi0 x0 r0 (_:Unit) hd0 hl0 hI0=>?_))
  |(with_reducible refine af hd0 () ?_ ?_)
  |((with_reducible refine ai ?_ ?_ ?_);rotate_left;(exact ih _ (List.of_mem_zip (dB hd0)).1 _))
  |((with_reducible refine aJ ?_ ?_ ?_ ?_ ?_);exact rfl;exact rfl;rotate_left;(first |with_reducible exact SI hd0 |with_reducible exact SK hd0))
  |((with_reducible refine aV ?_ ?_);exact rfl)
  |((with_reducible refine aH ?_ ?_);kernel_rfl)
  |((with_reducible refine aC ?_);refine⟨[],rfl,?_,trivial⟩;conv=>whnf)
  |(with_reducible refine And.intro ?_ ?_)
  |exact @rfl AV _)
 all_goals(try simp only[csimp]at *)
 all_goals first
  |(rw[hI0];(try simp only[List.all_cons,Bool.not_true,Bool.not_false,Bool.and_true,Bool.true_and,Bool.and_false,Bool.false_and,Bool.or_true,Bool.true_or,Bool.or_false,Bool.false_or,if_true,if_false,reduceIte,Bool.false_eq_true,Bool.not_not,Bool.not_eq_true',beq_self_eq_true,List.all_cons,List.all_nil,List.any_cons,List.any_nil,List.length_map,bne,eq_self,Int.toNat_zero, *]);first |done |rfl)
  |(simp only[kQ,Bool.not_true,Bool.not_false,Bool.and_true,Bool.true_and,Bool.and_false,Bool.false_and,Bool.or_true,Bool.true_or,Bool.or_false,Bool.false_or,if_true,if_false,reduceIte,Bool.false_eq_true,Bool.not_not,Bool.not_eq_true',beq_self_eq_true,List.all_cons,List.all_nil,List.any_cons,List.any_nil,List.length_map,bne,eq_self,Int.toNat_zero, *];done)
  |((rw[kQ,<-pM hz];simp_all;done))
  |skip
theorem Be(l m:List Bd)  : aj Tryz.prog 106 [.sl 3 (l.map Bd.cs),.sl 3 (m.map Bd.cs)] (.ret (.b (dK l m))):=by
 refine dM Tryz.func106 λhf=>?_
 have hlen:l.length<=9223372036854775807:=by simpa using(hf (.sl 3 (l.map Bd.cs)) (by simp)).sl.1
 clear hf
 repeat' ((try(conv=>whnf))<;>first
  |with_reducible exact trivial
  |with_reducible exact ah hd0 ‹_›
  |((with_reducible refine dC hd0 ?_ ?_);(assumption))
  |((with_reducible refine bT hd0 ?_ ?_);(assumption))
  |with_reducible refine BrI.intro (λh=>?_) (λh=>?_)
  |((with_reducible refine ak.mk 0 ?_);have hz:l.length=m.length:=(by simp at h;omega);have hk0:(l.zip m).length=(l.map Bd.cs).length:=(by rw[di hz,List.length_map]);have hlz:(l.zip m).length<=9223372036854775807:=(by rw[di hz];exact hlen);refine⟨aF (l.zip m) 5 (λ(_:Unit)=>[]) (λ(_:Unit)=>[]) [0,1] (λi0 r0 _=>dK l m=r0.all rJ),?_⟩;with_reducible refine ag () ?_ ?_ (λi0 (_:Unit) hd0 hI0=>?_) (λi0 x0 r0 (_:Unit) hd0 hl0 hI0=>?_))
  |(with_reducible refine af hd0 () ?_ ?_)
  |((with_reducible refine yN ?_ ?_ ?_);exact rfl;exact rfl)
  |((with_reducible refine aJ ?_ ?_ ?_ ?_ ?_);exact rfl;exact rfl;rotate_left;(first |with_reducible exact gQ hd0 |with_reducible exact gU hd0))
  |((with_reducible refine aV ?_ ?_);exact rfl)
  |((with_reducible refine aH ?_ ?_);kernel_rfl)
  |((with_reducible refine aC ?_);refine⟨[],rfl,?_,trivial⟩;conv=>whnf)
  |(with_reducible refine And.intro ?_ ?_)
  |exact @rfl AV _)
 all_goals(try simp only[csimp]at *)
 all_goals first
  |(rw[hI0];(try simp only[rJ,Bool.not_true,Bool.not_false,Bool.and_true,Bool.true_and,Bool.and_false,Bool.false_and,Bool.or_true,Bool.true_or,Bool.or_false,Bool.false_or,if_true,if_false,reduceIte,Bool.false_eq_true,Bool.not_not,Bool.not_eq_true',beq_self_eq_true,List.all_cons,List.all_nil,List.any_cons,List.any_nil,List.length_map,bne,eq_self,Int.toNat_zero, *]);first |done |rfl)
  |(simp only[dK,Bool.not_true,Bool.not_false,Bool.and_true,Bool.true_and,Bool.and_false,Bool.false_and,Bool.or_true,Bool.true_or,Bool.or_false,Bool.false_or,if_true,if_false,reduceIte,Bool.false_eq_true,Bool.not_not,Bool.not_eq_true',beq_self_eq_true,List.all_cons,List.all_nil,List.any_cons,List.any_nil,List.length_map,bne,eq_self,Int.toNat_zero, *];done)
  |skip
theorem BK(a b:Pr)  : aj Tryz.prog 62 [a.d,b.d] (.ret (.b (jc a b))):=by
 refine dM Tryz.func62 λhf=>?_
 have hq:=Pr.fits (hf a.d (by simp))
 have hlen1:=hq.lines;have hlen2:=hq.tables;have hlen3:=hq.values
 clear hf
 repeat' ((try(conv=>whnf))<;>first
  |with_reducible exact trivial
  |with_reducible exact ah hd4 ‹_›
  |with_reducible exact ah hd2 ‹_›
  |with_reducible exact ah hd0 ‹_›
  |((with_reducible refine dC hd4 ?_ ?_);(assumption))
  |((with_reducible refine dC hd2 ?_ ?_);(assumption))
  |((with_reducible refine dC hd0 ?_ ?_);(assumption))
  |((with_reducible refine bT hd4 ?_ ?_);(assumption))
  |((with_reducible refine bT hd2 ?_ ?_);(assumption))
  |((with_reducible refine bT hd0 ?_ ?_);(assumption))
  |with_reducible refine BrI.intro (λh=>?_) (λh=>?_)
  |((with_reducible refine ak.mk 0 ?_);have hh:heads a b=true:=(by simp only[heads];simp_all);have hz:a.lines.length=b.lines.length:=(by simp at h;omega);have hz2:a.tables.length=b.tables.length:=(by simp at h;omega);have hk0:(a.lines.zip b.lines).length=(a.lines.map Ln.cs).length:=(by rw[di hz,List.length_map]);have hlz:(a.lines.zip b.lines).length<=9223372036854775807:=(by rw[di hz];exact hlen1);refine⟨aF (a.lines.zip b.lines) 5 (λ(_:Unit)=>[]) (λ(_:Unit)=>[]) [2,3] (λi0 r0 _=>jc a b=(r0.all lM&&(a.tables.zip b.tables).all rM)),?_⟩;with_reducible refine ag () ?_ ?_ (λi0 (_:Unit) hd0 hI0=>?_) (λi0 x0 r0 (_:Unit) hd0 hl0 hI0=>?_))
  |(with_reducible refine af hd0 () ?_ ?_)
  |((with_reducible refine ak.mk 2 ?_);have hk2:(a.tables.zip b.tables).length=(a.tables.map Tb.cs).length:=(by rw[di hz2,List.length_map]);have hlz2:(a.tables.zip b.tables).length<=9223372036854775807:=(by rw[di hz2];exact hlen2);refine⟨aF (a.tables.zip b.tables) 6 (λ(_:Unit)=>[]) (λ(_:Unit)=>[]) [2,3] (λi2 r2 _=>jc a b=r2.all rM),?_⟩;with_reducible refine ag () ?_ ?_ (λi2 (_:Unit) hd2 hI2=>?_) (λi2 x2 r2 (_:Unit) hd2 hl2 hI2=>?_))
  |(with_reducible refine af hd2 () ?_ ?_)
  |((with_reducible refine ak.mk 4 ?_);have hz4:x2.1.values.length=x2.2.values.length:=(by simp at h;omega);have hl4:x2.1.values.length<=9223372036854775807:=hlen3 _ (List.of_mem_zip (dB hd2)).1;have hk4:(x2.1.values.zip x2.2.values).length=(x2.1.values.map U7).length:=(by rw[di hz4,List.length_map]);have hlz4:(x2.1.values.zip x2.2.values).length<=9223372036854775807:=(by rw[di hz4];exact hl4);refine⟨aF (x2.1.values.zip x2.2.values) 7 (λ(_:Unit)=>[]) (λ(_:Unit)=>[]) [2,3,6] (λi4 r4 _=>jc a b=((r4.all λv=>!(v.1 != v.2))&&r2.all rM)),?_⟩;with_reducible refine ag () ?_ ?_ (λi4 (_:Unit) hd4 hI4=>?_) (λi4 x4 r4 (_:Unit) hd4 hl4 hI4=>?_))
  |(with_reducible refine af hd4 () ?_ ?_)
  |((with_reducible refine ai ?_ ?_ ?_);rotate_left;(exact Be _ _))
  |((with_reducible refine yN ?_ ?_ ?_);exact rfl;exact rfl)
  |((with_reducible refine aJ ?_ ?_ ?_ ?_ ?_);exact rfl;exact rfl;rotate_left;(first |with_reducible exact gQ hd4 |with_reducible exact gU hd4 |with_reducible exact gQ hd2 |with_reducible exact gU hd2 |with_reducible exact gQ hd0 |with_reducible exact gU hd0))
  |((with_reducible refine aV ?_ ?_);exact rfl)
  |((with_reducible refine aP ?_ ?_ (λhg=>?_) ?_);exact rfl)
  |((with_reducible refine nM ?_ ?_ (λhg=>?_) ?_);exact rfl)
  |((with_reducible refine bH ?_ ?_);with_reducible exact rfl;with_reducible exact rfl)
  |((with_reducible refine aH ?_ ?_);kernel_rfl)
  |((with_reducible refine aC ?_);refine⟨[],rfl,?_,trivial⟩;conv=>whnf)
  |(with_reducible refine And.intro ?_ ?_)
  |exact @rfl AV _)
 all_goals(try simp only[csimp]at *)
 all_goals first
  |(rw[hI4];(try simp only[lM,rM,Bool.not_true,Bool.not_false,Bool.and_true,Bool.true_and,Bool.and_false,Bool.false_and,Bool.or_true,Bool.true_or,Bool.or_false,Bool.false_or,if_true,if_false,reduceIte,Bool.false_eq_true,Bool.not_not,Bool.not_eq_true',beq_self_eq_true,List.all_cons,List.all_nil,List.any_cons,List.any_nil,List.length_map,bne,eq_self,Int.toNat_zero, *]);first |done |rfl)
  |(rw[hI2];(try simp only[lM,rM,Bool.not_true,Bool.not_false,Bool.and_true,Bool.true_and,Bool.and_false,Bool.false_and,Bool.or_true,Bool.true_or,Bool.or_false,Bool.false_or,if_true,if_false,reduceIte,Bool.false_eq_true,Bool.not_not,Bool.not_eq_true',beq_self_eq_true,List.all_cons,List.all_nil,List.any_cons,List.any_nil,List.length_map,bne,eq_self,Int.toNat_zero, *]);first |done |rfl)
  |(rw[hI0];(try simp only[lM,rM,Bool.not_true,Bool.not_false,Bool.and_true,Bool.true_and,Bool.and_false,Bool.false_and,Bool.or_true,Bool.true_or,Bool.or_false,Bool.false_or,if_true,if_false,reduceIte,Bool.false_eq_true,Bool.not_not,Bool.not_eq_true',beq_self_eq_true,List.all_cons,List.all_nil,List.any_cons,List.any_nil,List.length_map,bne,eq_self,Int.toNat_zero, *]);first |done |rfl)
  |(simp only[jc,Bool.not_true,Bool.not_false,Bool.and_true,Bool.true_and,Bool.and_false,Bool.false_and,Bool.or_true,Bool.true_or,Bool.or_false,Bool.false_or,if_true,if_false,reduceIte,Bool.false_eq_true,Bool.not_not,Bool.not_eq_true',beq_self_eq_true,List.all_cons,List.all_nil,List.any_cons,List.any_nil,List.length_map,bne,eq_self,Int.toNat_zero, *];done)
  |(simp only[heads,jc,Bool.not_true,Bool.not_false,Bool.and_true,Bool.true_and,Bool.and_false,Bool.false_and,Bool.or_true,Bool.true_or,Bool.or_false,Bool.false_or,if_true,if_false,reduceIte,Bool.false_eq_true,Bool.not_not,Bool.not_eq_true',beq_self_eq_true,List.all_cons,List.all_nil,List.any_cons,List.any_nil,List.length_map,bne,eq_self,Int.toNat_zero, *];done)
  |((rw[hI2];simp only[List.all_cons,rM,bne,Bool.not_not,h,Bool.not_false,Bool.true_and];done))
  |skip
theorem Iz(a b:Pr)  : aj Tryz.prog 23 [a.d,b.d] (.ret (.b (Same a b))):=by
 refine dM Tryz.func23 λhf=>?_
 have hlen:=(Pr.fits (hf a.d (by simp))).stmts
 clear hf
 repeat' ((try(conv=>whnf))<;>first
  |with_reducible exact trivial
  |with_reducible exact ah hd0 ‹_›
  |((with_reducible refine dC hd0 ?_ ?_);(assumption))
  |((with_reducible refine bT hd0 ?_ ?_);(assumption))
  |with_reducible refine BrI.intro (λh=>?_) (λh=>?_)
  |((with_reducible refine ak.mk 0 ?_);have hz:a.stmts.length=b.stmts.length:=(by simp at h;omega);have hk0:(a.stmts.zip b.stmts).length=(a.stmts.map Sm.cs).length:=(by rw[di hz,List.length_map]);have hlz:(a.stmts.zip b.stmts).length<=9223372036854775807:=(by rw[di hz];exact hlen);refine⟨aF (a.stmts.zip b.stmts) 5 (λ(_:Unit)=>[]) (λ(_:Unit)=>[]) [2,3] (λi0 r0 _=>Same a b=r0.all LX),?_⟩;with_reducible refine ag () ?_ ?_ (λi0 (_:Unit) hd0 hI0=>?_) (λi0 x0 r0 (_:Unit) hd0 hl0 hI0=>?_))
  |(with_reducible refine af hd0 () ?_ ?_)
  |((with_reducible refine ai ?_ ?_ ?_);rotate_left;(first |exact BK _ _ |exact jk _ _))
  |((with_reducible refine aJ ?_ ?_ ?_ ?_ ?_);exact rfl;exact rfl;rotate_left;(first |with_reducible exact gQ hd0 |with_reducible exact gU hd0))
  |((with_reducible refine aV ?_ ?_);exact rfl)
  |((with_reducible refine nM ?_ ?_ (λhg=>?_) ?_);exact rfl)
  |((with_reducible refine bH ?_ ?_);with_reducible exact rfl;with_reducible exact rfl)
  |((with_reducible refine aH ?_ ?_);kernel_rfl)
  |((with_reducible refine aC ?_);refine⟨[],rfl,?_,trivial⟩;conv=>whnf)
  |(with_reducible refine And.intro ?_ ?_)
  |exact @rfl AV _)
 all_goals(try simp only[csimp]at *)
 all_goals first
  |(rw[hI0];(try simp only[LX,Bool.not_true,Bool.not_false,Bool.and_true,Bool.true_and,Bool.and_false,Bool.false_and,Bool.or_true,Bool.true_or,Bool.or_false,Bool.false_or,if_true,if_false,reduceIte,Bool.false_eq_true,Bool.not_not,Bool.not_eq_true',beq_self_eq_true,List.all_cons,List.all_nil,List.any_cons,List.any_nil,List.length_map,bne,eq_self,Int.toNat_zero, *]);first |done |rfl)
  |(simp only[Same,Bool.not_true,Bool.not_false,Bool.and_true,Bool.true_and,Bool.and_false,Bool.false_and,Bool.or_true,Bool.true_or,Bool.or_false,Bool.false_or,if_true,if_false,reduceIte,Bool.false_eq_true,Bool.not_not,Bool.not_eq_true',beq_self_eq_true,List.all_cons,List.all_nil,List.any_cons,List.any_nil,List.length_map,bne,eq_self,Int.toNat_zero, *];done)
  |((rw[Same];simp_all;done))
  |skip
theorem XE(p:Pr)(hp:p.Small)(hn:∀s∈p.stmts,nodes s.x<=1073741824)(hv:∀t∈p.tables,t.values.length<=1073741824):aj Tryz.prog 21 [p.d] (.ret (.b (Few p))):=by
 refine dM Tryz.func21 λhf=>?_
 have hq:=Pr.fits (hf p.d (by simp))
 have hlen1:=hq.stmts;have hlen2:=hq.tables
 have hs1:=hp.params;have hs2:=hp.states;have hs3:=hp.lines;have hs4:=hp.tables;have hs5:=hp.stmts
 clear hf
 repeat' ((try(conv=>whnf))<;>first
  |with_reducible exact trivial
  |with_reducible exact ah hd2 ‹_›
  |with_reducible exact ah hd0 ‹_›
  |with_reducible refine CX hd2 ?_
  |with_reducible refine CX hd0 ?_
  |with_reducible refine zX hd2 ?_
  |with_reducible refine zX hd0 ?_
  |with_reducible refine BrI.intro (λh=>?_) (λh=>?_)
  |((with_reducible refine ak.mk 0 ?_);refine⟨aF (p.stmts) 4 (λ(n:(Int))=>[(3,.data (.val (.int .i64 n)))]) (λ(n:(Int))=>[]) [1] (λi0 r0 n=>Few p=CV p (XY p.tables (Zf r0 n))/\0<=n/\n<=1099511627776),?_⟩;with_reducible refine ag ?_ ?_ ?_ (λi0 (n:(Int)) hd0 hI0=>?_) (λi0 x0 r0 (n:(Int)) hd0 hl0 hI0=>?_))
  |(with_reducible refine af hd0 ?_ ?_ ?_)
  |((with_reducible refine ak.mk 2 ?_);refine⟨aF (p.tables) 5 (λ(n:(Int))=>[(3,.data (.val (.int .i64 n)))]) (λ(n:(Int))=>[]) [1] (λi2 r2 n=>Few p=CV p (XY r2 n)/\0<=n/\n<=1099511627776),?_⟩;with_reducible refine ag ?_ ?_ ?_ (λi2 (n:(Int)) hd2 hI2=>?_) (λi2 x2 r2 (n:(Int)) hd2 hl2 hI2=>?_))
  |(with_reducible refine af hd2 ?_ ?_ ?_)
  |((with_reducible refine ai ?_ ?_ ?_);rotate_left;(exact Qh _ (hn _ (dB hd0))))
  |((with_reducible refine aJ ?_ ?_ ?_ ?_ ?_);exact rfl;exact rfl;rotate_left;(first |with_reducible exact aA hd2 |with_reducible exact aA hd0))
  |((with_reducible refine aV ?_ ?_);exact rfl)
  |((with_reducible refine aC ?_);refine⟨[],rfl,?_,trivial⟩;conv=>whnf)
  |(with_reducible refine And.intro ?_ ?_)
  |exact @rfl AV _)
 all_goals(try simp only[csimp]at *)
 all_goals first
  |(rw[hI2.1];(try simp only[Zf,XY,CV,Bool.not_true,Bool.not_false,Bool.and_true,Bool.true_and,Bool.and_false,Bool.false_and,Bool.or_true,Bool.true_or,Bool.or_false,Bool.false_or,if_true,if_false,reduceIte,Bool.false_eq_true,Bool.not_not,Bool.not_eq_true',beq_self_eq_true,List.all_cons,List.all_nil,List.any_cons,List.any_nil,List.length_map,bne,eq_self,Int.toNat_zero, *]);first |done |rfl)
  |(rw[hI0.1];(try simp only[Zf,XY,CV,Bool.not_true,Bool.not_false,Bool.and_true,Bool.true_and,Bool.and_false,Bool.false_and,Bool.or_true,Bool.true_or,Bool.or_false,Bool.false_or,if_true,if_false,reduceIte,Bool.false_eq_true,Bool.not_not,Bool.not_eq_true',beq_self_eq_true,List.all_cons,List.all_nil,List.any_cons,List.any_nil,List.length_map,bne,eq_self,Int.toNat_zero, *]);first |done |rfl)
  |(simp only[Zf,XY,CV,Bool.not_true,Bool.not_false,Bool.and_true,Bool.true_and,Bool.and_false,Bool.false_and,Bool.or_true,Bool.true_or,Bool.or_false,Bool.false_or,if_true,if_false,reduceIte,Bool.false_eq_true,Bool.not_not,Bool.not_eq_true',beq_self_eq_true,List.all_cons,List.all_nil,List.any_cons,List.any_nil,List.length_map,bne,eq_self,Int.toNat_zero, *];done)
  |((rw[show IntKind.i64.wrap ((p.params.length:Int)+p.states.length)=_ from eQ (by omega) (by omega),show IntKind.i64.wrap ((p.params.length:Int)+p.states.length+p.lines.length)=_ from eQ (by omega) (by omega),show IntKind.i64.wrap ((p.params.length:Int)+p.states.length+p.lines.length+p.tables.length)=_ from eQ (by omega) (by omega),show IntKind.i64.wrap ((p.params.length:Int)+p.states.length+p.lines.length+p.tables.length+p.stmts.length)=_ from eQ (by omega) (by omega)];first |rfl |omega))
  |((have h':=h;simp only[decide_eq_true_eq]at h';have:=hn _ (dB hd0);rw[eQ (by omega) (by omega)];first |omega |(rw[hI0.1];simp only[Zf,Bool.not_true,Bool.not_false,Bool.and_true,Bool.true_and,Bool.and_false,Bool.false_and,Bool.or_true,Bool.true_or,Bool.or_false,Bool.false_or,if_true,if_false,reduceIte,Bool.false_eq_true,Bool.not_not,Bool.not_eq_true',beq_self_eq_true,List.all_cons,List.all_nil,List.any_cons,List.any_nil,List.length_map,bne,eq_self,Int.toNat_zero,h];done)))
  |((have h':=h;simp only[decide_eq_true_eq]at h';have:=hv _ (dB hd2);rw[eQ (by omega) (by omega)];first |omega |(rw[hI2.1];simp only[XY,Bool.not_true,Bool.not_false,Bool.and_true,Bool.true_and,Bool.and_false,Bool.false_and,Bool.or_true,Bool.true_or,Bool.or_false,Bool.false_or,if_true,if_false,reduceIte,Bool.false_eq_true,Bool.not_not,Bool.not_eq_true',beq_self_eq_true,List.all_cons,List.all_nil,List.any_cons,List.any_nil,List.length_map,bne,eq_self,Int.toNat_zero,h];done)))
  |skip
end Go.Proofs.YtmfehangcmbidaaGreatDoor
