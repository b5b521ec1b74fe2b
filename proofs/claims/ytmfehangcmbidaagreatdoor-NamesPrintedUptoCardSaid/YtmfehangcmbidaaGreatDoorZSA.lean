/- Contracts: package lex: names; package names: declaring. -/
import Derived.Test.YtmfehangcmbidaaGreatDoorZNX
import Derived.Test.YtmfehangcmbidaaGreatDoorZE1
import Derived.Test.YtmfehangcmbidaaGreatDoorZDL
import Derived.Test.YtmfehangcmbidaaGreatDoorZDB
set_option linter.unusedSectionVars false
set_option linter.unusedSimpArgs false
set_option linter.unusedVariables false
set_option maxHeartbeats 4000000
namespace Go.Proofs.YtmfehangcmbidaaGreatDoor
open Go.Fw Go.Fw.Nam Go.Fw.Ref15
set_option maxRecDepth 10000
variable [ae]
theorem Ky(c:UInt8)  : aj Tryz.prog 42 [D.u8 c] (.ret (.i (cls c))):=by
 refine bV Tryz.func42 ?_
 repeat' ((try(conv=>whnf))<;>first
  |with_reducible refine BrI.intro (λh=>?_) (λh=>?_)
  |((with_reducible refine ai ?_ ?_ ?_);rotate_left;(exact l9 _ _))
  |((with_reducible refine aC ?_);refine⟨[],rfl,?_,trivial⟩;conv=>whnf)
  |fail)
 all_goals(try simp only[csimp]at *)
 all_goals first
  |((refine congrArg (λz=>D.val (Value.int IntKind.i64 z)) ?_;simp only[cls,Ref03.letter,Ref03.figure,if_true,if_false,Bool.false_eq_true,reduceIte, *];first |done |exact(if_pos (by assumption)).symm |exact(if_neg (ne_true_of_eq_false (by assumption))).symm))
  |skip
theorem ug(s:Str)  : aj Tryz.prog 89 [.str s] (.ret (.b (uV s))):=by
 refine bV Tryz.func89 ?_
 repeat' ((try(conv=>whnf))<;>first
  |with_reducible exact trivial
  |with_reducible exact ah hd0 ‹_›
  |((with_reducible refine dC hd0 ?_ ?_);(exact rfl))
  |((with_reducible refine bT hd0 ?_ ?_);(exact rfl))
  |with_reducible refine BrI.intro (λh=>?_) (λh=>?_)
  |((with_reducible refine Ei ?_ ?_ ?_);decide;(simp[lY]at hg;have:=List.length_pos_iff.2 hg.1;omega))
  |((with_reducible refine ak.mk 0 ?_);have hlen:s.length<=9223372036854775807:=(by simp only[Bool.cond_true_left,Bool.or_eq_false_iff,decide_eq_false_iff_not]at h;omega);refine⟨aF (s) 20 (λ(_:Unit)=>[]) (λ(_:Unit)=>[]) [0,19] (λi0 r0 _=>uV s=r0.all BC),?_⟩;with_reducible refine ag () ?_ ?_ (λi0 (_:Unit) hd0 hI0=>?_) (λi0 x0 r0 (_:Unit) hd0 hl0 hI0=>?_))
  |(with_reducible refine af hd0 () ?_ ?_)
  |((with_reducible refine ai ?_ ?_ ?_);rotate_left;(exact Ky _))
  |with_reducible refine SL hd0 ?_
  |((with_reducible refine aP ?_ ?_ (λhg=>?_) ?_);exact rfl)
  |((with_reducible refine bH ?_ ?_);with_reducible exact rfl;with_reducible exact rfl)
  |((with_reducible refine aC ?_);refine⟨[],rfl,?_,trivial⟩;conv=>whnf)
  |(with_reducible refine And.intro ?_ ?_)
  |exact @rfl AV _
  |fail)
 all_goals(try simp only[csimp]at *)
 all_goals first
  |(rw[hI0];(try simp only[uV,BC,Bool.not_true,Bool.not_false,Bool.and_true,Bool.true_and,Bool.and_false,Bool.false_and,Bool.or_true,Bool.true_or,Bool.or_false,Bool.false_or,if_true,if_false,reduceIte,Bool.false_eq_true,Bool.not_not,Bool.not_eq_true',beq_self_eq_true,List.all_cons,List.all_nil,List.any_cons,List.any_nil,List.length_map,bne,eq_self,Int.toNat_zero, *]);first |done |rfl)
  |(simp only[uV,BC,Bool.not_true,Bool.not_false,Bool.and_true,Bool.true_and,Bool.and_false,Bool.false_and,Bool.or_true,Bool.true_or,Bool.or_false,Bool.false_or,if_true,if_false,reduceIte,Bool.false_eq_true,Bool.not_not,Bool.not_eq_true',beq_self_eq_true,List.all_cons,List.all_nil,List.any_cons,List.any_nil,List.length_map,bne,eq_self,Int.toNat_zero, *];done)
  |skip
theorem fF(l:List Pe)(name:Str)(k i f:Int)(hl:l.length<=1073741824):ax Tryz.prog 99 [.ptr 1000000 0,.data (.str name),.data (.i k),.data (.i i),.data (.i f)] [(1000000,.cells [.gs 1000001 1 (l.map nmC),.gs 1000002 3 (l.map enC)]),(1000001,.tok 1 (l.map nmC).length),(1000002,.tok 3 (l.map enC).length)] (.ret (.data (.tuple []))) [(1000000,.cells [.gs 1000001 1 ((l++[(name,En.mk k i f)]).map nmC),.gs 1000002 3 ((l++[(name,En.mk k i f)]).map enC)]),(1000001,.tok 1 ((l++[(name,En.mk k i f)]).map nmC).length),(1000002,.tok 3 ((l++[(name,En.mk k i f)]).map enC).length)]:=by
 refine bg Tryz.func99 ?_
 repeat' ((try(conv=>whnf))<;>first
  |with_reducible exact trivial
  |((with_reducible refine aC ?_);refine fin_step' [] rfl ?_ ?_)
  |(with_reducible refine aB.l _ ?_)
  |((with_reducible refine app_step' ?_ ?_ ?_ ?_ ?_ ?_ ?_);exact rfl;exact rfl;exact rfl;exact rfl)
  |((with_reducible refine aH ?_ ?_);kernel_rfl)
  |(with_reducible refine And.intro ?_ ?_)
  |((with_reducible refine fH ?_ ?_);exact rfl;(first |skip))
  |((with_reducible refine aO ?_);refine dN ?_ ?_ ?_;exact rfl;exact rfl;(first |skip))
  |exact eX rfl
  |fail)
 all_goals(try simp only[csimp]at *)
 all_goals first
  |omega
  |((simp only[List.map_append,List.map_cons,List.map_nil];rfl))
  |skip
theorem mi(s:Str):aj Tryz.prog 100 [.str Um,.str ([32]++s++[32])] (.ret (.b (Lib.contains Um ([32]++s++[32])))):=Ff _ _ (by decide)
theorem DI(p:Pr)(hp:p.Small)(hN:(p.name::jM (decl p)).all nmOk=true)(hU:uniq (decl p)):ax Tryz.prog 57 [.data p.d] [] (.ret (.map 1000000)) [(1000000,.map false [.str] (mkM (decl p)))]:=by
 refine xQ Tryz.func57 λhf=>?_
 have hq:=Pr.fits (yh.data (hf (.data p.d) (by simp)))
 have hlen1:=hq.params;have hlen2:=hq.states;have hlen3:=hq.lines;have hlen4:=hq.tables;have hlen5:=hq.stmts
 have ht1:=Np hp;have ht2:=Nq hp;have ht3:=Nr hp;have ht4:=Ns hp;have ht5:=EN hp
 have hld:(decl p).length<=9223372036854775807:=by omega
 have hle:(p.name::jM (decl p)).length<=9223372036854775807:=by simp[jM];omega
 clear hf
 repeat' ((try(conv=>whnf))<;>first
  |exact trivial
  |exact ah hd12 ‹_›
  |exact ah hd10 ‹_›
  |exact ah hd8 ‹_›
  |exact ah hd6 ‹_›
  |exact ah hd4 ‹_›
  |exact ah hd2 ‹_›
  |exact ah hd0 ‹_›
  |refine bz hd12 ?_
  |refine bz hd8 ?_
  |refine bz hd6 ?_
  |refine bz hd4 ?_
  |refine bz hd2 ?_
  |refine bz hd0 ?_
  |refine aS hd12 ?_
  |refine aS hd8 ?_
  |refine aS hd6 ?_
  |refine aS hd4 ?_
  |refine aS hd2 ?_
  |refine aS hd0 ?_
  |((refine dC hd10 ?_ ?_);(exact rfl))
  |((refine bT hd10 ?_ ?_);(exact rfl))
  |refine BrI.intro (λh=>?_) (λh=>?_)
  |refine aQ (gz _ _) (λh=>?_) (λh=>?_)
  |(exact xy (by have hk:=AA (s:=x10) (by simpa[lY]using hg);simp;omega))
  |(refine EO (AB (Ur hU hI12)) ?_)
  |((refine ak.mk 0 ?_);refine⟨aF (p.params) 24 (λ(a0:(List Pe))=>[]) (λ(a0:(List Pe))=>[(1,.cells (p.cs.map .data)),(3,.cells [.gs 700001 1 (a0.map nmC),.gs 700002 3 (a0.map enC)]),(700001,.tok 1 (a0.map nmC).length),(700002,.tok 3 (a0.map enC).length)]) [1,3,22,23] (λi0 r0 a0=>a0++kJ 3 (bounds r0) i0=T1 p),?_⟩;refine ag ([]) ?_ ?_ (λi0 (a0:(List Pe)) hd0 hI0=>?_) (λi0 x0 r0 (a0:(List Pe)) hd0 hl0 hI0=>?_))
  |(refine af hd0 (a0++[(x0.name,En.mk 3 i0 0)]) ?_ ?_)
  |((refine ak.mk 2 ?_);refine⟨aF (p.states) 37 (λ(a2:(List Pe))=>[]) (λ(a2:(List Pe))=>[(1,.cells (p.cs.map .data)),(3,.cells [.gs 700001 1 (a2.map nmC),.gs 700002 3 (a2.map enC)]),(700001,.tok 1 (a2.map nmC).length),(700002,.tok 3 (a2.map enC).length)]) [1,3,35,36] (λi2 r2 a2=>a2++kJ 4 (bounds r2) i2=T2 p),?_⟩;refine ag (a0) ?_ ?_ (λi2 (a2:(List Pe)) hd2 hI2=>?_) (λi2 x2 r2 (a2:(List Pe)) hd2 hl2 hI2=>?_))
  |(refine af hd2 (a2++[(x2.name,En.mk 4 i2 0)]) ?_ ?_)
  |((refine ak.mk 4 ?_);refine⟨aF (p.lines) 50 (λ(a4:(List Pe))=>[]) (λ(a4:(List Pe))=>[(1,.cells (p.cs.map .data)),(3,.cells [.gs 700001 1 (a4.map nmC),.gs 700002 3 (a4.map enC)]),(700001,.tok 1 (a4.map nmC).length),(700002,.tok 3 (a4.map enC).length)]) [1,3,48,49] (λi4 r4 a4=>a4++kJ 8 (r4.map (·.name)) i4=T3 p),?_⟩;refine ag (a2) ?_ ?_ (λi4 (a4:(List Pe)) hd4 hI4=>?_) (λi4 x4 r4 (a4:(List Pe)) hd4 hl4 hI4=>?_))
  |(refine af hd4 (a4++[(x4.name,En.mk 8 i4 0)]) ?_ ?_)
  |((refine ak.mk 6 ?_);refine⟨aF (p.tables) 63 (λ(a6:(List Pe))=>[]) (λ(a6:(List Pe))=>[(1,.cells (p.cs.map .data)),(3,.cells [.gs 700001 1 (a6.map nmC),.gs 700002 3 (a6.map enC)]),(700001,.tok 1 (a6.map nmC).length),(700002,.tok 3 (a6.map enC).length)]) [1,3,61,62] (λi6 r6 a6=>a6++kJ 9 (r6.map (·.name)) i6=T4 p),?_⟩;refine ag (a4) ?_ ?_ (λi6 (a6:(List Pe)) hd6 hI6=>?_) (λi6 x6 r6 (a6:(List Pe)) hd6 hl6 hI6=>?_))
  |(refine af hd6 (a6++[(x6.name,En.mk 9 i6 0)]) ?_ ?_)
  |((refine ak.mk 8 ?_);refine⟨aF (p.stmts) 76 (λ(a8:(List Pe))=>[]) (λ(a8:(List Pe))=>[(1,.cells (p.cs.map .data)),(3,.cells [.gs 700001 1 (a8.map nmC),.gs 700002 3 (a8.map enC)]),(700001,.tok 1 (a8.map nmC).length),(700002,.tok 3 (a8.map enC).length)]) [1,3,74,75] (λi8 r8 a8=>a8++xY r8 i8=decl p),?_⟩;refine ag (a6) ?_ ?_ (λi8 (a8:(List Pe)) hd8 hI8=>?_) (λi8 x8 r8 (a8:(List Pe)) hd8 hl8 hI8=>?_))
  |(refine af hd8 (?_) ?_ ?_)
  |((refine ak.mk 10 ?_);have he8:a8=decl p:=(by simpa[xY]using hI8);subst he8;refine⟨aF (p.name::jM (decl p)) 98 (λ(_:Unit)=>[(96,.gs 93 1 ((p.name::jM (decl p)).map ui)),(97,.data (.val (.int .i64 ((p.name::jM (decl p)).length:Nat))))]) (λ(_:Unit)=>[(1,.cells (p.cs.map .data)),(3,.cells [.gs 700001 1 ((decl p).map nmC),.gs 700002 3 ((decl p).map enC)]),(700001,.tok 1 ((decl p).map nmC).length),(700002,.tok 3 ((decl p).map enC).length)]) [3] (λi10 r10 _=>r10.all nmOk=true),?_⟩;refine ag () ?_ ?_ (λi10 (_:Unit) hd10 hI10=>?_) (λi10 x10 r10 (_:Unit) hd10 hl10 hI10=>?_))
  |(refine af hd10 () ?_ ?_)
  |((refine ak.mk 12 ?_);refine⟨aF (decl p) 117 (λ(d:(List Pe))=>[]) (λ(d:(List Pe))=>[(1,.cells (p.cs.map .data)),(3,.cells [.gs 700001 1 ((decl p).map nmC),.gs 700002 3 ((decl p).map enC)]),(700001,.tok 1 ((decl p).map nmC).length),(700002,.tok 3 ((decl p).map enC).length),(113,.map false [.str] (mkM d))]) [3,16,115,116] (λi12 r12 d=>d++r12=decl p),?_⟩;refine ag ([]) ?_ ?_ (λi12 (d:(List Pe)) hd12 hI12=>?_) (λi12 x12 r12 (d:(List Pe)) hd12 hl12 hI12=>?_))
  |(refine af hd12 (d++[x12]) ?_ ?_)
  |((refine ai ?_ ?_ ?_);rotate_left;(first |exact ug _ |exact mi _))
  |((refine lent_step' [(1000000,3),(1000001,700001),(1000002,700002)] (fF a0 x0.name 3 i0 0 (ik hI0 (by omega))) ?_ ?_ ?_ ?_);rotate_left 0;exact rfl;(exact⟨rfl,rfl,rfl,trivial⟩);exact rfl)
  |((refine lent_step' [(1000000,3),(1000001,700001),(1000002,700002)] (fF a2 x2.name 4 i2 0 (ik hI2 (by omega))) ?_ ?_ ?_ ?_);rotate_left 0;exact rfl;(exact⟨rfl,rfl,rfl,trivial⟩);exact rfl)
  |((refine lent_step' [(1000000,3),(1000001,700001),(1000002,700002)] (fF a4 x4.name 8 i4 0 (ik hI4 (by omega))) ?_ ?_ ?_ ?_);rotate_left 0;exact rfl;(exact⟨rfl,rfl,rfl,trivial⟩);exact rfl)
  |((refine lent_step' [(1000000,3),(1000001,700001),(1000002,700002)] (fF a6 x6.name 9 i6 0 (ik hI6 (by omega))) ?_ ?_ ?_ ?_);rotate_left 0;exact rfl;(exact⟨rfl,rfl,rfl,trivial⟩);exact rfl)
  |((refine lent_step' [(1000000,3),(1000001,700001),(1000002,700002)] (fF a8 x8.name 5 i8 (IntKind.i64.wrap ((i8:Int)+1)) (ik hI8 (by omega))) ?_ ?_ ?_ ?_);rotate_left 0;exact rfl;(exact⟨rfl,rfl,rfl,trivial⟩);exact rfl)
  |((refine aC ?_);refine fin_step' [(1000000,113)] rfl ?_ ?_)
  |(refine aB.l _ ?_)
  |((refine bW ?_ ?_ ?_ ?_ ?_ ?_)<;>exact rfl)
  |((refine dm ?_ ?_ ?_ ?_)<;>exact rfl)
  |((refine aJ ?_ ?_ ?_ ?_ ?_);exact rfl;exact rfl;rotate_left;(first |exact aA hd12 |exact aA hd10 |exact aA hd8 |exact aA hd6 |exact aA hd4 |exact aA hd2 |exact aA hd0))
  |((refine aV ?_ ?_);exact rfl)
  |((refine app_step' ?_ ?_ ?_ ?_ ?_ ?_ ?_);exact rfl;exact rfl;exact rfl;exact rfl)
  |((refine aP ?_ ?_ (λhg=>?_) ?_);exact rfl)
  |((refine bH ?_ ?_);exact rfl;exact rfl)
  |((refine ig ?_ ?_);exact rfl)
  |(refine And.intro ?_ ?_)
  |((refine oD ?_ ?_ ?_);exact rfl;exact rfl;(first |exact rfl |skip))
  |exact @rfl AV _
  |exact @rfl Block _
  |exact @rfl (List AV) _
  |exact eX rfl
  |fail)
 all_goals first
  |omega
  |((exact absurd h (by decide)))
  |((exfalso;simp only[List.all_cons,Bool.and_eq_true]at hI10;have hk:=hI10.1;simp only[nmOk]at hk;(try simp only[Bool.cond_false_right]at h);rw[hk]at h;exact absurd h (by decide)))
  |(((try(conv=>whnf));exact congrArg (Block.map false [KS.str]) (H5 (Ur hU hI12))))
  |(((try(conv=>whnf));exact congrArg (λl=>Block.map false [KS.str] (mkM l)) (by simpa using hI12)))
  |(((try(conv=>whnf));exact congrArg (λz:Nat=>AV.data (D.val (Value.int IntKind.i64 (z:Int)))) (by show([[D.str p.name]]++List.map nmC (decl p)).length=_;simp[jM])))
  |(rfl)
  |(((refine Eq.symm ?_);(refine Eq.symm ?_);rw[T2,<-hI0];simp[bounds,kJ];done))
  |(((refine Eq.symm ?_);(refine Eq.symm ?_);rw[T3,<-hI2];simp[bounds,kJ,lines];done))
  |(((refine Eq.symm ?_);(refine Eq.symm ?_);rw[T4,<-hI4];simp[kJ,tables];done))
  |(((refine Eq.symm ?_);(refine Eq.symm ?_);rw[decl,<-hI6];simp[kJ];done))
  |((have hz:=ik hI8 ht5;(try simp only[List.length_map]);omega))
  |((show [[D.str p.name]]++List.map nmC (decl p)=_;simp[jM];done))
  |(((refine Eq.symm ?_);(refine Eq.symm ?_);rw[<-hI12];simp;done))
  |((simp only[List.all_cons,Bool.and_eq_true]at hI10;exact hI10.2))
  |(((refine Eq.symm ?_);(refine Eq.symm ?_);rw[<-hI6];simp only[kJ,bounds,List.map_cons,List.append_assoc,List.cons_append,List.nil_append];done))
  |(((refine Eq.symm ?_);(refine Eq.symm ?_);rw[<-hI4];simp only[kJ,bounds,List.map_cons,List.append_assoc,List.cons_append,List.nil_append];done))
  |(((refine Eq.symm ?_);(refine Eq.symm ?_);rw[<-hI2];simp only[kJ,bounds,List.map_cons,List.append_assoc,List.cons_append,List.nil_append];done))
  |(((refine Eq.symm ?_);(refine Eq.symm ?_);rw[<-hI0];simp only[kJ,bounds,List.map_cons,List.append_assoc,List.cons_append,List.nil_append];done))
  |(((refine Eq.symm ?_);(refine Eq.symm ?_);rw[<-hI8];simp only[xY,h,Bool.false_eq_true,if_false];done))
  |(((refine Eq.symm ?_);(refine Eq.symm ?_);rw[show IntKind.i64.wrap ((i8:Int)+1)=(i8:Int)+1 from eQ (by omega) (by omega),<-hI8];simp only[xY,h,if_true,List.append_assoc,List.cons_append,List.nil_append];done))
  |skip
theorem Iu(p:Pr)(hp:p.Small)(hN:(p.name::jM (decl p)).all nmOk=false):ax Tryz.prog 57 [.data p.d] [] (.pan (.data (.iface 24 (.i 150)))) []:=by
 refine xQ Tryz.func57 λhf=>?_
 have hq:=Pr.fits (yh.data (hf (.data p.d) (by simp)))
 have hlen1:=hq.params;have hlen2:=hq.states;have hlen3:=hq.lines;have hlen4:=hq.tables;have hlen5:=hq.stmts
 have ht1:=Np hp;have ht2:=Nq hp;have ht3:=Nr hp;have ht4:=Ns hp;have ht5:=EN hp
 have hld:(decl p).length<=9223372036854775807:=by omega
 have hle:(p.name::jM (decl p)).length<=9223372036854775807:=by simp[jM];omega
 clear hf
 repeat' ((try(conv=>whnf))<;>first
  |exact trivial
  |exact ah hd10 ‹_›
  |exact ah hd8 ‹_›
  |exact ah hd6 ‹_›
  |exact ah hd4 ‹_›
  |exact ah hd2 ‹_›
  |exact ah hd0 ‹_›
  |refine bz hd8 ?_
  |refine bz hd6 ?_
  |refine bz hd4 ?_
  |refine bz hd2 ?_
  |refine bz hd0 ?_
  |refine aS hd8 ?_
  |refine aS hd6 ?_
  |refine aS hd4 ?_
  |refine aS hd2 ?_
  |refine aS hd0 ?_
  |((refine dC hd10 ?_ ?_);(exact rfl))
  |((refine bT hd10 ?_ ?_);(exact rfl))
  |refine BrI.intro (λh=>?_) (λh=>?_)
  |refine aQ (gz _ _) (λh=>?_) (λh=>?_)
  |(exact xy (by have hk:=AA (s:=x10) (by simpa[lY]using hg);simp;omega))
  |(exact absurd hI10 (by decide))
  |((refine ak.mk 0 ?_);refine⟨aF (p.params) 24 (λ(a0:(List Pe))=>[]) (λ(a0:(List Pe))=>[(1,.cells (p.cs.map .data)),(3,.cells [.gs 700001 1 (a0.map nmC),.gs 700002 3 (a0.map enC)]),(700001,.tok 1 (a0.map nmC).length),(700002,.tok 3 (a0.map enC).length)]) [1,3,22,23] (λi0 r0 a0=>a0++kJ 3 (bounds r0) i0=T1 p),?_⟩;refine ag ([]) ?_ ?_ (λi0 (a0:(List Pe)) hd0 hI0=>?_) (λi0 x0 r0 (a0:(List Pe)) hd0 hl0 hI0=>?_))
  |(refine af hd0 (a0++[(x0.name,En.mk 3 i0 0)]) ?_ ?_)
  |((refine ak.mk 2 ?_);refine⟨aF (p.states) 37 (λ(a2:(List Pe))=>[]) (λ(a2:(List Pe))=>[(1,.cells (p.cs.map .data)),(3,.cells [.gs 700001 1 (a2.map nmC),.gs 700002 3 (a2.map enC)]),(700001,.tok 1 (a2.map nmC).length),(700002,.tok 3 (a2.map enC).length)]) [1,3,35,36] (λi2 r2 a2=>a2++kJ 4 (bounds r2) i2=T2 p),?_⟩;refine ag (a0) ?_ ?_ (λi2 (a2:(List Pe)) hd2 hI2=>?_) (λi2 x2 r2 (a2:(List Pe)) hd2 hl2 hI2=>?_))
  |(refine af hd2 (a2++[(x2.name,En.mk 4 i2 0)]) ?_ ?_)
  |((refine ak.mk 4 ?_);refine⟨aF (p.lines) 50 (λ(a4:(List Pe))=>[]) (λ(a4:(List Pe))=>[(1,.cells (p.cs.map .data)),(3,.cells [.gs 700001 1 (a4.map nmC),.gs 700002 3 (a4.map enC)]),(700001,.tok 1 (a4.map nmC).length),(700002,.tok 3 (a4.map enC).length)]) [1,3,48,49] (λi4 r4 a4=>a4++kJ 8 (r4.map (·.name)) i4=T3 p),?_⟩;refine ag (a2) ?_ ?_ (λi4 (a4:(List Pe)) hd4 hI4=>?_) (λi4 x4 r4 (a4:(List Pe)) hd4 hl4 hI4=>?_))
  |(refine af hd4 (a4++[(x4.name,En.mk 8 i4 0)]) ?_ ?_)
  |((refine ak.mk 6 ?_);refine⟨aF (p.tables) 63 (λ(a6:(List Pe))=>[]) (λ(a6:(List Pe))=>[(1,.cells (p.cs.map .data)),(3,.cells [.gs 700001 1 (a6.map nmC),.gs 700002 3 (a6.map enC)]),(700001,.tok 1 (a6.map nmC).length),(700002,.tok 3 (a6.map enC).length)]) [1,3,61,62] (λi6 r6 a6=>a6++kJ 9 (r6.map (·.name)) i6=T4 p),?_⟩;refine ag (a4) ?_ ?_ (λi6 (a6:(List Pe)) hd6 hI6=>?_) (λi6 x6 r6 (a6:(List Pe)) hd6 hl6 hI6=>?_))
  |(refine af hd6 (a6++[(x6.name,En.mk 9 i6 0)]) ?_ ?_)
  |((refine ak.mk 8 ?_);refine⟨aF (p.stmts) 76 (λ(a8:(List Pe))=>[]) (λ(a8:(List Pe))=>[(1,.cells (p.cs.map .data)),(3,.cells [.gs 700001 1 (a8.map nmC),.gs 700002 3 (a8.map enC)]),(700001,.tok 1 (a8.map nmC).length),(700002,.tok 3 (a8.map enC).length)]) [1,3,74,75] (λi8 r8 a8=>a8++xY r8 i8=decl p),?_⟩;refine ag (a6) ?_ ?_ (λi8 (a8:(List Pe)) hd8 hI8=>?_) (λi8 x8 r8 (a8:(List Pe)) hd8 hl8 hI8=>?_))
  |(refine af hd8 (?_) ?_ ?_)
  |((refine ak.mk 10 ?_);have he8:a8=decl p:=(by simpa[xY]using hI8);subst he8;refine⟨aF (p.name::jM (decl p)) 98 (λ(_:Unit)=>[(96,.gs 93 1 ((p.name::jM (decl p)).map ui)),(97,.data (.val (.int .i64 ((p.name::jM (decl p)).length:Nat))))]) (λ(_:Unit)=>[(1,.cells (p.cs.map .data)),(3,.cells [.gs 700001 1 ((decl p).map nmC),.gs 700002 3 ((decl p).map enC)]),(700001,.tok 1 ((decl p).map nmC).length),(700002,.tok 3 ((decl p).map enC).length)]) [3] (λi10 r10 _=>r10.all nmOk=false),?_⟩;refine ag () ?_ ?_ (λi10 (_:Unit) hd10 hI10=>?_) (λi10 x10 r10 (_:Unit) hd10 hl10 hI10=>?_))
  |(refine af hd10 () ?_ ?_)
  |((refine ai ?_ ?_ ?_);rotate_left;(first |exact ug _ |exact mi _))
  |((refine lent_step' [(1000000,3),(1000001,700001),(1000002,700002)] (fF a0 x0.name 3 i0 0 (ik hI0 (by omega))) ?_ ?_ ?_ ?_);rotate_left 0;exact rfl;(exact⟨rfl,rfl,rfl,trivial⟩);exact rfl)
  |((refine lent_step' [(1000000,3),(1000001,700001),(1000002,700002)] (fF a2 x2.name 4 i2 0 (ik hI2 (by omega))) ?_ ?_ ?_ ?_);rotate_left 0;exact rfl;(exact⟨rfl,rfl,rfl,trivial⟩);exact rfl)
  |((refine lent_step' [(1000000,3),(1000001,700001),(1000002,700002)] (fF a4 x4.name 8 i4 0 (ik hI4 (by omega))) ?_ ?_ ?_ ?_);rotate_left 0;exact rfl;(exact⟨rfl,rfl,rfl,trivial⟩);exact rfl)
  |((refine lent_step' [(1000000,3),(1000001,700001),(1000002,700002)] (fF a6 x6.name 9 i6 0 (ik hI6 (by omega))) ?_ ?_ ?_ ?_);rotate_left 0;exact rfl;(exact⟨rfl,rfl,rfl,trivial⟩);exact rfl)
  |((refine lent_step' [(1000000,3),(1000001,700001),(1000002,700002)] (fF a8 x8.name 5 i8 (IntKind.i64.wrap ((i8:Int)+1)) (ik hI8 (by omega))) ?_ ?_ ?_ ?_);rotate_left 0;exact rfl;(exact⟨rfl,rfl,rfl,trivial⟩);exact rfl)
  |((refine fJ ?_);refine fin_step' [] rfl ?_ ?_)
  |(refine aB.l _ ?_)
  |((refine bW ?_ ?_ ?_ ?_ ?_ ?_)<;>exact rfl)
  |((refine dm ?_ ?_ ?_ ?_)<;>exact rfl)
  |((refine aJ ?_ ?_ ?_ ?_ ?_);exact rfl;exact rfl;rotate_left;(first |exact aA hd10 |exact aA hd8 |exact aA hd6 |exact aA hd4 |exact aA hd2 |exact aA hd0))
  |((refine aV ?_ ?_);exact rfl)
  |((refine app_step' ?_ ?_ ?_ ?_ ?_ ?_ ?_);exact rfl;exact rfl;exact rfl;exact rfl)
  |((refine aP ?_ ?_ (λhg=>?_) ?_);exact rfl)
  |((refine bH ?_ ?_);exact rfl;exact rfl)
  |((refine ig ?_ ?_);exact rfl)
  |(refine And.intro ?_ ?_)
  |((refine oD ?_ ?_ ?_);exact rfl;exact rfl;(first |exact rfl |skip))
  |exact @rfl AV _
  |exact @rfl (List AV) _
  |exact eX rfl
  |fail)
 all_goals first
  |omega
  |((simp only[List.all_cons]at hI10;have hk:nmOk x10=true:=(by simp only[nmOk];first |exact h |(simp only[Bool.cond_false_right]at h;exact h));rw[hk]at hI10;exact hI10))
  |(((try(conv=>whnf));exact congrArg (λz:Nat=>AV.data (D.val (Value.int IntKind.i64 (z:Int)))) (by show([[D.str p.name]]++List.map nmC (decl p)).length=_;simp[jM])))
  |(rfl)
  |(((refine Eq.symm ?_);(refine Eq.symm ?_);rw[T2,<-hI0];simp[bounds,kJ];done))
  |(((refine Eq.symm ?_);(refine Eq.symm ?_);rw[T3,<-hI2];simp[bounds,kJ,lines];done))
  |(((refine Eq.symm ?_);(refine Eq.symm ?_);rw[T4,<-hI4];simp[kJ,tables];done))
  |(((refine Eq.symm ?_);(refine Eq.symm ?_);rw[decl,<-hI6];simp[kJ];done))
  |((have hz:=ik hI8 ht5;(try simp only[List.length_map]);omega))
  |((show [[D.str p.name]]++List.map nmC (decl p)=_;simp[jM];done))
  |(((refine Eq.symm ?_);(refine Eq.symm ?_);rw[<-hI6];simp only[kJ,bounds,List.map_cons,List.append_assoc,List.cons_append,List.nil_append];done))
  |(((refine Eq.symm ?_);(refine Eq.symm ?_);rw[<-hI4];simp only[kJ,bounds,List.map_cons,List.append_assoc,List.cons_append,List.nil_append];done))
  |(((refine Eq.symm ?_);(refine Eq.symm ?_);rw[<-hI2];simp only[kJ,bounds,List.map_cons,List.append_assoc,List.cons_append,List.nil_append];done))
  |(((refine Eq.symm ?_);(refine Eq.symm ?_);rw[<-hI0];simp only[kJ,bounds,List.map_cons,List.append_assoc,List.cons_append,List.nil_append];done))
  |(((refine Eq.symm ?_);(refine Eq.symm ?_);rw[<-hI8];simp only[xY,h,Bool.false_eq_true,if_false];done))
  |(((refine Eq.symm ?_);(refine Eq.symm ?_);rw[show IntKind.i64.wrap ((i8:Int)+1)=(i8:Int)+1 from eQ (by omega) (by omega),<-hI8];simp only[xY,h,if_true,List.append_assoc,List.cons_append,List.nil_append];done))
  |skip
theorem Iw(p:Pr)(hp:p.Small)(hN:(p.name::jM (decl p)).all nmOk=true)(hU:¬uniq (decl p)):ax Tryz.prog 57 [.data p.d] [] (.pan (.data (.iface 24 (.i 151)))) []:=by
 refine xQ Tryz.func57 λhf=>?_
 have hq:=Pr.fits (yh.data (hf (.data p.d) (by simp)))
 have hlen1:=hq.params;have hlen2:=hq.states;have hlen3:=hq.lines;have hlen4:=hq.tables;have hlen5:=hq.stmts
 have ht1:=Np hp;have ht2:=Nq hp;have ht3:=Nr hp;have ht4:=Ns hp;have ht5:=EN hp
 have hld:(decl p).length<=9223372036854775807:=by omega
 have hle:(p.name::jM (decl p)).length<=9223372036854775807:=by simp[jM];omega
 clear hf
 repeat' ((try(conv=>whnf))<;>first
  |exact trivial
  |exact ah hd12 ‹_›
  |exact ah hd10 ‹_›
  |exact ah hd8 ‹_›
  |exact ah hd6 ‹_›
  |exact ah hd4 ‹_›
  |exact ah hd2 ‹_›
  |exact ah hd0 ‹_›
  |refine bz hd12 ?_
  |refine bz hd8 ?_
  |refine bz hd6 ?_
  |refine bz hd4 ?_
  |refine bz hd2 ?_
  |refine bz hd0 ?_
  |refine aS hd12 ?_
  |refine aS hd8 ?_
  |refine aS hd6 ?_
  |refine aS hd4 ?_
  |refine aS hd2 ?_
  |refine aS hd0 ?_
  |((refine dC hd10 ?_ ?_);(exact rfl))
  |((refine bT hd10 ?_ ?_);(exact rfl))
  |refine BrI.intro (λh=>?_) (λh=>?_)
  |refine aQ (gz _ _) (λh=>?_) (λh=>?_)
  |(exact xy (by have hk:=AA (s:=x10) (by simpa[lY]using hg);simp;omega))
  |(exact absurd (by have hz:=hI12.1;simp only[List.append_nil]at hz;exact hz ▸ hI12.2) hU)
  |(refine Un (λe hm=>?_) (λhm=>?_))
  |((refine ak.mk 0 ?_);refine⟨aF (p.params) 24 (λ(a0:(List Pe))=>[]) (λ(a0:(List Pe))=>[(1,.cells (p.cs.map .data)),(3,.cells [.gs 700001 1 (a0.map nmC),.gs 700002 3 (a0.map enC)]),(700001,.tok 1 (a0.map nmC).length),(700002,.tok 3 (a0.map enC).length)]) [1,3,22,23] (λi0 r0 a0=>a0++kJ 3 (bounds r0) i0=T1 p),?_⟩;refine ag ([]) ?_ ?_ (λi0 (a0:(List Pe)) hd0 hI0=>?_) (λi0 x0 r0 (a0:(List Pe)) hd0 hl0 hI0=>?_))
  |(refine af hd0 (a0++[(x0.name,En.mk 3 i0 0)]) ?_ ?_)
  |((refine ak.mk 2 ?_);refine⟨aF (p.states) 37 (λ(a2:(List Pe))=>[]) (λ(a2:(List Pe))=>[(1,.cells (p.cs.map .data)),(3,.cells [.gs 700001 1 (a2.map nmC),.gs 700002 3 (a2.map enC)]),(700001,.tok 1 (a2.map nmC).length),(700002,.tok 3 (a2.map enC).length)]) [1,3,35,36] (λi2 r2 a2=>a2++kJ 4 (bounds r2) i2=T2 p),?_⟩;refine ag (a0) ?_ ?_ (λi2 (a2:(List Pe)) hd2 hI2=>?_) (λi2 x2 r2 (a2:(List Pe)) hd2 hl2 hI2=>?_))
  |(refine af hd2 (a2++[(x2.name,En.mk 4 i2 0)]) ?_ ?_)
  |((refine ak.mk 4 ?_);refine⟨aF (p.lines) 50 (λ(a4:(List Pe))=>[]) (λ(a4:(List Pe))=>[(1,.cells (p.cs.map .data)),(3,.cells [.gs 700001 1 (a4.map nmC),.gs 700002 3 (a4.map enC)]),(700001,.tok 1 (a4.map nmC).length),(700002,.tok 3 (a4.map enC).length)]) [1,3,48,49] (λi4 r4 a4=>a4++kJ 8 (r4.map (·.name)) i4=T3 p),?_⟩;refine ag (a2) ?_ ?_ (λi4 (a4:(List Pe)) hd4 hI4=>?_) (λi4 x4 r4 (a4:(List Pe)) hd4 hl4 hI4=>?_))
  |(refine af hd4 (a4++[(x4.name,En.mk 8 i4 0)]) ?_ ?_)
  |((refine ak.mk 6 ?_);refine⟨aF (p.tables) 63 (λ(a6:(List Pe))=>[]) (λ(a6:(List Pe))=>[(1,.cells (p.cs.map .data)),(3,.cells [.gs 700001 1 (a6.map nmC),.gs 700002 3 (a6.map enC)]),(700001,.tok 1 (a6.map nmC).length),(700002,.tok 3 (a6.map enC).length)]) [1,3,61,62] (λi6 r6 a6=>a6++kJ 9 (r6.map (·.name)) i6=T4 p),?_⟩;refine ag (a4) ?_ ?_ (λi6 (a6:(List Pe)) hd6 hI6=>?_) (λi6 x6 r6 (a6:(List Pe)) hd6 hl6 hI6=>?_))
  |(refine af hd6 (a6++[(x6.name,En.mk 9 i6 0)]) ?_ ?_)
  |((refine ak.mk 8 ?_);refine⟨aF (p.stmts) 76 (λ(a8:(List Pe))=>[]) (λ(a8:(List Pe))=>[(1,.cells (p.cs.map .data)),(3,.cells [.gs 700001 1 (a8.map nmC),.gs 700002 3 (a8.map enC)]),(700001,.tok 1 (a8.map nmC).length),(700002,.tok 3 (a8.map enC).length)]) [1,3,74,75] (λi8 r8 a8=>a8++xY r8 i8=decl p),?_⟩;refine ag (a6) ?_ ?_ (λi8 (a8:(List Pe)) hd8 hI8=>?_) (λi8 x8 r8 (a8:(List Pe)) hd8 hl8 hI8=>?_))
  |(refine af hd8 (?_) ?_ ?_)
  |((refine ak.mk 10 ?_);have he8:a8=decl p:=(by simpa[xY]using hI8);subst he8;refine⟨aF (p.name::jM (decl p)) 98 (λ(_:Unit)=>[(96,.gs 93 1 ((p.name::jM (decl p)).map ui)),(97,.data (.val (.int .i64 ((p.name::jM (decl p)).length:Nat))))]) (λ(_:Unit)=>[(1,.cells (p.cs.map .data)),(3,.cells [.gs 700001 1 ((decl p).map nmC),.gs 700002 3 ((decl p).map enC)]),(700001,.tok 1 ((decl p).map nmC).length),(700002,.tok 3 ((decl p).map enC).length)]) [3] (λi10 r10 _=>r10.all nmOk=true),?_⟩;refine ag () ?_ ?_ (λi10 (_:Unit) hd10 hI10=>?_) (λi10 x10 r10 (_:Unit) hd10 hl10 hI10=>?_))
  |(refine af hd10 () ?_ ?_)
  |((refine ak.mk 12 ?_);refine⟨aF (decl p) 117 (λ(d:(List Pe))=>[]) (λ(d:(List Pe))=>[(1,.cells (p.cs.map .data)),(3,.cells [.gs 700001 1 ((decl p).map nmC),.gs 700002 3 ((decl p).map enC)]),(700001,.tok 1 ((decl p).map nmC).length),(700002,.tok 3 ((decl p).map enC).length),(113,.map false [.str] (mkM d))]) [3,16,115,116] (λi12 r12 d=>d++r12=decl p/\uniq d),?_⟩;refine ag ([]) ?_ ?_ (λi12 (d:(List Pe)) hd12 hI12=>?_) (λi12 x12 r12 (d:(List Pe)) hd12 hl12 hI12=>?_))
  |(refine af hd12 (d++[x12]) ?_ ?_)
  |((refine ai ?_ ?_ ?_);rotate_left;(first |exact ug _ |exact mi _))
  |((refine lent_step' [(1000000,3),(1000001,700001),(1000002,700002)] (fF a0 x0.name 3 i0 0 (ik hI0 (by omega))) ?_ ?_ ?_ ?_);rotate_left 0;exact rfl;(exact⟨rfl,rfl,rfl,trivial⟩);exact rfl)
  |((refine lent_step' [(1000000,3),(1000001,700001),(1000002,700002)] (fF a2 x2.name 4 i2 0 (ik hI2 (by omega))) ?_ ?_ ?_ ?_);rotate_left 0;exact rfl;(exact⟨rfl,rfl,rfl,trivial⟩);exact rfl)
  |((refine lent_step' [(1000000,3),(1000001,700001),(1000002,700002)] (fF a4 x4.name 8 i4 0 (ik hI4 (by omega))) ?_ ?_ ?_ ?_);rotate_left 0;exact rfl;(exact⟨rfl,rfl,rfl,trivial⟩);exact rfl)
  |((refine lent_step' [(1000000,3),(1000001,700001),(1000002,700002)] (fF a6 x6.name 9 i6 0 (ik hI6 (by omega))) ?_ ?_ ?_ ?_);rotate_left 0;exact rfl;(exact⟨rfl,rfl,rfl,trivial⟩);exact rfl)
  |((refine lent_step' [(1000000,3),(1000001,700001),(1000002,700002)] (fF a8 x8.name 5 i8 (IntKind.i64.wrap ((i8:Int)+1)) (ik hI8 (by omega))) ?_ ?_ ?_ ?_);rotate_left 0;exact rfl;(exact⟨rfl,rfl,rfl,trivial⟩);exact rfl)
  |((refine fJ ?_);refine fin_step' [] rfl ?_ ?_)
  |(refine aB.l _ ?_)
  |((refine bW ?_ ?_ ?_ ?_ ?_ ?_)<;>exact rfl)
  |((refine dm ?_ ?_ ?_ ?_)<;>exact rfl)
  |((refine aJ ?_ ?_ ?_ ?_ ?_);exact rfl;exact rfl;rotate_left;(first |exact aA hd12 |exact aA hd10 |exact aA hd8 |exact aA hd6 |exact aA hd4 |exact aA hd2 |exact aA hd0))
  |((refine aV ?_ ?_);exact rfl)
  |((refine app_step' ?_ ?_ ?_ ?_ ?_ ?_ ?_);exact rfl;exact rfl;exact rfl;exact rfl)
  |((refine aP ?_ ?_ (λhg=>?_) ?_);exact rfl)
  |((refine bH ?_ ?_);exact rfl;exact rfl)
  |((refine ig ?_ ?_);exact rfl)
  |(refine And.intro ?_ ?_)
  |((refine oD ?_ ?_ ?_);exact rfl;exact rfl;(first |exact rfl |skip))
  |exact @rfl AV _
  |exact @rfl Block _
  |exact @rfl (List AV) _
  |exact eX rfl
  |fail)
 all_goals first
  |omega
  |((exact absurd h (by decide)))
  |((exfalso;simp only[List.all_cons,Bool.and_eq_true]at hI10;have hk:=hI10.1;simp only[nmOk]at hk;(try simp only[Bool.cond_false_right]at h);rw[hk]at h;exact absurd h (by decide)))
  |(((try(conv=>whnf));exact congrArg (Block.map false [KS.str]) (H5 hm)))
  |(((try(conv=>whnf));exact congrArg (λz:Nat=>AV.data (D.val (Value.int IntKind.i64 (z:Int)))) (by show([[D.str p.name]]++List.map nmC (decl p)).length=_;simp[jM])))
  |(rfl)
  |((exact Uo hI12.2 hm))
  |((exact List.nodup_nil))
  |(((refine Eq.symm ?_);(refine Eq.symm ?_);rw[T2,<-hI0];simp[bounds,kJ];done))
  |(((refine Eq.symm ?_);(refine Eq.symm ?_);rw[T3,<-hI2];simp[bounds,kJ,lines];done))
  |(((refine Eq.symm ?_);(refine Eq.symm ?_);rw[T4,<-hI4];simp[kJ,tables];done))
  |(((refine Eq.symm ?_);(refine Eq.symm ?_);rw[decl,<-hI6];simp[kJ];done))
  |((have hz:=ik hI8 ht5;(try simp only[List.length_map]);omega))
  |((show [[D.str p.name]]++List.map nmC (decl p)=_;simp[jM];done))
  |(((refine Eq.symm ?_);(refine Eq.symm ?_);rw[<-hI12.1];simp;done))
  |((simp only[List.all_cons,Bool.and_eq_true]at hI10;exact hI10.2))
  |(((refine Eq.symm ?_);(refine Eq.symm ?_);rw[<-hI6];simp only[kJ,bounds,List.map_cons,List.append_assoc,List.cons_append,List.nil_append];done))
  |(((refine Eq.symm ?_);(refine Eq.symm ?_);rw[<-hI4];simp only[kJ,bounds,List.map_cons,List.append_assoc,List.cons_append,List.nil_append];done))
  |(((refine Eq.symm ?_);(refine Eq.symm ?_);rw[<-hI2];simp only[kJ,bounds,List.map_cons,List.append_assoc,List.cons_append,List.nil_append];done))
  |(((refine Eq.symm ?_);(refine Eq.symm ?_);rw[<-hI0];simp only[kJ,bounds,List.map_cons,List.append_assoc,List.cons_append,List.nil_append];done))
  |(((refine Eq.symm ?_);(refine Eq.symm ?_);rw[<-hI8];simp only[xY,h,Bool.false_eq_true,if_false];done))
  |(((refine Eq.symm ?_);(refine Eq.symm ?_);rw[show IntKind.i64.wrap ((i8:Int)+1)=(i8:Int)+1 from eQ (by omega) (by omega),<-hI8];simp only[xY,h,if_true,List.append_assoc,List.cons_append,List.nil_append];done))
  |skip
theorem Iy(ls:List (List Bd))(hs:lens ls<=1073741824)(hn:ls.length<=1073741824):ax Tryz.prog 101 [.gs 1000001 1 (ls.map z5m)] [(1000001,.tok 1 (ls.map z5m).length)] (.ret (.gs 1000000 3 (ls.flatten.map Bd.cs))) [(1000000,.tok 3 (ls.flatten.map Bd.cs).length),(1000001,.tok 1 (ls.map z5m).length)]:=by
 refine xQ Tryz.func101 λhf=>?_
 have hlen:ls.length<=9223372036854775807:=by omega
 clear hf
 repeat' ((try(conv=>whnf))<;>first
  |with_reducible exact trivial
  |with_reducible exact ah hd2 ‹_›
  |with_reducible exact ah hd0 ‹_›
  |with_reducible refine bz hd2 ?_
  |with_reducible refine bz hd0 ?_
  |with_reducible refine aS hd2 ?_
  |with_reducible refine aS hd0 ?_
  |with_reducible refine BrI.intro (λh=>?_) (λh=>?_)
  |((with_reducible refine ak.mk 0 ?_);refine⟨aF (ls) 11 (λ(n:(Nat))=>[(3,.data (.val (.int .i64 (n:Int))))]) (λ(n:(Nat))=>[(1000001,.tok 1 (ls.map z5m).length)]) [0,9,10] (λi0 r0 n=>lens ls=n+lens r0),?_⟩;with_reducible refine ag (0) ?_ ?_ (λi0 (n:(Nat)) hd0 hI0=>?_) (λi0 x0 r0 (n:(Nat)) hd0 hl0 hI0=>?_))
  |(with_reducible refine af hd0 (n+x0.length) ?_ ?_)
  |((with_reducible refine ak.mk 2 ?_);refine⟨aF (ls) 27 (λ(out:(List Bd))=>[(6,.gs 800000 3 (out.map Bd.cs))]) (λ(out:(List Bd))=>[(1000001,.tok 1 (ls.map z5m).length),(800000,.tok 3 (out.map Bd.cs).length)]) [25,26] (λi2 r2 out=>ls.flatten=out++r2.flatten),?_⟩;with_reducible refine ag [] ?_ ?_ (λi2 (out:(List Bd)) hd2 hI2=>?_) (λi2 x2 r2 (out:(List Bd)) hd2 hl2 hI2=>?_))
  |(with_reducible refine af hd2 ?_ ?_ ?_)
  |((with_reducible refine iq [(1000000,800000)] (Qg n (by rw[Xe]at hI0;omega)) ?_ ?_ ?_ ?_);rotate_left 0;exact rfl;(exact trivial);exact rfl)
  |((with_reducible refine aC ?_);refine fin_step' [(1000000,800000),(1000001,1000001)] rfl ?_ ?_)
  |((with_reducible refine aJ ?_ ?_ ?_ ?_ ?_);exact rfl;exact rfl;rotate_left;(first |with_reducible exact aA hd2 |with_reducible exact aA hd0))
  |((with_reducible refine app_step' ?_ ?_ ?_ ?_ ?_ ?_ ?_);exact rfl;exact rfl;exact rfl;exact rfl)
  |(with_reducible refine And.intro ?_ ?_)
  |((with_reducible refine oD ?_ ?_ ?_);exact rfl;exact rfl;(first |with_reducible exact SE |exact rfl |skip))
  |((with_reducible refine fH ?_ ?_);exact rfl;(first |with_reducible exact SE |skip))
  |((with_reducible refine aO ?_);refine dN ?_ ?_ ?_;exact rfl;exact rfl;(first |skip))
  |exact @rfl AV _
  |exact @rfl Block _
  |fail)
 all_goals(try simp only[csimp]at *)
 all_goals first
  |omega
  |((rw[lens_cons]at hI0;omega))
  |((have hq:=congrArg List.length hI2;simp only[Us,List.length_append,lens_cons,List.length_map]at hq ⊢;omega))
  |((rw[hI2];simp;done))
  |((exfalso;rw[lens_cons]at hI0;rw[yM (b:=x0.length) (by omega),decide_eq_true_eq]at h;omega))
  |((rw[lens_cons]at hI0;(try(conv=>whnf));exact congrArg (λz=>AV.data (D.val (Value.int IntKind.i64 z))) (yM (b:=x0.length) (by omega))))
  |(rfl)
  |skip
theorem yf(p:Pr)(hp:p.Small):aj Tryz.prog 58 [p.d] (kS 24 (Nam.ranged p) 161):=by
 refine dM Tryz.func58 λhf=>?_
 have hq:=Pr.fits (hf p.d (by simp))
 have hs1:=hp.params;have hs2:=hp.states;have hs3:=hp.lines;have hlb:=Xf hp
 have hlen3:=hq.lines;have hlen4:=hq.tables;have hlen5:=hq.stmts
 have hlen2:(allB p).length<=9223372036854775807:=by omega
 clear hf
 repeat' ((try(conv=>whnf))<;>first
  |with_reducible exact trivial
  |with_reducible exact ah hd6 ‹_›
  |with_reducible exact ah hd4 ‹_›
  |with_reducible exact ah hd2 ‹_›
  |with_reducible exact ah hd0 ‹_›
  |with_reducible refine bz hd6 ?_
  |with_reducible refine bz hd4 ?_
  |with_reducible refine bz hd0 ?_
  |with_reducible refine aS hd6 ?_
  |with_reducible refine aS hd4 ?_
  |with_reducible refine aS hd0 ?_
  |((with_reducible refine dC hd2 ?_ ?_);(exact rfl))
  |((with_reducible refine bT hd2 ?_ ?_);(exact rfl))
  |with_reducible refine aQ (gz _ _) (λh=>?_) (λh=>?_)
  |with_reducible refine aQ (Qd _) (λh=>?_) (λh=>?_)
  |((with_reducible refine ak.mk 0 ?_);refine⟨aF (p.lines) 20 (λ(out:(List Bd))=>[(2,.gs 800000 3 (out.map Bd.cs))]) (λ(out:(List Bd))=>[(1,.cells (p.cs.map .data)),(800000,.tok 3 (out.map Bd.cs).length)]) [1,18,19] (λi0 r0 out=>allB p=out++r0.map lnB),?_⟩;with_reducible refine ag ([p.params,p.states].flatten) ?_ ?_ (λi0 (out:(List Bd)) hd0 hI0=>?_) (λi0 x0 r0 (out:(List Bd)) hd0 hl0 hI0=>?_))
  |(with_reducible refine af hd0 (out++[lnB x0]) ?_ ?_)
  |((with_reducible refine ak.mk 2 ?_);have hob:out=allB p:=(by simpa using hI0.symm);subst hob;refine⟨aF (allB p) 35 (λ(_:Unit)=>[(33,.gs 800000 3 ((allB p).map Bd.cs)),(34,.data (.val (.int .i64 ((allB p).length:Nat))))]) (λ(_:Unit)=>[(1,.cells (p.cs.map .data))]) [1] (λi2 r2 _=>Nam.ranged p=(r2.all bd1&&(p.tables.all tb2&&p.stmts.all sm2))),?_⟩;with_reducible refine ag () ?_ ?_ (λi2 (_:Unit) hd2 hI2=>?_) (λi2 x2 r2 (_:Unit) hd2 hl2 hI2=>?_))
  |(with_reducible refine af hd2 () ?_ ?_)
  |((with_reducible refine ak.mk 4 ?_);refine⟨aF (p.tables) 59 (λ(_:Unit)=>[]) (λ(_:Unit)=>[(1,.cells (p.cs.map .data))]) [1,57,58] (λi4 r4 _=>Nam.ranged p=(r4.all tb2&&p.stmts.all sm2)),?_⟩;with_reducible refine ag () ?_ ?_ (λi4 (_:Unit) hd4 hI4=>?_) (λi4 x4 r4 (_:Unit) hd4 hl4 hI4=>?_))
  |(with_reducible refine af hd4 () ?_ ?_)
  |((with_reducible refine ak.mk 6 ?_);refine⟨aF (p.stmts) 72 (λ(_:Unit)=>[]) (λ(_:Unit)=>[(1,.cells (p.cs.map .data))]) [70,71] (λi6 r6 _=>Nam.ranged p=r6.all sm2),?_⟩;with_reducible refine ag () ?_ ?_ (λi6 (_:Unit) hd6 hI6=>?_) (λi6 x6 r6 (_:Unit) hd6 hl6 hI6=>?_))
  |(with_reducible refine af hd6 () ?_ ?_)
  |((with_reducible refine ai ?_ ?_ ?_);rotate_left;(first |exact Bc _ |exact yw _))
  |((with_reducible refine iq [(1000000,800000),(1000001,15)] (Iy [p.params,p.states] (by simp[lens];omega) (by simp)) ?_ ?_ ?_ ?_);rotate_left 0;exact rfl;(exact⟨rfl,trivial⟩);exact rfl)
  |(with_reducible refine aB.l _ ?_)
  |((with_reducible refine aJ ?_ ?_ ?_ ?_ ?_);exact rfl;exact rfl;rotate_left;(first |with_reducible exact aA hd6 |with_reducible exact aA hd4 |with_reducible exact aA hd2 |with_reducible exact aA hd0))
  |((with_reducible refine aV ?_ ?_);exact rfl)
  |((with_reducible refine app_step' ?_ ?_ ?_ ?_ ?_ ?_ ?_);exact rfl;exact rfl;exact rfl;exact rfl)
  |((with_reducible refine aP ?_ ?_ (λhg=>?_) ?_);exact rfl)
  |((with_reducible refine bH ?_ ?_);with_reducible exact rfl;with_reducible exact rfl)
  |((with_reducible refine ig ?_ ?_);with_reducible exact rfl)
  |((with_reducible refine lN ?_ ?_);rotate_left;refine⟨[],rfl,?_,trivial⟩;conv=>whnf)
  |((with_reducible refine lQ ?_ ?_);rotate_left;refine⟨[],rfl,?_,trivial⟩;conv=>whnf)
  |(with_reducible refine And.intro ?_ ?_)
  |((with_reducible refine oD ?_ ?_ ?_);exact rfl;exact rfl;(first |exact rfl |skip))
  |((with_reducible refine fH ?_ ?_);exact rfl;(first |skip))
  |exact @rfl AV _
  |exact @rfl (List AV) _
  |exact eX rfl
  |fail)
 all_goals(try simp only[csimp]at *)
 all_goals first
  |((have hz:=congrArg List.length hI0;(try simp only[List.length_map,List.length_append,List.length_cons]at hz ⊢);omega))
  |(rfl)
  |((refine Eq.trans ?_ dO;rfl))
  |((rw[hI0];simp;done))
  |((rw[hI6];simp only[List.all_cons,List.all_nil,bd1,tb2,sm2,h,Bool.true_and,Bool.false_and,Bool.not_false,Bool.not_true];done))
  |((rw[hI4];simp only[List.all_cons,List.all_nil,bd1,tb2,sm2,h,Bool.true_and,Bool.false_and,Bool.not_false,Bool.not_true];done))
  |((rw[hI2];simp only[List.all_cons,List.all_nil,bd1,tb2,sm2,h,Bool.true_and,Bool.false_and,Bool.not_false,Bool.not_true];done))
  |((rw[hI6];simp only[List.all_cons,List.all_nil,Bool.true_and,Bool.false_and];done))
  |((rw[hI4];simp only[List.all_cons,List.all_nil,Bool.true_and,Bool.false_and];done))
  |((rw[hI2];simp only[List.all_cons,List.all_nil,Bool.true_and,Bool.false_and];done))
  |skip
end Go.Proofs.YtmfehangcmbidaaGreatDoor
