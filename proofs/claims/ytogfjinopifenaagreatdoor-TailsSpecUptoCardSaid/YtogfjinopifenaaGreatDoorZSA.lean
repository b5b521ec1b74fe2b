/- Contracts of the library at this program: strings.Contains, strings.IndexByte, slices.Grow. -/
import Derived.Test.YtogfjinopifenaaGreatDoorZE
import Derived.Test.YtogfjinopifenaaGreatDoorZNX
import Derived.Test.YtogfjinopifenaaGreatDoorZDB
set_option linter.unusedSectionVars false
set_option linter.unusedSimpArgs false
set_option linter.unusedVariables false
set_option maxHeartbeats 4000000
namespace Go.Proofs.YtogfjinopifenaaGreatDoor
open Go.Fw
set_option maxRecDepth 10000
variable [GlobInt]
theorem dV(s sub:List UInt8)(hs:s.length<4294967281):PCall Tryz.prog 88 [.str s,.str sub] (.ret (.b (Lib.contains s sub))):=
 gQ ⟨_,Tryz.func88,by kernel_rfl,by kernel_rfl⟩ ⟨_,rfl⟩ (λa b m w h1 h2=>Tryz.strings_Contains a b m w h1 h2) s sub hs
theorem dD(s:List UInt8)(c:UInt8):PCall Tryz.prog 144 [.str s,.val (.int .u8 c.toNat)] (.ret (.i (Lib.indexByte s c))):=
 fA ⟨_,Tryz.func144,by kernel_rfl,by kernel_rfl⟩ (λa b w=>Tryz.strings_IndexByte a b w) s c
theorem iP(n:Nat)(hn:n<=1073741824):LCall Tryz.prog 136 [.nilsl 3,.data (.val (.int .i64 n))] [] (.ret (.gs 1000000 3 [])) [(1000000,.tok 3 0)]:=
 lM tok Tryz.growB ⟨_,Tryz.func136,by kernel_rfl,by kernel_rfl⟩ (Nat.ne_of_beq_eq_false rfl) (by kernel_rfl) (by decide +kernel) (by kernel_rfl) (by omega) (by kernel_rfl) n (by
  have:(Tryz.T.at (Tryz.growB_ren.t 25)).bytes=32:=by kernel_rfl
  rw[this];omega) (by omega)
end Go.Proofs.YtogfjinopifenaaGreatDoor
namespace Go.Proofs.YtogfjinopifenaaGreatDoor
open Go.Fw Go.Fw.Nam Go.Fw.Ref15
set_option maxRecDepth 10000
variable [GlobInt]
theorem iQ(c:UInt8)  : PCall Tryz.prog 134 [D.u8 c] (.ret (.i (cls c))):=by
 refine ae Tryz.func134 ?_
 repeat' ((try(conv=>whnf))<;>first
  |with_reducible refine BrI.intro (λh=>?_) (λh=>?_)
  |((with_reducible refine call_step ?_ ?_ ?_);rotate_left;(exact dD _ _))
  |((with_reducible refine ret_step ?_);refine⟨[],rfl,?_,trivial⟩;conv=>whnf)
  |fail)
 all_goals(try simp only[csimp]at *)
 all_goals first
  |((refine congrArg (λz=>D.val (Value.int IntKind.i64 z)) ?_;simp only[cls,Ref03.letter,Ref03.figure,if_true,if_false,Bool.false_eq_true,reduceIte, *];first |done |exact(if_pos (by assumption)).symm |exact(if_neg (ne_true_of_eq_false (by assumption))).symm))
  |skip
theorem bD(s:Str)  : PCall Tryz.prog 87 [.str s] (.ret (.b (lname s))):=by
 refine ae Tryz.func87 ?_
 repeat' ((try(conv=>whnf))<;>first
  |with_reducible exact trivial
  |with_reducible exact idx_next hd0 ‹_›
  |((with_reducible refine br_nil_k hd0 ?_ ?_);(exact rfl))
  |((with_reducible refine br_cons_k hd0 ?_ ?_);(exact rfl))
  |with_reducible refine BrI.intro (λh=>?_) (λh=>?_)
  |((with_reducible refine str_getD ?_ ?_ ?_);decide;(simp[wantB]at hg;have:=List.length_pos_iff.2 hg.1;omega))
  |((with_reducible refine LoopAt.mk 0 ?_);have hlen:s.length<=9223372036854775807:=(by simp only[Bool.cond_true_left,Bool.or_eq_false_iff,decide_eq_false_iff_not]at h;omega);refine⟨rangeL (s) 20 (λ(_:Unit)=>[]) (λ(_:Unit)=>[]) [0,19] (λi0 r0 _=>lname s=r0.all clsOk),?_⟩;with_reducible refine rangeL_rule () ?_ ?_ (λi0 (_:Unit) hd0 hI0=>?_) (λi0 x0 r0 (_:Unit) hd0 hl0 hI0=>?_))
  |(with_reducible refine rangeL_next hd0 () ?_ ?_)
  |((with_reducible refine call_step ?_ ?_ ?_);rotate_left;(exact iQ _))
  |with_reducible refine str_idx hd0 ?_
  |((with_reducible refine guard_step ?_ ?_ (λhg=>?_) ?_);exact rfl)
  |((with_reducible refine val_step ?_ ?_);with_reducible exact rfl;with_reducible exact rfl)
  |((with_reducible refine ret_step ?_);refine⟨[],rfl,?_,trivial⟩;conv=>whnf)
  |(with_reducible refine And.intro ?_ ?_)
  |exact @rfl AV _
  |fail)
 all_goals(try simp only[csimp]at *)
 all_goals first
  |(rw[hI0];(try simp only[lname,clsOk,Bool.not_true,Bool.not_false,Bool.and_true,Bool.true_and,Bool.and_false,Bool.false_and,Bool.or_true,Bool.true_or,Bool.or_false,Bool.false_or,if_true,if_false,reduceIte,Bool.false_eq_true,Bool.not_not,Bool.not_eq_true',beq_self_eq_true,List.all_cons,List.all_nil,List.any_cons,List.any_nil,List.length_map,bne,eq_self,Int.toNat_zero, *]);first |done |rfl)
  |(simp only[lname,clsOk,Bool.not_true,Bool.not_false,Bool.and_true,Bool.true_and,Bool.and_false,Bool.false_and,Bool.or_true,Bool.true_or,Bool.or_false,Bool.false_or,if_true,if_false,reduceIte,Bool.false_eq_true,Bool.not_not,Bool.not_eq_true',beq_self_eq_true,List.all_cons,List.all_nil,List.any_cons,List.any_nil,List.length_map,bne,eq_self,Int.toNat_zero, *];done)
  |skip
theorem ai(l:List Pe)(name:Str)(k i f:Int)(hl:l.length<=1073741824):LCall Tryz.prog 86 [.ptr 1000000 0,.data (.str name),.data (.i k),.data (.i i),.data (.i f)] [(1000000,.cells [.gs 1000001 1 (l.map nmC),.gs 1000002 3 (l.map enC)]),(1000001,.tok 1 (l.map nmC).length),(1000002,.tok 3 (l.map enC).length)] (.ret (.data (.tuple []))) [(1000000,.cells [.gs 1000001 1 ((l++[(name,En.mk k i f)]).map nmC),.gs 1000002 3 ((l++[(name,En.mk k i f)]).map enC)]),(1000001,.tok 1 ((l++[(name,En.mk k i f)]).map nmC).length),(1000002,.tok 3 ((l++[(name,En.mk k i f)]).map enC).length)]:=by
 refine aF Tryz.func86 ?_
 repeat' ((try(conv=>whnf))<;>first
  |with_reducible exact trivial
  |((with_reducible refine ret_step ?_);refine fin_step' [] rfl ?_ ?_)
  |(with_reducible refine ChooseI.l _ ?_)
  |((with_reducible refine app_step' ?_ ?_ ?_ ?_ ?_ ?_ ?_);exact rfl;exact rfl;exact rfl;exact rfl)
  |((with_reducible refine chk_stepP ?_ ?_);kernel_rfl)
  |(with_reducible refine And.intro ?_ ?_)
  |((with_reducible refine tok_eq ?_ ?_);exact rfl;(first |skip))
  |((with_reducible refine ren_guard ?_);refine gs_ren ?_ ?_ ?_;exact rfl;exact rfl;(first |skip))
  |exact ble_le rfl
  |fail)
 all_goals(try simp only[csimp]at *)
 all_goals first
  |omega
  |((simp only[List.map_append,List.map_cons,List.map_nil];rfl))
  |skip
theorem aJ(s:Str):PCall Tryz.prog 88 [.str wordsT,.str ([32]++s++[32])] (.ret (.b (Lib.contains wordsT ([32]++s++[32])))):=dV _ _ (by decide)
theorem dK(p:Pr)(hp:p.Small)(hN:(p.name::fsts (decl p)).all nmOk=true)(hU:uniq (decl p)):LCall Tryz.prog 49 [.data p.d] [] (.ret (.map 1000000)) [(1000000,.map false [.str] (mkM (decl p)))]:=by
 refine aP Tryz.func49 λhf=>?_
 have hq:=Pr.fits (AFits.data (hf (.data p.d) (by simp)))
 have hlen1:=hq.params;have hlen2:=hq.states;have hlen3:=hq.lines;have hlen4:=hq.tables;have hlen5:=hq.stmts
 have ht1:=T1_len hp;have ht2:=T2_len hp;have ht3:=T3_len hp;have ht4:=T4_len hp;have ht5:=decl_len hp
 have hld:(decl p).length<=9223372036854775807:=by omega
 have hle:(p.name::fsts (decl p)).length<=9223372036854775807:=by simp[fsts];omega
 clear hf
 repeat' ((try(conv=>whnf))<;>first
  |exact trivial
  |exact idx_next hd12 ‹_›
  |exact idx_next hd10 ‹_›
  |exact idx_next hd8 ‹_›
  |exact idx_next hd6 ‹_›
  |exact idx_next hd4 ‹_›
  |exact idx_next hd2 ‹_›
  |exact idx_next hd0 ‹_›
  |refine br_nil hd12 ?_
  |refine br_nil hd8 ?_
  |refine br_nil hd6 ?_
  |refine br_nil hd4 ?_
  |refine br_nil hd2 ?_
  |refine br_nil hd0 ?_
  |refine br_cons hd12 ?_
  |refine br_cons hd8 ?_
  |refine br_cons hd6 ?_
  |refine br_cons hd4 ?_
  |refine br_cons hd2 ?_
  |refine br_cons hd0 ?_
  |((refine br_nil_k hd10 ?_ ?_);(exact rfl))
  |((refine br_cons_k hd10 ?_ ?_);(exact rfl))
  |refine BrI.intro (λh=>?_) (λh=>?_)
  |refine need_step (aj _ _) (λh=>?_) (λh=>?_)
  |(exact nonneg_len (by have hk:=lname_len (s:=x10) (by simpa[wantB]using hg);simp;omega))
  |(refine opt_none (mget_none (uniq_at hU hI12)) ?_)
  |((refine LoopAt.mk 0 ?_);refine⟨rangeL (p.params) 24 (λ(a0:(List Pe))=>[]) (λ(a0:(List Pe))=>[(1,.cells (p.cs.map .data)),(3,.cells [.gs 700001 1 (a0.map nmC),.gs 700002 3 (a0.map enC)]),(700001,.tok 1 (a0.map nmC).length),(700002,.tok 3 (a0.map enC).length)]) [1,3,22,23] (λi0 r0 a0=>a0++decN 3 (bounds r0) i0=T1 p),?_⟩;refine rangeL_rule ([]) ?_ ?_ (λi0 (a0:(List Pe)) hd0 hI0=>?_) (λi0 x0 r0 (a0:(List Pe)) hd0 hl0 hI0=>?_))
  |(refine rangeL_next hd0 (a0++[(x0.name,En.mk 3 i0 0)]) ?_ ?_)
  |((refine LoopAt.mk 2 ?_);refine⟨rangeL (p.states) 37 (λ(a2:(List Pe))=>[]) (λ(a2:(List Pe))=>[(1,.cells (p.cs.map .data)),(3,.cells [.gs 700001 1 (a2.map nmC),.gs 700002 3 (a2.map enC)]),(700001,.tok 1 (a2.map nmC).length),(700002,.tok 3 (a2.map enC).length)]) [1,3,35,36] (λi2 r2 a2=>a2++decN 4 (bounds r2) i2=T2 p),?_⟩;refine rangeL_rule (a0) ?_ ?_ (λi2 (a2:(List Pe)) hd2 hI2=>?_) (λi2 x2 r2 (a2:(List Pe)) hd2 hl2 hI2=>?_))
  |(refine rangeL_next hd2 (a2++[(x2.name,En.mk 4 i2 0)]) ?_ ?_)
  |((refine LoopAt.mk 4 ?_);refine⟨rangeL (p.lines) 50 (λ(a4:(List Pe))=>[]) (λ(a4:(List Pe))=>[(1,.cells (p.cs.map .data)),(3,.cells [.gs 700001 1 (a4.map nmC),.gs 700002 3 (a4.map enC)]),(700001,.tok 1 (a4.map nmC).length),(700002,.tok 3 (a4.map enC).length)]) [1,3,48,49] (λi4 r4 a4=>a4++decN 8 (r4.map (·.name)) i4=T3 p),?_⟩;refine rangeL_rule (a2) ?_ ?_ (λi4 (a4:(List Pe)) hd4 hI4=>?_) (λi4 x4 r4 (a4:(List Pe)) hd4 hl4 hI4=>?_))
  |(refine rangeL_next hd4 (a4++[(x4.name,En.mk 8 i4 0)]) ?_ ?_)
  |((refine LoopAt.mk 6 ?_);refine⟨rangeL (p.tables) 63 (λ(a6:(List Pe))=>[]) (λ(a6:(List Pe))=>[(1,.cells (p.cs.map .data)),(3,.cells [.gs 700001 1 (a6.map nmC),.gs 700002 3 (a6.map enC)]),(700001,.tok 1 (a6.map nmC).length),(700002,.tok 3 (a6.map enC).length)]) [1,3,61,62] (λi6 r6 a6=>a6++decN 9 (r6.map (·.name)) i6=T4 p),?_⟩;refine rangeL_rule (a4) ?_ ?_ (λi6 (a6:(List Pe)) hd6 hI6=>?_) (λi6 x6 r6 (a6:(List Pe)) hd6 hl6 hI6=>?_))
  |(refine rangeL_next hd6 (a6++[(x6.name,En.mk 9 i6 0)]) ?_ ?_)
  |((refine LoopAt.mk 8 ?_);refine⟨rangeL (p.stmts) 76 (λ(a8:(List Pe))=>[]) (λ(a8:(List Pe))=>[(1,.cells (p.cs.map .data)),(3,.cells [.gs 700001 1 (a8.map nmC),.gs 700002 3 (a8.map enC)]),(700001,.tok 1 (a8.map nmC).length),(700002,.tok 3 (a8.map enC).length)]) [1,3,74,75] (λi8 r8 a8=>a8++decS r8 i8=decl p),?_⟩;refine rangeL_rule (a6) ?_ ?_ (λi8 (a8:(List Pe)) hd8 hI8=>?_) (λi8 x8 r8 (a8:(List Pe)) hd8 hl8 hI8=>?_))
  |(refine rangeL_next hd8 (?_) ?_ ?_)
  |((refine LoopAt.mk 10 ?_);have he8:a8=decl p:=(by simpa[decS]using hI8);subst he8;refine⟨rangeL (p.name::fsts (decl p)) 98 (λ(_:Unit)=>[(96,.gs 93 1 ((p.name::fsts (decl p)).map strC)),(97,.data (.val (.int .i64 ((p.name::fsts (decl p)).length:Nat))))]) (λ(_:Unit)=>[(1,.cells (p.cs.map .data)),(3,.cells [.gs 700001 1 ((decl p).map nmC),.gs 700002 3 ((decl p).map enC)]),(700001,.tok 1 ((decl p).map nmC).length),(700002,.tok 3 ((decl p).map enC).length)]) [3] (λi10 r10 _=>r10.all nmOk=true),?_⟩;refine rangeL_rule () ?_ ?_ (λi10 (_:Unit) hd10 hI10=>?_) (λi10 x10 r10 (_:Unit) hd10 hl10 hI10=>?_))
  |(refine rangeL_next hd10 () ?_ ?_)
  |((refine LoopAt.mk 12 ?_);refine⟨rangeL (decl p) 117 (λ(d:(List Pe))=>[]) (λ(d:(List Pe))=>[(1,.cells (p.cs.map .data)),(3,.cells [.gs 700001 1 ((decl p).map nmC),.gs 700002 3 ((decl p).map enC)]),(700001,.tok 1 ((decl p).map nmC).length),(700002,.tok 3 ((decl p).map enC).length),(113,.map false [.str] (mkM d))]) [3,16,115,116] (λi12 r12 d=>d++r12=decl p),?_⟩;refine rangeL_rule ([]) ?_ ?_ (λi12 (d:(List Pe)) hd12 hI12=>?_) (λi12 x12 r12 (d:(List Pe)) hd12 hl12 hI12=>?_))
  |(refine rangeL_next hd12 (d++[x12]) ?_ ?_)
  |((refine call_step ?_ ?_ ?_);rotate_left;(first |exact bD _ |exact aJ _))
  |((refine lent_step' [(1000000,3),(1000001,700001),(1000002,700002)] (ai a0 x0.name 3 i0 0 (app_le hI0 (by omega))) ?_ ?_ ?_ ?_);rotate_left 0;exact rfl;(exact⟨rfl,rfl,rfl,trivial⟩);exact rfl)
  |((refine lent_step' [(1000000,3),(1000001,700001),(1000002,700002)] (ai a2 x2.name 4 i2 0 (app_le hI2 (by omega))) ?_ ?_ ?_ ?_);rotate_left 0;exact rfl;(exact⟨rfl,rfl,rfl,trivial⟩);exact rfl)
  |((refine lent_step' [(1000000,3),(1000001,700001),(1000002,700002)] (ai a4 x4.name 8 i4 0 (app_le hI4 (by omega))) ?_ ?_ ?_ ?_);rotate_left 0;exact rfl;(exact⟨rfl,rfl,rfl,trivial⟩);exact rfl)
  |((refine lent_step' [(1000000,3),(1000001,700001),(1000002,700002)] (ai a6 x6.name 9 i6 0 (app_le hI6 (by omega))) ?_ ?_ ?_ ?_);rotate_left 0;exact rfl;(exact⟨rfl,rfl,rfl,trivial⟩);exact rfl)
  |((refine lent_step' [(1000000,3),(1000001,700001),(1000002,700002)] (ai a8 x8.name 5 i8 (IntKind.i64.wrap ((i8:Int)+1)) (app_le hI8 (by omega))) ?_ ?_ ?_ ?_);rotate_left 0;exact rfl;(exact⟨rfl,rfl,rfl,trivial⟩);exact rfl)
  |((refine ret_step ?_);refine fin_step' [(1000000,113)] rfl ?_ ?_)
  |(refine ChooseI.l _ ?_)
  |((refine nilgs_step ?_ ?_ ?_ ?_ ?_ ?_)<;>exact rfl)
  |((refine tok0_step ?_ ?_ ?_ ?_)<;>exact rfl)
  |((refine idx_step ?_ ?_ ?_ ?_ ?_);exact rfl;exact rfl;rotate_left;(first |exact idx_drop hd12 |exact idx_drop hd10 |exact idx_drop hd8 |exact idx_drop hd6 |exact idx_drop hd4 |exact idx_drop hd2 |exact idx_drop hd0))
  |((refine len_step ?_ ?_);exact rfl)
  |((refine app_step' ?_ ?_ ?_ ?_ ?_ ?_ ?_);exact rfl;exact rfl;exact rfl;exact rfl)
  |((refine guard_step ?_ ?_ (λhg=>?_) ?_);exact rfl)
  |((refine val_step ?_ ?_);exact rfl;exact rfl)
  |((refine same_step ?_ ?_);exact rfl)
  |(refine And.intro ?_ ?_)
  |((refine gs_eq ?_ ?_ ?_);exact rfl;exact rfl;(first |exact rfl |skip))
  |exact @rfl AV _
  |exact @rfl Block _
  |exact @rfl (List AV) _
  |exact ble_le rfl
  |fail)
 all_goals first
  |omega
  |((exact absurd h (by decide)))
  |((exfalso;simp only[List.all_cons,Bool.and_eq_true]at hI10;have hk:=hI10.1;simp only[nmOk]at hk;(try simp only[Bool.cond_false_right]at h);rw[hk]at h;exact absurd h (by decide)))
  |(((try(conv=>whnf));exact congrArg (Block.map false [KS.str]) (mput_snoc (uniq_at hU hI12))))
  |(((try(conv=>whnf));exact congrArg (λl=>Block.map false [KS.str] (mkM l)) (by simpa using hI12)))
  |(((try(conv=>whnf));exact congrArg (λz:Nat=>AV.data (D.val (Value.int IntKind.i64 (z:Int)))) (by show([[D.str p.name]]++List.map nmC (decl p)).length=_;simp[fsts])))
  |(rfl)
  |(((refine Eq.symm ?_);(refine Eq.symm ?_);rw[T2,<-hI0];simp[bounds,decN];done))
  |(((refine Eq.symm ?_);(refine Eq.symm ?_);rw[T3,<-hI2];simp[bounds,decN,lines];done))
  |(((refine Eq.symm ?_);(refine Eq.symm ?_);rw[T4,<-hI4];simp[decN,tables];done))
  |(((refine Eq.symm ?_);(refine Eq.symm ?_);rw[decl,<-hI6];simp[decN];done))
  |((have hz:=app_le hI8 ht5;(try simp only[List.length_map]);omega))
  |((show [[D.str p.name]]++List.map nmC (decl p)=_;simp[fsts];done))
  |(((refine Eq.symm ?_);(refine Eq.symm ?_);rw[<-hI12];simp;done))
  |((simp only[List.all_cons,Bool.and_eq_true]at hI10;exact hI10.2))
  |(((refine Eq.symm ?_);(refine Eq.symm ?_);rw[<-hI6];simp only[decN,bounds,List.map_cons,List.append_assoc,List.cons_append,List.nil_append];done))
  |(((refine Eq.symm ?_);(refine Eq.symm ?_);rw[<-hI4];simp only[decN,bounds,List.map_cons,List.append_assoc,List.cons_append,List.nil_append];done))
  |(((refine Eq.symm ?_);(refine Eq.symm ?_);rw[<-hI2];simp only[decN,bounds,List.map_cons,List.append_assoc,List.cons_append,List.nil_append];done))
  |(((refine Eq.symm ?_);(refine Eq.symm ?_);rw[<-hI0];simp only[decN,bounds,List.map_cons,List.append_assoc,List.cons_append,List.nil_append];done))
  |(((refine Eq.symm ?_);(refine Eq.symm ?_);rw[<-hI8];simp only[decS,h,Bool.false_eq_true,if_false];done))
  |(((refine Eq.symm ?_);(refine Eq.symm ?_);rw[show IntKind.i64.wrap ((i8:Int)+1)=(i8:Int)+1 from wrap_ok (by omega) (by omega),<-hI8];simp only[decS,h,if_true,List.append_assoc,List.cons_append,List.nil_append];done))
  |skip
theorem fF(p:Pr)(hp:p.Small)(hN:(p.name::fsts (decl p)).all nmOk=false):LCall Tryz.prog 49 [.data p.d] [] (.pan (.data (.iface 30 (.i 150)))) []:=by
 refine aP Tryz.func49 λhf=>?_
 have hq:=Pr.fits (AFits.data (hf (.data p.d) (by simp)))
 have hlen1:=hq.params;have hlen2:=hq.states;have hlen3:=hq.lines;have hlen4:=hq.tables;have hlen5:=hq.stmts
 have ht1:=T1_len hp;have ht2:=T2_len hp;have ht3:=T3_len hp;have ht4:=T4_len hp;have ht5:=decl_len hp
 have hld:(decl p).length<=9223372036854775807:=by omega
 have hle:(p.name::fsts (decl p)).length<=9223372036854775807:=by simp[fsts];omega
 clear hf
 repeat' ((try(conv=>whnf))<;>first
  |exact trivial
  |exact idx_next hd10 ‹_›
  |exact idx_next hd8 ‹_›
  |exact idx_next hd6 ‹_›
  |exact idx_next hd4 ‹_›
  |exact idx_next hd2 ‹_›
  |exact idx_next hd0 ‹_›
  |refine br_nil hd8 ?_
  |refine br_nil hd6 ?_
  |refine br_nil hd4 ?_
  |refine br_nil hd2 ?_
  |refine br_nil hd0 ?_
  |refine br_cons hd8 ?_
  |refine br_cons hd6 ?_
  |refine br_cons hd4 ?_
  |refine br_cons hd2 ?_
  |refine br_cons hd0 ?_
  |((refine br_nil_k hd10 ?_ ?_);(exact rfl))
  |((refine br_cons_k hd10 ?_ ?_);(exact rfl))
  |refine BrI.intro (λh=>?_) (λh=>?_)
  |refine need_step (aj _ _) (λh=>?_) (λh=>?_)
  |(exact nonneg_len (by have hk:=lname_len (s:=x10) (by simpa[wantB]using hg);simp;omega))
  |(exact absurd hI10 (by decide))
  |((refine LoopAt.mk 0 ?_);refine⟨rangeL (p.params) 24 (λ(a0:(List Pe))=>[]) (λ(a0:(List Pe))=>[(1,.cells (p.cs.map .data)),(3,.cells [.gs 700001 1 (a0.map nmC),.gs 700002 3 (a0.map enC)]),(700001,.tok 1 (a0.map nmC).length),(700002,.tok 3 (a0.map enC).length)]) [1,3,22,23] (λi0 r0 a0=>a0++decN 3 (bounds r0) i0=T1 p),?_⟩;refine rangeL_rule ([]) ?_ ?_ (λi0 (a0:(List Pe)) hd0 hI0=>?_) (λi0 x0 r0 (a0:(List Pe)) hd0 hl0 hI0=>?_))
  |(refine rangeL_next hd0 (a0++[(x0.name,En.mk 3 i0 0)]) ?_ ?_)
  |((refine LoopAt.mk 2 ?_);refine⟨rangeL (p.states) 37 (λ(a2:(List Pe))=>[]) (λ(a2:(List Pe))=>[(1,.cells (p.cs.map .data)),(3,.cells [.gs 700001 1 (a2.map nmC),.gs 700002 3 (a2.map enC)]),(700001,.tok 1 (a2.map nmC).length),(700002,.tok 3 (a2.map enC).length)]) [1,3,35,36] (λi2 r2 a2=>a2++decN 4 (bounds r2) i2=T2 p),?_⟩;refine rangeL_rule (a0) ?_ ?_ (λi2 (a2:(List Pe)) hd2 hI2=>?_) (λi2 x2 r2 (a2:(List Pe)) hd2 hl2 hI2=>?_))
  |(refine rangeL_next hd2 (a2++[(x2.name,En.mk 4 i2 0)]) ?_ ?_)
  |((refine LoopAt.mk 4 ?_);refine⟨rangeL (p.lines) 50 (λ(a4:(List Pe))=>[]) (λ(a4:(List Pe))=>[(1,.cells (p.cs.map .data)),(3,.cells [.gs 700001 1 (a4.map nmC),.gs 700002 3 (a4.map enC)]),(700001,.tok 1 (a4.map nmC).length),(700002,.tok 3 (a4.map enC).length)]) [1,3,48,49] (λi4 r4 a4=>a4++decN 8 (r4.map (·.name)) i4=T3 p),?_⟩;refine rangeL_rule (a2) ?_ ?_ (λi4 (a4:(List Pe)) hd4 hI4=>?_) (λi4 x4 r4 (a4:(List Pe)) hd4 hl4 hI4=>?_))
  |(refine rangeL_next hd4 (a4++[(x4.name,En.mk 8 i4 0)]) ?_ ?_)
  |((refine LoopAt.mk 6 ?_);refine⟨rangeL (p.tables) 63 (λ(a6:(List Pe))=>[]) (λ(a6:(List Pe))=>[(1,.cells (p.cs.map .data)),(3,.cells [.gs 700001 1 (a6.map nmC),.gs 700002 3 (a6.map enC)]),(700001,.tok 1 (a6.map nmC).length),(700002,.tok 3 (a6.map enC).length)]) [1,3,61,62] (λi6 r6 a6=>a6++decN 9 (r6.map (·.name)) i6=T4 p),?_⟩;refine rangeL_rule (a4) ?_ ?_ (λi6 (a6:(List Pe)) hd6 hI6=>?_) (λi6 x6 r6 (a6:(List Pe)) hd6 hl6 hI6=>?_))
  |(refine rangeL_next hd6 (a6++[(x6.name,En.mk 9 i6 0)]) ?_ ?_)
  |((refine LoopAt.mk 8 ?_);refine⟨rangeL (p.stmts) 76 (λ(a8:(List Pe))=>[]) (λ(a8:(List Pe))=>[(1,.cells (p.cs.map .data)),(3,.cells [.gs 700001 1 (a8.map nmC),.gs 700002 3 (a8.map enC)]),(700001,.tok 1 (a8.map nmC).length),(700002,.tok 3 (a8.map enC).length)]) [1,3,74,75] (λi8 r8 a8=>a8++decS r8 i8=decl p),?_⟩;refine rangeL_rule (a6) ?_ ?_ (λi8 (a8:(List Pe)) hd8 hI8=>?_) (λi8 x8 r8 (a8:(List Pe)) hd8 hl8 hI8=>?_))
  |(refine rangeL_next hd8 (?_) ?_ ?_)
  |((refine LoopAt.mk 10 ?_);have he8:a8=decl p:=(by simpa[decS]using hI8);subst he8;refine⟨rangeL (p.name::fsts (decl p)) 98 (λ(_:Unit)=>[(96,.gs 93 1 ((p.name::fsts (decl p)).map strC)),(97,.data (.val (.int .i64 ((p.name::fsts (decl p)).length:Nat))))]) (λ(_:Unit)=>[(1,.cells (p.cs.map .data)),(3,.cells [.gs 700001 1 ((decl p).map nmC),.gs 700002 3 ((decl p).map enC)]),(700001,.tok 1 ((decl p).map nmC).length),(700002,.tok 3 ((decl p).map enC).length)]) [3] (λi10 r10 _=>r10.all nmOk=false),?_⟩;refine rangeL_rule () ?_ ?_ (λi10 (_:Unit) hd10 hI10=>?_) (λi10 x10 r10 (_:Unit) hd10 hl10 hI10=>?_))
  |(refine rangeL_next hd10 () ?_ ?_)
  |((refine call_step ?_ ?_ ?_);rotate_left;(first |exact bD _ |exact aJ _))
  |((refine lent_step' [(1000000,3),(1000001,700001),(1000002,700002)] (ai a0 x0.name 3 i0 0 (app_le hI0 (by omega))) ?_ ?_ ?_ ?_);rotate_left 0;exact rfl;(exact⟨rfl,rfl,rfl,trivial⟩);exact rfl)
  |((refine lent_step' [(1000000,3),(1000001,700001),(1000002,700002)] (ai a2 x2.name 4 i2 0 (app_le hI2 (by omega))) ?_ ?_ ?_ ?_);rotate_left 0;exact rfl;(exact⟨rfl,rfl,rfl,trivial⟩);exact rfl)
  |((refine lent_step' [(1000000,3),(1000001,700001),(1000002,700002)] (ai a4 x4.name 8 i4 0 (app_le hI4 (by omega))) ?_ ?_ ?_ ?_);rotate_left 0;exact rfl;(exact⟨rfl,rfl,rfl,trivial⟩);exact rfl)
  |((refine lent_step' [(1000000,3),(1000001,700001),(1000002,700002)] (ai a6 x6.name 9 i6 0 (app_le hI6 (by omega))) ?_ ?_ ?_ ?_);rotate_left 0;exact rfl;(exact⟨rfl,rfl,rfl,trivial⟩);exact rfl)
  |((refine lent_step' [(1000000,3),(1000001,700001),(1000002,700002)] (ai a8 x8.name 5 i8 (IntKind.i64.wrap ((i8:Int)+1)) (app_le hI8 (by omega))) ?_ ?_ ?_ ?_);rotate_left 0;exact rfl;(exact⟨rfl,rfl,rfl,trivial⟩);exact rfl)
  |((refine pan_stepA ?_);refine fin_step' [] rfl ?_ ?_)
  |(refine ChooseI.l _ ?_)
  |((refine nilgs_step ?_ ?_ ?_ ?_ ?_ ?_)<;>exact rfl)
  |((refine tok0_step ?_ ?_ ?_ ?_)<;>exact rfl)
  |((refine idx_step ?_ ?_ ?_ ?_ ?_);exact rfl;exact rfl;rotate_left;(first |exact idx_drop hd10 |exact idx_drop hd8 |exact idx_drop hd6 |exact idx_drop hd4 |exact idx_drop hd2 |exact idx_drop hd0))
  |((refine len_step ?_ ?_);exact rfl)
  |((refine app_step' ?_ ?_ ?_ ?_ ?_ ?_ ?_);exact rfl;exact rfl;exact rfl;exact rfl)
  |((refine guard_step ?_ ?_ (λhg=>?_) ?_);exact rfl)
  |((refine val_step ?_ ?_);exact rfl;exact rfl)
  |((refine same_step ?_ ?_);exact rfl)
  |(refine And.intro ?_ ?_)
  |((refine gs_eq ?_ ?_ ?_);exact rfl;exact rfl;(first |exact rfl |skip))
  |exact @rfl AV _
  |exact @rfl (List AV) _
  |exact ble_le rfl
  |fail)
 all_goals first
  |omega
  |((simp only[List.all_cons]at hI10;have hk:nmOk x10=true:=(by simp only[nmOk];first |exact h |(simp only[Bool.cond_false_right]at h;exact h));rw[hk]at hI10;exact hI10))
  |(((try(conv=>whnf));exact congrArg (λz:Nat=>AV.data (D.val (Value.int IntKind.i64 (z:Int)))) (by show([[D.str p.name]]++List.map nmC (decl p)).length=_;simp[fsts])))
  |(rfl)
  |(((refine Eq.symm ?_);(refine Eq.symm ?_);rw[T2,<-hI0];simp[bounds,decN];done))
  |(((refine Eq.symm ?_);(refine Eq.symm ?_);rw[T3,<-hI2];simp[bounds,decN,lines];done))
  |(((refine Eq.symm ?_);(refine Eq.symm ?_);rw[T4,<-hI4];simp[decN,tables];done))
  |(((refine Eq.symm ?_);(refine Eq.symm ?_);rw[decl,<-hI6];simp[decN];done))
  |((have hz:=app_le hI8 ht5;(try simp only[List.length_map]);omega))
  |((show [[D.str p.name]]++List.map nmC (decl p)=_;simp[fsts];done))
  |(((refine Eq.symm ?_);(refine Eq.symm ?_);rw[<-hI6];simp only[decN,bounds,List.map_cons,List.append_assoc,List.cons_append,List.nil_append];done))
  |(((refine Eq.symm ?_);(refine Eq.symm ?_);rw[<-hI4];simp only[decN,bounds,List.map_cons,List.append_assoc,List.cons_append,List.nil_append];done))
  |(((refine Eq.symm ?_);(refine Eq.symm ?_);rw[<-hI2];simp only[decN,bounds,List.map_cons,List.append_assoc,List.cons_append,List.nil_append];done))
  |(((refine Eq.symm ?_);(refine Eq.symm ?_);rw[<-hI0];simp only[decN,bounds,List.map_cons,List.append_assoc,List.cons_append,List.nil_append];done))
  |(((refine Eq.symm ?_);(refine Eq.symm ?_);rw[<-hI8];simp only[decS,h,Bool.false_eq_true,if_false];done))
  |(((refine Eq.symm ?_);(refine Eq.symm ?_);rw[show IntKind.i64.wrap ((i8:Int)+1)=(i8:Int)+1 from wrap_ok (by omega) (by omega),<-hI8];simp only[decS,h,if_true,List.append_assoc,List.cons_append,List.nil_append];done))
  |skip
theorem fG(p:Pr)(hp:p.Small)(hN:(p.name::fsts (decl p)).all nmOk=true)(hU:¬uniq (decl p)):LCall Tryz.prog 49 [.data p.d] [] (.pan (.data (.iface 30 (.i 151)))) []:=by
 refine aP Tryz.func49 λhf=>?_
 have hq:=Pr.fits (AFits.data (hf (.data p.d) (by simp)))
 have hlen1:=hq.params;have hlen2:=hq.states;have hlen3:=hq.lines;have hlen4:=hq.tables;have hlen5:=hq.stmts
 have ht1:=T1_len hp;have ht2:=T2_len hp;have ht3:=T3_len hp;have ht4:=T4_len hp;have ht5:=decl_len hp
 have hld:(decl p).length<=9223372036854775807:=by omega
 have hle:(p.name::fsts (decl p)).length<=9223372036854775807:=by simp[fsts];omega
 clear hf
 repeat' ((try(conv=>whnf))<;>first
  |exact trivial
  |exact idx_next hd12 ‹_›
  |exact idx_next hd10 ‹_›
  |exact idx_next hd8 ‹_›
  |exact idx_next hd6 ‹_›
  |exact idx_next hd4 ‹_›
  |exact idx_next hd2 ‹_›
  |exact idx_next hd0 ‹_›
  |refine br_nil hd12 ?_
  |refine br_nil hd8 ?_
  |refine br_nil hd6 ?_
  |refine br_nil hd4 ?_
  |refine br_nil hd2 ?_
  |refine br_nil hd0 ?_
  |refine br_cons hd12 ?_
  |refine br_cons hd8 ?_
  |refine br_cons hd6 ?_
  |refine br_cons hd4 ?_
  |refine br_cons hd2 ?_
  |refine br_cons hd0 ?_
  |((refine br_nil_k hd10 ?_ ?_);(exact rfl))
  |((refine br_cons_k hd10 ?_ ?_);(exact rfl))
  |refine BrI.intro (λh=>?_) (λh=>?_)
  |refine need_step (aj _ _) (λh=>?_) (λh=>?_)
  |(exact nonneg_len (by have hk:=lname_len (s:=x10) (by simpa[wantB]using hg);simp;omega))
  |(exact absurd (by have hz:=hI12.1;simp only[List.append_nil]at hz;exact hz ▸ hI12.2) hU)
  |(refine opt_cases (λe hm=>?_) (λhm=>?_))
  |((refine LoopAt.mk 0 ?_);refine⟨rangeL (p.params) 24 (λ(a0:(List Pe))=>[]) (λ(a0:(List Pe))=>[(1,.cells (p.cs.map .data)),(3,.cells [.gs 700001 1 (a0.map nmC),.gs 700002 3 (a0.map enC)]),(700001,.tok 1 (a0.map nmC).length),(700002,.tok 3 (a0.map enC).length)]) [1,3,22,23] (λi0 r0 a0=>a0++decN 3 (bounds r0) i0=T1 p),?_⟩;refine rangeL_rule ([]) ?_ ?_ (λi0 (a0:(List Pe)) hd0 hI0=>?_) (λi0 x0 r0 (a0:(List Pe)) hd0 hl0 hI0=>?_))
  |(refine rangeL_next hd0 (a0++[(x0.name,En.mk 3 i0 0)]) ?_ ?_)
  |((refine LoopAt.mk 2 ?_);refine⟨rangeL (p.states) 37 (λ(a2:(List Pe))=>[]) (λ(a2:(List Pe))=>[(1,.cells (p.cs.map .data)),(3,.cells [.gs 700001 1 (a2.map nmC),.gs 700002 3 (a2.map enC)]),(700001,.tok 1 (a2.map nmC).length),(700002,.tok 3 (a2.map enC).length)]) [1,3,35,36] (λi2 r2 a2=>a2++decN 4 (bounds r2) i2=T2 p),?_⟩;refine rangeL_rule (a0) ?_ ?_ (λi2 (a2:(List Pe)) hd2 hI2=>?_) (λi2 x2 r2 (a2:(List Pe)) hd2 hl2 hI2=>?_))
  |(refine rangeL_next hd2 (a2++[(x2.name,En.mk 4 i2 0)]) ?_ ?_)
  |((refine LoopAt.mk 4 ?_);refine⟨rangeL (p.lines) 50 (λ(a4:(List Pe))=>[]) (λ(a4:(List Pe))=>[(1,.cells (p.cs.map .data)),(3,.cells [.gs 700001 1 (a4.map nmC),.gs 700002 3 (a4.map enC)]),(700001,.tok 1 (a4.map nmC).length),(700002,.tok 3 (a4.map enC).length)]) [1,3,48,49] (λi4 r4 a4=>a4++decN 8 (r4.map (·.name)) i4=T3 p),?_⟩;refine rangeL_rule (a2) ?_ ?_ (λi4 (a4:(List Pe)) hd4 hI4=>?_) (λi4 x4 r4 (a4:(List Pe)) hd4 hl4 hI4=>?_))
  |(refine rangeL_next hd4 (a4++[(x4.name,En.mk 8 i4 0)]) ?_ ?_)
  |((refine LoopAt.mk 6 ?_);refine⟨rangeL (p.tables) 63 (λ(a6:(List Pe))=>[]) (λ(a6:(List Pe))=>[(1,.cells (p.cs.map .data)),(3,.cells [.gs 700001 1 (a6.map nmC),.gs 700002 3 (a6.map enC)]),(700001,.tok 1 (a6.map nmC).length),(700002,.tok 3 (a6.map enC).length)]) [1,3,61,62] (λi6 r6 a6=>a6++decN 9 (r6.map (·.name)) i6=T4 p),?_⟩;refine rangeL_rule (a4) ?_ ?_ (λi6 (a6:(List Pe)) hd6 hI6=>?_) (λi6 x6 r6 (a6:(List Pe)) hd6 hl6 hI6=>?_))
  |(refine rangeL_next hd6 (a6++[(x6.name,En.mk 9 i6 0)]) ?_ ?_)
  |((refine LoopAt.mk 8 ?_);refine⟨rangeL (p.stmts) 76 (λ(a8:(List Pe))=>[]) (λ(a8:(List Pe))=>[(1,.cells (p.cs.map .data)),(3,.cells [.gs 700001 1 (a8.map nmC),.gs 700002 3 (a8.map enC)]),(700001,.tok 1 (a8.map nmC).length),(700002,.tok 3 (a8.map enC).length)]) [1,3,74,75] (λi8 r8 a8=>a8++decS r8 i8=decl p),?_⟩;refine rangeL_rule (a6) ?_ ?_ (λi8 (a8:(List Pe)) hd8 hI8=>?_) (λi8 x8 r8 (a8:(List Pe)) hd8 hl8 hI8=>?_))
  |(refine rangeL_next hd8 (?_) ?_ ?_)
  |((refine LoopAt.mk 10 ?_);have he8:a8=decl p:=(by simpa[decS]using hI8);subst he8;refine⟨rangeL (p.name::fsts (decl p)) 98 (λ(_:Unit)=>[(96,.gs 93 1 ((p.name::fsts (decl p)).map strC)),(97,.data (.val (.int .i64 ((p.name::fsts (decl p)).length:Nat))))]) (λ(_:Unit)=>[(1,.cells (p.cs.map .data)),(3,.cells [.gs 700001 1 ((decl p).map nmC),.gs 700002 3 ((decl p).map enC)]),(700001,.tok 1 ((decl p).map nmC).length),(700002,.tok 3 ((decl p).map enC).length)]) [3] (λi10 r10 _=>r10.all nmOk=true),?_⟩;refine rangeL_rule () ?_ ?_ (λi10 (_:Unit) hd10 hI10=>?_) (λi10 x10 r10 (_:Unit) hd10 hl10 hI10=>?_))
  |(refine rangeL_next hd10 () ?_ ?_)
  |((refine LoopAt.mk 12 ?_);refine⟨rangeL (decl p) 117 (λ(d:(List Pe))=>[]) (λ(d:(List Pe))=>[(1,.cells (p.cs.map .data)),(3,.cells [.gs 700001 1 ((decl p).map nmC),.gs 700002 3 ((decl p).map enC)]),(700001,.tok 1 ((decl p).map nmC).length),(700002,.tok 3 ((decl p).map enC).length),(113,.map false [.str] (mkM d))]) [3,16,115,116] (λi12 r12 d=>d++r12=decl p/\uniq d),?_⟩;refine rangeL_rule ([]) ?_ ?_ (λi12 (d:(List Pe)) hd12 hI12=>?_) (λi12 x12 r12 (d:(List Pe)) hd12 hl12 hI12=>?_))
  |(refine rangeL_next hd12 (d++[x12]) ?_ ?_)
  |((refine call_step ?_ ?_ ?_);rotate_left;(first |exact bD _ |exact aJ _))
  |((refine lent_step' [(1000000,3),(1000001,700001),(1000002,700002)] (ai a0 x0.name 3 i0 0 (app_le hI0 (by omega))) ?_ ?_ ?_ ?_);rotate_left 0;exact rfl;(exact⟨rfl,rfl,rfl,trivial⟩);exact rfl)
  |((refine lent_step' [(1000000,3),(1000001,700001),(1000002,700002)] (ai a2 x2.name 4 i2 0 (app_le hI2 (by omega))) ?_ ?_ ?_ ?_);rotate_left 0;exact rfl;(exact⟨rfl,rfl,rfl,trivial⟩);exact rfl)
  |((refine lent_step' [(1000000,3),(1000001,700001),(1000002,700002)] (ai a4 x4.name 8 i4 0 (app_le hI4 (by omega))) ?_ ?_ ?_ ?_);rotate_left 0;exact rfl;(exact⟨rfl,rfl,rfl,trivial⟩);exact rfl)
  |((refine lent_step' [(1000000,3),(1000001,700001),(1000002,700002)] (ai a6 x6.name 9 i6 0 (app_le hI6 (by omega))) ?_ ?_ ?_ ?_);rotate_left 0;exact rfl;(exact⟨rfl,rfl,rfl,trivial⟩);exact rfl)
  |((refine lent_step' [(1000000,3),(1000001,700001),(1000002,700002)] (ai a8 x8.name 5 i8 (IntKind.i64.wrap ((i8:Int)+1)) (app_le hI8 (by omega))) ?_ ?_ ?_ ?_);rotate_left 0;exact rfl;(exact⟨rfl,rfl,rfl,trivial⟩);exact rfl)
  |((refine pan_stepA ?_);refine fin_step' [] rfl ?_ ?_)
  |(refine ChooseI.l _ ?_)
  |((refine nilgs_step ?_ ?_ ?_ ?_ ?_ ?_)<;>exact rfl)
  |((refine tok0_step ?_ ?_ ?_ ?_)<;>exact rfl)
  |((refine idx_step ?_ ?_ ?_ ?_ ?_);exact rfl;exact rfl;rotate_left;(first |exact idx_drop hd12 |exact idx_drop hd10 |exact idx_drop hd8 |exact idx_drop hd6 |exact idx_drop hd4 |exact idx_drop hd2 |exact idx_drop hd0))
  |((refine len_step ?_ ?_);exact rfl)
  |((refine app_step' ?_ ?_ ?_ ?_ ?_ ?_ ?_);exact rfl;exact rfl;exact rfl;exact rfl)
  |((refine guard_step ?_ ?_ (λhg=>?_) ?_);exact rfl)
  |((refine val_step ?_ ?_);exact rfl;exact rfl)
  |((refine same_step ?_ ?_);exact rfl)
  |(refine And.intro ?_ ?_)
  |((refine gs_eq ?_ ?_ ?_);exact rfl;exact rfl;(first |exact rfl |skip))
  |exact @rfl AV _
  |exact @rfl Block _
  |exact @rfl (List AV) _
  |exact ble_le rfl
  |fail)
 all_goals first
  |omega
  |((exact absurd h (by decide)))
  |((exfalso;simp only[List.all_cons,Bool.and_eq_true]at hI10;have hk:=hI10.1;simp only[nmOk]at hk;(try simp only[Bool.cond_false_right]at h);rw[hk]at h;exact absurd h (by decide)))
  |(((try(conv=>whnf));exact congrArg (Block.map false [KS.str]) (mput_snoc hm)))
  |(((try(conv=>whnf));exact congrArg (λz:Nat=>AV.data (D.val (Value.int IntKind.i64 (z:Int)))) (by show([[D.str p.name]]++List.map nmC (decl p)).length=_;simp[fsts])))
  |(rfl)
  |((exact uniq_snoc hI12.2 hm))
  |((exact List.nodup_nil))
  |(((refine Eq.symm ?_);(refine Eq.symm ?_);rw[T2,<-hI0];simp[bounds,decN];done))
  |(((refine Eq.symm ?_);(refine Eq.symm ?_);rw[T3,<-hI2];simp[bounds,decN,lines];done))
  |(((refine Eq.symm ?_);(refine Eq.symm ?_);rw[T4,<-hI4];simp[decN,tables];done))
  |(((refine Eq.symm ?_);(refine Eq.symm ?_);rw[decl,<-hI6];simp[decN];done))
  |((have hz:=app_le hI8 ht5;(try simp only[List.length_map]);omega))
  |((show [[D.str p.name]]++List.map nmC (decl p)=_;simp[fsts];done))
  |(((refine Eq.symm ?_);(refine Eq.symm ?_);rw[<-hI12.1];simp;done))
  |((simp only[List.all_cons,Bool.and_eq_true]at hI10;exact hI10.2))
  |(((refine Eq.symm ?_);(refine Eq.symm ?_);rw[<-hI6];simp only[decN,bounds,List.map_cons,List.append_assoc,List.cons_append,List.nil_append];done))
  |(((refine Eq.symm ?_);(refine Eq.symm ?_);rw[<-hI4];simp only[decN,bounds,List.map_cons,List.append_assoc,List.cons_append,List.nil_append];done))
  |(((refine Eq.symm ?_);(refine Eq.symm ?_);rw[<-hI2];simp only[decN,bounds,List.map_cons,List.append_assoc,List.cons_append,List.nil_append];done))
  |(((refine Eq.symm ?_);(refine Eq.symm ?_);rw[<-hI0];simp only[decN,bounds,List.map_cons,List.append_assoc,List.cons_append,List.nil_append];done))
  |(((refine Eq.symm ?_);(refine Eq.symm ?_);rw[<-hI8];simp only[decS,h,Bool.false_eq_true,if_false];done))
  |(((refine Eq.symm ?_);(refine Eq.symm ?_);rw[show IntKind.i64.wrap ((i8:Int)+1)=(i8:Int)+1 from wrap_ok (by omega) (by omega),<-hI8];simp only[decS,h,if_true,List.append_assoc,List.cons_append,List.nil_append];done))
  |skip
theorem fH(ls:List (List Bd))(hs:lens ls<=1073741824)(hn:ls.length<=1073741824):LCall Tryz.prog 89 [.gs 1000001 1 (ls.map bdsC)] [(1000001,.tok 1 (ls.map bdsC).length)] (.ret (.gs 1000000 3 (ls.flatten.map Bd.cs))) [(1000000,.tok 3 (ls.flatten.map Bd.cs).length),(1000001,.tok 1 (ls.map bdsC).length)]:=by
 refine aP Tryz.func89 λhf=>?_
 have hlen:ls.length<=9223372036854775807:=by omega
 clear hf
 repeat' ((try(conv=>whnf))<;>first
  |with_reducible exact trivial
  |with_reducible exact idx_next hd2 ‹_›
  |with_reducible exact idx_next hd0 ‹_›
  |with_reducible refine br_nil hd2 ?_
  |with_reducible refine br_nil hd0 ?_
  |with_reducible refine br_cons hd2 ?_
  |with_reducible refine br_cons hd0 ?_
  |with_reducible refine BrI.intro (λh=>?_) (λh=>?_)
  |((with_reducible refine LoopAt.mk 0 ?_);refine⟨rangeL (ls) 11 (λ(n:(Nat))=>[(3,.data (.val (.int .i64 (n:Int))))]) (λ(n:(Nat))=>[(1000001,.tok 1 (ls.map bdsC).length)]) [0,9,10] (λi0 r0 n=>lens ls=n+lens r0),?_⟩;with_reducible refine rangeL_rule (0) ?_ ?_ (λi0 (n:(Nat)) hd0 hI0=>?_) (λi0 x0 r0 (n:(Nat)) hd0 hl0 hI0=>?_))
  |(with_reducible refine rangeL_next hd0 (n+x0.length) ?_ ?_)
  |((with_reducible refine LoopAt.mk 2 ?_);refine⟨rangeL (ls) 27 (λ(out:(List Bd))=>[(6,.gs 800000 3 (out.map Bd.cs))]) (λ(out:(List Bd))=>[(1000001,.tok 1 (ls.map bdsC).length),(800000,.tok 3 (out.map Bd.cs).length)]) [25,26] (λi2 r2 out=>ls.flatten=out++r2.flatten),?_⟩;with_reducible refine rangeL_rule [] ?_ ?_ (λi2 (out:(List Bd)) hd2 hI2=>?_) (λi2 x2 r2 (out:(List Bd)) hd2 hl2 hI2=>?_))
  |(with_reducible refine rangeL_next hd2 ?_ ?_ ?_)
  |((with_reducible refine lent_step [(1000000,800000)] (iP n (by rw[lens_nil]at hI0;omega)) ?_ ?_ ?_ ?_);rotate_left 0;exact rfl;(exact trivial);exact rfl)
  |((with_reducible refine ret_step ?_);refine fin_step' [(1000000,800000),(1000001,1000001)] rfl ?_ ?_)
  |((with_reducible refine idx_step ?_ ?_ ?_ ?_ ?_);exact rfl;exact rfl;rotate_left;(first |with_reducible exact idx_drop hd2 |with_reducible exact idx_drop hd0))
  |((with_reducible refine app_step' ?_ ?_ ?_ ?_ ?_ ?_ ?_);exact rfl;exact rfl;exact rfl;exact rfl)
  |(with_reducible refine And.intro ?_ ?_)
  |((with_reducible refine gs_eq ?_ ?_ ?_);exact rfl;exact rfl;(first |with_reducible exact map_app |exact rfl |skip))
  |((with_reducible refine tok_eq ?_ ?_);exact rfl;(first |with_reducible exact map_app |skip))
  |((with_reducible refine ren_guard ?_);refine gs_ren ?_ ?_ ?_;exact rfl;exact rfl;(first |skip))
  |exact @rfl AV _
  |exact @rfl Block _
  |fail)
 all_goals(try simp only[csimp]at *)
 all_goals first
  |omega
  |((rw[lens_cons]at hI0;omega))
  |((have hq:=congrArg List.length hI2;simp only[lens_flat,List.length_append,lens_cons,List.length_map]at hq ⊢;omega))
  |((rw[hI2];simp;done))
  |((exfalso;rw[lens_cons]at hI0;rw[wrap_nat (b:=x0.length) (by omega),decide_eq_true_eq]at h;omega))
  |((rw[lens_cons]at hI0;(try(conv=>whnf));exact congrArg (λz=>AV.data (D.val (Value.int IntKind.i64 z))) (wrap_nat (b:=x0.length) (by omega))))
  |(rfl)
  |skip
theorem bM(p:Pr)(hp:p.Small):PCall Tryz.prog 50 [p.d] (needOut 30 (Nam.ranged p) 161):=by
 refine af Tryz.func50 λhf=>?_
 have hq:=Pr.fits (hf p.d (by simp))
 have hs1:=hp.params;have hs2:=hp.states;have hs3:=hp.lines;have hlb:=allB_len hp
 have hlen3:=hq.lines;have hlen4:=hq.tables;have hlen5:=hq.stmts
 have hlen2:(allB p).length<=9223372036854775807:=by omega
 clear hf
 repeat' ((try(conv=>whnf))<;>first
  |with_reducible exact trivial
  |with_reducible exact idx_next hd6 ‹_›
  |with_reducible exact idx_next hd4 ‹_›
  |with_reducible exact idx_next hd2 ‹_›
  |with_reducible exact idx_next hd0 ‹_›
  |with_reducible refine br_nil hd6 ?_
  |with_reducible refine br_nil hd4 ?_
  |with_reducible refine br_nil hd0 ?_
  |with_reducible refine br_cons hd6 ?_
  |with_reducible refine br_cons hd4 ?_
  |with_reducible refine br_cons hd0 ?_
  |((with_reducible refine br_nil_k hd2 ?_ ?_);(exact rfl))
  |((with_reducible refine br_cons_k hd2 ?_ ?_);(exact rfl))
  |with_reducible refine need_step (aj _ _) (λh=>?_) (λh=>?_)
  |with_reducible refine need_step (iM _) (λh=>?_) (λh=>?_)
  |((with_reducible refine LoopAt.mk 0 ?_);refine⟨rangeL (p.lines) 20 (λ(out:(List Bd))=>[(2,.gs 800000 3 (out.map Bd.cs))]) (λ(out:(List Bd))=>[(1,.cells (p.cs.map .data)),(800000,.tok 3 (out.map Bd.cs).length)]) [1,18,19] (λi0 r0 out=>allB p=out++r0.map lnB),?_⟩;with_reducible refine rangeL_rule ([p.params,p.states].flatten) ?_ ?_ (λi0 (out:(List Bd)) hd0 hI0=>?_) (λi0 x0 r0 (out:(List Bd)) hd0 hl0 hI0=>?_))
  |(with_reducible refine rangeL_next hd0 (out++[lnB x0]) ?_ ?_)
  |((with_reducible refine LoopAt.mk 2 ?_);have hob:out=allB p:=(by simpa using hI0.symm);subst hob;refine⟨rangeL (allB p) 35 (λ(_:Unit)=>[(33,.gs 800000 3 ((allB p).map Bd.cs)),(34,.data (.val (.int .i64 ((allB p).length:Nat))))]) (λ(_:Unit)=>[(1,.cells (p.cs.map .data))]) [1] (λi2 r2 _=>Nam.ranged p=(r2.all bd1&&(p.tables.all tb2&&p.stmts.all sm2))),?_⟩;with_reducible refine rangeL_rule () ?_ ?_ (λi2 (_:Unit) hd2 hI2=>?_) (λi2 x2 r2 (_:Unit) hd2 hl2 hI2=>?_))
  |(with_reducible refine rangeL_next hd2 () ?_ ?_)
  |((with_reducible refine LoopAt.mk 4 ?_);refine⟨rangeL (p.tables) 59 (λ(_:Unit)=>[]) (λ(_:Unit)=>[(1,.cells (p.cs.map .data))]) [1,57,58] (λi4 r4 _=>Nam.ranged p=(r4.all tb2&&p.stmts.all sm2)),?_⟩;with_reducible refine rangeL_rule () ?_ ?_ (λi4 (_:Unit) hd4 hI4=>?_) (λi4 x4 r4 (_:Unit) hd4 hl4 hI4=>?_))
  |(with_reducible refine rangeL_next hd4 () ?_ ?_)
  |((with_reducible refine LoopAt.mk 6 ?_);refine⟨rangeL (p.stmts) 72 (λ(_:Unit)=>[]) (λ(_:Unit)=>[(1,.cells (p.cs.map .data))]) [70,71] (λi6 r6 _=>Nam.ranged p=r6.all sm2),?_⟩;with_reducible refine rangeL_rule () ?_ ?_ (λi6 (_:Unit) hd6 hI6=>?_) (λi6 x6 r6 (_:Unit) hd6 hl6 hI6=>?_))
  |(with_reducible refine rangeL_next hd6 () ?_ ?_)
  |((with_reducible refine call_step ?_ ?_ ?_);rotate_left;(first |exact bW _ |exact bT _))
  |((with_reducible refine lent_step [(1000000,800000),(1000001,15)] (fH [p.params,p.states] (by simp[lens];omega) (by simp)) ?_ ?_ ?_ ?_);rotate_left 0;exact rfl;(exact⟨rfl,trivial⟩);exact rfl)
  |(with_reducible refine ChooseI.l _ ?_)
  |((with_reducible refine idx_step ?_ ?_ ?_ ?_ ?_);exact rfl;exact rfl;rotate_left;(first |with_reducible exact idx_drop hd6 |with_reducible exact idx_drop hd4 |with_reducible exact idx_drop hd2 |with_reducible exact idx_drop hd0))
  |((with_reducible refine len_step ?_ ?_);exact rfl)
  |((with_reducible refine app_step' ?_ ?_ ?_ ?_ ?_ ?_ ?_);exact rfl;exact rfl;exact rfl;exact rfl)
  |((with_reducible refine guard_step ?_ ?_ (λhg=>?_) ?_);exact rfl)
  |((with_reducible refine val_step ?_ ?_);with_reducible exact rfl;with_reducible exact rfl)
  |((with_reducible refine same_step ?_ ?_);with_reducible exact rfl)
  |((with_reducible refine ret_need ?_ ?_);rotate_left;refine⟨[],rfl,?_,trivial⟩;conv=>whnf)
  |((with_reducible refine pan_need ?_ ?_);rotate_left;refine⟨[],rfl,?_,trivial⟩;conv=>whnf)
  |(with_reducible refine And.intro ?_ ?_)
  |((with_reducible refine gs_eq ?_ ?_ ?_);exact rfl;exact rfl;(first |exact rfl |skip))
  |((with_reducible refine tok_eq ?_ ?_);exact rfl;(first |skip))
  |exact @rfl AV _
  |exact @rfl (List AV) _
  |exact ble_le rfl
  |fail)
 all_goals(try simp only[csimp]at *)
 all_goals first
  |((have hz:=congrArg List.length hI0;(try simp only[List.length_map,List.length_append,List.length_cons]at hz ⊢);omega))
  |(rfl)
  |((refine Eq.trans ?_ map_snoc;rfl))
  |((rw[hI0];simp;done))
  |((rw[hI6];simp only[List.all_cons,List.all_nil,bd1,tb2,sm2,h,Bool.true_and,Bool.false_and,Bool.not_false,Bool.not_true];done))
  |((rw[hI4];simp only[List.all_cons,List.all_nil,bd1,tb2,sm2,h,Bool.true_and,Bool.false_and,Bool.not_false,Bool.not_true];done))
  |((rw[hI2];simp only[List.all_cons,List.all_nil,bd1,tb2,sm2,h,Bool.true_and,Bool.false_and,Bool.not_false,Bool.not_true];done))
  |((rw[hI6];simp only[List.all_cons,List.all_nil,Bool.true_and,Bool.false_and];done))
  |((rw[hI4];simp only[List.all_cons,List.all_nil,Bool.true_and,Bool.false_and];done))
  |((rw[hI2];simp only[List.all_cons,List.all_nil,Bool.true_and,Bool.false_and];done))
  |skip
theorem ax(c0 c1 c2 c3 c4 c5 c6 c7 e0:AV)(e:Int):DCall Tryz.prog 46 [.ptr 1000000 0,.ptr 1000001 0] (some (.iface 30 (.i e))) [(1000000,.cells [c0,c1,c2,c3,c4,c5,c6,c7]),(1000001,.cells [e0])]
  [(1000000,.cells [.data (.str []),.data (.i 0),.data (.i 0),.nilsl 3,.nilsl 3,.nilsl 4,.nilsl 2,.nilsl 8]),(1000001,.cells [.data (.i e)])]:=by
 refine dcall_of_vc tok hmix Tryz.func46 rfl (by kernel_rfl) (by kernel_rfl) (by kernel_rfl) ?_
 repeat' ((try(conv=>whnf))<;>first
  |exact trivial
  |(refine⟨([]:List (Nat×Nat)),?_⟩)
  |(refine⟨by kernel_rfl,?_⟩)
  |(refine⟨rfl,?_⟩)
  |(refine⟨?_,?_⟩)
  |fail)
theorem bg(c0 c1 c2 c3 c4 c5 c6 c7 e0:AV)(e:Int)(n:Nat):DCall Tryz.prog 46 [.ptr 1000000 0,.ptr 1000001 0] (some (.iface 30 (.i e))) [(1000000,.cells [c0,c1,c2,c3,c4,c5,c6,c7]),(1000001,.cells [e0]),(1000002,.tok 8 n)]
  [(1000000,.cells [.data (.str []),.data (.i 0),.data (.i 0),.nilsl 3,.nilsl 3,.nilsl 4,.nilsl 2,.nilsl 8]),(1000001,.cells [.data (.i e)]),(1000002,.tok 8 n)]:=by
 refine dcall_of_vc tok hmix Tryz.func46 rfl (by kernel_rfl) (by kernel_rfl) (by kernel_rfl) ?_
 repeat' ((try(conv=>whnf))<;>first
  |exact trivial
  |(refine⟨([]:List (Nat×Nat)),?_⟩)
  |(refine⟨by kernel_rfl,?_⟩)
  |(refine⟨rfl,?_⟩)
  |(refine⟨?_,?_⟩)
  |fail)
theorem gU(d0 d1 d2 d3 d4 d5 d6 d7 d8:D):DCall Tryz.prog 46 [.ptr 1000000 0,.ptr 1000001 0] none [(1000000,.cells [.data d0,.data d1,.data d2,.data d3,.data d4,.data d5,.data d6,.data d7]),(1000001,.cells [.data d8])]
  [(1000000,.cells [.data d0,.data d1,.data d2,.data d3,.data d4,.data d5,.data d6,.data d7]),(1000001,.cells [.data d8])]:=by
 refine dcall_of_vc tok hmix Tryz.func46 rfl (by kernel_rfl) (by kernel_rfl) (by kernel_rfl) ?_
 repeat' ((try(conv=>whnf))<;>first
  |exact trivial
  |(refine⟨([]:List (Nat×Nat)),?_⟩)
  |(refine⟨by kernel_rfl,?_⟩)
  |(refine⟨rfl,?_⟩)
  |(refine⟨?_,?_⟩)
  |fail)
theorem fJ(p:Pr)(hF:Nam.formed p=false):PCall Tryz.prog 30 [p.d] (.ret (.tuple [Pr.none.d,.i 1])):=by
 refine ae Tryz.func30 ?_
 repeat' ((try(conv=>whnf))<;>first
  |refine need_step (ak _) (λh=>?_) (λh=>?_)
  |(exact Bool.noConfusion (hF.symm.trans h))
  |((refine dfrP_rt ?_);(refine⟨_,_,_,[(1000000,2),(1000001,3)],ax (.data (.str [])) (.data (.i 0)) (.data (.i 0)) (.nilsl 3) (.nilsl 3) (.nilsl 4) (.nilsl 2) (.nilsl 8) (.data (.i 0)) 1,rfl,⟨rfl,rfl,trivial⟩,?_,?_⟩);kernel_rfl)
  |(refine⟨([]:List (Nat×Nat)),rfl,?_,trivial⟩)
  |fail)
 all_goals first
  |(rfl)
  |skip
theorem fK(p:Pr)(hF:Nam.formed p=true)(hL:Nam.limited p=false)(hn:∀s∈p.stmts,Ref15.nodes s.x<=1073741824):PCall Tryz.prog 30 [p.d] (.ret (.tuple [Pr.none.d,.i 2])):=by
 refine ae Tryz.func30 ?_
 repeat' ((try(conv=>whnf))<;>first
  |refine need_step (ak _) (λh=>?_) (λh=>?_)
  |refine need_step (au _ (by assumption)) (λh=>?_) (λh=>?_)
  |(exact Bool.noConfusion (hF.symm.trans h))
  |(exact Bool.noConfusion (hL.symm.trans h))
  |((refine dfrP_rt ?_);(refine⟨_,_,_,[(1000000,2),(1000001,3)],ax (.data (.str [])) (.data (.i 0)) (.data (.i 0)) (.nilsl 3) (.nilsl 3) (.nilsl 4) (.nilsl 2) (.nilsl 8) (.data (.i 0)) 2,rfl,⟨rfl,rfl,trivial⟩,?_,?_⟩);kernel_rfl)
  |(refine⟨([]:List (Nat×Nat)),rfl,?_,trivial⟩)
  |fail)
 all_goals first
  |(rfl)
  |skip
theorem fM(p:Pr)(hF:Nam.formed p=true)(hL:Nam.limited p=true)(hn:∀s∈p.stmts,Ref15.nodes s.x<=1073741824)(hp:p.Small)(hN:(p.name::fsts (decl p)).all Nam.nmOk=false):PCall Tryz.prog 30 [p.d] (.ret (.tuple [Pr.none.d,.i 150])):=by
 refine ae Tryz.func30 ?_
 repeat' ((try(conv=>whnf))<;>first
  |refine need_step (ak _) (λh=>?_) (λh=>?_)
  |refine need_step (au _ (by assumption)) (λh=>?_) (λh=>?_)
  |(exact Bool.noConfusion (hF.symm.trans h))
  |(exact Bool.noConfusion (hL.symm.trans h))
  |((refine dfrP_rt ?_);(refine⟨_,_,_,[(1000000,2),(1000001,3)],ax (.data (.str [])) (.data (.i 0)) (.data (.i 0)) (.nilsl 3) (.nilsl 3) (.nilsl 4) (.nilsl 2) (.nilsl 8) (.data (.i 0)) 150,rfl,⟨rfl,rfl,trivial⟩,?_,?_⟩);kernel_rfl)
  |(refine⟨([]:List (Nat×Nat)),rfl,?_,trivial⟩)
  |((refine lent_step [] (fF p hp hN) ?_ ?_ ?_ ?_);rotate_left 0;exact rfl;(exact trivial);exact rfl)
  |fail)
 all_goals first
  |(rfl)
  |skip
theorem fO(p:Pr)(hF:Nam.formed p=true)(hL:Nam.limited p=true)(hn:∀s∈p.stmts,Ref15.nodes s.x<=1073741824)(hp:p.Small)(hN:(p.name::fsts (decl p)).all Nam.nmOk=true)(hU:¬uniq (decl p)):PCall Tryz.prog 30 [p.d] (.ret (.tuple [Pr.none.d,.i 151])):=by
 refine ae Tryz.func30 ?_
 repeat' ((try(conv=>whnf))<;>first
  |refine need_step (ak _) (λh=>?_) (λh=>?_)
  |refine need_step (au _ (by assumption)) (λh=>?_) (λh=>?_)
  |(exact Bool.noConfusion (hF.symm.trans h))
  |(exact Bool.noConfusion (hL.symm.trans h))
  |((refine dfrP_rt ?_);(refine⟨_,_,_,[(1000000,2),(1000001,3)],ax (.data (.str [])) (.data (.i 0)) (.data (.i 0)) (.nilsl 3) (.nilsl 3) (.nilsl 4) (.nilsl 2) (.nilsl 8) (.data (.i 0)) 151,rfl,⟨rfl,rfl,trivial⟩,?_,?_⟩);kernel_rfl)
  |(refine⟨([]:List (Nat×Nat)),rfl,?_,trivial⟩)
  |((refine lent_step [] (fG p hp hN hU) ?_ ?_ ?_ ?_);rotate_left 0;exact rfl;(exact trivial);exact rfl)
  |fail)
 all_goals first
  |(rfl)
  |skip
theorem fP(p:Pr)(hF:Nam.formed p=true)(hL:Nam.limited p=true)(hn:∀s∈p.stmts,Ref15.nodes s.x<=1073741824)(hp:p.Small)(hN:(p.name::fsts (decl p)).all Nam.nmOk=true)(hU:uniq (decl p))(hR:Nam.ranged p=false):PCall Tryz.prog 30 [p.d] (.ret (.tuple [Pr.none.d,.i 161])):=by
 refine ae Tryz.func30 ?_
 repeat' ((try(conv=>whnf))<;>first
  |refine need_step (ak _) (λh=>?_) (λh=>?_)
  |refine need_step (au _ (by assumption)) (λh=>?_) (λh=>?_)
  |refine need_step (bM _ (by assumption)) (λh=>?_) (λh=>?_)
  |(exact Bool.noConfusion (hF.symm.trans h))
  |(exact Bool.noConfusion (hL.symm.trans h))
  |(exact Bool.noConfusion (hR.symm.trans h))
  |((refine dfrP_rt ?_);(refine⟨_,_,_,[(1000000,2),(1000001,3)],ax (.data (.str [])) (.data (.i 0)) (.data (.i 0)) (.nilsl 3) (.nilsl 3) (.nilsl 4) (.nilsl 2) (.nilsl 8) (.data (.i 0)) 161,rfl,⟨rfl,rfl,trivial⟩,?_,?_⟩);kernel_rfl)
  |(refine⟨([]:List (Nat×Nat)),rfl,?_,trivial⟩)
  |((refine lent_step [(1000000,800000)] (dK p hp hN hU) ?_ ?_ ?_ ?_);rotate_left 0;exact rfl;(exact trivial);exact rfl)
  |fail)
 all_goals first
  |(rfl)
  |skip
theorem iG(x:Ex)(l:List Pe)(i:Int)(hx:nodes x<=1073741824)(hv:visB l i x=true):LCall Tryz.prog 51 [.data x.d,.ptr 1000000 0,.ptr 1000001 0,.ptr 1000002 0] [(1000000,.cells [.map 1000003]),(1000001,.cells [.data (.i i)]),(1000002,.cells [.fn 51 [.ptr 1000000 0,.ptr 1000001 0,.ptr 1000002 0]]),(1000003,.map false [.str] (mkM l))] (.ret (.data (vis l x).d)) [(1000000,.cells [.map 1000003]),(1000001,.cells [.data (.i i)]),(1000002,.cells [.fn 51 [.ptr 1000000 0,.ptr 1000001 0,.ptr 1000002 0]]),(1000003,.map false [.str] (mkM l))]:=by
 revert x;refine Ex.ind λx ih hx hv=>?_
 refine aP Tryz.func51 λhf=>?_
 have hlen:=Ex.fits (AFits.data (hf (.data x.d) (by simp)))
 have hN:=nodes_eq x
 have hL:=len_nodes x.l
 clear hf
 repeat' ((try(conv=>whnf))<;>first
  |with_reducible exact trivial
  |with_reducible exact idx_next hd0 ‹_›
  |with_reducible refine br_nil_e hd0 ?_
  |with_reducible refine br_cons_e hd0 ?_
  |with_reducible refine BrI.intro (λh=>?_) (λh=>?_)
  |with_reducible refine need_step (aj _ _) (λh=>?_) (λh=>?_)
  |(exact Bool.noConfusion (h:false=true))
  |(refine opt_lk (λe he=>?_) (λhe=>?_))
  |((with_reducible refine LoopAt.mk 0 ?_);refine⟨rangeL (x.l) 89 (λ(out:(List Ex))=>[]) (λ(out:(List Ex))=>[(1000000,.cells [.map 1000003]),(1000001,.cells [.data (.i i)]),(1000002,.cells [.fn 51 [.ptr 1000000 0,.ptr 1000001 0,.ptr 1000002 0]]),(1000003,.map false [.str] (mkM l)),(5,.cells [.data (.i 0),.data (.str []),.data (.i 0),.data (.i 0),.nilsl 5]),(6,.cells [.data (.i (vkind l x.kind x.name)),.data (.str x.name),.data (.i (vidx l x.kind x.name)),.data (.i x.n),.gs 900006 5 (out.map Ex.cs)]),(900006,.tok 5 (out.map Ex.cs).length)]) [3,5,6,87,88] (λi0 r0 out=>visBL l i r0=true/\visL l x.l=out++visL l r0/\nodesL r0<=1073741824/\out.length=i0),?_⟩;with_reducible refine rangeL_rule ([]) ?_ ?_ (λi0 (out:(List Ex)) hd0 hI0=>?_) (λi0 x0 r0 (out:(List Ex)) hd0 hl0 hI0=>?_))
  |(with_reducible refine rangeL_next hd0 (out++[vis l x0]) ?_ ?_)
  |((with_reducible refine call_step ?_ ?_ ?_);rotate_left;(exact bC _))
  |((with_reducible refine lent_step' [(1000000,1000000),(1000001,1000001),(1000002,1000002),(1000003,1000003)] (ih x0 (drop_mem hd0) (by have:=hI0.2.2.1;simp only[nodesL]at this;omega) (by have:=hI0.1;simp only[visBL,Bool.and_eq_true]at this;exact this.1)) ?_ ?_ ?_ ?_);rotate_left 0;exact rfl;(exact⟨rfl,rfl,rfl,rfl,trivial⟩);exact rfl)
  |((with_reducible refine ret_step ?_);refine fin_step' [(1000000,1000000),(1000001,1000001),(1000002,1000002),(1000003,1000003)] rfl ?_ ?_)
  |(with_reducible refine ChooseI.l _ ?_)
  |((with_reducible refine nilgs_step ?_ ?_ ?_ ?_ ?_ ?_)<;>exact rfl)
  |((with_reducible refine tok0_step ?_ ?_ ?_ ?_)<;>exact rfl)
  |((with_reducible refine idx_step ?_ ?_ ?_ ?_ ?_);exact rfl;exact rfl;rotate_left;(with_reducible exact idx_drop_e hd0))
  |((with_reducible refine len_step ?_ ?_);exact rfl)
  |((with_reducible refine app_step' ?_ ?_ ?_ ?_ ?_ ?_ ?_);exact rfl;exact rfl;exact rfl;exact rfl)
  |((with_reducible refine same_step ?_ ?_);with_reducible exact rfl)
  |((with_reducible refine chk_stepP ?_ ?_);kernel_rfl)
  |(with_reducible refine And.intro ?_ ?_)
  |((with_reducible refine gs_eq ?_ ?_ ?_);exact rfl;exact rfl;(first |exact map_snoc |skip))
  |((with_reducible refine tok_eq ?_ ?_);exact rfl;(first |exact map_snoc |skip))
  |exact @rfl AV _
  |exact ble_le rfl
  |fail)
 all_goals(try simp only[csimp]at *)
 all_goals first
  |omega
  |((exfalso;have hv2:=hv;rw[visB_eq,Bool.and_eq_true]at hv2;have hk:=hv2.1;clear hv2 hv ih hN hL hlen hx;simp_all[vok,eok,arr];done))
  |((refine congrArg (λz=>AV.data (D.i z)) ?_;simp only[vkind,vidx,he,if_true, *];done))
  |((refine congrArg (λz=>AV.data (D.i z)) ?_;simp only[vkind,vidx,h,Bool.false_eq_true,if_false,reduceIte];done))
  |(((try(conv=>whnf));rw[vis_eq,hI0.2.1];simp only[visL,List.append_nil,Ex.css_map];rfl))
  |((have hv2:=hv;rw[visB_eq,Bool.and_eq_true]at hv2;exact hv2.2))
  |((simp only[nodesL]at hI0;omega))
  |((simp only[visBL,Bool.and_eq_true]at hI0;exact hI0.1.2))
  |(((with_reducible refine Eq.symm ?_);(with_reducible refine Eq.symm ?_);rw[hI0.2.1];simp only[visL,List.append_assoc,List.cons_append,List.nil_append];done))
  |((simp only[List.length_append,List.length_cons,List.length_nil];omega))
  |(rfl)
  |skip
theorem jJ(x:Ex)(l:List Pe)(i:Int)(hx:nodes x<=1073741824)(hv:visB l i x=false):LCall Tryz.prog 51 [.data x.d,.ptr 1000000 0,.ptr 1000001 0,.ptr 1000002 0] [(1000000,.cells [.map 1000003]),(1000001,.cells [.data (.i i)]),(1000002,.cells [.fn 51 [.ptr 1000000 0,.ptr 1000001 0,.ptr 1000002 0]]),(1000003,.map false [.str] (mkM l))] (.pan (.data (.iface 30 (.i 150)))) [(1000000,.cells [.map 1000003]),(1000001,.cells [.data (.i i)]),(1000002,.cells [.fn 51 [.ptr 1000000 0,.ptr 1000001 0,.ptr 1000002 0]]),(1000003,.map false [.str] (mkM l))]:=by
 revert x;refine Ex.ind λx ih hx hv=>?_
 refine aP Tryz.func51 λhf=>?_
 have hlen:=Ex.fits (AFits.data (hf (.data x.d) (by simp)))
 have hN:=nodes_eq x
 have hL:=len_nodes x.l
 clear hf
 repeat' ((try(conv=>whnf))<;>first
  |with_reducible exact trivial
  |with_reducible exact idx_next hd0 ‹_›
  |with_reducible refine br_nil_e hd0 ?_
  |with_reducible refine br_cons_e hd0 ?_
  |with_reducible refine BrI.intro (λh=>?_) (λh=>?_)
  |with_reducible refine need_step (aj _ _) (λh=>?_) (λh=>?_)
  |((refine rest_step _ _ _ [true,true,true,true] ?_ ?_);kernel_rfl)
  |((with_reducible refine quiet_step ?_ ?_);kernel_rfl)
  |(exact Bool.noConfusion (h:false=true))
  |(exact Bool.noConfusion (visBL_nil.symm.trans hI0.1))
  |(obtain⟨hq1,hq2,hq3⟩:=hI0;rcases visL_cases hq1 with⟨hb1,hb2⟩ |hb1<;>clear hq1)
  |(refine opt_lk (λe he=>?_) (λhe=>?_))
  |((with_reducible refine LoopAt.mk 0 ?_);refine⟨rangeL (x.l) 89 (λ(out:(List Ex))=>[]) (λ(out:(List Ex))=>[(1000000,.cells [.map 1000003]),(1000001,.cells [.data (.i i)]),(1000002,.cells [.fn 51 [.ptr 1000000 0,.ptr 1000001 0,.ptr 1000002 0]]),(1000003,.map false [.str] (mkM l)),(5,.cells [.data (.i 0),.data (.str []),.data (.i 0),.data (.i 0),.nilsl 5]),(6,.cells [.data (.i (vkind l x.kind x.name)),.data (.str x.name),.data (.i (vidx l x.kind x.name)),.data (.i x.n),.gs 900006 5 (out.map Ex.cs)]),(900006,.tok 5 (out.map Ex.cs).length)]) [3,5,6,87,88] (λi0 r0 out=>visBL l i r0=false/\nodesL r0<=1073741824/\out.length=i0),?_⟩;with_reducible refine rangeL_rule ([]) ?_ ?_ (λi0 (out:(List Ex)) hd0 hI0=>?_) (λi0 x0 r0 (out:(List Ex)) hd0 hl0 hI0=>?_))
  |(with_reducible refine rangeL_next hd0 (out++[vis l x0]) ?_ ?_)
  |((with_reducible refine call_step ?_ ?_ ?_);rotate_left;(exact bC _))
  |((with_reducible refine lent_step' [(1000000,1000000),(1000001,1000001),(1000002,1000002),(1000003,1000003)] (iG x0 l i (by simp only[nodesL]at hq2;omega) hb1) ?_ ?_ ?_ ?_);rotate_left 0;exact rfl;(exact⟨rfl,rfl,rfl,rfl,trivial⟩);exact rfl)
  |((with_reducible refine lent_step' [(1000000,1000000),(1000001,1000001),(1000002,1000002),(1000003,1000003)] (ih x0 (drop_mem hd0) (by simp only[nodesL]at hq2;omega) hb1) ?_ ?_ ?_ ?_);rotate_left 0;exact rfl;(exact⟨rfl,rfl,rfl,rfl,trivial⟩);exact rfl)
  |((with_reducible refine pan_stepA ?_);refine fin_step' [(1000000,1000000),(1000001,1000001),(1000002,1000002),(1000003,1000003)] rfl ?_ ?_)
  |(with_reducible refine ChooseI.l _ ?_)
  |((with_reducible refine nilgs_step ?_ ?_ ?_ ?_ ?_ ?_)<;>exact rfl)
  |((with_reducible refine tok0_step ?_ ?_ ?_ ?_)<;>exact rfl)
  |((with_reducible refine idx_step ?_ ?_ ?_ ?_ ?_);exact rfl;exact rfl;rotate_left;(with_reducible exact idx_drop_e hd0))
  |((with_reducible refine len_step ?_ ?_);exact rfl)
  |((with_reducible refine app_step' ?_ ?_ ?_ ?_ ?_ ?_ ?_);exact rfl;exact rfl;exact rfl;exact rfl)
  |((with_reducible refine same_step ?_ ?_);with_reducible exact rfl)
  |((with_reducible refine chk_stepP ?_ ?_);kernel_rfl)
  |((with_reducible refine chk_stepQ ?_ ?_);kernel_rfl)
  |(with_reducible refine And.intro ?_ ?_)
  |((with_reducible refine gs_eq ?_ ?_ ?_);exact rfl;exact rfl;(first |exact map_snoc |skip))
  |((with_reducible refine tok_eq ?_ ?_);exact rfl;(first |exact map_snoc |skip))
  |exact @rfl AV _
  |exact @rfl Block _
  |exact ble_le rfl
  |fail)
 all_goals(try simp only[csimp]at *)
 all_goals first
  |omega
  |((refine congrArg (λz=>AV.data (D.i z)) ?_;simp only[vkind,vidx,he,if_true, *];done))
  |((refine congrArg (λz=>AV.data (D.i z)) ?_;simp only[vkind,vidx,h,Bool.false_eq_true,if_false,reduceIte];done))
  |((simp only[nodesL]at hq2;omega))
  |((simp only[List.length_append,List.length_cons,List.length_nil];omega))
  |(rfl)
  |(((with_reducible refine Eq.symm ?_);(with_reducible refine Eq.symm ?_);have hv2:=hv;rw[visB_eq]at hv2;clear hv ih hN hL hlen hx;simp_all[vok,eok,arr];done))
  |skip
theorem gV(p:Pr)(hF:Nam.formed p=true)(hL:Nam.limited p=true)(hn:∀s∈p.stmts,Ref15.nodes s.x<=1073741824)(hp:p.Small)(hN:(p.name::fsts (decl p)).all Nam.nmOk=true)(hU:uniq (decl p))(hR:Nam.ranged p=true):PCall Tryz.prog 30 [p.d] (.ret (.tuple [(Ref15.fin p [] (runS (decl p) p.stmts 0 [] false)).1.d,.i (Ref15.fin p [] (runS (decl p) p.stmts 0 [] false)).2])):=by
 refine af Tryz.func30 λhf=>?_
 have hlen:=(Pr.fits (hf p.d (by simp))).stmts
 have hps:=hp.stmts
 clear hf
 repeat' ((try(conv=>whnf))<;>first
  |exact trivial
  |exact idx_next hd0 ‹_›
  |refine br_nil hd0 ?_
  |refine br_cons hd0 ?_
  |refine BrI.intro (λh=>?_) (λh=>?_)
  |refine need_step (ak _) (λh=>?_) (λh=>?_)
  |refine need_step (au _ (by assumption)) (λh=>?_) (λh=>?_)
  |refine need_step (bM _ (by assumption)) (λh=>?_) (λh=>?_)
  |refine need_step (aj _ _) (λh=>?_) (λh=>?_)
  |(exact Bool.noConfusion (h:false=true))
  |(exact Bool.noConfusion (hF.symm.trans h))
  |(exact Bool.noConfusion (hL.symm.trans h))
  |(exact Bool.noConfusion (hR.symm.trans h))
  |((refine rest_step _ _ _ [true,false,true] ?_ ?_);kernel_rfl)
  |((refine quiet_step ?_ ?_);kernel_rfl)
  |((refine guard_step ?_ (.data (.b (doneB dn e.kind e.index))) (λhg=>?_) ?_);exact rfl)
  |((refine opt_kinds ?_ ?_);assumption)
  |(refine opt_done (λhd=>?_) (λhd=>?_))
  |(refine opt_lk (λe he=>?_) (λhe=>?_))
  |((refine dfrP_rt ?_);(refine⟨_,_,_,[(1000000,2),(1000001,3),(1000002,700003)],bg (.data (.str p.name)) (.data (.i p.latency)) (.data (.i p.tail)) (.data (.sl 3 (p.params.map Bd.cs))) (.data (.sl 3 (p.states.map Bd.cs))) (.data (.sl 4 (p.lines.map Ln.cs))) (.data (.sl 2 (p.tables.map Tb.cs))) (.gs 1000002 8 (ts.map Sm.cs)) (.data (.i 0)) 150 (ts.map Sm.cs).length,rfl,⟨rfl,rfl,rfl,trivial⟩,?_,?_⟩);kernel_rfl)
  |((refine dfrP_rt ?_);(refine⟨_,_,_,[(1000000,2),(1000001,3),(1000002,700003)],bg (.data (.str p.name)) (.data (.i p.latency)) (.data (.i p.tail)) (.data (.sl 3 (p.params.map Bd.cs))) (.data (.sl 3 (p.states.map Bd.cs))) (.data (.sl 4 (p.lines.map Ln.cs))) (.data (.sl 2 (p.tables.map Tb.cs))) (.gs 1000002 8 (ts.map Sm.cs)) (.data (.i 0)) 151 (ts.map Sm.cs).length,rfl,⟨rfl,rfl,rfl,trivial⟩,?_,?_⟩);kernel_rfl)
  |((refine⟨_,_,_,[(1000000,2),(1000001,3)],gU (.str p.name) (.i p.latency) (.i p.tail) (.sl 3 (p.params.map Bd.cs)) (.sl 3 (p.states.map Bd.cs)) (.sl 4 (p.lines.map Ln.cs)) (.sl 2 (p.tables.map Tb.cs)) (.sl 8 (ts.map Sm.cs)) (.i 0),rfl,⟨rfl,rfl,trivial⟩,?_,?_⟩);kernel_rfl)
  |(refine⟨([]:List (Nat×Nat)),rfl,?_,trivial⟩)
  |((refine vis_split (decl p) hd0 hI0 (λhvb hq1 hq2=>?_) (λhvb hq1 hq2=>?_))<;>clear hI0)
  |((refine LoopAt.mk 0 ?_);refine⟨rangeL (p.stmts) 29 (λ(q:(Bool)×(List Sm)×(List (Int×Int)))=>match q with |(out,ts,dn)=>[(6,.data (.val (.bool out)))]) (λ(q:(Bool)×(List Sm)×(List (Int×Int)))=>match q with |(out,ts,dn)=>[(2,.cells [.data (.str p.name),.data (.i p.latency),.data (.i p.tail),.data (.sl 3 (p.params.map Bd.cs)),.data (.sl 3 (p.states.map Bd.cs)),.data (.sl 4 (p.lines.map Ln.cs)),.data (.sl 2 (p.tables.map Tb.cs)),.gs 700003 8 (ts.map Sm.cs)]),(700003,.tok 8 (ts.map Sm.cs).length),(3,.cells [.data (.i 0)]),(4,.cells [.map 800000]),(800000,.map false [.str] (mkM (decl p))),(25,.map true [.int .i64,.int .i64] (dn.map dnC))]) [2,3,4,5,27,28,999999] (λi0 r0 q=>match q with |(out,ts,dn)=>Ref15.fin p [] (runS (decl p) p.stmts 0 [] false)=Ref15.fin p ts (runS (decl p) r0 i0 dn out)/\ts.length=i0),?_⟩;refine rangeL_rule (?_,([]),([])) ?_ ?_ (λi0 ⟨out,ts,dn⟩ hd0 hI0=>?_) (λi0 x0 r0 ⟨out,ts,dn⟩ hd0 hl0 hI0=>?_))
  |(refine rangeL_next hd0 (?_,(ts++[outS (decl p) x0]),(doneS (decl p) x0 dn)) ?_ ?_)
  |((refine lent_step [(1000000,800000)] (dK p hp hN hU) ?_ ?_ ?_ ?_);rotate_left 0;exact rfl;(exact trivial);exact rfl)
  |((refine lent_step' [(1000000,4),(1000001,7),(1000002,9),(1000003,800000)] (iG x0.x (decl p) i0 (hn _ (drop_mem hd0)) hvb) ?_ ?_ ?_ ?_);rotate_left 0;exact rfl;(exact⟨rfl,rfl,rfl,rfl,trivial⟩);exact rfl)
  |((refine lent_step' [(1000000,4),(1000001,7),(1000002,9),(1000003,800000)] (jJ x0.x (decl p) i0 (hn _ (drop_mem hd0)) hvb) ?_ ?_ ?_ ?_);rotate_left 0;exact rfl;(exact⟨rfl,rfl,rfl,rfl,trivial⟩);exact rfl)
  |(refine ChooseI.l _ ?_)
  |((refine nilgs_step ?_ ?_ ?_ ?_ ?_ ?_)<;>exact rfl)
  |((refine tok0_step ?_ ?_ ?_ ?_)<;>exact rfl)
  |((refine idx_step ?_ ?_ ?_ ?_ ?_);exact rfl;exact rfl;rotate_left;(exact idx_drop hd0))
  |((refine len_step ?_ ?_);exact rfl)
  |((refine app_step' ?_ ?_ ?_ ?_ ?_ ?_ ?_);exact rfl;exact rfl;exact rfl;exact rfl)
  |((refine same_step ?_ ?_);exact rfl)
  |((refine chk_stepP ?_ ?_);kernel_rfl)
  |((refine chk_stepQ ?_ ?_);kernel_rfl)
  |(refine And.intro ?_ ?_)
  |((refine gs_eq ?_ ?_ ?_);exact rfl;exact rfl;(first |skip))
  |((refine tok_eq ?_ ?_);exact rfl;(first |skip))
  |exact @rfl AV _
  |exact @rfl Block _
  |exact ble_le rfl
  |fail)
 all_goals first
  |(rfl)
  |((rw[hd];rfl))
  |((refine absurd_out (o:=out) (b:=!doneB dn e.kind e.index) ?_ h;assumption))
  |((refine gs_no ?_;assumption))
  |((refine gs_sp ?_ (target_eq he ?_)<;>assumption))
  |((refine hq1.trans (fin_go (stop_ok hvb ?_ (target_eq he ?_) ?_))<;>assumption))
  |((refine hq1.trans (fin_go (stop_ok' hvb ?_ ?_))<;>assumption))
  |((simp only[List.length_append,List.length_cons,List.length_nil];omega))
  |((rw[List.length_map];have:=drop_lt hd0;omega))
  |(((conv=>whnf);first |(refine map_no ?_;assumption) |(refine map_sp (o:=out) ?_ (target_eq he ?_) ?_<;>assumption) |(refine tup_eq (x:={ p with stmts:=ts }) (hI0.1.trans (fin_end ?_));assumption) |(refine tup_eq (x:=Pr.none) (hI0.1.trans (fin_bad ?_));assumption) |(refine tup_eq (x:=Pr.none) (hq1.trans (fin_err (stop_vis hvb) ?_));decide) |(refine tup_eq (x:=Pr.none) (hq1.trans (fin_err (stop_none hvb ?_ he) ?_))<;>first |assumption |decide) |(refine tup_eq (x:=Pr.none) (hq1.trans (fin_err (stop_kind hvb ?_ he ?_) ?_))<;>first |assumption |decide) |(refine tup_eq (x:=Pr.none) (hq1.trans (fin_err (stop_done hvb ?_ (target_eq he ?_) ?_) ?_))<;>first |assumption |decide) |(refine tup_eq (x:=Pr.none) (hq1.trans (fin_err (stop_out hvb ?_ ?_) ?_))<;>first |assumption |decide)))
  |skip
theorem ay(p:Pr)(hp:p.Small)(hn:∀s∈p.stmts,Ref15.nodes s.x<=1073741824):PCall Tryz.prog 30 [p.d] (.ret (.tuple [(resolveC p).1.d,.i (resolveC p).2])):=by
 unfold resolveC
 cases hF:Nam.formed p with
 |false=>exact fJ p hF
 |true=>
  cases hL:Nam.limited p with
  |false=>exact fK p hF hL hn
  |true=>
   cases hN:(p.name::fsts (decl p)).all Nam.nmOk with
   |false=>exact fM p hF hL hn hp hN
   |true=>
    cases hU:uniqB (fsts (decl p))with
    |false=>exact fO p hF hL hn hp hN (λh=>by rw[uniqB_iff.2 h]at hU;simp at hU)
    |true=>
     cases hR:Nam.ranged p with
     |false=>exact fP p hF hL hn hp hN (uniqB_iff.1 hU) hR
     |true=>exact gV p hF hL hn hp hN (uniqB_iff.1 hU) hR
end Go.Proofs.YtogfjinopifenaaGreatDoor
