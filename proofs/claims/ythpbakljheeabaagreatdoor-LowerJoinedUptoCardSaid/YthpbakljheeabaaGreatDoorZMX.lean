/- Contracts: what is checked of a code, by the program. -/
import Derived.Test.YthpbakljheeabaaGreatDoorZMA
import Derived.Test.YthpbakljheeabaaGreatDoorZE
import Derived.Test.YthpbakljheeabaaGreatDoorZK6
set_option linter.unusedSectionVars false
set_option linter.unusedSimpArgs false
set_option linter.unusedVariables false
set_option maxHeartbeats 4000000
namespace Go.Proofs.YthpbakljheeabaaGreatDoor
open Go.Fw Go.Fw.Mac
set_option maxRecDepth 10000
variable [af]
theorem Ju(n:Nat)(hn:n<=1073741824):LCall Tryz.prog 65 [.nilsl 3,.data (.val (.int .i64 n))] [] (.ret (.gs 1000000 3 [])) [(1000000,.tok 3 0)]:=
 Tz tok Tryz.growB ⟨_,Tryz.func65,by kernel_rfl,by kernel_rfl⟩ (by decide) (by kernel_rfl) (by decide +kernel) (by kernel_rfl) (by omega) (by kernel_rfl) n (by
  have:(Tryz.T.at (Tryz.growB_ren.t 25)).bytes=32:=by kernel_rfl
  rw[this];omega) (by omega)
theorem Gx(ls:List (List Bd))(hs:lens ls<=1073741824)(hn:ls.length<=1073741824):LCall Tryz.prog 43 [.gs 1000001 1 (ls.map Ri)] [(1000001,.tok 1 (ls.map Ri).length)] (.ret (.gs 1000000 3 (ls.flatten.map Bd.cs))) [(1000000,.tok 3 (ls.flatten.map Bd.cs).length),(1000001,.tok 1 (ls.map Ri).length)]:=by
 refine ay tok hmix ⟨[],[]⟩ Tryz.func43 rfl (by kernel_rfl) (by kernel_rfl) (by kernel_rfl) λhf=>?_
 have hlen:ls.length<=9223372036854775807:=by omega
 clear hf
 repeat' ((try(conv=>whnf))<;>first
  |with_reducible exact trivial
  |with_reducible exact au hd2 ‹_›
  |with_reducible exact au hd0 ‹_›
  |with_reducible refine bu hd2 ?_
  |with_reducible refine bu hd0 ?_
  |with_reducible refine aN hd2 ?_
  |with_reducible refine aN hd0 ?_
  |with_reducible refine BrI.intro (λh=>?_) (λh=>?_)
  |((with_reducible refine aB.mk 0 ?_);refine⟨aJ (ls) 11 (λ(n:(Nat))=>[(3,.data (.val (.int .i64 (n:Int))))]) (λ(n:(Nat))=>[(1000001,.tok 1 (ls.map Ri).length)]) [0,9,10] (λi0 r0 n=>lens ls=n+lens r0),?_⟩;with_reducible refine ah (0) ?_ ?_ (λi0 (n:(Nat)) hd0 hI0=>?_) (λi0 x0 r0 (n:(Nat)) hd0 hl0 hI0=>?_))
  |(with_reducible refine ai hd0 (n+x0.length) ?_ ?_)
  |((with_reducible refine aB.mk 2 ?_);refine⟨aJ (ls) 27 (λ(out:(List Bd))=>[(6,.gs 800000 3 (out.map Bd.cs))]) (λ(out:(List Bd))=>[(1000001,.tok 1 (ls.map Ri).length),(800000,.tok 3 (out.map Bd.cs).length)]) [25,26] (λi2 r2 out=>ls.flatten=out++r2.flatten),?_⟩;with_reducible refine ah [] ?_ ?_ (λi2 (out:(List Bd)) hd2 hI2=>?_) (λi2 x2 r2 (out:(List Bd)) hd2 hl2 hI2=>?_))
  |(with_reducible refine ai hd2 ?_ ?_ ?_)
  |((with_reducible refine fP [(1000000,800000)] (Ju n (by rw[Dz]at hI0;omega)) ?_ ?_ ?_ ?_);rotate_left 0;exact rfl;(exact trivial);exact rfl)
  |((with_reducible refine aj ?_);refine fin_step' [(1000000,800000),(1000001,1000001)] rfl ?_ ?_)
  |((with_reducible refine aH ?_ ?_ ?_ ?_ ?_);exact rfl;exact rfl;rotate_left;(first |with_reducible exact aF hd2 |with_reducible exact aF hd0))
  |((with_reducible refine app_step' ?_ ?_ ?_ ?_ ?_ ?_ ?_);exact rfl;exact rfl;exact rfl;exact rfl)
  |(with_reducible refine And.intro ?_ ?_)
  |((with_reducible refine rq ?_ ?_ ?_);exact rfl;exact rfl;(first |with_reducible exact Dw |exact rfl |skip))
  |((with_reducible refine jf ?_ ?_);exact rfl;(first |with_reducible exact Dw |skip))
  |((with_reducible refine bD ?_);refine fQ ?_ ?_ ?_;exact rfl;exact rfl;(first |skip))
  |exact @rfl AV _
  |exact @rfl Block _
  |fail)
 all_goals(try simp only[Bool.cond_true_left,Bool.cond_false_right,Bool.cond_false_left,Bool.cond_true_right,Bool.not_eq_true',Bool.not_eq_false',bne,Ex.css_len,List.length_map,Int.toNat_zero]at *)
 all_goals first
  |omega
  |((rw[lens_cons]at hI0;omega))
  |((have hq:=congrArg List.length hI2;simp only[zt,List.length_append,lens_cons,List.length_map]at hq ⊢;omega))
  |((rw[hI2];simp;done))
  |((exfalso;rw[lens_cons]at hI0;rw[tJ (b:=x0.length) (by omega),decide_eq_true_eq]at h;omega))
  |((rw[lens_cons]at hI0;(try(conv=>whnf));exact congrArg (λz=>AV.data (D.val (Value.int IntKind.i64 z))) (tJ (b:=x0.length) (by omega))))
  |(rfl)
  |skip
theorem zI(lo hi:Int)  : PCall Tryz.prog 42 [.i lo,.i hi] (.ret (.b (zH lo hi))):=by
 refine ae tok hmix ⟨[],[]⟩ Tryz.func42 rfl (by kernel_rfl) (by kernel_rfl) (by kernel_rfl) λhf=>?_
 clear hf
 repeat' ((try(conv=>whnf))<;>first
  |((refine aj ?_);refine⟨[],rfl,?_,trivial⟩;conv=>whnf)
  |fail)
 all_goals first
  |(rfl)
  |skip
theorem Jv(n:Int)  : LCall Tryz.prog 45 [.data (.i n),.ptr 1000000 0] [(1000000,.cells [.fn 42 []])] (.ret (.data (.b (zH n n)))) [(1000000,.cells [.fn 42 []])]:=by
 refine ay tok hmix ⟨[],[]⟩ Tryz.func45 rfl (by kernel_rfl) (by kernel_rfl) (by kernel_rfl) λhf=>?_
 clear hf
 repeat' ((try(conv=>whnf))<;>first
  |exact trivial
  |((refine ax ?_ ?_ ?_);rotate_left;(exact zI n n))
  |((refine aj ?_);refine fin_step' [] rfl ?_ ?_)
  |(refine And.intro ?_ ?_)
  |exact @rfl AV _
  |fail)
 all_goals first
  |skip
theorem Jw(l:List Int)(hl:l.length<=1073741824):LCall Tryz.prog 66 [.data (ints l),.fn 45 [.ptr 1000000 0]] [(1000000,.cells [.fn 42 []])] (.ret (.data (.i (wL l 0)))) [(1000000,.cells [.fn 42 []])]:=by
 refine ay tok hmix ⟨[],[]⟩ Tryz.func66 rfl (by kernel_rfl) (by kernel_rfl) (by kernel_rfl) λhf=>?_
 have hlen:l.length<=9223372036854775807:=by omega
 clear hf
 repeat' ((try(conv=>whnf))<;>first
  |exact trivial
  |exact au hd0 ‹_›
  |refine bu hd0 ?_
  |refine aN hd0 ?_
  |refine BrI.intro (λh=>?_) (λh=>?_)
  |((refine aB.mk 0 ?_);refine⟨aJ (l) 8 (λ(_:Unit)=>[]) (λ(_:Unit)=>[(1000000,.cells [.fn 42 []])]) [0,1,7] (λi0 r0 _=>wL l 0=wL r0 i0),?_⟩;refine ah () ?_ ?_ (λi0 (_:Unit) hd0 hI0=>?_) (λi0 x0 r0 (_:Unit) hd0 hl0 hI0=>?_))
  |(refine ai hd0 () ?_ ?_)
  |((refine lent_step' [(1000000,1000000)] (Jv x0) ?_ ?_ ?_ ?_);rotate_left 0;exact rfl;(exact⟨rfl,trivial⟩);exact rfl)
  |((refine aj ?_);refine fin_step' [] rfl ?_ ?_)
  |((refine aH ?_ ?_ ?_ ?_ ?_);exact rfl;exact rfl;rotate_left;(exact aF hd0))
  |(refine And.intro ?_ ?_)
  |exact @rfl AV _
  |fail)
 all_goals first
  |(rw[hI0];(try simp only[wL,Bool.not_true,Bool.not_false,Bool.and_true,Bool.true_and,Bool.and_false,Bool.false_and,Bool.or_true,Bool.true_or,Bool.or_false,Bool.false_or,if_true,if_false,reduceIte,Bool.false_eq_true,Bool.not_not,Bool.not_eq_true',beq_self_eq_true,List.all_cons,List.all_nil,List.any_cons,List.any_nil,List.length_map,bne,eq_self,Int.toNat_zero, *]);first |done |rfl)
  |((simp_all[wL];done))
  |skip
theorem Ak(l:List Int)(hl:l.length<=1073741824):LCall Tryz.prog 44 [.data (ints l),.fn 45 [.ptr 1000000 0]] [(1000000,.cells [.fn 42 []])] (.ret (.data (.b (decide (wL l 0>=0))))) [(1000000,.cells [.fn 42 []])]:=by
 refine ay tok hmix ⟨[],[]⟩ Tryz.func44 rfl (by kernel_rfl) (by kernel_rfl) (by kernel_rfl) λhf=>?_
 clear hf
 repeat' ((try(conv=>whnf))<;>first
  |exact trivial
  |((refine lent_step' [(1000000,1000000)] (Jw _ hl) ?_ ?_ ?_ ?_);rotate_left 0;exact rfl;(exact⟨rfl,trivial⟩);exact rfl)
  |((refine aj ?_);refine fin_step' [] rfl ?_ ?_)
  |(refine And.intro ?_ ?_)
  |exact @rfl AV _
  |fail)
 all_goals first
  |skip
theorem um(l:List Int)  : PCall Tryz.prog 46 [ints l] (.ret (.tuple [.i (mostF l 0 0 0).1,.i (mostF l 0 0 0).2])):=by
 refine ae tok hmix ⟨[],[]⟩ Tryz.func46 rfl (by kernel_rfl) (by kernel_rfl) (by kernel_rfl) λhf=>?_
 have hlen:l.length<=9223372036854775807:=by simpa using(hf (ints l) (by simp)).sl.1
 clear hf
 repeat' ((try(conv=>whnf))<;>first
  |exact trivial
  |exact au hd0 ‹_›
  |refine bu hd0 ?_
  |refine aN hd0 ?_
  |refine BrI.intro (λh=>?_) (λh=>?_)
  |((refine aB.mk 0 ?_);refine⟨aJ (l) 8 (λ(q:(Int)×(Int))=>match q with |(n,k)=>[(2,.data (.val (.int .i64 n))),(3,.data (.val (.int .i64 k)))]) (λ(q:(Int)×(Int))=>match q with |(n,k)=>[]) [6,7] (λi0 r0 q=>match q with |(n,k)=>mostF l 0 0 0=mostF r0 i0 n k),?_⟩;refine ah ((0),(0)) ?_ ?_ (λi0 ⟨n,k⟩ hd0 hI0=>?_) (λi0 x0 r0 ⟨n,k⟩ hd0 hl0 hI0=>?_))
  |(refine ai hd0 (?_,?_) ?_ ?_)
  |((refine aH ?_ ?_ ?_ ?_ ?_);exact rfl;exact rfl;rotate_left;(exact aF hd0))
  |((refine aj ?_);refine⟨[],rfl,?_,trivial⟩;conv=>whnf)
  |(refine And.intro ?_ ?_)
  |exact @rfl AV _
  |fail)
 all_goals first
  |(rw[hI0];(try simp only[mostF,Bool.not_true,Bool.not_false,Bool.and_true,Bool.true_and,Bool.and_false,Bool.false_and,Bool.or_true,Bool.true_or,Bool.or_false,Bool.false_or,if_true,if_false,reduceIte,Bool.false_eq_true,Bool.not_not,Bool.not_eq_true',beq_self_eq_true,List.all_cons,List.all_nil,List.any_cons,List.any_nil,List.length_map,bne,eq_self,Int.toNat_zero, *]);first |done |rfl)
  |((simp_all[mostF];done))
  |skip
theorem Jy(c:Cd)(op:Int)  : PCall Tryz.prog 20 [c.d,.i op] (.ret (zaf (effP c op))):=by
 refine ae tok hmix ⟨[],[]⟩ Tryz.func20 rfl (by kernel_rfl) (by kernel_rfl) (by kernel_rfl) λhf=>?_
 clear hf
 repeat' ((try(conv=>whnf))<;>first
  |refine BrI.tt ?_
  |refine BrI.intro (λh=>?_) (λh=>?_)
  |((refine az ?_ ?_);kernel_rfl)
  |((refine aj ?_);refine⟨[],rfl,?_,trivial⟩;conv=>whnf)
  |fail)
 all_goals first
  |((simp only[effP, *,cond_true,cond_false];done))
  |((simp only[effP, *,cond_true,cond_false,List.length_map];done))
  |skip
theorem qH(c:Cd)(g:c.Sm):PCall Tryz.prog 19 [c.d] (.ret (.b (decP c))):=by
 refine ae tok hmix ⟨[],[]⟩ Tryz.func19 rfl (by kernel_rfl) (by kernel_rfl) (by kernel_rfl) λhf=>?_
 have g1:=g.params;have g2:=g.states;have g3:=g.lines;have g4:=g.tables;have g5:=g.instrs;have g6:=g.table
 have hlen3:c.lines.length<=9223372036854775807:=by omega
 have hlen4:c.tables.length<=9223372036854775807:=by omega
 have hlenf:[c.params,c.states].flatten.length=c.params.length+c.states.length:=by simp
 have hlen:[c.params,c.states].flatten.length<=9223372036854775807:=by omega
 clear hf
 repeat' ((try(conv=>whnf))<;>first
  |exact trivial
  |exact au hd4 ‹_›
  |exact au hd2 ‹_›
  |exact au hd0 ‹_›
  |refine bu hd4 ?_
  |refine bu hd2 ?_
  |refine bu hd0 ?_
  |refine aN hd4 ?_
  |refine aN hd2 ?_
  |refine aN hd0 ?_
  |refine BrI.intro (λh=>?_) (λh=>?_)
  |((refine aB.mk 0 ?_);refine⟨aJ ([c.params,c.states].flatten) 19 (λ(_:Unit)=>[]) (λ(_:Unit)=>[]) [1,3,17,18] (λi0 r0 _=>anyB [c.params,c.states].flatten=anyB r0),?_⟩;refine ah () ?_ ?_ (λi0 (_:Unit) hd0 hI0=>?_) (λi0 x0 r0 (_:Unit) hd0 hl0 hI0=>?_))
  |(refine ai hd0 () ?_ ?_)
  |((refine aB.mk 2 ?_);refine⟨aJ (c.lines) 33 (λ(_:Unit)=>[]) (λ(_:Unit)=>[]) [1,3,31,32] (λi2 r2 _=>anyL c.lines=anyL r2),?_⟩;refine ah () ?_ ?_ (λi2 (_:Unit) hd2 hI2=>?_) (λi2 x2 r2 (_:Unit) hd2 hl2 hI2=>?_))
  |(refine ai hd2 () ?_ ?_)
  |((refine aB.mk 4 ?_);refine⟨aJ (c.tables) 57 (λ(_:Unit)=>[]) (λ(_:Unit)=>[(3,.cells [.fn 42 []]),(1,.cells (c.cs.map .data))]) [1,3,55,56] (λi4 r4 _=>anyT c.tables=anyT r4),?_⟩;refine ah () ?_ ?_ (λi4 (_:Unit) hd4 hI4=>?_) (λi4 x4 r4 (_:Unit) hd4 hl4 hI4=>?_))
  |(refine ai hd4 () ?_ ?_)
  |((refine ax ?_ ?_ ?_);rotate_left;(first |exact zI _ _ |exact um [((c.params.map Bd.cs).length:Int),((c.states.map Bd.cs).length:Int),((c.lines.map Ln.cs).length:Int),((c.tables.map lnC).length:Int)]))
  |((refine fP [(1000000,800000),(1000001,16)] (Gx [c.params,c.states] (by simp[lens];omega) (by simp)) ?_ ?_ ?_ ?_);rotate_left 0;exact rfl;(exact⟨rfl,trivial⟩);exact rfl)
  |((refine lent_step' [(1000000,3)] (Ak x4 (by have:=g6 _ (bK hd4);omega)) ?_ ?_ ?_ ?_);rotate_left 0;exact rfl;(exact⟨rfl,trivial⟩);exact rfl)
  |(refine aZ.l _ ?_)
  |((refine aH ?_ ?_ ?_ ?_ ?_);exact rfl;exact rfl;rotate_left;(first |exact aF hd4 |exact aF hd2 |exact aF hd0))
  |((refine aP ?_ ?_);exact rfl)
  |((refine bG ?_ ?_ (λhg=>?_) ?_);exact rfl)
  |((refine dJ ?_ ?_);exact rfl;exact rfl)
  |((refine aj ?_);refine⟨[],rfl,?_,trivial⟩;conv=>whnf)
  |(refine And.intro ?_ ?_)
  |exact @rfl AV _
  |exact @rfl (List AV) _
  |fail)
 all_goals first
  |(rfl)
  |((exact Tc hI0 h))
  |((exact Td hI2 h))
  |((exact Tf hI4 (by simpa only [z4z,List.length_map]using h)))
  |((exact congrArg D.b (z8s hI0 h).symm))
  |((exact congrArg D.b (z8t hI2 h).symm))
  |((exact congrArg D.b (z8u hI4 (by simpa only [z4z,List.length_map]using h)).symm))
  |((rw[z8v hI0 hI2 hI4];simp only[finP,List.length_map];done))
  |skip
theorem OH(c:Cd)(g:c.Sm)(hd:decP c=false):PCall Tryz.prog 10 [c.d] (.ret (.i 200)):=by
 refine ae tok hmix ⟨[],[]⟩ Tryz.func10 rfl (by kernel_rfl) (by kernel_rfl) (by kernel_rfl) λhf=>?_
 clear hf
 repeat' ((try(conv=>whnf))<;>first
  |(exact Bool.noConfusion ((congrArg Bool.not hd).symm.trans h))
  |refine BrI.intro (λh=>?_) (λh=>?_)
  |((refine ax ?_ ?_ ?_);rotate_left;(exact qH _ (by assumption)))
  |((refine aj ?_);refine⟨[],rfl,?_,trivial⟩;conv=>whnf)
  |fail)
 all_goals first
  |skip
theorem TA(c:Cd)(R:Bool)(g:c.Sm)(hd:decP c=true)(hR:chkP c c.instrs 0 0 (List.replicate c.lines.length false)=R):PCall Tryz.prog 10 [c.d] (.ret (.i (okE R))):=by
 refine ae tok hmix ⟨[],[]⟩ Tryz.func10 rfl (by kernel_rfl) (by kernel_rfl) (by kernel_rfl) λhf=>?_
 have g3:c.lines.length<=1073741824:=by have:=g.lines;omega
 have g5:=g.instrs
 have hlen:c.instrs.length<=9223372036854775807:=by omega
 clear hf
 repeat' ((try(conv=>whnf))<;>first
  |(exact Bool.noConfusion ((congrArg Bool.not hd).symm.trans h))
  |(refine aZ.r 18 ?_)
  |exact trivial
  |exact au hd0 ‹_›
  |refine bu hd0 ?_
  |refine aN hd0 ?_
  |refine BrI.intro (λh=>?_) (λh=>?_)
  |((refine I7 ?_ ?_ ?_ ?_ ?_);(exact Int.natCast_nonneg _);(exact Int.le_refl _);exact rfl;(rw[List.length_map];omega))
  |((refine jC ?_ ?_ ?_ ?_ ?_);exact rfl;exact rfl;exact rfl;(refine z0d hI0 ?_ ?_);assumption;assumption)
  |((refine iY ?_ ?_ ?_ ?_ ?_ ?_ ?_);exact rfl;exact rfl;rotate_left 2;(refine Ye hI0 ?_ ?_);assumption;assumption;exact rfl)
  |((refine gW ?_ ?_ ?_ ?_ ?_ ?_ ?_ ?_ ?_);exact rfl;exact rfl;exact rfl;exact rfl;exact iU rfl;exact rfl;rotate_left;(refine Ye hI0 ?_ ?_);assumption;assumption)
  |(exact Yg)
  |(exact Yf)
  |((refine aB.mk 0 ?_);refine⟨aJ (c.instrs) 22 (λ(q:(Int)×(Int)×(List Bool))=>match q with |(n,o,pu)=>[(3,.data (.val (.int .i64 n))),(4,.data (.val (.int .i64 o)))]) (λ(q:(Int)×(Int)×(List Bool))=>match q with |(n,o,pu)=>[(1,.cells (c.cs.map .data)),(18,.arr 0 1 (pu.map boolC))]) [1,5,20,21] (λi0 r0 q=>match q with |(n,o,pu)=>L9 c R r0 n o pu),?_⟩;refine ah ((0),(0),(List.replicate c.lines.length false)) ?_ ?_ (λi0 ⟨n,o,pu⟩ hd0 hI0=>?_) (λi0 x0 r0 ⟨n,o,pu⟩ hd0 hl0 hI0=>?_))
  |(refine ai hd0 (?_,?_,?_) ?_ ?_)
  |((refine ax ?_ ?_ ?_);rotate_left;(first |exact qH _ (by assumption) |exact Jy _ _))
  |((refine aH ?_ ?_ ?_ ?_ ?_);exact rfl;exact rfl;rotate_left;(exact aF hd0))
  |((refine aP ?_ ?_);exact rfl)
  |((refine aj ?_);refine⟨[],rfl,?_,trivial⟩;conv=>whnf)
  |(refine And.intro ?_ ?_)
  |exact @rfl AV _
  |fail)
 all_goals first
  |((exact Ti hR g3))
  |((have hq:=chk_end hI0 h;rw[hq];rfl))
  |((have hq:=z0c hI0 h;rw[hq];rfl))
  |((refine z5b hI0 ?_ ?_<;>assumption))
  |((have hq:=(by refine z5c hI0 ?_ ?_ ?_ ?_<;>assumption:R=false);rw[hq];rfl))
  |((refine z5d hI0 ?_ ?_ ?_ ?_<;>assumption))
  |((refine z8w hI0 ?_ ?_ ?_<;>assumption))
  |skip
theorem jm(c:Cd)(g:c.Sm):PCall Tryz.prog 10 [c.d] (.ret (.i (okE (checkP c)))):=by
 unfold checkP
 cases hd:decP c with
 |false=>exact OH c g hd
 |true=>exact TA c _ g hd rfl
theorem zJ(op:Int)  : PCall Tryz.prog 22 [.i op] (.ret (z5a (takesR op))):=by
 refine ae tok hmix ⟨[],[]⟩ Tryz.func22 rfl (by kernel_rfl) (by kernel_rfl) (by kernel_rfl) λhf=>?_
 clear hf
 repeat' ((try(conv=>whnf))<;>first
  |refine BrI.tt ?_
  |refine BrI.intro (λh=>?_) (λh=>?_)
  |((refine aj ?_);refine⟨[],rfl,?_,trivial⟩;conv=>whnf)
  |fail)
 all_goals first
  |((simp only[takesR, *,cond_true,cond_false];done))
  |skip
theorem Gy(c:Cd)(x:Int×Int)  : PCall Tryz.prog 23 [c.d,.agg (insC x)] (.ret (.b (Wj c x.1 x.2))):=by
 refine ae tok hmix ⟨[],[]⟩ Tryz.func23 rfl (by kernel_rfl) (by kernel_rfl) (by kernel_rfl) λhf=>?_
 clear hf
 repeat' ((try(conv=>whnf))<;>first
  |refine BrI.tt ?_
  |refine BrI.intro (λh=>?_) (λh=>?_)
  |((refine aj ?_);refine⟨[],rfl,?_,trivial⟩;conv=>whnf)
  |fail)
 all_goals first
  |((simp only[Wj,Jp, *,cond_true,cond_false,List.length_map];done))
  |skip
theorem qI(lo hi:Int)  : PCall Tryz.prog 48 [.i lo,.i hi] (.ret (.b (Gq lo hi))):=by
 refine ae tok hmix ⟨[],[]⟩ Tryz.func48 rfl (by kernel_rfl) (by kernel_rfl) (by kernel_rfl) λhf=>?_
 clear hf
 repeat' ((try(conv=>whnf))<;>first
  |((refine aj ?_);refine⟨[],rfl,?_,trivial⟩;conv=>whnf)
  |fail)
 all_goals first
  |(rfl)
  |skip
theorem wM(l:List Bd)(hl:l.length<=268435456):PCall Tryz.prog 47 [.sl 3 (l.map Bd.cs)] (.ret (.b (aK l))):=by
 refine ae tok hmix ⟨[],[]⟩ Tryz.func47 rfl (by kernel_rfl) (by kernel_rfl) (by kernel_rfl) λhf=>?_
 have hlen:l.length<=9223372036854775807:=by omega
 clear hf
 repeat' ((try(conv=>whnf))<;>first
  |exact trivial
  |exact au hd0 ‹_›
  |refine bu hd0 ?_
  |refine aN hd0 ?_
  |refine BrI.intro (λh=>?_) (λh=>?_)
  |((refine aB.mk 0 ?_);refine⟨aJ (l) 3 (λ(_:Unit)=>[]) (λ(_:Unit)=>[]) [0] (λi0 r0 _=>allB l=allB r0),?_⟩;refine ah () ?_ ?_ (λi0 (_:Unit) hd0 hI0=>?_) (λi0 x0 r0 (_:Unit) hd0 hl0 hI0=>?_))
  |(refine ai hd0 () ?_ ?_)
  |((refine ax ?_ ?_ ?_);rotate_left;(exact qI _ _))
  |((refine aH ?_ ?_ ?_ ?_ ?_);exact rfl;exact rfl;rotate_left;(exact aF hd0))
  |((refine az ?_ ?_);kernel_rfl)
  |((refine aj ?_);refine⟨[],rfl,?_,trivial⟩;conv=>whnf)
  |(refine And.intro ?_ ?_)
  |exact @rfl AV _
  |fail)
 all_goals first
  |((simp only[aK,hI0,allB, *,cond_true,cond_false,List.length_map,Bool.not_eq_true',Bool.not_eq_false'];done))
  |skip
theorem qJ(c:Cd)(g:c.Sm):PCall Tryz.prog 21 [c.d] (.ret (.b (Jr c))):=by
 refine ae tok hmix ⟨[],[]⟩ Tryz.func21 rfl (by kernel_rfl) (by kernel_rfl) (by kernel_rfl) λhf=>?_
 have g1:=g.params;have g2:=g.states;have g3:=g.lines;have g4:=g.tables;have g5:=g.instrs;have g6:=g.table
 have hlen3:c.lines.length<=9223372036854775807:=by omega
 have hlen4:c.tables.length<=9223372036854775807:=by omega
 clear hf
 repeat' ((try(conv=>whnf))<;>first
  |exact trivial
  |exact au hd4 ‹_›
  |exact au hd2 ‹_›
  |exact au hd0 ‹_›
  |refine bu hd4 ?_
  |refine bu hd2 ?_
  |refine bu hd0 ?_
  |refine aN hd4 ?_
  |refine aN hd2 ?_
  |refine aN hd0 ?_
  |refine BrI.intro (λh=>?_) (λh=>?_)
  |((refine aB.mk 0 ?_);refine⟨aJ (c.lines) 3 (λ(_:Unit)=>[]) (λ(_:Unit)=>[]) [1] (λi0 r0 _=>allL c.lines=allL r0),?_⟩;refine ah () ?_ ?_ (λi0 (_:Unit) hd0 hI0=>?_) (λi0 x0 r0 (_:Unit) hd0 hl0 hI0=>?_))
  |(refine ai hd0 () ?_ ?_)
  |((refine aB.mk 2 ?_);refine⟨aJ (c.tables) 4 (λ(_:Unit)=>[]) (λ(_:Unit)=>[]) [1] (λi2 r2 _=>allT c.tables=allT r2),?_⟩;refine ah () ?_ ?_ (λi2 (_:Unit) hd2 hI2=>?_) (λi2 x2 r2 (_:Unit) hd2 hl2 hI2=>?_))
  |(refine ai hd2 () ?_ ?_)
  |((refine aB.mk 4 ?_);have hlx:x2.length<=9223372036854775807:=(by have:=g6 _ (bK hd2);omega);refine⟨aJ (x2) 5 (λ(_:Unit)=>[]) (λ(_:Unit)=>[]) [1,4] (λi4 r4 _=>Jq x2=Jq r4),?_⟩;refine ah () ?_ ?_ (λi4 (_:Unit) hd4 hI4=>?_) (λi4 x4 r4 (_:Unit) hd4 hl4 hI4=>?_))
  |(refine ai hd4 () ?_ ?_)
  |((refine ax ?_ ?_ ?_);rotate_left;(first |exact wM _ (by omega) |exact qI _ _ |exact wM _ g1))
  |((refine aH ?_ ?_ ?_ ?_ ?_);exact rfl;exact rfl;rotate_left;(first |exact aF hd4 |exact aF hd2 |exact aF hd0))
  |((refine bG ?_ ?_ (λhg=>?_) ?_);exact rfl)
  |((refine dJ ?_ ?_);exact rfl;exact rfl)
  |((refine az ?_ ?_);kernel_rfl)
  |((refine aj ?_);refine⟨[],rfl,?_,trivial⟩;conv=>whnf)
  |(refine And.intro ?_ ?_)
  |exact @rfl AV _
  |fail)
 all_goals first
  |((exact congrArg D.b (z5f (z5k h)).symm))
  |((exact congrArg D.b (z5g hI0 h).symm))
  |((exact Tj hI0 h))
  |((exact congrArg D.b (z5h hI2 (z8x h)).symm))
  |((refine congrArg D.b (z5i hI2 (z8x ?_) hI4 h).symm;assumption))
  |((exact Tm hI4 h))
  |((refine Tn hI2 (z8x ?_) hI4;assumption))
  |((refine Eq.trans ?_ (congrArg D.b (z5j (z5k ?_) hI0 hI2).symm);(rw[List.length_map];rfl);assumption))
  |skip
theorem OI(c:Cd)(g:c.Sm)(hd:Jr c=false):PCall Tryz.prog 11 [c.d] (.ret (.i 200)):=by
 refine ae tok hmix ⟨[],[]⟩ Tryz.func11 rfl (by kernel_rfl) (by kernel_rfl) (by kernel_rfl) λhf=>?_
 clear hf
 repeat' ((try(conv=>whnf))<;>first
  |(exact Bool.noConfusion ((congrArg Bool.not hd).symm.trans h))
  |refine BrI.intro (λh=>?_) (λh=>?_)
  |((refine ax ?_ ?_ ?_);rotate_left;(exact qJ _ (by assumption)))
  |((refine aj ?_);refine⟨[],rfl,?_,trivial⟩;conv=>whnf)
  |fail)
 all_goals first
  |skip
theorem TB(c:Cd)(R:Bool)(g:c.Sm)(hd:Jr c=true)(hR:OD c c.instrs 0 0 (List.replicate c.lines.length false)=R):PCall Tryz.prog 11 [c.d] (.ret (.i (okE R))):=by
 refine ae tok hmix ⟨[],[]⟩ Tryz.func11 rfl (by kernel_rfl) (by kernel_rfl) (by kernel_rfl) λhf=>?_
 have g3:c.lines.length<=1073741824:=by have:=g.lines;omega
 have g5:=g.instrs
 have hlen:c.instrs.length<=9223372036854775807:=by omega
 clear hf
 repeat' ((try(conv=>whnf))<;>first
  |(exact Bool.noConfusion ((congrArg Bool.not hd).symm.trans h))
  |(refine aZ.r 17 ?_)
  |exact trivial
  |exact au hd0 ‹_›
  |refine bu hd0 ?_
  |refine aN hd0 ?_
  |refine BrI.intro (λh=>?_) (λh=>?_)
  |((refine I7 ?_ ?_ ?_ ?_ ?_);(exact Int.natCast_nonneg _);(exact Int.le_refl _);exact rfl;(rw[List.length_map];omega))
  |((refine jC ?_ ?_ ?_ ?_ ?_);exact rfl;exact rfl;exact rfl;(refine Wp hI0 ?_ ?_);assumption;assumption)
  |((refine iY ?_ ?_ ?_ ?_ ?_ ?_ ?_);exact rfl;exact rfl;rotate_left 2;(refine Tt hI0 ?_ ?_);assumption;assumption;exact rfl)
  |((refine gW ?_ ?_ ?_ ?_ ?_ ?_ ?_ ?_ ?_);exact rfl;exact rfl;exact rfl;exact rfl;exact iU rfl;exact rfl;rotate_left;(refine Tt hI0 ?_ ?_);assumption;assumption)
  |(exact Yg)
  |(exact Yf)
  |((refine aB.mk 0 ?_);refine⟨aJ (c.instrs) 6 (λ(q:(Int)×(Int)×(List Bool))=>match q with |(n,o,pu)=>[(3,.data (.val (.int .i64 n))),(4,.data (.val (.int .i64 o)))]) (λ(q:(Int)×(Int)×(List Bool))=>match q with |(n,o,pu)=>[(1,.cells (c.cs.map .data)),(17,.arr 0 1 (pu.map boolC))]) [1,5] (λi0 r0 q=>match q with |(n,o,pu)=>Gt c R r0 n o pu),?_⟩;refine ah ((0),(0),(List.replicate c.lines.length false)) ?_ ?_ (λi0 ⟨n,o,pu⟩ hd0 hI0=>?_) (λi0 x0 r0 ⟨n,o,pu⟩ hd0 hl0 hI0=>?_))
  |(refine ai hd0 (?_,?_,?_) ?_ ?_)
  |((refine ax ?_ ?_ ?_);rotate_left;(first |exact qJ _ (by assumption) |exact zJ _ |exact Gy _ _))
  |((refine aH ?_ ?_ ?_ ?_ ?_);exact rfl;exact rfl;rotate_left;(exact aF hd0))
  |((refine aP ?_ ?_);exact rfl)
  |((refine bG ?_ ?_ (λhg=>?_) ?_);exact rfl)
  |((refine dJ ?_ ?_);exact rfl;exact rfl)
  |((refine aj ?_);refine⟨[],rfl,?_,trivial⟩;conv=>whnf)
  |(refine And.intro ?_ ?_)
  |exact @rfl AV _
  |fail)
 all_goals first
  |((exact OE hR g3))
  |((have hq:=Wl hI0 h;rw[hq];rfl))
  |((have hq:=Wn hI0 h;rw[hq];rfl))
  |((refine congrArg (λz=>D.i (okE z)) (z0e hI0 ?_ ?_).symm<;>assumption))
  |((refine congrArg (λz=>D.i (okE z)) (z0f hI0 ?_ ?_ ?_ ?_).symm<;>assumption))
  |((refine z0g hI0 ?_ ?_ ?_ ?_ ?_<;>assumption))
  |((refine z0h hI0 ?_ ?_ ?_ ?_ ?_<;>assumption))
  |((refine z0i hI0 ?_ ?_ ?_ ?_<;>assumption))
  |((refine z0j hI0 ?_ ?_ ?_ ?_<;>assumption))
  |skip
theorem Jz(c:Cd)(g:c.Sm):PCall Tryz.prog 11 [c.d] (.ret (.i (okE (S9 c)))):=by
 unfold S9
 cases hd:Jr c with
 |false=>exact OI c g hd
 |true=>exact TB c _ g hd rfl
end Go.Proofs.YthpbakljheeabaaGreatDoor
