/- Contracts: what is checked of a code, by the program. -/
import Derived.Test.YthpbakljheeabaaGreatDoorZMA
import Derived.Test.YthpbakljheeabaaGreatDoorZE
import Derived.Test.YthpbakljheeabaaGreatDoorZK6
set_option linter.unusedSectionVars false
set_option linter.unusedSimpArgs false
set_option linter.unusedVariables false
set_option maxHeartbeats 4000000
namespace Go.Proofs.YthpbakljheeabaaGreatDoor
open Go.Fw Go.Fw.Mac
set_option maxRecDepth 10000
variable [af]
theorem Jn(n:Nat)(hn:n<=1073741824):LCall Tryz.prog 65 [.nilsl 3,.data (.val (.int .i64 n))] [] (.ret (.gs 1000000 3 [])) [(1000000,.tok 3 0)]:=
 SQ tok Tryz.growB ⟨_,Tryz.func65,by kernel_rfl,by kernel_rfl⟩ (by decide) (by kernel_rfl) (by decide +kernel) (by kernel_rfl) (by omega) (by kernel_rfl) n (by
  have:(Tryz.T.at (Tryz.growB_ren.t 25)).bytes=32:=by kernel_rfl
  rw[this];omega) (by omega)
theorem Gn(ls:List (List Bd))(hs:lens ls<=1073741824)(hn:ls.length<=1073741824):LCall Tryz.prog 43 [.gs 1000001 1 (ls.map QR)] [(1000001,.tok 1 (ls.map QR).length)] (.ret (.gs 1000000 3 (ls.flatten.map Bd.cs))) [(1000000,.tok 3 (ls.flatten.map Bd.cs).length),(1000001,.tok 1 (ls.map QR).length)]:=by
 refine ax tok hmix ⟨[],[]⟩ Tryz.func43 rfl (by kernel_rfl) (by kernel_rfl) (by kernel_rfl) λhf=>?_
 have hlen:ls.length<=9223372036854775807:=by omega
 clear hf
 repeat' ((try(conv=>whnf))<;>first
  |with_reducible exact trivial
  |with_reducible exact au hd2 ‹_›
  |with_reducible exact au hd0 ‹_›
  |with_reducible refine bi hd2 ?_
  |with_reducible refine bi hd0 ?_
  |with_reducible refine aK hd2 ?_
  |with_reducible refine aK hd0 ?_
  |with_reducible refine BrI.intro (λh=>?_) (λh=>?_)
  |((with_reducible refine aA.mk 0 ?_);refine⟨aI (ls) 11 (λ(n:(Nat))=>[(3,.data (.val (.int .i64 (n:Int))))]) (λ(n:(Nat))=>[(1000001,.tok 1 (ls.map QR).length)]) [0,9,10] (λi0 r0 n=>lens ls=n+lens r0),?_⟩;with_reducible refine ag (0) ?_ ?_ (λi0 (n:(Nat)) hd0 hI0=>?_) (λi0 x0 r0 (n:(Nat)) hd0 hl0 hI0=>?_))
  |(with_reducible refine ah hd0 (n+x0.length) ?_ ?_)
  |((with_reducible refine aA.mk 2 ?_);refine⟨aI (ls) 27 (λ(out:(List Bd))=>[(6,.gs 800000 3 (out.map Bd.cs))]) (λ(out:(List Bd))=>[(1000001,.tok 1 (ls.map QR).length),(800000,.tok 3 (out.map Bd.cs).length)]) [25,26] (λi2 r2 out=>ls.flatten=out++r2.flatten),?_⟩;with_reducible refine ag [] ?_ ?_ (λi2 (out:(List Bd)) hd2 hI2=>?_) (λi2 x2 r2 (out:(List Bd)) hd2 hl2 hI2=>?_))
  |(with_reducible refine ah hd2 ?_ ?_ ?_)
  |((with_reducible refine fM [(1000000,800000)] (Jn n (by rw[Dp]at hI0;omega)) ?_ ?_ ?_ ?_);rotate_left 0;exact rfl;(exact trivial);exact rfl)
  |((with_reducible refine ai ?_);refine fin_step' [(1000000,800000),(1000001,1000001)] rfl ?_ ?_)
  |((with_reducible refine aG ?_ ?_ ?_ ?_ ?_);exact rfl;exact rfl;rotate_left;(first |with_reducible exact aC hd2 |with_reducible exact aC hd0))
  |((with_reducible refine app_step' ?_ ?_ ?_ ?_ ?_ ?_ ?_);exact rfl;exact rfl;exact rfl;exact rfl)
  |(with_reducible refine And.intro ?_ ?_)
  |((with_reducible refine qU ?_ ?_ ?_);exact rfl;exact rfl;(first |with_reducible exact Dk |exact rfl |skip))
  |((with_reducible refine ja ?_ ?_);exact rfl;(first |with_reducible exact Dk |skip))
  |((with_reducible refine bD ?_);refine fO ?_ ?_ ?_;exact rfl;exact rfl;(first |skip))
  |exact @rfl AV _
  |exact @rfl Block _
  |fail)
 all_goals(try simp only[Bool.cond_true_left,Bool.cond_false_right,Bool.cond_false_left,Bool.cond_true_right,Bool.not_eq_true',Bool.not_eq_false',bne,Ex.css_len,List.length_map,Int.toNat_zero]at *)
 all_goals first
  |omega
  |((rw[lens_cons]at hI0;omega))
  |((have hq:=congrArg List.length hI2;simp only[y9,List.length_append,lens_cons,List.length_map]at hq ⊢;omega))
  |((rw[hI2];simp;done))
  |((exfalso;rw[lens_cons]at hI0;rw[sW (b:=x0.length) (by omega),decide_eq_true_eq]at h;omega))
  |((rw[lens_cons]at hI0;(try(conv=>whnf));exact congrArg (λz=>AV.data (D.val (Value.int IntKind.i64 z))) (sW (b:=x0.length) (by omega))))
  |(rfl)
  |skip
theorem zu(lo hi:Int)  : PCall Tryz.prog 42 [.i lo,.i hi] (.ret (.b (zt lo hi))):=by
 refine ae tok hmix ⟨[],[]⟩ Tryz.func42 rfl (by kernel_rfl) (by kernel_rfl) (by kernel_rfl) λhf=>?_
 clear hf
 repeat' ((try(conv=>whnf))<;>first
  |((refine ai ?_);refine⟨[],rfl,?_,trivial⟩;conv=>whnf)
  |fail)
 all_goals first
  |(rfl)
  |skip
theorem Jo(n:Int)  : LCall Tryz.prog 45 [.data (.i n),.ptr 1000000 0] [(1000000,.cells [.fn 42 []])] (.ret (.data (.b (zt n n)))) [(1000000,.cells [.fn 42 []])]:=by
 refine ax tok hmix ⟨[],[]⟩ Tryz.func45 rfl (by kernel_rfl) (by kernel_rfl) (by kernel_rfl) λhf=>?_
 clear hf
 repeat' ((try(conv=>whnf))<;>first
  |exact trivial
  |((refine ak ?_ ?_ ?_);rotate_left;(exact zu n n))
  |((refine ai ?_);refine fin_step' [] rfl ?_ ?_)
  |(refine And.intro ?_ ?_)
  |exact @rfl AV _
  |fail)
 all_goals first
  |skip
theorem Jp(l:List Int)(hl:l.length<=1073741824):LCall Tryz.prog 66 [.data (ints l),.fn 45 [.ptr 1000000 0]] [(1000000,.cells [.fn 42 []])] (.ret (.data (.i (ww l 0)))) [(1000000,.cells [.fn 42 []])]:=by
 refine ax tok hmix ⟨[],[]⟩ Tryz.func66 rfl (by kernel_rfl) (by kernel_rfl) (by kernel_rfl) λhf=>?_
 have hlen:l.length<=9223372036854775807:=by omega
 clear hf
 repeat' ((try(conv=>whnf))<;>first
  |exact trivial
  |exact au hd0 ‹_›
  |refine bi hd0 ?_
  |refine aK hd0 ?_
  |refine BrI.intro (λh=>?_) (λh=>?_)
  |((refine aA.mk 0 ?_);refine⟨aI (l) 8 (λ(_:Unit)=>[]) (λ(_:Unit)=>[(1000000,.cells [.fn 42 []])]) [0,1,7] (λi0 r0 _=>ww l 0=ww r0 i0),?_⟩;refine ag () ?_ ?_ (λi0 (_:Unit) hd0 hI0=>?_) (λi0 x0 r0 (_:Unit) hd0 hl0 hI0=>?_))
  |(refine ah hd0 () ?_ ?_)
  |((refine lent_step' [(1000000,1000000)] (Jo x0) ?_ ?_ ?_ ?_);rotate_left 0;exact rfl;(exact⟨rfl,trivial⟩);exact rfl)
  |((refine ai ?_);refine fin_step' [] rfl ?_ ?_)
  |((refine aG ?_ ?_ ?_ ?_ ?_);exact rfl;exact rfl;rotate_left;(exact aC hd0))
  |(refine And.intro ?_ ?_)
  |exact @rfl AV _
  |fail)
 all_goals first
  |(rw[hI0];(try simp only[ww,Bool.not_true,Bool.not_false,Bool.and_true,Bool.true_and,Bool.and_false,Bool.false_and,Bool.or_true,Bool.true_or,Bool.or_false,Bool.false_or,if_true,if_false,reduceIte,Bool.false_eq_true,Bool.not_not,Bool.not_eq_true',beq_self_eq_true,List.all_cons,List.all_nil,List.any_cons,List.any_nil,List.length_map,bne,eq_self,Int.toNat_zero, *]);first |done |rfl)
  |((simp_all[ww];done))
  |skip
theorem Aa(l:List Int)(hl:l.length<=1073741824):LCall Tryz.prog 44 [.data (ints l),.fn 45 [.ptr 1000000 0]] [(1000000,.cells [.fn 42 []])] (.ret (.data (.b (decide (ww l 0>=0))))) [(1000000,.cells [.fn 42 []])]:=by
 refine ax tok hmix ⟨[],[]⟩ Tryz.func44 rfl (by kernel_rfl) (by kernel_rfl) (by kernel_rfl) λhf=>?_
 clear hf
 repeat' ((try(conv=>whnf))<;>first
  |exact trivial
  |((refine lent_step' [(1000000,1000000)] (Jp _ hl) ?_ ?_ ?_ ?_);rotate_left 0;exact rfl;(exact⟨rfl,trivial⟩);exact rfl)
  |((refine ai ?_);refine fin_step' [] rfl ?_ ?_)
  |(refine And.intro ?_ ?_)
  |exact @rfl AV _
  |fail)
 all_goals first
  |skip
theorem ug(l:List Int)  : PCall Tryz.prog 46 [ints l] (.ret (.tuple [.i (mostF l 0 0 0).1,.i (mostF l 0 0 0).2])):=by
 refine ae tok hmix ⟨[],[]⟩ Tryz.func46 rfl (by kernel_rfl) (by kernel_rfl) (by kernel_rfl) λhf=>?_
 have hlen:l.length<=9223372036854775807:=by simpa using(hf (ints l) (by simp)).sl.1
 clear hf
 repeat' ((try(conv=>whnf))<;>first
  |exact trivial
  |exact au hd0 ‹_›
  |refine bi hd0 ?_
  |refine aK hd0 ?_
  |refine BrI.intro (λh=>?_) (λh=>?_)
  |((refine aA.mk 0 ?_);refine⟨aI (l) 8 (λ(q:(Int)×(Int))=>match q with |(n,k)=>[(2,.data (.val (.int .i64 n))),(3,.data (.val (.int .i64 k)))]) (λ(q:(Int)×(Int))=>match q with |(n,k)=>[]) [6,7] (λi0 r0 q=>match q with |(n,k)=>mostF l 0 0 0=mostF r0 i0 n k),?_⟩;refine ag ((0),(0)) ?_ ?_ (λi0 ⟨n,k⟩ hd0 hI0=>?_) (λi0 x0 r0 ⟨n,k⟩ hd0 hl0 hI0=>?_))
  |(refine ah hd0 (?_,?_) ?_ ?_)
  |((refine aG ?_ ?_ ?_ ?_ ?_);exact rfl;exact rfl;rotate_left;(exact aC hd0))
  |((refine ai ?_);refine⟨[],rfl,?_,trivial⟩;conv=>whnf)
  |(refine And.intro ?_ ?_)
  |exact @rfl AV _
  |fail)
 all_goals first
  |(rw[hI0];(try simp only[mostF,Bool.not_true,Bool.not_false,Bool.and_true,Bool.true_and,Bool.and_false,Bool.false_and,Bool.or_true,Bool.true_or,Bool.or_false,Bool.false_or,if_true,if_false,reduceIte,Bool.false_eq_true,Bool.not_not,Bool.not_eq_true',beq_self_eq_true,List.all_cons,List.all_nil,List.any_cons,List.any_nil,List.length_map,bne,eq_self,Int.toNat_zero, *]);first |done |rfl)
  |((simp_all[mostF];done))
  |skip
theorem Jq(c:Cd)(op:Int)  : PCall Tryz.prog 20 [c.d,.i op] (.ret (z9x (effP c op))):=by
 refine ae tok hmix ⟨[],[]⟩ Tryz.func20 rfl (by kernel_rfl) (by kernel_rfl) (by kernel_rfl) λhf=>?_
 clear hf
 repeat' ((try(conv=>whnf))<;>first
  |refine BrI.tt ?_
  |refine BrI.intro (λh=>?_) (λh=>?_)
  |((refine ay ?_ ?_);kernel_rfl)
  |((refine ai ?_);refine⟨[],rfl,?_,trivial⟩;conv=>whnf)
  |fail)
 all_goals first
  |((simp only[effP, *,cond_true,cond_false];done))
  |((simp only[effP, *,cond_true,cond_false,List.length_map];done))
  |skip
theorem qy(c:Cd)(g:c.Sm):PCall Tryz.prog 19 [c.d] (.ret (.b (decP c))):=by
 refine ae tok hmix ⟨[],[]⟩ Tryz.func19 rfl (by kernel_rfl) (by kernel_rfl) (by kernel_rfl) λhf=>?_
 have g1:=g.params;have g2:=g.states;have g3:=g.lines;have g4:=g.tables;have g5:=g.instrs;have g6:=g.table
 have hlen3:c.lines.length<=9223372036854775807:=by omega
 have hlen4:c.tables.length<=9223372036854775807:=by omega
 have hlenf:[c.params,c.states].flatten.length=c.params.length+c.states.length:=by simp
 have hlen:[c.params,c.states].flatten.length<=9223372036854775807:=by omega
 clear hf
 repeat' ((try(conv=>whnf))<;>first
  |exact trivial
  |exact au hd4 ‹_›
  |exact au hd2 ‹_›
  |exact au hd0 ‹_›
  |refine bi hd4 ?_
  |refine bi hd2 ?_
  |refine bi hd0 ?_
  |refine aK hd4 ?_
  |refine aK hd2 ?_
  |refine aK hd0 ?_
  |refine BrI.intro (λh=>?_) (λh=>?_)
  |((refine aA.mk 0 ?_);refine⟨aI ([c.params,c.states].flatten) 19 (λ(_:Unit)=>[]) (λ(_:Unit)=>[]) [1,3,17,18] (λi0 r0 _=>anyB [c.params,c.states].flatten=anyB r0),?_⟩;refine ag () ?_ ?_ (λi0 (_:Unit) hd0 hI0=>?_) (λi0 x0 r0 (_:Unit) hd0 hl0 hI0=>?_))
  |(refine ah hd0 () ?_ ?_)
  |((refine aA.mk 2 ?_);refine⟨aI (c.lines) 33 (λ(_:Unit)=>[]) (λ(_:Unit)=>[]) [1,3,31,32] (λi2 r2 _=>anyL c.lines=anyL r2),?_⟩;refine ag () ?_ ?_ (λi2 (_:Unit) hd2 hI2=>?_) (λi2 x2 r2 (_:Unit) hd2 hl2 hI2=>?_))
  |(refine ah hd2 () ?_ ?_)
  |((refine aA.mk 4 ?_);refine⟨aI (c.tables) 57 (λ(_:Unit)=>[]) (λ(_:Unit)=>[(3,.cells [.fn 42 []]),(1,.cells (c.cs.map .data))]) [1,3,55,56] (λi4 r4 _=>anyT c.tables=anyT r4),?_⟩;refine ag () ?_ ?_ (λi4 (_:Unit) hd4 hI4=>?_) (λi4 x4 r4 (_:Unit) hd4 hl4 hI4=>?_))
  |(refine ah hd4 () ?_ ?_)
  |((refine ak ?_ ?_ ?_);rotate_left;(first |exact zu _ _ |exact ug [((c.params.map Bd.cs).length:Int),((c.states.map Bd.cs).length:Int),((c.lines.map Ln.cs).length:Int),((c.tables.map lnC).length:Int)]))
  |((refine fM [(1000000,800000),(1000001,16)] (Gn [c.params,c.states] (by simp[lens];omega) (by simp)) ?_ ?_ ?_ ?_);rotate_left 0;exact rfl;(exact⟨rfl,trivial⟩);exact rfl)
  |((refine lent_step' [(1000000,3)] (Aa x4 (by have:=g6 _ (bJ hd4);omega)) ?_ ?_ ?_ ?_);rotate_left 0;exact rfl;(exact⟨rfl,trivial⟩);exact rfl)
  |(refine aY.l _ ?_)
  |((refine aG ?_ ?_ ?_ ?_ ?_);exact rfl;exact rfl;rotate_left;(first |exact aC hd4 |exact aC hd2 |exact aC hd0))
  |((refine aN ?_ ?_);exact rfl)
  |((refine bu ?_ ?_ (λhg=>?_) ?_);exact rfl)
  |((refine dB ?_ ?_);exact rfl;exact rfl)
  |((refine ai ?_);refine⟨[],rfl,?_,trivial⟩;conv=>whnf)
  |(refine And.intro ?_ ?_)
  |exact @rfl AV _
  |exact @rfl (List AV) _
  |fail)
 all_goals first
  |(rfl)
  |((exact SA hI0 h))
  |((exact SB hI2 h))
  |((exact SC hI4 (by simpa only [z4d,List.length_map]using h)))
  |((exact congrArg D.b (z8d hI0 h).symm))
  |((exact congrArg D.b (z8e hI2 h).symm))
  |((exact congrArg D.b (z8f hI4 (by simpa only [z4d,List.length_map]using h)).symm))
  |((rw[z8g hI0 hI2 hI4];simp only[finP,List.length_map];done))
  |skip
theorem Ot(c:Cd)(g:c.Sm)(hd:decP c=false):PCall Tryz.prog 10 [c.d] (.ret (.i 200)):=by
 refine ae tok hmix ⟨[],[]⟩ Tryz.func10 rfl (by kernel_rfl) (by kernel_rfl) (by kernel_rfl) λhf=>?_
 clear hf
 repeat' ((try(conv=>whnf))<;>first
  |(exact Bool.noConfusion ((congrArg Bool.not hd).symm.trans h))
  |refine BrI.intro (λh=>?_) (λh=>?_)
  |((refine ak ?_ ?_ ?_);rotate_left;(exact qy _ (by assumption)))
  |((refine ai ?_);refine⟨[],rfl,?_,trivial⟩;conv=>whnf)
  |fail)
 all_goals first
  |skip
theorem SS(c:Cd)(R:Bool)(g:c.Sm)(hd:decP c=true)(hR:chkP c c.instrs 0 0 (List.replicate c.lines.length false)=R):PCall Tryz.prog 10 [c.d] (.ret (.i (okE R))):=by
 refine ae tok hmix ⟨[],[]⟩ Tryz.func10 rfl (by kernel_rfl) (by kernel_rfl) (by kernel_rfl) λhf=>?_
 have g3:c.lines.length<=1073741824:=by have:=g.lines;omega
 have g5:=g.instrs
 have hlen:c.instrs.length<=9223372036854775807:=by omega
 clear hf
 repeat' ((try(conv=>whnf))<;>first
  |(exact Bool.noConfusion ((congrArg Bool.not hd).symm.trans h))
  |(refine aY.r 18 ?_)
  |exact trivial
  |exact au hd0 ‹_›
  |refine bi hd0 ?_
  |refine aK hd0 ?_
  |refine BrI.intro (λh=>?_) (λh=>?_)
  |((refine IV ?_ ?_ ?_ ?_ ?_);(exact Int.natCast_nonneg _);(exact Int.le_refl _);exact rfl;(rw[List.length_map];omega))
  |((refine jr ?_ ?_ ?_ ?_ ?_);exact rfl;exact rfl;exact rfl;(refine ZN hI0 ?_ ?_);assumption;assumption)
  |((refine jP ?_ ?_ ?_ ?_ ?_ ?_ ?_);exact rfl;exact rfl;rotate_left 2;(refine XR hI0 ?_ ?_);assumption;assumption;exact rfl)
  |((refine gQ ?_ ?_ ?_ ?_ ?_ ?_ ?_ ?_ ?_);exact rfl;exact rfl;exact rfl;exact rfl;exact iP rfl;exact rfl;rotate_left;(refine XR hI0 ?_ ?_);assumption;assumption)
  |(exact XU)
  |(exact XT)
  |((refine aA.mk 0 ?_);refine⟨aI (c.instrs) 22 (λ(q:(Int)×(Int)×(List Bool))=>match q with |(n,o,pu)=>[(3,.data (.val (.int .i64 n))),(4,.data (.val (.int .i64 o)))]) (λ(q:(Int)×(Int)×(List Bool))=>match q with |(n,o,pu)=>[(1,.cells (c.cs.map .data)),(18,.arr 0 1 (pu.map boolC))]) [1,5,20,21] (λi0 r0 q=>match q with |(n,o,pu)=>LU c R r0 n o pu),?_⟩;refine ag ((0),(0),(List.replicate c.lines.length false)) ?_ ?_ (λi0 ⟨n,o,pu⟩ hd0 hI0=>?_) (λi0 x0 r0 ⟨n,o,pu⟩ hd0 hl0 hI0=>?_))
  |(refine ah hd0 (?_,?_,?_) ?_ ?_)
  |((refine ak ?_ ?_ ?_);rotate_left;(first |exact qy _ (by assumption) |exact Jq _ _))
  |((refine aG ?_ ?_ ?_ ?_ ?_);exact rfl;exact rfl;rotate_left;(exact aC hd0))
  |((refine aN ?_ ?_);exact rfl)
  |((refine ai ?_);refine⟨[],rfl,?_,trivial⟩;conv=>whnf)
  |(refine And.intro ?_ ?_)
  |exact @rfl AV _
  |fail)
 all_goals first
  |((exact SE hR g3))
  |((have hq:=chk_end hI0 h;rw[hq];rfl))
  |((have hq:=ZM hI0 h;rw[hq];rfl))
  |((refine z4f hI0 ?_ ?_<;>assumption))
  |((have hq:=(by refine z4g hI0 ?_ ?_ ?_ ?_<;>assumption:R=false);rw[hq];rfl))
  |((refine z4h hI0 ?_ ?_ ?_ ?_<;>assumption))
  |((refine z8h hI0 ?_ ?_ ?_<;>assumption))
  |skip
theorem jg(c:Cd)(g:c.Sm):PCall Tryz.prog 10 [c.d] (.ret (.i (okE (checkP c)))):=by
 unfold checkP
 cases hd:decP c with
 |false=>exact Ot c g hd
 |true=>exact SS c _ g hd rfl
theorem zx(op:Int)  : PCall Tryz.prog 22 [.i op] (.ret (z4e (takesR op))):=by
 refine ae tok hmix ⟨[],[]⟩ Tryz.func22 rfl (by kernel_rfl) (by kernel_rfl) (by kernel_rfl) λhf=>?_
 clear hf
 repeat' ((try(conv=>whnf))<;>first
  |refine BrI.tt ?_
  |refine BrI.intro (λh=>?_) (λh=>?_)
  |((refine ai ?_);refine⟨[],rfl,?_,trivial⟩;conv=>whnf)
  |fail)
 all_goals first
  |((simp only[takesR, *,cond_true,cond_false];done))
  |skip
theorem Gp(c:Cd)(x:Int×Int)  : PCall Tryz.prog 23 [c.d,.agg (insC x)] (.ret (.b (VU c x.1 x.2))):=by
 refine ae tok hmix ⟨[],[]⟩ Tryz.func23 rfl (by kernel_rfl) (by kernel_rfl) (by kernel_rfl) λhf=>?_
 clear hf
 repeat' ((try(conv=>whnf))<;>first
  |refine BrI.tt ?_
  |refine BrI.intro (λh=>?_) (λh=>?_)
  |((refine ai ?_);refine⟨[],rfl,?_,trivial⟩;conv=>whnf)
  |fail)
 all_goals first
  |((simp only[VU,Ji, *,cond_true,cond_false,List.length_map];done))
  |skip
theorem qA(lo hi:Int)  : PCall Tryz.prog 48 [.i lo,.i hi] (.ret (.b (Gg lo hi))):=by
 refine ae tok hmix ⟨[],[]⟩ Tryz.func48 rfl (by kernel_rfl) (by kernel_rfl) (by kernel_rfl) λhf=>?_
 clear hf
 repeat' ((try(conv=>whnf))<;>first
  |((refine ai ?_);refine⟨[],rfl,?_,trivial⟩;conv=>whnf)
  |fail)
 all_goals first
  |(rfl)
  |skip
theorem wz(l:List Bd)(hl:l.length<=268435456):PCall Tryz.prog 47 [.sl 3 (l.map Bd.cs)] (.ret (.b (aJ l))):=by
 refine ae tok hmix ⟨[],[]⟩ Tryz.func47 rfl (by kernel_rfl) (by kernel_rfl) (by kernel_rfl) λhf=>?_
 have hlen:l.length<=9223372036854775807:=by omega
 clear hf
 repeat' ((try(conv=>whnf))<;>first
  |exact trivial
  |exact au hd0 ‹_›
  |refine bi hd0 ?_
  |refine aK hd0 ?_
  |refine BrI.intro (λh=>?_) (λh=>?_)
  |((refine aA.mk 0 ?_);refine⟨aI (l) 3 (λ(_:Unit)=>[]) (λ(_:Unit)=>[]) [0] (λi0 r0 _=>allB l=allB r0),?_⟩;refine ag () ?_ ?_ (λi0 (_:Unit) hd0 hI0=>?_) (λi0 x0 r0 (_:Unit) hd0 hl0 hI0=>?_))
  |(refine ah hd0 () ?_ ?_)
  |((refine ak ?_ ?_ ?_);rotate_left;(exact qA _ _))
  |((refine aG ?_ ?_ ?_ ?_ ?_);exact rfl;exact rfl;rotate_left;(exact aC hd0))
  |((refine ay ?_ ?_);kernel_rfl)
  |((refine ai ?_);refine⟨[],rfl,?_,trivial⟩;conv=>whnf)
  |(refine And.intro ?_ ?_)
  |exact @rfl AV _
  |fail)
 all_goals first
  |((simp only[aJ,hI0,allB, *,cond_true,cond_false,List.length_map,Bool.not_eq_true',Bool.not_eq_false'];done))
  |skip
theorem qB(c:Cd)(g:c.Sm):PCall Tryz.prog 21 [c.d] (.ret (.b (Jk c))):=by
 refine ae tok hmix ⟨[],[]⟩ Tryz.func21 rfl (by kernel_rfl) (by kernel_rfl) (by kernel_rfl) λhf=>?_
 have g1:=g.params;have g2:=g.states;have g3:=g.lines;have g4:=g.tables;have g5:=g.instrs;have g6:=g.table
 have hlen3:c.lines.length<=9223372036854775807:=by omega
 have hlen4:c.tables.length<=9223372036854775807:=by omega
 clear hf
 repeat' ((try(conv=>whnf))<;>first
  |exact trivial
  |exact au hd4 ‹_›
  |exact au hd2 ‹_›
  |exact au hd0 ‹_›
  |refine bi hd4 ?_
  |refine bi hd2 ?_
  |refine bi hd0 ?_
  |refine aK hd4 ?_
  |refine aK hd2 ?_
  |refine aK hd0 ?_
  |refine BrI.intro (λh=>?_) (λh=>?_)
  |((refine aA.mk 0 ?_);refine⟨aI (c.lines) 3 (λ(_:Unit)=>[]) (λ(_:Unit)=>[]) [1] (λi0 r0 _=>allL c.lines=allL r0),?_⟩;refine ag () ?_ ?_ (λi0 (_:Unit) hd0 hI0=>?_) (λi0 x0 r0 (_:Unit) hd0 hl0 hI0=>?_))
  |(refine ah hd0 () ?_ ?_)
  |((refine aA.mk 2 ?_);refine⟨aI (c.tables) 4 (λ(_:Unit)=>[]) (λ(_:Unit)=>[]) [1] (λi2 r2 _=>allT c.tables=allT r2),?_⟩;refine ag () ?_ ?_ (λi2 (_:Unit) hd2 hI2=>?_) (λi2 x2 r2 (_:Unit) hd2 hl2 hI2=>?_))
  |(refine ah hd2 () ?_ ?_)
  |((refine aA.mk 4 ?_);have hlx:x2.length<=9223372036854775807:=(by have:=g6 _ (bJ hd2);omega);refine⟨aI (x2) 5 (λ(_:Unit)=>[]) (λ(_:Unit)=>[]) [1,4] (λi4 r4 _=>Jj x2=Jj r4),?_⟩;refine ag () ?_ ?_ (λi4 (_:Unit) hd4 hI4=>?_) (λi4 x4 r4 (_:Unit) hd4 hl4 hI4=>?_))
  |(refine ah hd4 () ?_ ?_)
  |((refine ak ?_ ?_ ?_);rotate_left;(first |exact wz _ (by omega) |exact qA _ _ |exact wz _ g1))
  |((refine aG ?_ ?_ ?_ ?_ ?_);exact rfl;exact rfl;rotate_left;(first |exact aC hd4 |exact aC hd2 |exact aC hd0))
  |((refine bu ?_ ?_ (λhg=>?_) ?_);exact rfl)
  |((refine dB ?_ ?_);exact rfl;exact rfl)
  |((refine ay ?_ ?_);kernel_rfl)
  |((refine ai ?_);refine⟨[],rfl,?_,trivial⟩;conv=>whnf)
  |(refine And.intro ?_ ?_)
  |exact @rfl AV _
  |fail)
 all_goals first
  |((exact congrArg D.b (z4j (z4o h)).symm))
  |((exact congrArg D.b (z4k hI0 h).symm))
  |((exact SG hI0 h))
  |((exact congrArg D.b (z4l hI2 (z8i h)).symm))
  |((refine congrArg D.b (z4m hI2 (z8i ?_) hI4 h).symm;assumption))
  |((exact SH hI4 h))
  |((refine SI hI2 (z8i ?_) hI4;assumption))
  |((refine Eq.trans ?_ (congrArg D.b (z4n (z4o ?_) hI0 hI2).symm);(rw[List.length_map];rfl);assumption))
  |skip
theorem Ou(c:Cd)(g:c.Sm)(hd:Jk c=false):PCall Tryz.prog 11 [c.d] (.ret (.i 200)):=by
 refine ae tok hmix ⟨[],[]⟩ Tryz.func11 rfl (by kernel_rfl) (by kernel_rfl) (by kernel_rfl) λhf=>?_
 clear hf
 repeat' ((try(conv=>whnf))<;>first
  |(exact Bool.noConfusion ((congrArg Bool.not hd).symm.trans h))
  |refine BrI.intro (λh=>?_) (λh=>?_)
  |((refine ak ?_ ?_ ?_);rotate_left;(exact qB _ (by assumption)))
  |((refine ai ?_);refine⟨[],rfl,?_,trivial⟩;conv=>whnf)
  |fail)
 all_goals first
  |skip
theorem SX(c:Cd)(R:Bool)(g:c.Sm)(hd:Jk c=true)(hR:Om c c.instrs 0 0 (List.replicate c.lines.length false)=R):PCall Tryz.prog 11 [c.d] (.ret (.i (okE R))):=by
 refine ae tok hmix ⟨[],[]⟩ Tryz.func11 rfl (by kernel_rfl) (by kernel_rfl) (by kernel_rfl) λhf=>?_
 have g3:c.lines.length<=1073741824:=by have:=g.lines;omega
 have g5:=g.instrs
 have hlen:c.instrs.length<=9223372036854775807:=by omega
 clear hf
 repeat' ((try(conv=>whnf))<;>first
  |(exact Bool.noConfusion ((congrArg Bool.not hd).symm.trans h))
  |(refine aY.r 17 ?_)
  |exact trivial
  |exact au hd0 ‹_›
  |refine bi hd0 ?_
  |refine aK hd0 ?_
  |refine BrI.intro (λh=>?_) (λh=>?_)
  |((refine IV ?_ ?_ ?_ ?_ ?_);(exact Int.natCast_nonneg _);(exact Int.le_refl _);exact rfl;(rw[List.length_map];omega))
  |((refine jr ?_ ?_ ?_ ?_ ?_);exact rfl;exact rfl;exact rfl;(refine VX hI0 ?_ ?_);assumption;assumption)
  |((refine jP ?_ ?_ ?_ ?_ ?_ ?_ ?_);exact rfl;exact rfl;rotate_left 2;(refine SL hI0 ?_ ?_);assumption;assumption;exact rfl)
  |((refine gQ ?_ ?_ ?_ ?_ ?_ ?_ ?_ ?_ ?_);exact rfl;exact rfl;exact rfl;exact rfl;exact iP rfl;exact rfl;rotate_left;(refine SL hI0 ?_ ?_);assumption;assumption)
  |(exact XU)
  |(exact XT)
  |((refine aA.mk 0 ?_);refine⟨aI (c.instrs) 6 (λ(q:(Int)×(Int)×(List Bool))=>match q with |(n,o,pu)=>[(3,.data (.val (.int .i64 n))),(4,.data (.val (.int .i64 o)))]) (λ(q:(Int)×(Int)×(List Bool))=>match q with |(n,o,pu)=>[(1,.cells (c.cs.map .data)),(17,.arr 0 1 (pu.map boolC))]) [1,5] (λi0 r0 q=>match q with |(n,o,pu)=>Gi c R r0 n o pu),?_⟩;refine ag ((0),(0),(List.replicate c.lines.length false)) ?_ ?_ (λi0 ⟨n,o,pu⟩ hd0 hI0=>?_) (λi0 x0 r0 ⟨n,o,pu⟩ hd0 hl0 hI0=>?_))
  |(refine ah hd0 (?_,?_,?_) ?_ ?_)
  |((refine ak ?_ ?_ ?_);rotate_left;(first |exact qB _ (by assumption) |exact zx _ |exact Gp _ _))
  |((refine aG ?_ ?_ ?_ ?_ ?_);exact rfl;exact rfl;rotate_left;(exact aC hd0))
  |((refine aN ?_ ?_);exact rfl)
  |((refine bu ?_ ?_ (λhg=>?_) ?_);exact rfl)
  |((refine dB ?_ ?_);exact rfl;exact rfl)
  |((refine ai ?_);refine⟨[],rfl,?_,trivial⟩;conv=>whnf)
  |(refine And.intro ?_ ?_)
  |exact @rfl AV _
  |fail)
 all_goals first
  |((exact Oo hR g3))
  |((have hq:=VV hI0 h;rw[hq];rfl))
  |((have hq:=VW hI0 h;rw[hq];rfl))
  |((refine congrArg (λz=>D.i (okE z)) (ZO hI0 ?_ ?_).symm<;>assumption))
  |((refine congrArg (λz=>D.i (okE z)) (ZP hI0 ?_ ?_ ?_ ?_).symm<;>assumption))
  |((refine ZQ hI0 ?_ ?_ ?_ ?_ ?_<;>assumption))
  |((refine ZR hI0 ?_ ?_ ?_ ?_ ?_<;>assumption))
  |((refine ZT hI0 ?_ ?_ ?_ ?_<;>assumption))
  |((refine ZU hI0 ?_ ?_ ?_ ?_<;>assumption))
  |skip
theorem Jr(c:Cd)(g:c.Sm):PCall Tryz.prog 11 [c.d] (.ret (.i (okE (Su c)))):=by
 unfold Su
 cases hd:Jk c with
 |false=>exact Ou c g hd
 |true=>exact SX c _ g hd rfl
end Go.Proofs.YthpbakljheeabaaGreatDoor
