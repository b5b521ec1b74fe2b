/- Contracts: what is checked of a code, by the program. -/
import Derived.Test.YthpbakljheeabaaGreatDoorZMA
import Derived.Test.YthpbakljheeabaaGreatDoorZE
import Derived.Test.YthpbakljheeabaaGreatDoorZK6
set_option linter.unusedSectionVars false
set_option linter.unusedSimpArgs false
set_option linter.unusedVariables false
set_option maxHeartbeats 4000000
namespace Go.Proofs.YthpbakljheeabaaGreatDoor
open Go.Fw Go.Fw.Mac
set_option maxRecDepth 10000
variable [ah]
theorem JR(n:Nat)(hn:n<=1073741824):LCall Tryz.prog 65 [.nilsl 3,.data (.val (.int .i64 n))] [] (.ret (.gs 1000000 3 [])) [(1000000,.tok 3 0)]:=
 TZ tok Tryz.growB ⟨_,Tryz.func65,by kernel_rfl,by kernel_rfl⟩ (by decide) (by kernel_rfl) (by decide +kernel) (by kernel_rfl) (by omega) (by kernel_rfl) n (by
  have:(Tryz.T.at (Tryz.growB_ren.t 25)).bytes=32:=by kernel_rfl
  rw[this];omega) (by omega)
theorem Ha(ls:List (List Bd))(hs:lens ls<=1073741824)(hn:ls.length<=1073741824):LCall Tryz.prog 43 [.gs 1000001 1 (ls.map RG)] [(1000001,.tok 1 (ls.map RG).length)] (.ret (.gs 1000000 3 (ls.flatten.map Bd.cs))) [(1000000,.tok 3 (ls.flatten.map Bd.cs).length),(1000001,.tok 1 (ls.map RG).length)]:=by
 refine jJ Tryz.func43 λhf=>?_
 have hlen:ls.length<=9223372036854775807:=by omega
 clear hf
 repeat' ((try(conv=>whnf))<;>first
  |with_reducible exact trivial
  |with_reducible exact aj hd2 ‹_›
  |with_reducible exact aj hd0 ‹_›
  |with_reducible refine bu hd2 ?_
  |with_reducible refine bu hd0 ?_
  |with_reducible refine aN hd2 ?_
  |with_reducible refine aN hd0 ?_
  |with_reducible refine BrI.intro (λh=>?_) (λh=>?_)
  |((with_reducible refine au.mk 0 ?_);refine⟨aF (ls) 11 (λ(n:(Nat))=>[(3,.data (.val (.int .i64 (n:Int))))]) (λ(n:(Nat))=>[(1000001,.tok 1 (ls.map RG).length)]) [0,9,10] (λi0 r0 n=>lens ls=n+lens r0),?_⟩;with_reducible refine af (0) ?_ ?_ (λi0 (n:(Nat)) hd0 hI0=>?_) (λi0 x0 r0 (n:(Nat)) hd0 hl0 hI0=>?_))
  |(with_reducible refine ag hd0 (n+x0.length) ?_ ?_)
  |((with_reducible refine au.mk 2 ?_);refine⟨aF (ls) 27 (λ(out:(List Bd))=>[(6,.gs 800000 3 (out.map Bd.cs))]) (λ(out:(List Bd))=>[(1000001,.tok 1 (ls.map RG).length),(800000,.tok 3 (out.map Bd.cs).length)]) [25,26] (λi2 r2 out=>ls.flatten=out++r2.flatten),?_⟩;with_reducible refine af [] ?_ ?_ (λi2 (out:(List Bd)) hd2 hI2=>?_) (λi2 x2 r2 (out:(List Bd)) hd2 hl2 hI2=>?_))
  |(with_reducible refine ag hd2 ?_ ?_ ?_)
  |((with_reducible refine gm [(1000000,800000)] (JR n (by rw[DZ]at hI0;omega)) ?_ ?_ ?_ ?_);rotate_left 0;exact rfl;(exact trivial);exact rfl)
  |((with_reducible refine aI ?_);refine fin_step' [(1000000,800000),(1000001,1000001)] rfl ?_ ?_)
  |((with_reducible refine ay ?_ ?_ ?_ ?_ ?_);exact rfl;exact rfl;rotate_left;(first |with_reducible exact ax hd2 |with_reducible exact ax hd0))
  |((with_reducible refine app_step' ?_ ?_ ?_ ?_ ?_ ?_ ?_);exact rfl;exact rfl;exact rfl;exact rfl)
  |(with_reducible refine And.intro ?_ ?_)
  |((with_reducible refine rP ?_ ?_ ?_);exact rfl;exact rfl;(first |with_reducible exact DW |exact rfl |skip))
  |((with_reducible refine jl ?_ ?_);exact rfl;(first |with_reducible exact DW |skip))
  |((with_reducible refine bF ?_);refine gp ?_ ?_ ?_;exact rfl;exact rfl;(first |skip))
  |exact @rfl AV _
  |exact @rfl Block _
  |fail)
 all_goals(try simp only[csimp]at *)
 all_goals first
  |omega
  |((rw[lens_cons]at hI0;omega))
  |((have hq:=congrArg List.length hI2;simp only[zJ,List.length_append,lens_cons,List.length_map]at hq ⊢;omega))
  |((rw[hI2];simp;done))
  |((exfalso;rw[lens_cons]at hI0;rw[uj (b:=x0.length) (by omega),decide_eq_true_eq]at h;omega))
  |((rw[lens_cons]at hI0;(try(conv=>whnf));exact congrArg (λz=>AV.data (D.val (Value.int IntKind.i64 z))) (uj (b:=x0.length) (by omega))))
  |(rfl)
  |skip
theorem zV(lo hi:Int)  : PCall Tryz.prog 42 [.i lo,.i hi] (.ret (.b (wrongM lo hi))):=by
 refine aJ Tryz.func42 ?_
 repeat' ((try(conv=>whnf))<;>first
  |(refine fA ?_;conv=>whnf)
  |fail)
 all_goals first
  |(rfl)
  |skip
theorem JS(n:Int)  : LCall Tryz.prog 45 [.data (.i n),.ptr 1000000 0] [(1000000,.cells [.fn 42 []])] (.ret (.data (.b (wrongM n n)))) [(1000000,.cells [.fn 42 []])]:=by
 refine dX Tryz.func45 ?_
 repeat' ((try(conv=>whnf))<;>first
  |exact trivial
  |((refine ai ?_ ?_ ?_);rotate_left;(exact zV n n))
  |((refine aI ?_);refine fin_step' [] rfl ?_ ?_)
  |(refine And.intro ?_ ?_)
  |exact @rfl AV _
  |fail)
 all_goals first
  |skip
theorem JU(l:List Int)(hl:l.length<=1073741824):LCall Tryz.prog 66 [.data (ints l),.fn 45 [.ptr 1000000 0]] [(1000000,.cells [.fn 42 []])] (.ret (.data (.i (firstW l 0)))) [(1000000,.cells [.fn 42 []])]:=by
 refine jJ Tryz.func66 λhf=>?_
 have hlen:l.length<=9223372036854775807:=by omega
 clear hf
 repeat' ((try(conv=>whnf))<;>first
  |exact trivial
  |exact aj hd0 ‹_›
  |refine bu hd0 ?_
  |refine aN hd0 ?_
  |refine BrI.intro (λh=>?_) (λh=>?_)
  |((refine au.mk 0 ?_);refine⟨aF (l) 8 (λ(_:Unit)=>[]) (λ(_:Unit)=>[(1000000,.cells [.fn 42 []])]) [0,1,7] (λi0 r0 _=>firstW l 0=firstW r0 i0),?_⟩;refine af () ?_ ?_ (λi0 (_:Unit) hd0 hI0=>?_) (λi0 x0 r0 (_:Unit) hd0 hl0 hI0=>?_))
  |(refine ag hd0 () ?_ ?_)
  |((refine lent_step' [(1000000,1000000)] (JS x0) ?_ ?_ ?_ ?_);rotate_left 0;exact rfl;(exact⟨rfl,trivial⟩);exact rfl)
  |((refine aI ?_);refine fin_step' [] rfl ?_ ?_)
  |((refine ay ?_ ?_ ?_ ?_ ?_);exact rfl;exact rfl;rotate_left;(exact ax hd0))
  |(refine And.intro ?_ ?_)
  |exact @rfl AV _
  |fail)
 all_goals first
  |(rw[hI0];(try simp only[firstW,Bool.not_true,Bool.not_false,Bool.and_true,Bool.true_and,Bool.and_false,Bool.false_and,Bool.or_true,Bool.true_or,Bool.or_false,Bool.false_or,if_true,if_false,reduceIte,Bool.false_eq_true,Bool.not_not,Bool.not_eq_true',beq_self_eq_true,List.all_cons,List.all_nil,List.any_cons,List.any_nil,List.length_map,bne,eq_self,Int.toNat_zero, *]);first |done |rfl)
  |((simp_all[firstW];done))
  |skip
theorem AP(l:List Int)(hl:l.length<=1073741824):LCall Tryz.prog 44 [.data (ints l),.fn 45 [.ptr 1000000 0]] [(1000000,.cells [.fn 42 []])] (.ret (.data (.b (decide (firstW l 0>=0))))) [(1000000,.cells [.fn 42 []])]:=by
 refine dX Tryz.func44 ?_
 repeat' ((try(conv=>whnf))<;>first
  |exact trivial
  |((refine lent_step' [(1000000,1000000)] (JU _ hl) ?_ ?_ ?_ ?_);rotate_left 0;exact rfl;(exact⟨rfl,trivial⟩);exact rfl)
  |((refine aI ?_);refine fin_step' [] rfl ?_ ?_)
  |(refine And.intro ?_ ?_)
  |exact @rfl AV _
  |fail)
 all_goals first
  |skip
theorem uD(l:List Int)  : PCall Tryz.prog 46 [ints l] (.ret (.tuple [.i (mostF l 0 0 0).1,.i (mostF l 0 0 0).2])):=by
 refine dA Tryz.func46 λhf=>?_
 have hlen:l.length<=9223372036854775807:=by simpa using(hf (ints l) (by simp)).sl.1
 clear hf
 repeat' ((try(conv=>whnf))<;>first
  |exact trivial
  |exact aj hd0 ‹_›
  |refine bu hd0 ?_
  |refine aN hd0 ?_
  |refine BrI.intro (λh=>?_) (λh=>?_)
  |((refine au.mk 0 ?_);refine⟨aF (l) 8 (λ(q:(Int)×(Int))=>match q with |(n,k)=>[(2,.data (.val (.int .i64 n))),(3,.data (.val (.int .i64 k)))]) (λ(q:(Int)×(Int))=>match q with |(n,k)=>[]) [6,7] (λi0 r0 q=>match q with |(n,k)=>mostF l 0 0 0=mostF r0 i0 n k),?_⟩;refine af ((0),(0)) ?_ ?_ (λi0 ⟨n,k⟩ hd0 hI0=>?_) (λi0 x0 r0 ⟨n,k⟩ hd0 hl0 hI0=>?_))
  |(refine ag hd0 (?_,?_) ?_ ?_)
  |((refine ay ?_ ?_ ?_ ?_ ?_);exact rfl;exact rfl;rotate_left;(exact ax hd0))
  |(refine fA ?_;conv=>whnf)
  |(refine And.intro ?_ ?_)
  |exact @rfl AV _
  |fail)
 all_goals first
  |(rw[hI0];(try simp only[mostF,Bool.not_true,Bool.not_false,Bool.and_true,Bool.true_and,Bool.and_false,Bool.false_and,Bool.or_true,Bool.true_or,Bool.or_false,Bool.false_or,if_true,if_false,reduceIte,Bool.false_eq_true,Bool.not_not,Bool.not_eq_true',beq_self_eq_true,List.all_cons,List.all_nil,List.any_cons,List.any_nil,List.length_map,bne,eq_self,Int.toNat_zero, *]);first |done |rfl)
  |((simp_all[mostF];done))
  |skip
theorem JV(c:Cd)(op:Int)  : PCall Tryz.prog 20 [c.d,.i op] (.ret (zab (effP c op))):=by
 refine aJ Tryz.func20 ?_
 repeat' ((try(conv=>whnf))<;>first
  |refine BrI.tt ?_
  |refine BrI.intro (λh=>?_) (λh=>?_)
  |((refine ak ?_ ?_);kernel_rfl)
  |(refine fA ?_;conv=>whnf)
  |fail)
 all_goals first
  |((simp only[effP, *,cond_true,cond_false];done))
  |((simp only[effP, *,cond_true,cond_false,List.length_map];done))
  |skip
theorem qP(c:Cd)(g:c.Sm):PCall Tryz.prog 19 [c.d] (.ret (.b (decP c))):=by
 refine dA Tryz.func19 λhf=>?_
 have g1:=g.params;have g2:=g.states;have g3:=g.lines;have g4:=g.tables;have g5:=g.instrs;have g6:=g.table
 have hlen3:c.lines.length<=9223372036854775807:=by omega
 have hlen4:c.tables.length<=9223372036854775807:=by omega
 have hlenf:[c.params,c.states].flatten.length=c.params.length+c.states.length:=by simp
 have hlen:[c.params,c.states].flatten.length<=9223372036854775807:=by omega
 clear hf
 repeat' ((try(conv=>whnf))<;>first
  |exact trivial
  |exact aj hd4 ‹_›
  |exact aj hd2 ‹_›
  |exact aj hd0 ‹_›
  |refine bu hd4 ?_
  |refine bu hd2 ?_
  |refine bu hd0 ?_
  |refine aN hd4 ?_
  |refine aN hd2 ?_
  |refine aN hd0 ?_
  |refine BrI.intro (λh=>?_) (λh=>?_)
  |((refine au.mk 0 ?_);refine⟨aF ([c.params,c.states].flatten) 19 (λ(_:Unit)=>[]) (λ(_:Unit)=>[]) [1,3,17,18] (λi0 r0 _=>anyB [c.params,c.states].flatten=anyB r0),?_⟩;refine af () ?_ ?_ (λi0 (_:Unit) hd0 hI0=>?_) (λi0 x0 r0 (_:Unit) hd0 hl0 hI0=>?_))
  |(refine ag hd0 () ?_ ?_)
  |((refine au.mk 2 ?_);refine⟨aF (c.lines) 33 (λ(_:Unit)=>[]) (λ(_:Unit)=>[]) [1,3,31,32] (λi2 r2 _=>anyL c.lines=anyL r2),?_⟩;refine af () ?_ ?_ (λi2 (_:Unit) hd2 hI2=>?_) (λi2 x2 r2 (_:Unit) hd2 hl2 hI2=>?_))
  |(refine ag hd2 () ?_ ?_)
  |((refine au.mk 4 ?_);refine⟨aF (c.tables) 57 (λ(_:Unit)=>[]) (λ(_:Unit)=>[(3,.cells [.fn 42 []]),(1,.cells (c.cs.map .data))]) [1,3,55,56] (λi4 r4 _=>anyT c.tables=anyT r4),?_⟩;refine af () ?_ ?_ (λi4 (_:Unit) hd4 hI4=>?_) (λi4 x4 r4 (_:Unit) hd4 hl4 hI4=>?_))
  |(refine ag hd4 () ?_ ?_)
  |((refine ai ?_ ?_ ?_);rotate_left;(first |exact zV _ _ |exact uD [((c.params.map Bd.cs).length:Int),((c.states.map Bd.cs).length:Int),((c.lines.map Ln.cs).length:Int),((c.tables.map lnC).length:Int)]))
  |((refine gm [(1000000,800000),(1000001,16)] (Ha [c.params,c.states] (by simp[lens];omega) (by simp)) ?_ ?_ ?_ ?_);rotate_left 0;exact rfl;(exact⟨rfl,trivial⟩);exact rfl)
  |((refine lent_step' [(1000000,3)] (AP x4 (by have:=g6 _ (bn hd4);omega)) ?_ ?_ ?_ ?_);rotate_left 0;exact rfl;(exact⟨rfl,trivial⟩);exact rfl)
  |(refine aZ.l _ ?_)
  |((refine ay ?_ ?_ ?_ ?_ ?_);exact rfl;exact rfl;rotate_left;(first |exact ax hd4 |exact ax hd2 |exact ax hd0))
  |((refine aK ?_ ?_);exact rfl)
  |((refine bD ?_ ?_ (λhg=>?_) ?_);exact rfl)
  |((refine dK ?_ ?_);exact rfl;exact rfl)
  |(refine fA ?_;conv=>whnf)
  |(refine And.intro ?_ ?_)
  |exact @rfl AV _
  |exact @rfl (List AV) _
  |fail)
 all_goals first
  |(rfl)
  |((exact TF hI0 h))
  |((exact TG hI2 h))
  |((exact TJ hI4 (by simpa only [badT,List.length_map]using h)))
  |((exact congrArg D.b (z8m hI0 h).symm))
  |((exact congrArg D.b (z8n hI2 h).symm))
  |((exact congrArg D.b (z8o hI4 (by simpa only [badT,List.length_map]using h)).symm))
  |((rw[z8p hI0 hI2 hI4];simp only[finP,List.length_map];done))
  |skip
theorem O1(c:Cd)(g:c.Sm)(hd:decP c=false):PCall Tryz.prog 10 [c.d] (.ret (.i 200)):=by
 refine aJ Tryz.func10 ?_
 repeat' ((try(conv=>whnf))<;>first
  |(exact Bool.noConfusion ((congrArg Bool.not hd).symm.trans h))
  |refine BrI.intro (λh=>?_) (λh=>?_)
  |((refine ai ?_ ?_ ?_);rotate_left;(exact qP _ (by assumption)))
  |(refine fA ?_;conv=>whnf)
  |fail)
 all_goals first
  |skip
theorem Ua(c:Cd)(R:Bool)(g:c.Sm)(hd:decP c=true)(hR:chkP c c.instrs 0 0 (List.replicate c.lines.length false)=R):PCall Tryz.prog 10 [c.d] (.ret (.i (okE R))):=by
 refine dA Tryz.func10 λhf=>?_
 have g3:c.lines.length<=1073741824:=by have:=g.lines;omega
 have g5:=g.instrs
 have hlen:c.instrs.length<=9223372036854775807:=by omega
 clear hf
 repeat' ((try(conv=>whnf))<;>first
  |(exact Bool.noConfusion ((congrArg Bool.not hd).symm.trans h))
  |(refine aZ.r 18 ?_)
  |exact trivial
  |exact aj hd0 ‹_›
  |refine bu hd0 ?_
  |refine aN hd0 ?_
  |refine BrI.intro (λh=>?_) (λh=>?_)
  |((refine Js ?_ ?_ ?_ ?_ ?_);(exact Int.natCast_nonneg _);(exact Int.le_refl _);exact rfl;(rw[List.length_map];omega))
  |((refine lG ?_ ?_ ?_ ?_ ?_);exact rfl;exact rfl;exact rfl;(refine z0t hI0 ?_ ?_);assumption;assumption)
  |((refine kC ?_ ?_ ?_ ?_ ?_ ?_ ?_);exact rfl;exact rfl;rotate_left 2;(refine Yz hI0 ?_ ?_);assumption;assumption;exact rfl)
  |((refine jC ?_ ?_ ?_ ?_ ?_ ?_ ?_ ?_ ?_);exact rfl;exact rfl;exact rfl;exact rfl;exact jm rfl;exact rfl;rotate_left;(refine Yz hI0 ?_ ?_);assumption;assumption)
  |(exact YB)
  |(exact YA)
  |((refine au.mk 0 ?_);refine⟨aF (c.instrs) 22 (λ(q:(Int)×(Int)×(List Bool))=>match q with |(n,o,pu)=>[(3,.data (.val (.int .i64 n))),(4,.data (.val (.int .i64 o)))]) (λ(q:(Int)×(Int)×(List Bool))=>match q with |(n,o,pu)=>[(1,.cells (c.cs.map .data)),(18,.arr 0 1 (pu.map boolC))]) [1,5,20,21] (λi0 r0 q=>match q with |(n,o,pu)=>MZ c R r0 n o pu),?_⟩;refine af ((0),(0),(List.replicate c.lines.length false)) ?_ ?_ (λi0 ⟨n,o,pu⟩ hd0 hI0=>?_) (λi0 x0 r0 ⟨n,o,pu⟩ hd0 hl0 hI0=>?_))
  |(refine ag hd0 (?_,?_,?_) ?_ ?_)
  |((refine ai ?_ ?_ ?_);rotate_left;(first |exact qP _ (by assumption) |exact JV _ _))
  |((refine ay ?_ ?_ ?_ ?_ ?_);exact rfl;exact rfl;rotate_left;(exact ax hd0))
  |((refine aK ?_ ?_);exact rfl)
  |(refine fA ?_;conv=>whnf)
  |(refine And.intro ?_ ?_)
  |exact @rfl AV _
  |fail)
 all_goals first
  |((exact TK hR g3))
  |((have hq:=chk_end hI0 h;rw[hq];rfl))
  |((have hq:=z0s hI0 h;rw[hq];rfl))
  |((refine z5f hI0 ?_ ?_<;>assumption))
  |((have hq:=(by refine z5g hI0 ?_ ?_ ?_ ?_<;>assumption:R=false);rw[hq];rfl))
  |((refine z5h hI0 ?_ ?_ ?_ ?_<;>assumption))
  |((refine z8q hI0 ?_ ?_ ?_<;>assumption))
  |skip
theorem rV(c:Cd)(g:c.Sm):PCall Tryz.prog 10 [c.d] (.ret (.i (okE (checkP c)))):=by
 unfold checkP
 cases hd:decP c with
 |false=>exact O1 c g hd
 |true=>exact Ua c _ g hd rfl
theorem zW(op:Int)  : PCall Tryz.prog 22 [.i op] (.ret (z5d (takesR op))):=by
 refine aJ Tryz.func22 ?_
 repeat' ((try(conv=>whnf))<;>first
  |refine BrI.tt ?_
  |refine BrI.intro (λh=>?_) (λh=>?_)
  |(refine fA ?_;conv=>whnf)
  |fail)
 all_goals first
  |((simp only[takesR, *,cond_true,cond_false];done))
  |skip
theorem Hf(c:Cd)(x:Int×Int)  : PCall Tryz.prog 23 [c.d,.agg (iT x)] (.ret (.b (TE c x.1 x.2))):=by
 refine aJ Tryz.func23 ?_
 repeat' ((try(conv=>whnf))<;>first
  |refine BrI.tt ?_
  |refine BrI.intro (λh=>?_) (λh=>?_)
  |(refine fA ?_;conv=>whnf)
  |fail)
 all_goals first
  |((simp only[TE,GX, *,cond_true,cond_false,List.length_map];done))
  |skip
theorem qQ(lo hi:Int)  : PCall Tryz.prog 48 [.i lo,.i hi] (.ret (.b (AL lo hi))):=by
 refine aJ Tryz.func48 ?_
 repeat' ((try(conv=>whnf))<;>first
  |(refine fA ?_;conv=>whnf)
  |fail)
 all_goals first
  |(rfl)
  |skip
theorem xh(l:List Bd)(hl:l.length<=268435456):PCall Tryz.prog 47 [.sl 3 (l.map Bd.cs)] (.ret (.b (aH l))):=by
 refine dA Tryz.func47 λhf=>?_
 have hlen:l.length<=9223372036854775807:=by omega
 clear hf
 repeat' ((try(conv=>whnf))<;>first
  |exact trivial
  |exact aj hd0 ‹_›
  |refine bu hd0 ?_
  |refine aN hd0 ?_
  |refine BrI.intro (λh=>?_) (λh=>?_)
  |((refine au.mk 0 ?_);refine⟨aF (l) 3 (λ(_:Unit)=>[]) (λ(_:Unit)=>[]) [0] (λi0 r0 _=>allB l=allB r0),?_⟩;refine af () ?_ ?_ (λi0 (_:Unit) hd0 hI0=>?_) (λi0 x0 r0 (_:Unit) hd0 hl0 hI0=>?_))
  |(refine ag hd0 () ?_ ?_)
  |((refine ai ?_ ?_ ?_);rotate_left;(exact qQ _ _))
  |((refine ay ?_ ?_ ?_ ?_ ?_);exact rfl;exact rfl;rotate_left;(exact ax hd0))
  |((refine ak ?_ ?_);kernel_rfl)
  |(refine fA ?_;conv=>whnf)
  |(refine And.intro ?_ ?_)
  |exact @rfl AV _
  |fail)
 all_goals first
  |((simp only[aH,hI0,allB, *,cond_true,cond_false,List.length_map,Bool.not_eq_true',Bool.not_eq_false'];done))
  |skip
theorem qR(c:Cd)(g:c.Sm):PCall Tryz.prog 21 [c.d] (.ret (.b (GY c))):=by
 refine dA Tryz.func21 λhf=>?_
 have g1:=g.params;have g2:=g.states;have g3:=g.lines;have g4:=g.tables;have g5:=g.instrs;have g6:=g.table
 have hlen3:c.lines.length<=9223372036854775807:=by omega
 have hlen4:c.tables.length<=9223372036854775807:=by omega
 clear hf
 repeat' ((try(conv=>whnf))<;>first
  |exact trivial
  |exact aj hd4 ‹_›
  |exact aj hd2 ‹_›
  |exact aj hd0 ‹_›
  |refine bu hd4 ?_
  |refine bu hd2 ?_
  |refine bu hd0 ?_
  |refine aN hd4 ?_
  |refine aN hd2 ?_
  |refine aN hd0 ?_
  |refine BrI.intro (λh=>?_) (λh=>?_)
  |((refine au.mk 0 ?_);refine⟨aF (c.lines) 3 (λ(_:Unit)=>[]) (λ(_:Unit)=>[]) [1] (λi0 r0 _=>allL c.lines=allL r0),?_⟩;refine af () ?_ ?_ (λi0 (_:Unit) hd0 hI0=>?_) (λi0 x0 r0 (_:Unit) hd0 hl0 hI0=>?_))
  |(refine ag hd0 () ?_ ?_)
  |((refine au.mk 2 ?_);refine⟨aF (c.tables) 4 (λ(_:Unit)=>[]) (λ(_:Unit)=>[]) [1] (λi2 r2 _=>allT c.tables=allT r2),?_⟩;refine af () ?_ ?_ (λi2 (_:Unit) hd2 hI2=>?_) (λi2 x2 r2 (_:Unit) hd2 hl2 hI2=>?_))
  |(refine ag hd2 () ?_ ?_)
  |((refine au.mk 4 ?_);have hlx:x2.length<=9223372036854775807:=(by have:=g6 _ (bn hd2);omega);refine⟨aF (x2) 5 (λ(_:Unit)=>[]) (λ(_:Unit)=>[]) [1,4] (λi4 r4 _=>Cm x2=Cm r4),?_⟩;refine af () ?_ ?_ (λi4 (_:Unit) hd4 hI4=>?_) (λi4 x4 r4 (_:Unit) hd4 hl4 hI4=>?_))
  |(refine ag hd4 () ?_ ?_)
  |((refine ai ?_ ?_ ?_);rotate_left;(first |exact xh _ (by omega) |exact qQ _ _ |exact xh _ g1))
  |((refine ay ?_ ?_ ?_ ?_ ?_);exact rfl;exact rfl;rotate_left;(first |exact ax hd4 |exact ax hd2 |exact ax hd0))
  |((refine bD ?_ ?_ (λhg=>?_) ?_);exact rfl)
  |((refine dK ?_ ?_);exact rfl;exact rfl)
  |((refine ak ?_ ?_);kernel_rfl)
  |(refine fA ?_;conv=>whnf)
  |(refine And.intro ?_ ?_)
  |exact @rfl AV _
  |fail)
 all_goals first
  |((exact congrArg D.b (z5i (z5n h)).symm))
  |((exact congrArg D.b (z5j hI0 h).symm))
  |((exact TM hI0 h))
  |((exact congrArg D.b (z5k hI2 (z8r h)).symm))
  |((refine congrArg D.b (z5l hI2 (z8r ?_) hI4 h).symm;assumption))
  |((exact TN hI4 h))
  |((refine TP hI2 (z8r ?_) hI4;assumption))
  |((refine Eq.trans ?_ (congrArg D.b (z5m (z5n ?_) hI0 hI2).symm);(rw[List.length_map];rfl);assumption))
  |skip
theorem O3(c:Cd)(g:c.Sm)(hd:GY c=false):PCall Tryz.prog 11 [c.d] (.ret (.i 200)):=by
 refine aJ Tryz.func11 ?_
 repeat' ((try(conv=>whnf))<;>first
  |(exact Bool.noConfusion ((congrArg Bool.not hd).symm.trans h))
  |refine BrI.intro (λh=>?_) (λh=>?_)
  |((refine ai ?_ ?_ ?_);rotate_left;(exact qR _ (by assumption)))
  |(refine fA ?_;conv=>whnf)
  |fail)
 all_goals first
  |skip
theorem Ub(c:Cd)(R:Bool)(g:c.Sm)(hd:GY c=true)(hR:JL c c.instrs 0 0 (List.replicate c.lines.length false)=R):PCall Tryz.prog 11 [c.d] (.ret (.i (okE R))):=by
 refine dA Tryz.func11 λhf=>?_
 have g3:c.lines.length<=1073741824:=by have:=g.lines;omega
 have g5:=g.instrs
 have hlen:c.instrs.length<=9223372036854775807:=by omega
 clear hf
 repeat' ((try(conv=>whnf))<;>first
  |(exact Bool.noConfusion ((congrArg Bool.not hd).symm.trans h))
  |(refine aZ.r 17 ?_)
  |exact trivial
  |exact aj hd0 ‹_›
  |refine bu hd0 ?_
  |refine aN hd0 ?_
  |refine BrI.intro (λh=>?_) (λh=>?_)
  |((refine Js ?_ ?_ ?_ ?_ ?_);(exact Int.natCast_nonneg _);(exact Int.le_refl _);exact rfl;(rw[List.length_map];omega))
  |((refine lG ?_ ?_ ?_ ?_ ?_);exact rfl;exact rfl;exact rfl;(refine WR hI0 ?_ ?_);assumption;assumption)
  |((refine kC ?_ ?_ ?_ ?_ ?_ ?_ ?_);exact rfl;exact rfl;rotate_left 2;(refine TR hI0 ?_ ?_);assumption;assumption;exact rfl)
  |((refine jC ?_ ?_ ?_ ?_ ?_ ?_ ?_ ?_ ?_);exact rfl;exact rfl;exact rfl;exact rfl;exact jm rfl;exact rfl;rotate_left;(refine TR hI0 ?_ ?_);assumption;assumption)
  |(exact YB)
  |(exact YA)
  |((refine au.mk 0 ?_);refine⟨aF (c.instrs) 6 (λ(q:(Int)×(Int)×(List Bool))=>match q with |(n,o,pu)=>[(3,.data (.val (.int .i64 n))),(4,.data (.val (.int .i64 o)))]) (λ(q:(Int)×(Int)×(List Bool))=>match q with |(n,o,pu)=>[(1,.cells (c.cs.map .data)),(17,.arr 0 1 (pu.map boolC))]) [1,5] (λi0 r0 q=>match q with |(n,o,pu)=>G5 c R r0 n o pu),?_⟩;refine af ((0),(0),(List.replicate c.lines.length false)) ?_ ?_ (λi0 ⟨n,o,pu⟩ hd0 hI0=>?_) (λi0 x0 r0 ⟨n,o,pu⟩ hd0 hl0 hI0=>?_))
  |(refine ag hd0 (?_,?_,?_) ?_ ?_)
  |((refine ai ?_ ?_ ?_);rotate_left;(first |exact qR _ (by assumption) |exact zW _ |exact Hf _ _))
  |((refine ay ?_ ?_ ?_ ?_ ?_);exact rfl;exact rfl;rotate_left;(exact ax hd0))
  |((refine aK ?_ ?_);exact rfl)
  |((refine bD ?_ ?_ (λhg=>?_) ?_);exact rfl)
  |((refine dK ?_ ?_);exact rfl;exact rfl)
  |(refine fA ?_;conv=>whnf)
  |(refine And.intro ?_ ?_)
  |exact @rfl AV _
  |fail)
 all_goals first
  |((exact O0 hR g3))
  |((have hq:=WP hI0 h;rw[hq];rfl))
  |((have hq:=WQ hI0 h;rw[hq];rfl))
  |((refine congrArg (λz=>D.i (okE z)) (z0u hI0 ?_ ?_).symm<;>assumption))
  |((refine congrArg (λz=>D.i (okE z)) (z0v hI0 ?_ ?_ ?_ ?_).symm<;>assumption))
  |((refine z0w hI0 ?_ ?_ ?_ ?_ ?_<;>assumption))
  |((refine z0x hI0 ?_ ?_ ?_ ?_ ?_<;>assumption))
  |((refine z0y hI0 ?_ ?_ ?_ ?_<;>assumption))
  |((refine z0z hI0 ?_ ?_ ?_ ?_<;>assumption))
  |skip
theorem zX(c:Cd)(g:c.Sm):PCall Tryz.prog 11 [c.d] (.ret (.i (okE (GZ c)))):=by
 unfold GZ
 cases hd:GY c with
 |false=>exact O3 c g hd
 |true=>exact Ub c _ g hd rfl
end Go.Proofs.YthpbakljheeabaaGreatDoor
