/- A part of the proof. -/
import Derived.Test.YtaipffoajgkljaaGreatDoorZMC
import Derived.Test.YtaipffoajgkljaaGreatDoorZE
import Derived.Test.YtaipffoajgkljaaGreatDoorZK6
set_option linter.all false
set_option maxHeartbeats 4000000
namespace Go.Proofs.YtaipffoajgkljaaGreatDoor
open Go.Fw Go.Fw.Mac
set_option maxRecDepth 10000
variable [af]
theorem MX(n:Nat)(hn:n<=1073741824):LCall Tryz.prog 95 [.nilsl 3,.data (.val (.int .i64 n))] [] (.ret (.gs 1000000 3 [])) [(1000000,.tok 3 0)]:=
 WZ tok Tryz.growB ⟨_,Tryz.func95,by kernel_rfl,by kernel_rfl⟩ (by decide) (by kernel_rfl) (by decide +kernel) (by kernel_rfl) (by omega) (by kernel_rfl) n (by
  have:(Tryz.T.at (Tryz.growB_ren.t 25)).bytes=32:=by kernel_rfl
  rw[this];omega) (by omega)
theorem JB(ls:List (List Bd))(hs:lens ls<=1073741824)(hn:ls.length<=1073741824):LCall Tryz.prog 86 [.gs 1000001 1 (ls.map U0)] [(1000001,.tok 1 (ls.map U0).length)] (.ret (.gs 1000000 3 (ls.flatten.map Bd.cs))) [(1000000,.tok 3 (ls.flatten.map Bd.cs).length),(1000001,.tok 1 (ls.map U0).length)]:=by
 refine jK Tryz.func86 λhf=>?_
 have hlen:ls.length<=9223372036854775807:=by omega
 clear hf
 repeat' ((try conv=>whnf)<;>first
  |with_reducible exact trivial
  |with_reducible exact aj hd2 ‹_›
  |with_reducible exact aj hd0 ‹_›
  |with_reducible refine aZ hd2 ?_
  |with_reducible refine aZ hd0 ?_
  |with_reducible refine aK hd2 ?_
  |with_reducible refine aK hd0 ?_
  |with_reducible refine BrI.intro (λh=>?_) (λh=>?_)
  |((with_reducible refine ak.mk 0 ?_);refine⟨aB (ls) 11 (λ(n:(Nat))=>[(3,.data (.val (.int .i64 (n:Int))))]) (λ(n:(Nat))=>[(1000001,.tok 1 (ls.map U0).length)]) [0,9,10] (λi0 r0 n=>lens ls=n+lens r0),?_⟩;with_reducible refine ag (0) ?_ ?_ (λi0 (n:(Nat)) hd0 hI0=>?_) (λi0 x0 r0 (n:(Nat)) hd0 hl0 hI0=>?_))
  |with_reducible refine ah hd0 (n+x0.length) ?_ ?_
  |((with_reducible refine ak.mk 2 ?_);refine⟨aB (ls) 27 (λ(out:(List Bd))=>[(6,.gs 800000 3 (out.map Bd.cs))]) (λ(out:(List Bd))=>[(1000001,.tok 1 (ls.map U0).length),(800000,.tok 3 (out.map Bd.cs).length)]) [25,26] (λi2 r2 out=>ls.flatten=out++r2.flatten),?_⟩;with_reducible refine ag [] ?_ ?_ (λi2 (out:(List Bd)) hd2 hI2=>?_) (λi2 x2 r2 (out:(List Bd)) hd2 hl2 hI2=>?_))
  |with_reducible refine ah hd2 ?_ ?_ ?_
  |((with_reducible refine eP [(1000000,800000)] (MX n (by rw[FH]at hI0;omega)) ?_ ?_ ?_ ?_);rotate_left 0;exact rfl;exact trivial;exact rfl)
  |((with_reducible refine aP ?_);refine fin_step' [(1000000,800000),(1000001,1000001)] rfl ?_ ?_)
  |((with_reducible refine au ?_ ?_ ?_ ?_ ?_);exact rfl;exact rfl;rotate_left;(first |with_reducible exact ax hd2 |with_reducible exact ax hd0))
  |((with_reducible refine app_step' ?_ ?_ ?_ ?_ ?_ ?_ ?_);exact rfl;exact rfl;exact rfl;exact rfl)
  |with_reducible refine And.intro ?_ ?_
  |((with_reducible refine qo ?_ ?_ ?_);exact rfl;exact rfl;(first |with_reducible exact Fz |exact rfl |skip))
  |((with_reducible refine iK ?_ ?_);exact rfl;(first |with_reducible exact Fz |skip))
  |((with_reducible refine bz ?_);refine fB ?_ ?_ ?_;exact rfl;exact rfl;(first |skip))
  |exact @rfl AV _
  |exact @rfl Block _
  |fail)
 all_goals(try simp only[xe]at *)
 all_goals first
  |omega
  |(rw[lens_cons]at hI0;omega)
  |(have hq:=congrArg List.length hI2;simp only[AU,List.length_append,lens_cons,List.length_map]at hq ⊢;omega)
  |(rw[hI2];simp;done)
  |(exfalso;rw[lens_cons]at hI0;rw[uV (b:=x0.length) (by omega),decide_eq_true_eq]at h;omega)
  |(rw[lens_cons]at hI0;(try(conv=>whnf));exact congrArg (λz=>AV.data (D.val (Value.int IntKind.i64 z))) (uV (b:=x0.length) (by omega)))
  |rfl
theorem BA(lo hi:Int)  : PCall Tryz.prog 85 [.i lo,.i hi] (.ret (.b (wrongM lo hi))):=by
 refine ay Tryz.func85 ?_
 repeat' ((try conv=>whnf)<;>first
  |(refine cO ?_;conv=>whnf)
  |fail)
 all_goals rfl
theorem MZ(n:Int)  : LCall Tryz.prog 87 [.data (.i n),.ptr 1000000 0] [(1000000,.cells [.fn 85 []])] (.ret (.data (.b (wrongM n n)))) [(1000000,.cells [.fn 85 []])]:=by
 refine dC Tryz.func87 ?_
 repeat' ((try conv=>whnf)<;>first
  |exact trivial
  |((refine ai ?_ ?_ ?_);rotate_left;exact BA n n)
  |((refine aP ?_);refine fin_step' [] rfl ?_ ?_)
  |refine And.intro ?_ ?_
  |exact @rfl AV _
  |fail)
theorem Na(l:List Int)(hl:l.length<=1073741824):LCall Tryz.prog 94 [.data (ints l),.fn 87 [.ptr 1000000 0]] [(1000000,.cells [.fn 85 []])] (.ret (.data (.i (firstW l 0)))) [(1000000,.cells [.fn 85 []])]:=by
 refine jK Tryz.func94 λhf=>?_
 have hlen:l.length<=9223372036854775807:=by omega
 clear hf
 repeat' ((try conv=>whnf)<;>first
  |exact trivial
  |exact aj hd0 ‹_›
  |refine aZ hd0 ?_
  |refine aK hd0 ?_
  |refine BrI.intro (λh=>?_) (λh=>?_)
  |((refine ak.mk 0 ?_);refine⟨aB (l) 8 (λ(_:Unit)=>[]) (λ(_:Unit)=>[(1000000,.cells [.fn 85 []])]) [0,1,7] (λi0 r0 _=>firstW l 0=firstW r0 i0),?_⟩;refine ag () ?_ ?_ (λi0 (_:Unit) hd0 hI0=>?_) (λi0 x0 r0 (_:Unit) hd0 hl0 hI0=>?_))
  |refine ah hd0 () ?_ ?_
  |((refine lent_step' [(1000000,1000000)] (MZ x0) ?_ ?_ ?_ ?_);rotate_left 0;exact rfl;(exact⟨rfl,trivial⟩);exact rfl)
  |((refine aP ?_);refine fin_step' [] rfl ?_ ?_)
  |((refine au ?_ ?_ ?_ ?_ ?_);exact rfl;exact rfl;rotate_left;exact ax hd0)
  |refine And.intro ?_ ?_
  |exact @rfl AV _
  |fail)
 all_goals first
  |(rw[hI0];(try simp only[firstW,Bool.not_true,Bool.not_false,Bool.and_true,Bool.true_and,Bool.and_false,Bool.false_and,Bool.or_true,Bool.true_or,Bool.or_false,Bool.false_or,if_true,if_false,reduceIte,Bool.false_eq_true,Bool.not_not,Bool.not_eq_true',beq_self_eq_true,List.all_cons,List.all_nil,List.any_cons,List.any_nil,List.length_map,bne,eq_self,Int.toNat_zero, *]);first |done |rfl)
  |(simp_all[firstW];done)
theorem CB(l:List Int)(hl:l.length<=1073741824):LCall Tryz.prog 50 [.data (ints l),.fn 87 [.ptr 1000000 0]] [(1000000,.cells [.fn 85 []])] (.ret (.data (.b (decide (firstW l 0>=0))))) [(1000000,.cells [.fn 85 []])]:=by
 refine dC Tryz.func50 ?_
 repeat' ((try conv=>whnf)<;>first
  |exact trivial
  |((refine lent_step' [(1000000,1000000)] (Na _ hl) ?_ ?_ ?_ ?_);rotate_left 0;exact rfl;(exact⟨rfl,trivial⟩);exact rfl)
  |((refine aP ?_);refine fin_step' [] rfl ?_ ?_)
  |refine And.intro ?_ ?_
  |exact @rfl AV _
  |fail)
theorem vK(l:List Int)  : PCall Tryz.prog 75 [ints l] (.ret (.tuple [.i (mostF l 0 0 0).1,.i (mostF l 0 0 0).2])):=by
 refine dh Tryz.func75 λhf=>?_
 have hlen:l.length<=9223372036854775807:=by simpa using(hf (ints l) (by simp)).sl.1
 clear hf
 repeat' ((try conv=>whnf)<;>first
  |exact trivial
  |exact aj hd0 ‹_›
  |refine aZ hd0 ?_
  |refine aK hd0 ?_
  |refine BrI.intro (λh=>?_) (λh=>?_)
  |((refine ak.mk 0 ?_);refine⟨aB (l) 8 (λ(q:(Int)×(Int))=>match q with |(n,k)=>[(2,.data (.val (.int .i64 n))),(3,.data (.val (.int .i64 k)))]) (λ(q:(Int)×(Int))=>match q with |(n,k)=>[]) [6,7] (λi0 r0 q=>match q with |(n,k)=>mostF l 0 0 0=mostF r0 i0 n k),?_⟩;refine ag ((0),(0)) ?_ ?_ (λi0 ⟨n,k⟩ hd0 hI0=>?_) (λi0 x0 r0 ⟨n,k⟩ hd0 hl0 hI0=>?_))
  |refine ah hd0 (?_,?_) ?_ ?_
  |((refine au ?_ ?_ ?_ ?_ ?_);exact rfl;exact rfl;rotate_left;exact ax hd0)
  |(refine cO ?_;conv=>whnf)
  |refine And.intro ?_ ?_
  |exact @rfl AV _
  |fail)
 all_goals first
  |(rw[hI0];(try simp only[mostF,Bool.not_true,Bool.not_false,Bool.and_true,Bool.true_and,Bool.and_false,Bool.false_and,Bool.or_true,Bool.true_or,Bool.or_false,Bool.false_or,if_true,if_false,reduceIte,Bool.false_eq_true,Bool.not_not,Bool.not_eq_true',beq_self_eq_true,List.all_cons,List.all_nil,List.any_cons,List.any_nil,List.length_map,bne,eq_self,Int.toNat_zero, *]);first |done |rfl)
  |(simp_all[mostF];done)
theorem Nb(c:Cd)(op:Int)  : PCall Tryz.prog 47 [c.d,.i op] (.ret (zgy (effP c op))):=by
 refine ay Tryz.func47 ?_
 repeat' ((try conv=>whnf)<;>first
  |refine BrI.tt ?_
  |refine BrI.intro (λh=>?_) (λh=>?_)
  |refine fD ?_
  |(refine cO ?_;conv=>whnf)
  |fail)
 all_goals first
  |(simp only[effP, *,cond_true,cond_false];done)
  |(simp only[effP, *,cond_true,cond_false,List.length_map];done)
theorem sF(c:Cd)(g:c.Sm):PCall Tryz.prog 46 [c.d] (.ret (.b (decP c))):=by
 refine dh Tryz.func46 λhf=>?_
 have g1:=g.params;have g2:=g.states;have g3:=g.lines;have g4:=g.tables;have g5:=g.instrs;have g6:=g.table
 have hlen3:c.lines.length<=9223372036854775807:=by omega
 have hlen4:c.tables.length<=9223372036854775807:=by omega
 have hlenf:[c.params,c.states].flatten.length=c.params.length+c.states.length:=by simp
 have hlen:[c.params,c.states].flatten.length<=9223372036854775807:=by omega
 clear hf
 repeat' ((try conv=>whnf)<;>first
  |exact trivial
  |exact aj hd4 ‹_›
  |exact aj hd2 ‹_›
  |exact aj hd0 ‹_›
  |refine aZ hd4 ?_
  |refine aZ hd2 ?_
  |refine aZ hd0 ?_
  |refine aK hd4 ?_
  |refine aK hd2 ?_
  |refine aK hd0 ?_
  |refine BrI.intro (λh=>?_) (λh=>?_)
  |((refine ak.mk 0 ?_);refine⟨aB ([c.params,c.states].flatten) 19 (λ(_:Unit)=>[]) (λ(_:Unit)=>[]) [1,3,17,18] (λi0 r0 _=>anyB [c.params,c.states].flatten=anyB r0),?_⟩;refine ag () ?_ ?_ (λi0 (_:Unit) hd0 hI0=>?_) (λi0 x0 r0 (_:Unit) hd0 hl0 hI0=>?_))
  |refine ah hd0 () ?_ ?_
  |((refine ak.mk 2 ?_);refine⟨aB (c.lines) 33 (λ(_:Unit)=>[]) (λ(_:Unit)=>[]) [1,3,31,32] (λi2 r2 _=>anyL c.lines=anyL r2),?_⟩;refine ag () ?_ ?_ (λi2 (_:Unit) hd2 hI2=>?_) (λi2 x2 r2 (_:Unit) hd2 hl2 hI2=>?_))
  |refine ah hd2 () ?_ ?_
  |((refine ak.mk 4 ?_);refine⟨aB (c.tables) 57 (λ(_:Unit)=>[]) (λ(_:Unit)=>[(3,.cells [.fn 85 []]),(1,.cells (c.cs.map .data))]) [1,3,55,56] (λi4 r4 _=>anyT c.tables=anyT r4),?_⟩;refine ag () ?_ ?_ (λi4 (_:Unit) hd4 hI4=>?_) (λi4 x4 r4 (_:Unit) hd4 hl4 hI4=>?_))
  |refine ah hd4 () ?_ ?_
  |((refine ai ?_ ?_ ?_);rotate_left;(first |exact BA _ _ |exact vK [((c.params.map Bd.cs).length:Int),((c.states.map Bd.cs).length:Int),((c.lines.map Ln.cs).length:Int),((c.tables.map lnC).length:Int)]))
  |((refine eP [(1000000,800000),(1000001,16)] (JB [c.params,c.states] (by simp[lens];omega) (by simp)) ?_ ?_ ?_ ?_);rotate_left 0;exact rfl;(exact⟨rfl,trivial⟩);exact rfl)
  |((refine lent_step' [(1000000,3)] (CB x4 (by have:=g6 _ (aX hd4);omega)) ?_ ?_ ?_ ?_);rotate_left 0;exact rfl;(exact⟨rfl,trivial⟩);exact rfl)
  |refine aW.l _ ?_
  |((refine au ?_ ?_ ?_ ?_ ?_);exact rfl;exact rfl;rotate_left;(first |exact ax hd4 |exact ax hd2 |exact ax hd0))
  |refine lY ?_
  |((refine aY ?_ ?_ (λhg=>?_) ?_);exact rfl)
  |((refine bY ?_ ?_);exact rfl;exact rfl)
  |(refine cO ?_;conv=>whnf)
  |refine And.intro ?_ ?_
  |exact @rfl AV _
  |exact @rfl (List AV) _
  |fail)
 all_goals first
  |rfl
  |exact WH hI0 h
  |exact WI hI2 h
  |exact WJ hI4 (by simpa only [badT,List.length_map]using h)
  |exact congrArg D.b (zfb hI0 h).symm
  |exact congrArg D.b (zfc hI2 h).symm
  |exact congrArg D.b (zfd hI4 (by simpa only [badT,List.length_map]using h)).symm
  |(rw[zfe hI0 hI2 hI4];simp only[finP,List.length_map];done)
theorem Rx(c:Cd)(g:c.Sm)(hd:decP c=false):PCall Tryz.prog 12 [c.d] (.ret (.i 200)):=by
 refine ay Tryz.func12 ?_
 repeat' ((try conv=>whnf)<;>first
  |exact Bool.noConfusion ((congrArg Bool.not hd).symm.trans h)
  |refine BrI.intro (λh=>?_) (λh=>?_)
  |((refine ai ?_ ?_ ?_);rotate_left;(exact sF _ (by assumption)))
  |(refine cO ?_;conv=>whnf)
  |fail)
theorem W9(c:Cd)(R:Bool)(g:c.Sm)(hd:decP c=true)(hR:chkP c c.instrs 0 0 (List.replicate c.lines.length false)=R):PCall Tryz.prog 12 [c.d] (.ret (.i (okE R))):=by
 refine dh Tryz.func12 λhf=>?_
 have g3:c.lines.length<=1073741824:=by have:=g.lines;omega
 have g5:=g.instrs
 have hlen:c.instrs.length<=9223372036854775807:=by omega
 clear hf
 repeat' ((try conv=>whnf)<;>first
  |exact Bool.noConfusion ((congrArg Bool.not hd).symm.trans h)
  |refine aW.r 18 ?_
  |exact trivial
  |exact aj hd0 ‹_›
  |refine aZ hd0 ?_
  |refine aK hd0 ?_
  |refine BrI.intro (λh=>?_) (λh=>?_)
  |((refine LP ?_ ?_ ?_ ?_ ?_);exact Int.natCast_nonneg _;exact Int.le_refl _;exact rfl;(rw[List.length_map];omega))
  |((refine jd ?_ ?_ ?_ ?_ ?_);exact rfl;exact rfl;exact rfl;(refine z7z hI0 ?_ ?_);assumption;assumption)
  |((refine jC ?_ ?_ ?_ ?_ ?_ ?_ ?_);exact rfl;exact rfl;rotate_left 2;(refine z2x hI0 ?_ ?_);assumption;assumption;exact rfl)
  |((refine fQ ?_ ?_ ?_ ?_ ?_ ?_ ?_ ?_ ?_);exact rfl;exact rfl;exact rfl;exact rfl;exact fA rfl;exact rfl;rotate_left;(refine z2x hI0 ?_ ?_);assumption;assumption)
  |exact z2z
  |exact z2y
  |((refine ak.mk 0 ?_);refine⟨aB (c.instrs) 22 (λ(q:(Int)×(Int)×(List Bool))=>match q with |(n,o,pu)=>[(3,.data (.val (.int .i64 n))),(4,.data (.val (.int .i64 o)))]) (λ(q:(Int)×(Int)×(List Bool))=>match q with |(n,o,pu)=>[(1,.cells (c.cs.map .data)),(18,.arr 0 1 (pu.map boolC))]) [1,5,20,21] (λi0 r0 q=>match q with |(n,o,pu)=>PS c R r0 n o pu),?_⟩;refine ag ((0),(0),(List.replicate c.lines.length false)) ?_ ?_ (λi0 ⟨n,o,pu⟩ hd0 hI0=>?_) (λi0 x0 r0 ⟨n,o,pu⟩ hd0 hl0 hI0=>?_))
  |refine ah hd0 (?_,?_,?_) ?_ ?_
  |((refine ai ?_ ?_ ?_);rotate_left;(first |exact sF _ (by assumption) |exact Nb _ _))
  |((refine au ?_ ?_ ?_ ?_ ?_);exact rfl;exact rfl;rotate_left;exact ax hd0)
  |refine lY ?_
  |(refine cO ?_;conv=>whnf)
  |refine And.intro ?_ ?_
  |exact @rfl AV _
  |fail)
 all_goals first
  |exact WL hR g3
  |(have hq:=chk_end hI0 h;rw[hq];rfl)
  |(have hq:=z7y hI0 h;rw[hq];rfl)
  |(refine zc3 hI0 ?_ ?_<;>assumption)
  |(have hq:=(by refine zc4 hI0 ?_ ?_ ?_ ?_<;>assumption:R=false);rw[hq];rfl)
  |(refine zc5 hI0 ?_ ?_ ?_ ?_<;>assumption)
  |(refine zff hI0 ?_ ?_ ?_<;>assumption)
theorem BB(c:Cd)(g:c.Sm):PCall Tryz.prog 12 [c.d] (.ret (.i (okE (checkP c)))):=by
 unfold checkP
 cases hd:decP c with
 |false=>exact Rx c g hd
 |true=>exact W9 c _ g hd rfl
theorem BC(op:Int)  : PCall Tryz.prog 39 [.i op] (.ret (zc1 (takesR op))):=by
 refine ay Tryz.func39 ?_
 repeat' ((try conv=>whnf)<;>first
  |refine BrI.tt ?_
  |refine BrI.intro (λh=>?_) (λh=>?_)
  |(refine cO ?_;conv=>whnf)
  |fail)
 all_goals (simp only[takesR, *,cond_true,cond_false];done)
theorem JC(c:Cd)(x:Int×Int)  : PCall Tryz.prog 40 [c.d,.agg (jl x)] (.ret (.b (WG c x.1 x.2))):=by
 refine ay Tryz.func40 ?_
 repeat' ((try conv=>whnf)<;>first
  |refine BrI.tt ?_
  |refine BrI.intro (λh=>?_) (λh=>?_)
  |(refine cO ?_;conv=>whnf)
  |fail)
 all_goals (simp only[WG,Rt, *,cond_true,cond_false,List.length_map];done)
theorem sG(lo hi:Int)  : PCall Tryz.prog 78 [.i lo,.i hi] (.ret (.b (Cj lo hi))):=by
 refine ay Tryz.func78 ?_
 repeat' ((try conv=>whnf)<;>first
  |(refine cO ?_;conv=>whnf)
  |fail)
 all_goals rfl
theorem xY(l:List Bd)(hl:l.length<=268435456):PCall Tryz.prog 77 [.sl 3 (l.map Bd.cs)] (.ret (.b (aJ l))):=by
 refine dh Tryz.func77 λhf=>?_
 have hlen:l.length<=9223372036854775807:=by omega
 clear hf
 repeat' ((try conv=>whnf)<;>first
  |exact trivial
  |exact aj hd0 ‹_›
  |refine aZ hd0 ?_
  |refine aK hd0 ?_
  |refine BrI.intro (λh=>?_) (λh=>?_)
  |((refine ak.mk 0 ?_);refine⟨aB (l) 3 (λ(_:Unit)=>[]) (λ(_:Unit)=>[]) [0] (λi0 r0 _=>allB l=allB r0),?_⟩;refine ag () ?_ ?_ (λi0 (_:Unit) hd0 hI0=>?_) (λi0 x0 r0 (_:Unit) hd0 hl0 hI0=>?_))
  |refine ah hd0 () ?_ ?_
  |((refine ai ?_ ?_ ?_);rotate_left;exact sG _ _)
  |((refine au ?_ ?_ ?_ ?_ ?_);exact rfl;exact rfl;rotate_left;exact ax hd0)
  |refine fD ?_
  |(refine cO ?_;conv=>whnf)
  |refine And.intro ?_ ?_
  |exact @rfl AV _
  |fail)
 all_goals (simp only[aJ,hI0,allB, *,cond_true,cond_false,List.length_map,Bool.not_eq_true',Bool.not_eq_false'];done)
theorem sH(c:Cd)(g:c.Sm):PCall Tryz.prog 38 [c.d] (.ret (.b (Jr c))):=by
 refine dh Tryz.func38 λhf=>?_
 have g1:=g.params;have g2:=g.states;have g3:=g.lines;have g4:=g.tables;have g5:=g.instrs;have g6:=g.table
 have hlen3:c.lines.length<=9223372036854775807:=by omega
 have hlen4:c.tables.length<=9223372036854775807:=by omega
 clear hf
 repeat' ((try conv=>whnf)<;>first
  |exact trivial
  |exact aj hd4 ‹_›
  |exact aj hd2 ‹_›
  |exact aj hd0 ‹_›
  |refine aZ hd4 ?_
  |refine aZ hd2 ?_
  |refine aZ hd0 ?_
  |refine aK hd4 ?_
  |refine aK hd2 ?_
  |refine aK hd0 ?_
  |refine BrI.intro (λh=>?_) (λh=>?_)
  |((refine ak.mk 0 ?_);refine⟨aB (c.lines) 3 (λ(_:Unit)=>[]) (λ(_:Unit)=>[]) [1] (λi0 r0 _=>allL c.lines=allL r0),?_⟩;refine ag () ?_ ?_ (λi0 (_:Unit) hd0 hI0=>?_) (λi0 x0 r0 (_:Unit) hd0 hl0 hI0=>?_))
  |refine ah hd0 () ?_ ?_
  |((refine ak.mk 2 ?_);refine⟨aB (c.tables) 4 (λ(_:Unit)=>[]) (λ(_:Unit)=>[]) [1] (λi2 r2 _=>allT c.tables=allT r2),?_⟩;refine ag () ?_ ?_ (λi2 (_:Unit) hd2 hI2=>?_) (λi2 x2 r2 (_:Unit) hd2 hl2 hI2=>?_))
  |refine ah hd2 () ?_ ?_
  |((refine ak.mk 4 ?_);have hlx:x2.length<=9223372036854775807:=(by have:=g6 _ (aX hd2);omega);refine⟨aB (x2) 5 (λ(_:Unit)=>[]) (λ(_:Unit)=>[]) [1,4] (λi4 r4 _=>Ep x2=Ep r4),?_⟩;refine ag () ?_ ?_ (λi4 (_:Unit) hd4 hI4=>?_) (λi4 x4 r4 (_:Unit) hd4 hl4 hI4=>?_))
  |refine ah hd4 () ?_ ?_
  |((refine ai ?_ ?_ ?_);rotate_left;(first |exact xY _ (by omega) |exact sG _ _ |exact xY _ g1))
  |((refine au ?_ ?_ ?_ ?_ ?_);exact rfl;exact rfl;rotate_left;(first |exact ax hd4 |exact ax hd2 |exact ax hd0))
  |((refine aY ?_ ?_ (λhg=>?_) ?_);exact rfl)
  |((refine tK ?_ ?_ (λhg=>?_) ?_);exact rfl)
  |((refine bY ?_ ?_);exact rfl;exact rfl)
  |refine fD ?_
  |(refine cO ?_;conv=>whnf)
  |refine And.intro ?_ ?_
  |exact @rfl AV _
  |fail)
 all_goals first
  |exact congrArg D.b (zc6 (zdb h)).symm
  |exact congrArg D.b (zc7 hI0 h).symm
  |exact WN hI0 h
  |exact congrArg D.b (zc8 hI2 (zfg h)).symm
  |(refine congrArg D.b (zc9 hI2 (zfg ?_) hI4 h).symm;assumption)
  |exact WO hI4 h
  |(refine WP hI2 (zfg ?_) hI4;assumption)
  |(refine Eq.trans ?_ (congrArg D.b (zda (zdb ?_) hI0 hI2).symm);(rw[List.length_map];rfl);assumption)
theorem Ry(c:Cd)(g:c.Sm)(hd:Jr c=false):PCall Tryz.prog 8 [c.d] (.ret (.i 200)):=by
 refine ay Tryz.func8 ?_
 repeat' ((try conv=>whnf)<;>first
  |exact Bool.noConfusion ((congrArg Bool.not hd).symm.trans h)
  |refine BrI.intro (λh=>?_) (λh=>?_)
  |((refine ai ?_ ?_ ?_);rotate_left;(exact sH _ (by assumption)))
  |(refine cO ?_;conv=>whnf)
  |fail)
theorem Xa(c:Cd)(R:Bool)(g:c.Sm)(hd:Jr c=true)(hR:MR c c.instrs 0 0 (List.replicate c.lines.length false)=R):PCall Tryz.prog 8 [c.d] (.ret (.i (okE R))):=by
 refine dh Tryz.func8 λhf=>?_
 have g3:c.lines.length<=1073741824:=by have:=g.lines;omega
 have g5:=g.instrs
 have hlen:c.instrs.length<=9223372036854775807:=by omega
 clear hf
 repeat' ((try conv=>whnf)<;>first
  |exact Bool.noConfusion ((congrArg Bool.not hd).symm.trans h)
  |refine aW.r 17 ?_
  |exact trivial
  |exact aj hd0 ‹_›
  |refine aZ hd0 ?_
  |refine aK hd0 ?_
  |refine BrI.intro (λh=>?_) (λh=>?_)
  |((refine LP ?_ ?_ ?_ ?_ ?_);exact Int.natCast_nonneg _;exact Int.le_refl _;exact rfl;(rw[List.length_map];omega))
  |((refine jd ?_ ?_ ?_ ?_ ?_);exact rfl;exact rfl;exact rfl;(refine ZA hI0 ?_ ?_);assumption;assumption)
  |((refine jC ?_ ?_ ?_ ?_ ?_ ?_ ?_);exact rfl;exact rfl;rotate_left 2;(refine WR hI0 ?_ ?_);assumption;assumption;exact rfl)
  |((refine fQ ?_ ?_ ?_ ?_ ?_ ?_ ?_ ?_ ?_);exact rfl;exact rfl;exact rfl;exact rfl;exact fA rfl;exact rfl;rotate_left;(refine WR hI0 ?_ ?_);assumption;assumption)
  |exact z2z
  |exact z2y
  |((refine ak.mk 0 ?_);refine⟨aB (c.instrs) 6 (λ(q:(Int)×(Int)×(List Bool))=>match q with |(n,o,pu)=>[(3,.data (.val (.int .i64 n))),(4,.data (.val (.int .i64 o)))]) (λ(q:(Int)×(Int)×(List Bool))=>match q with |(n,o,pu)=>[(1,.cells (c.cs.map .data)),(17,.arr 0 1 (pu.map boolC))]) [1,5] (λi0 r0 q=>match q with |(n,o,pu)=>Jt c R r0 n o pu),?_⟩;refine ag ((0),(0),(List.replicate c.lines.length false)) ?_ ?_ (λi0 ⟨n,o,pu⟩ hd0 hI0=>?_) (λi0 x0 r0 ⟨n,o,pu⟩ hd0 hl0 hI0=>?_))
  |refine ah hd0 (?_,?_,?_) ?_ ?_
  |((refine ai ?_ ?_ ?_);rotate_left;(first |exact sH _ (by assumption) |exact BC _ |exact JC _ _))
  |((refine au ?_ ?_ ?_ ?_ ?_);exact rfl;exact rfl;rotate_left;exact ax hd0)
  |refine lY ?_
  |((refine aY ?_ ?_ (λhg=>?_) ?_);exact rfl)
  |((refine bY ?_ ?_);exact rfl;exact rfl)
  |(refine cO ?_;conv=>whnf)
  |refine And.intro ?_ ?_
  |exact @rfl AV _
  |fail)
 all_goals first
  |exact Rw hR g3
  |(have hq:=Zy hI0 h;rw[hq];rfl)
  |(have hq:=Zz hI0 h;rw[hq];rfl)
  |(refine congrArg (λz=>D.i (okE z)) (z8a hI0 ?_ ?_).symm<;>assumption)
  |(refine congrArg (λz=>D.i (okE z)) (z8b hI0 ?_ ?_ ?_ ?_).symm<;>assumption)
  |(refine z8c hI0 ?_ ?_ ?_ ?_ ?_<;>assumption)
  |(refine z8d hI0 ?_ ?_ ?_ ?_ ?_<;>assumption)
  |(refine z8e hI0 ?_ ?_ ?_ ?_<;>assumption)
  |(refine z8f hI0 ?_ ?_ ?_ ?_<;>assumption)
theorem BD(c:Cd)(g:c.Sm):PCall Tryz.prog 8 [c.d] (.ret (.i (okE (Js c)))):=by
 unfold Js
 cases hd:Jr c with
 |false=>exact Ry c g hd
 |true=>exact Xa c _ g hd rfl
end Go.Proofs.YtaipffoajgkljaaGreatDoor
