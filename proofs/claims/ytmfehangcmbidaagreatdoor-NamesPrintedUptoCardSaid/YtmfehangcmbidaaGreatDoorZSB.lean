/- Contracts: package names: what is deferred. -/
import Derived.Test.YtmfehangcmbidaaGreatDoorZSA
import Derived.Test.YtmfehangcmbidaaGreatDoorZDS
import Derived.Test.YtmfehangcmbidaaGreatDoorZRX
set_option linter.unusedSectionVars false
set_option linter.unusedSimpArgs false
set_option linter.unusedVariables false
set_option maxHeartbeats 4000000
namespace Go.Proofs.YtmfehangcmbidaaGreatDoor
open Go.Fw Go.Fw.Nam Go.Fw.Ref15
set_option maxRecDepth 10000
variable [ae]
theorem jR(c0 c1 c2 c3 c4 c5 c6 c7 e0:AV)(e:Int):Gp Tryz.prog 54 [.ptr 1000000 0,.ptr 1000001 0] (some (.iface 24 (.i e))) [(1000000,.cells [c0,c1,c2,c3,c4,c5,c6,c7]),(1000001,.cells [e0])]
  [(1000000,.cells [.data (.str []),.data (.i 0),.data (.i 0),.nilsl 3,.nilsl 3,.nilsl 4,.nilsl 2,.nilsl 8]),(1000001,.cells [.data (.i e)])]:=by
 refine iJ tok hmix Tryz.func54 rfl (by kernel_rfl) (by kernel_rfl) (by kernel_rfl) ?_
 repeat' ((try(conv=>whnf))<;>first
  |exact trivial
  |(refine⟨([]:List (Nat×Nat)),?_⟩)
  |(refine⟨by kernel_rfl,?_⟩)
  |(refine⟨rfl,?_⟩)
  |(refine⟨?_,?_⟩)
  |fail)
theorem vP(c0 c1 c2 c3 c4 c5 c6 c7 e0:AV)(e:Int)(n:Nat):Gp Tryz.prog 54 [.ptr 1000000 0,.ptr 1000001 0] (some (.iface 24 (.i e))) [(1000000,.cells [c0,c1,c2,c3,c4,c5,c6,c7]),(1000001,.cells [e0]),(1000002,.tok 8 n)]
  [(1000000,.cells [.data (.str []),.data (.i 0),.data (.i 0),.nilsl 3,.nilsl 3,.nilsl 4,.nilsl 2,.nilsl 8]),(1000001,.cells [.data (.i e)]),(1000002,.tok 8 n)]:=by
 refine iJ tok hmix Tryz.func54 rfl (by kernel_rfl) (by kernel_rfl) (by kernel_rfl) ?_
 repeat' ((try(conv=>whnf))<;>first
  |exact trivial
  |(refine⟨([]:List (Nat×Nat)),?_⟩)
  |(refine⟨by kernel_rfl,?_⟩)
  |(refine⟨rfl,?_⟩)
  |(refine⟨?_,?_⟩)
  |fail)
theorem Kz(d0 d1 d2 d3 d4 d5 d6 d7 d8:D):Gp Tryz.prog 54 [.ptr 1000000 0,.ptr 1000001 0] none [(1000000,.cells [.data d0,.data d1,.data d2,.data d3,.data d4,.data d5,.data d6,.data d7]),(1000001,.cells [.data d8])]
  [(1000000,.cells [.data d0,.data d1,.data d2,.data d3,.data d4,.data d5,.data d6,.data d7]),(1000001,.cells [.data d8])]:=by
 refine iJ tok hmix Tryz.func54 rfl (by kernel_rfl) (by kernel_rfl) (by kernel_rfl) ?_
 repeat' ((try(conv=>whnf))<;>first
  |exact trivial
  |(refine⟨([]:List (Nat×Nat)),?_⟩)
  |(refine⟨by kernel_rfl,?_⟩)
  |(refine⟨rfl,?_⟩)
  |(refine⟨?_,?_⟩)
  |fail)
end Go.Proofs.YtmfehangcmbidaaGreatDoor
namespace Go.Proofs.YtmfehangcmbidaaGreatDoor
open Go.Fw Go.Fw.Nam Go.Fw.Ref15
open Go.Fw.Sy (fK)
set_option maxRecDepth 10000
variable [ae]
theorem IA(p:Pr)(hF:Nam.formed p=false):aj Tryz.prog 22 [p.d] (.ret (.tuple [Pr.none.d,.i 1])):=by
 refine bV Tryz.func22 ?_
 repeat' ((try(conv=>whnf))<;>first
  |refine aQ (iQ _) (λh=>?_) (λh=>?_)
  |(exact Bool.noConfusion (hF.symm.trans h))
  |((refine fK ?_);(refine⟨_,_,_,[(1000000,2),(1000001,3)],jR (.data (.str [])) (.data (.i 0)) (.data (.i 0)) (.nilsl 3) (.nilsl 3) (.nilsl 4) (.nilsl 2) (.nilsl 8) (.data (.i 0)) 1,rfl,⟨rfl,rfl,trivial⟩,?_,?_⟩);kernel_rfl)
  |(refine⟨([]:List (Nat×Nat)),rfl,?_,trivial⟩)
  |fail)
 all_goals first
  |(rfl)
  |skip
theorem IB(p:Pr)(hF:Nam.formed p=true)(hL:Nam.limited p=false)(hn:∀s∈p.stmts,Ref15.nodes s.x<=1073741824):aj Tryz.prog 22 [p.d] (.ret (.tuple [Pr.none.d,.i 2])):=by
 refine bV Tryz.func22 ?_
 repeat' ((try(conv=>whnf))<;>first
  |refine aQ (iQ _) (λh=>?_) (λh=>?_)
  |refine aQ (ji _ (by assumption)) (λh=>?_) (λh=>?_)
  |(exact Bool.noConfusion (hF.symm.trans h))
  |(exact Bool.noConfusion (hL.symm.trans h))
  |((refine fK ?_);(refine⟨_,_,_,[(1000000,2),(1000001,3)],jR (.data (.str [])) (.data (.i 0)) (.data (.i 0)) (.nilsl 3) (.nilsl 3) (.nilsl 4) (.nilsl 2) (.nilsl 8) (.data (.i 0)) 2,rfl,⟨rfl,rfl,trivial⟩,?_,?_⟩);kernel_rfl)
  |(refine⟨([]:List (Nat×Nat)),rfl,?_,trivial⟩)
  |fail)
 all_goals first
  |(rfl)
  |skip
theorem IC(p:Pr)(hF:Nam.formed p=true)(hL:Nam.limited p=true)(hn:∀s∈p.stmts,Ref15.nodes s.x<=1073741824)(hp:p.Small)(hN:(p.name::jM (decl p)).all Nam.nmOk=false):aj Tryz.prog 22 [p.d] (.ret (.tuple [Pr.none.d,.i 150])):=by
 refine bV Tryz.func22 ?_
 repeat' ((try(conv=>whnf))<;>first
  |refine aQ (iQ _) (λh=>?_) (λh=>?_)
  |refine aQ (ji _ (by assumption)) (λh=>?_) (λh=>?_)
  |(exact Bool.noConfusion (hF.symm.trans h))
  |(exact Bool.noConfusion (hL.symm.trans h))
  |((refine fK ?_);(refine⟨_,_,_,[(1000000,2),(1000001,3)],jR (.data (.str [])) (.data (.i 0)) (.data (.i 0)) (.nilsl 3) (.nilsl 3) (.nilsl 4) (.nilsl 2) (.nilsl 8) (.data (.i 0)) 150,rfl,⟨rfl,rfl,trivial⟩,?_,?_⟩);kernel_rfl)
  |(refine⟨([]:List (Nat×Nat)),rfl,?_,trivial⟩)
  |((refine iq [] (Iu p hp hN) ?_ ?_ ?_ ?_);rotate_left 0;exact rfl;(exact trivial);exact rfl)
  |fail)
 all_goals first
  |(rfl)
  |skip
theorem IE(p:Pr)(hF:Nam.formed p=true)(hL:Nam.limited p=true)(hn:∀s∈p.stmts,Ref15.nodes s.x<=1073741824)(hp:p.Small)(hN:(p.name::jM (decl p)).all Nam.nmOk=true)(hU:¬uniq (decl p)):aj Tryz.prog 22 [p.d] (.ret (.tuple [Pr.none.d,.i 151])):=by
 refine bV Tryz.func22 ?_
 repeat' ((try(conv=>whnf))<;>first
  |refine aQ (iQ _) (λh=>?_) (λh=>?_)
  |refine aQ (ji _ (by assumption)) (λh=>?_) (λh=>?_)
  |(exact Bool.noConfusion (hF.symm.trans h))
  |(exact Bool.noConfusion (hL.symm.trans h))
  |((refine fK ?_);(refine⟨_,_,_,[(1000000,2),(1000001,3)],jR (.data (.str [])) (.data (.i 0)) (.data (.i 0)) (.nilsl 3) (.nilsl 3) (.nilsl 4) (.nilsl 2) (.nilsl 8) (.data (.i 0)) 151,rfl,⟨rfl,rfl,trivial⟩,?_,?_⟩);kernel_rfl)
  |(refine⟨([]:List (Nat×Nat)),rfl,?_,trivial⟩)
  |((refine iq [] (Iw p hp hN hU) ?_ ?_ ?_ ?_);rotate_left 0;exact rfl;(exact trivial);exact rfl)
  |fail)
 all_goals first
  |(rfl)
  |skip
theorem IG(p:Pr)(hF:Nam.formed p=true)(hL:Nam.limited p=true)(hn:∀s∈p.stmts,Ref15.nodes s.x<=1073741824)(hp:p.Small)(hN:(p.name::jM (decl p)).all Nam.nmOk=true)(hU:uniq (decl p))(hR:Nam.ranged p=false):aj Tryz.prog 22 [p.d] (.ret (.tuple [Pr.none.d,.i 161])):=by
 refine bV Tryz.func22 ?_
 repeat' ((try(conv=>whnf))<;>first
  |refine aQ (iQ _) (λh=>?_) (λh=>?_)
  |refine aQ (ji _ (by assumption)) (λh=>?_) (λh=>?_)
  |refine aQ (yf _ (by assumption)) (λh=>?_) (λh=>?_)
  |(exact Bool.noConfusion (hF.symm.trans h))
  |(exact Bool.noConfusion (hL.symm.trans h))
  |(exact Bool.noConfusion (hR.symm.trans h))
  |((refine fK ?_);(refine⟨_,_,_,[(1000000,2),(1000001,3)],jR (.data (.str [])) (.data (.i 0)) (.data (.i 0)) (.nilsl 3) (.nilsl 3) (.nilsl 4) (.nilsl 2) (.nilsl 8) (.data (.i 0)) 161,rfl,⟨rfl,rfl,trivial⟩,?_,?_⟩);kernel_rfl)
  |(refine⟨([]:List (Nat×Nat)),rfl,?_,trivial⟩)
  |((refine iq [(1000000,800000)] (DI p hp hN hU) ?_ ?_ ?_ ?_);rotate_left 0;exact rfl;(exact trivial);exact rfl)
  |fail)
 all_goals first
  |(rfl)
  |skip
end Go.Proofs.YtmfehangcmbidaaGreatDoor
namespace Go.Proofs.YtmfehangcmbidaaGreatDoor
open Go.Fw Go.Fw.Nam Go.Fw.Ref15
set_option maxRecDepth 10000
variable [ae]
theorem NR(x:Ex)(l:List Pe)(i:Int)(hx:nodes x<=1073741824)(hv:visB l i x=true):ax Tryz.prog 59 [.data x.d,.ptr 1000000 0,.ptr 1000001 0,.ptr 1000002 0] [(1000000,.cells [.map 1000003]),(1000001,.cells [.data (.i i)]),(1000002,.cells [.fn 59 [.ptr 1000000 0,.ptr 1000001 0,.ptr 1000002 0]]),(1000003,.map false [.str] (mkM l))] (.ret (.data (vis l x).d)) [(1000000,.cells [.map 1000003]),(1000001,.cells [.data (.i i)]),(1000002,.cells [.fn 59 [.ptr 1000000 0,.ptr 1000001 0,.ptr 1000002 0]]),(1000003,.map false [.str] (mkM l))]:=by
 revert x;refine Ex.ind λx ih hx hv=>?_
 refine xQ Tryz.func59 λhf=>?_
 have hlen:=Ex.fits (yh.data (hf (.data x.d) (by simp)))
 have hN:=jC x
 have hL:=uT x.l
 clear hf
 repeat' ((try(conv=>whnf))<;>first
  |with_reducible exact trivial
  |with_reducible exact ah hd0 ‹_›
  |with_reducible refine nK hd0 ?_
  |with_reducible refine kR hd0 ?_
  |with_reducible refine BrI.intro (λh=>?_) (λh=>?_)
  |with_reducible refine aQ (gz _ _) (λh=>?_) (λh=>?_)
  |(exact Bool.noConfusion (h:false=true))
  |(refine Ut (λe he=>?_) (λhe=>?_))
  |((with_reducible refine ak.mk 0 ?_);refine⟨aF (x.l) 89 (λ(out:(List Ex))=>[]) (λ(out:(List Ex))=>[(1000000,.cells [.map 1000003]),(1000001,.cells [.data (.i i)]),(1000002,.cells [.fn 59 [.ptr 1000000 0,.ptr 1000001 0,.ptr 1000002 0]]),(1000003,.map false [.str] (mkM l)),(5,.cells [.data (.i 0),.data (.str []),.data (.i 0),.data (.i 0),.nilsl 5]),(6,.cells [.data (.i (iK l x.kind x.name)),.data (.str x.name),.data (.i (H7 l x.kind x.name)),.data (.i x.n),.gs 900006 5 (out.map Ex.cs)]),(900006,.tok 5 (out.map Ex.cs).length)]) [3,5,6,87,88] (λi0 r0 out=>oI l i r0=true/\xA l x.l=out++xA l r0/\nodesL r0<=1073741824/\out.length=i0),?_⟩;with_reducible refine ag ([]) ?_ ?_ (λi0 (out:(List Ex)) hd0 hI0=>?_) (λi0 x0 r0 (out:(List Ex)) hd0 hl0 hI0=>?_))
  |(with_reducible refine af hd0 (out++[vis l x0]) ?_ ?_)
  |((with_reducible refine ai ?_ ?_ ?_);rotate_left;(exact xG _))
  |((with_reducible refine lent_step' [(1000000,1000000),(1000001,1000001),(1000002,1000002),(1000003,1000003)] (ih x0 (dB hd0) (by have:=hI0.2.2.1;simp only[nodesL]at this;omega) (by have:=hI0.1;simp only[oI,Bool.and_eq_true]at this;exact this.1)) ?_ ?_ ?_ ?_);rotate_left 0;exact rfl;(exact⟨rfl,rfl,rfl,rfl,trivial⟩);exact rfl)
  |((with_reducible refine aC ?_);refine fin_step' [(1000000,1000000),(1000001,1000001),(1000002,1000002),(1000003,1000003)] rfl ?_ ?_)
  |(with_reducible refine aB.l _ ?_)
  |((with_reducible refine bW ?_ ?_ ?_ ?_ ?_ ?_)<;>exact rfl)
  |((with_reducible refine dm ?_ ?_ ?_ ?_)<;>exact rfl)
  |((with_reducible refine aJ ?_ ?_ ?_ ?_ ?_);exact rfl;exact rfl;rotate_left;(with_reducible exact jq hd0))
  |((with_reducible refine aV ?_ ?_);exact rfl)
  |((with_reducible refine app_step' ?_ ?_ ?_ ?_ ?_ ?_ ?_);exact rfl;exact rfl;exact rfl;exact rfl)
  |((with_reducible refine ig ?_ ?_);with_reducible exact rfl)
  |((with_reducible refine aH ?_ ?_);kernel_rfl)
  |(with_reducible refine And.intro ?_ ?_)
  |((with_reducible refine oD ?_ ?_ ?_);exact rfl;exact rfl;(first |exact dO |skip))
  |((with_reducible refine fH ?_ ?_);exact rfl;(first |exact dO |skip))
  |exact @rfl AV _
  |exact eX rfl
  |fail)
 all_goals(try simp only[csimp]at *)
 all_goals first
  |omega
  |((exfalso;have hv2:=hv;rw[tZ,Bool.and_eq_true]at hv2;have hk:=hv2.1;clear hv2 hv ih hN hL hlen hx;simp_all[vok,eok,arr];done))
  |((refine congrArg (λz=>AV.data (D.i z)) ?_;simp only[iK,H7,he,if_true, *];done))
  |((refine congrArg (λz=>AV.data (D.i z)) ?_;simp only[iK,H7,h,Bool.false_eq_true,if_false,reduceIte];done))
  |(((try(conv=>whnf));rw[vK,hI0.2.1];simp only[xA,List.append_nil,Ex.css_map];rfl))
  |((have hv2:=hv;rw[tZ,Bool.and_eq_true]at hv2;exact hv2.2))
  |((simp only[nodesL]at hI0;omega))
  |((simp only[oI,Bool.and_eq_true]at hI0;exact hI0.1.2))
  |(((with_reducible refine Eq.symm ?_);(with_reducible refine Eq.symm ?_);rw[hI0.2.1];simp only[xA,List.append_assoc,List.cons_append,List.nil_append];done))
  |((simp only[List.length_append,List.length_cons,List.length_nil];omega))
  |(rfl)
  |skip
theorem U5(x:Ex)(l:List Pe)(i:Int)(hx:nodes x<=1073741824)(hv:visB l i x=false):ax Tryz.prog 59 [.data x.d,.ptr 1000000 0,.ptr 1000001 0,.ptr 1000002 0] [(1000000,.cells [.map 1000003]),(1000001,.cells [.data (.i i)]),(1000002,.cells [.fn 59 [.ptr 1000000 0,.ptr 1000001 0,.ptr 1000002 0]]),(1000003,.map false [.str] (mkM l))] (.pan (.data (.iface 24 (.i 150)))) [(1000000,.cells [.map 1000003]),(1000001,.cells [.data (.i i)]),(1000002,.cells [.fn 59 [.ptr 1000000 0,.ptr 1000001 0,.ptr 1000002 0]]),(1000003,.map false [.str] (mkM l))]:=by
 revert x;refine Ex.ind λx ih hx hv=>?_
 refine xQ Tryz.func59 λhf=>?_
 have hlen:=Ex.fits (yh.data (hf (.data x.d) (by simp)))
 have hN:=jC x
 have hL:=uT x.l
 clear hf
 repeat' ((try(conv=>whnf))<;>first
  |with_reducible exact trivial
  |with_reducible exact ah hd0 ‹_›
  |with_reducible refine nK hd0 ?_
  |with_reducible refine kR hd0 ?_
  |with_reducible refine BrI.intro (λh=>?_) (λh=>?_)
  |with_reducible refine aQ (gz _ _) (λh=>?_) (λh=>?_)
  |((refine rest_step _ _ _ [true,true,true,true] ?_ ?_);kernel_rfl)
  |((with_reducible refine quiet_step ?_ ?_);kernel_rfl)
  |(exact Bool.noConfusion (h:false=true))
  |(exact Bool.noConfusion (AC.symm.trans hI0.1))
  |(obtain⟨hq1,hq2,hq3⟩:=hI0;rcases Pi hq1 with⟨hb1,hb2⟩ |hb1<;>clear hq1)
  |(refine Ut (λe he=>?_) (λhe=>?_))
  |((with_reducible refine ak.mk 0 ?_);refine⟨aF (x.l) 89 (λ(out:(List Ex))=>[]) (λ(out:(List Ex))=>[(1000000,.cells [.map 1000003]),(1000001,.cells [.data (.i i)]),(1000002,.cells [.fn 59 [.ptr 1000000 0,.ptr 1000001 0,.ptr 1000002 0]]),(1000003,.map false [.str] (mkM l)),(5,.cells [.data (.i 0),.data (.str []),.data (.i 0),.data (.i 0),.nilsl 5]),(6,.cells [.data (.i (iK l x.kind x.name)),.data (.str x.name),.data (.i (H7 l x.kind x.name)),.data (.i x.n),.gs 900006 5 (out.map Ex.cs)]),(900006,.tok 5 (out.map Ex.cs).length)]) [3,5,6,87,88] (λi0 r0 out=>oI l i r0=false/\nodesL r0<=1073741824/\out.length=i0),?_⟩;with_reducible refine ag ([]) ?_ ?_ (λi0 (out:(List Ex)) hd0 hI0=>?_) (λi0 x0 r0 (out:(List Ex)) hd0 hl0 hI0=>?_))
  |(with_reducible refine af hd0 (out++[vis l x0]) ?_ ?_)
  |((with_reducible refine ai ?_ ?_ ?_);rotate_left;(exact xG _))
  |((with_reducible refine lent_step' [(1000000,1000000),(1000001,1000001),(1000002,1000002),(1000003,1000003)] (NR x0 l i (by simp only[nodesL]at hq2;omega) hb1) ?_ ?_ ?_ ?_);rotate_left 0;exact rfl;(exact⟨rfl,rfl,rfl,rfl,trivial⟩);exact rfl)
  |((with_reducible refine lent_step' [(1000000,1000000),(1000001,1000001),(1000002,1000002),(1000003,1000003)] (ih x0 (dB hd0) (by simp only[nodesL]at hq2;omega) hb1) ?_ ?_ ?_ ?_);rotate_left 0;exact rfl;(exact⟨rfl,rfl,rfl,rfl,trivial⟩);exact rfl)
  |((with_reducible refine fJ ?_);refine fin_step' [(1000000,1000000),(1000001,1000001),(1000002,1000002),(1000003,1000003)] rfl ?_ ?_)
  |(with_reducible refine aB.l _ ?_)
  |((with_reducible refine bW ?_ ?_ ?_ ?_ ?_ ?_)<;>exact rfl)
  |((with_reducible refine dm ?_ ?_ ?_ ?_)<;>exact rfl)
  |((with_reducible refine aJ ?_ ?_ ?_ ?_ ?_);exact rfl;exact rfl;rotate_left;(with_reducible exact jq hd0))
  |((with_reducible refine aV ?_ ?_);exact rfl)
  |((with_reducible refine app_step' ?_ ?_ ?_ ?_ ?_ ?_ ?_);exact rfl;exact rfl;exact rfl;exact rfl)
  |((with_reducible refine ig ?_ ?_);with_reducible exact rfl)
  |((with_reducible refine aH ?_ ?_);kernel_rfl)
  |((with_reducible refine je ?_ ?_);kernel_rfl)
  |(with_reducible refine And.intro ?_ ?_)
  |((with_reducible refine oD ?_ ?_ ?_);exact rfl;exact rfl;(first |exact dO |skip))
  |((with_reducible refine fH ?_ ?_);exact rfl;(first |exact dO |skip))
  |exact @rfl AV _
  |exact @rfl Block _
  |exact eX rfl
  |fail)
 all_goals(try simp only[csimp]at *)
 all_goals first
  |omega
  |((refine congrArg (λz=>AV.data (D.i z)) ?_;simp only[iK,H7,he,if_true, *];done))
  |((refine congrArg (λz=>AV.data (D.i z)) ?_;simp only[iK,H7,h,Bool.false_eq_true,if_false,reduceIte];done))
  |((simp only[nodesL]at hq2;omega))
  |((simp only[List.length_append,List.length_cons,List.length_nil];omega))
  |(rfl)
  |(((with_reducible refine Eq.symm ?_);(with_reducible refine Eq.symm ?_);have hv2:=hv;rw[tZ]at hv2;clear hv ih hN hL hlen hx;simp_all[vok,eok,arr];done))
  |skip
end Go.Proofs.YtmfehangcmbidaaGreatDoor
namespace Go.Proofs.YtmfehangcmbidaaGreatDoor
open Go.Fw Go.Fw.Nam Go.Fw.Ref15
open Go.Fw.Sy (fK)
set_option maxRecDepth 10000
variable [ae]
theorem KA(p:Pr)(hF:Nam.formed p=true)(hL:Nam.limited p=true)(hn:∀s∈p.stmts,Ref15.nodes s.x<=1073741824)(hp:p.Small)(hN:(p.name::jM (decl p)).all Nam.nmOk=true)(hU:uniq (decl p))(hR:Nam.ranged p=true):aj Tryz.prog 22 [p.d] (.ret (.tuple [(Ref15.fin p [] (rf (decl p) p.stmts 0 [] false)).1.d,.i (Ref15.fin p [] (rf (decl p) p.stmts 0 [] false)).2])):=by
 refine dM Tryz.func22 λhf=>?_
 have hlen:=(Pr.fits (hf p.d (by simp))).stmts
 have hps:=hp.stmts
 clear hf
 repeat' ((try(conv=>whnf))<;>first
  |exact trivial
  |exact ah hd0 ‹_›
  |refine bz hd0 ?_
  |refine aS hd0 ?_
  |refine BrI.intro (λh=>?_) (λh=>?_)
  |refine aQ (iQ _) (λh=>?_) (λh=>?_)
  |refine aQ (ji _ (by assumption)) (λh=>?_) (λh=>?_)
  |refine aQ (yf _ (by assumption)) (λh=>?_) (λh=>?_)
  |refine aQ (gz _ _) (λh=>?_) (λh=>?_)
  |(exact Bool.noConfusion (h:false=true))
  |(exact Bool.noConfusion (hF.symm.trans h))
  |(exact Bool.noConfusion (hL.symm.trans h))
  |(exact Bool.noConfusion (hR.symm.trans h))
  |((refine rest_step _ _ _ [true,false,true] ?_ ?_);kernel_rfl)
  |((refine quiet_step ?_ ?_);kernel_rfl)
  |((refine aP ?_ (.data (.b (pX dn e.kind e.index))) (λhg=>?_) ?_);exact rfl)
  |((refine Uu ?_ ?_);assumption)
  |(refine Xg (λhd=>?_) (λhd=>?_))
  |(refine Ut (λe he=>?_) (λhe=>?_))
  |((refine fK ?_);(refine⟨_,_,_,[(1000000,2),(1000001,3),(1000002,700003)],vP (.data (.str p.name)) (.data (.i p.latency)) (.data (.i p.tail)) (.data (.sl 3 (p.params.map Bd.cs))) (.data (.sl 3 (p.states.map Bd.cs))) (.data (.sl 4 (p.lines.map Ln.cs))) (.data (.sl 2 (p.tables.map Tb.cs))) (.gs 1000002 8 (ts.map Sm.cs)) (.data (.i 0)) 150 (ts.map Sm.cs).length,rfl,⟨rfl,rfl,rfl,trivial⟩,?_,?_⟩);kernel_rfl)
  |((refine fK ?_);(refine⟨_,_,_,[(1000000,2),(1000001,3),(1000002,700003)],vP (.data (.str p.name)) (.data (.i p.latency)) (.data (.i p.tail)) (.data (.sl 3 (p.params.map Bd.cs))) (.data (.sl 3 (p.states.map Bd.cs))) (.data (.sl 4 (p.lines.map Ln.cs))) (.data (.sl 2 (p.tables.map Tb.cs))) (.gs 1000002 8 (ts.map Sm.cs)) (.data (.i 0)) 151 (ts.map Sm.cs).length,rfl,⟨rfl,rfl,rfl,trivial⟩,?_,?_⟩);kernel_rfl)
  |((refine⟨_,_,_,[(1000000,2),(1000001,3)],Kz (.str p.name) (.i p.latency) (.i p.tail) (.sl 3 (p.params.map Bd.cs)) (.sl 3 (p.states.map Bd.cs)) (.sl 4 (p.lines.map Ln.cs)) (.sl 2 (p.tables.map Tb.cs)) (.sl 8 (ts.map Sm.cs)) (.i 0),rfl,⟨rfl,rfl,trivial⟩,?_,?_⟩);kernel_rfl)
  |(refine⟨([]:List (Nat×Nat)),rfl,?_,trivial⟩)
  |((refine Uz (decl p) hd0 hI0 (λhvb hq1 hq2=>?_) (λhvb hq1 hq2=>?_))<;>clear hI0)
  |((refine ak.mk 0 ?_);refine⟨aF (p.stmts) 29 (λ(q:(Bool)×(List Sm)×(List (Int×Int)))=>match q with |(out,ts,dn)=>[(6,.data (.val (.bool out)))]) (λ(q:(Bool)×(List Sm)×(List (Int×Int)))=>match q with |(out,ts,dn)=>[(2,.cells [.data (.str p.name),.data (.i p.latency),.data (.i p.tail),.data (.sl 3 (p.params.map Bd.cs)),.data (.sl 3 (p.states.map Bd.cs)),.data (.sl 4 (p.lines.map Ln.cs)),.data (.sl 2 (p.tables.map Tb.cs)),.gs 700003 8 (ts.map Sm.cs)]),(700003,.tok 8 (ts.map Sm.cs).length),(3,.cells [.data (.i 0)]),(4,.cells [.map 800000]),(800000,.map false [.str] (mkM (decl p))),(25,.map true [.int .i64,.int .i64] (dn.map dnC))]) [2,3,4,5,27,28,999999] (λi0 r0 q=>match q with |(out,ts,dn)=>Ref15.fin p [] (rf (decl p) p.stmts 0 [] false)=Ref15.fin p ts (rf (decl p) r0 i0 dn out)/\ts.length=i0),?_⟩;refine ag (?_,([]),([])) ?_ ?_ (λi0 ⟨out,ts,dn⟩ hd0 hI0=>?_) (λi0 x0 r0 ⟨out,ts,dn⟩ hd0 hl0 hI0=>?_))
  |(refine af hd0 (?_,(ts++[outS (decl p) x0]),(qZ (decl p) x0 dn)) ?_ ?_)
  |((refine iq [(1000000,800000)] (DI p hp hN hU) ?_ ?_ ?_ ?_);rotate_left 0;exact rfl;(exact trivial);exact rfl)
  |((refine lent_step' [(1000000,4),(1000001,7),(1000002,9),(1000003,800000)] (NR x0.x (decl p) i0 (hn _ (dB hd0)) hvb) ?_ ?_ ?_ ?_);rotate_left 0;exact rfl;(exact⟨rfl,rfl,rfl,rfl,trivial⟩);exact rfl)
  |((refine lent_step' [(1000000,4),(1000001,7),(1000002,9),(1000003,800000)] (U5 x0.x (decl p) i0 (hn _ (dB hd0)) hvb) ?_ ?_ ?_ ?_);rotate_left 0;exact rfl;(exact⟨rfl,rfl,rfl,rfl,trivial⟩);exact rfl)
  |(refine aB.l _ ?_)
  |((refine bW ?_ ?_ ?_ ?_ ?_ ?_)<;>exact rfl)
  |((refine dm ?_ ?_ ?_ ?_)<;>exact rfl)
  |((refine aJ ?_ ?_ ?_ ?_ ?_);exact rfl;exact rfl;rotate_left;(exact aA hd0))
  |((refine aV ?_ ?_);exact rfl)
  |((refine app_step' ?_ ?_ ?_ ?_ ?_ ?_ ?_);exact rfl;exact rfl;exact rfl;exact rfl)
  |((refine ig ?_ ?_);exact rfl)
  |((refine aH ?_ ?_);kernel_rfl)
  |((refine je ?_ ?_);kernel_rfl)
  |(refine And.intro ?_ ?_)
  |((refine oD ?_ ?_ ?_);exact rfl;exact rfl;(first |skip))
  |((refine fH ?_ ?_);exact rfl;(first |skip))
  |exact @rfl AV _
  |exact @rfl Block _
  |exact eX rfl
  |fail)
 all_goals first
  |(rfl)
  |((rw[hd];rfl))
  |((refine Pj (o:=out) (b:=!pX dn e.kind e.index) ?_ h;assumption))
  |((refine z8b ?_;assumption))
  |((refine z8c ?_ (vM he ?_)<;>assumption))
  |((refine hq1.trans (Ym (z0y hvb ?_ (vM he ?_) ?_))<;>assumption))
  |((refine hq1.trans (Ym (stop_ok' hvb ?_ ?_))<;>assumption))
  |((simp only[List.length_append,List.length_cons,List.length_nil];omega))
  |((rw[List.length_map];have:=tu hd0;omega))
  |(((conv=>whnf);first |(refine z5n ?_;assumption) |(refine z5o (o:=out) ?_ (vM he ?_) ?_<;>assumption) |(refine AO (x:={ p with stmts:=ts }) (hI0.1.trans (z01 ?_));assumption) |(refine AO (x:=Pr.none) (hI0.1.trans (z02 ?_));assumption) |(refine AO (x:=Pr.none) (hq1.trans (AL (Ny hvb) ?_));decide) |(refine AO (x:=Pr.none) (hq1.trans (AL (Uw hvb ?_ he) ?_))<;>first |assumption |decide) |(refine AO (x:=Pr.none) (hq1.trans (AL (Ux hvb ?_ he ?_) ?_))<;>first |assumption |decide) |(refine AO (x:=Pr.none) (hq1.trans (AL (Uy hvb ?_ (vM he ?_) ?_) ?_))<;>first |assumption |decide) |(refine AO (x:=Pr.none) (hq1.trans (AL (Xh hvb ?_ ?_) ?_))<;>first |assumption |decide)))
  |skip
end Go.Proofs.YtmfehangcmbidaaGreatDoor
namespace Go.Proofs.YtmfehangcmbidaaGreatDoor
open Go.Fw Go.Fw.Nam Go.Fw.Ref15
set_option maxRecDepth 10000
variable [ae]
theorem qf(p:Pr)(hp:p.Small)(hn:∀s∈p.stmts,Ref15.nodes s.x<=1073741824):aj Tryz.prog 22 [p.d] (.ret (.tuple [(resolveC p).1.d,.i (resolveC p).2])):=by
 unfold resolveC
 cases hF:Nam.formed p with
 |false=>exact IA p hF
 |true=>
  cases hL:Nam.limited p with
  |false=>exact IB p hF hL hn
  |true=>
   cases hN:(p.name::jM (decl p)).all Nam.nmOk with
   |false=>exact IC p hF hL hn hp hN
   |true=>
    cases hU:Ia (jM (decl p))with
    |false=>exact IE p hF hL hn hp hN (λh=>by rw[vN.2 h]at hU;simp at hU)
    |true=>
     cases hR:Nam.ranged p with
     |false=>exact IG p hF hL hn hp hN (vN.1 hU) hR
     |true=>exact KA p hF hL hn hp hN (vN.1 hU) hR
theorem iR(p:Pr)(q:Pr)(e:Int)(hq:resolveC p=(q,e))(h:p.params.length<=4/\p.states.length<=4/\p.lines.length<=4/\p.tables.length<=4/\p.stmts.length<=4/\(p.stmts.all λs=>Nat.ble (Ref15.nodes s.x) 100)=true):aj Tryz.prog 22 [p.d] (.ret (.tuple [q.d,.i e])):=by
 obtain⟨h1,h2,h3,h4,h5,h6⟩:=h
 have:=qf p ⟨by omega,by omega,by omega,by omega,by omega⟩ (λs hs=>by
  have:=Nat.le_of_ble_eq_true (List.all_eq_true.1 h6 s hs);omega)
 rw[hq]at this;exact this
theorem res1:aj Tryz.prog 22 [(Pr.none:Pr).d] (.ret (.tuple [(Pr.none:Pr).d,.i 150])):=iR _ _ _ (by kernel_rfl) ⟨by decide,by decide,by decide,by decide,by decide,by kernel_rfl⟩
theorem z9z:aj Tryz.prog 22 [(⟨[112],0,0,[],[],[],[],[Nz one]⟩:Pr).d] (.ret (.tuple [(⟨[112],0,0,[],[],[],[],[Nz one]⟩:Pr).d,.i 0])):=iR _ _ _ (by kernel_rfl) ⟨by decide,by decide,by decide,by decide,by decide,by kernel_rfl⟩
theorem z90:aj Tryz.prog 22 [(kV [Nz (ou [97])]:Pr).d] (.ret (.tuple [(Pr.none:Pr).d,.i 150])):=iR _ _ _ (by kernel_rfl) ⟨by decide,by decide,by decide,by decide,by decide,by kernel_rfl⟩
theorem z92:aj Tryz.prog 22 [(kV [⟨1,[97],0,ou [97]⟩,Nz one]:Pr).d] (.ret (.tuple [(Pr.none:Pr).d,.i 150])):=iR _ _ _ (by kernel_rfl) ⟨by decide,by decide,by decide,by decide,by decide,by kernel_rfl⟩
theorem z94:aj Tryz.prog 22 [(kV [Nz one,Nz one]:Pr).d] (.ret (.tuple [(Pr.none:Pr).d,.i 151])):=iR _ _ _ (by kernel_rfl) ⟨by decide,by decide,by decide,by decide,by decide,by kernel_rfl⟩
theorem z95:aj Tryz.prog 22 [(⟨[112],0,0,[⟨[97],2,1⟩],[],[],[],[Nz one]⟩:Pr).d] (.ret (.tuple [(Pr.none:Pr).d,.i 161])):=iR _ _ _ (by kernel_rfl) ⟨by decide,by decide,by decide,by decide,by decide,by kernel_rfl⟩
theorem z96:aj Tryz.prog 22 [(kV []:Pr).d] (.ret (.tuple [(Pr.none:Pr).d,.i 150])):=iR _ _ _ (by kernel_rfl) ⟨by decide,by decide,by decide,by decide,by decide,by kernel_rfl⟩
theorem z97:aj Tryz.prog 22 [(kV [⟨1,[97],0,ou [103]⟩,⟨3,[100],0,ou [97]⟩,Nz ⟨9,[116],0,0,[ou [115]]⟩]:Pr).d] (.ret (.tuple [(kV [⟨1,[97],0,⟨3,[103],0,0,[]⟩⟩,⟨3,[100],0,⟨5,[97],0,0,[]⟩⟩,⟨4,[],0,⟨9,[116],0,0,[⟨4,[115],0,0,[]⟩]⟩⟩]:Pr).d,.i 0])):=iR _ _ _ (by kernel_rfl) ⟨by decide,by decide,by decide,by decide,by decide,by kernel_rfl⟩
theorem KC(s:Str)  : aj Tryz.prog 49 [.str s] (.ret (ou s).d):=by
 refine bV Tryz.func49 ?_
 repeat' ((try(conv=>whnf))<;>first
  |(refine qo ?_;conv=>whnf)
  |fail)
 all_goals first
  |(rfl)
  |skip
theorem Bf(x:Ex)  : aj Tryz.prog 50 [x.d] (.ret (Nz x).d):=by
 refine bV Tryz.func50 ?_
 repeat' ((try(conv=>whnf))<;>first
  |(refine qo ?_;conv=>whnf)
  |fail)
 all_goals first
  |(rfl)
  |skip
theorem mW(l:List Sm)  : aj Tryz.prog 51 [.sl 8 (l.map Sm.cs)] (.ret (kV l).d):=by
 refine bV Tryz.func51 ?_
 repeat' ((try(conv=>whnf))<;>first
  |(refine aB.l _ ?_)
  |(refine qo ?_;conv=>whnf)
  |fail)
 all_goals first
  |(rfl)
  |skip
theorem xH   : aj Tryz.prog 20 [] (.ret (.b true)):=by
 refine bV Tryz.func20 ?_
 repeat' ((try(conv=>whnf))<;>first
  |((refine z9t ?_ ?_);kernel_rfl)
  |((refine z03 ?_ ?_ ?_ ?_ ?_);exact rfl;exact rfl;exact rfl;exact rfl)
  |((refine ai ?_ ?_ ?_);rotate_left;(first |exact KC _ |exact Bf _ |exact Bf one |exact Bf ⟨9,[116],0,0,[ou [115]]⟩ |exact mW [Nz (ou [97])] |exact mW [⟨1,[97],0,ou [97]⟩,Nz one] |exact mW [Nz one,Nz one] |exact mW [] |exact mW [⟨1,[97],0,ou [103]⟩,⟨3,[100],0,ou [97]⟩,Nz ⟨9,[116],0,0,[ou [115]]⟩] |exact jk ⟨3,[103],0,0,[]⟩ ⟨3,[103],0,0,[]⟩ |exact jk ⟨5,[97],0,0,[]⟩ ⟨5,[97],0,0,[]⟩ |exact jk ⟨4,[115],0,0,[]⟩ ⟨4,[115],0,0,[]⟩ |exact jk one one |exact res1 |exact z9z |exact z90 |exact z92 |exact z94 |exact z95 |exact z96 |exact z97))
  |(refine aB.l _ ?_)
  |((refine aV ?_ ?_);exact rfl)
  |((refine aP ?_ ?_ (λhg=>?_) ?_);exact rfl)
  |((refine nM ?_ ?_ (λhg=>?_) ?_);exact rfl)
  |((refine bH ?_ ?_);exact rfl;exact rfl)
  |((refine aH ?_ ?_);kernel_rfl)
  |(refine qo ?_;conv=>whnf)
  |fail)
 all_goals first
  |(kernel_rfl)
  |skip
end Go.Proofs.YtmfehangcmbidaaGreatDoor
