/- Contracts: the law SyntaxSpaces. -/
import Derived.Test.YtmfehangcmbidaaGreatDoorZSS20
import Derived.Test.YtmfehangcmbidaaGreatDoorZSD10
set_option linter.unusedSectionVars false
set_option linter.unusedSimpArgs false
set_option linter.unusedVariables false
set_option maxHeartbeats 4000000
namespace Go.Proofs.YtmfehangcmbidaaGreatDoor
open Go.Fw Go.Fw.Lx Go.Fw.Sy
set_option maxRecDepth 10000
variable [ae]
def DK(src:Sy.Str)(e:Int):Bool:=bif decide ((src.length:Int)>1000)then true else e != 0
abbrev byD(ts:Sy.Str):D:=.sl 1 (ts.map λc=>[D.u8 c])
theorem Ls{t:Tk}(h:valid t=true):aj Tryz.prog 16 [.sl 4 [t.cs]] (.ret (.tuple [.str (word t),.i 0])):=by
 have:=I8 (Tq h) (by simp) (by have:=DJ h;show(Lib.join [word t] [32]).length<=_;rw[Lib.join_one];omega)
 rw[show textS [t]=word t from Lib.join_one _ _]at this;exact this
theorem Gl(src ts:Sy.Str)(l:List Tk)(p e:Int)(hE:DK src e=true)(qL:aj Tryz.prog 15 [.str src] (.ret (.tuple [toks l,.i p,.i e]))):aj Tryz.prog 4 [.str src,byD ts] (.ret (.b true)):=by
 refine af tok hmix ⟨[],[]⟩ Tryz.func4 rfl (by kernel_rfl) (by kernel_rfl) (by kernel_rfl) λhf=>?_
 clear hf
 repeat' ((try(conv=>whnf))<;>first
  |with_reducible exact trivial
  |with_reducible exact rfl
  |with_reducible refine BrI.tt ?_
  |with_reducible refine BrI.ff ?_
  |with_reducible refine BrI.intro (λh=>?_) (λh=>?_)
  |(exact Bool.noConfusion (hE.symm.trans h))
  |((with_reducible refine ai ?_ ?_ ?_);rotate_left;(first |exact eP _ _ |exact iK |exact qL |fail))
  |(with_reducible refine aB.l _ ?_)
  |((with_reducible refine di ?_ ?_ ?_ ?_ ?_ ?_)<;>exact rfl)
  |((with_reducible refine dF ?_ ?_ ?_ ?_)<;>exact rfl)
  |((with_reducible refine kH ?_ ?_ ?_);exact rfl;exact rfl)
  |((with_reducible refine aW ?_ ?_ ?_ ?_ ?_);exact rfl;exact rfl;rotate_left;(first |with_reducible exact ve ‹_› |fail))
  |((with_reducible refine bW ?_ ?_);exact rfl)
  |((with_reducible refine app_step' ?_ ?_ ?_ ?_ ?_ ?_ ?_);exact rfl;exact rfl;exact rfl;exact rfl)
  |((with_reducible refine nil_step' ?_ ?_ ?_ ?_);exact rfl;exact rfl)
  |((with_reducible refine aJ ?_ ?_ (λhg=>?_) ?_);exact rfl)
  |((with_reducible refine iT ?_ ?_ (λhg=>?_) ?_);exact rfl)
  |((with_reducible refine aX ?_ ?_);with_reducible exact rfl;with_reducible exact rfl)
  |((with_reducible refine same_step ?_ ?_);with_reducible exact rfl)
  |((with_reducible refine sV ?_ ?_);kernel_rfl)
  |((with_reducible refine aF ?_ ?_);kernel_rfl)
  |((with_reducible refine fJ ?_ ?_);kernel_rfl)
  |((with_reducible refine ah ?_);refine⟨[],rfl,?_,trivial⟩;conv=>whnf)
  |((with_reducible refine ret_need ?_ ?_);rotate_left;refine⟨[],rfl,?_,trivial⟩;conv=>whnf)
  |((with_reducible refine pan_need ?_ ?_);rotate_left;refine⟨[],rfl,?_,trivial⟩;conv=>whnf)
  |((with_reducible refine pan_step ?_);refine⟨[],rfl,?_,trivial⟩;conv=>whnf)
  |(with_reducible refine And.intro ?_ ?_)
  |((with_reducible refine sZ ?_ ?_ ?_);exact rfl;exact rfl;(first |with_reducible exact map_app |with_reducible exact map_app3 |with_reducible exact map_app4 |exact cu |exact rfl |skip))
  |((with_reducible refine fK ?_ ?_);exact rfl;(first |with_reducible exact map_app |with_reducible exact map_app3 |with_reducible exact map_app4 |exact cu |exact rfl |skip))
  |((with_reducible refine aI ?_);refine dA ?_ ?_ ?_;exact rfl;exact rfl;(first |exact rfl |skip))
  |exact @rfl AV _
  |exact @rfl Block _
  |exact @rfl (List AV) _
  |exact eU rfl
  |fail)
 all_goals first
  |((exact Bool.noConfusion h))
  |(rfl)
  |skip
theorem Gm(src ts:Sy.Str)(l:List Tk)(x y:List Pr)(p1 p2 f:Int)(hE:DK src 0=false)(qL:aj Tryz.prog 15 [.str src] (.ret (.tuple [toks l,.i 0,.i 0])))(hv:l.all valid=true)(hl:l.length<=1000)(qA:aj Tryz.prog 10 [.str src] (.ret (.tuple [prs x,.i p1,.i f])))(qB:aj Tryz.prog 10 [.str (spr ts 0 l++[10])] (.ret (.tuple [prs x,.i p2,.i f]))):aj Tryz.prog 4 [.str src,byD ts] (.ret (.b true)):=by
 refine af tok hmix ⟨[],[]⟩ Tryz.func4 rfl (by kernel_rfl) (by kernel_rfl) (by kernel_rfl) λhf=>?_
 have hlen:l.length<=9223372036854775807:=by omega
 clear hf
 repeat' ((try(conv=>whnf))<;>first
  |((have hN:=hI0.n);(obtain rfl:=VW hI0);clear hI0)
  |with_reducible exact trivial
  |with_reducible exact rfl
  |with_reducible exact aO hd0 ‹_›
  |with_reducible refine BrI.tt ?_
  |with_reducible refine BrI.ff ?_
  |with_reducible refine iO hd0 ?_
  |with_reducible refine fC hd0 ?_
  |((with_reducible refine dB hd0 ?_ ?_);(first |exact rfl |assumption |fail))
  |((with_reducible refine bM hd0 ?_ ?_);(first |exact rfl |assumption |fail))
  |with_reducible refine br_nil_and hd0 ?_
  |with_reducible refine br_cons_and hd0 ?_
  |with_reducible refine JS hd0 ?_
  |with_reducible refine EO hd0 ?_
  |with_reducible refine BrI.intro (λh=>?_) (λh=>?_)
  |(exact Bool.noConfusion (hE.symm.trans h))
  |((with_reducible refine z2i ?_ ?_ ?_ ?_);exact rfl;exact rfl;assumption)
  |((with_reducible refine z2j (ts:=ts) (i:=i0) ?_ ?_ ?_);exact rfl;(first |exact Zc ‹_› |exact z2k ‹_›))
  |((with_reducible refine aN.mk 0 ?_);refine⟨bI (l) 37 (λ(s:(List UInt8))=>[(8,.data (.str s))]) (λ(s:(List UInt8))=>[]) [0,1,35,36] (λi0 r0 s=>Zl l ts i0 r0 s),?_⟩;with_reducible refine au ([]) ?_ ?_ (λi0 (s:(List UInt8)) hd0 hI0=>?_) (λi0 x0 r0 (s:(List UInt8)) hd0 hl0 hI0=>?_))
  |(with_reducible refine ak hd0 (s++(gp ts i0++word x0)) ?_ ?_)
  |((with_reducible refine ai ?_ ?_ ?_);rotate_left;(first |exact eP _ _ |exact iK |exact qL |exact qA |exact qB |exact eP x x |exact Ls (zA hI0) |fail))
  |((with_reducible refine dH ?_ ?_);exact rfl)
  |((with_reducible refine dG ?_ ?_ ?_);rotate_left;(first |exact eP _ _ |exact iK |exact qL |exact qA |exact qB |exact eP x x |exact Ls (zA hI0) |fail))
  |with_reducible refine CG hd0 ?_
  |(with_reducible refine aB.l _ ?_)
  |((with_reducible refine di ?_ ?_ ?_ ?_ ?_ ?_)<;>exact rfl)
  |((with_reducible refine dF ?_ ?_ ?_ ?_)<;>exact rfl)
  |((with_reducible refine kH ?_ ?_ ?_);exact rfl;exact rfl)
  |((with_reducible refine aW ?_ ?_ ?_ ?_ ?_);exact rfl;exact rfl;rotate_left;(first |with_reducible exact ve ‹_› |with_reducible exact dI hd0 |with_reducible exact idx_take hd0 |with_reducible exact eu hd0 |with_reducible exact eF hd0 |with_reducible exact EP hd0 |with_reducible exact EQ hd0 |with_reducible exact AP hd0 |fail))
  |((with_reducible refine bW ?_ ?_);exact rfl)
  |((with_reducible refine app_step' ?_ ?_ ?_ ?_ ?_ ?_ ?_);exact rfl;exact rfl;exact rfl;exact rfl)
  |((with_reducible refine nil_step' ?_ ?_ ?_ ?_);exact rfl;exact rfl)
  |((with_reducible refine aJ ?_ ?_ (λhg=>?_) ?_);exact rfl)
  |((with_reducible refine iT ?_ ?_ (λhg=>?_) ?_);exact rfl)
  |((with_reducible refine aX ?_ ?_);with_reducible exact rfl;with_reducible exact rfl)
  |((with_reducible refine same_step ?_ ?_);with_reducible exact rfl)
  |((with_reducible refine sV ?_ ?_);kernel_rfl)
  |((with_reducible refine aF ?_ ?_);kernel_rfl)
  |((with_reducible refine fJ ?_ ?_);kernel_rfl)
  |((with_reducible refine ah ?_);refine⟨[],rfl,?_,trivial⟩;conv=>whnf)
  |((with_reducible refine ret_need ?_ ?_);rotate_left;refine⟨[],rfl,?_,trivial⟩;conv=>whnf)
  |((with_reducible refine pan_need ?_ ?_);rotate_left;refine⟨[],rfl,?_,trivial⟩;conv=>whnf)
  |((with_reducible refine pan_step ?_);refine⟨[],rfl,?_,trivial⟩;conv=>whnf)
  |(with_reducible refine And.intro ?_ ?_)
  |((with_reducible refine sZ ?_ ?_ ?_);exact rfl;exact rfl;(first |with_reducible exact map_app |with_reducible exact map_app3 |with_reducible exact map_app4 |exact cu |exact rfl |skip))
  |((with_reducible refine fK ?_ ?_);exact rfl;(first |with_reducible exact map_app |with_reducible exact map_app3 |with_reducible exact map_app4 |exact cu |exact rfl |skip))
  |((with_reducible refine aI ?_);refine dA ?_ ?_ ?_;exact rfl;exact rfl;(first |exact rfl |skip))
  |exact @rfl AV _
  |exact @rfl Block _
  |exact @rfl (List AV) _
  |exact eU rfl
  |fail)
 all_goals first
  |((exact Bool.noConfusion h))
  |(rfl)
  |((exact Oy hv))
  |((show((_:Nat):Int)<=9223372036854775807;have hN':=hN;simp only[List.length_nil,List.length_cons]at hN' ⊢;omega))
  |((refine congrArg (λz=>D.val (Value.bool z)) ?_;rw[show(f==f)=true from beq_self_eq_true f,wB];rfl))
  |((have hw:=DJ (zA hI0);have h2:=h;simp only[nY,Bool.or_eq_true,decide_eq_true_eq]at h2;rcases h2 with h2 |h2<;>first |omega |exact Bool.noConfusion h2))
  |(decide)
  |((exact Tn hI0))
  |((show((_:Nat):Int)<=9223372036854775807;have a1:=Ti ts i0;have a2:=DJ (zA hI0);have a3:=hI0.n;simp only[List.length_append,List.length_cons]at a3 ⊢;omega))
  |skip
theorem Oz(src ts:Sy.Str)(hs:src.length<=1048576):aj Tryz.prog 4 [.str src,byD ts] (.ret (.b true)):=by
 have hs':src.length<=1073741823:=by omega
 obtain⟨l,p,e,qL,hL⟩:=Gj src
 cases hE:DK src e with
 |true=>exact Gl src ts l p e hE qL
 |false=>
  have hE2:=hE
  simp only[DK,nY,Bool.or_eq_false_iff,decide_eq_false_iff_not,bne_eq_false_iff_eq]at hE2
  obtain⟨c1,c2⟩:=hE2
  subst c2
  obtain⟨hb,hl,rfl⟩:=hL rfl
  obtain⟨h1,hv⟩:=FQ hl
  obtain⟨m,hm,hS⟩:=Zb ts hv
  have hI:=Tt ts l 0
  have hw:XY l<=src.length:=by
   have h:=hl
   rw[kT]at h
   exact(nX _ src 0 l (Nat.le_refl _) h).2.1
  have hz0:(spr ts 0 l++[10]).length<=10000:=by simp only[List.length_append,List.length_cons,List.length_nil];omega
  have hz:(spr ts 0 l++[10]).length<=1073741823:=by omega
  have hz2:decide (((spr ts 0 l++[10]).length:Int)>65536)=false:=decide_eq_false (by omega)
  have hr2:=Lc hS
  cases hr:bQ l with
  |mk o r=>
   cases hr3:bQ m with
   |mk o2 r2=>
    rw[hr,hr3]at hr2
    obtain⟨rfl,-⟩:=hr2
    cases o2 with
    |none=>exact Gm src ts l [] [] _ _ _ hE qL hv (by omega) (bD hs' (um hb hl hr)) (bD hz (um hz2 hm hr3))
    |some x=>exact Gm src ts l x x _ _ _ hE qL hv (by omega) (bD hs' (pg hb hl hr)) (bD hz (pg hz2 hm hr3))
end Go.Proofs.YtmfehangcmbidaaGreatDoor
