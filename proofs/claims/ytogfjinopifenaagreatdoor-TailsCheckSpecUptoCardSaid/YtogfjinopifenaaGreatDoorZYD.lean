/- Contracts: the laws of tails: small processors; the laws' little functions. -/
import Derived.Test.YtogfjinopifenaaGreatDoorZYC
set_option linter.unusedSectionVars false
set_option linter.unusedSimpArgs false
set_option linter.unusedVariables false
set_option maxHeartbeats 8000000
namespace Go.Proofs.YtogfjinopifenaaGreatDoor
open Go.Fw Go.Fw.Ref15 Go.Fw.Rg Go.Fw.Tl
set_option maxRecDepth 10000
variable [GlobInt] {p : Pr}
theorem mJ{l:List Ex}{c:Bool}{k:Nat}(h:(bif decide ((k:Int)<((Ex.css l).length:Int))then c else false)=false)(hk:k<l.length):c=false:=by
 rw[Ex.css_len,decide_eq_true (show(k:Int)<(l.length:Int)by omega)]at h;exact h
theorem mM{x y:Ex}{d:Int}(hd:0<=d)(hy:y∈x.l)(hc:(bif d==0 then decide (((Ex.css x.l).length:Int)>0)else false)=false):0<=d-1:=by
 have:0<x.l.length:=List.length_pos_of_mem hy
 by_cases h:d=0
 ·subst h;rw[Ex.css_len,decide_eq_true (show(x.l.length:Int)>0 by omega)]at hc;exact Bool.noConfusion (show true=false from hc)
 ·omega
theorem o7{c d:Bool}(h:(bif c then d else false)=true):d=true:=by cases c<;>first |exact h |exact Bool.noConfusion h
theorem nY{b:Bool}(h:(bif (bif (bif (bif decide (((p.stmts.map Sm.cs).length:Int)>14)then true else decide (((p.params.map Bd.cs).length:Int)>18))then true else decide (((p.states.map Bd.cs).length:Int)>18))then true else decide (((p.lines.map Ln.cs).length:Int)>18))then true else decide (((p.tables.map Tb.cs).length:Int)>18))=b):fewA p=b:=by
 simp only[List.length_map]at h;exact h
theorem pg(h:fewA p=true):fewM p=false:=by rw[fewM,if_pos h]
theorem pq(h:fewA p=false):fewM p=if p.stmts.all fewSm then p.tables.all fewTb else false:=by rw[fewM,if_neg (by rw[h];decide)]
theorem pF{s:Sm}{r:List Sm}{c:Bool}(h:fewM p=if(s::r).all fewSm then c else false)(h2:decide (ndM s.x 12 40>40)=true):fewM p=false:=by
 have:fewSm s=false:=by rw[fewSm,h2];rfl
 rw[h,List.all_cons,this];rfl
theorem pG{s:Sm}{r:List Sm}{c:Bool}(h:fewM p=if(s::r).all fewSm then c else false)(h2:decide (ndM s.x 12 40>40)=false):fewM p=if r.all fewSm then c else false:=by
 have:fewSm s=true:=by rw[fewSm,h2];rfl
 rw[h,List.all_cons,this,Bool.true_and]
theorem pI{s:Tb}{r:List Tb}(h:fewM p=(s::r).all fewTb)(h2:decide (((s.values.map intC).length:Int)>40)=true):fewM p=false:=by
 rw[List.length_map]at h2
 have:fewTb s=false:=by rw[fewTb,h2];rfl
 rw[h,List.all_cons,this];rfl
theorem pJ{s:Tb}{r:List Tb}(h:fewM p=(s::r).all fewTb)(h2:decide (((s.values.map intC).length:Int)>40)=false):fewM p=r.all fewTb:=by
 rw[List.length_map]at h2
 have:fewTb s=true:=by rw[fewTb,h2];rfl
 rw[h,List.all_cons,this,Bool.true_and]
theorem gG(x:Ex)(d most:Int)(hx:Ref15.nodes x<=1073741824)(hd:0<=d)(hd2:d<=1099511627776)(hm0:0<=most)(hm:most<=1099511627776):PCall Tryz.prog 18 [x.d,.i d,.i most] (.ret (.i (ndM x d most))):=by
 revert hd hd2;revert d;revert hx;revert x;refine Ex.ind λx ih hx d hd hd2=>?_
 refine af Tryz.func18 λhf=>?_
 have hlen:=Ex.fits (hf x.d (by simp))
 have hE:=Ref15.nodes_eq x
 have hw1:IntKind.i64.wrap (most+1)=most+1:=wrap_ok (by omega) (by omega)
 have ih2:∀y∈x.l,∀c e,c=e->0<=e->e<=1099511627776->PCall Tryz.prog 18 [y.d,.i c,.i most] (.ret (.i (ndM y e most))):=λy hy c e hc h0 h1=>by subst hc;exact ih y hy (by have:=nodes_mem hy;omega) c h0 h1
 clear hf
 repeat' ((try(conv=>whnf))<;>first
  |exact trivial
  |exact idx_next hd0 ‹_›
  |refine BrI.intro (λh=>?_) (λh=>?_)
  |(exact(nil_bif (css_ge hd0) h).elim)
  |((refine LoopAt.mk 0 ?_);refine⟨rangeL (x.l) 8 (λ(n:(Int))=>[(7,.data (.val (.int .i64 n)))]) (λ(n:(Int))=>[]) [1,2,3] (λi0 r0 n=>ndM x d most=mm2 false (ndL r0 d most n) (most+1)/\1<=n/\n<=2 * most+2),?_⟩;refine rangeL_rule ?_ ?_ ?_ (λi0 (n:(Int)) hd0 hI0=>?_) (λi0 x0 r0 (n:(Int)) hd0 hl0 hI0=>?_))
  |(refine rangeL_next hd0 ?_ ?_ ?_)
  |((refine call_step ?_ ?_ ?_);rotate_left;(exact ih2 _ (drop_mem hd0) _ (d-1) (wrap_ok (by omega) (by omega)) (mM hd (drop_mem hd0) ‹_›) (by omega)))
  |((refine idx_step ?_ ?_ ?_ ?_ ?_);exact rfl;exact rfl;rotate_left;(exact idx_drop_e hd0))
  |((refine len_step ?_ ?_);exact rfl)
  |(refine ah ?_;conv=>whnf)
  |(refine And.intro ?_ ?_)
  |exact @rfl AV _
  |fail)
 all_goals first
  |((refine congrArg D.i ?_;rw[ndM_eq,if_pos (by rw[<-Ex.css_len];exact h),hw1]))
  |((rw[ndM_eq,if_neg (by rw[<-Ex.css_len,h];decide)]))
  |(omega)
  |((have hr:=nd_rng hm0 x0 (d-1);have hq:=of_decide_eq_true (o7 h);rw[wrap_ok (by omega) (by omega)];first |omega |(rw[hI0.1,ndL,if_pos hq])))
  |((refine congrArg D.i ?_;rw[hI0.1,ndL,if_neg (of_decide_eq_false (mJ h hl0)),hw1]))
  |((refine congrArg D.i ?_;rw[hI0.1,ndL,hw1]))
  |skip
theorem dP(p:Pr)(g:GoodP p):PCall Tryz.prog 6 [p.d] (.ret (.b (fewM p))):=by
 refine af Tryz.func6 λhf=>?_
 have hs4:=g.sm.tables;have hs5:=g.sm.stmts
 have hl_a:p.tables.length<=9223372036854775807:=by omega
 have hl_b:p.stmts.length<=9223372036854775807:=by omega
 clear hf
 repeat' ((try(conv=>whnf))<;>first
  |exact trivial
  |exact idx_next hd2 ‹_›
  |exact idx_next hd0 ‹_›
  |refine br_nil hd2 ?_
  |refine br_nil hd0 ?_
  |refine br_cons hd2 ?_
  |refine br_cons hd0 ?_
  |refine BrI.intro (λh=>?_) (λh=>?_)
  |((refine LoopAt.mk 0 ?_);refine⟨rangeL (p.stmts) 3 (λ(_:Unit)=>[]) (λ(_:Unit)=>[]) [1] (λi0 r0 _=>fewM p=if r0.all fewSm then p.tables.all fewTb else false),?_⟩;refine rangeL_rule () ?_ ?_ (λi0 (_:Unit) hd0 hI0=>?_) (λi0 x0 r0 (_:Unit) hd0 hl0 hI0=>?_))
  |(refine rangeL_next hd0 () ?_ ?_)
  |((refine LoopAt.mk 2 ?_);refine⟨rangeL (p.tables) 4 (λ(_:Unit)=>[]) (λ(_:Unit)=>[]) [1] (λi2 r2 _=>fewM p=r2.all fewTb),?_⟩;refine rangeL_rule () ?_ ?_ (λi2 (_:Unit) hd2 hI2=>?_) (λi2 x2 r2 (_:Unit) hd2 hl2 hI2=>?_))
  |(refine rangeL_next hd2 () ?_ ?_)
  |((refine call_step ?_ ?_ ?_);rotate_left;(exact gG _ 12 40 (g.hn _ (drop_mem hd0)) (by decide) (by decide) (by decide) (by decide)))
  |((refine idx_step ?_ ?_ ?_ ?_ ?_);exact rfl;exact rfl;rotate_left;(first |exact idx_drop hd2 |exact idx_drop hd0))
  |((refine len_step ?_ ?_);exact rfl)
  |(refine ah ?_;conv=>whnf)
  |(refine And.intro ?_ ?_)
  |exact @rfl AV _
  |fail)
 all_goals first
  |((exact congrArg D.b (pg (nY h)).symm))
  |((exact pq (nY h)))
  |((rw[hI0];rfl))
  |((exact congrArg D.b (pF hI0 h).symm))
  |((exact pG hI0 h))
  |((exact congrArg D.b (pI hI2 h).symm))
  |((exact pJ hI2 h))
  |((rw[hI2];rfl))
  |skip
theorem aY(n:Int)  : PCall Tryz.prog 16 [.i n] (.ret (numX n).d):=by
 refine ae Tryz.func16 ?_
 repeat' ((try(conv=>whnf))<;>first
  |(refine ah ?_;conv=>whnf)
  |fail)
 all_goals first
  |(rfl)
  |skip
theorem jX(n:Int)  : PCall Tryz.prog 13 [.i n] (.ret (inX n).d):=by
 refine ae Tryz.func13 ?_
 repeat' ((try(conv=>whnf))<;>first
  |((refine call_step ?_ ?_ ?_);rotate_left;(exact aY _))
  |(refine ChooseI.l _ ?_)
  |(refine ah ?_;conv=>whnf)
  |fail)
 all_goals first
  |(rfl)
  |skip
theorem kY(nm:List UInt8)(i n:Int)  : PCall Tryz.prog 17 [.str nm,.i i,.i n] (.ret (tapX nm i n).d):=by
 refine ae Tryz.func17 ?_
 repeat' ((try(conv=>whnf))<;>first
  |((refine call_step ?_ ?_ ?_);rotate_left;(exact aY _))
  |(refine ChooseI.l _ ?_)
  |(refine ah ?_;conv=>whnf)
  |fail)
 all_goals first
  |(rfl)
  |skip
theorem jv   : PCall Tryz.prog 14 [] (.ret sX.d):=by
 refine ae Tryz.func14 ?_
 repeat' ((try(conv=>whnf))<;>first
  |(refine ah ?_;conv=>whnf)
  |fail)
 all_goals first
  |(rfl)
  |skip
theorem eQ(nm:List UInt8)  : PCall Tryz.prog 29 [.str nm] (.ret (.agg (Bd.cs ⟨nm,-2147483648,2147483647⟩))):=by
 refine ae Tryz.func29 ?_
 repeat' ((try(conv=>whnf))<;>first
  |(refine ah ?_;conv=>whnf)
  |fail)
 all_goals first
  |skip
theorem aG(l:List Sm)  : PCall Tryz.prog 15 [.sl 8 (l.map Sm.cs)] (.ret (proM l).d):=by
 refine ae Tryz.func15 ?_
 repeat' ((try(conv=>whnf))<;>first
  |((refine call_step ?_ ?_ ?_);rotate_left;(exact eQ _))
  |(refine ChooseI.l _ ?_)
  |(refine ah ?_;conv=>whnf)
  |fail)
 all_goals first
  |(rfl)
  |skip
end Go.Proofs.YtogfjinopifenaaGreatDoor
namespace Go.Proofs.YtogfjinopifenaaGreatDoor
open Go.Fw Go.Fw.Ref15 Go.Fw.Rg Go.Fw.Tl
set_option maxRecDepth 10000
variable [GlobInt]
abbrev lG(x:Ex):Sm:=⟨2,[115],0,x⟩
abbrev pA:Pr:=proM [outS (inX 0)]
abbrev pB:Pr:=proM [lG (inX 0),outS sX]
abbrev pC:Pr:=proM [⟨1,[97],0,sX⟩,lG (inX 0),outS ⟨5,[97],0,0,[]⟩]
abbrev pD:Pr:=proM [lG (satX [sX,inX 0]),outS sX]
abbrev pM:Pr:=proM [lG (inX 0),outS (numX 0)]
abbrev pN:Pr:=proM [⟨3,[100],0,inX 0⟩,outS (tapX [100] 0 0)]
abbrev pO:Pr:=proM [outS (inX 5)]
theorem jw(p:Pr)(a b:Int)(h:memoryM p=(a,b))(g:GoodP p):PCall Tryz.prog 9 [p.d] (.ret (.tuple [.i a,.i b])):=by
 have:=aX p g;rw[h]at this;exact this
theorem pK(p:Pr)(a b:Int)(h:latencyM p=(a,b))(g:GoodP p):PCall Tryz.prog 7 [p.d] (.ret (.tuple [.i a,.i b])):=by
 have:=aI p g;rw[h]at this;exact this
theorem jY(p:Pr)(a:Int)(h:checkM p=a)(g:GoodP p):PCall Tryz.prog 11 [p.d] (.ret (.i a)):=by
 rw[<-h];exact dO p g
theorem sm0:PCall Tryz.prog 9 [(pA).d] (.ret (.tuple [.i 0,.i 0])):=jw pA 0 0 (by kernel_rfl) (good_at ⟨by decide,by decide,by decide,by decide,by decide,by kernel_rfl,by kernel_rfl⟩)
theorem sm1:PCall Tryz.prog 9 [(pB).d] (.ret (.tuple [.i 0,.i 0])):=jw pB 0 0 (by kernel_rfl) (good_at ⟨by decide,by decide,by decide,by decide,by decide,by kernel_rfl,by kernel_rfl⟩)
theorem sm2:PCall Tryz.prog 9 [(pC).d] (.ret (.tuple [.i 1,.i 0])):=jw pC 1 0 (by kernel_rfl) (good_at ⟨by decide,by decide,by decide,by decide,by decide,by kernel_rfl,by kernel_rfl⟩)
theorem sm3:PCall Tryz.prog 9 [(pD).d] (.ret (.tuple [.i (-1),.i 0])):=jw pD (-1) 0 (by kernel_rfl) (good_at ⟨by decide,by decide,by decide,by decide,by decide,by kernel_rfl,by kernel_rfl⟩)
theorem sm4:PCall Tryz.prog 9 [(pM).d] (.ret (.tuple [.i 0,.i 0])):=jw pM 0 0 (by kernel_rfl) (good_at ⟨by decide,by decide,by decide,by decide,by decide,by kernel_rfl,by kernel_rfl⟩)
theorem sm5:PCall Tryz.prog 9 [(pN).d] (.ret (.tuple [.i 3,.i 0])):=jw pN 3 0 (by kernel_rfl) (good_at ⟨by decide,by decide,by decide,by decide,by decide,by kernel_rfl,by kernel_rfl⟩)
theorem sl0:PCall Tryz.prog 7 [(pO).d] (.ret (.tuple [.i 5,.i 0])):=pK pO 5 0 (by kernel_rfl) (good_at ⟨by decide,by decide,by decide,by decide,by decide,by kernel_rfl,by kernel_rfl⟩)
theorem sc0:PCall Tryz.prog 11 [(pD:Pr).d] (.ret (.i 0)):=jY pD 0 (by kernel_rfl) (good_at ⟨by decide,by decide,by decide,by decide,by decide,by kernel_rfl,by kernel_rfl⟩)
theorem sc1:PCall Tryz.prog 11 [({ pD with tail:=100 }:Pr).d] (.ret (.i 171)):=jY { pD with tail:=100 } 171 (by kernel_rfl) (good_at ⟨by decide,by decide,by decide,by decide,by decide,by kernel_rfl,by kernel_rfl⟩)
theorem sc2:PCall Tryz.prog 11 [(pO:Pr).d] (.ret (.i 170)):=jY pO 170 (by kernel_rfl) (good_at ⟨by decide,by decide,by decide,by decide,by decide,by kernel_rfl,by kernel_rfl⟩)
theorem sc3:PCall Tryz.prog 11 [({ pO with latency:=5 }:Pr).d] (.ret (.i 0)):=jY { pO with latency:=5 } 0 (by kernel_rfl) (good_at ⟨by decide,by decide,by decide,by decide,by decide,by kernel_rfl,by kernel_rfl⟩)
theorem sc4:PCall Tryz.prog 11 [(Pr.none:Pr).d] (.ret (.i 150)):=jY Pr.none 150 (by kernel_rfl) (good_at ⟨by decide,by decide,by decide,by decide,by decide,by kernel_rfl,by kernel_rfl⟩)
theorem gI   : PCall Tryz.prog 5 [] (.ret (.b true)):=by
 refine ae Tryz.func5 ?_
 repeat' ((try(conv=>whnf))<;>first
  |((refine BrI.ff_of ?_ ?_);kernel_rfl)
  |((refine call_step ?_ ?_ ?_);rotate_left;(first |exact aY 0 |exact jX 0 |exact jX 5 |exact jv |exact kY [100] 0 0 |exact aG [outS (inX 0)] |exact aG [lG (inX 0),outS sX] |exact aG [⟨1,[97],0,sX⟩,lG (inX 0),outS ⟨5,[97],0,0,[]⟩] |exact aG [lG (satX [sX,inX 0]),outS sX] |exact aG [lG (inX 0),outS (numX 0)] |exact aG [⟨3,[100],0,inX 0⟩,outS (tapX [100] 0 0)] |exact aG [outS (inX 5)] |exact sm0 |exact sm1 |exact sm2 |exact sm3 |exact sm4 |exact sm5 |exact sl0 |exact sc0 |exact sc1 |exact sc2 |exact sc3 |exact sc4))
  |(refine ChooseI.l _ ?_)
  |((refine guard_step ?_ ?_ (λhg=>?_) ?_);exact rfl)
  |((refine val_step ?_ ?_);exact rfl;exact rfl)
  |((refine chk_stepP ?_ ?_);kernel_rfl)
  |(refine ah ?_;conv=>whnf)
  |fail)
 all_goals first
  |(rfl)
  |skip
end Go.Proofs.YtogfjinopifenaaGreatDoor
