/- Contracts: the reference of ranges: numbers, intervals, what fits. -/
import Derived.Test.YtogfjinopifenaaGreatDoorZXA
import Derived.Test.YtogfjinopifenaaGreatDoorZRX
set_option linter.unusedSectionVars false
set_option linter.unusedSimpArgs false
set_option linter.unusedVariables false
set_option maxHeartbeats 8000000
namespace Go.Proofs.YtogfjinopifenaaGreatDoor
open Go.Fw Go.Fw.Rg Go.Fw.Nam
set_option maxRecDepth 10000
variable [GlobInt]
theorem bU(a b c:Int)(hc:c=b)(ha:inW a=true)(hb:inW b=true):PCall Tryz.prog 130 [.i a,.i c] (.ret (.tuple [.i (sumW a b),.b (inW (a+b))])):=by
 subst hc
 refine ae Tryz.func130 ?_
 repeat' ((try(conv=>whnf))<;>first
  |refine BrI.intro (λh=>?_) (λh=>?_)
  |(refine ah ?_;conv=>whnf)
  |(refine And.intro ?_ ?_)
  |fail)
 all_goals first
  |(decide)
  |((rw[half_yes ha hb h,sumW,if_pos (show halfC a c=true from h)]))
  |((have e:=half_no ha hb h;have e2:=sum_ref a c;rw[e,e2,sumW,if_neg (by rw[show halfC a c=false from h];decide)]))
  |skip
theorem dZ(a b:Int)(f g:Bool)  : PCall Tryz.prog 131 [.i a,.b f,.i b,.b g] (.ret (rngT (if(f&&g)=true then .ok (a,b)else .error 160))):=by
 refine ae Tryz.func131 ?_
 repeat' ((try(conv=>whnf))<;>first
  |refine BrI.intro (λh=>?_) (λh=>?_)
  |(refine ah ?_;conv=>whnf)
  |fail)
 all_goals first
  |((cases f<;>cases g<;>first |rfl |exact Bool.noConfusion h))
  |skip
theorem aH(a b:Int)(ha:inW a=true)(hb:inW b=true):PCall Tryz.prog 143 [.i a,.i b] (.ret (.tuple [.i (pv a b),.b (inW (a * b))])):=by
 refine ae Tryz.func143 ?_
 repeat' ((try(conv=>whnf))<;>first
  |refine BrI.intro (λh=>?_) (λh=>?_)
  |(refine ah ?_;conv=>whnf)
  |(refine And.intro ?_ ?_)
  |fail)
 all_goals first
  |((exact mm2_abs_ne hb (mulZ_no (a:=a) h)))
  |((rw[(pv_zero h).1,(pv_zero h).2]))
  |((exact prod_over ha hb ‹_› h))
  |((exact prod_fine ha hb ‹_› h))
  |skip
theorem eu(a b:Sp)(ha:inW a.1=true/\inW a.2=true)(hb:inW b.1=true/\inW b.2=true):PCall Tryz.prog 132 [.agg [.i a.1,.i a.2],.agg [.i b.1,.i b.2]] (.ret (rngT (prodM a b))):=by
 refine ae Tryz.func132 ?_
 repeat' ((try(conv=>whnf))<;>first
  |((have hz:¬((k:Int)<2):=of_decide_eq_false h);refine whileL_next (i+1,lo,hi) ?_ ?_ ?_)
  |((have hz:(!inW _)=false:=h);refine whileL_next (k+1,?_,?_) ?_ ?_ ?_)
  |(rcases two_cases h with hq |hq<;>clear h)
  |(rw[‹i=0›])
  |(rw[‹i=1›])
  |(rw[‹k=0›])
  |(rw[‹k=1›])
  |exact trivial
  |refine BrI.intro (λh=>?_) (λh=>?_)
  |((refine LoopAt.mk 0 ?_);refine⟨whileL (λ(q:(Nat)×(Int)×(Int))=>match q with |(i,lo,hi)=>[(9,.data (.val (.int .i64 (i:Nat)))),(7,.data (.val (.int .i64 lo))),(8,.data (.val (.int .i64 hi)))]) (λ(q:(Nat)×(Int)×(Int))=>match q with |(i,lo,hi)=>[]) [2,3] (λ(q:(Nat)×(Int)×(Int))=>match q with |(i,lo,hi)=>PrI a b (2 * i) lo hi/\i<=2) (λ(q:(Nat)×(Int)×(Int))=>match q with |(i,lo,hi)=>2-i),?_⟩;refine whileL_rule ((0),(4611686018427387904),((-4611686018427387904))) ?_ ?_ (λ⟨i,lo,hi⟩ hI0=>?_))
  |((refine LoopAt.mk 2 ?_);refine⟨whileL (λ(q:(Nat)×(Int)×(Int))=>match q with |(k,lo,hi)=>[(10,.data (.val (.int .i64 (k:Nat)))),(7,.data (.val (.int .i64 lo))),(8,.data (.val (.int .i64 hi)))]) (λ(q:(Nat)×(Int)×(Int))=>match q with |(k,lo,hi)=>[]) [2,3,9] (λ(q:(Nat)×(Int)×(Int))=>match q with |(k,lo,hi)=>PrI a b (2 * i+k) lo hi/\k<=2) (λ(q:(Nat)×(Int)×(Int))=>match q with |(k,lo,hi)=>2-k),?_⟩;refine whileL_rule ((0),(lo),(hi)) ?_ ?_ (λ⟨k,lo,hi⟩ hI2=>?_))
  |((refine call_step ?_ ?_ ?_);rotate_left;(first |exact aH a.1 b.1 ha.1 hb.1 |exact aH a.1 b.2 ha.1 hb.2 |exact aH a.2 b.1 ha.2 hb.1 |exact aH a.2 b.2 ha.2 hb.2))
  |((refine chk_stepP ?_ ?_);kernel_rfl)
  |(refine ah ?_;conv=>whnf)
  |(refine And.intro ?_ ?_)
  |exact @rfl AV _
  |exact ble_le rfl
  |fail)
 all_goals first
  |(rfl)
  |(decide)
  |((exact prI_start a b))
  |((first |(subst ‹i=0›;exact hI0.1) |(subst ‹i=1›;exact hI0.1)))
  |((first |(subst ‹i=0›;subst ‹k=0›;exact prI_step (n:=0) hI2.1 rfl h) |(subst ‹i=0›;subst ‹k=1›;exact prI_step (n:=1) hI2.1 rfl h) |(subst ‹i=1›;subst ‹k=0›;exact prI_step (n:=2) hI2.1 rfl h) |(subst ‹i=1›;subst ‹k=1›;exact prI_step (n:=3) hI2.1 rfl h)))
  |((first |(subst ‹i=0›;subst ‹k=0›;exact prI_out 0 rfl h) |(subst ‹i=0›;subst ‹k=1›;exact prI_out 1 rfl h) |(subst ‹i=1›;subst ‹k=0›;exact prI_out 2 rfl h) |(subst ‹i=1›;subst ‹k=1›;exact prI_out 3 rfl h)))
  |((first |(subst ‹i=0›;exact prI_two (i:=0) hI2 h) |(subst ‹i=1›;exact prI_two (i:=1) hI2 h)))
  |((exact prI_fin hI0 h))
  |skip
theorem jS(l:List Int)(h0:0<l.length)(hlen:l.length<=9223372036854775807):PCall Tryz.prog 128 [ints l] (.ret (rngT (.ok (minL (l.getD 0 0) l,maxL (l.getD 0 0) l)))):=by
 refine ae Tryz.func128 ?_
 repeat' ((try(conv=>whnf))<;>first
  |exact trivial
  |exact idx_next hd0 ‹_›
  |refine br_nil hd0 ?_
  |refine br_cons hd0 ?_
  |((refine idx_int (f:=intC) (n:=0) (0:Int) ?_ ?_ ?_ ?_ ?_);exact rfl;exact rfl;exact Int.le_refl _;exact Int.ofNat_lt.2 h0)
  |((refine LoopAt.mk 0 ?_);refine⟨rangeL (l) 7 (λ(q:(Int)×(Int))=>match q with |(lo,hi)=>[(5,.data (.val (.int .i64 lo))),(6,.data (.val (.int .i64 hi)))]) (λ(q:(Int)×(Int))=>match q with |(lo,hi)=>[]) [0] (λi0 r0 q=>match q with |(lo,hi)=>minL (l.getD 0 0) l=minL lo r0/\maxL (l.getD 0 0) l=maxL hi r0),?_⟩;refine rangeL_rule (?_,?_) ?_ ?_ (λi0 ⟨lo,hi⟩ hd0 hI0=>?_) (λi0 x0 r0 ⟨lo,hi⟩ hd0 hl0 hI0=>?_))
  |(refine rangeL_next hd0 (?_,?_) ?_ ?_)
  |((refine idx_step ?_ ?_ ?_ ?_ ?_);exact rfl;exact rfl;rotate_left;(exact idx_drop hd0))
  |(refine ah ?_;conv=>whnf)
  |(refine And.intro ?_ ?_)
  |exact @rfl AV _
  |fail)
 all_goals first
  |(rfl)
  |((exact hI0.1))
  |((exact hI0.2))
  |((rw[hI0.1,hI0.2];rfl))
  |skip
theorem gq(k:Int)  : PCall Tryz.prog 146 [.i k] (.ret (.i (parts16 k))):=by
 refine ae Tryz.func146 ?_
 repeat' ((try(conv=>whnf))<;>first
  |refine BrI.tt ?_
  |refine BrI.intro (λh=>?_) (λh=>?_)
  |(refine ah ?_;conv=>whnf)
  |fail)
 all_goals first
  |((refine congrArg D.i ?_;simp only[parts16, *];rfl))
  |skip
theorem gu(p:Pr)(s:Sm)(f:Sp)(i:Nat)(hw:wfS p i s=true)(hf1:inW f.1=true)(hf2:inW f.2=true):PCall Tryz.prog 126 [p.d,s.d,.i f.1,.i f.2] (.ret (.b (within p s f))):=by
 refine ae Tryz.func126 ?_
 repeat' ((try(conv=>whnf))<;>first
  |refine BrI.intro (λh=>?_) (λh=>?_)
  |((refine idx_int Rg.Bd.none ?_ ?_ (wfS_2 hw ‹_›).1 (wfS_2 hw ‹_›).2 ?_);exact rfl;exact rfl)
  |((refine idx_int Rg.Ln.none ?_ ?_ (wfS_3 hw ‹_›).1 (wfS_3 hw ‹_›).2 ?_);exact rfl;exact rfl)
  |((refine guard_step ?_ ?_ (λhg=>?_) ?_);exact rfl)
  |((refine val_step ?_ ?_);exact rfl;exact rfl)
  |(refine ah ?_;conv=>whnf)
  |fail)
 all_goals first
  |((refine congrArg D.b ?_;rw[within,bnd2 ‹_›];exact bif_and _ _))
  |((refine congrArg D.b ?_;rw[within,bnd3 ‹_› ‹_›];exact bif_and _ _))
  |((refine congrArg D.b ?_;rw[within,bnd4 ‹_› ‹_› ‹_›];exact bif_and _ _))
  |((refine congrArg D.b ?_;rw[within,bnd0 ‹_› ‹_› ‹_›];exact(within_all hf1 hf2).symm))
  |skip
theorem kV(p:Pr)(x:Ex)  : PCall Tryz.prog 142 [p.d,x.d] (.ret (.b (own16 p x))):=by
 refine ae Tryz.func142 ?_
 repeat' ((try(conv=>whnf))<;>first
  |refine BrI.intro (λh=>?_) (λh=>?_)
  |((refine gidx_int Rg.Sm.none (by have:=want_idx hg;rwa[List.length_map]at this) ?_))
  |((refine call_step ?_ ?_ ?_);rotate_left;(exact gq _))
  |((refine guard_step ?_ ?_ (λhg=>?_) ?_);exact rfl)
  |((refine val_step ?_ ?_);exact rfl;exact rfl)
  |((refine chk_stepP ?_ ?_);kernel_rfl)
  |(refine ah ?_;conv=>whnf)
  |(refine And.intro ?_ ?_)
  |fail)
 all_goals first
  |(rfl)
  |((refine congrArg D.b ?_;simp only[Ex.css_len]at *;simp only[own16,List.length_map, *,if_true,if_false,Bool.false_eq_true,reduceIte];done))
  |skip
theorem jh(p:Pr)(x:Ex)(most:Int)(hm0:0<=most)(hm:most<=512):PCall Tryz.prog 127 [p.d,x.d,.i most] (.ret (.i (countM p x most))):=by
 revert hm0 hm;revert most;revert x;refine Ex.ind λx ih most hm0 hm=>?_
 refine af Tryz.func127 λhf=>?_
 have hlen:=Ex.fits (hf x.d (by simp))
 have ih2:∀y∈x.l,∀m c,c=m->0<=m->m<=512->PCall Tryz.prog 127 [p.d,y.d,.i c] (.ret (.i (countM p y m))):=λy hy m c hc h0 h1=>by subst hc;exact ih y hy c h0 h1
 clear hf
 repeat' ((try(conv=>whnf))<;>first
  |exact trivial
  |exact idx_next hd0 ‹_›
  |refine br_nil_e hd0 ?_
  |refine br_cons_e hd0 ?_
  |refine BrI.intro (λh=>?_) (λh=>?_)
  |((refine LoopAt.mk 0 ?_);refine⟨rangeL (x.l) 8 (λ(n:(Int))=>[(7,.data (.val (.int .i64 n)))]) (λ(n:(Int))=>[]) [2,3,4] (λi0 r0 n=>countM p x most=countL p r0 most n/\1<=n/\n<=most),?_⟩;refine rangeL_rule ?_ ?_ ?_ (λi0 (n:(Int)) hd0 hI0=>?_) (λi0 x0 r0 (n:(Int)) hd0 hl0 hI0=>?_))
  |(refine rangeL_next hd0 ?_ ?_ ?_)
  |((refine call_step ?_ ?_ ?_);rotate_left;(first |exact kV _ _ |exact ih2 _ (drop_mem ‹_›) (most-n) _ (wrap_ok (by omega) (by omega)) (by omega) (by omega)))
  |((refine idx_step ?_ ?_ ?_ ?_ ?_);exact rfl;exact rfl;rotate_left;(exact idx_drop_e hd0))
  |((refine len_step ?_ ?_);exact rfl)
  |((refine guard_step ?_ ?_ (λhg=>?_) ?_);exact rfl)
  |((refine val_step ?_ ?_);exact rfl;exact rfl)
  |((refine chk_stepP ?_ ?_);kernel_rfl)
  |(refine ah ?_;conv=>whnf)
  |(refine And.intro ?_ ?_)
  |exact @rfl AV _
  |fail)
 all_goals first
  |((refine congrArg D.i ?_;rw[countM_eq];exact(if_pos h).symm))
  |((rw[countM_eq];exact if_neg (by rw[h];decide)))
  |((cases hc:decide (most<1)with |true=>rw[hc]at h;exact Bool.noConfusion h |false=>have:=of_decide_eq_false hc;omega))
  |((have hr:=count_rng p x0 (most-n);have h3:=of_decide_eq_false h;rw[wrap_ok (by omega) (by omega)];first |omega |(rw[hI0.1,countL,if_neg h3])))
  |((refine congrArg D.i ?_;rw[hI0.1,countL,if_pos (of_decide_eq_true h)]))
  |((refine congrArg D.i ?_;rw[hI0.1,countL]))
  |skip
theorem ji(p:Pr)(x:Ex)  : PCall Tryz.prog 80 [p.d,x.d] (.ret (.b (decide (countM p x 512>0)))):=by
 refine ae Tryz.func80 ?_
 repeat' ((try(conv=>whnf))<;>first
  |((refine call_step ?_ ?_ ?_);rotate_left;(exact jh p x 512 (by decide) (by decide)))
  |(refine ah ?_;conv=>whnf)
  |fail)
 all_goals first
  |skip
theorem dM(x:Ex)(p:Pr)(found:List Sp)(hR:Rng p)(hF:InS found)(hT:∀t∈p.tables,t.values.length<=1073741824)(hx:Ref15.nodes x<=1073741824)(hw:wfX p found.length x=true):PCall Tryz.prog 81 [p.d,.sl 2 (found.map Sp.cs),x.d] (.ret (rngT (findM p found x))):=by
 revert x;refine Ex.ind λx ih hx hw=>?_
 refine af Tryz.func81 λhf=>?_
 have hN:=Ref15.nodes_eq x
 have hL:=Ref15.len_nodes x.l
 have hlen:x.l.length<=9223372036854775807:=by omega
 obtain⟨g1,g2,g3⟩:=wfX_parts hw
 clear hf
 repeat' ((try(conv=>whnf))<;>first
  |(refine rng_step (ih x0 (drop_mem hd0) (by have:=nodes_mem (drop_mem hd0);omega) (wfL_mem g3 _ (drop_mem hd0))) (λs1 q1=>?_) (λe1 q1=>?_))
  |(exact Bool.noConfusion (show true=false from(find_ne0 q1).symm.trans h))
  |(exact Bool.noConfusion (show false=true from h))
  |exact trivial
  |exact idx_next hd0 ‹_›
  |refine BrI.tt ?_
  |refine br_nil_e hd0 ?_
  |refine br_cons_e hd0 ?_
  |refine BrI.intro (λh=>?_) (λh=>?_)
  |((refine idx_int Rg.Bd.none ?_ ?_ (own_k3 g2 ‹(x.kind==3)=true›).1 (own_k3 g2 ‹(x.kind==3)=true›).2 ?_);exact rfl;exact rfl)
  |((refine idx_int Rg.Bd.none ?_ ?_ (own_k4 g2 ‹(x.kind==4)=true›).1 (own_k4 g2 ‹(x.kind==4)=true›).2 ?_);exact rfl;exact rfl)
  |((refine idx_int ((0,0):Sp) ?_ ?_ (own_k5 g2 ‹(x.kind==5)=true›).1 (own_k5 g2 ‹(x.kind==5)=true›).2 ?_);exact rfl;exact rfl)
  |((refine idx_int Rg.Ln.none ?_ ?_ (own_k8 g2 ‹(x.kind==8)=true›).1 (own_k8 g2 ‹(x.kind==8)=true›).2 ?_);exact rfl;exact rfl)
  |((refine idx_int Rg.Tb.none ?_ ?_ (own_k9 g2 ‹(x.kind==9)=true›).1 (own_k9 g2 ‹(x.kind==9)=true›).2.1 ?_);exact rfl;exact rfl)
  |((refine idx_int (f:=Sp.cs) (n:=0) ((0,0):Sp) ?_ ?_ ?_ ?_ ?_);exact rfl;exact rfl;decide;rotate_left)
  |((refine idx_int (f:=Sp.cs) (n:=1) ((0,0):Sp) ?_ ?_ ?_ ?_ ?_);exact rfl;exact rfl;decide;rotate_left)
  |((refine idx_int (f:=Sp.cs) (n:=2) ((0,0):Sp) ?_ ?_ ?_ ?_ ?_);exact rfl;exact rfl;decide;rotate_left)
  |((refine idx_int (f:=Sp.cs) (n:=3) ((0,0):Sp) ?_ ?_ ?_ ?_ ?_);exact rfl;exact rfl;decide;rotate_left)
  |(refine rng_step (jS (tableAt p x.index) ?_ ?_) (λs2 q2=>?_) (λe2 q2=>?_))
  |(refine rng_step (eu (sl.getD (Int.toNat 0) (0,0)) (sl.getD (Int.toNat 1) (0,0)) (getD_in (findL_in hR hF g3 (find_end hI0.1).2) (Int.toNat 0)) (getD_in (findL_in hR hF g3 (find_end hI0.1).2) (Int.toNat 1))) (λs2 q2=>?_) (λe2 q2=>?_))
  |(refine rng_step (dZ _ _ _ _) (λs2 q2=>?_) (λe2 q2=>?_))
  |((refine LoopAt.mk 0 ?_);refine⟨rangeL (x.l) 10 (λ(sl:(List Sp))=>[(9,.gs 900009 2 (sl.map Sp.cs))]) (λ(sl:(List Sp))=>[(900009,.tok 2 (sl.map Sp.cs).length)]) [1,3,5] (λi0 r0 sl=>pre sl (findL p found r0)=findL p found x.l/\sl.length=i0),?_⟩;refine rangeL_rule [] ?_ ?_ (λi0 (sl:(List Sp)) hd0 hI0=>?_) (λi0 x0 r0 (sl:(List Sp)) hd0 hl0 hI0=>?_))
  |(refine rangeL_next hd0 (sl++[s1]) ?_ ?_)
  |((refine call_step ?_ ?_ ?_);rotate_left;(first |exact iR _ |exact bU (sl.getD 0 (0,0)).1 (sl.getD 1 (0,0)).1 _ rfl (getD_in (findL_in hR hF g3 (find_end hI0.1).2) 0).1 (getD_in (findL_in hR hF g3 (find_end hI0.1).2) 1).1 |exact bU (sl.getD 0 (0,0)).1 (-(sl.getD 1 (0,0)).2) _ (neg_wrap (getD_in (findL_in hR hF g3 (find_end hI0.1).2) 1).2) (getD_in (findL_in hR hF g3 (find_end hI0.1).2) 0).1 (neg_in (getD_in (findL_in hR hF g3 (find_end hI0.1).2) 1).2) |exact bY (sl.getD 0 (0,0)).1 x.n (getD_in (findL_in hR hF g3 (find_end hI0.1).2) 0).1 (own_k18 g2 ‹(x.kind==18)=true›) |exact bU (sl.getD 0 (0,0)).2 (sl.getD 1 (0,0)).2 _ rfl (getD_in (findL_in hR hF g3 (find_end hI0.1).2) 0).2 (getD_in (findL_in hR hF g3 (find_end hI0.1).2) 1).2 |exact bU (sl.getD 0 (0,0)).2 (-(sl.getD 1 (0,0)).1) _ (neg_wrap (getD_in (findL_in hR hF g3 (find_end hI0.1).2) 1).1) (getD_in (findL_in hR hF g3 (find_end hI0.1).2) 0).2 (neg_in (getD_in (findL_in hR hF g3 (find_end hI0.1).2) 1).1) |exact bY (sl.getD 0 (0,0)).2 x.n (getD_in (findL_in hR hF g3 (find_end hI0.1).2) 0).2 (own_k18 g2 ‹(x.kind==18)=true›)))
  |(refine ChooseI.l _ ?_)
  |((refine nilgs_step ?_ ?_ ?_ ?_ ?_ ?_)<;>exact rfl)
  |((refine tok0_step ?_ ?_ ?_ ?_)<;>exact rfl)
  |((refine idx_step ?_ ?_ ?_ ?_ ?_);exact rfl;exact rfl;rotate_left;(exact idx_drop_e hd0))
  |((refine len_step ?_ ?_);exact rfl)
  |((refine app_step' ?_ ?_ ?_ ?_ ?_ ?_ ?_);exact rfl;exact rfl;exact rfl;exact rfl)
  |((refine guard_step ?_ ?_ (λhg=>?_) ?_);exact rfl)
  |((refine val_step ?_ ?_);exact rfl;exact rfl)
  |((refine chk_stepP ?_ ?_);kernel_rfl)
  |(refine ah ?_;conv=>whnf)
  |(refine And.intro ?_ ?_)
  |((refine gs_eq ?_ ?_ ?_);exact rfl;exact rfl;(first |exact map_snoc |skip))
  |((refine tok_eq ?_ ?_);exact rfl;(first |exact map_snoc |skip))
  |exact @rfl AV _
  |exact ble_le rfl
  |fail)
 all_goals first
  |(rfl)
  |((exact pre_nil _))
  |((exact find_next hI0.1 q1))
  |((rw[List.length_append,hI0.2];rfl))
  |((rw[List.length_map];omega))
  |(decide)
  |((exact tab_pos g2 ‹(x.kind==9)=true›))
  |((exact tab_len g2 ‹(x.kind==9)=true› hT))
  |((rw[findL_len (find_end hI0.1).2];first |exact one_partx 6 g1 rfl ‹(x.kind==6)=true› |exact one_partx 7 g1 rfl ‹(x.kind==7)=true› |exact one_partx 8 g1 rfl ‹(x.kind==8)=true› |exact one_partx 9 g1 rfl ‹(x.kind==9)=true› |exact one_partx 10 g1 rfl ‹(x.kind==10)=true› |exact one_partx 13 g1 rfl ‹(x.kind==13)=true› |exact one_partx 14 g1 rfl ‹(x.kind==14)=true› |exact one_partx 18 g1 rfl ‹(x.kind==18)=true›))
  |((rw[findL_len (find_end hI0.1).2];first |(have e:=two_partx 11 g1 rfl ‹(x.kind==11)=true›;omega) |(have e:=two_partx 12 g1 rfl ‹(x.kind==12)=true›;omega) |(have e:=two_partx 15 g1 rfl ‹(x.kind==15)=true›;omega) |(have e:=two_partx 16 g1 rfl ‹(x.kind==16)=true›;omega) |(have e:=two_partx 17 g1 rfl ‹(x.kind==17)=true›;omega)))
  |((rw[findL_len (find_end hI0.1).2];have e:=if_parts g1 (k19 g2 ‹_› ‹_› ‹_› ‹_› ‹_› ‹_› ‹_› ‹_› ‹_› ‹_› ‹_› ‹_› ‹_› ‹_› ‹_› ‹_› ‹_›);omega))
  |((rw[(find_end hI0.1).1,opM_k 1 ‹(x.kind==1)=true›];rfl))
  |((rw[(find_end hI0.1).1,opM_k 3 ‹(x.kind==3)=true›];rfl))
  |((rw[(find_end hI0.1).1,opM_k 4 ‹(x.kind==4)=true›];rfl))
  |((rw[(find_end hI0.1).1,opM_k 5 ‹(x.kind==5)=true›];rfl))
  |((rw[(find_end hI0.1).1,opM_k 8 ‹(x.kind==8)=true›];rfl))
  |((rw[(find_end hI0.1).1,opM_k 10 ‹(x.kind==10)=true›];rfl))
  |((rw[(find_end hI0.1).1,opM_k 11 ‹(x.kind==11)=true›];rfl))
  |((rw[(find_end hI0.1).1,opM_k 12 ‹(x.kind==12)=true›];rfl))
  |((rw[(find_end hI0.1).1,opM_k 18 ‹(x.kind==18)=true›];rfl))
  |((rw[(find_end hI0.1).1,opM_k 19 (k19 g2 ‹_› ‹_› ‹_› ‹_› ‹_› ‹_› ‹_› ‹_› ‹_› ‹_› ‹_› ‹_› ‹_› ‹_› ‹_› ‹_› ‹_›)];rfl))
  |((have h2:=(bif_or _ _).symm.trans h;rw[(find_end hI0.1).1,opM_k 6 ‹(x.kind==6)=true›];show _=rngT (aheadM (sl.getD (Int.toNat 0) (0,0)));rw[aheadM,if_pos h2];rfl))
  |((have h2:=(bif_or _ _).symm.trans h;rw[(find_end hI0.1).1,opM_k 6 ‹(x.kind==6)=true›];show _=rngT (aheadM (sl.getD (Int.toNat 0) (0,0)));rw[aheadM,if_neg (by rw[h2];decide)];rfl))
  |((have h2:=(bif_or _ _).symm.trans h;rw[(find_end hI0.1).1,opM_k 7 ‹(x.kind==7)=true›];show _=rngT (aheadM (sl.getD (Int.toNat 0) (0,0)));rw[aheadM,if_pos h2];rfl))
  |((have h2:=(bif_or _ _).symm.trans h;rw[(find_end hI0.1).1,opM_k 7 ‹(x.kind==7)=true›];show _=rngT (aheadM (sl.getD (Int.toNat 0) (0,0)));rw[aheadM,if_neg (by rw[h2];decide)];rfl))
  |((rw[(find_end hI0.1).1,opM_k 9 ‹(x.kind==9)=true›];exact congrArg rngT q2.symm))
  |((rw[(find_end hI0.1).1,opM_k 17 ‹(x.kind==17)=true›];exact congrArg rngT q2.symm))
  |((rw[(find_end hI0.1).1,opM_k 15 ‹(x.kind==15)=true›];exact(congrArg rngT q2).symm.trans (two_ref (getD_in (findL_in hR hF g3 (find_end hI0.1).2) (Int.toNat 0)).1 (getD_in (findL_in hR hF g3 (find_end hI0.1).2) (Int.toNat 1)).1 (getD_in (findL_in hR hF g3 (find_end hI0.1).2) (Int.toNat 0)).2 (getD_in (findL_in hR hF g3 (find_end hI0.1).2) (Int.toNat 1)).2)))
  |((rw[(find_end hI0.1).1,opM_k 16 ‹(x.kind==16)=true›];exact(congrArg rngT q2).symm.trans (two_ref (getD_in (findL_in hR hF g3 (find_end hI0.1).2) (Int.toNat 0)).1 (neg_in (getD_in (findL_in hR hF g3 (find_end hI0.1).2) (Int.toNat 1)).2) (getD_in (findL_in hR hF g3 (find_end hI0.1).2) (Int.toNat 0)).2 (neg_in (getD_in (findL_in hR hF g3 (find_end hI0.1).2) (Int.toNat 1)).1))))
  |((rw[(find_end hI0.1).1,opM_k 13 ‹(x.kind==13)=true›];show _=rngT (.ok (absM (sl.getD (Int.toNat 0) (0,0))));rw[absM,if_pos (of_decide_eq_true h)];rfl))
  |((rw[(find_end hI0.1).1,opM_k 13 ‹(x.kind==13)=true›];show _=rngT (.ok (absM (sl.getD (Int.toNat 0) (0,0))));rw[absM,if_neg (of_decide_eq_false ‹decide ((sl.getD (Int.toNat 0) (0,0)).1>=0)=false›),if_pos (of_decide_eq_true h),neg_wrap (getD_in (findL_in hR hF g3 (find_end hI0.1).2) (Int.toNat 0)).1,neg_wrap (getD_in (findL_in hR hF g3 (find_end hI0.1).2) (Int.toNat 0)).2];rfl))
  |((rw[(find_end hI0.1).1,opM_k 13 ‹(x.kind==13)=true›];show _=rngT (.ok (absM (sl.getD (Int.toNat 0) (0,0))));rw[absM,if_neg (of_decide_eq_false ‹decide ((sl.getD (Int.toNat 0) (0,0)).1>=0)=false›),if_neg (of_decide_eq_false h),neg_wrap (getD_in (findL_in hR hF g3 (find_end hI0.1).2) (Int.toNat 0)).1];rfl))
  |((rw[(find_end hI0.1).1,opM_k 14 ‹(x.kind==14)=true›];rw[neg_wrap (getD_in (findL_in hR hF g3 (find_end hI0.1).2) (Int.toNat 0)).1,neg_wrap (getD_in (findL_in hR hF g3 (find_end hI0.1).2) (Int.toNat 0)).2];rfl))
  |((rw[find_bad hI0.1 q1];rfl))
  |skip
theorem dw(p:Pr)(g:GoodP p):PCall Tryz.prog 40 [p.d] (.ret (.tuple [(resolveC p).1.d,.i (resolveC p).2])):=by
 rw[resolve_same];exact gp p g.sm g.hn
theorem iI(p:Pr):PCall Tryz.prog 41 [(resolveC p).1.d,p.d] (.ret (.b (samePr p (resolveC p).1))):=by
 rw[samePr_comm];exact ja _ _
theorem aV(p:Pr)(g:GoodP p):PCall Tryz.prog 125 [p.d] (.ret (.i (resE p))):=by
 refine ae Tryz.func125 ?_
 repeat' ((try(conv=>whnf))<;>first
  |refine BrI.intro (λh=>?_) (λh=>?_)
  |((refine call_step ?_ ?_ ?_);rotate_left;(first |exact dw p g |exact iI p))
  |(refine ah ?_;conv=>whnf)
  |fail)
 all_goals first
  |((rw[resE,if_pos h]))
  |((have h2:=not_t h;rw[resE,if_neg (by rw[‹((resolveC p).2 != 0)=false›];decide),h2];rfl))
  |((have h2:=not_f h;rw[resE,if_neg (by rw[‹((resolveC p).2 != 0)=false›];decide),h2];rfl))
  |skip
theorem jl(p:Pr)(g:GoodP p)(he:(resE p != 0)=true):PCall Tryz.prog 79 [p.d] (.ret (boundsD p)):=by
 refine ae Tryz.func79 ?_
 repeat' ((try(conv=>whnf))<;>first
  |(exact Bool.noConfusion (show true=false from he.symm.trans h))
  |refine BrI.intro (λh=>?_) (λh=>?_)
  |((refine call_step ?_ ?_ ?_);rotate_left;(exact aV _ (by assumption)))
  |(refine ah ?_;conv=>whnf)
  |fail)
 all_goals first
  |((rw[boundsD_no he];rfl))
  |skip
theorem jm(p:Pr)(R:Except Int (List Sp))(FF:List Sp)(g:GoodP p)(he:(resE p != 0)=false)(hR:Rng p)(hw:wfSL p 0 p.stmts=true)(hS:stmtsM p p.stmts []=R)(hF:stmtsF p p.stmts []=FF):PCall Tryz.prog 79 [p.d] (.ret (boundsT R)):=by
 refine af Tryz.func79 λhf=>?_
 have hs5:=g.sm.stmts
 have hlen:p.stmts.length<=9223372036854775807:=by omega
 clear hf
 repeat' ((try(conv=>whnf))<;>first
  |(exact Bool.noConfusion (show false=true from he.symm.trans h))
  |(exact Bool.noConfusion (show true=false from(find_ne0 q1).symm.trans h))
  |(exact Bool.noConfusion (show false=true from h))
  |exact trivial
  |exact idx_next hd0 ‹_›
  |refine br_nil hd0 ?_
  |refine br_cons hd0 ?_
  |refine BrI.intro (λh=>?_) (λh=>?_)
  |(refine rng_step (dM x0.x p fs hR hI0.ins g.hT (g.hn _ (drop_mem hd0)) (stI_find hI0)) (λs1 q1=>?_) (λe1 q1=>?_))
  |((refine LoopAt.mk 0 ?_);refine⟨rangeL (p.stmts) 6 (λ(fs:(List Sp))=>[(5,.gs 900005 2 (fs.map Sp.cs))]) (λ(fs:(List Sp))=>[(900005,.tok 2 (fs.map Sp.cs).length)]) [1] (λi0 r0 fs=>StI p R FF i0 r0 fs),?_⟩;refine rangeL_rule [] ?_ ?_ (λi0 (fs:(List Sp)) hd0 hI0=>?_) (λi0 x0 r0 (fs:(List Sp)) hd0 hl0 hI0=>?_))
  |(refine rangeL_next hd0 (fs++[s1]) ?_ ?_)
  |((refine call_step ?_ ?_ ?_);rotate_left;(first |exact aV _ (by assumption) |exact gu p x0 s1 i0 (stI_s hI0) (findM_in hR hI0.ins _ _ (stI_find hI0) q1).1 (findM_in hR hI0.ins _ _ (stI_find hI0) q1).2))
  |(refine ChooseI.l _ ?_)
  |((refine nilgs_step ?_ ?_ ?_ ?_ ?_ ?_)<;>exact rfl)
  |((refine tok0_step ?_ ?_ ?_ ?_)<;>exact rfl)
  |((refine idx_step ?_ ?_ ?_ ?_ ?_);exact rfl;exact rfl;rotate_left;(exact idx_drop hd0))
  |((refine len_step ?_ ?_);exact rfl)
  |((refine app_step' ?_ ?_ ?_ ?_ ?_ ?_ ?_);exact rfl;exact rfl;exact rfl;exact rfl)
  |((refine chk_stepP ?_ ?_);kernel_rfl)
  |(refine ah ?_;conv=>whnf)
  |(refine And.intro ?_ ?_)
  |((refine gs_eq ?_ ?_ ?_);exact rfl;exact rfl;(first |exact map_snoc |skip))
  |((refine tok_eq ?_ ?_);exact rfl;(first |exact map_snoc |skip))
  |exact @rfl AV _
  |exact ble_le rfl
  |fail)
 all_goals first
  |((exact stI_start hS hF hw))
  |((rw[(stI_bad1 hI0 q1).1];rfl))
  |((rw[(stI_bad2 hI0 q1 (not_t h)).1];rfl))
  |((exact stI_next hR hI0 q1 (not_f h)))
  |((rw[(stI_end hI0).1];rfl))
  |((rw[List.length_map];have:=hI0.len;omega))
  |skip
theorem aT(p:Pr)(g:GoodP p):PCall Tryz.prog 79 [p.d] (.ret (boundsD p)):=by
 cases he:resE p != 0 with
 |true=>exact jl p g he
 |false=>
  have hz:resE p=0:=by simpa using he
  rw[boundsD_go hz]
  exact jm p _ _ g he (resE_res hz).rng (resE_res hz).wf rfl rfl
theorem gy(p:Pr)(g:GoodP p):∃pd,PCall Tryz.prog 35 [p.d] (.ret (.tuple [pd,.i (boundsR p).2]))/\(((boundsR p).2 != 0)=true->pd = .val (.pointer none)\/pd = .ptr (fC p (stmtsF p p.stmts [])))/\((boundsR p).2=0->pd = .ptr (fC p (boundsR p).1)):=by
 cases he:resE p != 0 with
 |true=>
  rw[boundsR_no he]
  refine⟨.val (.pointer none),?_,λ_=>.inl rfl,λh=>?_⟩
  ·cases h2:(resolveC p).2 != 0 with
   |true=>rw[show resE p=(resolveC p).2 from by rw[resE,if_pos h2]];exact kP p g h2
   |false=>
    cases h3:samePr p (resolveC p).1 with
    |true=>rw[resE,if_neg (by rw[h2];decide),h3]at he;exact absurd he (by decide)
    |false=>rw[show resE p=150 from by rw[resE,if_neg (by rw[h2];decide),h3];rfl];exact kQ p g h2 h3
  ·have h:resE p=0:=h
   rw[h]at he;exact absurd he (by decide)
 |false=>
  have hz:resE p=0:=by simpa using he
  have hr:=resE_res hz
  have hq:=resE_zero hz
  cases hs:stmtsM p p.stmts []with
  |ok F=>
   rw[boundsR_ok hz hs]
   have hF:stmtsF p p.stmts []=F:=stmF_ok hs
   exact⟨.ptr (fC p F),kR p F g (by rw[hq]) (by rw[hq]) hr.rng hr.wf hs hF,λh=>Bool.noConfusion (show false=true from h),λ_=>rfl⟩
  |error e=>
   rw[boundsR_bad hz hs]
   refine⟨.ptr (fC p (stmtsF p p.stmts [])),jO p _ e g (by rw[hq]) (by rw[hq]) hr.rng hr.wf hs rfl,λ_=>.inr rfl,λh=>?_⟩
   have:=stm_ne0 hs
   have h:e=0:=h
   rw[h]at this;exact absurd this (by decide)
theorem ik(p:Pr)(g:GoodP p):PCall Tryz.prog 32 [p.d] (.ret (.i (boundsR p).2)):=by
 obtain⟨pd,h1,h2,h3⟩:=gy p g
 exact check_any p pd _ h1
theorem dH(p:Pr)(x:Ex)(g:GoodP p)(hx:Ref15.nodes x<=1073741824):PCall Tryz.prog 21 [p.d,x.d] (.ret (rngT (intervalR p x))):=by
 obtain⟨pd,h1,h2,h3⟩:=gy p g
 cases he:(boundsR p).2 != 0 with
 |true=>
  rw[intR_no he]
  rcases h2 he with r |r
  ·subst r;exact lV p x _ h1 he
  ·subst r;exact lW p x _ _ h1 he
 |false=>
  have hz:(boundsR p).2=0:=by simpa using he
  have h3:=h3 hz;subst h3
  rw[hz]at h1
  have hb:=(boundsR_zero hz).1
  cases hx2:fitsB p x with
  |false=>rw[intR_name hz hx2];exact kU p x _ h1 hx2
  |true=>
   rw[intR_go hz hx2]
   have hf:=bF x p (boundsR p).1 hb.res.rng hb.ins g.hT hx (bok_wf hb hx2)
   cases hm:findM p (boundsR p).1 x with
   |ok s=>rw[hm]at hf;exact nK p x _ s h1 hx2 hf
   |error e=>rw[hm]at hf;exact lX p x _ e h1 hx2 hf
theorem iq(p:Pr)(g:GoodP p):PCall Tryz.prog 42 [p.d] (.ret (.i (boundsR p).2)):=by
 refine ae Tryz.func42 ?_
 repeat' ((try(conv=>whnf))<;>first
  |((refine call_step ?_ ?_ ?_);rotate_left;(exact aT p g))
  |(refine ah ?_;conv=>whnf)
  |fail)
 all_goals first
  |skip
theorem lY(p:Pr)(x:Ex)(g:GoodP p)(he:((boundsR p).2 != 0)=true):PCall Tryz.prog 43 [p.d,x.d] (.ret (rngT (intervalR p x))):=by
 refine ae Tryz.func43 ?_
 repeat' ((try(conv=>whnf))<;>first
  |(exact Bool.noConfusion (show true=false from he.symm.trans h))
  |refine BrI.intro (λh=>?_) (λh=>?_)
  |((refine call_step ?_ ?_ ?_);rotate_left;(exact aT p g))
  |(refine ah ?_;conv=>whnf)
  |fail)
 all_goals first
  |((rw[intR_no he];rfl))
  |skip
theorem lZ(p:Pr)(x:Ex)(g:GoodP p)(he:(boundsR p).2=0)(hx:Ref15.nodes x<=1073741824)(hr:decide (countM p x 512>0)=true->PCall Tryz.prog 81 [p.d,.sl 2 ((boundsR p).1.map Sp.cs),x.d] (.ret (rngT (findM p (boundsR p).1 x)))):PCall Tryz.prog 43 [p.d,x.d] (.ret (rngT (intervalR p x))):=by
 refine ae Tryz.func43 ?_
 repeat' ((try(conv=>whnf))<;>first
  |(exact Bool.noConfusion (show false=true from(congrArg (· != 0) he).symm.trans h))
  |refine BrI.intro (λh=>?_) (λh=>?_)
  |(refine rng_step (hr (not_f h)) (λs2 q2=>?_) (λe2 q2=>?_))
  |((refine call_step ?_ ?_ ?_);rotate_left;(first |exact ji _ _ |exact aT p g))
  |(refine ah ?_;conv=>whnf)
  |fail)
 all_goals first
  |((rw[intR_name he ((fitsB_count p x).symm.trans (not_t h))];rfl))
  |((rw[intR_go he ((fitsB_count p x).symm.trans (not_f ‹_›)),q2];rfl))
  |skip
theorem dI(p:Pr)(x:Ex)(g:GoodP p)(hx:Ref15.nodes x<=1073741824):PCall Tryz.prog 43 [p.d,x.d] (.ret (rngT (intervalR p x))):=by
 cases he:(boundsR p).2 != 0 with
 |true=>exact lY p x g he
 |false=>
  have hz:(boundsR p).2=0:=by simpa using he
  have hb:=(boundsR_zero hz).1
  exact lZ p x g hz hx λhx2=>dM x p _ hb.res.rng hb.ins g.hT hx (bok_wf hb ((fitsB_count p x).symm.trans hx2))
end Go.Proofs.YtogfjinopifenaaGreatDoor
