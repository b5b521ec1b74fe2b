/- Contracts: package ranges: numbers. -/
import Derived.Test.YtogfjinopifenaaGreatDoorZSA
import Derived.Test.YtogfjinopifenaaGreatDoorZRB
set_option linter.unusedSectionVars false
set_option linter.unusedSimpArgs false
set_option linter.unusedVariables false
set_option maxHeartbeats 4000000
namespace Go.Proofs.YtogfjinopifenaaGreatDoor
open Go.Fw Go.Fw.Rg
set_option maxRecDepth 10000
variable [GlobInt]
theorem jK(x:Int)  : PCall Tryz.prog 103 [.i x] (.ret (.i (clipM x))):=by
 refine ae Tryz.func103 ?_
 repeat' ((try(conv=>whnf))<;>first
  |refine BrI.intro (λh=>?_) (λh=>?_)
  |(refine ah ?_;conv=>whnf)
  |fail)
 all_goals first
  |((refine congrArg D.i ?_;unfold clipM;simp only[decide_eq_true_eq,decide_eq_false_iff_not]at *;(repeat' split)<;>omega))
  |skip
theorem iR(x:Int)  : PCall Tryz.prog 129 [.i x] (.ret (.i (clipM x))):=by
 refine ae Tryz.func129 ?_
 repeat' ((try(conv=>whnf))<;>first
  |(refine ah ?_;conv=>whnf)
  |fail)
 all_goals first
  |((exact congrArg D.i (clip_ref x)))
  |skip
theorem bY(a n:Int)(ha:inW a=true)(hn:1<=n):PCall Tryz.prog 133 [.i a,.i n] (.ret (.i (floorM a n))):=by
 refine ae Tryz.func133 ?_
 repeat' ((try(conv=>whnf))<;>first
  |refine BrI.intro (λh=>?_) (λh=>?_)
  |(refine ah ?_;conv=>whnf)
  |(refine And.intro ?_ ?_)
  |fail)
 all_goals first
  |(omega)
  |((refine congrArg D.i ?_;have e:=floor_ref hn ha;rw[if_pos (of_decide_eq_true h)]at e;rw[e,wrap_ok (n:=floorM a n+1-1) (by have:=inW_iff.1 (div_le hn ha);simp only[floorM];omega) (by have:=inW_iff.1 (div_le hn ha);simp only[floorM];omega)];omega))
  |((refine congrArg D.i ?_;have e:=floor_ref hn ha;rw[if_neg (of_decide_eq_false h)]at e;exact e))
  |skip
theorem fQ(a n:Int)(ha:inW a=true)(hn:1<=n)(hn2:n<=2147483648):PCall Tryz.prog 114 [.i a,.i n] (.ret (.i (floorM a n))):=by
 refine ae Tryz.func114 ?_
 repeat' ((try(conv=>whnf))<;>first
  |refine BrI.intro (λh=>?_) (λh=>?_)
  |(refine ah ?_;conv=>whnf)
  |(refine And.intro ?_ ?_)
  |fail)
 all_goals first
  |(omega)
  |((exact congrArg D.i (down_neg hn hn2 ha (of_decide_eq_true h))))
  |((exact congrArg D.i (down_pos hn ha (of_decide_eq_false h))))
  |skip
theorem add_ok(a b:Int)(hc:addC a b=false)(hw:IntKind.i64.wrap (a+b)=a+b):PCall Tryz.prog 109 [.i a,.i b] (.ret (.i (a+b))):=by
 refine ae Tryz.func109 ?_
 repeat' ((try(conv=>whnf))<;>first
  |refine BrI.intro (λh=>?_) (λh=>?_)
  |(exact Bool.noConfusion (hc.symm.trans h))
  |(refine ah ?_;conv=>whnf)
  |fail)
 all_goals first
  |((exact congrArg D.i hw))
  |skip
theorem add_bad(a b:Int)(hc:addC a b=true):PCall Tryz.prog 109 [.i a,.i b] (.pan (.iface 30 (.i 160))):=by
 refine ae Tryz.func109 ?_
 repeat' ((try(conv=>whnf))<;>first
  |refine BrI.intro (λh=>?_) (λh=>?_)
  |(exact Bool.noConfusion (hc.symm.trans h))
  |((refine pan_step ?_);refine⟨[],rfl,?_,trivial⟩;conv=>whnf)
  |fail)
 all_goals first
  |skip
theorem lN(n:Int)(f:Bool)(hc:wideE n f=false):PCall Tryz.prog 138 [.i n,.b f] (.ret (.i n)):=by
 refine ae Tryz.func138 ?_
 repeat' ((try(conv=>whnf))<;>first
  |refine BrI.intro (λh=>?_) (λh=>?_)
  |(exact Bool.noConfusion (hc.symm.trans h))
  |(refine ah ?_;conv=>whnf)
  |fail)
 all_goals first
  |skip
theorem kG(n:Int)(f:Bool)(hc:wideE n f=true):PCall Tryz.prog 138 [.i n,.b f] (.pan (.iface 30 (.i 160))):=by
 refine ae Tryz.func138 ?_
 repeat' ((try(conv=>whnf))<;>first
  |refine BrI.intro (λh=>?_) (λh=>?_)
  |(exact Bool.noConfusion (hc.symm.trans h))
  |((refine pan_step ?_);refine⟨[],rfl,?_,trivial⟩;conv=>whnf)
  |fail)
 all_goals first
  |skip
theorem mul_zero(a b:Int)(hz:mulZ a b=true):PCall Tryz.prog 112 [.i a,.i b] (.ret (.i 0)):=by
 refine ae Tryz.func112 ?_
 repeat' ((try(conv=>whnf))<;>first
  |refine BrI.intro (λh=>?_) (λh=>?_)
  |(exact Bool.noConfusion (hz.symm.trans h))
  |(refine ah ?_;conv=>whnf)
  |fail)
 all_goals first
  |skip
theorem nJ(a b:Int)(hz:mulZ a b=false)(hb:b≠0)(hq:mm2 true b (IntKind.i64.wrap (0-b))≠0)(hw:wideE (IntKind.i64.wrap (a * b)) (mulF a b)=false):PCall Tryz.prog 112 [.i a,.i b] (.ret (.i (IntKind.i64.wrap (a * b)))):=by
 refine ae Tryz.func112 ?_
 repeat' ((try(conv=>whnf))<;>first
  |refine BrI.intro (λh=>?_) (λh=>?_)
  |(exact Bool.noConfusion (hz.symm.trans h))
  |((refine call_step ?_ ?_ ?_);rotate_left;(exact lN _ _ hw))
  |((refine guard_step ?_ ?_ (λhg=>?_) ?_);exact rfl)
  |((refine val_step ?_ ?_);exact rfl;exact rfl)
  |((refine same_step ?_ ?_);exact rfl)
  |(refine ah ?_;conv=>whnf)
  |(refine And.intro ?_ ?_)
  |fail)
 all_goals first
  |((exact hb))
  |((exact hq))
  |skip
theorem lQ(a b:Int)(hz:mulZ a b=false)(hb:b≠0)(hq:mm2 true b (IntKind.i64.wrap (0-b))≠0)(hw:wideE (IntKind.i64.wrap (a * b)) (mulF a b)=true):PCall Tryz.prog 112 [.i a,.i b] (.pan (.iface 30 (.i 160))):=by
 refine ae Tryz.func112 ?_
 repeat' ((try(conv=>whnf))<;>first
  |refine BrI.intro (λh=>?_) (λh=>?_)
  |(exact Bool.noConfusion (hz.symm.trans h))
  |((refine call_step ?_ ?_ ?_);rotate_left;(exact kG _ _ hw))
  |((refine guard_step ?_ ?_ (λhg=>?_) ?_);exact rfl)
  |((refine val_step ?_ ?_);exact rfl;exact rfl)
  |((refine pan_step ?_);refine⟨[],rfl,?_,trivial⟩;conv=>whnf)
  |(refine And.intro ?_ ?_)
  |fail)
 all_goals first
  |((exact hb))
  |((exact hq))
  |skip
abbrev fC(p:Pr)(found:List Sp):List D:=[.str p.name,.i p.latency,.i p.tail,.sl 3 (p.params.map Bd.cs),.sl 3 (p.states.map Bd.cs),.sl 4 (p.lines.map Ln.cs),.sl 2 (p.tables.map Tb.cs),.sl 8 (p.stmts.map Sm.cs),.sl 2 (found.map Sp.cs)]
theorem bi(a b c:Int)(hc:c=b)(ha:inW a=true)(hb:inW b=true):PCall Tryz.prog 109 [.i a,.i c] (outI 30 (okW (a+b))):=by
 subst hc
 unfold okW
 cases hw:inW (a+c)with
 |true=>exact add_ok a c (by rw[addC_eq ha hb,hw];rfl) (inW_wrap hw)
 |false=>exact add_bad a c (by rw[addC_eq ha hb,hw];rfl)
theorem bn(a b:Int)(ha:inW a=true)(hb:inW b=true):PCall Tryz.prog 112 [.i a,.i b] (outI 30 (okW (a * b))):=by
 cases hz:mulZ a b with
 |true=>rw[mulZ_in hz];exact mul_zero a b hz
 |false=>
  have hb0:=mulZ_no hz
  have hq:mm2 true b (IntKind.i64.wrap (0-b))≠0:=by rw[neg_wrap hb,mm2_abs];omega
  unfold okW
  cases hw:inW (a * b)with
  |true=>
   have:=nJ a b hz hb0 hq (by rw[wide_mul ha hb hb0,hw];rfl)
   rw[inW_wrap hw]at this;exact this
  |false=>exact lQ a b hz hb0 hq (by rw[wide_mul ha hb hb0,hw];rfl)
theorem op1(p:Pr)(found:List Sp)(x:Ex)  : PCall Tryz.prog 95 [.ptr (fC p found),x.d,.sl 2 []] (.ret (Sp.d (x.n,x.n))):=by
 refine ae Tryz.func95 ?_
 repeat' ((try(conv=>whnf))<;>first
  |(refine ah ?_;conv=>whnf)
  |fail)
 all_goals first
  |skip
theorem op3(p:Pr)(found:List Sp)(x:Ex)(h0:0<=x.index)(h1:x.index<p.params.length):PCall Tryz.prog 96 [.ptr (fC p found),x.d,.sl 2 []] (.ret (Sp.d ((paramAt p x.index).lo,(paramAt p x.index).hi))):=by
 refine ae Tryz.func96 ?_
 repeat' ((try(conv=>whnf))<;>first
  |((refine idx_int Rg.Bd.none ?_ ?_ h0 h1 ?_);exact rfl;exact rfl)
  |((refine chk_stepP ?_ ?_);kernel_rfl)
  |(refine ah ?_;conv=>whnf)
  |fail)
 all_goals first
  |skip
theorem op4(p:Pr)(found:List Sp)(x:Ex)(h0:0<=x.index)(h1:x.index<p.states.length):PCall Tryz.prog 97 [.ptr (fC p found),x.d,.sl 2 []] (.ret (Sp.d ((stateAt p x.index).lo,(stateAt p x.index).hi))):=by
 refine ae Tryz.func97 ?_
 repeat' ((try(conv=>whnf))<;>first
  |((refine idx_int Rg.Bd.none ?_ ?_ h0 h1 ?_);exact rfl;exact rfl)
  |((refine chk_stepP ?_ ?_);kernel_rfl)
  |(refine ah ?_;conv=>whnf)
  |fail)
 all_goals first
  |skip
theorem op5(p:Pr)(found:List Sp)(x:Ex)(h0:0<=x.index)(h1:x.index<found.length):PCall Tryz.prog 98 [.ptr (fC p found),x.d,.sl 2 []] (.ret (Sp.d (found.getD x.index.toNat (0,0)))):=by
 refine ae Tryz.func98 ?_
 repeat' ((try(conv=>whnf))<;>first
  |((refine idx_int ((0,0):Sp) ?_ ?_ h0 h1 ?_);exact rfl;exact rfl)
  |((refine len_step ?_ ?_);exact rfl)
  |((refine chk_stepP ?_ ?_);kernel_rfl)
  |(refine ah ?_;conv=>whnf)
  |fail)
 all_goals first
  |skip
theorem lD(p:Pr)(found:List Sp)(x:Ex)(a:Sp)(hc:(decide (a.1<0) || decide (a.2>4096))=false):PCall Tryz.prog 99 [.ptr (fC p found),x.d,.sl 2 [[.i a.1,.i a.2]]] (.ret (Sp.d (-2147483648,2147483647))):=by
 refine ae Tryz.func99 ?_
 repeat' ((try(conv=>whnf))<;>first
  |refine BrI.intro (λh=>?_) (λh=>?_)
  |(exact Bool.noConfusion (hc.symm.trans ((bif_or _ _).symm.trans h)))
  |((refine idx_lit ?_ ?_ ?_ ?_);exact rfl;exact rfl;exact rfl)
  |((refine len_step ?_ ?_);exact rfl)
  |((refine guard_step ?_ ?_ (λhg=>?_) ?_);exact rfl)
  |((refine val_step ?_ ?_);exact rfl;exact rfl)
  |(refine ah ?_;conv=>whnf)
  |(refine And.intro ?_ ?_)
  |fail)
 all_goals first
  |(decide)
  |skip
theorem jL(p:Pr)(found:List Sp)(x:Ex)(a:Sp)(hc:(decide (a.1<0) || decide (a.2>4096))=true):PCall Tryz.prog 99 [.ptr (fC p found),x.d,.sl 2 [[.i a.1,.i a.2]]] (.pan (.iface 30 (.i 161))):=by
 refine ae Tryz.func99 ?_
 repeat' ((try(conv=>whnf))<;>first
  |refine BrI.intro (λh=>?_) (λh=>?_)
  |(exact Bool.noConfusion (hc.symm.trans ((bif_or _ _).symm.trans h)))
  |((refine idx_lit ?_ ?_ ?_ ?_);exact rfl;exact rfl;exact rfl)
  |((refine guard_step ?_ ?_ (λhg=>?_) ?_);exact rfl)
  |((refine val_step ?_ ?_);exact rfl;exact rfl)
  |((refine pan_step ?_);refine⟨[],rfl,?_,trivial⟩;conv=>whnf)
  |(refine And.intro ?_ ?_)
  |fail)
 all_goals first
  |(decide)
  |skip
theorem op8(p:Pr)(found:List Sp)(x:Ex)(a:Sp)(h0:0<=x.index)(h1:x.index<p.lines.length):PCall Tryz.prog 100 [.ptr (fC p found),x.d,.sl 2 [[.i a.1,.i a.2]]] (.ret (Sp.d (mm2 false (lineAt p x.index).lo 0,mm2 true (lineAt p x.index).hi 0))):=by
 refine ae Tryz.func100 ?_
 repeat' ((try(conv=>whnf))<;>first
  |((refine idx_int Rg.Ln.none ?_ ?_ h0 h1 ?_);exact rfl;exact rfl)
  |((refine chk_stepP ?_ ?_);kernel_rfl)
  |(refine ah ?_;conv=>whnf)
  |fail)
 all_goals first
  |skip
theorem op9(p:Pr)(found:List Sp)(x:Ex)(a:Sp)(h0:0<=x.index)(h1:x.index<p.tables.length)(hv:0<(tableAt p x.index).length)(hvl:(tableAt p x.index).length<=1073741824):PCall Tryz.prog 101 [.ptr (fC p found),x.d,.sl 2 [[.i a.1,.i a.2]]] (.ret (Sp.d (minL ((tableAt p x.index).getD 0 0) (tableAt p x.index),maxL ((tableAt p x.index).getD 0 0) (tableAt p x.index)))):=by
 refine af Tryz.func101 λhf=>?_
 have hlen:(tableAt p x.index).length<=9223372036854775807:=by omega
 clear hf
 repeat' ((try(conv=>whnf))<;>first
  |exact trivial
  |exact idx_next hd0 ‹_›
  |refine br_nil hd0 ?_
  |refine br_cons hd0 ?_
  |((refine idx_int Rg.Tb.none ?_ ?_ h0 h1 ?_);exact rfl;exact rfl)
  |((refine idx_int (f:=intC) (n:=0) (0:Int) ?_ ?_ ?_ ?_ ?_);exact rfl;exact rfl;exact Int.le_refl _;exact Int.ofNat_lt.2 hv)
  |((refine LoopAt.mk 0 ?_);refine⟨rangeL ((tableAt p x.index)) 30 (λ(q:(Int)×(Int))=>match q with |(lo,hi)=>[]) (λ(q:(Int)×(Int))=>match q with |(lo,hi)=>[(8,.cells [.data (.i lo),.data (.i hi)])]) [6,8,28,29] (λi0 r0 q=>match q with |(lo,hi)=>minL ((tableAt p x.index).getD 0 0) (tableAt p x.index)=minL lo r0/\maxL ((tableAt p x.index).getD 0 0) (tableAt p x.index)=maxL hi r0),?_⟩;refine rangeL_rule (((tableAt p x.index).getD 0 0),((tableAt p x.index).getD 0 0)) ?_ ?_ (λi0 ⟨lo,hi⟩ hd0 hI0=>?_) (λi0 x0 r0 ⟨lo,hi⟩ hd0 hl0 hI0=>?_))
  |(refine rangeL_next hd0 ((mm2 false lo x0),(mm2 true hi x0)) ?_ ?_)
  |((refine idx_step ?_ ?_ ?_ ?_ ?_);exact rfl;exact rfl;rotate_left;(exact idx_drop hd0))
  |((refine chk_stepP ?_ ?_);kernel_rfl)
  |(refine ah ?_;conv=>whnf)
  |(refine And.intro ?_ ?_)
  |exact @rfl AV _
  |fail)
 all_goals first
  |(rfl)
  |(decide)
  |((exact hI0.1))
  |((exact hI0.2))
  |((rw[hI0.1,hI0.2];rfl))
  |skip
theorem qo(p:Pr)(found:List Sp)(x:Ex)(a:Sp)  : PCall Tryz.prog 102 [.ptr (fC p found),x.d,.sl 2 [[.i a.1,.i a.2]]] (.ret (Sp.d (clipM a.1,clipM a.2))):=by
 refine ae Tryz.func102 ?_
 repeat' ((try(conv=>whnf))<;>first
  |((refine idx_lit ?_ ?_ ?_ ?_);exact rfl;exact rfl;exact rfl)
  |((refine call_step ?_ ?_ ?_);rotate_left;(exact jK _))
  |((refine chk_stepP ?_ ?_);kernel_rfl)
  |(refine ah ?_;conv=>whnf)
  |(refine And.intro ?_ ?_)
  |fail)
 all_goals first
  |(decide)
  |skip
theorem qp(p:Pr)(found:List Sp)(x:Ex)(a b:Sp)  : PCall Tryz.prog 104 [.ptr (fC p found),x.d,.sl 2 [[.i a.1,.i a.2],[.i b.1,.i b.2]]] (.ret (Sp.d (mm2 false a.1 b.1,mm2 false a.2 b.2))):=by
 refine ae Tryz.func104 ?_
 repeat' ((try(conv=>whnf))<;>first
  |((refine idx_lit ?_ ?_ ?_ ?_);exact rfl;exact rfl;exact rfl)
  |((refine chk_stepP ?_ ?_);kernel_rfl)
  |(refine ah ?_;conv=>whnf)
  |(refine And.intro ?_ ?_)
  |fail)
 all_goals first
  |(decide)
  |skip
theorem qw(p:Pr)(found:List Sp)(x:Ex)(a b:Sp)  : PCall Tryz.prog 105 [.ptr (fC p found),x.d,.sl 2 [[.i a.1,.i a.2],[.i b.1,.i b.2]]] (.ret (Sp.d (mm2 true a.1 b.1,mm2 true a.2 b.2))):=by
 refine ae Tryz.func105 ?_
 repeat' ((try(conv=>whnf))<;>first
  |((refine idx_lit ?_ ?_ ?_ ?_);exact rfl;exact rfl;exact rfl)
  |((refine chk_stepP ?_ ?_);kernel_rfl)
  |(refine ah ?_;conv=>whnf)
  |(refine And.intro ?_ ?_)
  |fail)
 all_goals first
  |(decide)
  |skip
theorem qx(p:Pr)(found:List Sp)(x:Ex)(a:Sp)(ha:inW a.1=true)(hb:inW a.2=true):PCall Tryz.prog 106 [.ptr (fC p found),x.d,.sl 2 [[.i a.1,.i a.2]]] (.ret (Sp.d (absM a))):=by
 refine ae Tryz.func106 ?_
 repeat' ((try(conv=>whnf))<;>first
  |refine BrI.intro (λh=>?_) (λh=>?_)
  |((refine idx_lit ?_ ?_ ?_ ?_);exact rfl;exact rfl;exact rfl)
  |((refine len_step ?_ ?_);exact rfl)
  |((refine chk_stepP ?_ ?_);kernel_rfl)
  |(refine ah ?_;conv=>whnf)
  |(refine And.intro ?_ ?_)
  |fail)
 all_goals first
  |(decide)
  |((refine congrArg Sp.d ?_;unfold absM;rw[if_pos (of_decide_eq_true h)];done))
  |((unfold absM;rw[if_neg (of_decide_eq_false ‹decide (a.1>=0)=false›),if_pos (of_decide_eq_true h),neg_wrap ha,neg_wrap hb];done))
  |((unfold absM;rw[if_neg (of_decide_eq_false ‹decide (a.1>=0)=false›),if_neg (of_decide_eq_false h),neg_wrap ha];done))
  |skip
theorem qy(p:Pr)(found:List Sp)(x:Ex)(a:Sp)(ha:inW a.1=true)(hb:inW a.2=true):PCall Tryz.prog 107 [.ptr (fC p found),x.d,.sl 2 [[.i a.1,.i a.2]]] (.ret (Sp.d (-a.2,-a.1))):=by
 refine ae Tryz.func107 ?_
 repeat' ((try(conv=>whnf))<;>first
  |((refine idx_lit ?_ ?_ ?_ ?_);exact rfl;exact rfl;exact rfl)
  |((refine chk_stepP ?_ ?_);kernel_rfl)
  |(refine ah ?_;conv=>whnf)
  |(refine And.intro ?_ ?_)
  |fail)
 all_goals first
  |(decide)
  |((rw[neg_wrap ha,neg_wrap hb];done))
  |skip
theorem qA(p:Pr)(found:List Sp)(x:Ex)(a b:Sp)(ha:inW a.1=true/\inW a.2=true)(hb:inW b.1=true/\inW b.2=true):PCall Tryz.prog 108 [.ptr (fC p found),x.d,.sl 2 [[.i a.1,.i a.2],[.i b.1,.i b.2]]] (outR 30 (two (a.1+b.1) (a.2+b.2))):=by
 refine ae Tryz.func108 ?_
 repeat' ((try(conv=>whnf))<;>first
  |((refine rest_stepL _ _ _ [false,false,false,false,false,false,false,false,true,true,true] ?_ ?_ ?_);exact rfl;kernel_rfl)
  |((refine rest_stepL _ _ _ [true,true] ?_ ?_ ?_);exact rfl;kernel_rfl)
  |((refine quiet_step ?_ ?_);kernel_rfl)
  |(refine exc_stepI (bi a.1 b.1 _ rfl ha.1 hb.1) (λn1 q1=>?_) (λe1 q1=>?_))
  |(refine exc_stepI (bi a.2 b.2 _ rfl ha.2 hb.2) (λn2 q2=>?_) (λe2 q2=>?_))
  |((refine ret_exc (n1,n2) (two_ok q1 q2) ?_);refine⟨[],rfl,?_,trivial⟩;conv=>whnf)
  |((refine pan_exc e1 (two_b1 q1) ?_);refine⟨[],rfl,?_,trivial⟩;conv=>whnf)
  |((refine pan_exc e2 (two_b2 q2) ?_);refine⟨[],rfl,?_,trivial⟩;conv=>whnf)
  |((refine idx_lit ?_ ?_ ?_ ?_);exact rfl;exact rfl;exact rfl)
  |((refine chk_stepP ?_ ?_);kernel_rfl)
  |((refine chk_stepQ ?_ ?_);kernel_rfl)
  |(refine And.intro ?_ ?_)
  |fail)
 all_goals first
  |(decide)
  |skip
theorem qB(p:Pr)(found:List Sp)(x:Ex)(a b:Sp)(ha:inW a.1=true/\inW a.2=true)(hb:inW b.1=true/\inW b.2=true):PCall Tryz.prog 110 [.ptr (fC p found),x.d,.sl 2 [[.i a.1,.i a.2],[.i b.1,.i b.2]]] (outR 30 (two (a.1 + -b.2) (a.2 + -b.1))):=by
 refine ae Tryz.func110 ?_
 repeat' ((try(conv=>whnf))<;>first
  |((refine rest_stepL _ _ _ [false,false,false,false,false,false,false,false,false,true,true,true] ?_ ?_ ?_);exact rfl;kernel_rfl)
  |((refine rest_stepL _ _ _ [true,true] ?_ ?_ ?_);exact rfl;kernel_rfl)
  |((refine quiet_step ?_ ?_);kernel_rfl)
  |(refine exc_stepI (bi a.1 (-b.2) _ (neg_wrap hb.2) ha.1 (neg_in hb.2)) (λn1 q1=>?_) (λe1 q1=>?_))
  |(refine exc_stepI (bi a.2 (-b.1) _ (neg_wrap hb.1) ha.2 (neg_in hb.1)) (λn2 q2=>?_) (λe2 q2=>?_))
  |((refine ret_exc (n1,n2) (two_ok q1 q2) ?_);refine⟨[],rfl,?_,trivial⟩;conv=>whnf)
  |((refine pan_exc e1 (two_b1 q1) ?_);refine⟨[],rfl,?_,trivial⟩;conv=>whnf)
  |((refine pan_exc e2 (two_b2 q2) ?_);refine⟨[],rfl,?_,trivial⟩;conv=>whnf)
  |((refine idx_lit ?_ ?_ ?_ ?_);exact rfl;exact rfl;exact rfl)
  |((refine chk_stepP ?_ ?_);kernel_rfl)
  |((refine chk_stepQ ?_ ?_);kernel_rfl)
  |(refine And.intro ?_ ?_)
  |fail)
 all_goals first
  |(decide)
  |skip
theorem qC(p:Pr)(found:List Sp)(x:Ex)(a b:Sp)(ha:inW a.1=true/\inW a.2=true)(hb:inW b.1=true/\inW b.2=true):PCall Tryz.prog 111 [.ptr (fC p found),x.d,.sl 2 [[.i a.1,.i a.2],[.i b.1,.i b.2]]] (outR 30 (prodM a b)):=by
 refine ae Tryz.func111 ?_
 repeat' ((try(conv=>whnf))<;>first
  |((refine rest_stepL _ _ _ [false,false,false,false,false,false,false,false,true,false,false,false,false,false,false,false,false,true,false,false,false,false,false,false,false,false,true,true,true,true,true] ?_ ?_ ?_);exact rfl;kernel_rfl)
  |((refine rest_stepL _ _ _ [false,false,false,false,false,false,false,false,true,false,false,false,false,false,false,false,false,true,true,true,true,true] ?_ ?_ ?_);exact rfl;kernel_rfl)
  |((refine rest_stepL _ _ _ [false,false,false,false,false,false,false,false,true,true,true,true,true] ?_ ?_ ?_);exact rfl;kernel_rfl)
  |((refine rest_stepL _ _ _ [true,true,true,true] ?_ ?_ ?_);exact rfl;kernel_rfl)
  |((refine quiet_step ?_ ?_);kernel_rfl)
  |(refine exc_stepI (bn a.1 b.1 ha.1 hb.1) (λn1 q1=>?_) (λe1 q1=>?_))
  |(refine exc_stepI (bn a.1 b.2 ha.1 hb.2) (λn2 q2=>?_) (λe2 q2=>?_))
  |(refine exc_stepI (bn a.2 b.1 ha.2 hb.1) (λn3 q3=>?_) (λe3 q3=>?_))
  |(refine exc_stepI (bn a.2 b.2 ha.2 hb.2) (λn4 q4=>?_) (λe4 q4=>?_))
  |((refine ret_exc (min4 n1 n2 n3 n4,max4 n1 n2 n3 n4) (prod_ok q1 q2 q3 q4) ?_);refine⟨[],rfl,?_,trivial⟩;conv=>whnf)
  |((refine pan_exc e1 (prod_bad (.inl q1)) ?_);refine⟨[],rfl,?_,trivial⟩;conv=>whnf)
  |((refine pan_exc e2 (prod_bad (.inr (.inl q2))) ?_);refine⟨[],rfl,?_,trivial⟩;conv=>whnf)
  |((refine pan_exc e3 (prod_bad (.inr (.inr (.inl q3)))) ?_);refine⟨[],rfl,?_,trivial⟩;conv=>whnf)
  |((refine pan_exc e4 (prod_bad (.inr (.inr (.inr q4)))) ?_);refine⟨[],rfl,?_,trivial⟩;conv=>whnf)
  |((refine idx_lit ?_ ?_ ?_ ?_);exact rfl;exact rfl;exact rfl)
  |((refine chk_stepP ?_ ?_);kernel_rfl)
  |((refine chk_stepQ ?_ ?_);kernel_rfl)
  |(refine And.intro ?_ ?_)
  |fail)
 all_goals first
  |(rfl)
  |(decide)
  |skip
theorem qE(p:Pr)(found:List Sp)(x:Ex)(a:Sp)(ha:inW a.1=true)(hb:inW a.2=true)(hn:1<=x.n)(hn2:x.n<=2147483648):PCall Tryz.prog 113 [.ptr (fC p found),x.d,.sl 2 [[.i a.1,.i a.2]]] (.ret (Sp.d (floorM a.1 x.n,floorM a.2 x.n))):=by
 refine ae Tryz.func113 ?_
 repeat' ((try(conv=>whnf))<;>first
  |((refine idx_lit ?_ ?_ ?_ ?_);exact rfl;exact rfl;exact rfl)
  |((refine call_step ?_ ?_ ?_);rotate_left;(first |exact fQ _ _ (by assumption) (by assumption) (by assumption) |exact fQ a.1 x.n ha hn hn2))
  |((refine chk_stepP ?_ ?_);kernel_rfl)
  |(refine ah ?_;conv=>whnf)
  |(refine And.intro ?_ ?_)
  |fail)
 all_goals first
  |(decide)
  |skip
theorem qF(p:Pr)(found:List Sp)(x:Ex)(a b c d:Sp)  : PCall Tryz.prog 115 [.ptr (fC p found),x.d,.sl 2 [[.i a.1,.i a.2],[.i b.1,.i b.2],[.i c.1,.i c.2],[.i d.1,.i d.2]]] (.ret (Sp.d (mm2 false c.1 d.1,mm2 true c.2 d.2))):=by
 refine ae Tryz.func115 ?_
 repeat' ((try(conv=>whnf))<;>first
  |((refine idx_lit ?_ ?_ ?_ ?_);exact rfl;exact rfl;exact rfl)
  |((refine chk_stepP ?_ ?_);kernel_rfl)
  |(refine ah ?_;conv=>whnf)
  |(refine And.intro ?_ ?_)
  |fail)
 all_goals first
  |(decide)
  |skip
abbrev oV:List D:=[.val .nilFunc,.fn 95 [],.val .nilFunc,.fn 96 [],.fn 97 [],.fn 98 [],.fn 99 [],.fn 99 [],.fn 100 [],.fn 101 [],.fn 102 [],.fn 104 [],.fn 105 [],.fn 106 [],.fn 107 [],.fn 108 [],.fn 110 [],.fn 111 [],.fn 113 [],.fn 115 []]
def opF(k:Int):Nat:=match oV.getD k.toNat (.val .nilFunc)with | .fn f _=>f |_=>0
theorem bZ   : PCall Tryz.prog 64 [] (.ret (.agg oV)):=by
 refine ae Tryz.func64 ?_
 repeat' ((try(conv=>whnf))<;>first
  |(refine ah ?_;conv=>whnf)
  |fail)
 all_goals first
  |skip
theorem jM{p:Pr}{n:Nat}{k i m:Int}(hw:ownW p n k i m=true){q:D->Prop}(h:q (.fn (opF k) [])):∃c,(0<=k/\oV[k.toNat]? = some c)/\q c:=by
 rcases kinds hw with rfl |rfl |rfl |rfl |rfl |rfl |rfl |rfl |rfl |rfl |rfl |rfl |rfl |rfl |rfl |rfl |rfl |rfl<;>exact⟨_,⟨by decide,rfl⟩,h⟩
theorem oW{p:Pr}{n:Nat}{k i m:Int}(hw:ownW p n k i m=true):Nat.beq (opF k) yldF=false:=by
 rcases kinds hw with rfl |rfl |rfl |rfl |rfl |rfl |rfl |rfl |rfl |rfl |rfl |rfl |rfl |rfl |rfl |rfl |rfl |rfl<;>rfl
theorem beq_step{b:Bool}{p q:Prop}:b=false->p->(match b with |true=>q |false=>p):=by intro h h2;subst h;exact h2
theorem lS(p:Pr)(found:List Sp)(x:Ex)(sl:List Sp)(hR:Rng p)(hT:∀t∈p.tables,t.values.length<=1073741824)(hw:wfX p found.length x=true)(hl:sl.length=x.l.length)(hs:InS sl) :
  PCall Tryz.prog (opF x.kind) [.ptr (fC p found),x.d,.sl 2 (sl.map Sp.cs)] (outR 30 (opM p found x.kind x.index x.n sl)):=by
 obtain⟨h1,h2,_⟩:=wfX_parts hw
 rw[<-hl]at h1
 generalize hk:x.kind=k at h1 h2
 have nil:(sl.length:Int)=0->sl = []:=λh=>List.length_eq_zero_iff.1 (by omega)
 rcases kinds h2 with rfl |rfl |rfl |rfl |rfl |rfl |rfl |rfl |rfl |rfl |rfl |rfl |rfl |rfl |rfl |rfl |rfl |rfl
 ·obtain rfl:=nil h1
  exact op1 p found x
 ·obtain rfl:=nil h1
  have h2:(decide (0<=x.index)&&decide (x.index<p.params.length))=true:=h2
  simp only[Bool.and_eq_true,decide_eq_true_eq]at h2
  exact op3 p found x h2.1 h2.2
 ·obtain rfl:=nil h1
  have h2:(decide (0<=x.index)&&decide (x.index<p.states.length))=true:=h2
  simp only[Bool.and_eq_true,decide_eq_true_eq]at h2
  exact op4 p found x h2.1 h2.2
 ·obtain rfl:=nil h1
  have h2:(decide (0<=x.index)&&decide (x.index<found.length))=true:=h2
  simp only[Bool.and_eq_true,decide_eq_true_eq]at h2
  exact op5 p found x h2.1 h2.2
 ·obtain⟨a,rfl⟩:=len_1 (sl:=sl) (by have h1:(sl.length:Int)=1:=h1;omega)
  show PCall Tryz.prog _ _ (outR _ (aheadM a))
  unfold aheadM
  cases hc:(decide (a.1<0) || decide (a.2>4096))with
  |true=>exact jL p found x a hc
  |false=>exact lD p found x a hc
 ·obtain⟨a,rfl⟩:=len_1 (sl:=sl) (by have h1:(sl.length:Int)=1:=h1;omega)
  show PCall Tryz.prog _ _ (outR _ (aheadM a))
  unfold aheadM
  cases hc:(decide (a.1<0) || decide (a.2>4096))with
  |true=>exact jL p found x a hc
  |false=>exact lD p found x a hc
 ·have h1:(sl.length:Int)=1:=h1
  have h2:(decide (0<=x.index)&&decide (x.index<p.lines.length))=true:=h2
  simp only[Bool.and_eq_true,decide_eq_true_eq]at h2
  obtain⟨a,rfl⟩:=len_1 (sl:=sl) (by omega)
  exact op8 p found x a h2.1 h2.2
 ·have h1:(sl.length:Int)=1:=h1
  have h2:(decide (0<=x.index)&&decide (x.index<p.tables.length) && !(tableAt p x.index==[]))=true:=h2
  simp only[Bool.and_eq_true,decide_eq_true_eq]at h2
  obtain⟨a,rfl⟩:=len_1 (sl:=sl) (by omega)
  have h3:tableAt p x.index ≠ []:=by simpa using h2.2
  exact op9 p found x a h2.1.1 h2.1.2 (List.length_pos_iff.2 h3) (hT _ (getD_mem' Rg.Tb.none h2.1.1 h2.1.2))
 ·obtain⟨a,rfl⟩:=len_1 (sl:=sl) (by have h1:(sl.length:Int)=1:=h1;omega)
  exact qo p found x a
 ·obtain⟨a,b,rfl⟩:=len_2 (sl:=sl) (by have h1:(sl.length:Int)=2:=h1;omega)
  exact qp p found x a b
 ·obtain⟨a,b,rfl⟩:=len_2 (sl:=sl) (by have h1:(sl.length:Int)=2:=h1;omega)
  exact qw p found x a b
 ·obtain⟨a,rfl⟩:=len_1 (sl:=sl) (by have h1:(sl.length:Int)=1:=h1;omega)
  exact qx p found x a (hs a (by simp)).1 (hs a (by simp)).2
 ·obtain⟨a,rfl⟩:=len_1 (sl:=sl) (by have h1:(sl.length:Int)=1:=h1;omega)
  exact qy p found x a (hs a (by simp)).1 (hs a (by simp)).2
 ·obtain⟨a,b,rfl⟩:=len_2 (sl:=sl) (by have h1:(sl.length:Int)=2:=h1;omega)
  exact qA p found x a b (hs a (by simp)) (hs b (by simp))
 ·obtain⟨a,b,rfl⟩:=len_2 (sl:=sl) (by have h1:(sl.length:Int)=2:=h1;omega)
  exact qB p found x a b (hs a (by simp)) (hs b (by simp))
 ·obtain⟨a,b,rfl⟩:=len_2 (sl:=sl) (by have h1:(sl.length:Int)=2:=h1;omega)
  exact qC p found x a b (hs a (by simp)) (hs b (by simp))
 ·obtain⟨a,rfl⟩:=len_1 (sl:=sl) (by have h1:(sl.length:Int)=1:=h1;omega)
  have h2:(decide (1<=x.n)&&decide (x.n<=2147483648))=true:=h2
  simp only[Bool.and_eq_true,decide_eq_true_eq]at h2
  exact qE p found x a (hs a (by simp)).1 (hs a (by simp)).2 h2.1 h2.2
 ·obtain⟨a,b,c,d,rfl⟩:=len_4 (sl:=sl) (by have h1:(sl.length:Int)=4:=h1;omega)
  exact qF p found x a b c d
theorem bF(x:Ex)(p:Pr)(found:List Sp)(hR:Rng p)(hF:InS found)(hT:∀t∈p.tables,t.values.length<=1073741824)(hx:Ref15.nodes x<=1073741824)(hw:wfX p found.length x=true):PCall Tryz.prog 39 [.ptr (fC p found),x.d] (outR 30 (findM p found x)):=by
 revert x;refine Ex.ind λx ih hx hw=>?_
 refine af Tryz.func39 λhf=>?_
 have hN:=Ref15.nodes_eq x
 have hL:=Ref15.len_nodes x.l
 have hlen:x.l.length<=9223372036854775807:=by omega
 obtain⟨g1,g2,g3⟩:=wfX_parts hw
 clear hf
 repeat' ((try(conv=>whnf))<;>first
  |((refine rest_stepL _ _ _ [true] ?_ ?_ ?_);exact rfl;kernel_rfl)
  |((refine quiet_step ?_ ?_);kernel_rfl)
  |(refine exc_step (ih x0 (drop_mem hd0) (by have:=nodes_mem (drop_mem hd0);omega) (wfL_mem g3 _ (drop_mem hd0))) (λs1 q1=>?_) (λe1 q1=>?_))
  |(refine exc_step (lS p found x sl hR hT hw (findL_len (find_end hI0.1).2) (findL_in hR hF g3 (find_end hI0.1).2)) (λs2 q2=>?_) (λe2 q2=>?_))
  |((refine ret_exc s2 ((find_end hI0.1).1.trans q2) ?_);refine⟨[],rfl,?_,trivial⟩;conv=>whnf)
  |((refine pan_exc e2 ((find_end hI0.1).1.trans q2) ?_);refine⟨[],rfl,?_,trivial⟩;conv=>whnf)
  |((refine pan_exc e1 (find_bad hI0.1 q1) ?_);refine⟨[],rfl,?_,trivial⟩;conv=>whnf)
  |(refine jM g2 ?_)
  |(refine beq_step (oW g2) ?_)
  |exact trivial
  |exact idx_next hd0 ‹_›
  |refine br_nil_e hd0 ?_
  |refine br_cons_e hd0 ?_
  |((refine LoopAt.mk 0 ?_);refine⟨rangeL (x.l) 11 (λ(sl:(List Sp))=>[(5,.gs 900005 2 (sl.map Sp.cs))]) (λ(sl:(List Sp))=>[(900005,.tok 2 (sl.map Sp.cs).length)]) [0,3,4,9,10] (λi0 r0 sl=>pre sl (findL p found r0)=findL p found x.l/\sl.length=i0),?_⟩;refine rangeL_rule [] ?_ ?_ (λi0 (sl:(List Sp)) hd0 hI0=>?_) (λi0 x0 r0 (sl:(List Sp)) hd0 hl0 hI0=>?_))
  |(refine rangeL_next hd0 (sl++[s1]) ?_ ?_)
  |((refine call_step ?_ ?_ ?_);rotate_left;(exact bZ))
  |(refine ChooseI.l _ ?_)
  |((refine nilgs_step ?_ ?_ ?_ ?_ ?_ ?_)<;>exact rfl)
  |((refine tok0_step ?_ ?_ ?_ ?_)<;>exact rfl)
  |((refine idx_step ?_ ?_ ?_ ?_ ?_);exact rfl;exact rfl;rotate_left;(exact idx_drop_e hd0))
  |((refine len_step ?_ ?_);exact rfl)
  |((refine app_step' ?_ ?_ ?_ ?_ ?_ ?_ ?_);exact rfl;exact rfl;exact rfl;exact rfl)
  |((refine chk_stepP ?_ ?_);kernel_rfl)
  |((refine chk_stepQ ?_ ?_);kernel_rfl)
  |(refine And.intro ?_ ?_)
  |((refine gs_eq ?_ ?_ ?_);exact rfl;exact rfl;(first |exact map_snoc |skip))
  |((refine tok_eq ?_ ?_);exact rfl;(first |exact map_snoc |skip))
  |exact @rfl AV _
  |exact ble_le rfl
  |fail)
 all_goals first
  |(rfl)
  |((exact pre_nil _))
  |((exact find_next hI0.1 q1))
  |((rw[List.length_append,hI0.2];rfl))
  |((rw[List.length_map];omega))
  |skip
theorem dW(p:Pr)(FF:List Sp)(R:Except Int (List Sp))(hR:Rng p)(hT:∀t∈p.tables,t.values.length<=1073741824)(hn:∀s∈p.stmts,Ref15.nodes s.x<=1073741824)(hl:p.stmts.length<=1073741824)(hw:wfSL p 0 p.stmts=true)(hS:stmtsM p p.stmts []=R)(hF:stmtsF p p.stmts []=FF)(hRR:R = .ok FF):LCall Tryz.prog 62 [.ptr 1000000 0] [(1000000,.cells [.data (.str p.name),.data (.i p.latency),.data (.i p.tail),.data (.sl 3 (p.params.map Bd.cs)),.data (.sl 3 (p.states.map Bd.cs)),.data (.sl 4 (p.lines.map Ln.cs)),.data (.sl 2 (p.tables.map Tb.cs)),.data (.sl 8 (p.stmts.map Sm.cs)),.nilsl 2])] (.ret (.data (.tuple []))) [(1000000,.cells [.data (.str p.name),.data (.i p.latency),.data (.i p.tail),.data (.sl 3 (p.params.map Bd.cs)),.data (.sl 3 (p.states.map Bd.cs)),.data (.sl 4 (p.lines.map Ln.cs)),.data (.sl 2 (p.tables.map Tb.cs)),.data (.sl 8 (p.stmts.map Sm.cs)),.gs 1000001 2 (FF.map Sp.cs)]),(1000001,.tok 2 (FF.map Sp.cs).length)]:=by
 refine aP Tryz.func62 λhf=>?_
 have hlen:p.stmts.length<=9223372036854775807:=by omega
 clear hf
 repeat' ((try(conv=>whnf))<;>first
  |(exact(ok_ne (hRR.symm.trans (stI_bad1 hI0 q1).1)).elim)
  |(exact(ok_ne (hRR.symm.trans (stI_bad2 hI0 q1 (hull_no (B:=((stateAt p x0.index).lo,(stateAt p x0.index).hi)) (bnd2 ‹_›) h)).1)).elim)
  |(exact(ok_ne (hRR.symm.trans (stI_bad2 hI0 q1 (hull_no (B:=((lineAt p x0.index).lo,(lineAt p x0.index).hi)) (bnd3 ‹_› ‹_›) h)).1)).elim)
  |(exact(ok_ne (hRR.symm.trans (stI_bad2 hI0 q1 (hull_no (B:=(-2147483648,2147483647)) (bnd4 ‹_› ‹_› ‹_›) h)).1)).elim)
  |(exact(ok_ne (hRR.symm.trans (stI_bad2 hI0 q1 (hull_no (B:=(-4611686018427387904,4611686018427387904)) (bnd0 ‹_› ‹_› ‹_›) h)).1)).elim)
  |((have hq:=(stI_end hI0).2);subst hq)
  |(refine exc_stepR (bF x0.x p fs hR hI0.ins hT (hn _ (drop_mem hd0)) (stI_find hI0)) (λs1 q1=>?_) (λe1 q1=>?_))
  |exact trivial
  |exact idx_next hd0 ‹_›
  |refine br_nil hd0 ?_
  |refine br_cons hd0 ?_
  |refine BrI.intro (λh=>?_) (λh=>?_)
  |((refine flat_step ?_ ?_);exact rfl)
  |((refine kok_step ?_ ?_ ?_);exact rfl;exact rfl)
  |((refine idx_int Rg.Bd.none ?_ ?_ (wfSL_2 hI0.wf h).1 (wfSL_2 hI0.wf h).2 ?_);exact rfl;exact rfl)
  |((refine idx_int Rg.Ln.none ?_ ?_ (wfSL_3 hI0.wf h).1 (wfSL_3 hI0.wf h).2 ?_);exact rfl;exact rfl)
  |((refine LoopAt.mk 0 ?_);refine⟨rangeL (p.stmts) 13 (λ(fs:(List Sp))=>[]) (λ(fs:(List Sp))=>[(1000000,.cells [.data (.str p.name),.data (.i p.latency),.data (.i p.tail),.data (.sl 3 (p.params.map Bd.cs)),.data (.sl 3 (p.states.map Bd.cs)),.data (.sl 4 (p.lines.map Ln.cs)),.data (.sl 2 (p.tables.map Tb.cs)),.data (.sl 8 (p.stmts.map Sm.cs)),.gs 900007 2 (fs.map Sp.cs)]),(900007,.tok 2 (fs.map Sp.cs).length)]) [0,11,12] (λi0 r0 fs=>StI p R FF i0 r0 fs),?_⟩;refine rangeL_rule ([]) ?_ ?_ (λi0 (fs:(List Sp)) hd0 hI0=>?_) (λi0 x0 r0 (fs:(List Sp)) hd0 hl0 hI0=>?_))
  |(refine rangeL_next hd0 (fs++[s1]) ?_ ?_)
  |((refine ret_step ?_);refine fin_step' [(1000000,1000000),(1000001,900007)] rfl ?_ ?_)
  |(refine ChooseI.l _ ?_)
  |((refine nilgs_step ?_ ?_ ?_ ?_ ?_ ?_)<;>exact rfl)
  |((refine tok0_step ?_ ?_ ?_ ?_)<;>exact rfl)
  |((refine idx_step ?_ ?_ ?_ ?_ ?_);exact rfl;exact rfl;rotate_left;(exact idx_drop hd0))
  |((refine len_step ?_ ?_);exact rfl)
  |((refine app_step' ?_ ?_ ?_ ?_ ?_ ?_ ?_);exact rfl;exact rfl;exact rfl;exact rfl)
  |((refine chk_stepP ?_ ?_);kernel_rfl)
  |(refine And.intro ?_ ?_)
  |((refine gs_eq ?_ ?_ ?_);exact rfl;exact rfl;(first |exact map_snoc |skip))
  |((refine tok_eq ?_ ?_);exact rfl;(first |exact map_snoc |skip))
  |((refine ren_guard ?_);refine gs_ren ?_ ?_ ?_;exact rfl;exact rfl;(first |exact rfl |skip))
  |exact @rfl AV _
  |exact ble_le rfl
  |fail)
 all_goals first
  |(decide)
  |((exact stI_start hS hF hw))
  |((exact stI_next hR hI0 q1 (hull_yes (B:=((stateAt p x0.index).lo,(stateAt p x0.index).hi)) (bnd2 ‹_›) h)))
  |((exact stI_next hR hI0 q1 (hull_yes (B:=((lineAt p x0.index).lo,(lineAt p x0.index).hi)) (bnd3 ‹_› ‹_›) h)))
  |((exact stI_next hR hI0 q1 (hull_yes (B:=(-2147483648,2147483647)) (bnd4 ‹_› ‹_› ‹_›) h)))
  |((exact stI_next hR hI0 q1 (hull_yes (B:=(-4611686018427387904,4611686018427387904)) (bnd0 ‹_› ‹_› ‹_›) h)))
  |((rw[List.length_map,hI0.len];have:=drop_lt hd0;omega))
  |skip
theorem dE(p:Pr)(FF:List Sp)(R:Except Int (List Sp))(e:Int)(hR:Rng p)(hT:∀t∈p.tables,t.values.length<=1073741824)(hn:∀s∈p.stmts,Ref15.nodes s.x<=1073741824)(hl:p.stmts.length<=1073741824)(hw:wfSL p 0 p.stmts=true)(hS:stmtsM p p.stmts []=R)(hF:stmtsF p p.stmts []=FF)(hRR:R = .error e):LCall Tryz.prog 62 [.ptr 1000000 0] [(1000000,.cells [.data (.str p.name),.data (.i p.latency),.data (.i p.tail),.data (.sl 3 (p.params.map Bd.cs)),.data (.sl 3 (p.states.map Bd.cs)),.data (.sl 4 (p.lines.map Ln.cs)),.data (.sl 2 (p.tables.map Tb.cs)),.data (.sl 8 (p.stmts.map Sm.cs)),.nilsl 2])] (.pan (.data (.iface 30 (.i e)))) [(1000000,.cells [.data (.str p.name),.data (.i p.latency),.data (.i p.tail),.data (.sl 3 (p.params.map Bd.cs)),.data (.sl 3 (p.states.map Bd.cs)),.data (.sl 4 (p.lines.map Ln.cs)),.data (.sl 2 (p.tables.map Tb.cs)),.data (.sl 8 (p.stmts.map Sm.cs)),.gs 1000001 2 (FF.map Sp.cs)]),(1000001,.tok 2 (FF.map Sp.cs).length)]:=by
 refine aP Tryz.func62 λhf=>?_
 have hlen:p.stmts.length<=9223372036854775807:=by omega
 clear hf
 repeat' ((try(conv=>whnf))<;>first
  |((have hq:=er_eq (hRR.symm.trans (stI_bad1 hI0 q1).1));(have hq2:=(stI_bad1 hI0 q1).2);subst hq;subst hq2)
  |((have hq:=er_eq (hRR.symm.trans (stI_bad2 hI0 q1 (hull_no (B:=((stateAt p x0.index).lo,(stateAt p x0.index).hi)) (bnd2 ‹_›) h)).1));(have hq2:=(stI_bad2 hI0 q1 (hull_no (B:=((stateAt p x0.index).lo,(stateAt p x0.index).hi)) (bnd2 ‹_›) h)).2);subst hq;subst hq2)
  |((have hq:=er_eq (hRR.symm.trans (stI_bad2 hI0 q1 (hull_no (B:=((lineAt p x0.index).lo,(lineAt p x0.index).hi)) (bnd3 ‹_› ‹_›) h)).1));(have hq2:=(stI_bad2 hI0 q1 (hull_no (B:=((lineAt p x0.index).lo,(lineAt p x0.index).hi)) (bnd3 ‹_› ‹_›) h)).2);subst hq;subst hq2)
  |((have hq:=er_eq (hRR.symm.trans (stI_bad2 hI0 q1 (hull_no (B:=(-2147483648,2147483647)) (bnd4 ‹_› ‹_› ‹_›) h)).1));(have hq2:=(stI_bad2 hI0 q1 (hull_no (B:=(-2147483648,2147483647)) (bnd4 ‹_› ‹_› ‹_›) h)).2);subst hq;subst hq2)
  |((have hq:=er_eq (hRR.symm.trans (stI_bad2 hI0 q1 (hull_no (B:=(-4611686018427387904,4611686018427387904)) (bnd0 ‹_› ‹_› ‹_›) h)).1));(have hq2:=(stI_bad2 hI0 q1 (hull_no (B:=(-4611686018427387904,4611686018427387904)) (bnd0 ‹_› ‹_› ‹_›) h)).2);subst hq;subst hq2)
  |(exact(ok_ne ((stI_end hI0).1.symm.trans hRR)).elim)
  |(refine exc_stepR (bF x0.x p fs hR hI0.ins hT (hn _ (drop_mem hd0)) (stI_find hI0)) (λs1 q1=>?_) (λe1 q1=>?_))
  |exact trivial
  |exact idx_next hd0 ‹_›
  |refine br_cons hd0 ?_
  |refine BrI.intro (λh=>?_) (λh=>?_)
  |((refine flat_step ?_ ?_);exact rfl)
  |((refine kok_step ?_ ?_ ?_);exact rfl;exact rfl)
  |((refine idx_int Rg.Bd.none ?_ ?_ (wfSL_2 hI0.wf h).1 (wfSL_2 hI0.wf h).2 ?_);exact rfl;exact rfl)
  |((refine idx_int Rg.Ln.none ?_ ?_ (wfSL_3 hI0.wf h).1 (wfSL_3 hI0.wf h).2 ?_);exact rfl;exact rfl)
  |((refine LoopAt.mk 0 ?_);refine⟨rangeL (p.stmts) 13 (λ(fs:(List Sp))=>[]) (λ(fs:(List Sp))=>[(1000000,.cells [.data (.str p.name),.data (.i p.latency),.data (.i p.tail),.data (.sl 3 (p.params.map Bd.cs)),.data (.sl 3 (p.states.map Bd.cs)),.data (.sl 4 (p.lines.map Ln.cs)),.data (.sl 2 (p.tables.map Tb.cs)),.data (.sl 8 (p.stmts.map Sm.cs)),.gs 900007 2 (fs.map Sp.cs)]),(900007,.tok 2 (fs.map Sp.cs).length)]) [0,11,12] (λi0 r0 fs=>StI p R FF i0 r0 fs),?_⟩;refine rangeL_rule ([]) ?_ ?_ (λi0 (fs:(List Sp)) hd0 hI0=>?_) (λi0 x0 r0 (fs:(List Sp)) hd0 hl0 hI0=>?_))
  |(refine rangeL_next hd0 (fs++[s1]) ?_ ?_)
  |((refine pan_stepA ?_);refine fin_step' [(1000000,1000000),(1000001,900007)] rfl ?_ ?_)
  |(refine ChooseI.l _ ?_)
  |((refine nilgs_step ?_ ?_ ?_ ?_ ?_ ?_)<;>exact rfl)
  |((refine tok0_step ?_ ?_ ?_ ?_)<;>exact rfl)
  |((refine idx_step ?_ ?_ ?_ ?_ ?_);exact rfl;exact rfl;rotate_left;(exact idx_drop hd0))
  |((refine len_step ?_ ?_);exact rfl)
  |((refine app_step' ?_ ?_ ?_ ?_ ?_ ?_ ?_);exact rfl;exact rfl;exact rfl;exact rfl)
  |((refine chk_stepP ?_ ?_);kernel_rfl)
  |(refine And.intro ?_ ?_)
  |((refine gs_eq ?_ ?_ ?_);exact rfl;exact rfl;(first |exact map_snoc |skip))
  |((refine tok_eq ?_ ?_);exact rfl;(first |exact map_snoc |skip))
  |((refine ren_guard ?_);refine gs_ren ?_ ?_ ?_;exact rfl;exact rfl;(first |exact rfl |skip))
  |exact @rfl AV _
  |exact ble_le rfl
  |fail)
 all_goals first
  |(decide)
  |((exact stI_start hS hF hw))
  |((exact stI_next hR hI0 q1 (hull_yes (B:=((stateAt p x0.index).lo,(stateAt p x0.index).hi)) (bnd2 ‹_›) h)))
  |((exact stI_next hR hI0 q1 (hull_yes (B:=((lineAt p x0.index).lo,(lineAt p x0.index).hi)) (bnd3 ‹_› ‹_›) h)))
  |((exact stI_next hR hI0 q1 (hull_yes (B:=(-2147483648,2147483647)) (bnd4 ‹_› ‹_› ‹_›) h)))
  |((exact stI_next hR hI0 q1 (hull_yes (B:=(-4611686018427387904,4611686018427387904)) (bnd0 ‹_› ‹_› ‹_›) h)))
  |((rw[List.length_map,hI0.len];have:=drop_lt hd0;omega))
  |skip
theorem fU(c:AV)(v:Int):DCall Tryz.prog 63 [.ptr 1000000 0] (some (.iface 30 (.i v))) [(1000000,.cells [.ptr 1000001 0]),(1000001,.cells [c])]
  [(1000000,.cells [.ptr 1000001 0]),(1000001,.cells [.data (.i v)])]:=by
 refine dcall_of_vc tok hmix Tryz.func63 rfl (by kernel_rfl) (by kernel_rfl) (by kernel_rfl) ?_
 repeat' ((try(conv=>whnf))<;>first
  |exact trivial
  |(refine⟨([]:List (Nat×Nat)),?_⟩)
  |(refine⟨by kernel_rfl,?_⟩)
  |(refine⟨rfl,?_⟩)
  |(refine⟨?_,?_⟩)
  |fail)
theorem iH(d:D):DCall Tryz.prog 63 [.ptr 1000000 0] none [(1000000,.cells [.ptr 1000001 0]),(1000001,.cells [.data d])]
  [(1000000,.cells [.ptr 1000001 0]),(1000001,.cells [.data d])]:=by
 refine dcall_of_vc tok hmix Tryz.func63 rfl (by kernel_rfl) (by kernel_rfl) (by kernel_rfl) ?_
 repeat' ((try(conv=>whnf))<;>first
  |exact trivial
  |(refine⟨([]:List (Nat×Nat)),?_⟩)
  |(refine⟨by kernel_rfl,?_⟩)
  |(refine⟨rfl,?_⟩)
  |(refine⟨?_,?_⟩)
  |fail)
theorem lT(p:Pr)(FF:List Sp)(hR:Rng p)(hT:∀t∈p.tables,t.values.length<=1073741824)(hn:∀s∈p.stmts,Ref15.nodes s.x<=1073741824)(hl:p.stmts.length<=1073741824)(hw:wfSL p 0 p.stmts=true)(hS:stmtsM p p.stmts [] = .ok FF)(hF:stmtsF p p.stmts []=FF):LCall Tryz.prog 37 [.ptr 1000000 0,.bnd 62 [.ptr 1000001 0]] [(1000000,.cells [.data (.i 0)]),(1000001,.cells [.data (.str p.name),.data (.i p.latency),.data (.i p.tail),.data (.sl 3 (p.params.map Bd.cs)),.data (.sl 3 (p.states.map Bd.cs)),.data (.sl 4 (p.lines.map Ln.cs)),.data (.sl 2 (p.tables.map Tb.cs)),.data (.sl 8 (p.stmts.map Sm.cs)),.nilsl 2])] (.ret (.data (.tuple []))) [(1000000,.cells [.data (.i 0)]),(1000001,.cells [.data (.str p.name),.data (.i p.latency),.data (.i p.tail),.data (.sl 3 (p.params.map Bd.cs)),.data (.sl 3 (p.states.map Bd.cs)),.data (.sl 4 (p.lines.map Ln.cs)),.data (.sl 2 (p.tables.map Tb.cs)),.data (.sl 8 (p.stmts.map Sm.cs)),.gs 1000002 2 (FF.map Sp.cs)]),(1000002,.tok 2 (FF.map Sp.cs).length)]:=by
 refine aF Tryz.func37 ?_
 repeat' ((try(conv=>whnf))<;>first
  |exact trivial
  |((refine⟨_,_,_,[(1000000,2),(1000001,1000000)],iH (.i 0),rfl,⟨rfl,rfl,trivial⟩,?_,?_⟩);kernel_rfl)
  |(refine⟨([(1000000,1000000),(1000001,1000001),(1000002,800002)]:List (Nat×Nat)),rfl,?_,?_⟩)
  |((refine lent_step' [(1000000,1000001),(1000001,800002)] (dW p FF _ hR hT hn hl hw hS hF rfl) ?_ ?_ ?_ ?_);rotate_left 0;exact rfl;(exact⟨rfl,trivial⟩);exact rfl)
  |(refine And.intro ?_ ?_)
  |((refine ren_guard ?_);refine gs_ren ?_ ?_ ?_;exact rfl;exact rfl;(first |exact rfl |skip))
  |fail)
 all_goals first
  |skip
theorem kH(p:Pr)(FF:List Sp)(e:Int)(hR:Rng p)(hT:∀t∈p.tables,t.values.length<=1073741824)(hn:∀s∈p.stmts,Ref15.nodes s.x<=1073741824)(hl:p.stmts.length<=1073741824)(hw:wfSL p 0 p.stmts=true)(hS:stmtsM p p.stmts [] = .error e)(hF:stmtsF p p.stmts []=FF):LCall Tryz.prog 37 [.ptr 1000000 0,.bnd 62 [.ptr 1000001 0]] [(1000000,.cells [.data (.i 0)]),(1000001,.cells [.data (.str p.name),.data (.i p.latency),.data (.i p.tail),.data (.sl 3 (p.params.map Bd.cs)),.data (.sl 3 (p.states.map Bd.cs)),.data (.sl 4 (p.lines.map Ln.cs)),.data (.sl 2 (p.tables.map Tb.cs)),.data (.sl 8 (p.stmts.map Sm.cs)),.nilsl 2])] (.ret (.data (.tuple []))) [(1000000,.cells [.data (.i e)]),(1000001,.cells [.data (.str p.name),.data (.i p.latency),.data (.i p.tail),.data (.sl 3 (p.params.map Bd.cs)),.data (.sl 3 (p.states.map Bd.cs)),.data (.sl 4 (p.lines.map Ln.cs)),.data (.sl 2 (p.tables.map Tb.cs)),.data (.sl 8 (p.stmts.map Sm.cs)),.gs 1000002 2 (FF.map Sp.cs)]),(1000002,.tok 2 (FF.map Sp.cs).length)]:=by
 refine aF Tryz.func37 ?_
 repeat' ((try(conv=>whnf))<;>first
  |exact trivial
  |((refine dfrP.ret ?_);(refine⟨_,_,_,[(1000000,2),(1000001,1000000)],fU (.data (.i 0)) e,rfl,⟨rfl,rfl,trivial⟩,?_,?_⟩);kernel_rfl)
  |(refine⟨([(1000000,1000000),(1000001,1000001),(1000002,800002)]:List (Nat×Nat)),rfl,?_,?_⟩)
  |((refine lent_step' [(1000000,1000001),(1000001,800002)] (dE p FF _ e hR hT hn hl hw hS hF rfl) ?_ ?_ ?_ ?_);rotate_left 0;exact rfl;(exact⟨rfl,trivial⟩);exact rfl)
  |(refine And.intro ?_ ?_)
  |((refine ren_guard ?_);refine gs_ren ?_ ?_ ?_;exact rfl;exact rfl;(first |exact rfl |skip))
  |exact @rfl Block _
  |fail)
 all_goals first
  |skip
end Go.Proofs.YtogfjinopifenaaGreatDoor
namespace Go.Proofs.YtogfjinopifenaaGreatDoor
open Go.Fw Go.Fw.Ref15 Go.Fw.Rg
set_option maxRecDepth 10000
variable [GlobInt]
theorem gW(l m:List Int)  : PCall Tryz.prog 55 [ints l,ints m] (.ret (.b (intsE l m))):=by
 refine af Tryz.func55 λhf=>?_
 have hlen:l.length<=9223372036854775807:=by simpa using(hf (ints l) (by simp)).sl.1
 clear hf
 repeat' ((try(conv=>whnf))<;>first
  |with_reducible exact trivial
  |with_reducible exact idx_next hd0 ‹_›
  |((with_reducible refine br_nil_k hd0 ?_ ?_);(assumption))
  |((with_reducible refine br_cons_k hd0 ?_ ?_);(assumption))
  |with_reducible refine BrI.intro (λh=>?_) (λh=>?_)
  |((with_reducible refine LoopAt.mk 0 ?_);have hz:l.length=m.length:=(by simp at h;omega);have hk0:(l.zip m).length=(l.map intC).length:=(by rw[zip_len hz,List.length_map]);have hlz:(l.zip m).length<=9223372036854775807:=(by rw[zip_len hz];exact hlen);refine⟨rangeL (l.zip m) 13 (λ(_:Unit)=>[]) (λ(_:Unit)=>[]) [0,1,12] (λi0 r0 _=>intsE l m=r0.all intE),?_⟩;with_reducible refine rangeL_rule () ?_ ?_ (λi0 (_:Unit) hd0 hI0=>?_) (λi0 x0 r0 (_:Unit) hd0 hl0 hI0=>?_))
  |(with_reducible refine rangeL_next hd0 () ?_ ?_)
  |((with_reducible refine idx_step ?_ ?_ ?_ ?_ ?_);exact rfl;exact rfl;rotate_left;(first |with_reducible exact idx_zip1 hd0 |with_reducible exact idx_zip2 hd0))
  |((with_reducible refine chk_stepP ?_ ?_);kernel_rfl)
  |((with_reducible refine ret_step ?_);refine⟨[],rfl,?_,trivial⟩;conv=>whnf)
  |(with_reducible refine And.intro ?_ ?_)
  |exact @rfl AV _
  |fail)
 all_goals(try simp only[csimp]at *)
 all_goals first
  |(rw[hI0];(try simp only[intE,Bool.not_true,Bool.not_false,Bool.and_true,Bool.true_and,Bool.and_false,Bool.false_and,Bool.or_true,Bool.true_or,Bool.or_false,Bool.false_or,if_true,if_false,reduceIte,Bool.false_eq_true,Bool.not_not,Bool.not_eq_true',beq_self_eq_true,List.all_cons,List.all_nil,List.any_cons,List.any_nil,List.length_map,bne,eq_self,Int.toNat_zero, *]);first |done |rfl)
  |(simp only[intsE,lenE,Bool.not_true,Bool.not_false,Bool.and_true,Bool.true_and,Bool.and_false,Bool.false_and,Bool.or_true,Bool.true_or,Bool.or_false,Bool.false_or,if_true,if_false,reduceIte,Bool.false_eq_true,Bool.not_not,Bool.not_eq_true',beq_self_eq_true,List.all_cons,List.all_nil,List.any_cons,List.any_nil,List.length_map,bne,eq_self,Int.toNat_zero, *];done)
  |skip
theorem iT(l m:List Bd)  : PCall Tryz.prog 58 [.sl 3 (l.map Bd.cs),.sl 3 (m.map Bd.cs)] (.ret (.b (sameBounds l m))):=by
 refine af Tryz.func58 λhf=>?_
 have hlen:l.length<=9223372036854775807:=by simpa using(hf (.sl 3 (l.map Bd.cs)) (by simp)).sl.1
 clear hf
 repeat' ((try(conv=>whnf))<;>first
  |with_reducible exact trivial
  |with_reducible exact idx_next hd0 ‹_›
  |((with_reducible refine br_nil_k hd0 ?_ ?_);(assumption))
  |((with_reducible refine br_cons_k hd0 ?_ ?_);(assumption))
  |with_reducible refine BrI.intro (λh=>?_) (λh=>?_)
  |((with_reducible refine LoopAt.mk 0 ?_);have hz:l.length=m.length:=(by simp at h;omega);have hk0:(l.zip m).length=(l.map Bd.cs).length:=(by rw[zip_len hz,List.length_map]);have hlz:(l.zip m).length<=9223372036854775807:=(by rw[zip_len hz];exact hlen);refine⟨rangeL (l.zip m) 13 (λ(_:Unit)=>[]) (λ(_:Unit)=>[]) [0,1,12] (λi0 r0 _=>sameBounds l m=r0.all bdSame),?_⟩;with_reducible refine rangeL_rule () ?_ ?_ (λi0 (_:Unit) hd0 hI0=>?_) (λi0 x0 r0 (_:Unit) hd0 hl0 hI0=>?_))
  |(with_reducible refine rangeL_next hd0 () ?_ ?_)
  |((with_reducible refine kok_step ?_ ?_ ?_);exact rfl;exact rfl)
  |((with_reducible refine idx_step ?_ ?_ ?_ ?_ ?_);exact rfl;exact rfl;rotate_left;(first |with_reducible exact idx_zip1 hd0 |with_reducible exact idx_zip2 hd0))
  |((with_reducible refine len_step ?_ ?_);exact rfl)
  |((with_reducible refine chk_stepP ?_ ?_);kernel_rfl)
  |((with_reducible refine ret_step ?_);refine⟨[],rfl,?_,trivial⟩;conv=>whnf)
  |(with_reducible refine And.intro ?_ ?_)
  |exact @rfl AV _
  |fail)
 all_goals(try simp only[csimp]at *)
 all_goals first
  |(rw[hI0];(try simp only[bdSame,Bool.not_true,Bool.not_false,Bool.and_true,Bool.true_and,Bool.and_false,Bool.false_and,Bool.or_true,Bool.true_or,Bool.or_false,Bool.false_or,if_true,if_false,reduceIte,Bool.false_eq_true,Bool.not_not,Bool.not_eq_true',beq_self_eq_true,List.all_cons,List.all_nil,List.any_cons,List.any_nil,List.length_map,bne,eq_self,Int.toNat_zero, *]);first |done |rfl)
  |(simp only[sameBounds,Bool.not_true,Bool.not_false,Bool.and_true,Bool.true_and,Bool.and_false,Bool.false_and,Bool.or_true,Bool.true_or,Bool.or_false,Bool.false_or,if_true,if_false,reduceIte,Bool.false_eq_true,Bool.not_not,Bool.not_eq_true',beq_self_eq_true,List.all_cons,List.all_nil,List.any_cons,List.any_nil,List.length_map,bne,eq_self,Int.toNat_zero, *];done)
  |skip
theorem iU(l m:List Ln)  : PCall Tryz.prog 59 [.sl 4 (l.map Ln.cs),.sl 4 (m.map Ln.cs)] (.ret (.b (lenE lnSame l m))):=by
 refine af Tryz.func59 λhf=>?_
 have hlen:l.length<=9223372036854775807:=by simpa using(hf (.sl 4 (l.map Ln.cs)) (by simp)).sl.1
 clear hf
 repeat' ((try(conv=>whnf))<;>first
  |with_reducible exact trivial
  |with_reducible exact idx_next hd0 ‹_›
  |((with_reducible refine br_nil_k hd0 ?_ ?_);(assumption))
  |((with_reducible refine br_cons_k hd0 ?_ ?_);(assumption))
  |with_reducible refine BrI.intro (λh=>?_) (λh=>?_)
  |((with_reducible refine LoopAt.mk 0 ?_);have hz:l.length=m.length:=(by simp at h;omega);have hk0:(l.zip m).length=(l.map Ln.cs).length:=(by rw[zip_len hz,List.length_map]);have hlz:(l.zip m).length<=9223372036854775807:=(by rw[zip_len hz];exact hlen);refine⟨rangeL (l.zip m) 13 (λ(_:Unit)=>[]) (λ(_:Unit)=>[]) [0,1,12] (λi0 r0 _=>lenE lnSame l m=r0.all lnSame),?_⟩;with_reducible refine rangeL_rule () ?_ ?_ (λi0 (_:Unit) hd0 hI0=>?_) (λi0 x0 r0 (_:Unit) hd0 hl0 hI0=>?_))
  |(with_reducible refine rangeL_next hd0 () ?_ ?_)
  |((with_reducible refine kok_step ?_ ?_ ?_);exact rfl;exact rfl)
  |((with_reducible refine idx_step ?_ ?_ ?_ ?_ ?_);exact rfl;exact rfl;rotate_left;(first |with_reducible exact idx_zip1 hd0 |with_reducible exact idx_zip2 hd0))
  |((with_reducible refine len_step ?_ ?_);exact rfl)
  |((with_reducible refine chk_stepP ?_ ?_);kernel_rfl)
  |((with_reducible refine ret_step ?_);refine⟨[],rfl,?_,trivial⟩;conv=>whnf)
  |(with_reducible refine And.intro ?_ ?_)
  |exact @rfl AV _
  |fail)
 all_goals(try simp only[csimp]at *)
 all_goals first
  |(rw[hI0];(try simp only[lnSame,Bool.not_true,Bool.not_false,Bool.and_true,Bool.true_and,Bool.and_false,Bool.false_and,Bool.or_true,Bool.true_or,Bool.or_false,Bool.false_or,if_true,if_false,reduceIte,Bool.false_eq_true,Bool.not_not,Bool.not_eq_true',beq_self_eq_true,List.all_cons,List.all_nil,List.any_cons,List.any_nil,List.length_map,bne,eq_self,Int.toNat_zero, *]);first |done |rfl)
  |(simp only[lenE,Bool.not_true,Bool.not_false,Bool.and_true,Bool.true_and,Bool.and_false,Bool.false_and,Bool.or_true,Bool.true_or,Bool.or_false,Bool.false_or,if_true,if_false,reduceIte,Bool.false_eq_true,Bool.not_not,Bool.not_eq_true',beq_self_eq_true,List.all_cons,List.all_nil,List.any_cons,List.any_nil,List.length_map,bne,eq_self,Int.toNat_zero, *];done)
  |skip
theorem kJ(a b:Tb)  : PCall Tryz.prog 54 [.agg a.cs,.agg b.cs] (.ret (.b (tbE (a,b)))):=by
 refine ae Tryz.func54 ?_
 repeat' ((try(conv=>whnf))<;>first
  |((with_reducible refine call_step ?_ ?_ ?_);rotate_left;(exact gW _ _))
  |((with_reducible refine guard_step ?_ ?_ (λhg=>?_) ?_);exact rfl)
  |((with_reducible refine val_step ?_ ?_);with_reducible exact rfl;with_reducible exact rfl)
  |((with_reducible refine ret_step ?_);refine⟨[],rfl,?_,trivial⟩;conv=>whnf)
  |fail)
 all_goals(try simp only[csimp]at *)
 all_goals first
  |(simp only[tbE,Bool.not_true,Bool.not_false,Bool.and_true,Bool.true_and,Bool.and_false,Bool.false_and,Bool.or_true,Bool.true_or,Bool.or_false,Bool.false_or,if_true,if_false,reduceIte,Bool.false_eq_true,Bool.not_not,Bool.not_eq_true',beq_self_eq_true,List.all_cons,List.all_nil,List.any_cons,List.any_nil,List.length_map,bne,eq_self,Int.toNat_zero, *];done)
  |skip
theorem iV(l m:List Ex)(ih:∀x∈l,∀y,PCall Tryz.prog 57 [x.d,y.d] (.ret (.b (SameExpr x y)))):PCall Tryz.prog 94 [.sl 5 (l.map Ex.cs),.sl 5 (m.map Ex.cs),.fn 57 []] (.ret (.b (exsE l m))):=by
 refine af Tryz.func94 λhf=>?_
 have hlen:l.length<=9223372036854775807:=by simpa using(hf (.sl 5 (l.map Ex.cs)) (by simp)).sl.1
 clear hf
 repeat' ((try(conv=>whnf))<;>first
  |with_reducible exact trivial
  |with_reducible exact idx_next hd0 ‹_›
  |((with_reducible refine br_nil_k hd0 ?_ ?_);(assumption))
  |((with_reducible refine br_cons_k hd0 ?_ ?_);(assumption))
  |with_reducible refine BrI.intro (λh=>?_) (λh=>?_)
  |((with_reducible refine LoopAt.mk 0 ?_);have hz:l.length=m.length:=(by simp at h;omega);have hk0:(l.zip m).length=(l.map Ex.cs).length:=(by rw[zip_len hz,List.length_map]);have hlz:(l.zip m).length<=9223372036854775807:=(by rw[zip_len hz];exact hlen);refine⟨rangeL (l.zip m) 17 (λ(_:Unit)=>[]) (λ(_:Unit)=>[]) [1,2,15,16] (λi0 r0 _=>exsE l m=r0.all exE),?_⟩;with_reducible refine rangeL_rule () ?_ ?_ (λi0 (_:Unit) hd0 hI0=>?_) (λi0 x0 r0 (_:Unit) hd0 hl0 hI0=>?_))
  |(with_reducible refine rangeL_next hd0 () ?_ ?_)
  |((with_reducible refine call_step ?_ ?_ ?_);rotate_left;(exact ih _ (List.of_mem_zip (drop_mem hd0)).1 _))
  |((with_reducible refine idx_step ?_ ?_ ?_ ?_ ?_);exact rfl;exact rfl;rotate_left;(first |with_reducible exact idx_zip1 hd0 |with_reducible exact idx_zip2 hd0))
  |((with_reducible refine len_step ?_ ?_);exact rfl)
  |((with_reducible refine ret_step ?_);refine⟨[],rfl,?_,trivial⟩;conv=>whnf)
  |(with_reducible refine And.intro ?_ ?_)
  |exact @rfl AV _
  |fail)
 all_goals(try simp only[csimp]at *)
 all_goals first
  |(rw[hI0];(try simp only[exE,Bool.not_true,Bool.not_false,Bool.and_true,Bool.true_and,Bool.and_false,Bool.false_and,Bool.or_true,Bool.true_or,Bool.or_false,Bool.false_or,if_true,if_false,reduceIte,Bool.false_eq_true,Bool.not_not,Bool.not_eq_true',beq_self_eq_true,List.all_cons,List.all_nil,List.any_cons,List.any_nil,List.length_map,bne,eq_self,Int.toNat_zero, *]);first |done |rfl)
  |(simp only[exsE,lenE,Bool.not_true,Bool.not_false,Bool.and_true,Bool.true_and,Bool.and_false,Bool.false_and,Bool.or_true,Bool.true_or,Bool.or_false,Bool.false_or,if_true,if_false,reduceIte,Bool.false_eq_true,Bool.not_not,Bool.not_eq_true',beq_self_eq_true,List.all_cons,List.all_nil,List.any_cons,List.any_nil,List.length_map,bne,eq_self,Int.toNat_zero, *];done)
  |skip
theorem dF(a b:Ex)  : PCall Tryz.prog 57 [a.d,b.d] (.ret (.b (SameExpr a b))):=by
 revert b;revert a;refine Ex.ind λa ih b=>?_
 refine ae Tryz.func57 ?_
 repeat' ((try(conv=>whnf))<;>first
  |((with_reducible refine call_step ?_ ?_ ?_);rotate_left;((have hq:=iV a.l b.l ih;rw[<-Ex.css_eq,<-Ex.css_eq]at hq;exact hq)))
  |((with_reducible refine guard_step ?_ ?_ (λhg=>?_) ?_);exact rfl)
  |((with_reducible refine val_step ?_ ?_);with_reducible exact rfl;with_reducible exact rfl)
  |((with_reducible refine ret_step ?_);refine⟨[],rfl,?_,trivial⟩;conv=>whnf)
  |fail)
 all_goals(try simp only[csimp]at *)
 all_goals first
  |((exact congrArg D.b (sameExpr_walk a b)))
  |skip
theorem kK(a b:Sm)  : PCall Tryz.prog 56 [a.d,b.d] (.ret (.b (smE (a,b)))):=by
 refine ae Tryz.func56 ?_
 repeat' ((try(conv=>whnf))<;>first
  |((with_reducible refine call_step ?_ ?_ ?_);rotate_left;(exact dF _ _))
  |((with_reducible refine guard_step ?_ ?_ (λhg=>?_) ?_);exact rfl)
  |((with_reducible refine val_step ?_ ?_);with_reducible exact rfl;with_reducible exact rfl)
  |((with_reducible refine ret_step ?_);refine⟨[],rfl,?_,trivial⟩;conv=>whnf)
  |fail)
 all_goals(try simp only[csimp]at *)
 all_goals first
  |(simp only[smE,Bool.not_true,Bool.not_false,Bool.and_true,Bool.true_and,Bool.and_false,Bool.false_and,Bool.or_true,Bool.true_or,Bool.or_false,Bool.false_or,if_true,if_false,reduceIte,Bool.false_eq_true,Bool.not_not,Bool.not_eq_true',beq_self_eq_true,List.all_cons,List.all_nil,List.any_cons,List.any_nil,List.length_map,bne,eq_self,Int.toNat_zero, *];done)
  |skip
theorem iW(l m:List Tb)  : PCall Tryz.prog 60 [.sl 2 (l.map Tb.cs),.sl 2 (m.map Tb.cs),.fn 54 []] (.ret (.b (lenE tbE l m))):=by
 refine af Tryz.func60 λhf=>?_
 have hlen:l.length<=9223372036854775807:=by simpa using(hf (.sl 2 (l.map Tb.cs)) (by simp)).sl.1
 clear hf
 repeat' ((try(conv=>whnf))<;>first
  |with_reducible exact trivial
  |with_reducible exact idx_next hd0 ‹_›
  |((with_reducible refine br_nil_k hd0 ?_ ?_);(assumption))
  |((with_reducible refine br_cons_k hd0 ?_ ?_);(assumption))
  |with_reducible refine BrI.intro (λh=>?_) (λh=>?_)
  |((with_reducible refine LoopAt.mk 0 ?_);have hz:l.length=m.length:=(by simp at h;omega);have hk0:(l.zip m).length=(l.map Tb.cs).length:=(by rw[zip_len hz,List.length_map]);have hlz:(l.zip m).length<=9223372036854775807:=(by rw[zip_len hz];exact hlen);refine⟨rangeL (l.zip m) 17 (λ(_:Unit)=>[]) (λ(_:Unit)=>[]) [1,2,15,16] (λi0 r0 _=>lenE tbE l m=r0.all tbE),?_⟩;with_reducible refine rangeL_rule () ?_ ?_ (λi0 (_:Unit) hd0 hI0=>?_) (λi0 x0 r0 (_:Unit) hd0 hl0 hI0=>?_))
  |(with_reducible refine rangeL_next hd0 () ?_ ?_)
  |((with_reducible refine call_step ?_ ?_ ?_);rotate_left;(exact kJ _ _))
  |((with_reducible refine idx_step ?_ ?_ ?_ ?_ ?_);exact rfl;exact rfl;rotate_left;(first |with_reducible exact idx_zip1 hd0 |with_reducible exact idx_zip2 hd0))
  |((with_reducible refine len_step ?_ ?_);exact rfl)
  |((with_reducible refine ret_step ?_);refine⟨[],rfl,?_,trivial⟩;conv=>whnf)
  |(with_reducible refine And.intro ?_ ?_)
  |exact @rfl AV _
  |fail)
 all_goals(try simp only[csimp]at *)
 all_goals first
  |(rw[hI0];(try simp only[List.all_cons,Bool.not_true,Bool.not_false,Bool.and_true,Bool.true_and,Bool.and_false,Bool.false_and,Bool.or_true,Bool.true_or,Bool.or_false,Bool.false_or,if_true,if_false,reduceIte,Bool.false_eq_true,Bool.not_not,Bool.not_eq_true',beq_self_eq_true,List.all_cons,List.all_nil,List.any_cons,List.any_nil,List.length_map,bne,eq_self,Int.toNat_zero, *]);first |done |rfl)
  |(simp only[lenE,Bool.not_true,Bool.not_false,Bool.and_true,Bool.true_and,Bool.and_false,Bool.false_and,Bool.or_true,Bool.true_or,Bool.or_false,Bool.false_or,if_true,if_false,reduceIte,Bool.false_eq_true,Bool.not_not,Bool.not_eq_true',beq_self_eq_true,List.all_cons,List.all_nil,List.any_cons,List.any_nil,List.length_map,bne,eq_self,Int.toNat_zero, *];done)
  |skip
theorem iY(l m:List Sm)  : PCall Tryz.prog 61 [.sl 8 (l.map Sm.cs),.sl 8 (m.map Sm.cs),.fn 56 []] (.ret (.b (lenE smE l m))):=by
 refine af Tryz.func61 λhf=>?_
 have hlen:l.length<=9223372036854775807:=by simpa using(hf (.sl 8 (l.map Sm.cs)) (by simp)).sl.1
 clear hf
 repeat' ((try(conv=>whnf))<;>first
  |with_reducible exact trivial
  |with_reducible exact idx_next hd0 ‹_›
  |((with_reducible refine br_nil_k hd0 ?_ ?_);(assumption))
  |((with_reducible refine br_cons_k hd0 ?_ ?_);(assumption))
  |with_reducible refine BrI.intro (λh=>?_) (λh=>?_)
  |((with_reducible refine LoopAt.mk 0 ?_);have hz:l.length=m.length:=(by simp at h;omega);have hk0:(l.zip m).length=(l.map Sm.cs).length:=(by rw[zip_len hz,List.length_map]);have hlz:(l.zip m).length<=9223372036854775807:=(by rw[zip_len hz];exact hlen);refine⟨rangeL (l.zip m) 17 (λ(_:Unit)=>[]) (λ(_:Unit)=>[]) [1,2,15,16] (λi0 r0 _=>lenE smE l m=r0.all smE),?_⟩;with_reducible refine rangeL_rule () ?_ ?_ (λi0 (_:Unit) hd0 hI0=>?_) (λi0 x0 r0 (_:Unit) hd0 hl0 hI0=>?_))
  |(with_reducible refine rangeL_next hd0 () ?_ ?_)
  |((with_reducible refine call_step ?_ ?_ ?_);rotate_left;(exact kK _ _))
  |((with_reducible refine idx_step ?_ ?_ ?_ ?_ ?_);exact rfl;exact rfl;rotate_left;(first |with_reducible exact idx_zip1 hd0 |with_reducible exact idx_zip2 hd0))
  |((with_reducible refine len_step ?_ ?_);exact rfl)
  |((with_reducible refine ret_step ?_);refine⟨[],rfl,?_,trivial⟩;conv=>whnf)
  |(with_reducible refine And.intro ?_ ?_)
  |exact @rfl AV _
  |fail)
 all_goals(try simp only[csimp]at *)
 all_goals first
  |(rw[hI0];(try simp only[List.all_cons,Bool.not_true,Bool.not_false,Bool.and_true,Bool.true_and,Bool.and_false,Bool.false_and,Bool.or_true,Bool.true_or,Bool.or_false,Bool.false_or,if_true,if_false,reduceIte,Bool.false_eq_true,Bool.not_not,Bool.not_eq_true',beq_self_eq_true,List.all_cons,List.all_nil,List.any_cons,List.any_nil,List.length_map,bne,eq_self,Int.toNat_zero, *]);first |done |rfl)
  |(simp only[lenE,Bool.not_true,Bool.not_false,Bool.and_true,Bool.true_and,Bool.and_false,Bool.false_and,Bool.or_true,Bool.true_or,Bool.or_false,Bool.false_or,if_true,if_false,reduceIte,Bool.false_eq_true,Bool.not_not,Bool.not_eq_true',beq_self_eq_true,List.all_cons,List.all_nil,List.any_cons,List.any_nil,List.length_map,bne,eq_self,Int.toNat_zero, *];done)
  |skip
theorem aB(a b:Pr)  : PCall Tryz.prog 31 [a.d,b.d] (.ret (.b (samePr a b))):=by
 refine ae Tryz.func31 ?_
 repeat' ((try(conv=>whnf))<;>first
  |((with_reducible refine call_step ?_ ?_ ?_);rotate_left;(first |exact iT _ _ |exact iU _ _ |exact iW _ _ |exact iY _ _))
  |((with_reducible refine guard_step ?_ ?_ (λhg=>?_) ?_);exact rfl)
  |((with_reducible refine val_step ?_ ?_);with_reducible exact rfl;with_reducible exact rfl)
  |((with_reducible refine ret_step ?_);refine⟨[],rfl,?_,trivial⟩;conv=>whnf)
  |fail)
 all_goals(try simp only[csimp]at *)
 all_goals first
  |(simp only[samePr,plainE,Bool.not_true,Bool.not_false,Bool.and_true,Bool.true_and,Bool.and_false,Bool.false_and,Bool.or_true,Bool.true_or,Bool.or_false,Bool.false_or,if_true,if_false,reduceIte,Bool.false_eq_true,Bool.not_not,Bool.not_eq_true',beq_self_eq_true,List.all_cons,List.all_nil,List.any_cons,List.any_nil,List.length_map,bne,eq_self,Int.toNat_zero, *];done)
  |skip
theorem iZ(l m:List Int)  : PCall Tryz.prog 77 [ints l,ints m] (.ret (.b (intsE l m))):=by
 refine af Tryz.func77 λhf=>?_
 have hlen:l.length<=9223372036854775807:=by simpa using(hf (ints l) (by simp)).sl.1
 clear hf
 repeat' ((try(conv=>whnf))<;>first
  |with_reducible exact trivial
  |with_reducible exact idx_next hd0 ‹_›
  |((with_reducible refine br_nil_k hd0 ?_ ?_);(assumption))
  |((with_reducible refine br_cons_k hd0 ?_ ?_);(assumption))
  |with_reducible refine BrI.intro (λh=>?_) (λh=>?_)
  |((with_reducible refine LoopAt.mk 0 ?_);have hz:l.length=m.length:=(by simp at h;omega);have hk0:(l.zip m).length=(l.map intC).length:=(by rw[zip_len hz,List.length_map]);have hlz:(l.zip m).length<=9223372036854775807:=(by rw[zip_len hz];exact hlen);refine⟨rangeL (l.zip m) 5 (λ(_:Unit)=>[]) (λ(_:Unit)=>[]) [0,1] (λi0 r0 _=>intsE l m=r0.all intE),?_⟩;with_reducible refine rangeL_rule () ?_ ?_ (λi0 (_:Unit) hd0 hI0=>?_) (λi0 x0 r0 (_:Unit) hd0 hl0 hI0=>?_))
  |(with_reducible refine rangeL_next hd0 () ?_ ?_)
  |((with_reducible refine idx_step ?_ ?_ ?_ ?_ ?_);exact rfl;exact rfl;rotate_left;(first |with_reducible exact idx_zip1 hd0 |with_reducible exact idx_zip2 hd0))
  |((with_reducible refine chk_stepP ?_ ?_);kernel_rfl)
  |((with_reducible refine ret_step ?_);refine⟨[],rfl,?_,trivial⟩;conv=>whnf)
  |(with_reducible refine And.intro ?_ ?_)
  |exact @rfl AV _
  |fail)
 all_goals(try simp only[csimp]at *)
 all_goals first
  |(rw[hI0];(try simp only[intE,Bool.not_true,Bool.not_false,Bool.and_true,Bool.true_and,Bool.and_false,Bool.false_and,Bool.or_true,Bool.true_or,Bool.or_false,Bool.false_or,if_true,if_false,reduceIte,Bool.false_eq_true,Bool.not_not,Bool.not_eq_true',beq_self_eq_true,List.all_cons,List.all_nil,List.any_cons,List.any_nil,List.length_map,bne,eq_self,Int.toNat_zero, *]);first |done |rfl)
  |(simp only[intsE,lenE,Bool.not_true,Bool.not_false,Bool.and_true,Bool.true_and,Bool.and_false,Bool.false_and,Bool.or_true,Bool.true_or,Bool.or_false,Bool.false_or,if_true,if_false,reduceIte,Bool.false_eq_true,Bool.not_not,Bool.not_eq_true',beq_self_eq_true,List.all_cons,List.all_nil,List.any_cons,List.any_nil,List.length_map,bne,eq_self,Int.toNat_zero, *];done)
  |skip
theorem dG(a b:Ex)  : PCall Tryz.prog 78 [a.d,b.d] (.ret (.b (SameExpr a b))):=by
 revert b;revert a;refine Ex.ind λa ih b=>?_
 refine af Tryz.func78 λhf=>?_
 have hlen:=Ex.fits (hf a.d (by simp))
 clear hf
 repeat' ((try(conv=>whnf))<;>first
  |with_reducible exact trivial
  |with_reducible exact idx_next hd0 ‹_›
  |((with_reducible refine br_nil_k hd0 ?_ ?_);(assumption))
  |((with_reducible refine br_cons_k hd0 ?_ ?_);(assumption))
  |with_reducible refine BrI.intro (λh=>?_) (λh=>?_)
  |((with_reducible refine LoopAt.mk 0 ?_);have hz:a.l.length=b.l.length:=(by simp[Ex.css_len]at h;omega);have hk0:(a.l.zip b.l).length=(Ex.css a.l).length:=(by rw[zip_len hz,Ex.css_len]);have hlz:(a.l.zip b.l).length<=9223372036854775807:=(by rw[zip_len hz];exact hlen);refine⟨rangeL (a.l.zip b.l) 5 (λ(_:Unit)=>[]) (λ(_:Unit)=>[]) [2,3] (λi0 r0 _=>SameExpr a b=r0.all λq=>SameExpr q.1 q.2),?_⟩;with_reducible refine rangeL_rule () ?_ ?_ (λi0 (_:Unit) hd0 hI0=>?_) (λi0 x0 r0 (_:Unit) hd0 hl0 hI0=>?_))
  |(with_reducible refine rangeL_next hd0 () ?_ ?_)
  |((with_reducible refine call_step ?_ ?_ ?_);rotate_left;(exact ih _ (List.of_mem_zip (drop_mem hd0)).1 _))
  |((with_reducible refine idx_step ?_ ?_ ?_ ?_ ?_);exact rfl;exact rfl;rotate_left;(first |with_reducible exact idx_zip1e hd0 |with_reducible exact idx_zip2e hd0))
  |((with_reducible refine len_step ?_ ?_);exact rfl)
  |((with_reducible refine chk_stepP ?_ ?_);kernel_rfl)
  |((with_reducible refine ret_step ?_);refine⟨[],rfl,?_,trivial⟩;conv=>whnf)
  |(with_reducible refine And.intro ?_ ?_)
  |exact @rfl AV _
  |fail)
 all_goals(try simp only[csimp]at *)
 all_goals first
  |(rw[hI0];(try simp only[List.all_cons,Bool.not_true,Bool.not_false,Bool.and_true,Bool.true_and,Bool.and_false,Bool.false_and,Bool.or_true,Bool.true_or,Bool.or_false,Bool.false_or,if_true,if_false,reduceIte,Bool.false_eq_true,Bool.not_not,Bool.not_eq_true',beq_self_eq_true,List.all_cons,List.all_nil,List.any_cons,List.any_nil,List.length_map,bne,eq_self,Int.toNat_zero, *]);first |done |rfl)
  |(simp only[SameExpr_eq,Bool.not_true,Bool.not_false,Bool.and_true,Bool.true_and,Bool.and_false,Bool.false_and,Bool.or_true,Bool.true_or,Bool.or_false,Bool.false_or,if_true,if_false,reduceIte,Bool.false_eq_true,Bool.not_not,Bool.not_eq_true',beq_self_eq_true,List.all_cons,List.all_nil,List.any_cons,List.any_nil,List.length_map,bne,eq_self,Int.toNat_zero, *];done)
  |((rw[SameExpr_eq,<-sameL_zip hz];simp_all;done))
  |skip
theorem aA(l m:List Bd)  : PCall Tryz.prog 76 [.sl 3 (l.map Bd.cs),.sl 3 (m.map Bd.cs)] (.ret (.b (sameBounds l m))):=by
 refine af Tryz.func76 λhf=>?_
 have hlen:l.length<=9223372036854775807:=by simpa using(hf (.sl 3 (l.map Bd.cs)) (by simp)).sl.1
 clear hf
 repeat' ((try(conv=>whnf))<;>first
  |with_reducible exact trivial
  |with_reducible exact idx_next hd0 ‹_›
  |((with_reducible refine br_nil_k hd0 ?_ ?_);(assumption))
  |((with_reducible refine br_cons_k hd0 ?_ ?_);(assumption))
  |with_reducible refine BrI.intro (λh=>?_) (λh=>?_)
  |((with_reducible refine LoopAt.mk 0 ?_);have hz:l.length=m.length:=(by simp at h;omega);have hk0:(l.zip m).length=(l.map Bd.cs).length:=(by rw[zip_len hz,List.length_map]);have hlz:(l.zip m).length<=9223372036854775807:=(by rw[zip_len hz];exact hlen);refine⟨rangeL (l.zip m) 5 (λ(_:Unit)=>[]) (λ(_:Unit)=>[]) [0,1] (λi0 r0 _=>sameBounds l m=r0.all bdSame),?_⟩;with_reducible refine rangeL_rule () ?_ ?_ (λi0 (_:Unit) hd0 hI0=>?_) (λi0 x0 r0 (_:Unit) hd0 hl0 hI0=>?_))
  |(with_reducible refine rangeL_next hd0 () ?_ ?_)
  |((with_reducible refine kok_step ?_ ?_ ?_);exact rfl;exact rfl)
  |((with_reducible refine idx_step ?_ ?_ ?_ ?_ ?_);exact rfl;exact rfl;rotate_left;(first |with_reducible exact idx_zip1 hd0 |with_reducible exact idx_zip2 hd0))
  |((with_reducible refine len_step ?_ ?_);exact rfl)
  |((with_reducible refine chk_stepP ?_ ?_);kernel_rfl)
  |((with_reducible refine ret_step ?_);refine⟨[],rfl,?_,trivial⟩;conv=>whnf)
  |(with_reducible refine And.intro ?_ ?_)
  |exact @rfl AV _
  |fail)
 all_goals(try simp only[csimp]at *)
 all_goals first
  |(rw[hI0];(try simp only[bdSame,Bool.not_true,Bool.not_false,Bool.and_true,Bool.true_and,Bool.and_false,Bool.false_and,Bool.or_true,Bool.true_or,Bool.or_false,Bool.false_or,if_true,if_false,reduceIte,Bool.false_eq_true,Bool.not_not,Bool.not_eq_true',beq_self_eq_true,List.all_cons,List.all_nil,List.any_cons,List.any_nil,List.length_map,bne,eq_self,Int.toNat_zero, *]);first |done |rfl)
  |(simp only[sameBounds,Bool.not_true,Bool.not_false,Bool.and_true,Bool.true_and,Bool.and_false,Bool.false_and,Bool.or_true,Bool.true_or,Bool.or_false,Bool.false_or,if_true,if_false,reduceIte,Bool.false_eq_true,Bool.not_not,Bool.not_eq_true',beq_self_eq_true,List.all_cons,List.all_nil,List.any_cons,List.any_nil,List.length_map,bne,eq_self,Int.toNat_zero, *];done)
  |skip
theorem kL(a b:Pr)(hE:early1 a b=true):PCall Tryz.prog 41 [a.d,b.d] (.ret (.b false)):=by
 refine ae Tryz.func41 ?_
 repeat' ((try(conv=>whnf))<;>first
  |(exact Bool.noConfusion (show true=false from hE.symm.trans h))
  |refine BrI.intro (λh=>?_) (λh=>?_)
  |((refine call_step ?_ ?_ ?_);rotate_left;(exact aA _ _))
  |((refine guard_step ?_ ?_ (λhg=>?_) ?_);exact rfl)
  |((refine val_step ?_ ?_);exact rfl;exact rfl)
  |(refine ah ?_;conv=>whnf)
  |fail)
 all_goals first
  |skip
theorem kM(a b:Pr)(hE:early1 a b=false)(hE2:early2 a b=true):PCall Tryz.prog 41 [a.d,b.d] (.ret (.b false)):=by
 refine ae Tryz.func41 ?_
 repeat' ((try(conv=>whnf))<;>first
  |(exact Bool.noConfusion ((show true=false from hE2.symm.trans h)))
  |refine BrI.intro (λh=>?_) (λh=>?_)
  |(exact Bool.noConfusion (hE.symm.trans h))
  |((refine call_step ?_ ?_ ?_);rotate_left;(exact aA _ _))
  |((refine guard_step ?_ ?_ (λhg=>?_) ?_);exact rfl)
  |((refine val_step ?_ ?_);exact rfl;exact rfl)
  |(refine ah ?_;conv=>whnf)
  |fail)
 all_goals first
  |skip
theorem kN(a b:Pr)(hE:early1 a b=false)(hE2:early2 a b=false)(hz0:a.lines.length=b.lines.length)(hz2:a.tables.length=b.tables.length)(hz4:a.stmts.length=b.stmts.length):PCall Tryz.prog 41 [a.d,b.d] (.ret (.b ((a.lines.zip b.lines).all lnSame&&((a.tables.zip b.tables).all tbE&&(a.stmts.zip b.stmts).all smE)))):=by
 refine af Tryz.func41 λhf=>?_
 have hq:=Pr.fits (hf a.d (by simp))
 have hl0:(a.lines.zip b.lines).length<=9223372036854775807:=by rw[zip_len hz0];exact hq.lines
 have hl2:(a.tables.zip b.tables).length<=9223372036854775807:=by rw[zip_len hz2];exact hq.tables
 have hl4:(a.stmts.zip b.stmts).length<=9223372036854775807:=by rw[zip_len hz4];exact hq.stmts
 have hk0:(a.lines.zip b.lines).length=(a.lines.map Ln.cs).length:=by rw[zip_len hz0,List.length_map]
 have hk2:(a.tables.zip b.tables).length=(a.tables.map Tb.cs).length:=by rw[zip_len hz2,List.length_map]
 have hk4:(a.stmts.zip b.stmts).length=(a.stmts.map Sm.cs).length:=by rw[zip_len hz4,List.length_map]
 clear hf
 repeat' ((try(conv=>whnf))<;>first
  |exact trivial
  |exact idx_next hd4 ‹_›
  |exact idx_next hd2 ‹_›
  |exact idx_next hd0 ‹_›
  |((refine br_nil_k hd4 ?_ ?_);(assumption))
  |((refine br_nil_k hd2 ?_ ?_);(assumption))
  |((refine br_nil_k hd0 ?_ ?_);(assumption))
  |((refine br_cons_k hd4 ?_ ?_);(assumption))
  |((refine br_cons_k hd2 ?_ ?_);(assumption))
  |((refine br_cons_k hd0 ?_ ?_);(assumption))
  |refine BrI.intro (λh=>?_) (λh=>?_)
  |(exact Bool.noConfusion (hE.symm.trans h))
  |(exact Bool.noConfusion (hE2.symm.trans h))
  |((refine kok_step ?_ ?_ ?_);exact rfl;exact rfl)
  |((refine LoopAt.mk 0 ?_);refine⟨rangeL (a.lines.zip b.lines) 5 (λ(_:Unit)=>[]) (λ(_:Unit)=>[]) [2,3] (λi0 r0 _=>(a.lines.zip b.lines).all lnSame=r0.all lnSame),?_⟩;refine rangeL_rule () ?_ ?_ (λi0 (_:Unit) hd0 hI0=>?_) (λi0 x0 r0 (_:Unit) hd0 hl0 hI0=>?_))
  |(refine rangeL_next hd0 () ?_ ?_)
  |((refine LoopAt.mk 2 ?_);refine⟨rangeL (a.tables.zip b.tables) 6 (λ(_:Unit)=>[]) (λ(_:Unit)=>[]) [2,3] (λi2 r2 _=>(a.lines.zip b.lines).all lnSame=true/\(a.tables.zip b.tables).all tbE=r2.all tbE),?_⟩;refine rangeL_rule () ?_ ?_ (λi2 (_:Unit) hd2 hI2=>?_) (λi2 x2 r2 (_:Unit) hd2 hl2 hI2=>?_))
  |(refine rangeL_next hd2 () ?_ ?_)
  |((refine LoopAt.mk 4 ?_);refine⟨rangeL (a.stmts.zip b.stmts) 7 (λ(_:Unit)=>[]) (λ(_:Unit)=>[]) [2,3] (λi4 r4 _=>(a.lines.zip b.lines).all lnSame=true/\(a.tables.zip b.tables).all tbE=true/\(a.stmts.zip b.stmts).all smE=r4.all smE),?_⟩;refine rangeL_rule () ?_ ?_ (λi4 (_:Unit) hd4 hI4=>?_) (λi4 x4 r4 (_:Unit) hd4 hl4 hI4=>?_))
  |(refine rangeL_next hd4 () ?_ ?_)
  |((refine call_step ?_ ?_ ?_);rotate_left;(first |exact aA _ _ |exact iZ _ _ |exact dG _ _))
  |((refine idx_step ?_ ?_ ?_ ?_ ?_);exact rfl;exact rfl;rotate_left;(first |exact idx_zip1 hd4 |exact idx_zip2 hd4 |exact idx_zip1 hd2 |exact idx_zip2 hd2 |exact idx_zip1 hd0 |exact idx_zip2 hd0))
  |((refine len_step ?_ ?_);exact rfl)
  |((refine guard_step ?_ ?_ (λhg=>?_) ?_);exact rfl)
  |((refine guard_stepT ?_ ?_ (λhg=>?_) ?_);exact rfl)
  |((refine val_step ?_ ?_);exact rfl;exact rfl)
  |((refine chk_stepP ?_ ?_);kernel_rfl)
  |(refine ah ?_;conv=>whnf)
  |(refine And.intro ?_ ?_)
  |exact @rfl AV _
  |fail)
 all_goals first
  |((refine congrArg D.b ?_;rw[all_no hI0 (ln_no h)];rfl))
  |((exact all_yes hI0 (ln_yes h)))
  |((exact hI0))
  |((refine congrArg D.b ?_;rw[hI2.1,all_no hI2.2 (by have:=(tbE_walk x2).symm.trans h;simpa using this)];rfl))
  |((exact all_yes hI2.2 (by have:=(tbE_walk x2).symm.trans h;simpa using this)))
  |((exact hI2.2))
  |((refine congrArg D.b ?_;rw[hI4.1,hI4.2.1,all_no hI4.2.2 (by have:=(smE_walk x4).symm.trans h;simpa using this)];rfl))
  |((exact all_yes hI4.2.2 (by have:=(smE_walk x4).symm.trans h;simpa using this)))
  |((refine congrArg D.b ?_;rw[hI4.1,hI4.2.1,hI4.2.2];rfl))
  |skip
theorem ja(a b:Pr):PCall Tryz.prog 41 [a.d,b.d] (.ret (.b (samePr a b))):=by
 cases h1:early1 a b with
 |true=>rw[same_e1 h1];exact kL a b h1
 |false=>
  cases h2:early2 a b with
  |true=>rw[same_e2 h2];exact kM a b h1 h2
  |false=>
   obtain⟨e,z0,z2,z4⟩:=same_rest h1 h2
   rw[e];exact kN a b h1 h2 z0 z2 z4
end Go.Proofs.YtogfjinopifenaaGreatDoor
namespace Go.Proofs.YtogfjinopifenaaGreatDoor
open Go.Fw Go.Fw.Rg Go.Fw.Nam
set_option maxRecDepth 10000
variable [GlobInt]
theorem kP(p:Pr)(g:GoodP p)(he:((resolveC p).2 != 0)=true):PCall Tryz.prog 35 [p.d] (.ret (.tuple [.val (.pointer none),.i (resolveC p).2])):=by
 refine ae Tryz.func35 ?_
 repeat' ((try(conv=>whnf))<;>first
  |(exact Bool.noConfusion (show true=false from he.symm.trans h))
  |refine BrI.intro (λh=>?_) (λh=>?_)
  |((refine call_step ?_ ?_ ?_);rotate_left;(exact ay p g.sm g.hn))
  |((refine chk_stepP ?_ ?_);kernel_rfl)
  |(refine ah ?_;conv=>whnf)
  |fail)
 all_goals first
  |skip
theorem kQ(p:Pr)(g:GoodP p)(he:((resolveC p).2 != 0)=false)(hs:samePr p (resolveC p).1=false):PCall Tryz.prog 35 [p.d] (.ret (.tuple [.val (.pointer none),.i 150])):=by
 refine ae Tryz.func35 ?_
 repeat' ((try(conv=>whnf))<;>first
  |(exact Bool.noConfusion (show false=true from he.symm.trans h))
  |(exact Bool.noConfusion (show true=false from(congrArg (!·) hs).symm.trans h))
  |refine BrI.intro (λh=>?_) (λh=>?_)
  |((refine call_step ?_ ?_ ?_);rotate_left;(first |exact aB _ _ |exact ay p g.sm g.hn))
  |(refine ah ?_;conv=>whnf)
  |fail)
 all_goals first
  |skip
theorem kR(p:Pr)(FF:List Sp)(g:GoodP p)(he:(resolveC p).2=0)(hs:(resolveC p).1=p)(hR:Rng p)(hw:wfSL p 0 p.stmts=true)(hS:stmtsM p p.stmts [] = .ok FF)(hF:stmtsF p p.stmts []=FF):PCall Tryz.prog 35 [p.d] (.ret (.tuple [.ptr (fC p FF),.i 0])):=by
 refine af Tryz.func35 λhf=>?_
 have hq:resolveC p=(p,0):=Prod.ext hs he
 have hc:=ay p g.sm g.hn
 rw[hq]at hc
 have hc2:=aB p p
 rw[(samePr_iff p p).2 rfl]at hc2
 clear hf
 repeat' ((try(conv=>whnf))<;>first
  |(exact Bool.noConfusion (show true=false from h.symm.trans (rfl:((0:Int) != 0)=false)))
  |(exact Bool.noConfusion (show false=true from(congrArg (!·) ((samePr_iff p p).2 rfl)).symm.trans h))
  |refine BrI.intro (λh=>?_) (λh=>?_)
  |((refine call_step ?_ ?_ ?_);rotate_left;(first |exact aB _ _ |exact hc))
  |((refine lent_step' [(1000000,3),(1000001,19),(1000002,800001)] (lT p FF hR g.hT g.hn g.hl hw hS hF) ?_ ?_ ?_ ?_);rotate_left 0;exact rfl;(exact⟨rfl,rfl,trivial⟩);exact rfl)
  |((refine chk_stepP ?_ ?_);kernel_rfl)
  |(refine ah ?_;conv=>whnf)
  |(refine And.intro ?_ ?_)
  |fail)
 all_goals first
  |(rfl)
  |skip
theorem jO(p:Pr)(FF:List Sp)(e:Int)(g:GoodP p)(he:(resolveC p).2=0)(hs:(resolveC p).1=p)(hR:Rng p)(hw:wfSL p 0 p.stmts=true)(hS:stmtsM p p.stmts [] = .error e)(hF:stmtsF p p.stmts []=FF):PCall Tryz.prog 35 [p.d] (.ret (.tuple [.ptr (fC p FF),.i e])):=by
 refine af Tryz.func35 λhf=>?_
 have hq:resolveC p=(p,0):=Prod.ext hs he
 have hc:=ay p g.sm g.hn
 rw[hq]at hc
 have hc2:=aB p p
 rw[(samePr_iff p p).2 rfl]at hc2
 clear hf
 repeat' ((try(conv=>whnf))<;>first
  |(exact Bool.noConfusion (show true=false from h.symm.trans (rfl:((0:Int) != 0)=false)))
  |(exact Bool.noConfusion (show false=true from(congrArg (!·) ((samePr_iff p p).2 rfl)).symm.trans h))
  |refine BrI.intro (λh=>?_) (λh=>?_)
  |((refine call_step ?_ ?_ ?_);rotate_left;(first |exact aB _ _ |exact hc))
  |((refine lent_step' [(1000000,3),(1000001,19),(1000002,800001)] (kH p FF e hR g.hT g.hn g.hl hw hS hF) ?_ ?_ ?_ ?_);rotate_left 0;exact rfl;(exact⟨rfl,rfl,trivial⟩);exact rfl)
  |((refine chk_stepP ?_ ?_);kernel_rfl)
  |(refine ah ?_;conv=>whnf)
  |(refine And.intro ?_ ?_)
  |fail)
 all_goals first
  |(rfl)
  |skip
theorem cu(p:Pr)(x:Ex)(most:Int)(hm0:0<=most)(hm:most<=512):PCall Tryz.prog 36 [p.d,x.d,.i most] (.ret (.tuple [.i (fitsM p x most).1,.b (fitsM p x most).2])):=by
 revert hm0 hm;revert most;revert x;refine Ex.ind λx ih most hm0 hm=>?_
 refine af Tryz.func36 λhf=>?_
 have hlen:=Ex.fits (hf x.d (by simp));have hq:=Pr.fits (hf p.d (by simp))
 have ih2:∀y∈x.l,∀m c,c=m->0<=m->m<=512->PCall Tryz.prog 36 [p.d,y.d,.i c] (.ret (.tuple [.i (fitsM p y m).1,.b (fitsM p y m).2])):=λy hy m c hc h0 h1=>by subst hc;exact ih y hy c h0 h1
 clear hf
 repeat' ((try(conv=>whnf))<;>first
  |(exact Bool.noConfusion (show true=false from h))
  |(exact Bool.noConfusion (show false=true from h))
  |exact trivial
  |exact idx_next hd1 ‹_›
  |refine br_nil_e hd1 ?_
  |refine br_cons_e hd1 ?_
  |refine BrI.intro (λh=>?_) (λh=>?_)
  |((refine opt_lkI (l:=needL) ?_ (λnd hnd=>?_) (λhnd=>?_));exact rfl)
  |((refine opt_many (p:=p) ?_ (λmd hmd=>?_) (λhmd=>?_));exact rfl)
  |(exact(many5n ‹lkI x.kind (manyL p)=none› h).elim)
  |((refine idx_int Sm.none ?_ ?_ ?_ ?_ ?_);exact rfl;exact rfl;rotate_left 2)
  |((refine LoopAt.mk 1 ?_);refine⟨rangeL (x.l) 109 (λ(q:(Int)×(Bool))=>match q with |(n,ok)=>[(6,.data (.val (.int .i64 n))),(7,.data (.val (.bool ok)))]) (λ(q:(Int)×(Bool))=>match q with |(n,ok)=>[]) [2,3,107,108] (λi1 r1 q=>match q with |(n,ok)=>fitsM p x most=fitsL p r1 most n ok/\1<=n/\n<=most),?_⟩;refine rangeL_rule (?_,?_) ?_ ?_ (λi1 ⟨n,ok⟩ hd1 hI1=>?_) (λi1 x1 r1 ⟨n,ok⟩ hd1 hl1 hI1=>?_))
  |(refine rangeL_next hd1 (?_,?_) ?_ ?_)
  |((refine call_step ?_ ?_ ?_);rotate_left;(exact ih2 _ (drop_mem ‹_›) (most-n) _ (wrap_ok (by omega) (by omega)) (by omega) (by omega)))
  |((refine idx_step ?_ ?_ ?_ ?_ ?_);exact rfl;exact rfl;rotate_left;(exact idx_drop_e hd1))
  |((refine len_step ?_ ?_);exact rfl)
  |(refine ah ?_;conv=>whnf)
  |(refine And.intro ?_ ?_)
  |exact @rfl AV _
  |fail)
 all_goals first
  |(rfl)
  |((exact Int.le_refl _))
  |((refine(idx5 ‹lkI x.kind (manyL p)=some _› ‹(x.kind==5)=true› ?_).1;assumption))
  |((refine(idx5 ‹lkI x.kind (manyL p)=some _› ‹(x.kind==5)=true› ?_).2;assumption))
  |((refine most_ge (l:=x.l) (nd:=nd) ?_;assumption))
  |(((refine fits_start ‹lkI x.kind needL=some _› ‹lkI x.kind (manyL p)=_› ?_ ?_ ?_);assumption;(first |exact rfl |(refine inM_some (b:=false) ?_;assumption));(first |exact ok0_1 ‹_› |exact ok0_2 ‹_› ‹_› |exact ok0_3 ‹_› ‹_› ‹_› |exact ok0_4 ‹_› ‹_› ‹_›)))
  |((rw[fits_no ‹lkI x.kind needL=none›]))
  |((rw[fits_n1 ‹lkI x.kind needL=some _› (css_h (b:=true) h)]))
  |((rw[fits_out ‹lkI x.kind needL=some _› ‹lkI x.kind (manyL p)=_› ?_ (inM_some (b:=true) h)];assumption))
  |((obtain⟨hok,hfit⟩:=bifT h;have hr:=fits_rng p x1 (most-n) (by omega);have h3:=hr.2.2 hfit;rw[wrap_ok (by omega) (by omega)];first |omega |(rw[hI1.1];exact fitsL_go h)))
  |((rw[hI1.1,fitsL_no h]))
  |((rw[hI1.1,fitsL]))
  |skip
theorem check_any(p:Pr)(pd:D)(e:Int)(hw:PCall Tryz.prog 35 [p.d] (.ret (.tuple [pd,.i e]))):PCall Tryz.prog 32 [p.d] (.ret (.i e)):=by
 refine ae Tryz.func32 ?_
 repeat' ((try(conv=>whnf))<;>first
  |((refine call_step ?_ ?_ ?_);rotate_left;(exact hw))
  |(refine ah ?_;conv=>whnf)
  |fail)
 all_goals first
  |skip
theorem lU(p:Pr)(F:List Sp)(x:Ex)(s:Sp)(a b:Int)(hc:PCall Tryz.prog 39 [.ptr (fC p F),x.d] (.ret s.d)):LCall Tryz.prog 38 [.ptr 1000000 0,.ptr 1000001 0,.ptr 1000002 0,.ptr 1000003 0] [(1000000,.cells [.data (.ptr (fC p F))]),(1000001,.cells [.data (.i x.kind),.data (.str x.name),.data (.i x.index),.data (.i x.n),.data (.sl 5 (Ex.css x.l))]),(1000002,.cells [.data (.i a)]),(1000003,.cells [.data (.i b)])] (.ret (.data (.tuple []))) [(1000000,.cells [.data (.ptr (fC p F))]),(1000001,.cells [.data (.i x.kind),.data (.str x.name),.data (.i x.index),.data (.i x.n),.data (.sl 5 (Ex.css x.l))]),(1000002,.cells [.data (.i s.1)]),(1000003,.cells [.data (.i s.2)])]:=by
 refine aF Tryz.func38 ?_
 repeat' ((try(conv=>whnf))<;>first
  |exact trivial
  |((refine call_step ?_ ?_ ?_);rotate_left;(exact hc))
  |((refine ret_step ?_);refine fin_step' [] rfl ?_ ?_)
  |((refine chk_stepP ?_ ?_);kernel_rfl)
  |(refine And.intro ?_ ?_)
  |fail)
 all_goals first
  |(rfl)
  |(decide)
  |skip
theorem kS(p:Pr)(F:List Sp)(x:Ex)(e:Int)(a b:Int)(hc:PCall Tryz.prog 39 [.ptr (fC p F),x.d] (.pan (.iface 30 (.i e)))):LCall Tryz.prog 38 [.ptr 1000000 0,.ptr 1000001 0,.ptr 1000002 0,.ptr 1000003 0] [(1000000,.cells [.data (.ptr (fC p F))]),(1000001,.cells [.data (.i x.kind),.data (.str x.name),.data (.i x.index),.data (.i x.n),.data (.sl 5 (Ex.css x.l))]),(1000002,.cells [.data (.i a)]),(1000003,.cells [.data (.i b)])] (.pan (.data (.iface 30 (.i e)))) [(1000000,.cells [.data (.ptr (fC p F))]),(1000001,.cells [.data (.i x.kind),.data (.str x.name),.data (.i x.index),.data (.i x.n),.data (.sl 5 (Ex.css x.l))]),(1000002,.cells [.data (.i a)]),(1000003,.cells [.data (.i b)])]:=by
 refine aF Tryz.func38 ?_
 repeat' ((try(conv=>whnf))<;>first
  |exact trivial
  |((refine call_step ?_ ?_ ?_);rotate_left;(exact hc))
  |((refine pan_stepA ?_);refine fin_step' [] rfl ?_ ?_)
  |(refine And.intro ?_ ?_)
  |fail)
 all_goals first
  |skip
theorem kT(p:Pr)(F:List Sp)(x:Ex)(s:Sp)(hc:PCall Tryz.prog 39 [.ptr (fC p F),x.d] (.ret s.d)):LCall Tryz.prog 37 [.ptr 1000000 0,.fn 38 [.ptr 1000001 0,.ptr 1000002 0,.ptr 1000003 0,.ptr 1000004 0]] [(1000000,.cells [.data (.i 0)]),(1000001,.cells [.data (.ptr (fC p F))]),(1000002,.cells [.data (.i x.kind),.data (.str x.name),.data (.i x.index),.data (.i x.n),.data (.sl 5 (Ex.css x.l))]),(1000003,.cells [.data (.i 0)]),(1000004,.cells [.data (.i 0)])] (.ret (.data (.tuple []))) [(1000000,.cells [.data (.i 0)]),(1000001,.cells [.data (.ptr (fC p F))]),(1000002,.cells [.data (.i x.kind),.data (.str x.name),.data (.i x.index),.data (.i x.n),.data (.sl 5 (Ex.css x.l))]),(1000003,.cells [.data (.i s.1)]),(1000004,.cells [.data (.i s.2)])]:=by
 refine aF Tryz.func37 ?_
 repeat' ((try(conv=>whnf))<;>first
  |exact trivial
  |((refine⟨_,_,_,[(1000000,2),(1000001,1000000)],iH (.i 0),rfl,⟨rfl,rfl,trivial⟩,?_,?_⟩);kernel_rfl)
  |(refine⟨([(1000000,1000000),(1000001,1000001),(1000002,1000002),(1000003,1000003),(1000004,1000004)]:List (Nat×Nat)),rfl,?_,?_⟩)
  |((refine lent_step' [(1000000,1000001),(1000001,1000002),(1000002,1000003),(1000003,1000004)] (lU p F x s 0 0 hc) ?_ ?_ ?_ ?_);rotate_left 0;exact rfl;(exact⟨rfl,rfl,rfl,rfl,trivial⟩);exact rfl)
  |(refine And.intro ?_ ?_)
  |fail)
 all_goals first
  |skip
theorem jP(p:Pr)(F:List Sp)(x:Ex)(e:Int)(hc:PCall Tryz.prog 39 [.ptr (fC p F),x.d] (.pan (.iface 30 (.i e)))):LCall Tryz.prog 37 [.ptr 1000000 0,.fn 38 [.ptr 1000001 0,.ptr 1000002 0,.ptr 1000003 0,.ptr 1000004 0]] [(1000000,.cells [.data (.i 0)]),(1000001,.cells [.data (.ptr (fC p F))]),(1000002,.cells [.data (.i x.kind),.data (.str x.name),.data (.i x.index),.data (.i x.n),.data (.sl 5 (Ex.css x.l))]),(1000003,.cells [.data (.i 0)]),(1000004,.cells [.data (.i 0)])] (.ret (.data (.tuple []))) [(1000000,.cells [.data (.i e)]),(1000001,.cells [.data (.ptr (fC p F))]),(1000002,.cells [.data (.i x.kind),.data (.str x.name),.data (.i x.index),.data (.i x.n),.data (.sl 5 (Ex.css x.l))]),(1000003,.cells [.data (.i 0)]),(1000004,.cells [.data (.i 0)])]:=by
 refine aF Tryz.func37 ?_
 repeat' ((try(conv=>whnf))<;>first
  |exact trivial
  |((refine dfrP.ret ?_);(refine⟨_,_,_,[(1000000,2),(1000001,1000000)],fU (.data (.i 0)) e,rfl,⟨rfl,rfl,trivial⟩,?_,?_⟩);kernel_rfl)
  |(refine⟨([(1000000,1000000),(1000001,1000001),(1000002,1000002),(1000003,1000003),(1000004,1000004)]:List (Nat×Nat)),rfl,?_,?_⟩)
  |((refine lent_step' [(1000000,1000001),(1000001,1000002),(1000002,1000003),(1000003,1000004)] (kS p F x e 0 0 hc) ?_ ?_ ?_ ?_);rotate_left 0;exact rfl;(exact⟨rfl,rfl,rfl,rfl,trivial⟩);exact rfl)
  |(refine And.intro ?_ ?_)
  |fail)
 all_goals first
  |skip
theorem lV(p:Pr)(x:Ex)(e:Int)(hw:PCall Tryz.prog 35 [p.d] (.ret (.tuple [.val (.pointer none),.i e])))(he:(e != 0)=true):PCall Tryz.prog 21 [p.d,x.d] (.ret (.tuple [.i 0,.i 0,.i e])):=by
 refine ae Tryz.func21 ?_
 repeat' ((try(conv=>whnf))<;>first
  |(exact Bool.noConfusion (show true=false from he.symm.trans h))
  |refine BrI.intro (λh=>?_) (λh=>?_)
  |((refine call_step ?_ ?_ ?_);rotate_left;(exact hw))
  |((refine chk_stepP ?_ ?_);kernel_rfl)
  |(refine ah ?_;conv=>whnf)
  |fail)
 all_goals first
  |skip
theorem lW(p:Pr)(x:Ex)(F:List Sp)(e:Int)(hw:PCall Tryz.prog 35 [p.d] (.ret (.tuple [.ptr (fC p F),.i e])))(he:(e != 0)=true):PCall Tryz.prog 21 [p.d,x.d] (.ret (.tuple [.i 0,.i 0,.i e])):=by
 refine ae Tryz.func21 ?_
 repeat' ((try(conv=>whnf))<;>first
  |(exact Bool.noConfusion (show true=false from he.symm.trans h))
  |refine BrI.intro (λh=>?_) (λh=>?_)
  |((refine call_step ?_ ?_ ?_);rotate_left;(exact hw))
  |((refine chk_stepP ?_ ?_);kernel_rfl)
  |(refine ah ?_;conv=>whnf)
  |fail)
 all_goals first
  |skip
theorem kU(p:Pr)(x:Ex)(F:List Sp)(hw:PCall Tryz.prog 35 [p.d] (.ret (.tuple [.ptr (fC p F),.i 0])))(hx:(fitsM p x 512).2=false):PCall Tryz.prog 21 [p.d,x.d] (.ret (.tuple [.i 0,.i 0,.i 150])):=by
 refine ae Tryz.func21 ?_
 repeat' ((try(conv=>whnf))<;>first
  |(exact Bool.noConfusion (show false=true from h))
  |(exact Bool.noConfusion (show true=false from(congrArg (!·) hx).symm.trans h))
  |refine BrI.intro (λh=>?_) (λh=>?_)
  |((refine call_step ?_ ?_ ?_);rotate_left;(first |exact hw |exact cu p x 512 (by decide) (by decide)))
  |(refine ah ?_;conv=>whnf)
  |fail)
 all_goals first
  |skip
theorem nK(p:Pr)(x:Ex)(F:List Sp)(s:Sp)(hw:PCall Tryz.prog 35 [p.d] (.ret (.tuple [.ptr (fC p F),.i 0])))(hx:(fitsM p x 512).2=true)(hc:PCall Tryz.prog 39 [.ptr (fC p F),x.d] (.ret s.d)):PCall Tryz.prog 21 [p.d,x.d] (.ret (.tuple [.i s.1,.i s.2,.i 0])):=by
 refine ae Tryz.func21 ?_
 repeat' ((try(conv=>whnf))<;>first
  |(exact Bool.noConfusion (show false=true from h))
  |(exact Bool.noConfusion (show false=true from(congrArg (!·) hx).symm.trans h))
  |refine BrI.intro (λh=>?_) (λh=>?_)
  |((refine call_step ?_ ?_ ?_);rotate_left;(first |exact hw |exact cu p x 512 (by decide) (by decide)))
  |((refine lent_step' [(1000000,6),(1000001,7),(1000002,3),(1000003,4),(1000004,5)] (kT p F x s hc) ?_ ?_ ?_ ?_);rotate_left 0;exact rfl;(exact⟨rfl,rfl,rfl,rfl,rfl,trivial⟩);exact rfl)
  |((refine chk_stepP ?_ ?_);kernel_rfl)
  |(refine ah ?_;conv=>whnf)
  |fail)
 all_goals first
  |skip
theorem lX(p:Pr)(x:Ex)(F:List Sp)(e:Int)(hw:PCall Tryz.prog 35 [p.d] (.ret (.tuple [.ptr (fC p F),.i 0])))(hx:(fitsM p x 512).2=true)(hc:PCall Tryz.prog 39 [.ptr (fC p F),x.d] (.pan (.iface 30 (.i e)))):PCall Tryz.prog 21 [p.d,x.d] (.ret (.tuple [.i 0,.i 0,.i e])):=by
 refine ae Tryz.func21 ?_
 repeat' ((try(conv=>whnf))<;>first
  |(exact Bool.noConfusion (show false=true from h))
  |(exact Bool.noConfusion (show false=true from(congrArg (!·) hx).symm.trans h))
  |refine BrI.intro (λh=>?_) (λh=>?_)
  |((refine call_step ?_ ?_ ?_);rotate_left;(first |exact hw |exact cu p x 512 (by decide) (by decide)))
  |((refine lent_step' [(1000000,6),(1000001,7),(1000002,3),(1000003,4),(1000004,5)] (jP p F x e hc) ?_ ?_ ?_ ?_);rotate_left 0;exact rfl;(exact⟨rfl,rfl,rfl,rfl,rfl,trivial⟩);exact rfl)
  |((refine chk_stepP ?_ ?_);kernel_rfl)
  |(refine ah ?_;conv=>whnf)
  |fail)
 all_goals first
  |skip
end Go.Proofs.YtogfjinopifenaaGreatDoor
