/- A part of the proof. -/
import Derived.Test.YtaipffoajgkljaaGreatDoorZSA
import Derived.Test.YtaipffoajgkljaaGreatDoorZRB
set_option linter.all false
set_option maxHeartbeats 4000000
namespace Go.Proofs.YtaipffoajgkljaaGreatDoor
open Go.Fw Go.Fw.Rg
set_option maxRecDepth 10000
variable [af]
theorem Xx(x:Int)  : PCall Tryz.prog 143 [.i x] (.ret (.i (oO x))):=by
 refine ay Tryz.func143 ?_
 repeat' ((try conv=>whnf)<;>first
  |refine BrI.intro (λh=>?_) (λh=>?_)
  |(refine cO ?_;conv=>whnf)
  |fail)
 all_goals (refine congrArg D.i ?_;unfold oO;simp only[decide_eq_true_eq,decide_eq_false_iff_not]at *;(repeat' split)<;>omega)
theorem JY(a n:Int)(ha:inW a=true)(hn:1<=n)(hn2:n<=2147483648):PCall Tryz.prog 154 [.i a,.i n] (.ret (.i (iG a n))):=by
 refine ay Tryz.func154 ?_
 repeat' ((try conv=>whnf)<;>first
  |refine BrI.intro (λh=>?_) (λh=>?_)
  |(refine cO ?_;conv=>whnf)
  |refine And.intro ?_ ?_
  |fail)
 all_goals first
  |omega
  |exact congrArg D.i (YR hn hn2 ha (of_decide_eq_true h))
  |exact congrArg D.i (YS hn ha (of_decide_eq_false h))
theorem PE(a b:Int)(hc:zey a b=false)(hw:IntKind.i64.wrap (a+b)=a+b):PCall Tryz.prog 149 [.i a,.i b] (.ret (.i (a+b))):=by
 refine ay Tryz.func149 ?_
 repeat' ((try conv=>whnf)<;>first
  |refine BrI.intro (λh=>?_) (λh=>?_)
  |exact Bool.noConfusion (hc.symm.trans h)
  |(refine cO ?_;conv=>whnf)
  |fail)
 all_goals exact congrArg D.i hw
theorem add_bad(a b:Int)(hc:zey a b=true):PCall Tryz.prog 149 [.i a,.i b] (.pan (.iface 34 (.i 160))):=by
 refine ay Tryz.func149 ?_
 repeat' ((try conv=>whnf)<;>first
  |refine BrI.intro (λh=>?_) (λh=>?_)
  |exact Bool.noConfusion (hc.symm.trans h)
  |((refine yT ?_);refine⟨[],rfl,?_,trivial⟩;conv=>whnf)
  |fail)
theorem z9d(n:Int)(f:Bool)(hc:Q9 n f=false):PCall Tryz.prog 158 [.i n,.b f] (.ret (.i n)):=by
 refine ay Tryz.func158 ?_
 repeat' ((try conv=>whnf)<;>first
  |refine BrI.intro (λh=>?_) (λh=>?_)
  |exact Bool.noConfusion (hc.symm.trans h)
  |(refine cO ?_;conv=>whnf)
  |fail)
theorem z0d(n:Int)(f:Bool)(hc:Q9 n f=true):PCall Tryz.prog 158 [.i n,.b f] (.pan (.iface 34 (.i 160))):=by
 refine ay Tryz.func158 ?_
 repeat' ((try conv=>whnf)<;>first
  |refine BrI.intro (λh=>?_) (λh=>?_)
  |exact Bool.noConfusion (hc.symm.trans h)
  |((refine yT ?_);refine⟨[],rfl,?_,trivial⟩;conv=>whnf)
  |fail)
theorem mul_zero(a b:Int)(hz:z1z a b=true):PCall Tryz.prog 152 [.i a,.i b] (.ret (.i 0)):=by
 refine ay Tryz.func152 ?_
 repeat' ((try conv=>whnf)<;>first
  |refine BrI.intro (λh=>?_) (λh=>?_)
  |exact Bool.noConfusion (hz.symm.trans h)
  |(refine cO ?_;conv=>whnf)
  |fail)
theorem zd5(a b:Int)(hz:z1z a b=false)(hb:b≠0)(hq:mm2 true b (IntKind.i64.wrap (0-b))≠0)(hw:Q9 (IntKind.i64.wrap (a * b)) (zbr a b)=false):PCall Tryz.prog 152 [.i a,.i b] (.ret (.i (IntKind.i64.wrap (a * b)))):=by
 refine ay Tryz.func152 ?_
 repeat' ((try conv=>whnf)<;>first
  |refine BrI.intro (λh=>?_) (λh=>?_)
  |exact Bool.noConfusion (hz.symm.trans h)
  |((refine ai ?_ ?_ ?_);rotate_left;exact z9d _ _ hw)
  |((refine aY ?_ ?_ (λhg=>?_) ?_);rfl)
  |((refine bY ?_ ?_);rfl;rfl)
  |((refine gJ ?_ ?_);rfl)
  |(refine cO ?_;conv=>whnf)
  |refine And.intro ?_ ?_
  |fail)
 all_goals first
  |exact hb
  |exact hq
theorem z9e(a b:Int)(hz:z1z a b=false)(hb:b≠0)(hq:mm2 true b (IntKind.i64.wrap (0-b))≠0)(hw:Q9 (IntKind.i64.wrap (a * b)) (zbr a b)=true):PCall Tryz.prog 152 [.i a,.i b] (.pan (.iface 34 (.i 160))):=by
 refine ay Tryz.func152 ?_
 repeat' ((try conv=>whnf)<;>first
  |refine BrI.intro (λh=>?_) (λh=>?_)
  |exact Bool.noConfusion (hz.symm.trans h)
  |((refine ai ?_ ?_ ?_);rotate_left;exact z0d _ _ hw)
  |((refine aY ?_ ?_ (λhg=>?_) ?_);rfl)
  |((refine bY ?_ ?_);rfl;rfl)
  |((refine yT ?_);refine⟨[],rfl,?_,trivial⟩;conv=>whnf)
  |refine And.intro ?_ ?_
  |fail)
 all_goals first
  |exact hb
  |exact hq
abbrev fC(p:Pr)(found:List Sp):List D:=[.str p.name,.i p.latency,.i p.tail,.sl 3 (p.params.map Bd.cs),.sl 3 (p.states.map Bd.cs),.sl 4 (p.lines.map Ln.cs),.sl 2 (p.tables.map Tb.cs),.sl 8 (p.stmts.map Sm.cs),.sl 2 (found.map Sp.cs)]
theorem vV(a b c:Int)(hc:c=b)(ha:inW a=true)(hb:inW b=true):PCall Tryz.prog 149 [.i a,.i c] (zez 34 (okW (a+b))):=by
 subst hc
 unfold okW
 cases hw:inW (a+c)with
 |true=>exact PE a c (by rw[U8 ha hb,hw];rfl) (qP hw)
 |false=>exact add_bad a c (by rw[U8 ha hb,hw];rfl)
theorem vW(a b:Int)(ha:inW a=true)(hb:inW b=true):PCall Tryz.prog 152 [.i a,.i b] (zez 34 (okW (a * b))):=by
 cases hz:z1z a b with
 |true=>rw[z5t hz];exact mul_zero a b hz
 |false=>
  have hb0:=z5u hz
  have hq:mm2 true b (IntKind.i64.wrap (0-b))≠0:=by rw[gu hb,LU];omega
  unfold okW
  cases hw:inW (a * b)with
  |true=>
   have:=zd5 a b hz hb0 hq (by rw[OV ha hb hb0,hw];rfl)
   rw[qP hw]at this;exact this
  |false=>exact z9e a b hz hb0 hq (by rw[OV ha hb hb0,hw];rfl)
theorem op1(p:Pr)(found:List Sp)(x:Ex)  : PCall Tryz.prog 135 [.ptr (fC p found),x.d,.sl 2 []] (.ret (Sp.d (x.n,x.n))):=by
 refine ay Tryz.func135 ?_
 repeat' ((try conv=>whnf)<;>first
  |(refine cO ?_;conv=>whnf)
  |fail)
theorem op3(p:Pr)(found:List Sp)(x:Ex)(h0:0<=x.index)(h1:x.index<p.params.length):PCall Tryz.prog 136 [.ptr (fC p found),x.d,.sl 2 []] (.ret (Sp.d ((jD p x.index).lo,(jD p x.index).hi))):=by
 refine ay Tryz.func136 ?_
 repeat' ((try conv=>whnf)<;>first
  |((refine eU Rg.Bd.none ?_ ?_ h0 h1 ?_);rfl;rfl)
  |refine fD ?_
  |(refine cO ?_;conv=>whnf)
  |fail)
theorem op4(p:Pr)(found:List Sp)(x:Ex)(h0:0<=x.index)(h1:x.index<p.states.length):PCall Tryz.prog 137 [.ptr (fC p found),x.d,.sl 2 []] (.ret (Sp.d ((bM p x.index).lo,(bM p x.index).hi))):=by
 refine ay Tryz.func137 ?_
 repeat' ((try conv=>whnf)<;>first
  |((refine eU Rg.Bd.none ?_ ?_ h0 h1 ?_);rfl;rfl)
  |refine fD ?_
  |(refine cO ?_;conv=>whnf)
  |fail)
theorem op5(p:Pr)(found:List Sp)(x:Ex)(h0:0<=x.index)(h1:x.index<found.length):PCall Tryz.prog 138 [.ptr (fC p found),x.d,.sl 2 []] (.ret (Sp.d (found.getD x.index.toNat (0,0)))):=by
 refine ay Tryz.func138 ?_
 repeat' ((try conv=>whnf)<;>first
  |((refine eU ((0,0):Sp) ?_ ?_ h0 h1 ?_);rfl;rfl)
  |refine lY ?_
  |refine fD ?_
  |(refine cO ?_;conv=>whnf)
  |fail)
theorem z3g(p:Pr)(found:List Sp)(x:Ex)(a:Sp)(hc:(decide (a.1<0) || decide (a.2>4096))=false):PCall Tryz.prog 139 [.ptr (fC p found),x.d,.sl 2 [[.i a.1,.i a.2]]] (.ret (Sp.d (-2147483648,2147483647))):=by
 refine ay Tryz.func139 ?_
 repeat' ((try conv=>whnf)<;>first
  |refine BrI.intro (λh=>?_) (λh=>?_)
  |exact Bool.noConfusion (hc.symm.trans ((z1y _ _).symm.trans h))
  |refine yz ?_
  |refine lY ?_
  |((refine aY ?_ ?_ (λhg=>?_) ?_);rfl)
  |((refine bY ?_ ?_);rfl;rfl)
  |(refine cO ?_;conv=>whnf)
  |refine And.intro ?_ ?_
  |fail)
 all_goals decide
theorem Xy(p:Pr)(found:List Sp)(x:Ex)(a:Sp)(hc:(decide (a.1<0) || decide (a.2>4096))=true):PCall Tryz.prog 139 [.ptr (fC p found),x.d,.sl 2 [[.i a.1,.i a.2]]] (.pan (.iface 34 (.i 161))):=by
 refine ay Tryz.func139 ?_
 repeat' ((try conv=>whnf)<;>first
  |refine BrI.intro (λh=>?_) (λh=>?_)
  |exact Bool.noConfusion (hc.symm.trans ((z1y _ _).symm.trans h))
  |refine yz ?_
  |((refine aY ?_ ?_ (λhg=>?_) ?_);rfl)
  |((refine bY ?_ ?_);rfl;rfl)
  |((refine yT ?_);refine⟨[],rfl,?_,trivial⟩;conv=>whnf)
  |refine And.intro ?_ ?_
  |fail)
 all_goals decide
theorem op8(p:Pr)(found:List Sp)(x:Ex)(a:Sp)(h0:0<=x.index)(h1:x.index<p.lines.length):PCall Tryz.prog 140 [.ptr (fC p found),x.d,.sl 2 [[.i a.1,.i a.2]]] (.ret (Sp.d (mm2 false (bZ p x.index).lo 0,mm2 true (bZ p x.index).hi 0))):=by
 refine ay Tryz.func140 ?_
 repeat' ((try conv=>whnf)<;>first
  |((refine eU Rg.Ln.none ?_ ?_ h0 h1 ?_);rfl;rfl)
  |refine fD ?_
  |(refine cO ?_;conv=>whnf)
  |fail)
theorem op9(p:Pr)(found:List Sp)(x:Ex)(a:Sp)(h0:0<=x.index)(h1:x.index<p.tables.length)(hv:0<(aF p x.index).length)(hvl:(aF p x.index).length<=1073741824):PCall Tryz.prog 141 [.ptr (fC p found),x.d,.sl 2 [[.i a.1,.i a.2]]] (.ret (Sp.d (minL ((aF p x.index).getD 0 0) (aF p x.index),maxL ((aF p x.index).getD 0 0) (aF p x.index)))):=by
 refine dh Tryz.func141 λhf=>?_
 have hlen:(aF p x.index).length<=9223372036854775807:=by omega
 clear hf
 repeat' ((try conv=>whnf)<;>first
  |exact trivial
  |exact aj hd0 ‹_›
  |refine aZ hd0 ?_
  |refine aK hd0 ?_
  |((refine eU Rg.Tb.none ?_ ?_ h0 h1 ?_);rfl;rfl)
  |((refine eU (f:=fF) (n:=0) (0:Int) ?_ ?_ ?_ ?_ ?_);rfl;rfl;exact Int.le_refl _;exact Int.ofNat_lt.2 hv)
  |((refine ak.mk 0 ?_);refine⟨aB ((aF p x.index)) 30 (λ(q:(Int)×(Int))=>match q with |(lo,hi)=>[]) (λ(q:(Int)×(Int))=>match q with |(lo,hi)=>[(8,.cells [.data (.i lo),.data (.i hi)])]) [6,8,28,29] (λi0 r0 q=>match q with |(lo,hi)=>minL ((aF p x.index).getD 0 0) (aF p x.index)=minL lo r0/\maxL ((aF p x.index).getD 0 0) (aF p x.index)=maxL hi r0),?_⟩;refine ag (((aF p x.index).getD 0 0),((aF p x.index).getD 0 0)) ?_ ?_ (λi0 ⟨lo,hi⟩ hd0 hI0=>?_) (λi0 x0 r0 ⟨lo,hi⟩ hd0 hl0 hI0=>?_))
  |refine ah hd0 ((mm2 false lo x0),(mm2 true hi x0)) ?_ ?_
  |((refine au ?_ ?_ ?_ ?_ ?_);rfl;rfl;rotate_left;exact ax hd0)
  |refine fD ?_
  |(refine cO ?_;conv=>whnf)
  |refine And.intro ?_ ?_
  |exact @rfl AV _
  |fail)
 all_goals first
  |rfl
  |decide
  |exact hI0.1
  |exact hI0.2
  |(rw[hI0.1,hI0.2];rfl)
theorem zg3(p:Pr)(found:List Sp)(x:Ex)(a:Sp)  : PCall Tryz.prog 142 [.ptr (fC p found),x.d,.sl 2 [[.i a.1,.i a.2]]] (.ret (Sp.d (oO a.1,oO a.2))):=by
 refine ay Tryz.func142 ?_
 repeat' ((try conv=>whnf)<;>first
  |refine yz ?_
  |((refine ai ?_ ?_ ?_);rotate_left;exact Xx _)
  |refine fD ?_
  |(refine cO ?_;conv=>whnf)
  |refine And.intro ?_ ?_
  |fail)
 all_goals decide
theorem zg4(p:Pr)(found:List Sp)(x:Ex)(a b:Sp)  : PCall Tryz.prog 144 [.ptr (fC p found),x.d,.sl 2 [[.i a.1,.i a.2],[.i b.1,.i b.2]]] (.ret (Sp.d (mm2 false a.1 b.1,mm2 false a.2 b.2))):=by
 refine ay Tryz.func144 ?_
 repeat' ((try conv=>whnf)<;>first
  |refine yz ?_
  |refine fD ?_
  |(refine cO ?_;conv=>whnf)
  |refine And.intro ?_ ?_
  |fail)
 all_goals decide
theorem zg5(p:Pr)(found:List Sp)(x:Ex)(a b:Sp)  : PCall Tryz.prog 145 [.ptr (fC p found),x.d,.sl 2 [[.i a.1,.i a.2],[.i b.1,.i b.2]]] (.ret (Sp.d (mm2 true a.1 b.1,mm2 true a.2 b.2))):=by
 refine ay Tryz.func145 ?_
 repeat' ((try conv=>whnf)<;>first
  |refine yz ?_
  |refine fD ?_
  |(refine cO ?_;conv=>whnf)
  |refine And.intro ?_ ?_
  |fail)
 all_goals decide
theorem zg6(p:Pr)(found:List Sp)(x:Ex)(a:Sp)(ha:inW a.1=true)(hb:inW a.2=true):PCall Tryz.prog 146 [.ptr (fC p found),x.d,.sl 2 [[.i a.1,.i a.2]]] (.ret (Sp.d (SY a))):=by
 refine ay Tryz.func146 ?_
 repeat' ((try conv=>whnf)<;>first
  |refine BrI.intro (λh=>?_) (λh=>?_)
  |refine yz ?_
  |refine lY ?_
  |refine fD ?_
  |(refine cO ?_;conv=>whnf)
  |refine And.intro ?_ ?_
  |fail)
 all_goals first
  |decide
  |(refine congrArg Sp.d ?_;unfold SY;rw[if_pos (of_decide_eq_true h)];done)
  |(unfold SY;rw[if_neg (of_decide_eq_false ‹decide (a.1>=0)=false›),if_pos (of_decide_eq_true h),gu ha,gu hb];done)
  |(unfold SY;rw[if_neg (of_decide_eq_false ‹decide (a.1>=0)=false›),if_neg (of_decide_eq_false h),gu ha];done)
theorem zg7(p:Pr)(found:List Sp)(x:Ex)(a:Sp)(ha:inW a.1=true)(hb:inW a.2=true):PCall Tryz.prog 147 [.ptr (fC p found),x.d,.sl 2 [[.i a.1,.i a.2]]] (.ret (Sp.d (-a.2,-a.1))):=by
 refine ay Tryz.func147 ?_
 repeat' ((try conv=>whnf)<;>first
  |refine yz ?_
  |refine fD ?_
  |(refine cO ?_;conv=>whnf)
  |refine And.intro ?_ ?_
  |fail)
 all_goals first
  |decide
  |(rw[gu ha,gu hb];done)
theorem zg8(p:Pr)(found:List Sp)(x:Ex)(a b:Sp)(ha:inW a.1=true/\inW a.2=true)(hb:inW b.1=true/\inW b.2=true):PCall Tryz.prog 148 [.ptr (fC p found),x.d,.sl 2 [[.i a.1,.i a.2],[.i b.1,.i b.2]]] (Va 34 (two (a.1+b.1) (a.2+b.2))):=by
 refine ay Tryz.func148 ?_
 repeat' ((try conv=>whnf)<;>first
  |((refine iE _ _ _ [false,false,false,false,false,false,false,false,true,true,true] ?_ ?_ ?_);rfl;kernel_rfl)
  |((refine iE _ _ _ [true,true] ?_ ?_ ?_);rfl;kernel_rfl)
  |((refine quiet_step ?_ ?_);kernel_rfl)
  |refine kG (vV a.1 b.1 _ rfl ha.1 hb.1) (λn1 q1=>?_) (λe1 q1=>?_)
  |refine kG (vV a.2 b.2 _ rfl ha.2 hb.2) (λn2 q2=>?_) (λe2 q2=>?_)
  |((refine FN (n1,n2) (z14 q1 q2) ?_);refine⟨[],rfl,?_,trivial⟩;conv=>whnf)
  |((refine nH e1 (z15 q1) ?_);refine⟨[],rfl,?_,trivial⟩;conv=>whnf)
  |((refine nH e2 (z16 q2) ?_);refine⟨[],rfl,?_,trivial⟩;conv=>whnf)
  |refine yz ?_
  |refine fD ?_
  |((refine lL ?_ ?_);kernel_rfl)
  |refine And.intro ?_ ?_
  |fail)
 all_goals decide
theorem zg9(p:Pr)(found:List Sp)(x:Ex)(a b:Sp)(ha:inW a.1=true/\inW a.2=true)(hb:inW b.1=true/\inW b.2=true):PCall Tryz.prog 150 [.ptr (fC p found),x.d,.sl 2 [[.i a.1,.i a.2],[.i b.1,.i b.2]]] (Va 34 (two (a.1 + -b.2) (a.2 + -b.1))):=by
 refine ay Tryz.func150 ?_
 repeat' ((try conv=>whnf)<;>first
  |((refine iE _ _ _ [false,false,false,false,false,false,false,false,false,true,true,true] ?_ ?_ ?_);rfl;kernel_rfl)
  |((refine iE _ _ _ [true,true] ?_ ?_ ?_);rfl;kernel_rfl)
  |((refine quiet_step ?_ ?_);kernel_rfl)
  |refine kG (vV a.1 (-b.2) _ (gu hb.2) ha.1 (AZ hb.2)) (λn1 q1=>?_) (λe1 q1=>?_)
  |refine kG (vV a.2 (-b.1) _ (gu hb.1) ha.2 (AZ hb.1)) (λn2 q2=>?_) (λe2 q2=>?_)
  |((refine FN (n1,n2) (z14 q1 q2) ?_);refine⟨[],rfl,?_,trivial⟩;conv=>whnf)
  |((refine nH e1 (z15 q1) ?_);refine⟨[],rfl,?_,trivial⟩;conv=>whnf)
  |((refine nH e2 (z16 q2) ?_);refine⟨[],rfl,?_,trivial⟩;conv=>whnf)
  |refine yz ?_
  |refine fD ?_
  |((refine lL ?_ ?_);kernel_rfl)
  |refine And.intro ?_ ?_
  |fail)
 all_goals decide
theorem zha(p:Pr)(found:List Sp)(x:Ex)(a b:Sp)(ha:inW a.1=true/\inW a.2=true)(hb:inW b.1=true/\inW b.2=true):PCall Tryz.prog 151 [.ptr (fC p found),x.d,.sl 2 [[.i a.1,.i a.2],[.i b.1,.i b.2]]] (Va 34 (prodM a b)):=by
 refine ay Tryz.func151 ?_
 repeat' ((try conv=>whnf)<;>first
  |((refine iE _ _ _ [false,false,false,false,false,false,false,false,true,false,false,false,false,false,false,false,false,true,false,false,false,false,false,false,false,false,true,true,true,true,true] ?_ ?_ ?_);rfl;kernel_rfl)
  |((refine iE _ _ _ [false,false,false,false,false,false,false,false,true,false,false,false,false,false,false,false,false,true,true,true,true,true] ?_ ?_ ?_);rfl;kernel_rfl)
  |((refine iE _ _ _ [false,false,false,false,false,false,false,false,true,true,true,true,true] ?_ ?_ ?_);rfl;kernel_rfl)
  |((refine iE _ _ _ [true,true,true,true] ?_ ?_ ?_);rfl;kernel_rfl)
  |((refine quiet_step ?_ ?_);kernel_rfl)
  |refine kG (vW a.1 b.1 ha.1 hb.1) (λn1 q1=>?_) (λe1 q1=>?_)
  |refine kG (vW a.1 b.2 ha.1 hb.2) (λn2 q2=>?_) (λe2 q2=>?_)
  |refine kG (vW a.2 b.1 ha.2 hb.1) (λn3 q3=>?_) (λe3 q3=>?_)
  |refine kG (vW a.2 b.2 ha.2 hb.2) (λn4 q4=>?_) (λe4 q4=>?_)
  |((refine FN (Kz n1 n2 n3 n4,KA n1 n2 n3 n4) (z5w q1 q2 q3 q4) ?_);refine⟨[],rfl,?_,trivial⟩;conv=>whnf)
  |((refine nH e1 (yV (.inl q1)) ?_);refine⟨[],rfl,?_,trivial⟩;conv=>whnf)
  |((refine nH e2 (yV (.inr (.inl q2))) ?_);refine⟨[],rfl,?_,trivial⟩;conv=>whnf)
  |((refine nH e3 (yV (.inr (.inr (.inl q3)))) ?_);refine⟨[],rfl,?_,trivial⟩;conv=>whnf)
  |((refine nH e4 (yV (.inr (.inr (.inr q4)))) ?_);refine⟨[],rfl,?_,trivial⟩;conv=>whnf)
  |refine yz ?_
  |refine fD ?_
  |((refine lL ?_ ?_);kernel_rfl)
  |refine And.intro ?_ ?_
  |fail)
 all_goals first
  |rfl
  |decide
theorem zhb(p:Pr)(found:List Sp)(x:Ex)(a:Sp)(ha:inW a.1=true)(hb:inW a.2=true)(hn:1<=x.n)(hn2:x.n<=2147483648):PCall Tryz.prog 153 [.ptr (fC p found),x.d,.sl 2 [[.i a.1,.i a.2]]] (.ret (Sp.d (iG a.1 x.n,iG a.2 x.n))):=by
 refine ay Tryz.func153 ?_
 repeat' ((try conv=>whnf)<;>first
  |refine yz ?_
  |((refine ai ?_ ?_ ?_);rotate_left;(first |exact JY _ _ (by assumption) (by assumption) (by assumption) |exact JY a.1 x.n ha hn hn2))
  |refine fD ?_
  |(refine cO ?_;conv=>whnf)
  |refine And.intro ?_ ?_
  |fail)
 all_goals decide
theorem zhc(p:Pr)(found:List Sp)(x:Ex)(a b c d:Sp)  : PCall Tryz.prog 155 [.ptr (fC p found),x.d,.sl 2 [[.i a.1,.i a.2],[.i b.1,.i b.2],[.i c.1,.i c.2],[.i d.1,.i d.2]]] (.ret (Sp.d (mm2 false c.1 d.1,mm2 true c.2 d.2))):=by
 refine ay Tryz.func155 ?_
 repeat' ((try conv=>whnf)<;>first
  |refine yz ?_
  |refine fD ?_
  |(refine cO ?_;conv=>whnf)
  |refine And.intro ?_ ?_
  |fail)
 all_goals decide
abbrev zf2:List D:=[.val .nilFunc,.fn 135 [],.val .nilFunc,.fn 136 [],.fn 137 [],.fn 138 [],.fn 139 [],.fn 139 [],.fn 140 [],.fn 141 [],.fn 142 [],.fn 144 [],.fn 145 [],.fn 146 [],.fn 147 [],.fn 148 [],.fn 150 [],.fn 151 [],.fn 153 [],.fn 155 []]
def opF(k:Int):Nat:=match zf2.getD k.toNat (.val .nilFunc)with | .fn f _=>f |_=>0
theorem BH   : PCall Tryz.prog 124 [] (.ret (.agg zf2)):=by
 refine ay Tryz.func124 ?_
 repeat' ((try conv=>whnf)<;>first
  |(refine cO ?_;conv=>whnf)
  |fail)
theorem Xz{p:Pr}{n:Nat}{k i m:Int}(hw:oP p n k i m=true){q:D->Prop}(h:q (.fn (opF k) [])):∃c,(0<=k/\zf2[k.toNat]? = some c)/\q c:=by
 rcases kinds hw with rfl |rfl |rfl |rfl |rfl |rfl |rfl |rfl |rfl |rfl |rfl |rfl |rfl |rfl |rfl |rfl |rfl |rfl<;>exact⟨_,⟨by decide,rfl⟩,h⟩
theorem zf3{p:Pr}{n:Nat}{k i m:Int}(hw:oP p n k i m=true):Nat.beq (opF k) xK=false:=by
 rcases kinds hw with rfl |rfl |rfl |rfl |rfl |rfl |rfl |rfl |rfl |rfl |rfl |rfl |rfl |rfl |rfl |rfl |rfl |rfl<;>rfl
theorem P6{b:Bool}{p q:Prop}:b=false->p->(match b with |true=>q |false=>p):=by intro h h2;subst h;exact h2
theorem z9f(p:Pr)(found:List Sp)(x:Ex)(sl:List Sp)(hR:Rng p)(hT:∀t∈p.tables,t.values.length<=1073741824)(hw:wfX p found.length x=true)(hl:sl.length=x.l.length)(hs:InS sl) :
  PCall Tryz.prog (opF x.kind) [.ptr (fC p found),x.d,.sl 2 (sl.map Sp.cs)] (Va 34 (opM p found x.kind x.index x.n sl)):=by
 obtain⟨h1,h2,_⟩:=aV hw
 rw[<-hl]at h1
 generalize hk:x.kind=k at h1 h2
 have nil:(sl.length:Int)=0->sl = []:=λh=>List.length_eq_zero_iff.1 (by omega)
 rcases kinds h2 with rfl |rfl |rfl |rfl |rfl |rfl |rfl |rfl |rfl |rfl |rfl |rfl |rfl |rfl |rfl |rfl |rfl |rfl
 ·obtain rfl:=nil h1
  exact op1 p found x
 ·obtain rfl:=nil h1
  have h2:(decide (0<=x.index)&&decide (x.index<p.params.length))=true:=h2
  simp only[Bool.and_eq_true,decide_eq_true_eq]at h2
  exact op3 p found x h2.1 h2.2
 ·obtain rfl:=nil h1
  have h2:(decide (0<=x.index)&&decide (x.index<p.states.length))=true:=h2
  simp only[Bool.and_eq_true,decide_eq_true_eq]at h2
  exact op4 p found x h2.1 h2.2
 ·obtain rfl:=nil h1
  have h2:(decide (0<=x.index)&&decide (x.index<found.length))=true:=h2
  simp only[Bool.and_eq_true,decide_eq_true_eq]at h2
  exact op5 p found x h2.1 h2.2
 ·obtain⟨a,rfl⟩:=Ba (sl:=sl) (by have h1:(sl.length:Int)=1:=h1;omega)
  show PCall Tryz.prog _ _ (Va _ (aheadM a))
  unfold aheadM
  cases hc:(decide (a.1<0) || decide (a.2>4096))with
  |true=>exact Xy p found x a hc
  |false=>exact z3g p found x a hc
 ·obtain⟨a,rfl⟩:=Ba (sl:=sl) (by have h1:(sl.length:Int)=1:=h1;omega)
  show PCall Tryz.prog _ _ (Va _ (aheadM a))
  unfold aheadM
  cases hc:(decide (a.1<0) || decide (a.2>4096))with
  |true=>exact Xy p found x a hc
  |false=>exact z3g p found x a hc
 ·have h1:(sl.length:Int)=1:=h1
  have h2:(decide (0<=x.index)&&decide (x.index<p.lines.length))=true:=h2
  simp only[Bool.and_eq_true,decide_eq_true_eq]at h2
  obtain⟨a,rfl⟩:=Ba (sl:=sl) (by omega)
  exact op8 p found x a h2.1 h2.2
 ·have h1:(sl.length:Int)=1:=h1
  have h2:(decide (0<=x.index)&&decide (x.index<p.tables.length) && !(aF p x.index==[]))=true:=h2
  simp only[Bool.and_eq_true,decide_eq_true_eq]at h2
  obtain⟨a,rfl⟩:=Ba (sl:=sl) (by omega)
  have h3:aF p x.index ≠ []:=by simpa using h2.2
  exact op9 p found x a h2.1.1 h2.1.2 (List.length_pos_iff.2 h3) (hT _ (getD_mem' Rg.Tb.none h2.1.1 h2.1.2))
 ·obtain⟨a,rfl⟩:=Ba (sl:=sl) (by have h1:(sl.length:Int)=1:=h1;omega)
  exact zg3 p found x a
 ·obtain⟨a,b,rfl⟩:=Vd (sl:=sl) (by have h1:(sl.length:Int)=2:=h1;omega)
  exact zg4 p found x a b
 ·obtain⟨a,b,rfl⟩:=Vd (sl:=sl) (by have h1:(sl.length:Int)=2:=h1;omega)
  exact zg5 p found x a b
 ·obtain⟨a,rfl⟩:=Ba (sl:=sl) (by have h1:(sl.length:Int)=1:=h1;omega)
  exact zg6 p found x a (hs a (by simp)).1 (hs a (by simp)).2
 ·obtain⟨a,rfl⟩:=Ba (sl:=sl) (by have h1:(sl.length:Int)=1:=h1;omega)
  exact zg7 p found x a (hs a (by simp)).1 (hs a (by simp)).2
 ·obtain⟨a,b,rfl⟩:=Vd (sl:=sl) (by have h1:(sl.length:Int)=2:=h1;omega)
  exact zg8 p found x a b (hs a (by simp)) (hs b (by simp))
 ·obtain⟨a,b,rfl⟩:=Vd (sl:=sl) (by have h1:(sl.length:Int)=2:=h1;omega)
  exact zg9 p found x a b (hs a (by simp)) (hs b (by simp))
 ·obtain⟨a,b,rfl⟩:=Vd (sl:=sl) (by have h1:(sl.length:Int)=2:=h1;omega)
  exact zha p found x a b (hs a (by simp)) (hs b (by simp))
 ·obtain⟨a,rfl⟩:=Ba (sl:=sl) (by have h1:(sl.length:Int)=1:=h1;omega)
  have h2:(decide (1<=x.n)&&decide (x.n<=2147483648))=true:=h2
  simp only[Bool.and_eq_true,decide_eq_true_eq]at h2
  exact zhb p found x a (hs a (by simp)).1 (hs a (by simp)).2 h2.1 h2.2
 ·obtain⟨a,b,c,d,rfl⟩:=ze0 (sl:=sl) (by have h1:(sl.length:Int)=4:=h1;omega)
  exact zhc p found x a b c d
theorem xC(x:Ex)(p:Pr)(found:List Sp)(hR:Rng p)(hF:InS found)(hT:∀t∈p.tables,t.values.length<=1073741824)(hx:Ref15.nodes x<=1073741824)(hw:wfX p found.length x=true):PCall Tryz.prog 105 [.ptr (fC p found),x.d] (Va 34 (dE p found x)):=by
 revert x;refine Ex.ind λx ih hx hw=>?_
 refine dh Tryz.func105 λhf=>?_
 have hN:=Ref15.nodes_eq x
 have hL:=Ref15.len_nodes x.l
 have hlen:x.l.length<=9223372036854775807:=by omega
 obtain⟨g1,g2,g3⟩:=aV hw
 clear hf
 repeat' ((try conv=>whnf)<;>first
  |((refine iE _ _ _ [true] ?_ ?_ ?_);rfl;kernel_rfl)
  |((refine quiet_step ?_ ?_);kernel_rfl)
  |refine OW (ih x0 (aX hd0) (by have:=lN (aX hd0);omega) (eQ g3 _ (aX hd0))) (λs1 q1=>?_) (λe1 q1=>?_)
  |refine OW (z9f p found x sl hR hT hw (IR (yX hI0.1).2) (YT hR hF g3 (yX hI0.1).2)) (λs2 q2=>?_) (λe2 q2=>?_)
  |((refine FN s2 ((yX hI0.1).1.trans q2) ?_);refine⟨[],rfl,?_,trivial⟩;conv=>whnf)
  |((refine nH e2 ((yX hI0.1).1.trans q2) ?_);refine⟨[],rfl,?_,trivial⟩;conv=>whnf)
  |((refine nH e1 (YU hI0.1 q1) ?_);refine⟨[],rfl,?_,trivial⟩;conv=>whnf)
  |refine Xz g2 ?_
  |refine P6 (zf3 g2) ?_
  |exact trivial
  |exact aj hd0 ‹_›
  |refine jA hd0 ?_
  |refine fK hd0 ?_
  |((refine ak.mk 0 ?_);refine⟨aB (x.l) 11 (λ(sl:(List Sp))=>[(5,.gs 900005 2 (sl.map Sp.cs))]) (λ(sl:(List Sp))=>[(900005,.tok 2 (sl.map Sp.cs).length)]) [0,3,4,9,10] (λi0 r0 sl=>pre sl (dm p found r0)=dm p found x.l/\sl.length=i0),?_⟩;refine ag [] ?_ ?_ (λi0 (sl:(List Sp)) hd0 hI0=>?_) (λi0 x0 r0 (sl:(List Sp)) hd0 hl0 hI0=>?_))
  |refine ah hd0 (sl++[s1]) ?_ ?_
  |((refine ai ?_ ?_ ?_);rotate_left;exact BH)
  |refine aW.l _ ?_
  |((refine dS ?_ ?_ ?_ ?_ ?_ ?_)<;>exact rfl)
  |((refine dL ?_ ?_ ?_ ?_)<;>exact rfl)
  |((refine au ?_ ?_ ?_ ?_ ?_);rfl;rfl;rotate_left;exact dR hd0)
  |refine lY ?_
  |refine FB ?_ ?_ ?_
  |refine fD ?_
  |((refine lL ?_ ?_);kernel_rfl)
  |refine And.intro ?_ ?_
  |((refine qo ?_ ?_ ?_);rfl;rfl;(first |exact dU |skip))
  |((refine iK ?_ ?_);rfl;(first |exact dU |skip))
  |exact @rfl AV _
  |exact fA rfl
  |fail)
 all_goals first
  |rfl
  |exact pre_nil _
  |exact Vb hI0.1 q1
  |(rw[List.length_append,hI0.2];rfl)
  |(rw[List.length_map];omega)
theorem GL(p:Pr)(FF:List Sp)(R:Except Int (List Sp))(hR:Rng p)(hT:∀t∈p.tables,t.values.length<=1073741824)(hn:∀s∈p.stmts,Ref15.nodes s.x<=1073741824)(hl:p.stmts.length<=1073741824)(hw:vg p 0 p.stmts=true)(hS:bU p p.stmts []=R)(hF:iH p p.stmts []=FF)(hRR:R = .ok FF):LCall Tryz.prog 122 [.ptr 1000000 0] [(1000000,.cells [.data (.str p.name),.data (.i p.latency),.data (.i p.tail),.data (.sl 3 (p.params.map Bd.cs)),.data (.sl 3 (p.states.map Bd.cs)),.data (.sl 4 (p.lines.map Ln.cs)),.data (.sl 2 (p.tables.map Tb.cs)),.data (.sl 8 (p.stmts.map Sm.cs)),.nilsl 2])] (.ret (.data (.tuple []))) [(1000000,.cells [.data (.str p.name),.data (.i p.latency),.data (.i p.tail),.data (.sl 3 (p.params.map Bd.cs)),.data (.sl 3 (p.states.map Bd.cs)),.data (.sl 4 (p.lines.map Ln.cs)),.data (.sl 2 (p.tables.map Tb.cs)),.data (.sl 8 (p.stmts.map Sm.cs)),.gs 1000001 2 (FF.map Sp.cs)]),(1000001,.tok 2 (FF.map Sp.cs).length)]:=by
 refine jK Tryz.func122 λhf=>?_
 have hlen:p.stmts.length<=9223372036854775807:=by omega
 clear hf
 repeat' ((try conv=>whnf)<;>first
  |exact(IX (hRR.symm.trans (FV hI0 q1).1)).elim
  |exact(IX (hRR.symm.trans (iU hI0 q1 (kP (B:=((bM p x0.index).lo,(bM p x0.index).hi)) (zbt ‹_›) h)).1)).elim
  |exact(IX (hRR.symm.trans (iU hI0 q1 (kP (B:=((bZ p x0.index).lo,(bZ p x0.index).hi)) (zbu ‹_› ‹_›) h)).1)).elim
  |exact(IX (hRR.symm.trans (iU hI0 q1 (kP (B:=(-2147483648,2147483647)) (zbv ‹_› ‹_› ‹_›) h)).1)).elim
  |exact(IX (hRR.symm.trans (iU hI0 q1 (kP (B:=(-4611686018427387904,4611686018427387904)) (zbw ‹_› ‹_› ‹_›) h)).1)).elim
  |((have hq:=(Vg hI0).2);subst hq)
  |refine IV (xC x0.x p fs hR hI0.ins hT (hn _ (aX hd0)) (FU hI0)) (λs1 q1=>?_) (λe1 q1=>?_)
  |exact trivial
  |exact aj hd0 ‹_›
  |refine aZ hd0 ?_
  |refine aK hd0 ?_
  |refine BrI.intro (λh=>?_) (λh=>?_)
  |((refine uX ?_ ?_);rfl)
  |((refine qO ?_ ?_ ?_);rfl;rfl)
  |((refine eU Rg.Bd.none ?_ ?_ (OX hI0.wf h).1 (OX hI0.wf h).2 ?_);rfl;rfl)
  |((refine eU Rg.Ln.none ?_ ?_ (OY hI0.wf h).1 (OY hI0.wf h).2 ?_);rfl;rfl)
  |((refine ak.mk 0 ?_);refine⟨aB (p.stmts) 13 (λ(fs:(List Sp))=>[]) (λ(fs:(List Sp))=>[(1000000,.cells [.data (.str p.name),.data (.i p.latency),.data (.i p.tail),.data (.sl 3 (p.params.map Bd.cs)),.data (.sl 3 (p.states.map Bd.cs)),.data (.sl 4 (p.lines.map Ln.cs)),.data (.sl 2 (p.tables.map Tb.cs)),.data (.sl 8 (p.stmts.map Sm.cs)),.gs 900007 2 (fs.map Sp.cs)]),(900007,.tok 2 (fs.map Sp.cs).length)]) [0,11,12] (λi0 r0 fs=>StI p R FF i0 r0 fs),?_⟩;refine ag ([]) ?_ ?_ (λi0 (fs:(List Sp)) hd0 hI0=>?_) (λi0 x0 r0 (fs:(List Sp)) hd0 hl0 hI0=>?_))
  |refine ah hd0 (fs++[s1]) ?_ ?_
  |((refine aP ?_);refine fin_step' [(1000000,1000000),(1000001,900007)] rfl ?_ ?_)
  |refine aW.l _ ?_
  |((refine dS ?_ ?_ ?_ ?_ ?_ ?_)<;>exact rfl)
  |((refine dL ?_ ?_ ?_ ?_)<;>exact rfl)
  |((refine au ?_ ?_ ?_ ?_ ?_);rfl;rfl;rotate_left;exact ax hd0)
  |refine lY ?_
  |refine FB ?_ ?_ ?_
  |refine fD ?_
  |refine And.intro ?_ ?_
  |((refine qo ?_ ?_ ?_);rfl;rfl;(first |exact dU |skip))
  |((refine iK ?_ ?_);rfl;(first |exact dU |skip))
  |((refine bz ?_);refine fB ?_ ?_ ?_;rfl;rfl;(first |exact rfl |skip))
  |exact @rfl AV _
  |exact fA rfl
  |fail)
 all_goals first
  |decide
  |exact IW hS hF hw
  |exact mO hR hI0 q1 (mM (B:=((bM p x0.index).lo,(bM p x0.index).hi)) (zbt ‹_›) h)
  |exact mO hR hI0 q1 (mM (B:=((bZ p x0.index).lo,(bZ p x0.index).hi)) (zbu ‹_› ‹_›) h)
  |exact mO hR hI0 q1 (mM (B:=(-2147483648,2147483647)) (zbv ‹_› ‹_› ‹_›) h)
  |exact mO hR hI0 q1 (mM (B:=(-4611686018427387904,4611686018427387904)) (zbw ‹_› ‹_› ‹_›) h)
  |(rw[List.length_map,hI0.len];have:=lK hd0;omega)
theorem CP(p:Pr)(FF:List Sp)(R:Except Int (List Sp))(e:Int)(hR:Rng p)(hT:∀t∈p.tables,t.values.length<=1073741824)(hn:∀s∈p.stmts,Ref15.nodes s.x<=1073741824)(hl:p.stmts.length<=1073741824)(hw:vg p 0 p.stmts=true)(hS:bU p p.stmts []=R)(hF:iH p p.stmts []=FF)(hRR:R = .error e):LCall Tryz.prog 122 [.ptr 1000000 0] [(1000000,.cells [.data (.str p.name),.data (.i p.latency),.data (.i p.tail),.data (.sl 3 (p.params.map Bd.cs)),.data (.sl 3 (p.states.map Bd.cs)),.data (.sl 4 (p.lines.map Ln.cs)),.data (.sl 2 (p.tables.map Tb.cs)),.data (.sl 8 (p.stmts.map Sm.cs)),.nilsl 2])] (.pan (.data (.iface 34 (.i e)))) [(1000000,.cells [.data (.str p.name),.data (.i p.latency),.data (.i p.tail),.data (.sl 3 (p.params.map Bd.cs)),.data (.sl 3 (p.states.map Bd.cs)),.data (.sl 4 (p.lines.map Ln.cs)),.data (.sl 2 (p.tables.map Tb.cs)),.data (.sl 8 (p.stmts.map Sm.cs)),.gs 1000001 2 (FF.map Sp.cs)]),(1000001,.tok 2 (FF.map Sp.cs).length)]:=by
 refine jK Tryz.func122 λhf=>?_
 have hlen:p.stmts.length<=9223372036854775807:=by omega
 clear hf
 repeat' ((try conv=>whnf)<;>first
  |((have hq:=Vh (hRR.symm.trans (FV hI0 q1).1));(have hq2:=(FV hI0 q1).2);subst hq;subst hq2)
  |((have hq:=Vh (hRR.symm.trans (iU hI0 q1 (kP (B:=((bM p x0.index).lo,(bM p x0.index).hi)) (zbt ‹_›) h)).1));(have hq2:=(iU hI0 q1 (kP (B:=((bM p x0.index).lo,(bM p x0.index).hi)) (zbt ‹_›) h)).2);subst hq;subst hq2)
  |((have hq:=Vh (hRR.symm.trans (iU hI0 q1 (kP (B:=((bZ p x0.index).lo,(bZ p x0.index).hi)) (zbu ‹_› ‹_›) h)).1));(have hq2:=(iU hI0 q1 (kP (B:=((bZ p x0.index).lo,(bZ p x0.index).hi)) (zbu ‹_› ‹_›) h)).2);subst hq;subst hq2)
  |((have hq:=Vh (hRR.symm.trans (iU hI0 q1 (kP (B:=(-2147483648,2147483647)) (zbv ‹_› ‹_› ‹_›) h)).1));(have hq2:=(iU hI0 q1 (kP (B:=(-2147483648,2147483647)) (zbv ‹_› ‹_› ‹_›) h)).2);subst hq;subst hq2)
  |((have hq:=Vh (hRR.symm.trans (iU hI0 q1 (kP (B:=(-4611686018427387904,4611686018427387904)) (zbw ‹_› ‹_› ‹_›) h)).1));(have hq2:=(iU hI0 q1 (kP (B:=(-4611686018427387904,4611686018427387904)) (zbw ‹_› ‹_› ‹_›) h)).2);subst hq;subst hq2)
  |exact(IX ((Vg hI0).1.symm.trans hRR)).elim
  |refine IV (xC x0.x p fs hR hI0.ins hT (hn _ (aX hd0)) (FU hI0)) (λs1 q1=>?_) (λe1 q1=>?_)
  |exact trivial
  |exact aj hd0 ‹_›
  |refine aK hd0 ?_
  |refine BrI.intro (λh=>?_) (λh=>?_)
  |((refine uX ?_ ?_);rfl)
  |((refine qO ?_ ?_ ?_);rfl;rfl)
  |((refine eU Rg.Bd.none ?_ ?_ (OX hI0.wf h).1 (OX hI0.wf h).2 ?_);rfl;rfl)
  |((refine eU Rg.Ln.none ?_ ?_ (OY hI0.wf h).1 (OY hI0.wf h).2 ?_);rfl;rfl)
  |((refine ak.mk 0 ?_);refine⟨aB (p.stmts) 13 (λ(fs:(List Sp))=>[]) (λ(fs:(List Sp))=>[(1000000,.cells [.data (.str p.name),.data (.i p.latency),.data (.i p.tail),.data (.sl 3 (p.params.map Bd.cs)),.data (.sl 3 (p.states.map Bd.cs)),.data (.sl 4 (p.lines.map Ln.cs)),.data (.sl 2 (p.tables.map Tb.cs)),.data (.sl 8 (p.stmts.map Sm.cs)),.gs 900007 2 (fs.map Sp.cs)]),(900007,.tok 2 (fs.map Sp.cs).length)]) [0,11,12] (λi0 r0 fs=>StI p R FF i0 r0 fs),?_⟩;refine ag ([]) ?_ ?_ (λi0 (fs:(List Sp)) hd0 hI0=>?_) (λi0 x0 r0 (fs:(List Sp)) hd0 hl0 hI0=>?_))
  |refine ah hd0 (fs++[s1]) ?_ ?_
  |((refine jB ?_);refine fin_step' [(1000000,1000000),(1000001,900007)] rfl ?_ ?_)
  |refine aW.l _ ?_
  |((refine dS ?_ ?_ ?_ ?_ ?_ ?_)<;>exact rfl)
  |((refine dL ?_ ?_ ?_ ?_)<;>exact rfl)
  |((refine au ?_ ?_ ?_ ?_ ?_);rfl;rfl;rotate_left;exact ax hd0)
  |refine lY ?_
  |refine FB ?_ ?_ ?_
  |refine fD ?_
  |refine And.intro ?_ ?_
  |((refine qo ?_ ?_ ?_);rfl;rfl;(first |exact dU |skip))
  |((refine iK ?_ ?_);rfl;(first |exact dU |skip))
  |((refine bz ?_);refine fB ?_ ?_ ?_;rfl;rfl;(first |exact rfl |skip))
  |exact @rfl AV _
  |exact fA rfl
  |fail)
 all_goals first
  |decide
  |exact IW hS hF hw
  |exact mO hR hI0 q1 (mM (B:=((bM p x0.index).lo,(bM p x0.index).hi)) (zbt ‹_›) h)
  |exact mO hR hI0 q1 (mM (B:=((bZ p x0.index).lo,(bZ p x0.index).hi)) (zbu ‹_› ‹_›) h)
  |exact mO hR hI0 q1 (mM (B:=(-2147483648,2147483647)) (zbv ‹_› ‹_› ‹_›) h)
  |exact mO hR hI0 q1 (mM (B:=(-4611686018427387904,4611686018427387904)) (zbw ‹_› ‹_› ‹_›) h)
  |(rw[List.length_map,hI0.len];have:=lK hd0;omega)
theorem JZ(c:AV)(v:Int):Il Tryz.prog 123 [.ptr 1000000 0] (some (.iface 34 (.i v))) [(1000000,.cells [.ptr 1000001 0]),(1000001,.cells [c])]
  [(1000000,.cells [.ptr 1000001 0]),(1000001,.cells [.data (.i v)])]:=by
 refine ja tok hmix Tryz.func123 rfl (by kernel_rfl) (by kernel_rfl) (by kernel_rfl) ?_
 repeat' ((try conv=>whnf)<;>first
  |exact trivial
  |refine⟨([]:List (Nat×Nat)),?_⟩
  |refine⟨by kernel_rfl,?_⟩
  |refine⟨rfl,?_⟩
  |refine⟨?_,?_⟩
  |fail)
theorem P7(d:D):Il Tryz.prog 123 [.ptr 1000000 0] none [(1000000,.cells [.ptr 1000001 0]),(1000001,.cells [.data d])]
  [(1000000,.cells [.ptr 1000001 0]),(1000001,.cells [.data d])]:=by
 refine ja tok hmix Tryz.func123 rfl (by kernel_rfl) (by kernel_rfl) (by kernel_rfl) ?_
 repeat' ((try conv=>whnf)<;>first
  |exact trivial
  |refine⟨([]:List (Nat×Nat)),?_⟩
  |refine⟨by kernel_rfl,?_⟩
  |refine⟨rfl,?_⟩
  |refine⟨?_,?_⟩
  |fail)
theorem z9g(p:Pr)(FF:List Sp)(hR:Rng p)(hT:∀t∈p.tables,t.values.length<=1073741824)(hn:∀s∈p.stmts,Ref15.nodes s.x<=1073741824)(hl:p.stmts.length<=1073741824)(hw:vg p 0 p.stmts=true)(hS:bU p p.stmts [] = .ok FF)(hF:iH p p.stmts []=FF):LCall Tryz.prog 103 [.ptr 1000000 0,.bnd 122 [.ptr 1000001 0]] [(1000000,.cells [.data (.i 0)]),(1000001,.cells [.data (.str p.name),.data (.i p.latency),.data (.i p.tail),.data (.sl 3 (p.params.map Bd.cs)),.data (.sl 3 (p.states.map Bd.cs)),.data (.sl 4 (p.lines.map Ln.cs)),.data (.sl 2 (p.tables.map Tb.cs)),.data (.sl 8 (p.stmts.map Sm.cs)),.nilsl 2])] (.ret (.data (.tuple []))) [(1000000,.cells [.data (.i 0)]),(1000001,.cells [.data (.str p.name),.data (.i p.latency),.data (.i p.tail),.data (.sl 3 (p.params.map Bd.cs)),.data (.sl 3 (p.states.map Bd.cs)),.data (.sl 4 (p.lines.map Ln.cs)),.data (.sl 2 (p.tables.map Tb.cs)),.data (.sl 8 (p.stmts.map Sm.cs)),.gs 1000002 2 (FF.map Sp.cs)]),(1000002,.tok 2 (FF.map Sp.cs).length)]:=by
 refine dC Tryz.func103 ?_
 repeat' ((try conv=>whnf)<;>first
  |exact trivial
  |((refine⟨_,_,_,[(1000000,2),(1000001,1000000)],P7 (.i 0),rfl,⟨rfl,rfl,trivial⟩,?_,?_⟩);kernel_rfl)
  |refine⟨([(1000000,1000000),(1000001,1000001),(1000002,800002)]:List (Nat×Nat)),rfl,?_,?_⟩
  |((refine lent_step' [(1000000,1000001),(1000001,800002)] (GL p FF _ hR hT hn hl hw hS hF rfl) ?_ ?_ ?_ ?_);rotate_left 0;rfl;(exact⟨rfl,trivial⟩);rfl)
  |refine And.intro ?_ ?_
  |((refine bz ?_);refine fB ?_ ?_ ?_;rfl;rfl;(first |exact rfl |skip))
  |fail)
theorem z0e(p:Pr)(FF:List Sp)(e:Int)(hR:Rng p)(hT:∀t∈p.tables,t.values.length<=1073741824)(hn:∀s∈p.stmts,Ref15.nodes s.x<=1073741824)(hl:p.stmts.length<=1073741824)(hw:vg p 0 p.stmts=true)(hS:bU p p.stmts [] = .error e)(hF:iH p p.stmts []=FF):LCall Tryz.prog 103 [.ptr 1000000 0,.bnd 122 [.ptr 1000001 0]] [(1000000,.cells [.data (.i 0)]),(1000001,.cells [.data (.str p.name),.data (.i p.latency),.data (.i p.tail),.data (.sl 3 (p.params.map Bd.cs)),.data (.sl 3 (p.states.map Bd.cs)),.data (.sl 4 (p.lines.map Ln.cs)),.data (.sl 2 (p.tables.map Tb.cs)),.data (.sl 8 (p.stmts.map Sm.cs)),.nilsl 2])] (.ret (.data (.tuple []))) [(1000000,.cells [.data (.i e)]),(1000001,.cells [.data (.str p.name),.data (.i p.latency),.data (.i p.tail),.data (.sl 3 (p.params.map Bd.cs)),.data (.sl 3 (p.states.map Bd.cs)),.data (.sl 4 (p.lines.map Ln.cs)),.data (.sl 2 (p.tables.map Tb.cs)),.data (.sl 8 (p.stmts.map Sm.cs)),.gs 1000002 2 (FF.map Sp.cs)]),(1000002,.tok 2 (FF.map Sp.cs).length)]:=by
 refine dC Tryz.func103 ?_
 repeat' ((try conv=>whnf)<;>first
  |exact trivial
  |((refine Uk.ret ?_);(refine⟨_,_,_,[(1000000,2),(1000001,1000000)],JZ (.data (.i 0)) e,rfl,⟨rfl,rfl,trivial⟩,?_,?_⟩);kernel_rfl)
  |refine⟨([(1000000,1000000),(1000001,1000001),(1000002,800002)]:List (Nat×Nat)),rfl,?_,?_⟩
  |((refine lent_step' [(1000000,1000001),(1000001,800002)] (CP p FF _ e hR hT hn hl hw hS hF rfl) ?_ ?_ ?_ ?_);rotate_left 0;rfl;(exact⟨rfl,trivial⟩);rfl)
  |refine And.intro ?_ ?_
  |((refine bz ?_);refine fB ?_ ?_ ?_;rfl;rfl;(first |exact rfl |skip))
  |exact @rfl Block _
  |fail)
end Go.Proofs.YtaipffoajgkljaaGreatDoor
namespace Go.Proofs.YtaipffoajgkljaaGreatDoor
open Go.Fw Go.Fw.Ref15 Go.Fw.Rg
set_option maxRecDepth 10000
variable [af]
theorem Nz(l m:List Int)  : PCall Tryz.prog 115 [ints l,ints m] (.ret (.b (Vj l m))):=by
 refine dh Tryz.func115 λhf=>?_
 have hlen:l.length<=9223372036854775807:=by simpa using(hf (ints l) (by simp)).sl.1
 clear hf
 repeat' ((try conv=>whnf)<;>first
  |with_reducible exact trivial
  |with_reducible exact aj hd0 ‹_›
  |((refine dB hd0 ?_ ?_);(assumption))
  |((refine bK hd0 ?_ ?_);(assumption))
  |with_reducible refine BrI.intro (λh=>?_) (λh=>?_)
  |((with_reducible refine ak.mk 0 ?_);have hz:l.length=m.length:=(by simp at h;omega);have hk0:(l.zip m).length=(l.map fF).length:=(by rw[dX hz,List.length_map]);have hlz:(l.zip m).length<=9223372036854775807:=(by rw[dX hz];exact hlen);refine⟨aB (l.zip m) 13 (λ(_:Unit)=>[]) (λ(_:Unit)=>[]) [0,1,12] (λi0 r0 _=>Vj l m=r0.all zbx),?_⟩;refine ag () ?_ ?_ (λi0 (_:Unit) hd0 hI0=>?_) (λi0 x0 r0 (_:Unit) hd0 hl0 hI0=>?_))
  |refine ah hd0 () ?_ ?_
  |((with_reducible refine au ?_ ?_ ?_ ?_ ?_);rfl;rfl;rotate_left;(first |with_reducible exact gp hd0 |with_reducible exact gq hd0))
  |refine fD ?_
  |(refine cO ?_;conv=>whnf)
  |with_reducible refine And.intro ?_ ?_
  |exact @rfl AV _
  |fail)
 all_goals(try simp only[xe]at *)
 all_goals first
  |(rw[hI0];(try simp only[zbx,Bool.not_true,Bool.not_false,Bool.and_true,Bool.true_and,Bool.and_false,Bool.false_and,Bool.or_true,Bool.true_or,Bool.or_false,Bool.false_or,if_true,if_false,reduceIte,Bool.false_eq_true,Bool.not_not,Bool.not_eq_true',beq_self_eq_true,List.all_cons,List.all_nil,List.any_cons,List.any_nil,List.length_map,bne,eq_self,Int.toNat_zero, *]);first |done |rfl)
  |(simp only[Vj,D5,Bool.not_true,Bool.not_false,Bool.and_true,Bool.true_and,Bool.and_false,Bool.false_and,Bool.or_true,Bool.true_or,Bool.or_false,Bool.false_or,if_true,if_false,reduceIte,Bool.false_eq_true,Bool.not_not,Bool.not_eq_true',beq_self_eq_true,List.all_cons,List.all_nil,List.any_cons,List.any_nil,List.length_map,bne,eq_self,Int.toNat_zero, *];done)
theorem RY(l m:List Bd)  : PCall Tryz.prog 118 [.sl 3 (l.map Bd.cs),.sl 3 (m.map Bd.cs)] (.ret (.b (dQ l m))):=by
 refine dh Tryz.func118 λhf=>?_
 have hlen:l.length<=9223372036854775807:=by simpa using(hf (.sl 3 (l.map Bd.cs)) (by simp)).sl.1
 clear hf
 repeat' ((try conv=>whnf)<;>first
  |with_reducible exact trivial
  |with_reducible exact aj hd0 ‹_›
  |((refine dB hd0 ?_ ?_);(assumption))
  |((refine bK hd0 ?_ ?_);(assumption))
  |with_reducible refine BrI.intro (λh=>?_) (λh=>?_)
  |((with_reducible refine ak.mk 0 ?_);have hz:l.length=m.length:=(by simp at h;omega);have hk0:(l.zip m).length=(l.map Bd.cs).length:=(by rw[dX hz,List.length_map]);have hlz:(l.zip m).length<=9223372036854775807:=(by rw[dX hz];exact hlen);refine⟨aB (l.zip m) 13 (λ(_:Unit)=>[]) (λ(_:Unit)=>[]) [0,1,12] (λi0 r0 _=>dQ l m=r0.all rY),?_⟩;refine ag () ?_ ?_ (λi0 (_:Unit) hd0 hI0=>?_) (λi0 x0 r0 (_:Unit) hd0 hl0 hI0=>?_))
  |refine ah hd0 () ?_ ?_
  |((refine qO ?_ ?_ ?_);rfl;rfl)
  |((with_reducible refine au ?_ ?_ ?_ ?_ ?_);rfl;rfl;rotate_left;(first |with_reducible exact gp hd0 |with_reducible exact gq hd0))
  |refine lY ?_
  |refine fD ?_
  |(refine cO ?_;conv=>whnf)
  |with_reducible refine And.intro ?_ ?_
  |exact @rfl AV _
  |fail)
 all_goals(try simp only[xe]at *)
 all_goals first
  |(rw[hI0];(try simp only[rY,Bool.not_true,Bool.not_false,Bool.and_true,Bool.true_and,Bool.and_false,Bool.false_and,Bool.or_true,Bool.true_or,Bool.or_false,Bool.false_or,if_true,if_false,reduceIte,Bool.false_eq_true,Bool.not_not,Bool.not_eq_true',beq_self_eq_true,List.all_cons,List.all_nil,List.any_cons,List.any_nil,List.length_map,bne,eq_self,Int.toNat_zero, *]);first |done |rfl)
  |(simp only[dQ,Bool.not_true,Bool.not_false,Bool.and_true,Bool.true_and,Bool.and_false,Bool.false_and,Bool.or_true,Bool.true_or,Bool.or_false,Bool.false_or,if_true,if_false,reduceIte,Bool.false_eq_true,Bool.not_not,Bool.not_eq_true',beq_self_eq_true,List.all_cons,List.all_nil,List.any_cons,List.any_nil,List.length_map,bne,eq_self,Int.toNat_zero, *];done)
theorem Si(l m:List Ln)  : PCall Tryz.prog 119 [.sl 4 (l.map Ln.cs),.sl 4 (m.map Ln.cs)] (.ret (.b (D5 mr l m))):=by
 refine dh Tryz.func119 λhf=>?_
 have hlen:l.length<=9223372036854775807:=by simpa using(hf (.sl 4 (l.map Ln.cs)) (by simp)).sl.1
 clear hf
 repeat' ((try conv=>whnf)<;>first
  |with_reducible exact trivial
  |with_reducible exact aj hd0 ‹_›
  |((refine dB hd0 ?_ ?_);(assumption))
  |((refine bK hd0 ?_ ?_);(assumption))
  |with_reducible refine BrI.intro (λh=>?_) (λh=>?_)
  |((with_reducible refine ak.mk 0 ?_);have hz:l.length=m.length:=(by simp at h;omega);have hk0:(l.zip m).length=(l.map Ln.cs).length:=(by rw[dX hz,List.length_map]);have hlz:(l.zip m).length<=9223372036854775807:=(by rw[dX hz];exact hlen);refine⟨aB (l.zip m) 13 (λ(_:Unit)=>[]) (λ(_:Unit)=>[]) [0,1,12] (λi0 r0 _=>D5 mr l m=r0.all mr),?_⟩;refine ag () ?_ ?_ (λi0 (_:Unit) hd0 hI0=>?_) (λi0 x0 r0 (_:Unit) hd0 hl0 hI0=>?_))
  |refine ah hd0 () ?_ ?_
  |((refine qO ?_ ?_ ?_);rfl;rfl)
  |((with_reducible refine au ?_ ?_ ?_ ?_ ?_);rfl;rfl;rotate_left;(first |with_reducible exact gp hd0 |with_reducible exact gq hd0))
  |refine lY ?_
  |refine fD ?_
  |(refine cO ?_;conv=>whnf)
  |with_reducible refine And.intro ?_ ?_
  |exact @rfl AV _
  |fail)
 all_goals(try simp only[xe]at *)
 all_goals first
  |(rw[hI0];(try simp only[mr,Bool.not_true,Bool.not_false,Bool.and_true,Bool.true_and,Bool.and_false,Bool.false_and,Bool.or_true,Bool.true_or,Bool.or_false,Bool.false_or,if_true,if_false,reduceIte,Bool.false_eq_true,Bool.not_not,Bool.not_eq_true',beq_self_eq_true,List.all_cons,List.all_nil,List.any_cons,List.any_nil,List.length_map,bne,eq_self,Int.toNat_zero, *]);first |done |rfl)
  |(simp only[D5,Bool.not_true,Bool.not_false,Bool.and_true,Bool.true_and,Bool.and_false,Bool.false_and,Bool.or_true,Bool.true_or,Bool.or_false,Bool.false_or,if_true,if_false,reduceIte,Bool.false_eq_true,Bool.not_not,Bool.not_eq_true',beq_self_eq_true,List.all_cons,List.all_nil,List.any_cons,List.any_nil,List.length_map,bne,eq_self,Int.toNat_zero, *];done)
theorem z0f(a b:Tb)  : PCall Tryz.prog 114 [.agg a.cs,.agg b.cs] (.ret (.b (tbE (a,b)))):=by
 refine ay Tryz.func114 ?_
 repeat' ((try conv=>whnf)<;>first
  |((refine ai ?_ ?_ ?_);rotate_left;exact Nz _ _)
  |((refine aY ?_ ?_ (λhg=>?_) ?_);rfl)
  |((refine bY ?_ ?_);with_reducible exact rfl;with_reducible exact rfl)
  |(refine cO ?_;conv=>whnf)
  |fail)
 all_goals(try simp only[xe]at *)
 all_goals (simp only[tbE,Bool.not_true,Bool.not_false,Bool.and_true,Bool.true_and,Bool.and_false,Bool.false_and,Bool.or_true,Bool.true_or,Bool.or_false,Bool.false_or,if_true,if_false,reduceIte,Bool.false_eq_true,Bool.not_not,Bool.not_eq_true',beq_self_eq_true,List.all_cons,List.all_nil,List.any_cons,List.any_nil,List.length_map,bne,eq_self,Int.toNat_zero, *];done)
theorem Sj(l m:List Ex)(ih:∀x∈l,∀y,PCall Tryz.prog 117 [x.d,y.d] (.ret (.b (iT x y)))):PCall Tryz.prog 134 [.sl 5 (l.map Ex.cs),.sl 5 (m.map Ex.cs),.fn 117 []] (.ret (.b (zby l m))):=by
 refine dh Tryz.func134 λhf=>?_
 have hlen:l.length<=9223372036854775807:=by simpa using(hf (.sl 5 (l.map Ex.cs)) (by simp)).sl.1
 clear hf
 repeat' ((try conv=>whnf)<;>first
  |with_reducible exact trivial
  |with_reducible exact aj hd0 ‹_›
  |((refine dB hd0 ?_ ?_);(assumption))
  |((refine bK hd0 ?_ ?_);(assumption))
  |with_reducible refine BrI.intro (λh=>?_) (λh=>?_)
  |((with_reducible refine ak.mk 0 ?_);have hz:l.length=m.length:=(by simp at h;omega);have hk0:(l.zip m).length=(l.map Ex.cs).length:=(by rw[dX hz,List.length_map]);have hlz:(l.zip m).length<=9223372036854775807:=(by rw[dX hz];exact hlen);refine⟨aB (l.zip m) 17 (λ(_:Unit)=>[]) (λ(_:Unit)=>[]) [1,2,15,16] (λi0 r0 _=>zby l m=r0.all exE),?_⟩;refine ag () ?_ ?_ (λi0 (_:Unit) hd0 hI0=>?_) (λi0 x0 r0 (_:Unit) hd0 hl0 hI0=>?_))
  |refine ah hd0 () ?_ ?_
  |((refine ai ?_ ?_ ?_);rotate_left;(exact ih _ (List.of_mem_zip (aX hd0)).1 _))
  |((with_reducible refine au ?_ ?_ ?_ ?_ ?_);rfl;rfl;rotate_left;(first |with_reducible exact gp hd0 |with_reducible exact gq hd0))
  |refine lY ?_
  |(refine cO ?_;conv=>whnf)
  |with_reducible refine And.intro ?_ ?_
  |exact @rfl AV _
  |fail)
 all_goals(try simp only[xe]at *)
 all_goals first
  |(rw[hI0];(try simp only[exE,Bool.not_true,Bool.not_false,Bool.and_true,Bool.true_and,Bool.and_false,Bool.false_and,Bool.or_true,Bool.true_or,Bool.or_false,Bool.false_or,if_true,if_false,reduceIte,Bool.false_eq_true,Bool.not_not,Bool.not_eq_true',beq_self_eq_true,List.all_cons,List.all_nil,List.any_cons,List.any_nil,List.length_map,bne,eq_self,Int.toNat_zero, *]);first |done |rfl)
  |(simp only[zby,D5,Bool.not_true,Bool.not_false,Bool.and_true,Bool.true_and,Bool.and_false,Bool.false_and,Bool.or_true,Bool.true_or,Bool.or_false,Bool.false_or,if_true,if_false,reduceIte,Bool.false_eq_true,Bool.not_not,Bool.not_eq_true',beq_self_eq_true,List.all_cons,List.all_nil,List.any_cons,List.any_nil,List.length_map,bne,eq_self,Int.toNat_zero, *];done)
theorem CQ(a b:Ex)  : PCall Tryz.prog 117 [a.d,b.d] (.ret (.b (iT a b))):=by
 revert b;revert a;refine Ex.ind λa ih b=>?_
 refine ay Tryz.func117 ?_
 repeat' ((try conv=>whnf)<;>first
  |((refine ai ?_ ?_ ?_);rotate_left;((have hq:=Sj a.l b.l ih;rw[<-Ex.css_eq,<-Ex.css_eq]at hq;exact hq)))
  |((refine aY ?_ ?_ (λhg=>?_) ?_);rfl)
  |((refine bY ?_ ?_);with_reducible exact rfl;with_reducible exact rfl)
  |(refine cO ?_;conv=>whnf)
  |fail)
 all_goals(try simp only[xe]at *)
 all_goals exact congrArg D.b (FW a b)
theorem z0g(a b:Sm)  : PCall Tryz.prog 116 [a.d,b.d] (.ret (.b (smE (a,b)))):=by
 refine ay Tryz.func116 ?_
 repeat' ((try conv=>whnf)<;>first
  |((refine ai ?_ ?_ ?_);rotate_left;exact CQ _ _)
  |((refine aY ?_ ?_ (λhg=>?_) ?_);rfl)
  |((refine bY ?_ ?_);with_reducible exact rfl;with_reducible exact rfl)
  |(refine cO ?_;conv=>whnf)
  |fail)
 all_goals(try simp only[xe]at *)
 all_goals (simp only[smE,Bool.not_true,Bool.not_false,Bool.and_true,Bool.true_and,Bool.and_false,Bool.false_and,Bool.or_true,Bool.true_or,Bool.or_false,Bool.false_or,if_true,if_false,reduceIte,Bool.false_eq_true,Bool.not_not,Bool.not_eq_true',beq_self_eq_true,List.all_cons,List.all_nil,List.any_cons,List.any_nil,List.length_map,bne,eq_self,Int.toNat_zero, *];done)
theorem Sl(l m:List Tb)  : PCall Tryz.prog 120 [.sl 2 (l.map Tb.cs),.sl 2 (m.map Tb.cs),.fn 114 []] (.ret (.b (D5 tbE l m))):=by
 refine dh Tryz.func120 λhf=>?_
 have hlen:l.length<=9223372036854775807:=by simpa using(hf (.sl 2 (l.map Tb.cs)) (by simp)).sl.1
 clear hf
 repeat' ((try conv=>whnf)<;>first
  |with_reducible exact trivial
  |with_reducible exact aj hd0 ‹_›
  |((refine dB hd0 ?_ ?_);(assumption))
  |((refine bK hd0 ?_ ?_);(assumption))
  |with_reducible refine BrI.intro (λh=>?_) (λh=>?_)
  |((with_reducible refine ak.mk 0 ?_);have hz:l.length=m.length:=(by simp at h;omega);have hk0:(l.zip m).length=(l.map Tb.cs).length:=(by rw[dX hz,List.length_map]);have hlz:(l.zip m).length<=9223372036854775807:=(by rw[dX hz];exact hlen);refine⟨aB (l.zip m) 17 (λ(_:Unit)=>[]) (λ(_:Unit)=>[]) [1,2,15,16] (λi0 r0 _=>D5 tbE l m=r0.all tbE),?_⟩;refine ag () ?_ ?_ (λi0 (_:Unit) hd0 hI0=>?_) (λi0 x0 r0 (_:Unit) hd0 hl0 hI0=>?_))
  |refine ah hd0 () ?_ ?_
  |((refine ai ?_ ?_ ?_);rotate_left;exact z0f _ _)
  |((with_reducible refine au ?_ ?_ ?_ ?_ ?_);rfl;rfl;rotate_left;(first |with_reducible exact gp hd0 |with_reducible exact gq hd0))
  |refine lY ?_
  |(refine cO ?_;conv=>whnf)
  |with_reducible refine And.intro ?_ ?_
  |exact @rfl AV _
  |fail)
 all_goals(try simp only[xe]at *)
 all_goals first
  |(rw[hI0];(try simp only[List.all_cons,Bool.not_true,Bool.not_false,Bool.and_true,Bool.true_and,Bool.and_false,Bool.false_and,Bool.or_true,Bool.true_or,Bool.or_false,Bool.false_or,if_true,if_false,reduceIte,Bool.false_eq_true,Bool.not_not,Bool.not_eq_true',beq_self_eq_true,List.all_cons,List.all_nil,List.any_cons,List.any_nil,List.length_map,bne,eq_self,Int.toNat_zero, *]);first |done |rfl)
  |(simp only[D5,Bool.not_true,Bool.not_false,Bool.and_true,Bool.true_and,Bool.and_false,Bool.false_and,Bool.or_true,Bool.true_or,Bool.or_false,Bool.false_or,if_true,if_false,reduceIte,Bool.false_eq_true,Bool.not_not,Bool.not_eq_true',beq_self_eq_true,List.all_cons,List.all_nil,List.any_cons,List.any_nil,List.length_map,bne,eq_self,Int.toNat_zero, *];done)
theorem Sr(l m:List Sm)  : PCall Tryz.prog 121 [.sl 8 (l.map Sm.cs),.sl 8 (m.map Sm.cs),.fn 116 []] (.ret (.b (D5 smE l m))):=by
 refine dh Tryz.func121 λhf=>?_
 have hlen:l.length<=9223372036854775807:=by simpa using(hf (.sl 8 (l.map Sm.cs)) (by simp)).sl.1
 clear hf
 repeat' ((try conv=>whnf)<;>first
  |with_reducible exact trivial
  |with_reducible exact aj hd0 ‹_›
  |((refine dB hd0 ?_ ?_);(assumption))
  |((refine bK hd0 ?_ ?_);(assumption))
  |with_reducible refine BrI.intro (λh=>?_) (λh=>?_)
  |((with_reducible refine ak.mk 0 ?_);have hz:l.length=m.length:=(by simp at h;omega);have hk0:(l.zip m).length=(l.map Sm.cs).length:=(by rw[dX hz,List.length_map]);have hlz:(l.zip m).length<=9223372036854775807:=(by rw[dX hz];exact hlen);refine⟨aB (l.zip m) 17 (λ(_:Unit)=>[]) (λ(_:Unit)=>[]) [1,2,15,16] (λi0 r0 _=>D5 smE l m=r0.all smE),?_⟩;refine ag () ?_ ?_ (λi0 (_:Unit) hd0 hI0=>?_) (λi0 x0 r0 (_:Unit) hd0 hl0 hI0=>?_))
  |refine ah hd0 () ?_ ?_
  |((refine ai ?_ ?_ ?_);rotate_left;exact z0g _ _)
  |((with_reducible refine au ?_ ?_ ?_ ?_ ?_);rfl;rfl;rotate_left;(first |with_reducible exact gp hd0 |with_reducible exact gq hd0))
  |refine lY ?_
  |(refine cO ?_;conv=>whnf)
  |with_reducible refine And.intro ?_ ?_
  |exact @rfl AV _
  |fail)
 all_goals(try simp only[xe]at *)
 all_goals first
  |(rw[hI0];(try simp only[List.all_cons,Bool.not_true,Bool.not_false,Bool.and_true,Bool.true_and,Bool.and_false,Bool.false_and,Bool.or_true,Bool.true_or,Bool.or_false,Bool.false_or,if_true,if_false,reduceIte,Bool.false_eq_true,Bool.not_not,Bool.not_eq_true',beq_self_eq_true,List.all_cons,List.all_nil,List.any_cons,List.any_nil,List.length_map,bne,eq_self,Int.toNat_zero, *]);first |done |rfl)
  |(simp only[D5,Bool.not_true,Bool.not_false,Bool.and_true,Bool.true_and,Bool.and_false,Bool.false_and,Bool.or_true,Bool.true_or,Bool.or_false,Bool.false_or,if_true,if_false,reduceIte,Bool.false_eq_true,Bool.not_not,Bool.not_eq_true',beq_self_eq_true,List.all_cons,List.all_nil,List.any_cons,List.any_nil,List.length_map,bne,eq_self,Int.toNat_zero, *];done)
theorem kZ(a b:Pr)  : PCall Tryz.prog 97 [a.d,b.d] (.ret (.b (su a b))):=by
 refine ay Tryz.func97 ?_
 repeat' ((try conv=>whnf)<;>first
  |((refine ai ?_ ?_ ?_);rotate_left;(first |exact RY _ _ |exact Si _ _ |exact Sl _ _ |exact Sr _ _))
  |((refine aY ?_ ?_ (λhg=>?_) ?_);rfl)
  |((refine bY ?_ ?_);with_reducible exact rfl;with_reducible exact rfl)
  |(refine cO ?_;conv=>whnf)
  |fail)
 all_goals(try simp only[xe]at *)
 all_goals (simp only[su,Vk,Bool.not_true,Bool.not_false,Bool.and_true,Bool.true_and,Bool.and_false,Bool.false_and,Bool.or_true,Bool.true_or,Bool.or_false,Bool.false_or,if_true,if_false,reduceIte,Bool.false_eq_true,Bool.not_not,Bool.not_eq_true',beq_self_eq_true,List.all_cons,List.all_nil,List.any_cons,List.any_nil,List.length_map,bne,eq_self,Int.toNat_zero, *];done)
end Go.Proofs.YtaipffoajgkljaaGreatDoor
namespace Go.Proofs.YtaipffoajgkljaaGreatDoor
open Go.Fw Go.Fw.Rg Go.Fw.Nam
set_option maxRecDepth 10000
variable [af]
theorem z0h(p:Pr)(g:gy p)(he:((resolveC p).2 != 0)=true):PCall Tryz.prog 101 [p.d] (.ret (.tuple [.val (.pointer none),.i (resolveC p).2])):=by
 refine ay Tryz.func101 ?_
 repeat' ((try conv=>whnf)<;>first
  |exact Bool.noConfusion (show true=false from he.symm.trans h)
  |refine BrI.intro (λh=>?_) (λh=>?_)
  |((refine ai ?_ ?_ ?_);rotate_left;exact kM p g.sm g.hn)
  |refine fD ?_
  |(refine cO ?_;conv=>whnf)
  |fail)
theorem z0i(p:Pr)(g:gy p)(he:((resolveC p).2 != 0)=false)(hs:su p (resolveC p).1=false):PCall Tryz.prog 101 [p.d] (.ret (.tuple [.val (.pointer none),.i 150])):=by
 refine ay Tryz.func101 ?_
 repeat' ((try conv=>whnf)<;>first
  |exact Bool.noConfusion (show false=true from he.symm.trans h)
  |exact Bool.noConfusion (show true=false from(congrArg (!·) hs).symm.trans h)
  |refine BrI.intro (λh=>?_) (λh=>?_)
  |((refine ai ?_ ?_ ?_);rotate_left;(first |exact kZ _ _ |exact kM p g.sm g.hn))
  |(refine cO ?_;conv=>whnf)
  |fail)
theorem z0j(p:Pr)(FF:List Sp)(g:gy p)(he:(resolveC p).2=0)(hs:(resolveC p).1=p)(hR:Rng p)(hw:vg p 0 p.stmts=true)(hS:bU p p.stmts [] = .ok FF)(hF:iH p p.stmts []=FF):PCall Tryz.prog 101 [p.d] (.ret (.tuple [.ptr (fC p FF),.i 0])):=by
 refine dh Tryz.func101 λhf=>?_
 have hq:resolveC p=(p,0):=Prod.ext hs he
 have hc:=kM p g.sm g.hn
 rw[hq]at hc
 have hc2:=kZ p p
 rw[(je p p).2 rfl]at hc2
 clear hf
 repeat' ((try conv=>whnf)<;>first
  |exact Bool.noConfusion (show true=false from h.symm.trans (rfl:((0:Int) != 0)=false))
  |exact Bool.noConfusion (show false=true from(congrArg (!·) ((je p p).2 rfl)).symm.trans h)
  |refine BrI.intro (λh=>?_) (λh=>?_)
  |((refine ai ?_ ?_ ?_);rotate_left;(first |exact kZ _ _ |exact hc))
  |((refine lent_step' [(1000000,3),(1000001,19),(1000002,800001)] (z9g p FF hR g.hT g.hn g.hl hw hS hF) ?_ ?_ ?_ ?_);rotate_left 0;rfl;(exact⟨rfl,rfl,trivial⟩);rfl)
  |refine fD ?_
  |(refine cO ?_;conv=>whnf)
  |refine And.intro ?_ ?_
  |fail)
 all_goals rfl
theorem XA(p:Pr)(FF:List Sp)(e:Int)(g:gy p)(he:(resolveC p).2=0)(hs:(resolveC p).1=p)(hR:Rng p)(hw:vg p 0 p.stmts=true)(hS:bU p p.stmts [] = .error e)(hF:iH p p.stmts []=FF):PCall Tryz.prog 101 [p.d] (.ret (.tuple [.ptr (fC p FF),.i e])):=by
 refine dh Tryz.func101 λhf=>?_
 have hq:resolveC p=(p,0):=Prod.ext hs he
 have hc:=kM p g.sm g.hn
 rw[hq]at hc
 have hc2:=kZ p p
 rw[(je p p).2 rfl]at hc2
 clear hf
 repeat' ((try conv=>whnf)<;>first
  |exact Bool.noConfusion (show true=false from h.symm.trans (rfl:((0:Int) != 0)=false))
  |exact Bool.noConfusion (show false=true from(congrArg (!·) ((je p p).2 rfl)).symm.trans h)
  |refine BrI.intro (λh=>?_) (λh=>?_)
  |((refine ai ?_ ?_ ?_);rotate_left;(first |exact kZ _ _ |exact hc))
  |((refine lent_step' [(1000000,3),(1000001,19),(1000002,800001)] (z0e p FF e hR g.hT g.hn g.hl hw hS hF) ?_ ?_ ?_ ?_);rotate_left 0;rfl;(exact⟨rfl,rfl,trivial⟩);rfl)
  |refine fD ?_
  |(refine cO ?_;conv=>whnf)
  |refine And.intro ?_ ?_
  |fail)
 all_goals rfl
theorem BI(p:Pr)(x:Ex)(most:Int)(hm0:0<=most)(hm:most<=512):PCall Tryz.prog 102 [p.d,x.d,.i most] (.ret (.tuple [.i (eY p x most).1,.b (eY p x most).2])):=by
 revert hm0 hm;revert most;revert x;refine Ex.ind λx ih most hm0 hm=>?_
 refine dh Tryz.func102 λhf=>?_
 have hlen:=Ex.fits (hf x.d (by simp));have hq:=Pr.fits (hf p.d (by simp))
 have ih2:∀y∈x.l,∀m c,c=m->0<=m->m<=512->PCall Tryz.prog 102 [p.d,y.d,.i c] (.ret (.tuple [.i (eY p y m).1,.b (eY p y m).2])):=λy hy m c hc h0 h1=>by subst hc;exact ih y hy c h0 h1
 clear hf
 repeat' ((try conv=>whnf)<;>first
  |exact Bool.noConfusion (show true=false from h)
  |exact Bool.noConfusion (show false=true from h)
  |exact trivial
  |exact aj hd1 ‹_›
  |refine jA hd1 ?_
  |refine fK hd1 ?_
  |refine BrI.intro (λh=>?_) (λh=>?_)
  |((refine VA (l:=cu) ?_ (λnd hnd=>?_) (λhnd=>?_));rfl)
  |((refine Y6 (p:=p) ?_ (λmd hmd=>?_) (λhmd=>?_));rfl)
  |exact(zb4 ‹lkI x.kind (lS p)=none› h).elim
  |((refine eU Sm.none ?_ ?_ ?_ ?_ ?_);rfl;rfl;rotate_left 2)
  |((refine ak.mk 1 ?_);refine⟨aB (x.l) 109 (λ(q:(Int)×(Bool))=>match q with |(n,ok)=>[(6,.data (.val (.int .i64 n))),(7,.data (.val (.bool ok)))]) (λ(q:(Int)×(Bool))=>match q with |(n,ok)=>[]) [2,3,107,108] (λi1 r1 q=>match q with |(n,ok)=>eY p x most=jJ p r1 most n ok/\1<=n/\n<=most),?_⟩;refine ag (?_,?_) ?_ ?_ (λi1 ⟨n,ok⟩ hd1 hI1=>?_) (λi1 x1 r1 ⟨n,ok⟩ hd1 hl1 hI1=>?_))
  |refine ah hd1 (?_,?_) ?_ ?_
  |((refine ai ?_ ?_ ?_);rotate_left;(exact ih2 _ (aX ‹_›) (most-n) _ (aO (by omega) (by omega)) (by omega) (by omega)))
  |((refine au ?_ ?_ ?_ ?_ ?_);rfl;rfl;rotate_left;exact dR hd1)
  |refine lY ?_
  |(refine cO ?_;conv=>whnf)
  |refine And.intro ?_ ?_
  |exact @rfl AV _
  |fail)
 all_goals first
  |rfl
  |exact Int.le_refl _
  |(refine(zgq ‹lkI x.kind (lS p)=some _› ‹(x.kind==5)=true› ?_).1;assumption)
  |(refine(zgq ‹lkI x.kind (lS p)=some _› ‹(x.kind==5)=true› ?_).2;assumption)
  |(refine z6h (l:=x.l) (nd:=nd) ?_;assumption)
  |((refine Rl ‹lkI x.kind cu=some _› ‹lkI x.kind (lS p)=_› ?_ ?_ ?_);assumption;(first |exact rfl |(refine O6 (b:=false) ?_;assumption));(first |exact ze3 ‹_› |exact ze4 ‹_› ‹_› |exact ze5 ‹_› ‹_› ‹_› |exact ze6 ‹_› ‹_› ‹_›))
  |rw[xk ‹lkI x.kind cu=none›]
  |rw[xm ‹lkI x.kind cu=some _› (z6g (b:=true) h)]
  |(rw[Y7 ‹lkI x.kind cu=some _› ‹lkI x.kind (lS p)=_› ?_ (O6 (b:=true) h)];assumption)
  |(obtain⟨hok,hfit⟩:=zgr h;have hr:=O7 p x1 (most-n) (by omega);have h3:=hr.2.2 hfit;rw[aO (by omega) (by omega)];first |omega |(rw[hI1.1];exact vH h))
  |rw[hI1.1,oU h]
  |rw[hI1.1,jJ]
theorem check_any(p:Pr)(pd:D)(e:Int)(hw:PCall Tryz.prog 101 [p.d] (.ret (.tuple [pd,.i e]))):PCall Tryz.prog 98 [p.d] (.ret (.i e)):=by
 refine ay Tryz.func98 ?_
 repeat' ((try conv=>whnf)<;>first
  |((refine ai ?_ ?_ ?_);rotate_left;exact hw)
  |(refine cO ?_;conv=>whnf)
  |fail)
theorem z9h(p:Pr)(F:List Sp)(x:Ex)(s:Sp)(a b:Int)(hc:PCall Tryz.prog 105 [.ptr (fC p F),x.d] (.ret s.d)):LCall Tryz.prog 104 [.ptr 1000000 0,.ptr 1000001 0,.ptr 1000002 0,.ptr 1000003 0] [(1000000,.cells [.data (.ptr (fC p F))]),(1000001,.cells [.data (.i x.kind),.data (.str x.name),.data (.i x.index),.data (.i x.n),.data (.sl 5 (Ex.css x.l))]),(1000002,.cells [.data (.i a)]),(1000003,.cells [.data (.i b)])] (.ret (.data (.tuple []))) [(1000000,.cells [.data (.ptr (fC p F))]),(1000001,.cells [.data (.i x.kind),.data (.str x.name),.data (.i x.index),.data (.i x.n),.data (.sl 5 (Ex.css x.l))]),(1000002,.cells [.data (.i s.1)]),(1000003,.cells [.data (.i s.2)])]:=by
 refine dC Tryz.func104 ?_
 repeat' ((try conv=>whnf)<;>first
  |exact trivial
  |((refine ai ?_ ?_ ?_);rotate_left;exact hc)
  |((refine aP ?_);refine fin_step' [] rfl ?_ ?_)
  |refine fD ?_
  |refine And.intro ?_ ?_
  |fail)
 all_goals first
  |rfl
  |decide
theorem z0k(p:Pr)(F:List Sp)(x:Ex)(e:Int)(a b:Int)(hc:PCall Tryz.prog 105 [.ptr (fC p F),x.d] (.pan (.iface 34 (.i e)))):LCall Tryz.prog 104 [.ptr 1000000 0,.ptr 1000001 0,.ptr 1000002 0,.ptr 1000003 0] [(1000000,.cells [.data (.ptr (fC p F))]),(1000001,.cells [.data (.i x.kind),.data (.str x.name),.data (.i x.index),.data (.i x.n),.data (.sl 5 (Ex.css x.l))]),(1000002,.cells [.data (.i a)]),(1000003,.cells [.data (.i b)])] (.pan (.data (.iface 34 (.i e)))) [(1000000,.cells [.data (.ptr (fC p F))]),(1000001,.cells [.data (.i x.kind),.data (.str x.name),.data (.i x.index),.data (.i x.n),.data (.sl 5 (Ex.css x.l))]),(1000002,.cells [.data (.i a)]),(1000003,.cells [.data (.i b)])]:=by
 refine dC Tryz.func104 ?_
 repeat' ((try conv=>whnf)<;>first
  |exact trivial
  |((refine ai ?_ ?_ ?_);rotate_left;exact hc)
  |((refine jB ?_);refine fin_step' [] rfl ?_ ?_)
  |refine And.intro ?_ ?_
  |fail)
theorem z0l(p:Pr)(F:List Sp)(x:Ex)(s:Sp)(hc:PCall Tryz.prog 105 [.ptr (fC p F),x.d] (.ret s.d)):LCall Tryz.prog 103 [.ptr 1000000 0,.fn 104 [.ptr 1000001 0,.ptr 1000002 0,.ptr 1000003 0,.ptr 1000004 0]] [(1000000,.cells [.data (.i 0)]),(1000001,.cells [.data (.ptr (fC p F))]),(1000002,.cells [.data (.i x.kind),.data (.str x.name),.data (.i x.index),.data (.i x.n),.data (.sl 5 (Ex.css x.l))]),(1000003,.cells [.data (.i 0)]),(1000004,.cells [.data (.i 0)])] (.ret (.data (.tuple []))) [(1000000,.cells [.data (.i 0)]),(1000001,.cells [.data (.ptr (fC p F))]),(1000002,.cells [.data (.i x.kind),.data (.str x.name),.data (.i x.index),.data (.i x.n),.data (.sl 5 (Ex.css x.l))]),(1000003,.cells [.data (.i s.1)]),(1000004,.cells [.data (.i s.2)])]:=by
 refine dC Tryz.func103 ?_
 repeat' ((try conv=>whnf)<;>first
  |exact trivial
  |((refine⟨_,_,_,[(1000000,2),(1000001,1000000)],P7 (.i 0),rfl,⟨rfl,rfl,trivial⟩,?_,?_⟩);kernel_rfl)
  |refine⟨([(1000000,1000000),(1000001,1000001),(1000002,1000002),(1000003,1000003),(1000004,1000004)]:List (Nat×Nat)),rfl,?_,?_⟩
  |((refine lent_step' [(1000000,1000001),(1000001,1000002),(1000002,1000003),(1000003,1000004)] (z9h p F x s 0 0 hc) ?_ ?_ ?_ ?_);rotate_left 0;rfl;(exact⟨rfl,rfl,rfl,rfl,trivial⟩);rfl)
  |refine And.intro ?_ ?_
  |fail)
theorem XB(p:Pr)(F:List Sp)(x:Ex)(e:Int)(hc:PCall Tryz.prog 105 [.ptr (fC p F),x.d] (.pan (.iface 34 (.i e)))):LCall Tryz.prog 103 [.ptr 1000000 0,.fn 104 [.ptr 1000001 0,.ptr 1000002 0,.ptr 1000003 0,.ptr 1000004 0]] [(1000000,.cells [.data (.i 0)]),(1000001,.cells [.data (.ptr (fC p F))]),(1000002,.cells [.data (.i x.kind),.data (.str x.name),.data (.i x.index),.data (.i x.n),.data (.sl 5 (Ex.css x.l))]),(1000003,.cells [.data (.i 0)]),(1000004,.cells [.data (.i 0)])] (.ret (.data (.tuple []))) [(1000000,.cells [.data (.i e)]),(1000001,.cells [.data (.ptr (fC p F))]),(1000002,.cells [.data (.i x.kind),.data (.str x.name),.data (.i x.index),.data (.i x.n),.data (.sl 5 (Ex.css x.l))]),(1000003,.cells [.data (.i 0)]),(1000004,.cells [.data (.i 0)])]:=by
 refine dC Tryz.func103 ?_
 repeat' ((try conv=>whnf)<;>first
  |exact trivial
  |((refine Uk.ret ?_);(refine⟨_,_,_,[(1000000,2),(1000001,1000000)],JZ (.data (.i 0)) e,rfl,⟨rfl,rfl,trivial⟩,?_,?_⟩);kernel_rfl)
  |refine⟨([(1000000,1000000),(1000001,1000001),(1000002,1000002),(1000003,1000003),(1000004,1000004)]:List (Nat×Nat)),rfl,?_,?_⟩
  |((refine lent_step' [(1000000,1000001),(1000001,1000002),(1000002,1000003),(1000003,1000004)] (z0k p F x e 0 0 hc) ?_ ?_ ?_ ?_);rotate_left 0;rfl;(exact⟨rfl,rfl,rfl,rfl,trivial⟩);rfl)
  |refine And.intro ?_ ?_
  |fail)
theorem z9i(p:Pr)(x:Ex)(e:Int)(hw:PCall Tryz.prog 101 [p.d] (.ret (.tuple [.val (.pointer none),.i e])))(he:(e != 0)=true):PCall Tryz.prog 90 [p.d,x.d] (.ret (.tuple [.i 0,.i 0,.i e])):=by
 refine ay Tryz.func90 ?_
 repeat' ((try conv=>whnf)<;>first
  |exact Bool.noConfusion (show true=false from he.symm.trans h)
  |refine BrI.intro (λh=>?_) (λh=>?_)
  |((refine ai ?_ ?_ ?_);rotate_left;exact hw)
  |refine fD ?_
  |(refine cO ?_;conv=>whnf)
  |fail)
theorem z9j(p:Pr)(x:Ex)(F:List Sp)(e:Int)(hw:PCall Tryz.prog 101 [p.d] (.ret (.tuple [.ptr (fC p F),.i e])))(he:(e != 0)=true):PCall Tryz.prog 90 [p.d,x.d] (.ret (.tuple [.i 0,.i 0,.i e])):=by
 refine ay Tryz.func90 ?_
 repeat' ((try conv=>whnf)<;>first
  |exact Bool.noConfusion (show true=false from he.symm.trans h)
  |refine BrI.intro (λh=>?_) (λh=>?_)
  |((refine ai ?_ ?_ ?_);rotate_left;exact hw)
  |refine fD ?_
  |(refine cO ?_;conv=>whnf)
  |fail)
theorem z0m(p:Pr)(x:Ex)(F:List Sp)(hw:PCall Tryz.prog 101 [p.d] (.ret (.tuple [.ptr (fC p F),.i 0])))(hx:(eY p x 512).2=false):PCall Tryz.prog 90 [p.d,x.d] (.ret (.tuple [.i 0,.i 0,.i 150])):=by
 refine ay Tryz.func90 ?_
 repeat' ((try conv=>whnf)<;>first
  |exact Bool.noConfusion (show false=true from h)
  |exact Bool.noConfusion (show true=false from(congrArg (!·) hx).symm.trans h)
  |refine BrI.intro (λh=>?_) (λh=>?_)
  |((refine ai ?_ ?_ ?_);rotate_left;(first |exact hw |exact BI p x 512 (by decide) (by decide)))
  |(refine cO ?_;conv=>whnf)
  |fail)
theorem zd6(p:Pr)(x:Ex)(F:List Sp)(s:Sp)(hw:PCall Tryz.prog 101 [p.d] (.ret (.tuple [.ptr (fC p F),.i 0])))(hx:(eY p x 512).2=true)(hc:PCall Tryz.prog 105 [.ptr (fC p F),x.d] (.ret s.d)):PCall Tryz.prog 90 [p.d,x.d] (.ret (.tuple [.i s.1,.i s.2,.i 0])):=by
 refine ay Tryz.func90 ?_
 repeat' ((try conv=>whnf)<;>first
  |exact Bool.noConfusion (show false=true from h)
  |exact Bool.noConfusion (show false=true from(congrArg (!·) hx).symm.trans h)
  |refine BrI.intro (λh=>?_) (λh=>?_)
  |((refine ai ?_ ?_ ?_);rotate_left;(first |exact hw |exact BI p x 512 (by decide) (by decide)))
  |((refine lent_step' [(1000000,6),(1000001,7),(1000002,3),(1000003,4),(1000004,5)] (z0l p F x s hc) ?_ ?_ ?_ ?_);rotate_left 0;rfl;(exact⟨rfl,rfl,rfl,rfl,rfl,trivial⟩);rfl)
  |refine fD ?_
  |(refine cO ?_;conv=>whnf)
  |fail)
theorem z9k(p:Pr)(x:Ex)(F:List Sp)(e:Int)(hw:PCall Tryz.prog 101 [p.d] (.ret (.tuple [.ptr (fC p F),.i 0])))(hx:(eY p x 512).2=true)(hc:PCall Tryz.prog 105 [.ptr (fC p F),x.d] (.pan (.iface 34 (.i e)))):PCall Tryz.prog 90 [p.d,x.d] (.ret (.tuple [.i 0,.i 0,.i e])):=by
 refine ay Tryz.func90 ?_
 repeat' ((try conv=>whnf)<;>first
  |exact Bool.noConfusion (show false=true from h)
  |exact Bool.noConfusion (show false=true from(congrArg (!·) hx).symm.trans h)
  |refine BrI.intro (λh=>?_) (λh=>?_)
  |((refine ai ?_ ?_ ?_);rotate_left;(first |exact hw |exact BI p x 512 (by decide) (by decide)))
  |((refine lent_step' [(1000000,6),(1000001,7),(1000002,3),(1000003,4),(1000004,5)] (XB p F x e hc) ?_ ?_ ?_ ?_);rotate_left 0;rfl;(exact⟨rfl,rfl,rfl,rfl,rfl,trivial⟩);rfl)
  |refine fD ?_
  |(refine cO ?_;conv=>whnf)
  |fail)
end Go.Proofs.YtaipffoajgkljaaGreatDoor
