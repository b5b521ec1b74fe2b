/- Contracts: package ranges: numbers. -/
import Derived.Test.YthpbakljheeabaaGreatDoorZSA
import Derived.Test.YthpbakljheeabaaGreatDoorZRB
set_option linter.unusedSectionVars false
set_option linter.unusedSimpArgs false
set_option linter.unusedVariables false
set_option maxHeartbeats 4000000
namespace Go.Proofs.YthpbakljheeabaaGreatDoor
open Go.Fw Go.Fw.Rg
set_option maxRecDepth 10000
variable [af]
theorem Uy(x:Int)  : PCall Tryz.prog 114 [.i x] (.ret (.i (qg x))):=by
 refine ae tok hmix ⟨[],[]⟩ Tryz.func114 rfl (by kernel_rfl) (by kernel_rfl) (by kernel_rfl) λhf=>?_
 clear hf
 repeat' ((try(conv=>whnf))<;>first
  |refine BrI.intro (λh=>?_) (λh=>?_)
  |((refine aj ?_);refine⟨[],rfl,?_,trivial⟩;conv=>whnf)
  |fail)
 all_goals first
  |((refine congrArg D.i ?_;unfold qg;simp only[decide_eq_true_eq,decide_eq_false_iff_not]at *;(repeat' split)<;>omega))
  |skip
theorem Hm(a n:Int)(ha:inW a=true)(hn:1<=n)(hn2:n<=2147483648):PCall Tryz.prog 125 [.i a,.i n] (.ret (.i (oQ a n))):=by
 refine ae tok hmix ⟨[],[]⟩ Tryz.func125 rfl (by kernel_rfl) (by kernel_rfl) (by kernel_rfl) λhf=>?_
 clear hf
 repeat' ((try(conv=>whnf))<;>first
  |refine BrI.intro (λh=>?_) (λh=>?_)
  |((refine aj ?_);refine⟨[],rfl,?_,trivial⟩;conv=>whnf)
  |(refine And.intro ?_ ?_)
  |fail)
 all_goals first
  |(omega)
  |((exact congrArg D.i (VQ hn hn2 ha (of_decide_eq_true h))))
  |((exact congrArg D.i (VR hn ha (of_decide_eq_false h))))
  |skip
theorem ML(a b:Int)(hc:z8i a b=false)(hw:IntKind.i64.wrap (a+b)=a+b):PCall Tryz.prog 120 [.i a,.i b] (.ret (.i (a+b))):=by
 refine ae tok hmix ⟨[],[]⟩ Tryz.func120 rfl (by kernel_rfl) (by kernel_rfl) (by kernel_rfl) λhf=>?_
 clear hf
 repeat' ((try(conv=>whnf))<;>first
  |refine BrI.intro (λh=>?_) (λh=>?_)
  |(exact Bool.noConfusion (hc.symm.trans h))
  |((refine aj ?_);refine⟨[],rfl,?_,trivial⟩;conv=>whnf)
  |fail)
 all_goals first
  |((exact congrArg D.i hw))
  |skip
theorem add_bad(a b:Int)(hc:z8i a b=true):PCall Tryz.prog 120 [.i a,.i b] (.pan (.iface 30 (.i 160))):=by
 refine ae tok hmix ⟨[],[]⟩ Tryz.func120 rfl (by kernel_rfl) (by kernel_rfl) (by kernel_rfl) λhf=>?_
 clear hf
 repeat' ((try(conv=>whnf))<;>first
  |refine BrI.intro (λh=>?_) (λh=>?_)
  |(exact Bool.noConfusion (hc.symm.trans h))
  |((refine xC ?_);refine⟨[],rfl,?_,trivial⟩;conv=>whnf)
  |fail)
 all_goals first
  |skip
theorem z1p(n:Int)(f:Bool)(hc:Ov n f=false):PCall Tryz.prog 129 [.i n,.b f] (.ret (.i n)):=by
 refine ae tok hmix ⟨[],[]⟩ Tryz.func129 rfl (by kernel_rfl) (by kernel_rfl) (by kernel_rfl) λhf=>?_
 clear hf
 repeat' ((try(conv=>whnf))<;>first
  |refine BrI.intro (λh=>?_) (λh=>?_)
  |(exact Bool.noConfusion (hc.symm.trans h))
  |((refine aj ?_);refine⟨[],rfl,?_,trivial⟩;conv=>whnf)
  |fail)
 all_goals first
  |skip
theorem Xq(n:Int)(f:Bool)(hc:Ov n f=true):PCall Tryz.prog 129 [.i n,.b f] (.pan (.iface 30 (.i 160))):=by
 refine ae tok hmix ⟨[],[]⟩ Tryz.func129 rfl (by kernel_rfl) (by kernel_rfl) (by kernel_rfl) λhf=>?_
 clear hf
 repeat' ((try(conv=>whnf))<;>first
  |refine BrI.intro (λh=>?_) (λh=>?_)
  |(exact Bool.noConfusion (hc.symm.trans h))
  |((refine xC ?_);refine⟨[],rfl,?_,trivial⟩;conv=>whnf)
  |fail)
 all_goals first
  |skip
theorem mul_zero(a b:Int)(hz:X6 a b=true):PCall Tryz.prog 123 [.i a,.i b] (.ret (.i 0)):=by
 refine ae tok hmix ⟨[],[]⟩ Tryz.func123 rfl (by kernel_rfl) (by kernel_rfl) (by kernel_rfl) λhf=>?_
 clear hf
 repeat' ((try(conv=>whnf))<;>first
  |refine BrI.intro (λh=>?_) (λh=>?_)
  |(exact Bool.noConfusion (hz.symm.trans h))
  |((refine aj ?_);refine⟨[],rfl,?_,trivial⟩;conv=>whnf)
  |fail)
 all_goals first
  |skip
theorem z6v(a b:Int)(hz:X6 a b=false)(hb:b≠0)(hq:mm2 true b (IntKind.i64.wrap (0-b))≠0)(hw:Ov (IntKind.i64.wrap (a * b)) (z4f a b)=false):PCall Tryz.prog 123 [.i a,.i b] (.ret (.i (IntKind.i64.wrap (a * b)))):=by
 refine ae tok hmix ⟨[],[]⟩ Tryz.func123 rfl (by kernel_rfl) (by kernel_rfl) (by kernel_rfl) λhf=>?_
 clear hf
 repeat' ((try(conv=>whnf))<;>first
  |refine BrI.intro (λh=>?_) (λh=>?_)
  |(exact Bool.noConfusion (hz.symm.trans h))
  |((refine ax ?_ ?_ ?_);rotate_left;(exact z1p _ _ hw))
  |((refine bG ?_ ?_ (λhg=>?_) ?_);exact rfl)
  |((refine dJ ?_ ?_);exact rfl;exact rfl)
  |((refine fO ?_ ?_);exact rfl)
  |((refine aj ?_);refine⟨[],rfl,?_,trivial⟩;conv=>whnf)
  |(refine And.intro ?_ ?_)
  |fail)
 all_goals first
  |((exact hb))
  |((exact hq))
  |skip
theorem z1q(a b:Int)(hz:X6 a b=false)(hb:b≠0)(hq:mm2 true b (IntKind.i64.wrap (0-b))≠0)(hw:Ov (IntKind.i64.wrap (a * b)) (z4f a b)=true):PCall Tryz.prog 123 [.i a,.i b] (.pan (.iface 30 (.i 160))):=by
 refine ae tok hmix ⟨[],[]⟩ Tryz.func123 rfl (by kernel_rfl) (by kernel_rfl) (by kernel_rfl) λhf=>?_
 clear hf
 repeat' ((try(conv=>whnf))<;>first
  |refine BrI.intro (λh=>?_) (λh=>?_)
  |(exact Bool.noConfusion (hz.symm.trans h))
  |((refine ax ?_ ?_ ?_);rotate_left;(exact Xq _ _ hw))
  |((refine bG ?_ ?_ (λhg=>?_) ?_);exact rfl)
  |((refine dJ ?_ ?_);exact rfl;exact rfl)
  |((refine xC ?_);refine⟨[],rfl,?_,trivial⟩;conv=>whnf)
  |(refine And.intro ?_ ?_)
  |fail)
 all_goals first
  |((exact hb))
  |((exact hq))
  |skip
abbrev fC(p:Pr)(found:List Sp):List D:=[.str p.name,.i p.latency,.i p.tail,.sl 3 (p.params.map Bd.cs),.sl 3 (p.states.map Bd.cs),.sl 4 (p.lines.map Ln.cs),.sl 2 (p.tables.map Tb.cs),.sl 8 (p.stmts.map Sm.cs),.sl 2 (found.map Sp.cs)]
theorem uC(a b c:Int)(hc:c=b)(ha:inW a=true)(hb:inW b=true):PCall Tryz.prog 120 [.i a,.i c] (z8j 30 (okW (a+b))):=by
 subst hc
 unfold okW
 cases hw:inW (a+c)with
 |true=>exact ML a c (by rw[Rw ha hb,hw];rfl) (nG hw)
 |false=>exact add_bad a c (by rw[Rw ha hb,hw];rfl)
theorem uD(a b:Int)(ha:inW a=true)(hb:inW b=true):PCall Tryz.prog 123 [.i a,.i b] (z8j 30 (okW (a * b))):=by
 cases hz:X6 a b with
 |true=>rw[ZJ hz];exact mul_zero a b hz
 |false=>
  have hb0:=ZK hz
  have hq:mm2 true b (IntKind.i64.wrap (0-b))≠0:=by rw[gY hb,Ja];omega
  unfold okW
  cases hw:inW (a * b)with
  |true=>
   have:=z6v a b hz hb0 hq (by rw[LD ha hb hb0,hw];rfl)
   rw[nG hw]at this;exact this
  |false=>exact z1q a b hz hb0 hq (by rw[LD ha hb hb0,hw];rfl)
theorem op1(p:Pr)(found:List Sp)(x:Ex)  : PCall Tryz.prog 106 [.ptr (fC p found),x.d,.sl 2 []] (.ret (Sp.d (x.n,x.n))):=by
 refine ae tok hmix ⟨[],[]⟩ Tryz.func106 rfl (by kernel_rfl) (by kernel_rfl) (by kernel_rfl) λhf=>?_
 clear hf
 repeat' ((try(conv=>whnf))<;>first
  |((refine aj ?_);refine⟨[],rfl,?_,trivial⟩;conv=>whnf)
  |fail)
 all_goals first
  |skip
theorem op3(p:Pr)(found:List Sp)(x:Ex)(h0:0<=x.index)(h1:x.index<p.params.length):PCall Tryz.prog 107 [.ptr (fC p found),x.d,.sl 2 []] (.ret (Sp.d ((jJ p x.index).lo,(jJ p x.index).hi))):=by
 refine ae tok hmix ⟨[],[]⟩ Tryz.func107 rfl (by kernel_rfl) (by kernel_rfl) (by kernel_rfl) λhf=>?_
 clear hf
 repeat' ((try(conv=>whnf))<;>first
  |((refine kP Rg.Bd.none ?_ ?_ h0 h1 ?_);exact rfl;exact rfl)
  |((refine az ?_ ?_);kernel_rfl)
  |((refine aj ?_);refine⟨[],rfl,?_,trivial⟩;conv=>whnf)
  |fail)
 all_goals first
  |skip
theorem op4(p:Pr)(found:List Sp)(x:Ex)(h0:0<=x.index)(h1:x.index<p.states.length):PCall Tryz.prog 108 [.ptr (fC p found),x.d,.sl 2 []] (.ret (Sp.d ((bU p x.index).lo,(bU p x.index).hi))):=by
 refine ae tok hmix ⟨[],[]⟩ Tryz.func108 rfl (by kernel_rfl) (by kernel_rfl) (by kernel_rfl) λhf=>?_
 clear hf
 repeat' ((try(conv=>whnf))<;>first
  |((refine kP Rg.Bd.none ?_ ?_ h0 h1 ?_);exact rfl;exact rfl)
  |((refine az ?_ ?_);kernel_rfl)
  |((refine aj ?_);refine⟨[],rfl,?_,trivial⟩;conv=>whnf)
  |fail)
 all_goals first
  |skip
theorem op5(p:Pr)(found:List Sp)(x:Ex)(h0:0<=x.index)(h1:x.index<found.length):PCall Tryz.prog 109 [.ptr (fC p found),x.d,.sl 2 []] (.ret (Sp.d (found.getD x.index.toNat (0,0)))):=by
 refine ae tok hmix ⟨[],[]⟩ Tryz.func109 rfl (by kernel_rfl) (by kernel_rfl) (by kernel_rfl) λhf=>?_
 clear hf
 repeat' ((try(conv=>whnf))<;>first
  |((refine kP ((0,0):Sp) ?_ ?_ h0 h1 ?_);exact rfl;exact rfl)
  |((refine aP ?_ ?_);exact rfl)
  |((refine az ?_ ?_);kernel_rfl)
  |((refine aj ?_);refine⟨[],rfl,?_,trivial⟩;conv=>whnf)
  |fail)
 all_goals first
  |skip
theorem YI(p:Pr)(found:List Sp)(x:Ex)(a:Sp)(hc:(decide (a.1<0) || decide (a.2>4096))=false):PCall Tryz.prog 110 [.ptr (fC p found),x.d,.sl 2 [[.i a.1,.i a.2]]] (.ret (Sp.d (-2147483648,2147483647))):=by
 refine ae tok hmix ⟨[],[]⟩ Tryz.func110 rfl (by kernel_rfl) (by kernel_rfl) (by kernel_rfl) λhf=>?_
 clear hf
 repeat' ((try(conv=>whnf))<;>first
  |refine BrI.intro (λh=>?_) (λh=>?_)
  |(exact Bool.noConfusion (hc.symm.trans ((FY _ _).symm.trans h)))
  |((refine jK ?_ ?_ ?_ ?_);exact rfl;exact rfl;exact rfl)
  |((refine aP ?_ ?_);exact rfl)
  |((refine bG ?_ ?_ (λhg=>?_) ?_);exact rfl)
  |((refine dJ ?_ ?_);exact rfl;exact rfl)
  |((refine aj ?_);refine⟨[],rfl,?_,trivial⟩;conv=>whnf)
  |(refine And.intro ?_ ?_)
  |fail)
 all_goals first
  |(decide)
  |skip
theorem Uz(p:Pr)(found:List Sp)(x:Ex)(a:Sp)(hc:(decide (a.1<0) || decide (a.2>4096))=true):PCall Tryz.prog 110 [.ptr (fC p found),x.d,.sl 2 [[.i a.1,.i a.2]]] (.pan (.iface 30 (.i 161))):=by
 refine ae tok hmix ⟨[],[]⟩ Tryz.func110 rfl (by kernel_rfl) (by kernel_rfl) (by kernel_rfl) λhf=>?_
 clear hf
 repeat' ((try(conv=>whnf))<;>first
  |refine BrI.intro (λh=>?_) (λh=>?_)
  |(exact Bool.noConfusion (hc.symm.trans ((FY _ _).symm.trans h)))
  |((refine jK ?_ ?_ ?_ ?_);exact rfl;exact rfl;exact rfl)
  |((refine bG ?_ ?_ (λhg=>?_) ?_);exact rfl)
  |((refine dJ ?_ ?_);exact rfl;exact rfl)
  |((refine xC ?_);refine⟨[],rfl,?_,trivial⟩;conv=>whnf)
  |(refine And.intro ?_ ?_)
  |fail)
 all_goals first
  |(decide)
  |skip
theorem op8(p:Pr)(found:List Sp)(x:Ex)(a:Sp)(h0:0<=x.index)(h1:x.index<p.lines.length):PCall Tryz.prog 111 [.ptr (fC p found),x.d,.sl 2 [[.i a.1,.i a.2]]] (.ret (Sp.d (mm2 false (bY p x.index).lo 0,mm2 true (bY p x.index).hi 0))):=by
 refine ae tok hmix ⟨[],[]⟩ Tryz.func111 rfl (by kernel_rfl) (by kernel_rfl) (by kernel_rfl) λhf=>?_
 clear hf
 repeat' ((try(conv=>whnf))<;>first
  |((refine kP Rg.Ln.none ?_ ?_ h0 h1 ?_);exact rfl;exact rfl)
  |((refine az ?_ ?_);kernel_rfl)
  |((refine aj ?_);refine⟨[],rfl,?_,trivial⟩;conv=>whnf)
  |fail)
 all_goals first
  |skip
theorem op9(p:Pr)(found:List Sp)(x:Ex)(a:Sp)(h0:0<=x.index)(h1:x.index<p.tables.length)(hv:0<(aO p x.index).length)(hvl:(aO p x.index).length<=1073741824):PCall Tryz.prog 112 [.ptr (fC p found),x.d,.sl 2 [[.i a.1,.i a.2]]] (.ret (Sp.d (minL ((aO p x.index).getD 0 0) (aO p x.index),maxL ((aO p x.index).getD 0 0) (aO p x.index)))):=by
 refine ae tok hmix ⟨[],[]⟩ Tryz.func112 rfl (by kernel_rfl) (by kernel_rfl) (by kernel_rfl) λhf=>?_
 have hlen:(aO p x.index).length<=9223372036854775807:=by omega
 clear hf
 repeat' ((try(conv=>whnf))<;>first
  |exact trivial
  |exact au hd0 ‹_›
  |refine bu hd0 ?_
  |refine aN hd0 ?_
  |((refine kP Rg.Tb.none ?_ ?_ h0 h1 ?_);exact rfl;exact rfl)
  |((refine kP (f:=eG) (n:=0) (0:Int) ?_ ?_ ?_ ?_ ?_);exact rfl;exact rfl;exact Int.le_refl _;exact Int.ofNat_lt.2 hv)
  |((refine aB.mk 0 ?_);refine⟨aJ ((aO p x.index)) 30 (λ(q:(Int)×(Int))=>match q with |(lo,hi)=>[]) (λ(q:(Int)×(Int))=>match q with |(lo,hi)=>[(8,.cells [.data (.i lo),.data (.i hi)])]) [6,8,28,29] (λi0 r0 q=>match q with |(lo,hi)=>minL ((aO p x.index).getD 0 0) (aO p x.index)=minL lo r0/\maxL ((aO p x.index).getD 0 0) (aO p x.index)=maxL hi r0),?_⟩;refine ah (((aO p x.index).getD 0 0),((aO p x.index).getD 0 0)) ?_ ?_ (λi0 ⟨lo,hi⟩ hd0 hI0=>?_) (λi0 x0 r0 ⟨lo,hi⟩ hd0 hl0 hI0=>?_))
  |(refine ai hd0 ((mm2 false lo x0),(mm2 true hi x0)) ?_ ?_)
  |((refine aH ?_ ?_ ?_ ?_ ?_);exact rfl;exact rfl;rotate_left;(exact aF hd0))
  |((refine az ?_ ?_);kernel_rfl)
  |((refine aj ?_);refine⟨[],rfl,?_,trivial⟩;conv=>whnf)
  |(refine And.intro ?_ ?_)
  |exact @rfl AV _
  |fail)
 all_goals first
  |(rfl)
  |(decide)
  |((exact hI0.1))
  |((exact hI0.2))
  |((rw[hI0.1,hI0.2];rfl))
  |skip
theorem zal(p:Pr)(found:List Sp)(x:Ex)(a:Sp)  : PCall Tryz.prog 113 [.ptr (fC p found),x.d,.sl 2 [[.i a.1,.i a.2]]] (.ret (Sp.d (qg a.1,qg a.2))):=by
 refine ae tok hmix ⟨[],[]⟩ Tryz.func113 rfl (by kernel_rfl) (by kernel_rfl) (by kernel_rfl) λhf=>?_
 clear hf
 repeat' ((try(conv=>whnf))<;>first
  |((refine jK ?_ ?_ ?_ ?_);exact rfl;exact rfl;exact rfl)
  |((refine ax ?_ ?_ ?_);rotate_left;(exact Uy _))
  |((refine az ?_ ?_);kernel_rfl)
  |((refine aj ?_);refine⟨[],rfl,?_,trivial⟩;conv=>whnf)
  |(refine And.intro ?_ ?_)
  |fail)
 all_goals first
  |(decide)
  |skip
theorem zam(p:Pr)(found:List Sp)(x:Ex)(a b:Sp)  : PCall Tryz.prog 115 [.ptr (fC p found),x.d,.sl 2 [[.i a.1,.i a.2],[.i b.1,.i b.2]]] (.ret (Sp.d (mm2 false a.1 b.1,mm2 false a.2 b.2))):=by
 refine ae tok hmix ⟨[],[]⟩ Tryz.func115 rfl (by kernel_rfl) (by kernel_rfl) (by kernel_rfl) λhf=>?_
 clear hf
 repeat' ((try(conv=>whnf))<;>first
  |((refine jK ?_ ?_ ?_ ?_);exact rfl;exact rfl;exact rfl)
  |((refine az ?_ ?_);kernel_rfl)
  |((refine aj ?_);refine⟨[],rfl,?_,trivial⟩;conv=>whnf)
  |(refine And.intro ?_ ?_)
  |fail)
 all_goals first
  |(decide)
  |skip
theorem zan(p:Pr)(found:List Sp)(x:Ex)(a b:Sp)  : PCall Tryz.prog 116 [.ptr (fC p found),x.d,.sl 2 [[.i a.1,.i a.2],[.i b.1,.i b.2]]] (.ret (Sp.d (mm2 true a.1 b.1,mm2 true a.2 b.2))):=by
 refine ae tok hmix ⟨[],[]⟩ Tryz.func116 rfl (by kernel_rfl) (by kernel_rfl) (by kernel_rfl) λhf=>?_
 clear hf
 repeat' ((try(conv=>whnf))<;>first
  |((refine jK ?_ ?_ ?_ ?_);exact rfl;exact rfl;exact rfl)
  |((refine az ?_ ?_);kernel_rfl)
  |((refine aj ?_);refine⟨[],rfl,?_,trivial⟩;conv=>whnf)
  |(refine And.intro ?_ ?_)
  |fail)
 all_goals first
  |(decide)
  |skip
theorem zao(p:Pr)(found:List Sp)(x:Ex)(a:Sp)(ha:inW a.1=true)(hb:inW a.2=true):PCall Tryz.prog 117 [.ptr (fC p found),x.d,.sl 2 [[.i a.1,.i a.2]]] (.ret (Sp.d (Ru a))):=by
 refine ae tok hmix ⟨[],[]⟩ Tryz.func117 rfl (by kernel_rfl) (by kernel_rfl) (by kernel_rfl) λhf=>?_
 clear hf
 repeat' ((try(conv=>whnf))<;>first
  |refine BrI.intro (λh=>?_) (λh=>?_)
  |((refine jK ?_ ?_ ?_ ?_);exact rfl;exact rfl;exact rfl)
  |((refine aP ?_ ?_);exact rfl)
  |((refine az ?_ ?_);kernel_rfl)
  |((refine aj ?_);refine⟨[],rfl,?_,trivial⟩;conv=>whnf)
  |(refine And.intro ?_ ?_)
  |fail)
 all_goals first
  |(decide)
  |((refine congrArg Sp.d ?_;unfold Ru;rw[if_pos (of_decide_eq_true h)];done))
  |((unfold Ru;rw[if_neg (of_decide_eq_false ‹decide (a.1>=0)=false›),if_pos (of_decide_eq_true h),gY ha,gY hb];done))
  |((unfold Ru;rw[if_neg (of_decide_eq_false ‹decide (a.1>=0)=false›),if_neg (of_decide_eq_false h),gY ha];done))
  |skip
theorem zaq(p:Pr)(found:List Sp)(x:Ex)(a:Sp)(ha:inW a.1=true)(hb:inW a.2=true):PCall Tryz.prog 118 [.ptr (fC p found),x.d,.sl 2 [[.i a.1,.i a.2]]] (.ret (Sp.d (-a.2,-a.1))):=by
 refine ae tok hmix ⟨[],[]⟩ Tryz.func118 rfl (by kernel_rfl) (by kernel_rfl) (by kernel_rfl) λhf=>?_
 clear hf
 repeat' ((try(conv=>whnf))<;>first
  |((refine jK ?_ ?_ ?_ ?_);exact rfl;exact rfl;exact rfl)
  |((refine az ?_ ?_);kernel_rfl)
  |((refine aj ?_);refine⟨[],rfl,?_,trivial⟩;conv=>whnf)
  |(refine And.intro ?_ ?_)
  |fail)
 all_goals first
  |(decide)
  |((rw[gY ha,gY hb];done))
  |skip
theorem zar(p:Pr)(found:List Sp)(x:Ex)(a b:Sp)(ha:inW a.1=true/\inW a.2=true)(hb:inW b.1=true/\inW b.2=true):PCall Tryz.prog 119 [.ptr (fC p found),x.d,.sl 2 [[.i a.1,.i a.2],[.i b.1,.i b.2]]] (Ry 30 (two (a.1+b.1) (a.2+b.2))):=by
 refine ae tok hmix ⟨[],[]⟩ Tryz.func119 rfl (by kernel_rfl) (by kernel_rfl) (by kernel_rfl) λhf=>?_
 clear hf
 repeat' ((try(conv=>whnf))<;>first
  |((refine gJ _ _ _ [false,false,false,false,false,false,false,false,true,true,true] ?_ ?_ ?_);exact rfl;kernel_rfl)
  |((refine gJ _ _ _ [true,true] ?_ ?_ ?_);exact rfl;kernel_rfl)
  |((refine quiet_step ?_ ?_);kernel_rfl)
  |(refine jD (uC a.1 b.1 _ rfl ha.1 hb.1) (λn1 q1=>?_) (λe1 q1=>?_))
  |(refine jD (uC a.2 b.2 _ rfl ha.2 hb.2) (λn2 q2=>?_) (λe2 q2=>?_))
  |((refine DF (n1,n2) (X7 q1 q2) ?_);refine⟨[],rfl,?_,trivial⟩;conv=>whnf)
  |((refine lV e1 (X8 q1) ?_);refine⟨[],rfl,?_,trivial⟩;conv=>whnf)
  |((refine lV e2 (X9 q2) ?_);refine⟨[],rfl,?_,trivial⟩;conv=>whnf)
  |((refine jK ?_ ?_ ?_ ?_);exact rfl;exact rfl;exact rfl)
  |((refine az ?_ ?_);kernel_rfl)
  |((refine kM ?_ ?_);kernel_rfl)
  |(refine And.intro ?_ ?_)
  |fail)
 all_goals first
  |(decide)
  |skip
theorem zas(p:Pr)(found:List Sp)(x:Ex)(a b:Sp)(ha:inW a.1=true/\inW a.2=true)(hb:inW b.1=true/\inW b.2=true):PCall Tryz.prog 121 [.ptr (fC p found),x.d,.sl 2 [[.i a.1,.i a.2],[.i b.1,.i b.2]]] (Ry 30 (two (a.1 + -b.2) (a.2 + -b.1))):=by
 refine ae tok hmix ⟨[],[]⟩ Tryz.func121 rfl (by kernel_rfl) (by kernel_rfl) (by kernel_rfl) λhf=>?_
 clear hf
 repeat' ((try(conv=>whnf))<;>first
  |((refine gJ _ _ _ [false,false,false,false,false,false,false,false,false,true,true,true] ?_ ?_ ?_);exact rfl;kernel_rfl)
  |((refine gJ _ _ _ [true,true] ?_ ?_ ?_);exact rfl;kernel_rfl)
  |((refine quiet_step ?_ ?_);kernel_rfl)
  |(refine jD (uC a.1 (-b.2) _ (gY hb.2) ha.1 (tY hb.2)) (λn1 q1=>?_) (λe1 q1=>?_))
  |(refine jD (uC a.2 (-b.1) _ (gY hb.1) ha.2 (tY hb.1)) (λn2 q2=>?_) (λe2 q2=>?_))
  |((refine DF (n1,n2) (X7 q1 q2) ?_);refine⟨[],rfl,?_,trivial⟩;conv=>whnf)
  |((refine lV e1 (X8 q1) ?_);refine⟨[],rfl,?_,trivial⟩;conv=>whnf)
  |((refine lV e2 (X9 q2) ?_);refine⟨[],rfl,?_,trivial⟩;conv=>whnf)
  |((refine jK ?_ ?_ ?_ ?_);exact rfl;exact rfl;exact rfl)
  |((refine az ?_ ?_);kernel_rfl)
  |((refine kM ?_ ?_);kernel_rfl)
  |(refine And.intro ?_ ?_)
  |fail)
 all_goals first
  |(decide)
  |skip
theorem zat(p:Pr)(found:List Sp)(x:Ex)(a b:Sp)(ha:inW a.1=true/\inW a.2=true)(hb:inW b.1=true/\inW b.2=true):PCall Tryz.prog 122 [.ptr (fC p found),x.d,.sl 2 [[.i a.1,.i a.2],[.i b.1,.i b.2]]] (Ry 30 (prodM a b)):=by
 refine ae tok hmix ⟨[],[]⟩ Tryz.func122 rfl (by kernel_rfl) (by kernel_rfl) (by kernel_rfl) λhf=>?_
 clear hf
 repeat' ((try(conv=>whnf))<;>first
  |((refine gJ _ _ _ [false,false,false,false,false,false,false,false,true,false,false,false,false,false,false,false,false,true,false,false,false,false,false,false,false,false,true,true,true,true,true] ?_ ?_ ?_);exact rfl;kernel_rfl)
  |((refine gJ _ _ _ [false,false,false,false,false,false,false,false,true,false,false,false,false,false,false,false,false,true,true,true,true,true] ?_ ?_ ?_);exact rfl;kernel_rfl)
  |((refine gJ _ _ _ [false,false,false,false,false,false,false,false,true,true,true,true,true] ?_ ?_ ?_);exact rfl;kernel_rfl)
  |((refine gJ _ _ _ [true,true,true,true] ?_ ?_ ?_);exact rfl;kernel_rfl)
  |((refine quiet_step ?_ ?_);kernel_rfl)
  |(refine jD (uD a.1 b.1 ha.1 hb.1) (λn1 q1=>?_) (λe1 q1=>?_))
  |(refine jD (uD a.1 b.2 ha.1 hb.2) (λn2 q2=>?_) (λe2 q2=>?_))
  |(refine jD (uD a.2 b.1 ha.2 hb.1) (λn3 q3=>?_) (λe3 q3=>?_))
  |(refine jD (uD a.2 b.2 ha.2 hb.2) (λn4 q4=>?_) (λe4 q4=>?_))
  |((refine DF (Lt n1 n2 n3 n4,Lu n1 n2 n3 n4) (ZL q1 q2 q3 q4) ?_);refine⟨[],rfl,?_,trivial⟩;conv=>whnf)
  |((refine lV e1 (xG (.inl q1)) ?_);refine⟨[],rfl,?_,trivial⟩;conv=>whnf)
  |((refine lV e2 (xG (.inr (.inl q2))) ?_);refine⟨[],rfl,?_,trivial⟩;conv=>whnf)
  |((refine lV e3 (xG (.inr (.inr (.inl q3)))) ?_);refine⟨[],rfl,?_,trivial⟩;conv=>whnf)
  |((refine lV e4 (xG (.inr (.inr (.inr q4)))) ?_);refine⟨[],rfl,?_,trivial⟩;conv=>whnf)
  |((refine jK ?_ ?_ ?_ ?_);exact rfl;exact rfl;exact rfl)
  |((refine az ?_ ?_);kernel_rfl)
  |((refine kM ?_ ?_);kernel_rfl)
  |(refine And.intro ?_ ?_)
  |fail)
 all_goals first
  |(rfl)
  |(decide)
  |skip
theorem zau(p:Pr)(found:List Sp)(x:Ex)(a:Sp)(ha:inW a.1=true)(hb:inW a.2=true)(hn:1<=x.n)(hn2:x.n<=2147483648):PCall Tryz.prog 124 [.ptr (fC p found),x.d,.sl 2 [[.i a.1,.i a.2]]] (.ret (Sp.d (oQ a.1 x.n,oQ a.2 x.n))):=by
 refine ae tok hmix ⟨[],[]⟩ Tryz.func124 rfl (by kernel_rfl) (by kernel_rfl) (by kernel_rfl) λhf=>?_
 clear hf
 repeat' ((try(conv=>whnf))<;>first
  |((refine jK ?_ ?_ ?_ ?_);exact rfl;exact rfl;exact rfl)
  |((refine ax ?_ ?_ ?_);rotate_left;(first |exact Hm _ _ (by assumption) (by assumption) (by assumption) |exact Hm a.1 x.n ha hn hn2))
  |((refine az ?_ ?_);kernel_rfl)
  |((refine aj ?_);refine⟨[],rfl,?_,trivial⟩;conv=>whnf)
  |(refine And.intro ?_ ?_)
  |fail)
 all_goals first
  |(decide)
  |skip
theorem zav(p:Pr)(found:List Sp)(x:Ex)(a b c d:Sp)  : PCall Tryz.prog 126 [.ptr (fC p found),x.d,.sl 2 [[.i a.1,.i a.2],[.i b.1,.i b.2],[.i c.1,.i c.2],[.i d.1,.i d.2]]] (.ret (Sp.d (mm2 false c.1 d.1,mm2 true c.2 d.2))):=by
 refine ae tok hmix ⟨[],[]⟩ Tryz.func126 rfl (by kernel_rfl) (by kernel_rfl) (by kernel_rfl) λhf=>?_
 clear hf
 repeat' ((try(conv=>whnf))<;>first
  |((refine jK ?_ ?_ ?_ ?_);exact rfl;exact rfl;exact rfl)
  |((refine az ?_ ?_);kernel_rfl)
  |((refine aj ?_);refine⟨[],rfl,?_,trivial⟩;conv=>whnf)
  |(refine And.intro ?_ ?_)
  |fail)
 all_goals first
  |(decide)
  |skip
abbrev z9p:List D:=[.val .nilFunc,.fn 106 [],.val .nilFunc,.fn 107 [],.fn 108 [],.fn 109 [],.fn 110 [],.fn 110 [],.fn 111 [],.fn 112 [],.fn 113 [],.fn 115 [],.fn 116 [],.fn 117 [],.fn 118 [],.fn 119 [],.fn 121 [],.fn 122 [],.fn 124 [],.fn 126 []]
def opF(k:Int):Nat:=match z9p.getD k.toNat (.val .nilFunc)with | .fn f _=>f |_=>0
theorem zT   : PCall Tryz.prog 95 [] (.ret (.agg z9p)):=by
 refine ae tok hmix ⟨[],[]⟩ Tryz.func95 rfl (by kernel_rfl) (by kernel_rfl) (by kernel_rfl) λhf=>?_
 clear hf
 repeat' ((try(conv=>whnf))<;>first
  |((refine aj ?_);refine⟨[],rfl,?_,trivial⟩;conv=>whnf)
  |fail)
 all_goals first
  |skip
theorem UA{p:Pr}{n:Nat}{k i m:Int}(hw:uG p n k i m=true){q:D->Prop}(h:q (.fn (opF k) [])):∃c,(0<=k/\z9p[k.toNat]? = some c)/\q c:=by
 rcases kinds hw with rfl |rfl |rfl |rfl |rfl |rfl |rfl |rfl |rfl |rfl |rfl |rfl |rfl |rfl |rfl |rfl |rfl |rfl<;>exact⟨_,⟨by decide,rfl⟩,h⟩
theorem z9q{p:Pr}{n:Nat}{k i m:Int}(hw:uG p n k i m=true):Nat.beq (opF k) zX=false:=by
 rcases kinds hw with rfl |rfl |rfl |rfl |rfl |rfl |rfl |rfl |rfl |rfl |rfl |rfl |rfl |rfl |rfl |rfl |rfl |rfl<;>rfl
theorem Xr{b:Bool}{p q:Prop}:b=false->p->(match b with |true=>q |false=>p):=by intro h h2;subst h;exact h2
theorem z1r(p:Pr)(found:List Sp)(x:Ex)(sl:List Sp)(hR:Rng p)(hT:∀t∈p.tables,t.values.length<=1073741824)(hw:wfX p found.length x=true)(hl:sl.length=x.l.length)(hs:InS sl) :
  PCall Tryz.prog (opF x.kind) [.ptr (fC p found),x.d,.sl 2 (sl.map Sp.cs)] (Ry 30 (opM p found x.kind x.index x.n sl)):=by
 obtain⟨h1,h2,_⟩:=bQ hw
 rw[<-hl]at h1
 generalize hk:x.kind=k at h1 h2
 have nil:(sl.length:Int)=0->sl = []:=λh=>List.length_eq_zero_iff.1 (by omega)
 rcases kinds h2 with rfl |rfl |rfl |rfl |rfl |rfl |rfl |rfl |rfl |rfl |rfl |rfl |rfl |rfl |rfl |rfl |rfl |rfl
 ·obtain rfl:=nil h1
  exact op1 p found x
 ·obtain rfl:=nil h1
  have h2:(decide (0<=x.index)&&decide (x.index<p.params.length))=true:=h2
  simp only[Bool.and_eq_true,decide_eq_true_eq]at h2
  exact op3 p found x h2.1 h2.2
 ·obtain rfl:=nil h1
  have h2:(decide (0<=x.index)&&decide (x.index<p.states.length))=true:=h2
  simp only[Bool.and_eq_true,decide_eq_true_eq]at h2
  exact op4 p found x h2.1 h2.2
 ·obtain rfl:=nil h1
  have h2:(decide (0<=x.index)&&decide (x.index<found.length))=true:=h2
  simp only[Bool.and_eq_true,decide_eq_true_eq]at h2
  exact op5 p found x h2.1 h2.2
 ·obtain⟨a,rfl⟩:=zy (sl:=sl) (by have h1:(sl.length:Int)=1:=h1;omega)
  show PCall Tryz.prog _ _ (Ry _ (aheadM a))
  unfold aheadM
  cases hc:(decide (a.1<0) || decide (a.2>4096))with
  |true=>exact Uz p found x a hc
  |false=>exact YI p found x a hc
 ·obtain⟨a,rfl⟩:=zy (sl:=sl) (by have h1:(sl.length:Int)=1:=h1;omega)
  show PCall Tryz.prog _ _ (Ry _ (aheadM a))
  unfold aheadM
  cases hc:(decide (a.1<0) || decide (a.2>4096))with
  |true=>exact Uz p found x a hc
  |false=>exact YI p found x a hc
 ·have h1:(sl.length:Int)=1:=h1
  have h2:(decide (0<=x.index)&&decide (x.index<p.lines.length))=true:=h2
  simp only[Bool.and_eq_true,decide_eq_true_eq]at h2
  obtain⟨a,rfl⟩:=zy (sl:=sl) (by omega)
  exact op8 p found x a h2.1 h2.2
 ·have h1:(sl.length:Int)=1:=h1
  have h2:(decide (0<=x.index)&&decide (x.index<p.tables.length) && !(aO p x.index==[]))=true:=h2
  simp only[Bool.and_eq_true,decide_eq_true_eq]at h2
  obtain⟨a,rfl⟩:=zy (sl:=sl) (by omega)
  have h3:aO p x.index ≠ []:=by simpa using h2.2
  exact op9 p found x a h2.1.1 h2.1.2 (List.length_pos_iff.2 h3) (hT _ (getD_mem' Rg.Tb.none h2.1.1 h2.1.2))
 ·obtain⟨a,rfl⟩:=zy (sl:=sl) (by have h1:(sl.length:Int)=1:=h1;omega)
  exact zal p found x a
 ·obtain⟨a,b,rfl⟩:=RF (sl:=sl) (by have h1:(sl.length:Int)=2:=h1;omega)
  exact zam p found x a b
 ·obtain⟨a,b,rfl⟩:=RF (sl:=sl) (by have h1:(sl.length:Int)=2:=h1;omega)
  exact zan p found x a b
 ·obtain⟨a,rfl⟩:=zy (sl:=sl) (by have h1:(sl.length:Int)=1:=h1;omega)
  exact zao p found x a (hs a (by simp)).1 (hs a (by simp)).2
 ·obtain⟨a,rfl⟩:=zy (sl:=sl) (by have h1:(sl.length:Int)=1:=h1;omega)
  exact zaq p found x a (hs a (by simp)).1 (hs a (by simp)).2
 ·obtain⟨a,b,rfl⟩:=RF (sl:=sl) (by have h1:(sl.length:Int)=2:=h1;omega)
  exact zar p found x a b (hs a (by simp)) (hs b (by simp))
 ·obtain⟨a,b,rfl⟩:=RF (sl:=sl) (by have h1:(sl.length:Int)=2:=h1;omega)
  exact zas p found x a b (hs a (by simp)) (hs b (by simp))
 ·obtain⟨a,b,rfl⟩:=RF (sl:=sl) (by have h1:(sl.length:Int)=2:=h1;omega)
  exact zat p found x a b (hs a (by simp)) (hs b (by simp))
 ·obtain⟨a,rfl⟩:=zy (sl:=sl) (by have h1:(sl.length:Int)=1:=h1;omega)
  have h2:(decide (1<=x.n)&&decide (x.n<=2147483648))=true:=h2
  simp only[Bool.and_eq_true,decide_eq_true_eq]at h2
  exact zau p found x a (hs a (by simp)).1 (hs a (by simp)).2 h2.1 h2.2
 ·obtain⟨a,b,c,d,rfl⟩:=z8k (sl:=sl) (by have h1:(sl.length:Int)=4:=h1;omega)
  exact zav p found x a b c d
theorem vY(x:Ex)(p:Pr)(found:List Sp)(hR:Rng p)(hF:InS found)(hT:∀t∈p.tables,t.values.length<=1073741824)(hx:Ref15.nodes x<=1073741824)(hw:wfX p found.length x=true):PCall Tryz.prog 76 [.ptr (fC p found),x.d] (Ry 30 (dH p found x)):=by
 revert x;refine Ex.ind λx ih hx hw=>?_
 refine ae tok hmix ⟨[],[]⟩ Tryz.func76 rfl (by kernel_rfl) (by kernel_rfl) (by kernel_rfl) λhf=>?_
 have hN:=Ref15.nodes_eq x
 have hL:=Ref15.len_nodes x.l
 have hlen:x.l.length<=9223372036854775807:=by omega
 obtain⟨g1,g2,g3⟩:=bQ hw
 clear hf
 repeat' ((try(conv=>whnf))<;>first
  |((refine gJ _ _ _ [true] ?_ ?_ ?_);exact rfl;kernel_rfl)
  |((refine quiet_step ?_ ?_);kernel_rfl)
  |(refine LH (ih x0 (bK hd0) (by have:=mD (bK hd0);omega) (iC g3 _ (bK hd0))) (λs1 q1=>?_) (λe1 q1=>?_))
  |(refine LH (z1r p found x sl hR hT hw (FX (xI hI0.1).2) (VS hR hF g3 (xI hI0.1).2)) (λs2 q2=>?_) (λe2 q2=>?_))
  |((refine DF s2 ((xI hI0.1).1.trans q2) ?_);refine⟨[],rfl,?_,trivial⟩;conv=>whnf)
  |((refine lV e2 ((xI hI0.1).1.trans q2) ?_);refine⟨[],rfl,?_,trivial⟩;conv=>whnf)
  |((refine lV e1 (VT hI0.1 q1) ?_);refine⟨[],rfl,?_,trivial⟩;conv=>whnf)
  |(refine UA g2 ?_)
  |(refine Xr (z9q g2) ?_)
  |exact trivial
  |exact au hd0 ‹_›
  |refine jW hd0 ?_
  |refine gU hd0 ?_
  |((refine aB.mk 0 ?_);refine⟨aJ (x.l) 11 (λ(sl:(List Sp))=>[(5,.gs 900005 2 (sl.map Sp.cs))]) (λ(sl:(List Sp))=>[(900005,.tok 2 (sl.map Sp.cs).length)]) [0,3,4,9,10] (λi0 r0 sl=>pre sl (cZ p found r0)=cZ p found x.l/\sl.length=i0),?_⟩;refine ah [] ?_ ?_ (λi0 (sl:(List Sp)) hd0 hI0=>?_) (λi0 x0 r0 (sl:(List Sp)) hd0 hl0 hI0=>?_))
  |(refine ai hd0 (sl++[s1]) ?_ ?_)
  |((refine ax ?_ ?_ ?_);rotate_left;(exact zT))
  |(refine aZ.l _ ?_)
  |((refine dY ?_ ?_ ?_ ?_ ?_ ?_)<;>exact rfl)
  |((refine eX ?_ ?_ ?_ ?_)<;>exact rfl)
  |((refine aH ?_ ?_ ?_ ?_ ?_);exact rfl;exact rfl;rotate_left;(exact dX hd0))
  |((refine aP ?_ ?_);exact rfl)
  |((refine app_step' ?_ ?_ ?_ ?_ ?_ ?_ ?_);exact rfl;exact rfl;exact rfl;exact rfl)
  |((refine az ?_ ?_);kernel_rfl)
  |((refine kM ?_ ?_);kernel_rfl)
  |(refine And.intro ?_ ?_)
  |((refine rq ?_ ?_ ?_);exact rfl;exact rfl;(first |exact fE |skip))
  |((refine jf ?_ ?_);exact rfl;(first |exact fE |skip))
  |exact @rfl AV _
  |exact iU rfl
  |fail)
 all_goals first
  |(rfl)
  |((exact pre_nil _))
  |((exact RD hI0.1 q1))
  |((rw[List.length_append,hI0.2];rfl))
  |((rw[List.length_map];omega))
  |skip
theorem Em(p:Pr)(FF:List Sp)(R:Except Int (List Sp))(hR:Rng p)(hT:∀t∈p.tables,t.values.length<=1073741824)(hn:∀s∈p.stmts,Ref15.nodes s.x<=1073741824)(hl:p.stmts.length<=1073741824)(hw:uf p 0 p.stmts=true)(hS:bM p p.stmts []=R)(hF:gK p p.stmts []=FF)(hRR:R = .ok FF):LCall Tryz.prog 93 [.ptr 1000000 0] [(1000000,.cells [.data (.str p.name),.data (.i p.latency),.data (.i p.tail),.data (.sl 3 (p.params.map Bd.cs)),.data (.sl 3 (p.states.map Bd.cs)),.data (.sl 4 (p.lines.map Ln.cs)),.data (.sl 2 (p.tables.map Tb.cs)),.data (.sl 8 (p.stmts.map Sm.cs)),.nilsl 2])] (.ret (.data (.tuple []))) [(1000000,.cells [.data (.str p.name),.data (.i p.latency),.data (.i p.tail),.data (.sl 3 (p.params.map Bd.cs)),.data (.sl 3 (p.states.map Bd.cs)),.data (.sl 4 (p.lines.map Ln.cs)),.data (.sl 2 (p.tables.map Tb.cs)),.data (.sl 8 (p.stmts.map Sm.cs)),.gs 1000001 2 (FF.map Sp.cs)]),(1000001,.tok 2 (FF.map Sp.cs).length)]:=by
 refine ay tok hmix ⟨[],[]⟩ Tryz.func93 rfl (by kernel_rfl) (by kernel_rfl) (by kernel_rfl) λhf=>?_
 have hlen:p.stmts.length<=9223372036854775807:=by omega
 clear hf
 repeat' ((try(conv=>whnf))<;>first
  |(exact(F6 (hRR.symm.trans (DK hI0 q1).1)).elim)
  |(exact(F6 (hRR.symm.trans (gZ hI0 q1 (jO (B:=((bU p x0.index).lo,(bU p x0.index).hi)) (z4h ‹_›) h)).1)).elim)
  |(exact(F6 (hRR.symm.trans (gZ hI0 q1 (jO (B:=((bY p x0.index).lo,(bY p x0.index).hi)) (z4i ‹_› ‹_›) h)).1)).elim)
  |(exact(F6 (hRR.symm.trans (gZ hI0 q1 (jO (B:=(-2147483648,2147483647)) (z4j ‹_› ‹_› ‹_›) h)).1)).elim)
  |(exact(F6 (hRR.symm.trans (gZ hI0 q1 (jO (B:=(-4611686018427387904,4611686018427387904)) (z4k ‹_› ‹_› ‹_›) h)).1)).elim)
  |((have hq:=(RI hI0).2);subst hq)
  |(refine FZ (vY x0.x p fs hR hI0.ins hT (hn _ (bK hd0)) (DJ hI0)) (λs1 q1=>?_) (λe1 q1=>?_))
  |exact trivial
  |exact au hd0 ‹_›
  |refine bu hd0 ?_
  |refine aN hd0 ?_
  |refine BrI.intro (λh=>?_) (λh=>?_)
  |((refine tK ?_ ?_);exact rfl)
  |((refine xB ?_ ?_ ?_);exact rfl;exact rfl)
  |((refine kP Rg.Bd.none ?_ ?_ (LK hI0.wf h).1 (LK hI0.wf h).2 ?_);exact rfl;exact rfl)
  |((refine kP Rg.Ln.none ?_ ?_ (LM hI0.wf h).1 (LM hI0.wf h).2 ?_);exact rfl;exact rfl)
  |((refine aB.mk 0 ?_);refine⟨aJ (p.stmts) 13 (λ(fs:(List Sp))=>[]) (λ(fs:(List Sp))=>[(1000000,.cells [.data (.str p.name),.data (.i p.latency),.data (.i p.tail),.data (.sl 3 (p.params.map Bd.cs)),.data (.sl 3 (p.states.map Bd.cs)),.data (.sl 4 (p.lines.map Ln.cs)),.data (.sl 2 (p.tables.map Tb.cs)),.data (.sl 8 (p.stmts.map Sm.cs)),.gs 900007 2 (fs.map Sp.cs)]),(900007,.tok 2 (fs.map Sp.cs).length)]) [0,11,12] (λi0 r0 fs=>StI p R FF i0 r0 fs),?_⟩;refine ah ([]) ?_ ?_ (λi0 (fs:(List Sp)) hd0 hI0=>?_) (λi0 x0 r0 (fs:(List Sp)) hd0 hl0 hI0=>?_))
  |(refine ai hd0 (fs++[s1]) ?_ ?_)
  |((refine aj ?_);refine fin_step' [(1000000,1000000),(1000001,900007)] rfl ?_ ?_)
  |(refine aZ.l _ ?_)
  |((refine dY ?_ ?_ ?_ ?_ ?_ ?_)<;>exact rfl)
  |((refine eX ?_ ?_ ?_ ?_)<;>exact rfl)
  |((refine aH ?_ ?_ ?_ ?_ ?_);exact rfl;exact rfl;rotate_left;(exact aF hd0))
  |((refine aP ?_ ?_);exact rfl)
  |((refine app_step' ?_ ?_ ?_ ?_ ?_ ?_ ?_);exact rfl;exact rfl;exact rfl;exact rfl)
  |((refine az ?_ ?_);kernel_rfl)
  |(refine And.intro ?_ ?_)
  |((refine rq ?_ ?_ ?_);exact rfl;exact rfl;(first |exact fE |skip))
  |((refine jf ?_ ?_);exact rfl;(first |exact fE |skip))
  |((refine bD ?_);refine fQ ?_ ?_ ?_;exact rfl;exact rfl;(first |exact rfl |skip))
  |exact @rfl AV _
  |exact iU rfl
  |fail)
 all_goals first
  |(decide)
  |((exact F5 hS hF hw))
  |((exact lC hR hI0 q1 (lw (B:=((bU p x0.index).lo,(bU p x0.index).hi)) (z4h ‹_›) h)))
  |((exact lC hR hI0 q1 (lw (B:=((bY p x0.index).lo,(bY p x0.index).hi)) (z4i ‹_› ‹_›) h)))
  |((exact lC hR hI0 q1 (lw (B:=(-2147483648,2147483647)) (z4j ‹_› ‹_› ‹_›) h)))
  |((exact lC hR hI0 q1 (lw (B:=(-4611686018427387904,4611686018427387904)) (z4k ‹_› ‹_› ‹_›) h)))
  |((rw[List.length_map,hI0.len];have:=kL hd0;omega))
  |skip
theorem Ar(p:Pr)(FF:List Sp)(R:Except Int (List Sp))(e:Int)(hR:Rng p)(hT:∀t∈p.tables,t.values.length<=1073741824)(hn:∀s∈p.stmts,Ref15.nodes s.x<=1073741824)(hl:p.stmts.length<=1073741824)(hw:uf p 0 p.stmts=true)(hS:bM p p.stmts []=R)(hF:gK p p.stmts []=FF)(hRR:R = .error e):LCall Tryz.prog 93 [.ptr 1000000 0] [(1000000,.cells [.data (.str p.name),.data (.i p.latency),.data (.i p.tail),.data (.sl 3 (p.params.map Bd.cs)),.data (.sl 3 (p.states.map Bd.cs)),.data (.sl 4 (p.lines.map Ln.cs)),.data (.sl 2 (p.tables.map Tb.cs)),.data (.sl 8 (p.stmts.map Sm.cs)),.nilsl 2])] (.pan (.data (.iface 30 (.i e)))) [(1000000,.cells [.data (.str p.name),.data (.i p.latency),.data (.i p.tail),.data (.sl 3 (p.params.map Bd.cs)),.data (.sl 3 (p.states.map Bd.cs)),.data (.sl 4 (p.lines.map Ln.cs)),.data (.sl 2 (p.tables.map Tb.cs)),.data (.sl 8 (p.stmts.map Sm.cs)),.gs 1000001 2 (FF.map Sp.cs)]),(1000001,.tok 2 (FF.map Sp.cs).length)]:=by
 refine ay tok hmix ⟨[],[]⟩ Tryz.func93 rfl (by kernel_rfl) (by kernel_rfl) (by kernel_rfl) λhf=>?_
 have hlen:p.stmts.length<=9223372036854775807:=by omega
 clear hf
 repeat' ((try(conv=>whnf))<;>first
  |((have hq:=RJ (hRR.symm.trans (DK hI0 q1).1));(have hq2:=(DK hI0 q1).2);subst hq;subst hq2)
  |((have hq:=RJ (hRR.symm.trans (gZ hI0 q1 (jO (B:=((bU p x0.index).lo,(bU p x0.index).hi)) (z4h ‹_›) h)).1));(have hq2:=(gZ hI0 q1 (jO (B:=((bU p x0.index).lo,(bU p x0.index).hi)) (z4h ‹_›) h)).2);subst hq;subst hq2)
  |((have hq:=RJ (hRR.symm.trans (gZ hI0 q1 (jO (B:=((bY p x0.index).lo,(bY p x0.index).hi)) (z4i ‹_› ‹_›) h)).1));(have hq2:=(gZ hI0 q1 (jO (B:=((bY p x0.index).lo,(bY p x0.index).hi)) (z4i ‹_› ‹_›) h)).2);subst hq;subst hq2)
  |((have hq:=RJ (hRR.symm.trans (gZ hI0 q1 (jO (B:=(-2147483648,2147483647)) (z4j ‹_› ‹_› ‹_›) h)).1));(have hq2:=(gZ hI0 q1 (jO (B:=(-2147483648,2147483647)) (z4j ‹_› ‹_› ‹_›) h)).2);subst hq;subst hq2)
  |((have hq:=RJ (hRR.symm.trans (gZ hI0 q1 (jO (B:=(-4611686018427387904,4611686018427387904)) (z4k ‹_› ‹_› ‹_›) h)).1));(have hq2:=(gZ hI0 q1 (jO (B:=(-4611686018427387904,4611686018427387904)) (z4k ‹_› ‹_› ‹_›) h)).2);subst hq;subst hq2)
  |(exact(F6 ((RI hI0).1.symm.trans hRR)).elim)
  |(refine FZ (vY x0.x p fs hR hI0.ins hT (hn _ (bK hd0)) (DJ hI0)) (λs1 q1=>?_) (λe1 q1=>?_))
  |exact trivial
  |exact au hd0 ‹_›
  |refine aN hd0 ?_
  |refine BrI.intro (λh=>?_) (λh=>?_)
  |((refine tK ?_ ?_);exact rfl)
  |((refine xB ?_ ?_ ?_);exact rfl;exact rfl)
  |((refine kP Rg.Bd.none ?_ ?_ (LK hI0.wf h).1 (LK hI0.wf h).2 ?_);exact rfl;exact rfl)
  |((refine kP Rg.Ln.none ?_ ?_ (LM hI0.wf h).1 (LM hI0.wf h).2 ?_);exact rfl;exact rfl)
  |((refine aB.mk 0 ?_);refine⟨aJ (p.stmts) 13 (λ(fs:(List Sp))=>[]) (λ(fs:(List Sp))=>[(1000000,.cells [.data (.str p.name),.data (.i p.latency),.data (.i p.tail),.data (.sl 3 (p.params.map Bd.cs)),.data (.sl 3 (p.states.map Bd.cs)),.data (.sl 4 (p.lines.map Ln.cs)),.data (.sl 2 (p.tables.map Tb.cs)),.data (.sl 8 (p.stmts.map Sm.cs)),.gs 900007 2 (fs.map Sp.cs)]),(900007,.tok 2 (fs.map Sp.cs).length)]) [0,11,12] (λi0 r0 fs=>StI p R FF i0 r0 fs),?_⟩;refine ah ([]) ?_ ?_ (λi0 (fs:(List Sp)) hd0 hI0=>?_) (λi0 x0 r0 (fs:(List Sp)) hd0 hl0 hI0=>?_))
  |(refine ai hd0 (fs++[s1]) ?_ ?_)
  |((refine iW ?_);refine fin_step' [(1000000,1000000),(1000001,900007)] rfl ?_ ?_)
  |(refine aZ.l _ ?_)
  |((refine dY ?_ ?_ ?_ ?_ ?_ ?_)<;>exact rfl)
  |((refine eX ?_ ?_ ?_ ?_)<;>exact rfl)
  |((refine aH ?_ ?_ ?_ ?_ ?_);exact rfl;exact rfl;rotate_left;(exact aF hd0))
  |((refine aP ?_ ?_);exact rfl)
  |((refine app_step' ?_ ?_ ?_ ?_ ?_ ?_ ?_);exact rfl;exact rfl;exact rfl;exact rfl)
  |((refine az ?_ ?_);kernel_rfl)
  |(refine And.intro ?_ ?_)
  |((refine rq ?_ ?_ ?_);exact rfl;exact rfl;(first |exact fE |skip))
  |((refine jf ?_ ?_);exact rfl;(first |exact fE |skip))
  |((refine bD ?_);refine fQ ?_ ?_ ?_;exact rfl;exact rfl;(first |exact rfl |skip))
  |exact @rfl AV _
  |exact iU rfl
  |fail)
 all_goals first
  |(decide)
  |((exact F5 hS hF hw))
  |((exact lC hR hI0 q1 (lw (B:=((bU p x0.index).lo,(bU p x0.index).hi)) (z4h ‹_›) h)))
  |((exact lC hR hI0 q1 (lw (B:=((bY p x0.index).lo,(bY p x0.index).hi)) (z4i ‹_› ‹_›) h)))
  |((exact lC hR hI0 q1 (lw (B:=(-2147483648,2147483647)) (z4j ‹_› ‹_› ‹_›) h)))
  |((exact lC hR hI0 q1 (lw (B:=(-4611686018427387904,4611686018427387904)) (z4k ‹_› ‹_› ‹_›) h)))
  |((rw[List.length_map,hI0.len];have:=kL hd0;omega))
  |skip
theorem Ho(c:AV)(v:Int):sU Tryz.prog 94 [.ptr 1000000 0] (some (.iface 30 (.i v))) [(1000000,.cells [.ptr 1000001 0]),(1000001,.cells [c])]
  [(1000000,.cells [.ptr 1000001 0]),(1000001,.cells [.data (.i v)])]:=by
 refine iw tok hmix Tryz.func94 rfl (by kernel_rfl) (by kernel_rfl) (by kernel_rfl) ?_
 repeat' ((try(conv=>whnf))<;>first
  |exact trivial
  |(refine⟨([]:List (Nat×Nat)),?_⟩)
  |(refine⟨by kernel_rfl,?_⟩)
  |(refine⟨rfl,?_⟩)
  |(refine⟨?_,?_⟩)
  |fail)
theorem Nc(d:D):sU Tryz.prog 94 [.ptr 1000000 0] none [(1000000,.cells [.ptr 1000001 0]),(1000001,.cells [.data d])]
  [(1000000,.cells [.ptr 1000001 0]),(1000001,.cells [.data d])]:=by
 refine iw tok hmix Tryz.func94 rfl (by kernel_rfl) (by kernel_rfl) (by kernel_rfl) ?_
 repeat' ((try(conv=>whnf))<;>first
  |exact trivial
  |(refine⟨([]:List (Nat×Nat)),?_⟩)
  |(refine⟨by kernel_rfl,?_⟩)
  |(refine⟨rfl,?_⟩)
  |(refine⟨?_,?_⟩)
  |fail)
theorem z1s(p:Pr)(FF:List Sp)(hR:Rng p)(hT:∀t∈p.tables,t.values.length<=1073741824)(hn:∀s∈p.stmts,Ref15.nodes s.x<=1073741824)(hl:p.stmts.length<=1073741824)(hw:uf p 0 p.stmts=true)(hS:bM p p.stmts [] = .ok FF)(hF:gK p p.stmts []=FF):LCall Tryz.prog 74 [.ptr 1000000 0,.bnd 93 [.ptr 1000001 0]] [(1000000,.cells [.data (.i 0)]),(1000001,.cells [.data (.str p.name),.data (.i p.latency),.data (.i p.tail),.data (.sl 3 (p.params.map Bd.cs)),.data (.sl 3 (p.states.map Bd.cs)),.data (.sl 4 (p.lines.map Ln.cs)),.data (.sl 2 (p.tables.map Tb.cs)),.data (.sl 8 (p.stmts.map Sm.cs)),.nilsl 2])] (.ret (.data (.tuple []))) [(1000000,.cells [.data (.i 0)]),(1000001,.cells [.data (.str p.name),.data (.i p.latency),.data (.i p.tail),.data (.sl 3 (p.params.map Bd.cs)),.data (.sl 3 (p.states.map Bd.cs)),.data (.sl 4 (p.lines.map Ln.cs)),.data (.sl 2 (p.tables.map Tb.cs)),.data (.sl 8 (p.stmts.map Sm.cs)),.gs 1000002 2 (FF.map Sp.cs)]),(1000002,.tok 2 (FF.map Sp.cs).length)]:=by
 refine ay tok hmix ⟨[],[]⟩ Tryz.func74 rfl (by kernel_rfl) (by kernel_rfl) (by kernel_rfl) λhf=>?_
 clear hf
 repeat' ((try(conv=>whnf))<;>first
  |exact trivial
  |((refine⟨_,_,_,[(1000000,2),(1000001,1000000)],Nc (.i 0),rfl,⟨rfl,rfl,trivial⟩,?_,?_⟩);kernel_rfl)
  |(refine⟨([(1000000,1000000),(1000001,1000001),(1000002,800002)]:List (Nat×Nat)),rfl,?_,?_⟩)
  |((refine lent_step' [(1000000,1000001),(1000001,800002)] (Em p FF _ hR hT hn hl hw hS hF rfl) ?_ ?_ ?_ ?_);rotate_left 0;exact rfl;(exact⟨rfl,trivial⟩);exact rfl)
  |(refine And.intro ?_ ?_)
  |((refine bD ?_);refine fQ ?_ ?_ ?_;exact rfl;exact rfl;(first |exact rfl |skip))
  |fail)
 all_goals first
  |skip
theorem Xt(p:Pr)(FF:List Sp)(e:Int)(hR:Rng p)(hT:∀t∈p.tables,t.values.length<=1073741824)(hn:∀s∈p.stmts,Ref15.nodes s.x<=1073741824)(hl:p.stmts.length<=1073741824)(hw:uf p 0 p.stmts=true)(hS:bM p p.stmts [] = .error e)(hF:gK p p.stmts []=FF):LCall Tryz.prog 74 [.ptr 1000000 0,.bnd 93 [.ptr 1000001 0]] [(1000000,.cells [.data (.i 0)]),(1000001,.cells [.data (.str p.name),.data (.i p.latency),.data (.i p.tail),.data (.sl 3 (p.params.map Bd.cs)),.data (.sl 3 (p.states.map Bd.cs)),.data (.sl 4 (p.lines.map Ln.cs)),.data (.sl 2 (p.tables.map Tb.cs)),.data (.sl 8 (p.stmts.map Sm.cs)),.nilsl 2])] (.ret (.data (.tuple []))) [(1000000,.cells [.data (.i e)]),(1000001,.cells [.data (.str p.name),.data (.i p.latency),.data (.i p.tail),.data (.sl 3 (p.params.map Bd.cs)),.data (.sl 3 (p.states.map Bd.cs)),.data (.sl 4 (p.lines.map Ln.cs)),.data (.sl 2 (p.tables.map Tb.cs)),.data (.sl 8 (p.stmts.map Sm.cs)),.gs 1000002 2 (FF.map Sp.cs)]),(1000002,.tok 2 (FF.map Sp.cs).length)]:=by
 refine ay tok hmix ⟨[],[]⟩ Tryz.func74 rfl (by kernel_rfl) (by kernel_rfl) (by kernel_rfl) λhf=>?_
 clear hf
 repeat' ((try(conv=>whnf))<;>first
  |exact trivial
  |((refine⟨_,_,_,[(1000000,2),(1000001,1000000)],Ho (.data (.i 0)) e,rfl,⟨rfl,rfl,trivial⟩,?_,?_⟩);kernel_rfl)
  |(refine⟨([(1000000,1000000),(1000001,1000001),(1000002,800002)]:List (Nat×Nat)),rfl,?_,?_⟩)
  |((refine lent_step' [(1000000,1000001),(1000001,800002)] (Ar p FF _ e hR hT hn hl hw hS hF rfl) ?_ ?_ ?_ ?_);rotate_left 0;exact rfl;(exact⟨rfl,trivial⟩);exact rfl)
  |(refine And.intro ?_ ?_)
  |((refine bD ?_);refine fQ ?_ ?_ ?_;exact rfl;exact rfl;(first |exact rfl |skip))
  |exact @rfl Block _
  |fail)
 all_goals first
  |skip
end Go.Proofs.YthpbakljheeabaaGreatDoor
namespace Go.Proofs.YthpbakljheeabaaGreatDoor
open Go.Fw Go.Fw.Ref15 Go.Fw.Rg
set_option maxRecDepth 10000
variable [af]
theorem JU(l m:List Int)  : PCall Tryz.prog 86 [ints l,ints m] (.ret (.b (RN l m))):=by
 refine ae tok hmix ⟨[],[]⟩ Tryz.func86 rfl (by kernel_rfl) (by kernel_rfl) (by kernel_rfl) λhf=>?_
 have hlen:l.length<=9223372036854775807:=by simpa using(hf (ints l) (by simp)).sl.1
 clear hf
 repeat' ((try(conv=>whnf))<;>first
  |with_reducible exact trivial
  |with_reducible exact au hd0 ‹_›
  |((with_reducible refine dV hd0 ?_ ?_);(assumption))
  |((with_reducible refine dE hd0 ?_ ?_);(assumption))
  |with_reducible refine BrI.intro (λh=>?_) (λh=>?_)
  |((with_reducible refine aB.mk 0 ?_);have hz:l.length=m.length:=(by simp at h;omega);have hk0:(l.zip m).length=(l.map eG).length:=(by rw[iV hz,List.length_map]);have hlz:(l.zip m).length<=9223372036854775807:=(by rw[iV hz];exact hlen);refine⟨aJ (l.zip m) 13 (λ(_:Unit)=>[]) (λ(_:Unit)=>[]) [0,1,12] (λi0 r0 _=>RN l m=r0.all z4l),?_⟩;with_reducible refine ah () ?_ ?_ (λi0 (_:Unit) hd0 hI0=>?_) (λi0 x0 r0 (_:Unit) hd0 hl0 hI0=>?_))
  |(with_reducible refine ai hd0 () ?_ ?_)
  |((with_reducible refine aH ?_ ?_ ?_ ?_ ?_);exact rfl;exact rfl;rotate_left;(first |with_reducible exact lh hd0 |with_reducible exact lm hd0))
  |((with_reducible refine az ?_ ?_);kernel_rfl)
  |((with_reducible refine aj ?_);refine⟨[],rfl,?_,trivial⟩;conv=>whnf)
  |(with_reducible refine And.intro ?_ ?_)
  |exact @rfl AV _
  |fail)
 all_goals(try simp only[Bool.cond_true_left,Bool.cond_false_right,Bool.cond_false_left,Bool.cond_true_right,Bool.not_eq_true',Bool.not_eq_false',bne,Ex.css_len,List.length_map,Int.toNat_zero]at *)
 all_goals first
  |(rw[hI0];(try simp only[z4l,Bool.not_true,Bool.not_false,Bool.and_true,Bool.true_and,Bool.and_false,Bool.false_and,Bool.or_true,Bool.true_or,Bool.or_false,Bool.false_or,if_true,if_false,reduceIte,Bool.false_eq_true,Bool.not_not,Bool.not_eq_true',beq_self_eq_true,List.all_cons,List.all_nil,List.any_cons,List.any_nil,List.length_map,bne,eq_self,Int.toNat_zero, *]);first |done |rfl)
  |(simp only[RN,BJ,Bool.not_true,Bool.not_false,Bool.and_true,Bool.true_and,Bool.and_false,Bool.false_and,Bool.or_true,Bool.true_or,Bool.or_false,Bool.false_or,if_true,if_false,reduceIte,Bool.false_eq_true,Bool.not_not,Bool.not_eq_true',beq_self_eq_true,List.all_cons,List.all_nil,List.any_cons,List.any_nil,List.length_map,bne,eq_self,Int.toNat_zero, *];done)
  |skip
theorem O4(l m:List Bd)  : PCall Tryz.prog 89 [.sl 3 (l.map Bd.cs),.sl 3 (m.map Bd.cs)] (.ret (.b (jZ l m))):=by
 refine ae tok hmix ⟨[],[]⟩ Tryz.func89 rfl (by kernel_rfl) (by kernel_rfl) (by kernel_rfl) λhf=>?_
 have hlen:l.length<=9223372036854775807:=by simpa using(hf (.sl 3 (l.map Bd.cs)) (by simp)).sl.1
 clear hf
 repeat' ((try(conv=>whnf))<;>first
  |with_reducible exact trivial
  |with_reducible exact au hd0 ‹_›
  |((with_reducible refine dV hd0 ?_ ?_);(assumption))
  |((with_reducible refine dE hd0 ?_ ?_);(assumption))
  |with_reducible refine BrI.intro (λh=>?_) (λh=>?_)
  |((with_reducible refine aB.mk 0 ?_);have hz:l.length=m.length:=(by simp at h;omega);have hk0:(l.zip m).length=(l.map Bd.cs).length:=(by rw[iV hz,List.length_map]);have hlz:(l.zip m).length<=9223372036854775807:=(by rw[iV hz];exact hlen);refine⟨aJ (l.zip m) 13 (λ(_:Unit)=>[]) (λ(_:Unit)=>[]) [0,1,12] (λi0 r0 _=>jZ l m=r0.all BG),?_⟩;with_reducible refine ah () ?_ ?_ (λi0 (_:Unit) hd0 hI0=>?_) (λi0 x0 r0 (_:Unit) hd0 hl0 hI0=>?_))
  |(with_reducible refine ai hd0 () ?_ ?_)
  |((with_reducible refine xB ?_ ?_ ?_);exact rfl;exact rfl)
  |((with_reducible refine aH ?_ ?_ ?_ ?_ ?_);exact rfl;exact rfl;rotate_left;(first |with_reducible exact lh hd0 |with_reducible exact lm hd0))
  |((with_reducible refine aP ?_ ?_);exact rfl)
  |((with_reducible refine az ?_ ?_);kernel_rfl)
  |((with_reducible refine aj ?_);refine⟨[],rfl,?_,trivial⟩;conv=>whnf)
  |(with_reducible refine And.intro ?_ ?_)
  |exact @rfl AV _
  |fail)
 all_goals(try simp only[Bool.cond_true_left,Bool.cond_false_right,Bool.cond_false_left,Bool.cond_true_right,Bool.not_eq_true',Bool.not_eq_false',bne,Ex.css_len,List.length_map,Int.toNat_zero]at *)
 all_goals first
  |(rw[hI0];(try simp only[BG,Bool.not_true,Bool.not_false,Bool.and_true,Bool.true_and,Bool.and_false,Bool.false_and,Bool.or_true,Bool.true_or,Bool.or_false,Bool.false_or,if_true,if_false,reduceIte,Bool.false_eq_true,Bool.not_not,Bool.not_eq_true',beq_self_eq_true,List.all_cons,List.all_nil,List.any_cons,List.any_nil,List.length_map,bne,eq_self,Int.toNat_zero, *]);first |done |rfl)
  |(simp only[jZ,Bool.not_true,Bool.not_false,Bool.and_true,Bool.true_and,Bool.and_false,Bool.false_and,Bool.or_true,Bool.true_or,Bool.or_false,Bool.false_or,if_true,if_false,reduceIte,Bool.false_eq_true,Bool.not_not,Bool.not_eq_true',beq_self_eq_true,List.all_cons,List.all_nil,List.any_cons,List.any_nil,List.length_map,bne,eq_self,Int.toNat_zero, *];done)
  |skip
theorem O5(l m:List Ln)  : PCall Tryz.prog 90 [.sl 4 (l.map Ln.cs),.sl 4 (m.map Ln.cs)] (.ret (.b (BJ zi l m))):=by
 refine ae tok hmix ⟨[],[]⟩ Tryz.func90 rfl (by kernel_rfl) (by kernel_rfl) (by kernel_rfl) λhf=>?_
 have hlen:l.length<=9223372036854775807:=by simpa using(hf (.sl 4 (l.map Ln.cs)) (by simp)).sl.1
 clear hf
 repeat' ((try(conv=>whnf))<;>first
  |with_reducible exact trivial
  |with_reducible exact au hd0 ‹_›
  |((with_reducible refine dV hd0 ?_ ?_);(assumption))
  |((with_reducible refine dE hd0 ?_ ?_);(assumption))
  |with_reducible refine BrI.intro (λh=>?_) (λh=>?_)
  |((with_reducible refine aB.mk 0 ?_);have hz:l.length=m.length:=(by simp at h;omega);have hk0:(l.zip m).length=(l.map Ln.cs).length:=(by rw[iV hz,List.length_map]);have hlz:(l.zip m).length<=9223372036854775807:=(by rw[iV hz];exact hlen);refine⟨aJ (l.zip m) 13 (λ(_:Unit)=>[]) (λ(_:Unit)=>[]) [0,1,12] (λi0 r0 _=>BJ zi l m=r0.all zi),?_⟩;with_reducible refine ah () ?_ ?_ (λi0 (_:Unit) hd0 hI0=>?_) (λi0 x0 r0 (_:Unit) hd0 hl0 hI0=>?_))
  |(with_reducible refine ai hd0 () ?_ ?_)
  |((with_reducible refine xB ?_ ?_ ?_);exact rfl;exact rfl)
  |((with_reducible refine aH ?_ ?_ ?_ ?_ ?_);exact rfl;exact rfl;rotate_left;(first |with_reducible exact lh hd0 |with_reducible exact lm hd0))
  |((with_reducible refine aP ?_ ?_);exact rfl)
  |((with_reducible refine az ?_ ?_);kernel_rfl)
  |((with_reducible refine aj ?_);refine⟨[],rfl,?_,trivial⟩;conv=>whnf)
  |(with_reducible refine And.intro ?_ ?_)
  |exact @rfl AV _
  |fail)
 all_goals(try simp only[Bool.cond_true_left,Bool.cond_false_right,Bool.cond_false_left,Bool.cond_true_right,Bool.not_eq_true',Bool.not_eq_false',bne,Ex.css_len,List.length_map,Int.toNat_zero]at *)
 all_goals first
  |(rw[hI0];(try simp only[zi,Bool.not_true,Bool.not_false,Bool.and_true,Bool.true_and,Bool.and_false,Bool.false_and,Bool.or_true,Bool.true_or,Bool.or_false,Bool.false_or,if_true,if_false,reduceIte,Bool.false_eq_true,Bool.not_not,Bool.not_eq_true',beq_self_eq_true,List.all_cons,List.all_nil,List.any_cons,List.any_nil,List.length_map,bne,eq_self,Int.toNat_zero, *]);first |done |rfl)
  |(simp only[BJ,Bool.not_true,Bool.not_false,Bool.and_true,Bool.true_and,Bool.and_false,Bool.false_and,Bool.or_true,Bool.true_or,Bool.or_false,Bool.false_or,if_true,if_false,reduceIte,Bool.false_eq_true,Bool.not_not,Bool.not_eq_true',beq_self_eq_true,List.all_cons,List.all_nil,List.any_cons,List.any_nil,List.length_map,bne,eq_self,Int.toNat_zero, *];done)
  |skip
theorem Xu(a b:Tb)  : PCall Tryz.prog 85 [.agg a.cs,.agg b.cs] (.ret (.b (tbE (a,b)))):=by
 refine ae tok hmix ⟨[],[]⟩ Tryz.func85 rfl (by kernel_rfl) (by kernel_rfl) (by kernel_rfl) λhf=>?_
 clear hf
 repeat' ((try(conv=>whnf))<;>first
  |((with_reducible refine ax ?_ ?_ ?_);rotate_left;(exact JU _ _))
  |((with_reducible refine bG ?_ ?_ (λhg=>?_) ?_);exact rfl)
  |((with_reducible refine dJ ?_ ?_);with_reducible exact rfl;with_reducible exact rfl)
  |((with_reducible refine aj ?_);refine⟨[],rfl,?_,trivial⟩;conv=>whnf)
  |fail)
 all_goals(try simp only[Bool.cond_true_left,Bool.cond_false_right,Bool.cond_false_left,Bool.cond_true_right,Bool.not_eq_true',Bool.not_eq_false',bne,Ex.css_len,List.length_map,Int.toNat_zero]at *)
 all_goals first
  |(simp only[tbE,Bool.not_true,Bool.not_false,Bool.and_true,Bool.true_and,Bool.and_false,Bool.false_and,Bool.or_true,Bool.true_or,Bool.or_false,Bool.false_or,if_true,if_false,reduceIte,Bool.false_eq_true,Bool.not_not,Bool.not_eq_true',beq_self_eq_true,List.all_cons,List.all_nil,List.any_cons,List.any_nil,List.length_map,bne,eq_self,Int.toNat_zero, *];done)
  |skip
theorem O6(l m:List Ex)(ih:∀x∈l,∀y,PCall Tryz.prog 88 [x.d,y.d] (.ret (.b (gI x y)))):PCall Tryz.prog 105 [.sl 5 (l.map Ex.cs),.sl 5 (m.map Ex.cs),.fn 88 []] (.ret (.b (z4m l m))):=by
 refine ae tok hmix ⟨[],[]⟩ Tryz.func105 rfl (by kernel_rfl) (by kernel_rfl) (by kernel_rfl) λhf=>?_
 have hlen:l.length<=9223372036854775807:=by simpa using(hf (.sl 5 (l.map Ex.cs)) (by simp)).sl.1
 clear hf
 repeat' ((try(conv=>whnf))<;>first
  |with_reducible exact trivial
  |with_reducible exact au hd0 ‹_›
  |((with_reducible refine dV hd0 ?_ ?_);(assumption))
  |((with_reducible refine dE hd0 ?_ ?_);(assumption))
  |with_reducible refine BrI.intro (λh=>?_) (λh=>?_)
  |((with_reducible refine aB.mk 0 ?_);have hz:l.length=m.length:=(by simp at h;omega);have hk0:(l.zip m).length=(l.map Ex.cs).length:=(by rw[iV hz,List.length_map]);have hlz:(l.zip m).length<=9223372036854775807:=(by rw[iV hz];exact hlen);refine⟨aJ (l.zip m) 17 (λ(_:Unit)=>[]) (λ(_:Unit)=>[]) [1,2,15,16] (λi0 r0 _=>z4m l m=r0.all exE),?_⟩;with_reducible refine ah () ?_ ?_ (λi0 (_:Unit) hd0 hI0=>?_) (λi0 x0 r0 (_:Unit) hd0 hl0 hI0=>?_))
  |(with_reducible refine ai hd0 () ?_ ?_)
  |((with_reducible refine ax ?_ ?_ ?_);rotate_left;(exact ih _ (List.of_mem_zip (bK hd0)).1 _))
  |((with_reducible refine aH ?_ ?_ ?_ ?_ ?_);exact rfl;exact rfl;rotate_left;(first |with_reducible exact lh hd0 |with_reducible exact lm hd0))
  |((with_reducible refine aP ?_ ?_);exact rfl)
  |((with_reducible refine aj ?_);refine⟨[],rfl,?_,trivial⟩;conv=>whnf)
  |(with_reducible refine And.intro ?_ ?_)
  |exact @rfl AV _
  |fail)
 all_goals(try simp only[Bool.cond_true_left,Bool.cond_false_right,Bool.cond_false_left,Bool.cond_true_right,Bool.not_eq_true',Bool.not_eq_false',bne,Ex.css_len,List.length_map,Int.toNat_zero]at *)
 all_goals first
  |(rw[hI0];(try simp only[exE,Bool.not_true,Bool.not_false,Bool.and_true,Bool.true_and,Bool.and_false,Bool.false_and,Bool.or_true,Bool.true_or,Bool.or_false,Bool.false_or,if_true,if_false,reduceIte,Bool.false_eq_true,Bool.not_not,Bool.not_eq_true',beq_self_eq_true,List.all_cons,List.all_nil,List.any_cons,List.any_nil,List.length_map,bne,eq_self,Int.toNat_zero, *]);first |done |rfl)
  |(simp only[z4m,BJ,Bool.not_true,Bool.not_false,Bool.and_true,Bool.true_and,Bool.and_false,Bool.false_and,Bool.or_true,Bool.true_or,Bool.or_false,Bool.false_or,if_true,if_false,reduceIte,Bool.false_eq_true,Bool.not_not,Bool.not_eq_true',beq_self_eq_true,List.all_cons,List.all_nil,List.any_cons,List.any_nil,List.length_map,bne,eq_self,Int.toNat_zero, *];done)
  |skip
theorem Au(a b:Ex)  : PCall Tryz.prog 88 [a.d,b.d] (.ret (.b (gI a b))):=by
 revert b;revert a;refine Ex.ind λa ih b=>?_
 refine ae tok hmix ⟨[],[]⟩ Tryz.func88 rfl (by kernel_rfl) (by kernel_rfl) (by kernel_rfl) λhf=>?_
 clear hf
 repeat' ((try(conv=>whnf))<;>first
  |((with_reducible refine ax ?_ ?_ ?_);rotate_left;((have hq:=O6 a.l b.l ih;rw[<-Ex.css_eq,<-Ex.css_eq]at hq;exact hq)))
  |((with_reducible refine bG ?_ ?_ (λhg=>?_) ?_);exact rfl)
  |((with_reducible refine dJ ?_ ?_);with_reducible exact rfl;with_reducible exact rfl)
  |((with_reducible refine aj ?_);refine⟨[],rfl,?_,trivial⟩;conv=>whnf)
  |fail)
 all_goals(try simp only[Bool.cond_true_left,Bool.cond_false_right,Bool.cond_false_left,Bool.cond_true_right,Bool.not_eq_true',Bool.not_eq_false',bne,Ex.css_len,List.length_map,Int.toNat_zero]at *)
 all_goals first
  |((exact congrArg D.b (DL a b)))
  |skip
theorem Xv(a b:Sm)  : PCall Tryz.prog 87 [a.d,b.d] (.ret (.b (smE (a,b)))):=by
 refine ae tok hmix ⟨[],[]⟩ Tryz.func87 rfl (by kernel_rfl) (by kernel_rfl) (by kernel_rfl) λhf=>?_
 clear hf
 repeat' ((try(conv=>whnf))<;>first
  |((with_reducible refine ax ?_ ?_ ?_);rotate_left;(exact Au _ _))
  |((with_reducible refine bG ?_ ?_ (λhg=>?_) ?_);exact rfl)
  |((with_reducible refine dJ ?_ ?_);with_reducible exact rfl;with_reducible exact rfl)
  |((with_reducible refine aj ?_);refine⟨[],rfl,?_,trivial⟩;conv=>whnf)
  |fail)
 all_goals(try simp only[Bool.cond_true_left,Bool.cond_false_right,Bool.cond_false_left,Bool.cond_true_right,Bool.not_eq_true',Bool.not_eq_false',bne,Ex.css_len,List.length_map,Int.toNat_zero]at *)
 all_goals first
  |(simp only[smE,Bool.not_true,Bool.not_false,Bool.and_true,Bool.true_and,Bool.and_false,Bool.false_and,Bool.or_true,Bool.true_or,Bool.or_false,Bool.false_or,if_true,if_false,reduceIte,Bool.false_eq_true,Bool.not_not,Bool.not_eq_true',beq_self_eq_true,List.all_cons,List.all_nil,List.any_cons,List.any_nil,List.length_map,bne,eq_self,Int.toNat_zero, *];done)
  |skip
theorem O7(l m:List Tb)  : PCall Tryz.prog 91 [.sl 2 (l.map Tb.cs),.sl 2 (m.map Tb.cs),.fn 85 []] (.ret (.b (BJ tbE l m))):=by
 refine ae tok hmix ⟨[],[]⟩ Tryz.func91 rfl (by kernel_rfl) (by kernel_rfl) (by kernel_rfl) λhf=>?_
 have hlen:l.length<=9223372036854775807:=by simpa using(hf (.sl 2 (l.map Tb.cs)) (by simp)).sl.1
 clear hf
 repeat' ((try(conv=>whnf))<;>first
  |with_reducible exact trivial
  |with_reducible exact au hd0 ‹_›
  |((with_reducible refine dV hd0 ?_ ?_);(assumption))
  |((with_reducible refine dE hd0 ?_ ?_);(assumption))
  |with_reducible refine BrI.intro (λh=>?_) (λh=>?_)
  |((with_reducible refine aB.mk 0 ?_);have hz:l.length=m.length:=(by simp at h;omega);have hk0:(l.zip m).length=(l.map Tb.cs).length:=(by rw[iV hz,List.length_map]);have hlz:(l.zip m).length<=9223372036854775807:=(by rw[iV hz];exact hlen);refine⟨aJ (l.zip m) 17 (λ(_:Unit)=>[]) (λ(_:Unit)=>[]) [1,2,15,16] (λi0 r0 _=>BJ tbE l m=r0.all tbE),?_⟩;with_reducible refine ah () ?_ ?_ (λi0 (_:Unit) hd0 hI0=>?_) (λi0 x0 r0 (_:Unit) hd0 hl0 hI0=>?_))
  |(with_reducible refine ai hd0 () ?_ ?_)
  |((with_reducible refine ax ?_ ?_ ?_);rotate_left;(exact Xu _ _))
  |((with_reducible refine aH ?_ ?_ ?_ ?_ ?_);exact rfl;exact rfl;rotate_left;(first |with_reducible exact lh hd0 |with_reducible exact lm hd0))
  |((with_reducible refine aP ?_ ?_);exact rfl)
  |((with_reducible refine aj ?_);refine⟨[],rfl,?_,trivial⟩;conv=>whnf)
  |(with_reducible refine And.intro ?_ ?_)
  |exact @rfl AV _
  |fail)
 all_goals(try simp only[Bool.cond_true_left,Bool.cond_false_right,Bool.cond_false_left,Bool.cond_true_right,Bool.not_eq_true',Bool.not_eq_false',bne,Ex.css_len,List.length_map,Int.toNat_zero]at *)
 all_goals first
  |(rw[hI0];(try simp only[List.all_cons,Bool.not_true,Bool.not_false,Bool.and_true,Bool.true_and,Bool.and_false,Bool.false_and,Bool.or_true,Bool.true_or,Bool.or_false,Bool.false_or,if_true,if_false,reduceIte,Bool.false_eq_true,Bool.not_not,Bool.not_eq_true',beq_self_eq_true,List.all_cons,List.all_nil,List.any_cons,List.any_nil,List.length_map,bne,eq_self,Int.toNat_zero, *]);first |done |rfl)
  |(simp only[BJ,Bool.not_true,Bool.not_false,Bool.and_true,Bool.true_and,Bool.and_false,Bool.false_and,Bool.or_true,Bool.true_or,Bool.or_false,Bool.false_or,if_true,if_false,reduceIte,Bool.false_eq_true,Bool.not_not,Bool.not_eq_true',beq_self_eq_true,List.all_cons,List.all_nil,List.any_cons,List.any_nil,List.length_map,bne,eq_self,Int.toNat_zero, *];done)
  |skip
theorem O8(l m:List Sm)  : PCall Tryz.prog 92 [.sl 8 (l.map Sm.cs),.sl 8 (m.map Sm.cs),.fn 87 []] (.ret (.b (BJ smE l m))):=by
 refine ae tok hmix ⟨[],[]⟩ Tryz.func92 rfl (by kernel_rfl) (by kernel_rfl) (by kernel_rfl) λhf=>?_
 have hlen:l.length<=9223372036854775807:=by simpa using(hf (.sl 8 (l.map Sm.cs)) (by simp)).sl.1
 clear hf
 repeat' ((try(conv=>whnf))<;>first
  |with_reducible exact trivial
  |with_reducible exact au hd0 ‹_›
  |((with_reducible refine dV hd0 ?_ ?_);(assumption))
  |((with_reducible refine dE hd0 ?_ ?_);(assumption))
  |with_reducible refine BrI.intro (λh=>?_) (λh=>?_)
  |((with_reducible refine aB.mk 0 ?_);have hz:l.length=m.length:=(by simp at h;omega);have hk0:(l.zip m).length=(l.map Sm.cs).length:=(by rw[iV hz,List.length_map]);have hlz:(l.zip m).length<=9223372036854775807:=(by rw[iV hz];exact hlen);refine⟨aJ (l.zip m) 17 (λ(_:Unit)=>[]) (λ(_:Unit)=>[]) [1,2,15,16] (λi0 r0 _=>BJ smE l m=r0.all smE),?_⟩;with_reducible refine ah () ?_ ?_ (λi0 (_:Unit) hd0 hI0=>?_) (λi0 x0 r0 (_:Unit) hd0 hl0 hI0=>?_))
  |(with_reducible refine ai hd0 () ?_ ?_)
  |((with_reducible refine ax ?_ ?_ ?_);rotate_left;(exact Xv _ _))
  |((with_reducible refine aH ?_ ?_ ?_ ?_ ?_);exact rfl;exact rfl;rotate_left;(first |with_reducible exact lh hd0 |with_reducible exact lm hd0))
  |((with_reducible refine aP ?_ ?_);exact rfl)
  |((with_reducible refine aj ?_);refine⟨[],rfl,?_,trivial⟩;conv=>whnf)
  |(with_reducible refine And.intro ?_ ?_)
  |exact @rfl AV _
  |fail)
 all_goals(try simp only[Bool.cond_true_left,Bool.cond_false_right,Bool.cond_false_left,Bool.cond_true_right,Bool.not_eq_true',Bool.not_eq_false',bne,Ex.css_len,List.length_map,Int.toNat_zero]at *)
 all_goals first
  |(rw[hI0];(try simp only[List.all_cons,Bool.not_true,Bool.not_false,Bool.and_true,Bool.true_and,Bool.and_false,Bool.false_and,Bool.or_true,Bool.true_or,Bool.or_false,Bool.false_or,if_true,if_false,reduceIte,Bool.false_eq_true,Bool.not_not,Bool.not_eq_true',beq_self_eq_true,List.all_cons,List.all_nil,List.any_cons,List.any_nil,List.length_map,bne,eq_self,Int.toNat_zero, *]);first |done |rfl)
  |(simp only[BJ,Bool.not_true,Bool.not_false,Bool.and_true,Bool.true_and,Bool.and_false,Bool.false_and,Bool.or_true,Bool.true_or,Bool.or_false,Bool.false_or,if_true,if_false,reduceIte,Bool.false_eq_true,Bool.not_not,Bool.not_eq_true',beq_self_eq_true,List.all_cons,List.all_nil,List.any_cons,List.any_nil,List.length_map,bne,eq_self,Int.toNat_zero, *];done)
  |skip
theorem ku(a b:Pr)  : PCall Tryz.prog 68 [a.d,b.d] (.ret (.b (qG a b))):=by
 refine ae tok hmix ⟨[],[]⟩ Tryz.func68 rfl (by kernel_rfl) (by kernel_rfl) (by kernel_rfl) λhf=>?_
 clear hf
 repeat' ((try(conv=>whnf))<;>first
  |((with_reducible refine ax ?_ ?_ ?_);rotate_left;(first |exact O4 _ _ |exact O5 _ _ |exact O7 _ _ |exact O8 _ _))
  |((with_reducible refine bG ?_ ?_ (λhg=>?_) ?_);exact rfl)
  |((with_reducible refine dJ ?_ ?_);with_reducible exact rfl;with_reducible exact rfl)
  |((with_reducible refine aj ?_);refine⟨[],rfl,?_,trivial⟩;conv=>whnf)
  |fail)
 all_goals(try simp only[Bool.cond_true_left,Bool.cond_false_right,Bool.cond_false_left,Bool.cond_true_right,Bool.not_eq_true',Bool.not_eq_false',bne,Ex.css_len,List.length_map,Int.toNat_zero]at *)
 all_goals first
  |(simp only[qG,RQ,Bool.not_true,Bool.not_false,Bool.and_true,Bool.true_and,Bool.and_false,Bool.false_and,Bool.or_true,Bool.true_or,Bool.or_false,Bool.false_or,if_true,if_false,reduceIte,Bool.false_eq_true,Bool.not_not,Bool.not_eq_true',beq_self_eq_true,List.all_cons,List.all_nil,List.any_cons,List.any_nil,List.length_map,bne,eq_self,Int.toNat_zero, *];done)
  |skip
end Go.Proofs.YthpbakljheeabaaGreatDoor
namespace Go.Proofs.YthpbakljheeabaaGreatDoor
open Go.Fw Go.Fw.Rg Go.Fw.Nam
set_option maxRecDepth 10000
variable [af]
theorem Xw(p:Pr)(g:jc p)(he:((resolveC p).2 != 0)=true):PCall Tryz.prog 72 [p.d] (.ret (.tuple [.val (.pointer none),.i (resolveC p).2])):=by
 refine ae tok hmix ⟨[],[]⟩ Tryz.func72 rfl (by kernel_rfl) (by kernel_rfl) (by kernel_rfl) λhf=>?_
 clear hf
 repeat' ((try(conv=>whnf))<;>first
  |(exact Bool.noConfusion (show true=false from he.symm.trans h))
  |refine BrI.intro (λh=>?_) (λh=>?_)
  |((refine ax ?_ ?_ ?_);rotate_left;(exact jH p g.sm g.hn))
  |((refine az ?_ ?_);kernel_rfl)
  |((refine aj ?_);refine⟨[],rfl,?_,trivial⟩;conv=>whnf)
  |fail)
 all_goals first
  |skip
theorem Xx(p:Pr)(g:jc p)(he:((resolveC p).2 != 0)=false)(hs:qG p (resolveC p).1=false):PCall Tryz.prog 72 [p.d] (.ret (.tuple [.val (.pointer none),.i 150])):=by
 refine ae tok hmix ⟨[],[]⟩ Tryz.func72 rfl (by kernel_rfl) (by kernel_rfl) (by kernel_rfl) λhf=>?_
 clear hf
 repeat' ((try(conv=>whnf))<;>first
  |(exact Bool.noConfusion (show false=true from he.symm.trans h))
  |(exact Bool.noConfusion (show true=false from(congrArg (!·) hs).symm.trans h))
  |refine BrI.intro (λh=>?_) (λh=>?_)
  |((refine ax ?_ ?_ ?_);rotate_left;(first |exact ku _ _ |exact jH p g.sm g.hn))
  |((refine aj ?_);refine⟨[],rfl,?_,trivial⟩;conv=>whnf)
  |fail)
 all_goals first
  |skip
theorem Xy(p:Pr)(FF:List Sp)(g:jc p)(he:(resolveC p).2=0)(hs:(resolveC p).1=p)(hR:Rng p)(hw:uf p 0 p.stmts=true)(hS:bM p p.stmts [] = .ok FF)(hF:gK p p.stmts []=FF):PCall Tryz.prog 72 [p.d] (.ret (.tuple [.ptr (fC p FF),.i 0])):=by
 refine ae tok hmix ⟨[],[]⟩ Tryz.func72 rfl (by kernel_rfl) (by kernel_rfl) (by kernel_rfl) λhf=>?_
 have hq:resolveC p=(p,0):=Prod.ext hs he
 have hc:=jH p g.sm g.hn
 rw[hq]at hc
 have hc2:=ku p p
 rw[(iH p p).2 rfl]at hc2
 clear hf
 repeat' ((try(conv=>whnf))<;>first
  |(exact Bool.noConfusion (show true=false from h.symm.trans (rfl:((0:Int) != 0)=false)))
  |(exact Bool.noConfusion (show false=true from(congrArg (!·) ((iH p p).2 rfl)).symm.trans h))
  |refine BrI.intro (λh=>?_) (λh=>?_)
  |((refine ax ?_ ?_ ?_);rotate_left;(first |exact ku _ _ |exact hc))
  |((refine lent_step' [(1000000,3),(1000001,19),(1000002,800001)] (z1s p FF hR g.hT g.hn g.hl hw hS hF) ?_ ?_ ?_ ?_);rotate_left 0;exact rfl;(exact⟨rfl,rfl,trivial⟩);exact rfl)
  |((refine az ?_ ?_);kernel_rfl)
  |((refine aj ?_);refine⟨[],rfl,?_,trivial⟩;conv=>whnf)
  |(refine And.intro ?_ ?_)
  |fail)
 all_goals first
  |(rfl)
  |skip
theorem UB(p:Pr)(FF:List Sp)(e:Int)(g:jc p)(he:(resolveC p).2=0)(hs:(resolveC p).1=p)(hR:Rng p)(hw:uf p 0 p.stmts=true)(hS:bM p p.stmts [] = .error e)(hF:gK p p.stmts []=FF):PCall Tryz.prog 72 [p.d] (.ret (.tuple [.ptr (fC p FF),.i e])):=by
 refine ae tok hmix ⟨[],[]⟩ Tryz.func72 rfl (by kernel_rfl) (by kernel_rfl) (by kernel_rfl) λhf=>?_
 have hq:resolveC p=(p,0):=Prod.ext hs he
 have hc:=jH p g.sm g.hn
 rw[hq]at hc
 have hc2:=ku p p
 rw[(iH p p).2 rfl]at hc2
 clear hf
 repeat' ((try(conv=>whnf))<;>first
  |(exact Bool.noConfusion (show true=false from h.symm.trans (rfl:((0:Int) != 0)=false)))
  |(exact Bool.noConfusion (show false=true from(congrArg (!·) ((iH p p).2 rfl)).symm.trans h))
  |refine BrI.intro (λh=>?_) (λh=>?_)
  |((refine ax ?_ ?_ ?_);rotate_left;(first |exact ku _ _ |exact hc))
  |((refine lent_step' [(1000000,3),(1000001,19),(1000002,800001)] (Xt p FF e hR g.hT g.hn g.hl hw hS hF) ?_ ?_ ?_ ?_);rotate_left 0;exact rfl;(exact⟨rfl,rfl,trivial⟩);exact rfl)
  |((refine az ?_ ?_);kernel_rfl)
  |((refine aj ?_);refine⟨[],rfl,?_,trivial⟩;conv=>whnf)
  |(refine And.intro ?_ ?_)
  |fail)
 all_goals first
  |(rfl)
  |skip
theorem zU(p:Pr)(x:Ex)(most:Int)(hm0:0<=most)(hm:most<=512):PCall Tryz.prog 73 [p.d,x.d,.i most] (.ret (.tuple [.i (dS p x most).1,.b (dS p x most).2])):=by
 revert hm0 hm;revert most;revert x;refine Ex.ind λx ih most hm0 hm=>?_
 refine ae tok hmix ⟨[],[]⟩ Tryz.func73 rfl (by kernel_rfl) (by kernel_rfl) (by kernel_rfl) λhf=>?_
 have hlen:=Ex.fits (hf x.d (by simp));have hq:=Pr.fits (hf p.d (by simp))
 have ih2:∀y∈x.l,∀m c,c=m->0<=m->m<=512->PCall Tryz.prog 73 [p.d,y.d,.i c] (.ret (.tuple [.i (dS p y m).1,.b (dS p y m).2])):=λy hy m c hc h0 h1=>by subst hc;exact ih y hy c h0 h1
 clear hf
 repeat' ((try(conv=>whnf))<;>first
  |(exact Bool.noConfusion (show true=false from h))
  |(exact Bool.noConfusion (show false=true from h))
  |exact trivial
  |exact au hd1 ‹_›
  |refine jW hd1 ?_
  |refine gU hd1 ?_
  |refine BrI.intro (λh=>?_) (λh=>?_)
  |((refine SE (l:=bV) ?_ (λnd hnd=>?_) (λhnd=>?_));exact rfl)
  |((refine V8 (p:=p) ?_ (λmd hmd=>?_) (λhmd=>?_));exact rfl)
  |(exact(z4r ‹lkI x.kind (jX p)=none› h).elim)
  |((refine kP Sm.none ?_ ?_ ?_ ?_ ?_);exact rfl;exact rfl;rotate_left 2)
  |((refine aB.mk 1 ?_);refine⟨aJ (x.l) 109 (λ(q:(Int)×(Bool))=>match q with |(n,ok)=>[(6,.data (.val (.int .i64 n))),(7,.data (.val (.bool ok)))]) (λ(q:(Int)×(Bool))=>match q with |(n,ok)=>[]) [2,3,107,108] (λi1 r1 q=>match q with |(n,ok)=>dS p x most=je p r1 most n ok/\1<=n/\n<=most),?_⟩;refine ah (?_,?_) ?_ ?_ (λi1 ⟨n,ok⟩ hd1 hI1=>?_) (λi1 x1 r1 ⟨n,ok⟩ hd1 hl1 hI1=>?_))
  |(refine ai hd1 (?_,?_) ?_ ?_)
  |((refine ax ?_ ?_ ?_);rotate_left;(exact ih2 _ (bK ‹_›) (most-n) _ (bI (by omega) (by omega)) (by omega) (by omega)))
  |((refine aH ?_ ?_ ?_ ?_ ?_);exact rfl;exact rfl;rotate_left;(exact dX hd1))
  |((refine aP ?_ ?_);exact rfl)
  |((refine aj ?_);refine⟨[],rfl,?_,trivial⟩;conv=>whnf)
  |(refine And.intro ?_ ?_)
  |exact @rfl AV _
  |fail)
 all_goals first
  |(rfl)
  |((exact Int.le_refl _))
  |((refine(z96 ‹lkI x.kind (jX p)=some _› ‹(x.kind==5)=true› ?_).1;assumption))
  |((refine(z96 ‹lkI x.kind (jX p)=some _› ‹(x.kind==5)=true› ?_).2;assumption))
  |((refine ZX (l:=x.l) (nd:=nd) ?_;assumption))
  |(((refine OB ‹lkI x.kind bV=some _› ‹lkI x.kind (jX p)=_› ?_ ?_ ?_);assumption;(first |exact rfl |(refine LY (b:=false) ?_;assumption));(first |exact z8n ‹_› |exact z8o ‹_› ‹_› |exact z8p ‹_› ‹_› ‹_› |exact z8q ‹_› ‹_› ‹_›)))
  |((rw[vK ‹lkI x.kind bV=none›]))
  |((rw[vM ‹lkI x.kind bV=some _› (ZW (b:=true) h)]))
  |((rw[V9 ‹lkI x.kind bV=some _› ‹lkI x.kind (jX p)=_› ?_ (LY (b:=true) h)];assumption))
  |((obtain⟨hok,hfit⟩:=z7r h;have hr:=xM p x1 (most-n) (by omega);have h3:=hr.2.2 hfit;rw[bI (by omega) (by omega)];first |omega |(rw[hI1.1];exact ul h)))
  |((rw[hI1.1,nI h]))
  |((rw[hI1.1,je]))
  |skip
theorem check_any(p:Pr)(pd:D)(e:Int)(hw:PCall Tryz.prog 72 [p.d] (.ret (.tuple [pd,.i e]))):PCall Tryz.prog 69 [p.d] (.ret (.i e)):=by
 refine ae tok hmix ⟨[],[]⟩ Tryz.func69 rfl (by kernel_rfl) (by kernel_rfl) (by kernel_rfl) λhf=>?_
 clear hf
 repeat' ((try(conv=>whnf))<;>first
  |((refine ax ?_ ?_ ?_);rotate_left;(exact hw))
  |((refine aj ?_);refine⟨[],rfl,?_,trivial⟩;conv=>whnf)
  |fail)
 all_goals first
  |skip
theorem z1t(p:Pr)(F:List Sp)(x:Ex)(s:Sp)(a b:Int)(hc:PCall Tryz.prog 76 [.ptr (fC p F),x.d] (.ret s.d)):LCall Tryz.prog 75 [.ptr 1000000 0,.ptr 1000001 0,.ptr 1000002 0,.ptr 1000003 0] [(1000000,.cells [.data (.ptr (fC p F))]),(1000001,.cells [.data (.i x.kind),.data (.str x.name),.data (.i x.index),.data (.i x.n),.data (.sl 5 (Ex.css x.l))]),(1000002,.cells [.data (.i a)]),(1000003,.cells [.data (.i b)])] (.ret (.data (.tuple []))) [(1000000,.cells [.data (.ptr (fC p F))]),(1000001,.cells [.data (.i x.kind),.data (.str x.name),.data (.i x.index),.data (.i x.n),.data (.sl 5 (Ex.css x.l))]),(1000002,.cells [.data (.i s.1)]),(1000003,.cells [.data (.i s.2)])]:=by
 refine ay tok hmix ⟨[],[]⟩ Tryz.func75 rfl (by kernel_rfl) (by kernel_rfl) (by kernel_rfl) λhf=>?_
 clear hf
 repeat' ((try(conv=>whnf))<;>first
  |exact trivial
  |((refine ax ?_ ?_ ?_);rotate_left;(exact hc))
  |((refine aj ?_);refine fin_step' [] rfl ?_ ?_)
  |((refine az ?_ ?_);kernel_rfl)
  |(refine And.intro ?_ ?_)
  |fail)
 all_goals first
  |(rfl)
  |(decide)
  |skip
theorem Xz(p:Pr)(F:List Sp)(x:Ex)(e:Int)(a b:Int)(hc:PCall Tryz.prog 76 [.ptr (fC p F),x.d] (.pan (.iface 30 (.i e)))):LCall Tryz.prog 75 [.ptr 1000000 0,.ptr 1000001 0,.ptr 1000002 0,.ptr 1000003 0] [(1000000,.cells [.data (.ptr (fC p F))]),(1000001,.cells [.data (.i x.kind),.data (.str x.name),.data (.i x.index),.data (.i x.n),.data (.sl 5 (Ex.css x.l))]),(1000002,.cells [.data (.i a)]),(1000003,.cells [.data (.i b)])] (.pan (.data (.iface 30 (.i e)))) [(1000000,.cells [.data (.ptr (fC p F))]),(1000001,.cells [.data (.i x.kind),.data (.str x.name),.data (.i x.index),.data (.i x.n),.data (.sl 5 (Ex.css x.l))]),(1000002,.cells [.data (.i a)]),(1000003,.cells [.data (.i b)])]:=by
 refine ay tok hmix ⟨[],[]⟩ Tryz.func75 rfl (by kernel_rfl) (by kernel_rfl) (by kernel_rfl) λhf=>?_
 clear hf
 repeat' ((try(conv=>whnf))<;>first
  |exact trivial
  |((refine ax ?_ ?_ ?_);rotate_left;(exact hc))
  |((refine iW ?_);refine fin_step' [] rfl ?_ ?_)
  |(refine And.intro ?_ ?_)
  |fail)
 all_goals first
  |skip
theorem XA(p:Pr)(F:List Sp)(x:Ex)(s:Sp)(hc:PCall Tryz.prog 76 [.ptr (fC p F),x.d] (.ret s.d)):LCall Tryz.prog 74 [.ptr 1000000 0,.fn 75 [.ptr 1000001 0,.ptr 1000002 0,.ptr 1000003 0,.ptr 1000004 0]] [(1000000,.cells [.data (.i 0)]),(1000001,.cells [.data (.ptr (fC p F))]),(1000002,.cells [.data (.i x.kind),.data (.str x.name),.data (.i x.index),.data (.i x.n),.data (.sl 5 (Ex.css x.l))]),(1000003,.cells [.data (.i 0)]),(1000004,.cells [.data (.i 0)])] (.ret (.data (.tuple []))) [(1000000,.cells [.data (.i 0)]),(1000001,.cells [.data (.ptr (fC p F))]),(1000002,.cells [.data (.i x.kind),.data (.str x.name),.data (.i x.index),.data (.i x.n),.data (.sl 5 (Ex.css x.l))]),(1000003,.cells [.data (.i s.1)]),(1000004,.cells [.data (.i s.2)])]:=by
 refine ay tok hmix ⟨[],[]⟩ Tryz.func74 rfl (by kernel_rfl) (by kernel_rfl) (by kernel_rfl) λhf=>?_
 clear hf
 repeat' ((try(conv=>whnf))<;>first
  |exact trivial
  |((refine⟨_,_,_,[(1000000,2),(1000001,1000000)],Nc (.i 0),rfl,⟨rfl,rfl,trivial⟩,?_,?_⟩);kernel_rfl)
  |(refine⟨([(1000000,1000000),(1000001,1000001),(1000002,1000002),(1000003,1000003),(1000004,1000004)]:List (Nat×Nat)),rfl,?_,?_⟩)
  |((refine lent_step' [(1000000,1000001),(1000001,1000002),(1000002,1000003),(1000003,1000004)] (z1t p F x s 0 0 hc) ?_ ?_ ?_ ?_);rotate_left 0;exact rfl;(exact⟨rfl,rfl,rfl,rfl,trivial⟩);exact rfl)
  |(refine And.intro ?_ ?_)
  |fail)
 all_goals first
  |skip
theorem UC(p:Pr)(F:List Sp)(x:Ex)(e:Int)(hc:PCall Tryz.prog 76 [.ptr (fC p F),x.d] (.pan (.iface 30 (.i e)))):LCall Tryz.prog 74 [.ptr 1000000 0,.fn 75 [.ptr 1000001 0,.ptr 1000002 0,.ptr 1000003 0,.ptr 1000004 0]] [(1000000,.cells [.data (.i 0)]),(1000001,.cells [.data (.ptr (fC p F))]),(1000002,.cells [.data (.i x.kind),.data (.str x.name),.data (.i x.index),.data (.i x.n),.data (.sl 5 (Ex.css x.l))]),(1000003,.cells [.data (.i 0)]),(1000004,.cells [.data (.i 0)])] (.ret (.data (.tuple []))) [(1000000,.cells [.data (.i e)]),(1000001,.cells [.data (.ptr (fC p F))]),(1000002,.cells [.data (.i x.kind),.data (.str x.name),.data (.i x.index),.data (.i x.n),.data (.sl 5 (Ex.css x.l))]),(1000003,.cells [.data (.i 0)]),(1000004,.cells [.data (.i 0)])]:=by
 refine ay tok hmix ⟨[],[]⟩ Tryz.func74 rfl (by kernel_rfl) (by kernel_rfl) (by kernel_rfl) λhf=>?_
 clear hf
 repeat' ((try(conv=>whnf))<;>first
  |exact trivial
  |((refine⟨_,_,_,[(1000000,2),(1000001,1000000)],Ho (.data (.i 0)) e,rfl,⟨rfl,rfl,trivial⟩,?_,?_⟩);kernel_rfl)
  |(refine⟨([(1000000,1000000),(1000001,1000001),(1000002,1000002),(1000003,1000003),(1000004,1000004)]:List (Nat×Nat)),rfl,?_,?_⟩)
  |((refine lent_step' [(1000000,1000001),(1000001,1000002),(1000002,1000003),(1000003,1000004)] (Xz p F x e 0 0 hc) ?_ ?_ ?_ ?_);rotate_left 0;exact rfl;(exact⟨rfl,rfl,rfl,rfl,trivial⟩);exact rfl)
  |(refine And.intro ?_ ?_)
  |fail)
 all_goals first
  |skip
theorem z1u(p:Pr)(x:Ex)(e:Int)(hw:PCall Tryz.prog 72 [p.d] (.ret (.tuple [.val (.pointer none),.i e])))(he:(e != 0)=true):PCall Tryz.prog 55 [p.d,x.d] (.ret (.tuple [.i 0,.i 0,.i e])):=by
 refine ae tok hmix ⟨[],[]⟩ Tryz.func55 rfl (by kernel_rfl) (by kernel_rfl) (by kernel_rfl) λhf=>?_
 clear hf
 repeat' ((try(conv=>whnf))<;>first
  |(exact Bool.noConfusion (show true=false from he.symm.trans h))
  |refine BrI.intro (λh=>?_) (λh=>?_)
  |((refine ax ?_ ?_ ?_);rotate_left;(exact hw))
  |((refine az ?_ ?_);kernel_rfl)
  |((refine aj ?_);refine⟨[],rfl,?_,trivial⟩;conv=>whnf)
  |fail)
 all_goals first
  |skip
theorem z1v(p:Pr)(x:Ex)(F:List Sp)(e:Int)(hw:PCall Tryz.prog 72 [p.d] (.ret (.tuple [.ptr (fC p F),.i e])))(he:(e != 0)=true):PCall Tryz.prog 55 [p.d,x.d] (.ret (.tuple [.i 0,.i 0,.i e])):=by
 refine ae tok hmix ⟨[],[]⟩ Tryz.func55 rfl (by kernel_rfl) (by kernel_rfl) (by kernel_rfl) λhf=>?_
 clear hf
 repeat' ((try(conv=>whnf))<;>first
  |(exact Bool.noConfusion (show true=false from he.symm.trans h))
  |refine BrI.intro (λh=>?_) (λh=>?_)
  |((refine ax ?_ ?_ ?_);rotate_left;(exact hw))
  |((refine az ?_ ?_);kernel_rfl)
  |((refine aj ?_);refine⟨[],rfl,?_,trivial⟩;conv=>whnf)
  |fail)
 all_goals first
  |skip
theorem XB(p:Pr)(x:Ex)(F:List Sp)(hw:PCall Tryz.prog 72 [p.d] (.ret (.tuple [.ptr (fC p F),.i 0])))(hx:(dS p x 512).2=false):PCall Tryz.prog 55 [p.d,x.d] (.ret (.tuple [.i 0,.i 0,.i 150])):=by
 refine ae tok hmix ⟨[],[]⟩ Tryz.func55 rfl (by kernel_rfl) (by kernel_rfl) (by kernel_rfl) λhf=>?_
 clear hf
 repeat' ((try(conv=>whnf))<;>first
  |(exact Bool.noConfusion (show false=true from h))
  |(exact Bool.noConfusion (show true=false from(congrArg (!·) hx).symm.trans h))
  |refine BrI.intro (λh=>?_) (λh=>?_)
  |((refine ax ?_ ?_ ?_);rotate_left;(first |exact hw |exact zU p x 512 (by decide) (by decide)))
  |((refine aj ?_);refine⟨[],rfl,?_,trivial⟩;conv=>whnf)
  |fail)
 all_goals first
  |skip
theorem z6w(p:Pr)(x:Ex)(F:List Sp)(s:Sp)(hw:PCall Tryz.prog 72 [p.d] (.ret (.tuple [.ptr (fC p F),.i 0])))(hx:(dS p x 512).2=true)(hc:PCall Tryz.prog 76 [.ptr (fC p F),x.d] (.ret s.d)):PCall Tryz.prog 55 [p.d,x.d] (.ret (.tuple [.i s.1,.i s.2,.i 0])):=by
 refine ae tok hmix ⟨[],[]⟩ Tryz.func55 rfl (by kernel_rfl) (by kernel_rfl) (by kernel_rfl) λhf=>?_
 clear hf
 repeat' ((try(conv=>whnf))<;>first
  |(exact Bool.noConfusion (show false=true from h))
  |(exact Bool.noConfusion (show false=true from(congrArg (!·) hx).symm.trans h))
  |refine BrI.intro (λh=>?_) (λh=>?_)
  |((refine ax ?_ ?_ ?_);rotate_left;(first |exact hw |exact zU p x 512 (by decide) (by decide)))
  |((refine lent_step' [(1000000,6),(1000001,7),(1000002,3),(1000003,4),(1000004,5)] (XA p F x s hc) ?_ ?_ ?_ ?_);rotate_left 0;exact rfl;(exact⟨rfl,rfl,rfl,rfl,rfl,trivial⟩);exact rfl)
  |((refine az ?_ ?_);kernel_rfl)
  |((refine aj ?_);refine⟨[],rfl,?_,trivial⟩;conv=>whnf)
  |fail)
 all_goals first
  |skip
theorem z1w(p:Pr)(x:Ex)(F:List Sp)(e:Int)(hw:PCall Tryz.prog 72 [p.d] (.ret (.tuple [.ptr (fC p F),.i 0])))(hx:(dS p x 512).2=true)(hc:PCall Tryz.prog 76 [.ptr (fC p F),x.d] (.pan (.iface 30 (.i e)))):PCall Tryz.prog 55 [p.d,x.d] (.ret (.tuple [.i 0,.i 0,.i e])):=by
 refine ae tok hmix ⟨[],[]⟩ Tryz.func55 rfl (by kernel_rfl) (by kernel_rfl) (by kernel_rfl) λhf=>?_
 clear hf
 repeat' ((try(conv=>whnf))<;>first
  |(exact Bool.noConfusion (show false=true from h))
  |(exact Bool.noConfusion (show false=true from(congrArg (!·) hx).symm.trans h))
  |refine BrI.intro (λh=>?_) (λh=>?_)
  |((refine ax ?_ ?_ ?_);rotate_left;(first |exact hw |exact zU p x 512 (by decide) (by decide)))
  |((refine lent_step' [(1000000,6),(1000001,7),(1000002,3),(1000003,4),(1000004,5)] (UC p F x e hc) ?_ ?_ ?_ ?_);rotate_left 0;exact rfl;(exact⟨rfl,rfl,rfl,rfl,rfl,trivial⟩);exact rfl)
  |((refine az ?_ ?_);kernel_rfl)
  |((refine aj ?_);refine⟨[],rfl,?_,trivial⟩;conv=>whnf)
  |fail)
 all_goals first
  |skip
end Go.Proofs.YthpbakljheeabaaGreatDoor
