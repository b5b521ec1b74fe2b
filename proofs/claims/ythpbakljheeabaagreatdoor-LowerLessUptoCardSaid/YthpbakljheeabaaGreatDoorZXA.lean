/- Contracts: package ranges: numbers. -/
import Derived.Test.YthpbakljheeabaaGreatDoorZSA
import Derived.Test.YthpbakljheeabaaGreatDoorZRB
set_option linter.unusedSectionVars false
set_option linter.unusedSimpArgs false
set_option linter.unusedVariables false
set_option maxHeartbeats 4000000
namespace Go.Proofs.YthpbakljheeabaaGreatDoor
open Go.Fw Go.Fw.Rg
set_option maxRecDepth 10000
variable [af]
theorem Ui(x:Int)  : PCall Tryz.prog 114 [.i x] (.ret (.i (pM x))):=by
 refine ae tok hmix ⟨[],[]⟩ Tryz.func114 rfl (by kernel_rfl) (by kernel_rfl) (by kernel_rfl) λhf=>?_
 clear hf
 repeat' ((try(conv=>whnf))<;>first
  |refine BrI.intro (λh=>?_) (λh=>?_)
  |((refine ag ?_);refine⟨[],rfl,?_,trivial⟩;conv=>whnf)
  |fail)
 all_goals first
  |((refine congrArg D.i ?_;unfold pM;simp only[decide_eq_true_eq,decide_eq_false_iff_not]at *;(repeat' split)<;>omega))
  |skip
theorem G5(a n:Int)(ha:inW a=true)(hn:1<=n)(hn2:n<=2147483648):PCall Tryz.prog 125 [.i a,.i n] (.ret (.i (oD a n))):=by
 refine ae tok hmix ⟨[],[]⟩ Tryz.func125 rfl (by kernel_rfl) (by kernel_rfl) (by kernel_rfl) λhf=>?_
 clear hf
 repeat' ((try(conv=>whnf))<;>first
  |refine BrI.intro (λh=>?_) (λh=>?_)
  |((refine ag ?_);refine⟨[],rfl,?_,trivial⟩;conv=>whnf)
  |(refine And.intro ?_ ?_)
  |fail)
 all_goals first
  |(omega)
  |((exact congrArg D.i (VF hn hn2 ha (of_decide_eq_true h))))
  |((exact congrArg D.i (VG hn ha (of_decide_eq_false h))))
  |skip
theorem L8(a b:Int)(hc:z6z a b=false)(hw:IntKind.i64.wrap (a+b)=a+b):PCall Tryz.prog 120 [.i a,.i b] (.ret (.i (a+b))):=by
 refine ae tok hmix ⟨[],[]⟩ Tryz.func120 rfl (by kernel_rfl) (by kernel_rfl) (by kernel_rfl) λhf=>?_
 clear hf
 repeat' ((try(conv=>whnf))<;>first
  |refine BrI.intro (λh=>?_) (λh=>?_)
  |(exact Bool.noConfusion (hc.symm.trans h))
  |((refine ag ?_);refine⟨[],rfl,?_,trivial⟩;conv=>whnf)
  |fail)
 all_goals first
  |((exact congrArg D.i hw))
  |skip
theorem add_bad(a b:Int)(hc:z6z a b=true):PCall Tryz.prog 120 [.i a,.i b] (.pan (.iface 30 (.i 160))):=by
 refine ae tok hmix ⟨[],[]⟩ Tryz.func120 rfl (by kernel_rfl) (by kernel_rfl) (by kernel_rfl) λhf=>?_
 clear hf
 repeat' ((try(conv=>whnf))<;>first
  |refine BrI.intro (λh=>?_) (λh=>?_)
  |(exact Bool.noConfusion (hc.symm.trans h))
  |((refine xh ?_);refine⟨[],rfl,?_,trivial⟩;conv=>whnf)
  |fail)
 all_goals first
  |skip
theorem z08(n:Int)(f:Bool)(hc:N9 n f=false):PCall Tryz.prog 129 [.i n,.b f] (.ret (.i n)):=by
 refine ae tok hmix ⟨[],[]⟩ Tryz.func129 rfl (by kernel_rfl) (by kernel_rfl) (by kernel_rfl) λhf=>?_
 clear hf
 repeat' ((try(conv=>whnf))<;>first
  |refine BrI.intro (λh=>?_) (λh=>?_)
  |(exact Bool.noConfusion (hc.symm.trans h))
  |((refine ag ?_);refine⟨[],rfl,?_,trivial⟩;conv=>whnf)
  |fail)
 all_goals first
  |skip
theorem Xe(n:Int)(f:Bool)(hc:N9 n f=true):PCall Tryz.prog 129 [.i n,.b f] (.pan (.iface 30 (.i 160))):=by
 refine ae tok hmix ⟨[],[]⟩ Tryz.func129 rfl (by kernel_rfl) (by kernel_rfl) (by kernel_rfl) λhf=>?_
 clear hf
 repeat' ((try(conv=>whnf))<;>first
  |refine BrI.intro (λh=>?_) (λh=>?_)
  |(exact Bool.noConfusion (hc.symm.trans h))
  |((refine xh ?_);refine⟨[],rfl,?_,trivial⟩;conv=>whnf)
  |fail)
 all_goals first
  |skip
theorem mul_zero(a b:Int)(hz:XU a b=true):PCall Tryz.prog 123 [.i a,.i b] (.ret (.i 0)):=by
 refine ae tok hmix ⟨[],[]⟩ Tryz.func123 rfl (by kernel_rfl) (by kernel_rfl) (by kernel_rfl) λhf=>?_
 clear hf
 repeat' ((try(conv=>whnf))<;>first
  |refine BrI.intro (λh=>?_) (λh=>?_)
  |(exact Bool.noConfusion (hz.symm.trans h))
  |((refine ag ?_);refine⟨[],rfl,?_,trivial⟩;conv=>whnf)
  |fail)
 all_goals first
  |skip
theorem z5z(a b:Int)(hz:XU a b=false)(hb:b≠0)(hq:mm2 true b (IntKind.i64.wrap (0-b))≠0)(hw:N9 (IntKind.i64.wrap (a * b)) (z3l a b)=false):PCall Tryz.prog 123 [.i a,.i b] (.ret (.i (IntKind.i64.wrap (a * b)))):=by
 refine ae tok hmix ⟨[],[]⟩ Tryz.func123 rfl (by kernel_rfl) (by kernel_rfl) (by kernel_rfl) λhf=>?_
 clear hf
 repeat' ((try(conv=>whnf))<;>first
  |refine BrI.intro (λh=>?_) (λh=>?_)
  |(exact Bool.noConfusion (hz.symm.trans h))
  |((refine ak ?_ ?_ ?_);rotate_left;(exact z08 _ _ hw))
  |((refine bu ?_ ?_ (λhg=>?_) ?_);exact rfl)
  |((refine dB ?_ ?_);exact rfl;exact rfl)
  |((refine fK ?_ ?_);exact rfl)
  |((refine ag ?_);refine⟨[],rfl,?_,trivial⟩;conv=>whnf)
  |(refine And.intro ?_ ?_)
  |fail)
 all_goals first
  |((exact hb))
  |((exact hq))
  |skip
theorem z09(a b:Int)(hz:XU a b=false)(hb:b≠0)(hq:mm2 true b (IntKind.i64.wrap (0-b))≠0)(hw:N9 (IntKind.i64.wrap (a * b)) (z3l a b)=true):PCall Tryz.prog 123 [.i a,.i b] (.pan (.iface 30 (.i 160))):=by
 refine ae tok hmix ⟨[],[]⟩ Tryz.func123 rfl (by kernel_rfl) (by kernel_rfl) (by kernel_rfl) λhf=>?_
 clear hf
 repeat' ((try(conv=>whnf))<;>first
  |refine BrI.intro (λh=>?_) (λh=>?_)
  |(exact Bool.noConfusion (hz.symm.trans h))
  |((refine ak ?_ ?_ ?_);rotate_left;(exact Xe _ _ hw))
  |((refine bu ?_ ?_ (λhg=>?_) ?_);exact rfl)
  |((refine dB ?_ ?_);exact rfl;exact rfl)
  |((refine xh ?_);refine⟨[],rfl,?_,trivial⟩;conv=>whnf)
  |(refine And.intro ?_ ?_)
  |fail)
 all_goals first
  |((exact hb))
  |((exact hq))
  |skip
abbrev fC(p:Pr)(found:List Sp):List D:=[.str p.name,.i p.latency,.i p.tail,.sl 3 (p.params.map Bd.cs),.sl 3 (p.states.map Bd.cs),.sl 4 (p.lines.map Ln.cs),.sl 2 (p.tables.map Tb.cs),.sl 8 (p.stmts.map Sm.cs),.sl 2 (found.map Sp.cs)]
theorem ul(a b c:Int)(hc:c=b)(ha:inW a=true)(hb:inW b=true):PCall Tryz.prog 120 [.i a,.i c] (z7a 30 (okW (a+b))):=by
 subst hc
 unfold okW
 cases hw:inW (a+c)with
 |true=>exact L8 a c (by rw[Q8 ha hb,hw];rfl) (mV hw)
 |false=>exact add_bad a c (by rw[Q8 ha hb,hw];rfl)
theorem um(a b:Int)(ha:inW a=true)(hb:inW b=true):PCall Tryz.prog 123 [.i a,.i b] (z7a 30 (okW (a * b))):=by
 cases hz:XU a b with
 |true=>rw[Zu hz];exact mul_zero a b hz
 |false=>
  have hb0:=Zv hz
  have hq:mm2 true b (IntKind.i64.wrap (0-b))≠0:=by rw[gQ hb,IU];omega
  unfold okW
  cases hw:inW (a * b)with
  |true=>
   have:=z5z a b hz hb0 hq (by rw[Ld ha hb hb0,hw];rfl)
   rw[mV hw]at this;exact this
  |false=>exact z09 a b hz hb0 hq (by rw[Ld ha hb hb0,hw];rfl)
theorem op1(p:Pr)(found:List Sp)(x:Ex)  : PCall Tryz.prog 106 [.ptr (fC p found),x.d,.sl 2 []] (.ret (Sp.d (x.n,x.n))):=by
 refine ae tok hmix ⟨[],[]⟩ Tryz.func106 rfl (by kernel_rfl) (by kernel_rfl) (by kernel_rfl) λhf=>?_
 clear hf
 repeat' ((try(conv=>whnf))<;>first
  |((refine ag ?_);refine⟨[],rfl,?_,trivial⟩;conv=>whnf)
  |fail)
 all_goals first
  |skip
theorem op3(p:Pr)(found:List Sp)(x:Ex)(h0:0<=x.index)(h1:x.index<p.params.length):PCall Tryz.prog 107 [.ptr (fC p found),x.d,.sl 2 []] (.ret (Sp.d ((jB p x.index).lo,(jB p x.index).hi))):=by
 refine ae tok hmix ⟨[],[]⟩ Tryz.func107 rfl (by kernel_rfl) (by kernel_rfl) (by kernel_rfl) λhf=>?_
 clear hf
 repeat' ((try(conv=>whnf))<;>first
  |((refine kE Rg.Bd.none ?_ ?_ h0 h1 ?_);exact rfl;exact rfl)
  |((refine ay ?_ ?_);kernel_rfl)
  |((refine ag ?_);refine⟨[],rfl,?_,trivial⟩;conv=>whnf)
  |fail)
 all_goals first
  |skip
theorem op4(p:Pr)(found:List Sp)(x:Ex)(h0:0<=x.index)(h1:x.index<p.states.length):PCall Tryz.prog 108 [.ptr (fC p found),x.d,.sl 2 []] (.ret (Sp.d ((bT p x.index).lo,(bT p x.index).hi))):=by
 refine ae tok hmix ⟨[],[]⟩ Tryz.func108 rfl (by kernel_rfl) (by kernel_rfl) (by kernel_rfl) λhf=>?_
 clear hf
 repeat' ((try(conv=>whnf))<;>first
  |((refine kE Rg.Bd.none ?_ ?_ h0 h1 ?_);exact rfl;exact rfl)
  |((refine ay ?_ ?_);kernel_rfl)
  |((refine ag ?_);refine⟨[],rfl,?_,trivial⟩;conv=>whnf)
  |fail)
 all_goals first
  |skip
theorem op5(p:Pr)(found:List Sp)(x:Ex)(h0:0<=x.index)(h1:x.index<found.length):PCall Tryz.prog 109 [.ptr (fC p found),x.d,.sl 2 []] (.ret (Sp.d (found.getD x.index.toNat (0,0)))):=by
 refine ae tok hmix ⟨[],[]⟩ Tryz.func109 rfl (by kernel_rfl) (by kernel_rfl) (by kernel_rfl) λhf=>?_
 clear hf
 repeat' ((try(conv=>whnf))<;>first
  |((refine kE ((0,0):Sp) ?_ ?_ h0 h1 ?_);exact rfl;exact rfl)
  |((refine aK ?_ ?_);exact rfl)
  |((refine ay ?_ ?_);kernel_rfl)
  |((refine ag ?_);refine⟨[],rfl,?_,trivial⟩;conv=>whnf)
  |fail)
 all_goals first
  |skip
theorem Yx(p:Pr)(found:List Sp)(x:Ex)(a:Sp)(hc:(decide (a.1<0) || decide (a.2>4096))=false):PCall Tryz.prog 110 [.ptr (fC p found),x.d,.sl 2 [[.i a.1,.i a.2]]] (.ret (Sp.d (-2147483648,2147483647))):=by
 refine ae tok hmix ⟨[],[]⟩ Tryz.func110 rfl (by kernel_rfl) (by kernel_rfl) (by kernel_rfl) λhf=>?_
 clear hf
 repeat' ((try(conv=>whnf))<;>first
  |refine BrI.intro (λh=>?_) (λh=>?_)
  |(exact Bool.noConfusion (hc.symm.trans ((FM _ _).symm.trans h)))
  |((refine jC ?_ ?_ ?_ ?_);exact rfl;exact rfl;exact rfl)
  |((refine aK ?_ ?_);exact rfl)
  |((refine bu ?_ ?_ (λhg=>?_) ?_);exact rfl)
  |((refine dB ?_ ?_);exact rfl;exact rfl)
  |((refine ag ?_);refine⟨[],rfl,?_,trivial⟩;conv=>whnf)
  |(refine And.intro ?_ ?_)
  |fail)
 all_goals first
  |(decide)
  |skip
theorem Uj(p:Pr)(found:List Sp)(x:Ex)(a:Sp)(hc:(decide (a.1<0) || decide (a.2>4096))=true):PCall Tryz.prog 110 [.ptr (fC p found),x.d,.sl 2 [[.i a.1,.i a.2]]] (.pan (.iface 30 (.i 161))):=by
 refine ae tok hmix ⟨[],[]⟩ Tryz.func110 rfl (by kernel_rfl) (by kernel_rfl) (by kernel_rfl) λhf=>?_
 clear hf
 repeat' ((try(conv=>whnf))<;>first
  |refine BrI.intro (λh=>?_) (λh=>?_)
  |(exact Bool.noConfusion (hc.symm.trans ((FM _ _).symm.trans h)))
  |((refine jC ?_ ?_ ?_ ?_);exact rfl;exact rfl;exact rfl)
  |((refine bu ?_ ?_ (λhg=>?_) ?_);exact rfl)
  |((refine dB ?_ ?_);exact rfl;exact rfl)
  |((refine xh ?_);refine⟨[],rfl,?_,trivial⟩;conv=>whnf)
  |(refine And.intro ?_ ?_)
  |fail)
 all_goals first
  |(decide)
  |skip
theorem op8(p:Pr)(found:List Sp)(x:Ex)(a:Sp)(h0:0<=x.index)(h1:x.index<p.lines.length):PCall Tryz.prog 111 [.ptr (fC p found),x.d,.sl 2 [[.i a.1,.i a.2]]] (.ret (Sp.d (mm2 false (bW p x.index).lo 0,mm2 true (bW p x.index).hi 0))):=by
 refine ae tok hmix ⟨[],[]⟩ Tryz.func111 rfl (by kernel_rfl) (by kernel_rfl) (by kernel_rfl) λhf=>?_
 clear hf
 repeat' ((try(conv=>whnf))<;>first
  |((refine kE Rg.Ln.none ?_ ?_ h0 h1 ?_);exact rfl;exact rfl)
  |((refine ay ?_ ?_);kernel_rfl)
  |((refine ag ?_);refine⟨[],rfl,?_,trivial⟩;conv=>whnf)
  |fail)
 all_goals first
  |skip
theorem op9(p:Pr)(found:List Sp)(x:Ex)(a:Sp)(h0:0<=x.index)(h1:x.index<p.tables.length)(hv:0<(aO p x.index).length)(hvl:(aO p x.index).length<=1073741824):PCall Tryz.prog 112 [.ptr (fC p found),x.d,.sl 2 [[.i a.1,.i a.2]]] (.ret (Sp.d (minL ((aO p x.index).getD 0 0) (aO p x.index),maxL ((aO p x.index).getD 0 0) (aO p x.index)))):=by
 refine ae tok hmix ⟨[],[]⟩ Tryz.func112 rfl (by kernel_rfl) (by kernel_rfl) (by kernel_rfl) λhf=>?_
 have hlen:(aO p x.index).length<=9223372036854775807:=by omega
 clear hf
 repeat' ((try(conv=>whnf))<;>first
  |exact trivial
  |exact au hd0 ‹_›
  |refine bn hd0 ?_
  |refine aN hd0 ?_
  |((refine kE Rg.Tb.none ?_ ?_ h0 h1 ?_);exact rfl;exact rfl)
  |((refine kE (f:=dZ) (n:=0) (0:Int) ?_ ?_ ?_ ?_ ?_);exact rfl;exact rfl;exact Int.le_refl _;exact Int.ofNat_lt.2 hv)
  |((refine aB.mk 0 ?_);refine⟨aI ((aO p x.index)) 30 (λ(q:(Int)×(Int))=>match q with |(lo,hi)=>[]) (λ(q:(Int)×(Int))=>match q with |(lo,hi)=>[(8,.cells [.data (.i lo),.data (.i hi)])]) [6,8,28,29] (λi0 r0 q=>match q with |(lo,hi)=>minL ((aO p x.index).getD 0 0) (aO p x.index)=minL lo r0/\maxL ((aO p x.index).getD 0 0) (aO p x.index)=maxL hi r0),?_⟩;refine ah (((aO p x.index).getD 0 0),((aO p x.index).getD 0 0)) ?_ ?_ (λi0 ⟨lo,hi⟩ hd0 hI0=>?_) (λi0 x0 r0 ⟨lo,hi⟩ hd0 hl0 hI0=>?_))
  |(refine ai hd0 ((mm2 false lo x0),(mm2 true hi x0)) ?_ ?_)
  |((refine aG ?_ ?_ ?_ ?_ ?_);exact rfl;exact rfl;rotate_left;(exact aC hd0))
  |((refine ay ?_ ?_);kernel_rfl)
  |((refine ag ?_);refine⟨[],rfl,?_,trivial⟩;conv=>whnf)
  |(refine And.intro ?_ ?_)
  |exact @rfl AV _
  |fail)
 all_goals first
  |(rfl)
  |(decide)
  |((exact hI0.1))
  |((exact hI0.2))
  |((rw[hI0.1,hI0.2];rfl))
  |skip
theorem z9c(p:Pr)(found:List Sp)(x:Ex)(a:Sp)  : PCall Tryz.prog 113 [.ptr (fC p found),x.d,.sl 2 [[.i a.1,.i a.2]]] (.ret (Sp.d (pM a.1,pM a.2))):=by
 refine ae tok hmix ⟨[],[]⟩ Tryz.func113 rfl (by kernel_rfl) (by kernel_rfl) (by kernel_rfl) λhf=>?_
 clear hf
 repeat' ((try(conv=>whnf))<;>first
  |((refine jC ?_ ?_ ?_ ?_);exact rfl;exact rfl;exact rfl)
  |((refine ak ?_ ?_ ?_);rotate_left;(exact Ui _))
  |((refine ay ?_ ?_);kernel_rfl)
  |((refine ag ?_);refine⟨[],rfl,?_,trivial⟩;conv=>whnf)
  |(refine And.intro ?_ ?_)
  |fail)
 all_goals first
  |(decide)
  |skip
theorem z9d(p:Pr)(found:List Sp)(x:Ex)(a b:Sp)  : PCall Tryz.prog 115 [.ptr (fC p found),x.d,.sl 2 [[.i a.1,.i a.2],[.i b.1,.i b.2]]] (.ret (Sp.d (mm2 false a.1 b.1,mm2 false a.2 b.2))):=by
 refine ae tok hmix ⟨[],[]⟩ Tryz.func115 rfl (by kernel_rfl) (by kernel_rfl) (by kernel_rfl) λhf=>?_
 clear hf
 repeat' ((try(conv=>whnf))<;>first
  |((refine jC ?_ ?_ ?_ ?_);exact rfl;exact rfl;exact rfl)
  |((refine ay ?_ ?_);kernel_rfl)
  |((refine ag ?_);refine⟨[],rfl,?_,trivial⟩;conv=>whnf)
  |(refine And.intro ?_ ?_)
  |fail)
 all_goals first
  |(decide)
  |skip
theorem z9e(p:Pr)(found:List Sp)(x:Ex)(a b:Sp)  : PCall Tryz.prog 116 [.ptr (fC p found),x.d,.sl 2 [[.i a.1,.i a.2],[.i b.1,.i b.2]]] (.ret (Sp.d (mm2 true a.1 b.1,mm2 true a.2 b.2))):=by
 refine ae tok hmix ⟨[],[]⟩ Tryz.func116 rfl (by kernel_rfl) (by kernel_rfl) (by kernel_rfl) λhf=>?_
 clear hf
 repeat' ((try(conv=>whnf))<;>first
  |((refine jC ?_ ?_ ?_ ?_);exact rfl;exact rfl;exact rfl)
  |((refine ay ?_ ?_);kernel_rfl)
  |((refine ag ?_);refine⟨[],rfl,?_,trivial⟩;conv=>whnf)
  |(refine And.intro ?_ ?_)
  |fail)
 all_goals first
  |(decide)
  |skip
theorem z9f(p:Pr)(found:List Sp)(x:Ex)(a:Sp)(ha:inW a.1=true)(hb:inW a.2=true):PCall Tryz.prog 117 [.ptr (fC p found),x.d,.sl 2 [[.i a.1,.i a.2]]] (.ret (Sp.d (Q7 a))):=by
 refine ae tok hmix ⟨[],[]⟩ Tryz.func117 rfl (by kernel_rfl) (by kernel_rfl) (by kernel_rfl) λhf=>?_
 clear hf
 repeat' ((try(conv=>whnf))<;>first
  |refine BrI.intro (λh=>?_) (λh=>?_)
  |((refine jC ?_ ?_ ?_ ?_);exact rfl;exact rfl;exact rfl)
  |((refine aK ?_ ?_);exact rfl)
  |((refine ay ?_ ?_);kernel_rfl)
  |((refine ag ?_);refine⟨[],rfl,?_,trivial⟩;conv=>whnf)
  |(refine And.intro ?_ ?_)
  |fail)
 all_goals first
  |(decide)
  |((refine congrArg Sp.d ?_;unfold Q7;rw[if_pos (of_decide_eq_true h)];done))
  |((unfold Q7;rw[if_neg (of_decide_eq_false ‹decide (a.1>=0)=false›),if_pos (of_decide_eq_true h),gQ ha,gQ hb];done))
  |((unfold Q7;rw[if_neg (of_decide_eq_false ‹decide (a.1>=0)=false›),if_neg (of_decide_eq_false h),gQ ha];done))
  |skip
theorem z9g(p:Pr)(found:List Sp)(x:Ex)(a:Sp)(ha:inW a.1=true)(hb:inW a.2=true):PCall Tryz.prog 118 [.ptr (fC p found),x.d,.sl 2 [[.i a.1,.i a.2]]] (.ret (Sp.d (-a.2,-a.1))):=by
 refine ae tok hmix ⟨[],[]⟩ Tryz.func118 rfl (by kernel_rfl) (by kernel_rfl) (by kernel_rfl) λhf=>?_
 clear hf
 repeat' ((try(conv=>whnf))<;>first
  |((refine jC ?_ ?_ ?_ ?_);exact rfl;exact rfl;exact rfl)
  |((refine ay ?_ ?_);kernel_rfl)
  |((refine ag ?_);refine⟨[],rfl,?_,trivial⟩;conv=>whnf)
  |(refine And.intro ?_ ?_)
  |fail)
 all_goals first
  |(decide)
  |((rw[gQ ha,gQ hb];done))
  |skip
theorem z9h(p:Pr)(found:List Sp)(x:Ex)(a b:Sp)(ha:inW a.1=true/\inW a.2=true)(hb:inW b.1=true/\inW b.2=true):PCall Tryz.prog 119 [.ptr (fC p found),x.d,.sl 2 [[.i a.1,.i a.2],[.i b.1,.i b.2]]] (Rh 30 (two (a.1+b.1) (a.2+b.2))):=by
 refine ae tok hmix ⟨[],[]⟩ Tryz.func119 rfl (by kernel_rfl) (by kernel_rfl) (by kernel_rfl) λhf=>?_
 clear hf
 repeat' ((try(conv=>whnf))<;>first
  |((refine gG _ _ _ [false,false,false,false,false,false,false,false,true,true,true] ?_ ?_ ?_);exact rfl;kernel_rfl)
  |((refine gG _ _ _ [true,true] ?_ ?_ ?_);exact rfl;kernel_rfl)
  |((refine quiet_step ?_ ?_);kernel_rfl)
  |(refine jq (ul a.1 b.1 _ rfl ha.1 hb.1) (λn1 q1=>?_) (λe1 q1=>?_))
  |(refine jq (ul a.2 b.2 _ rfl ha.2 hb.2) (λn2 q2=>?_) (λe2 q2=>?_))
  |((refine Du (n1,n2) (XV q1 q2) ?_);refine⟨[],rfl,?_,trivial⟩;conv=>whnf)
  |((refine lK e1 (XW q1) ?_);refine⟨[],rfl,?_,trivial⟩;conv=>whnf)
  |((refine lK e2 (XX q2) ?_);refine⟨[],rfl,?_,trivial⟩;conv=>whnf)
  |((refine jC ?_ ?_ ?_ ?_);exact rfl;exact rfl;exact rfl)
  |((refine ay ?_ ?_);kernel_rfl)
  |((refine kC ?_ ?_);kernel_rfl)
  |(refine And.intro ?_ ?_)
  |fail)
 all_goals first
  |(decide)
  |skip
theorem z9i(p:Pr)(found:List Sp)(x:Ex)(a b:Sp)(ha:inW a.1=true/\inW a.2=true)(hb:inW b.1=true/\inW b.2=true):PCall Tryz.prog 121 [.ptr (fC p found),x.d,.sl 2 [[.i a.1,.i a.2],[.i b.1,.i b.2]]] (Rh 30 (two (a.1 + -b.2) (a.2 + -b.1))):=by
 refine ae tok hmix ⟨[],[]⟩ Tryz.func121 rfl (by kernel_rfl) (by kernel_rfl) (by kernel_rfl) λhf=>?_
 clear hf
 repeat' ((try(conv=>whnf))<;>first
  |((refine gG _ _ _ [false,false,false,false,false,false,false,false,false,true,true,true] ?_ ?_ ?_);exact rfl;kernel_rfl)
  |((refine gG _ _ _ [true,true] ?_ ?_ ?_);exact rfl;kernel_rfl)
  |((refine quiet_step ?_ ?_);kernel_rfl)
  |(refine jq (ul a.1 (-b.2) _ (gQ hb.2) ha.1 (sW hb.2)) (λn1 q1=>?_) (λe1 q1=>?_))
  |(refine jq (ul a.2 (-b.1) _ (gQ hb.1) ha.2 (sW hb.1)) (λn2 q2=>?_) (λe2 q2=>?_))
  |((refine Du (n1,n2) (XV q1 q2) ?_);refine⟨[],rfl,?_,trivial⟩;conv=>whnf)
  |((refine lK e1 (XW q1) ?_);refine⟨[],rfl,?_,trivial⟩;conv=>whnf)
  |((refine lK e2 (XX q2) ?_);refine⟨[],rfl,?_,trivial⟩;conv=>whnf)
  |((refine jC ?_ ?_ ?_ ?_);exact rfl;exact rfl;exact rfl)
  |((refine ay ?_ ?_);kernel_rfl)
  |((refine kC ?_ ?_);kernel_rfl)
  |(refine And.intro ?_ ?_)
  |fail)
 all_goals first
  |(decide)
  |skip
theorem z9j(p:Pr)(found:List Sp)(x:Ex)(a b:Sp)(ha:inW a.1=true/\inW a.2=true)(hb:inW b.1=true/\inW b.2=true):PCall Tryz.prog 122 [.ptr (fC p found),x.d,.sl 2 [[.i a.1,.i a.2],[.i b.1,.i b.2]]] (Rh 30 (prodM a b)):=by
 refine ae tok hmix ⟨[],[]⟩ Tryz.func122 rfl (by kernel_rfl) (by kernel_rfl) (by kernel_rfl) λhf=>?_
 clear hf
 repeat' ((try(conv=>whnf))<;>first
  |((refine gG _ _ _ [false,false,false,false,false,false,false,false,true,false,false,false,false,false,false,false,false,true,false,false,false,false,false,false,false,false,true,true,true,true,true] ?_ ?_ ?_);exact rfl;kernel_rfl)
  |((refine gG _ _ _ [false,false,false,false,false,false,false,false,true,false,false,false,false,false,false,false,false,true,true,true,true,true] ?_ ?_ ?_);exact rfl;kernel_rfl)
  |((refine gG _ _ _ [false,false,false,false,false,false,false,false,true,true,true,true,true] ?_ ?_ ?_);exact rfl;kernel_rfl)
  |((refine gG _ _ _ [true,true,true,true] ?_ ?_ ?_);exact rfl;kernel_rfl)
  |((refine quiet_step ?_ ?_);kernel_rfl)
  |(refine jq (um a.1 b.1 ha.1 hb.1) (λn1 q1=>?_) (λe1 q1=>?_))
  |(refine jq (um a.1 b.2 ha.1 hb.2) (λn2 q2=>?_) (λe2 q2=>?_))
  |(refine jq (um a.2 b.1 ha.2 hb.1) (λn3 q3=>?_) (λe3 q3=>?_))
  |(refine jq (um a.2 b.2 ha.2 hb.2) (λn4 q4=>?_) (λe4 q4=>?_))
  |((refine Du (KZ n1 n2 n3 n4,La n1 n2 n3 n4) (Zw q1 q2 q3 q4) ?_);refine⟨[],rfl,?_,trivial⟩;conv=>whnf)
  |((refine lK e1 (xm (.inl q1)) ?_);refine⟨[],rfl,?_,trivial⟩;conv=>whnf)
  |((refine lK e2 (xm (.inr (.inl q2))) ?_);refine⟨[],rfl,?_,trivial⟩;conv=>whnf)
  |((refine lK e3 (xm (.inr (.inr (.inl q3)))) ?_);refine⟨[],rfl,?_,trivial⟩;conv=>whnf)
  |((refine lK e4 (xm (.inr (.inr (.inr q4)))) ?_);refine⟨[],rfl,?_,trivial⟩;conv=>whnf)
  |((refine jC ?_ ?_ ?_ ?_);exact rfl;exact rfl;exact rfl)
  |((refine ay ?_ ?_);kernel_rfl)
  |((refine kC ?_ ?_);kernel_rfl)
  |(refine And.intro ?_ ?_)
  |fail)
 all_goals first
  |(rfl)
  |(decide)
  |skip
theorem z9k(p:Pr)(found:List Sp)(x:Ex)(a:Sp)(ha:inW a.1=true)(hb:inW a.2=true)(hn:1<=x.n)(hn2:x.n<=2147483648):PCall Tryz.prog 124 [.ptr (fC p found),x.d,.sl 2 [[.i a.1,.i a.2]]] (.ret (Sp.d (oD a.1 x.n,oD a.2 x.n))):=by
 refine ae tok hmix ⟨[],[]⟩ Tryz.func124 rfl (by kernel_rfl) (by kernel_rfl) (by kernel_rfl) λhf=>?_
 clear hf
 repeat' ((try(conv=>whnf))<;>first
  |((refine jC ?_ ?_ ?_ ?_);exact rfl;exact rfl;exact rfl)
  |((refine ak ?_ ?_ ?_);rotate_left;(first |exact G5 _ _ (by assumption) (by assumption) (by assumption) |exact G5 a.1 x.n ha hn hn2))
  |((refine ay ?_ ?_);kernel_rfl)
  |((refine ag ?_);refine⟨[],rfl,?_,trivial⟩;conv=>whnf)
  |(refine And.intro ?_ ?_)
  |fail)
 all_goals first
  |(decide)
  |skip
theorem z9l(p:Pr)(found:List Sp)(x:Ex)(a b c d:Sp)  : PCall Tryz.prog 126 [.ptr (fC p found),x.d,.sl 2 [[.i a.1,.i a.2],[.i b.1,.i b.2],[.i c.1,.i c.2],[.i d.1,.i d.2]]] (.ret (Sp.d (mm2 false c.1 d.1,mm2 true c.2 d.2))):=by
 refine ae tok hmix ⟨[],[]⟩ Tryz.func126 rfl (by kernel_rfl) (by kernel_rfl) (by kernel_rfl) λhf=>?_
 clear hf
 repeat' ((try(conv=>whnf))<;>first
  |((refine jC ?_ ?_ ?_ ?_);exact rfl;exact rfl;exact rfl)
  |((refine ay ?_ ?_);kernel_rfl)
  |((refine ag ?_);refine⟨[],rfl,?_,trivial⟩;conv=>whnf)
  |(refine And.intro ?_ ?_)
  |fail)
 all_goals first
  |(decide)
  |skip
abbrev z8j:List D:=[.val .nilFunc,.fn 106 [],.val .nilFunc,.fn 107 [],.fn 108 [],.fn 109 [],.fn 110 [],.fn 110 [],.fn 111 [],.fn 112 [],.fn 113 [],.fn 115 [],.fn 116 [],.fn 117 [],.fn 118 [],.fn 119 [],.fn 121 [],.fn 122 [],.fn 124 [],.fn 126 []]
def opF(k:Int):Nat:=match z8j.getD k.toNat (.val .nilFunc)with | .fn f _=>f |_=>0
theorem zH   : PCall Tryz.prog 95 [] (.ret (.agg z8j)):=by
 refine ae tok hmix ⟨[],[]⟩ Tryz.func95 rfl (by kernel_rfl) (by kernel_rfl) (by kernel_rfl) λhf=>?_
 clear hf
 repeat' ((try(conv=>whnf))<;>first
  |((refine ag ?_);refine⟨[],rfl,?_,trivial⟩;conv=>whnf)
  |fail)
 all_goals first
  |skip
theorem Uk{p:Pr}{n:Nat}{k i m:Int}(hw:uq p n k i m=true){q:D->Prop}(h:q (.fn (opF k) [])):∃c,(0<=k/\z8j[k.toNat]? = some c)/\q c:=by
 rcases kinds hw with rfl |rfl |rfl |rfl |rfl |rfl |rfl |rfl |rfl |rfl |rfl |rfl |rfl |rfl |rfl |rfl |rfl |rfl<;>exact⟨_,⟨by decide,rfl⟩,h⟩
theorem z8k{p:Pr}{n:Nat}{k i m:Int}(hw:uq p n k i m=true):Nat.beq (opF k) zM=false:=by
 rcases kinds hw with rfl |rfl |rfl |rfl |rfl |rfl |rfl |rfl |rfl |rfl |rfl |rfl |rfl |rfl |rfl |rfl |rfl |rfl<;>rfl
theorem Xf{b:Bool}{p q:Prop}:b=false->p->(match b with |true=>q |false=>p):=by intro h h2;subst h;exact h2
theorem z1a(p:Pr)(found:List Sp)(x:Ex)(sl:List Sp)(hR:Rng p)(hT:∀t∈p.tables,t.values.length<=1073741824)(hw:wfX p found.length x=true)(hl:sl.length=x.l.length)(hs:InS sl) :
  PCall Tryz.prog (opF x.kind) [.ptr (fC p found),x.d,.sl 2 (sl.map Sp.cs)] (Rh 30 (opM p found x.kind x.index x.n sl)):=by
 obtain⟨h1,h2,_⟩:=bP hw
 rw[<-hl]at h1
 generalize hk:x.kind=k at h1 h2
 have nil:(sl.length:Int)=0->sl = []:=λh=>List.length_eq_zero_iff.1 (by omega)
 rcases kinds h2 with rfl |rfl |rfl |rfl |rfl |rfl |rfl |rfl |rfl |rfl |rfl |rfl |rfl |rfl |rfl |rfl |rfl |rfl
 ·obtain rfl:=nil h1
  exact op1 p found x
 ·obtain rfl:=nil h1
  have h2:(decide (0<=x.index)&&decide (x.index<p.params.length))=true:=h2
  simp only[Bool.and_eq_true,decide_eq_true_eq]at h2
  exact op3 p found x h2.1 h2.2
 ·obtain rfl:=nil h1
  have h2:(decide (0<=x.index)&&decide (x.index<p.states.length))=true:=h2
  simp only[Bool.and_eq_true,decide_eq_true_eq]at h2
  exact op4 p found x h2.1 h2.2
 ·obtain rfl:=nil h1
  have h2:(decide (0<=x.index)&&decide (x.index<found.length))=true:=h2
  simp only[Bool.and_eq_true,decide_eq_true_eq]at h2
  exact op5 p found x h2.1 h2.2
 ·obtain⟨a,rfl⟩:=zh (sl:=sl) (by have h1:(sl.length:Int)=1:=h1;omega)
  show PCall Tryz.prog _ _ (Rh _ (aheadM a))
  unfold aheadM
  cases hc:(decide (a.1<0) || decide (a.2>4096))with
  |true=>exact Uj p found x a hc
  |false=>exact Yx p found x a hc
 ·obtain⟨a,rfl⟩:=zh (sl:=sl) (by have h1:(sl.length:Int)=1:=h1;omega)
  show PCall Tryz.prog _ _ (Rh _ (aheadM a))
  unfold aheadM
  cases hc:(decide (a.1<0) || decide (a.2>4096))with
  |true=>exact Uj p found x a hc
  |false=>exact Yx p found x a hc
 ·have h1:(sl.length:Int)=1:=h1
  have h2:(decide (0<=x.index)&&decide (x.index<p.lines.length))=true:=h2
  simp only[Bool.and_eq_true,decide_eq_true_eq]at h2
  obtain⟨a,rfl⟩:=zh (sl:=sl) (by omega)
  exact op8 p found x a h2.1 h2.2
 ·have h1:(sl.length:Int)=1:=h1
  have h2:(decide (0<=x.index)&&decide (x.index<p.tables.length) && !(aO p x.index==[]))=true:=h2
  simp only[Bool.and_eq_true,decide_eq_true_eq]at h2
  obtain⟨a,rfl⟩:=zh (sl:=sl) (by omega)
  have h3:aO p x.index ≠ []:=by simpa using h2.2
  exact op9 p found x a h2.1.1 h2.1.2 (List.length_pos_iff.2 h3) (hT _ (getD_mem' Rg.Tb.none h2.1.1 h2.1.2))
 ·obtain⟨a,rfl⟩:=zh (sl:=sl) (by have h1:(sl.length:Int)=1:=h1;omega)
  exact z9c p found x a
 ·obtain⟨a,b,rfl⟩:=Rk (sl:=sl) (by have h1:(sl.length:Int)=2:=h1;omega)
  exact z9d p found x a b
 ·obtain⟨a,b,rfl⟩:=Rk (sl:=sl) (by have h1:(sl.length:Int)=2:=h1;omega)
  exact z9e p found x a b
 ·obtain⟨a,rfl⟩:=zh (sl:=sl) (by have h1:(sl.length:Int)=1:=h1;omega)
  exact z9f p found x a (hs a (by simp)).1 (hs a (by simp)).2
 ·obtain⟨a,rfl⟩:=zh (sl:=sl) (by have h1:(sl.length:Int)=1:=h1;omega)
  exact z9g p found x a (hs a (by simp)).1 (hs a (by simp)).2
 ·obtain⟨a,b,rfl⟩:=Rk (sl:=sl) (by have h1:(sl.length:Int)=2:=h1;omega)
  exact z9h p found x a b (hs a (by simp)) (hs b (by simp))
 ·obtain⟨a,b,rfl⟩:=Rk (sl:=sl) (by have h1:(sl.length:Int)=2:=h1;omega)
  exact z9i p found x a b (hs a (by simp)) (hs b (by simp))
 ·obtain⟨a,b,rfl⟩:=Rk (sl:=sl) (by have h1:(sl.length:Int)=2:=h1;omega)
  exact z9j p found x a b (hs a (by simp)) (hs b (by simp))
 ·obtain⟨a,rfl⟩:=zh (sl:=sl) (by have h1:(sl.length:Int)=1:=h1;omega)
  have h2:(decide (1<=x.n)&&decide (x.n<=2147483648))=true:=h2
  simp only[Bool.and_eq_true,decide_eq_true_eq]at h2
  exact z9k p found x a (hs a (by simp)).1 (hs a (by simp)).2 h2.1 h2.2
 ·obtain⟨a,b,c,d,rfl⟩:=z7b (sl:=sl) (by have h1:(sl.length:Int)=4:=h1;omega)
  exact z9l p found x a b c d
theorem vJ(x:Ex)(p:Pr)(found:List Sp)(hR:Rng p)(hF:InS found)(hT:∀t∈p.tables,t.values.length<=1073741824)(hx:Ref15.nodes x<=1073741824)(hw:wfX p found.length x=true):PCall Tryz.prog 76 [.ptr (fC p found),x.d] (Rh 30 (dG p found x)):=by
 revert x;refine Ex.ind λx ih hx hw=>?_
 refine ae tok hmix ⟨[],[]⟩ Tryz.func76 rfl (by kernel_rfl) (by kernel_rfl) (by kernel_rfl) λhf=>?_
 have hN:=Ref15.nodes_eq x
 have hL:=Ref15.len_nodes x.l
 have hlen:x.l.length<=9223372036854775807:=by omega
 obtain⟨g1,g2,g3⟩:=bP hw
 clear hf
 repeat' ((try(conv=>whnf))<;>first
  |((refine gG _ _ _ [true] ?_ ?_ ?_);exact rfl;kernel_rfl)
  |((refine quiet_step ?_ ?_);kernel_rfl)
  |(refine Lh (ih x0 (bJ hd0) (by have:=lX (bJ hd0);omega) (gZ g3 _ (bJ hd0))) (λs1 q1=>?_) (λe1 q1=>?_))
  |(refine Lh (z1a p found x sl hR hT hw (FK (xq hI0.1).2) (VH hR hF g3 (xq hI0.1).2)) (λs2 q2=>?_) (λe2 q2=>?_))
  |((refine Du s2 ((xq hI0.1).1.trans q2) ?_);refine⟨[],rfl,?_,trivial⟩;conv=>whnf)
  |((refine lK e2 ((xq hI0.1).1.trans q2) ?_);refine⟨[],rfl,?_,trivial⟩;conv=>whnf)
  |((refine lK e1 (VI hI0.1 q1) ?_);refine⟨[],rfl,?_,trivial⟩;conv=>whnf)
  |(refine Uk g2 ?_)
  |(refine Xf (z8k g2) ?_)
  |exact trivial
  |exact au hd0 ‹_›
  |refine jL hd0 ?_
  |refine gJ hd0 ?_
  |((refine aB.mk 0 ?_);refine⟨aI (x.l) 11 (λ(sl:(List Sp))=>[(5,.gs 900005 2 (sl.map Sp.cs))]) (λ(sl:(List Sp))=>[(900005,.tok 2 (sl.map Sp.cs).length)]) [0,3,4,9,10] (λi0 r0 sl=>pre sl (cO p found r0)=cO p found x.l/\sl.length=i0),?_⟩;refine ah [] ?_ ?_ (λi0 (sl:(List Sp)) hd0 hI0=>?_) (λi0 x0 r0 (sl:(List Sp)) hd0 hl0 hI0=>?_))
  |(refine ai hd0 (sl++[s1]) ?_ ?_)
  |((refine ak ?_ ?_ ?_);rotate_left;(exact zH))
  |(refine aY.l _ ?_)
  |((refine dW ?_ ?_ ?_ ?_ ?_ ?_)<;>exact rfl)
  |((refine eQ ?_ ?_ ?_ ?_)<;>exact rfl)
  |((refine aG ?_ ?_ ?_ ?_ ?_);exact rfl;exact rfl;rotate_left;(exact dV hd0))
  |((refine aK ?_ ?_);exact rfl)
  |((refine app_step' ?_ ?_ ?_ ?_ ?_ ?_ ?_);exact rfl;exact rfl;exact rfl;exact rfl)
  |((refine ay ?_ ?_);kernel_rfl)
  |((refine kC ?_ ?_);kernel_rfl)
  |(refine And.intro ?_ ?_)
  |((refine qP ?_ ?_ ?_);exact rfl;exact rfl;(first |exact fB |skip))
  |((refine iZ ?_ ?_);exact rfl;(first |exact fB |skip))
  |exact @rfl AV _
  |exact iP rfl
  |fail)
 all_goals first
  |(rfl)
  |((exact pre_nil _))
  |((exact Rj hI0.1 q1))
  |((rw[List.length_append,hI0.2];rfl))
  |((rw[List.length_map];omega))
  |skip
theorem Eb(p:Pr)(FF:List Sp)(R:Except Int (List Sp))(hR:Rng p)(hT:∀t∈p.tables,t.values.length<=1073741824)(hn:∀s∈p.stmts,Ref15.nodes s.x<=1073741824)(hl:p.stmts.length<=1073741824)(hw:tq p 0 p.stmts=true)(hS:bK p p.stmts []=R)(hF:gI p p.stmts []=FF)(hRR:R = .ok FF):LCall Tryz.prog 93 [.ptr 1000000 0] [(1000000,.cells [.data (.str p.name),.data (.i p.latency),.data (.i p.tail),.data (.sl 3 (p.params.map Bd.cs)),.data (.sl 3 (p.states.map Bd.cs)),.data (.sl 4 (p.lines.map Ln.cs)),.data (.sl 2 (p.tables.map Tb.cs)),.data (.sl 8 (p.stmts.map Sm.cs)),.nilsl 2])] (.ret (.data (.tuple []))) [(1000000,.cells [.data (.str p.name),.data (.i p.latency),.data (.i p.tail),.data (.sl 3 (p.params.map Bd.cs)),.data (.sl 3 (p.states.map Bd.cs)),.data (.sl 4 (p.lines.map Ln.cs)),.data (.sl 2 (p.tables.map Tb.cs)),.data (.sl 8 (p.stmts.map Sm.cs)),.gs 1000001 2 (FF.map Sp.cs)]),(1000001,.tok 2 (FF.map Sp.cs).length)]:=by
 refine ax tok hmix ⟨[],[]⟩ Tryz.func93 rfl (by kernel_rfl) (by kernel_rfl) (by kernel_rfl) λhf=>?_
 have hlen:p.stmts.length<=9223372036854775807:=by omega
 clear hf
 repeat' ((try(conv=>whnf))<;>first
  |(exact(FP (hRR.symm.trans (Dx hI0 q1).1)).elim)
  |(exact(FP (hRR.symm.trans (gU hI0 q1 (jD (B:=((bT p x0.index).lo,(bT p x0.index).hi)) (z3n ‹_›) h)).1)).elim)
  |(exact(FP (hRR.symm.trans (gU hI0 q1 (jD (B:=((bW p x0.index).lo,(bW p x0.index).hi)) (z3o ‹_› ‹_›) h)).1)).elim)
  |(exact(FP (hRR.symm.trans (gU hI0 q1 (jD (B:=(-2147483648,2147483647)) (z3p ‹_› ‹_› ‹_›) h)).1)).elim)
  |(exact(FP (hRR.symm.trans (gU hI0 q1 (jD (B:=(-4611686018427387904,4611686018427387904)) (z3q ‹_› ‹_› ‹_›) h)).1)).elim)
  |((have hq:=(Ro hI0).2);subst hq)
  |(refine FN (vJ x0.x p fs hR hI0.ins hT (hn _ (bJ hd0)) (Dw hI0)) (λs1 q1=>?_) (λe1 q1=>?_))
  |exact trivial
  |exact au hd0 ‹_›
  |refine bn hd0 ?_
  |refine aN hd0 ?_
  |refine BrI.intro (λh=>?_) (λh=>?_)
  |((refine y5 ?_ ?_);exact rfl)
  |((refine xg ?_ ?_ ?_);exact rfl;exact rfl)
  |((refine kE Rg.Bd.none ?_ ?_ (Ll hI0.wf h).1 (Ll hI0.wf h).2 ?_);exact rfl;exact rfl)
  |((refine kE Rg.Ln.none ?_ ?_ (Lm hI0.wf h).1 (Lm hI0.wf h).2 ?_);exact rfl;exact rfl)
  |((refine aB.mk 0 ?_);refine⟨aI (p.stmts) 13 (λ(fs:(List Sp))=>[]) (λ(fs:(List Sp))=>[(1000000,.cells [.data (.str p.name),.data (.i p.latency),.data (.i p.tail),.data (.sl 3 (p.params.map Bd.cs)),.data (.sl 3 (p.states.map Bd.cs)),.data (.sl 4 (p.lines.map Ln.cs)),.data (.sl 2 (p.tables.map Tb.cs)),.data (.sl 8 (p.stmts.map Sm.cs)),.gs 900007 2 (fs.map Sp.cs)]),(900007,.tok 2 (fs.map Sp.cs).length)]) [0,11,12] (λi0 r0 fs=>StI p R FF i0 r0 fs),?_⟩;refine ah ([]) ?_ ?_ (λi0 (fs:(List Sp)) hd0 hI0=>?_) (λi0 x0 r0 (fs:(List Sp)) hd0 hl0 hI0=>?_))
  |(refine ai hd0 (fs++[s1]) ?_ ?_)
  |((refine ag ?_);refine fin_step' [(1000000,1000000),(1000001,900007)] rfl ?_ ?_)
  |(refine aY.l _ ?_)
  |((refine dW ?_ ?_ ?_ ?_ ?_ ?_)<;>exact rfl)
  |((refine eQ ?_ ?_ ?_ ?_)<;>exact rfl)
  |((refine aG ?_ ?_ ?_ ?_ ?_);exact rfl;exact rfl;rotate_left;(exact aC hd0))
  |((refine aK ?_ ?_);exact rfl)
  |((refine app_step' ?_ ?_ ?_ ?_ ?_ ?_ ?_);exact rfl;exact rfl;exact rfl;exact rfl)
  |((refine ay ?_ ?_);kernel_rfl)
  |(refine And.intro ?_ ?_)
  |((refine qP ?_ ?_ ?_);exact rfl;exact rfl;(first |exact fB |skip))
  |((refine iZ ?_ ?_);exact rfl;(first |exact fB |skip))
  |((refine bD ?_);refine fO ?_ ?_ ?_;exact rfl;exact rfl;(first |exact rfl |skip))
  |exact @rfl AV _
  |exact iP rfl
  |fail)
 all_goals first
  |(decide)
  |((exact FO hS hF hw))
  |((exact kY hR hI0 q1 (kX (B:=((bT p x0.index).lo,(bT p x0.index).hi)) (z3n ‹_›) h)))
  |((exact kY hR hI0 q1 (kX (B:=((bW p x0.index).lo,(bW p x0.index).hi)) (z3o ‹_› ‹_›) h)))
  |((exact kY hR hI0 q1 (kX (B:=(-2147483648,2147483647)) (z3p ‹_› ‹_› ‹_›) h)))
  |((exact kY hR hI0 q1 (kX (B:=(-4611686018427387904,4611686018427387904)) (z3q ‹_› ‹_› ‹_›) h)))
  |((rw[List.length_map,hI0.len];have:=kz hd0;omega))
  |skip
theorem Ag(p:Pr)(FF:List Sp)(R:Except Int (List Sp))(e:Int)(hR:Rng p)(hT:∀t∈p.tables,t.values.length<=1073741824)(hn:∀s∈p.stmts,Ref15.nodes s.x<=1073741824)(hl:p.stmts.length<=1073741824)(hw:tq p 0 p.stmts=true)(hS:bK p p.stmts []=R)(hF:gI p p.stmts []=FF)(hRR:R = .error e):LCall Tryz.prog 93 [.ptr 1000000 0] [(1000000,.cells [.data (.str p.name),.data (.i p.latency),.data (.i p.tail),.data (.sl 3 (p.params.map Bd.cs)),.data (.sl 3 (p.states.map Bd.cs)),.data (.sl 4 (p.lines.map Ln.cs)),.data (.sl 2 (p.tables.map Tb.cs)),.data (.sl 8 (p.stmts.map Sm.cs)),.nilsl 2])] (.pan (.data (.iface 30 (.i e)))) [(1000000,.cells [.data (.str p.name),.data (.i p.latency),.data (.i p.tail),.data (.sl 3 (p.params.map Bd.cs)),.data (.sl 3 (p.states.map Bd.cs)),.data (.sl 4 (p.lines.map Ln.cs)),.data (.sl 2 (p.tables.map Tb.cs)),.data (.sl 8 (p.stmts.map Sm.cs)),.gs 1000001 2 (FF.map Sp.cs)]),(1000001,.tok 2 (FF.map Sp.cs).length)]:=by
 refine ax tok hmix ⟨[],[]⟩ Tryz.func93 rfl (by kernel_rfl) (by kernel_rfl) (by kernel_rfl) λhf=>?_
 have hlen:p.stmts.length<=9223372036854775807:=by omega
 clear hf
 repeat' ((try(conv=>whnf))<;>first
  |((have hq:=Rq (hRR.symm.trans (Dx hI0 q1).1));(have hq2:=(Dx hI0 q1).2);subst hq;subst hq2)
  |((have hq:=Rq (hRR.symm.trans (gU hI0 q1 (jD (B:=((bT p x0.index).lo,(bT p x0.index).hi)) (z3n ‹_›) h)).1));(have hq2:=(gU hI0 q1 (jD (B:=((bT p x0.index).lo,(bT p x0.index).hi)) (z3n ‹_›) h)).2);subst hq;subst hq2)
  |((have hq:=Rq (hRR.symm.trans (gU hI0 q1 (jD (B:=((bW p x0.index).lo,(bW p x0.index).hi)) (z3o ‹_› ‹_›) h)).1));(have hq2:=(gU hI0 q1 (jD (B:=((bW p x0.index).lo,(bW p x0.index).hi)) (z3o ‹_› ‹_›) h)).2);subst hq;subst hq2)
  |((have hq:=Rq (hRR.symm.trans (gU hI0 q1 (jD (B:=(-2147483648,2147483647)) (z3p ‹_› ‹_› ‹_›) h)).1));(have hq2:=(gU hI0 q1 (jD (B:=(-2147483648,2147483647)) (z3p ‹_› ‹_› ‹_›) h)).2);subst hq;subst hq2)
  |((have hq:=Rq (hRR.symm.trans (gU hI0 q1 (jD (B:=(-4611686018427387904,4611686018427387904)) (z3q ‹_› ‹_› ‹_›) h)).1));(have hq2:=(gU hI0 q1 (jD (B:=(-4611686018427387904,4611686018427387904)) (z3q ‹_› ‹_› ‹_›) h)).2);subst hq;subst hq2)
  |(exact(FP ((Ro hI0).1.symm.trans hRR)).elim)
  |(refine FN (vJ x0.x p fs hR hI0.ins hT (hn _ (bJ hd0)) (Dw hI0)) (λs1 q1=>?_) (λe1 q1=>?_))
  |exact trivial
  |exact au hd0 ‹_›
  |refine aN hd0 ?_
  |refine BrI.intro (λh=>?_) (λh=>?_)
  |((refine y5 ?_ ?_);exact rfl)
  |((refine xg ?_ ?_ ?_);exact rfl;exact rfl)
  |((refine kE Rg.Bd.none ?_ ?_ (Ll hI0.wf h).1 (Ll hI0.wf h).2 ?_);exact rfl;exact rfl)
  |((refine kE Rg.Ln.none ?_ ?_ (Lm hI0.wf h).1 (Lm hI0.wf h).2 ?_);exact rfl;exact rfl)
  |((refine aB.mk 0 ?_);refine⟨aI (p.stmts) 13 (λ(fs:(List Sp))=>[]) (λ(fs:(List Sp))=>[(1000000,.cells [.data (.str p.name),.data (.i p.latency),.data (.i p.tail),.data (.sl 3 (p.params.map Bd.cs)),.data (.sl 3 (p.states.map Bd.cs)),.data (.sl 4 (p.lines.map Ln.cs)),.data (.sl 2 (p.tables.map Tb.cs)),.data (.sl 8 (p.stmts.map Sm.cs)),.gs 900007 2 (fs.map Sp.cs)]),(900007,.tok 2 (fs.map Sp.cs).length)]) [0,11,12] (λi0 r0 fs=>StI p R FF i0 r0 fs),?_⟩;refine ah ([]) ?_ ?_ (λi0 (fs:(List Sp)) hd0 hI0=>?_) (λi0 x0 r0 (fs:(List Sp)) hd0 hl0 hI0=>?_))
  |(refine ai hd0 (fs++[s1]) ?_ ?_)
  |((refine iR ?_);refine fin_step' [(1000000,1000000),(1000001,900007)] rfl ?_ ?_)
  |(refine aY.l _ ?_)
  |((refine dW ?_ ?_ ?_ ?_ ?_ ?_)<;>exact rfl)
  |((refine eQ ?_ ?_ ?_ ?_)<;>exact rfl)
  |((refine aG ?_ ?_ ?_ ?_ ?_);exact rfl;exact rfl;rotate_left;(exact aC hd0))
  |((refine aK ?_ ?_);exact rfl)
  |((refine app_step' ?_ ?_ ?_ ?_ ?_ ?_ ?_);exact rfl;exact rfl;exact rfl;exact rfl)
  |((refine ay ?_ ?_);kernel_rfl)
  |(refine And.intro ?_ ?_)
  |((refine qP ?_ ?_ ?_);exact rfl;exact rfl;(first |exact fB |skip))
  |((refine iZ ?_ ?_);exact rfl;(first |exact fB |skip))
  |((refine bD ?_);refine fO ?_ ?_ ?_;exact rfl;exact rfl;(first |exact rfl |skip))
  |exact @rfl AV _
  |exact iP rfl
  |fail)
 all_goals first
  |(decide)
  |((exact FO hS hF hw))
  |((exact kY hR hI0 q1 (kX (B:=((bT p x0.index).lo,(bT p x0.index).hi)) (z3n ‹_›) h)))
  |((exact kY hR hI0 q1 (kX (B:=((bW p x0.index).lo,(bW p x0.index).hi)) (z3o ‹_› ‹_›) h)))
  |((exact kY hR hI0 q1 (kX (B:=(-2147483648,2147483647)) (z3p ‹_› ‹_› ‹_›) h)))
  |((exact kY hR hI0 q1 (kX (B:=(-4611686018427387904,4611686018427387904)) (z3q ‹_› ‹_› ‹_›) h)))
  |((rw[List.length_map,hI0.len];have:=kz hd0;omega))
  |skip
theorem G6(c:AV)(v:Int):sD Tryz.prog 94 [.ptr 1000000 0] (some (.iface 30 (.i v))) [(1000000,.cells [.ptr 1000001 0]),(1000001,.cells [c])]
  [(1000000,.cells [.ptr 1000001 0]),(1000001,.cells [.data (.i v)])]:=by
 refine gY tok hmix Tryz.func94 rfl (by kernel_rfl) (by kernel_rfl) (by kernel_rfl) ?_
 repeat' ((try(conv=>whnf))<;>first
  |exact trivial
  |(refine⟨([]:List (Nat×Nat)),?_⟩)
  |(refine⟨by kernel_rfl,?_⟩)
  |(refine⟨rfl,?_⟩)
  |(refine⟨?_,?_⟩)
  |fail)
theorem ML(d:D):sD Tryz.prog 94 [.ptr 1000000 0] none [(1000000,.cells [.ptr 1000001 0]),(1000001,.cells [.data d])]
  [(1000000,.cells [.ptr 1000001 0]),(1000001,.cells [.data d])]:=by
 refine gY tok hmix Tryz.func94 rfl (by kernel_rfl) (by kernel_rfl) (by kernel_rfl) ?_
 repeat' ((try(conv=>whnf))<;>first
  |exact trivial
  |(refine⟨([]:List (Nat×Nat)),?_⟩)
  |(refine⟨by kernel_rfl,?_⟩)
  |(refine⟨rfl,?_⟩)
  |(refine⟨?_,?_⟩)
  |fail)
theorem z1b(p:Pr)(FF:List Sp)(hR:Rng p)(hT:∀t∈p.tables,t.values.length<=1073741824)(hn:∀s∈p.stmts,Ref15.nodes s.x<=1073741824)(hl:p.stmts.length<=1073741824)(hw:tq p 0 p.stmts=true)(hS:bK p p.stmts [] = .ok FF)(hF:gI p p.stmts []=FF):LCall Tryz.prog 74 [.ptr 1000000 0,.bnd 93 [.ptr 1000001 0]] [(1000000,.cells [.data (.i 0)]),(1000001,.cells [.data (.str p.name),.data (.i p.latency),.data (.i p.tail),.data (.sl 3 (p.params.map Bd.cs)),.data (.sl 3 (p.states.map Bd.cs)),.data (.sl 4 (p.lines.map Ln.cs)),.data (.sl 2 (p.tables.map Tb.cs)),.data (.sl 8 (p.stmts.map Sm.cs)),.nilsl 2])] (.ret (.data (.tuple []))) [(1000000,.cells [.data (.i 0)]),(1000001,.cells [.data (.str p.name),.data (.i p.latency),.data (.i p.tail),.data (.sl 3 (p.params.map Bd.cs)),.data (.sl 3 (p.states.map Bd.cs)),.data (.sl 4 (p.lines.map Ln.cs)),.data (.sl 2 (p.tables.map Tb.cs)),.data (.sl 8 (p.stmts.map Sm.cs)),.gs 1000002 2 (FF.map Sp.cs)]),(1000002,.tok 2 (FF.map Sp.cs).length)]:=by
 refine ax tok hmix ⟨[],[]⟩ Tryz.func74 rfl (by kernel_rfl) (by kernel_rfl) (by kernel_rfl) λhf=>?_
 clear hf
 repeat' ((try(conv=>whnf))<;>first
  |exact trivial
  |((refine⟨_,_,_,[(1000000,2),(1000001,1000000)],ML (.i 0),rfl,⟨rfl,rfl,trivial⟩,?_,?_⟩);kernel_rfl)
  |(refine⟨([(1000000,1000000),(1000001,1000001),(1000002,800002)]:List (Nat×Nat)),rfl,?_,?_⟩)
  |((refine lent_step' [(1000000,1000001),(1000001,800002)] (Eb p FF _ hR hT hn hl hw hS hF rfl) ?_ ?_ ?_ ?_);rotate_left 0;exact rfl;(exact⟨rfl,trivial⟩);exact rfl)
  |(refine And.intro ?_ ?_)
  |((refine bD ?_);refine fO ?_ ?_ ?_;exact rfl;exact rfl;(first |exact rfl |skip))
  |fail)
 all_goals first
  |skip
theorem Xg(p:Pr)(FF:List Sp)(e:Int)(hR:Rng p)(hT:∀t∈p.tables,t.values.length<=1073741824)(hn:∀s∈p.stmts,Ref15.nodes s.x<=1073741824)(hl:p.stmts.length<=1073741824)(hw:tq p 0 p.stmts=true)(hS:bK p p.stmts [] = .error e)(hF:gI p p.stmts []=FF):LCall Tryz.prog 74 [.ptr 1000000 0,.bnd 93 [.ptr 1000001 0]] [(1000000,.cells [.data (.i 0)]),(1000001,.cells [.data (.str p.name),.data (.i p.latency),.data (.i p.tail),.data (.sl 3 (p.params.map Bd.cs)),.data (.sl 3 (p.states.map Bd.cs)),.data (.sl 4 (p.lines.map Ln.cs)),.data (.sl 2 (p.tables.map Tb.cs)),.data (.sl 8 (p.stmts.map Sm.cs)),.nilsl 2])] (.ret (.data (.tuple []))) [(1000000,.cells [.data (.i e)]),(1000001,.cells [.data (.str p.name),.data (.i p.latency),.data (.i p.tail),.data (.sl 3 (p.params.map Bd.cs)),.data (.sl 3 (p.states.map Bd.cs)),.data (.sl 4 (p.lines.map Ln.cs)),.data (.sl 2 (p.tables.map Tb.cs)),.data (.sl 8 (p.stmts.map Sm.cs)),.gs 1000002 2 (FF.map Sp.cs)]),(1000002,.tok 2 (FF.map Sp.cs).length)]:=by
 refine ax tok hmix ⟨[],[]⟩ Tryz.func74 rfl (by kernel_rfl) (by kernel_rfl) (by kernel_rfl) λhf=>?_
 clear hf
 repeat' ((try(conv=>whnf))<;>first
  |exact trivial
  |((refine⟨_,_,_,[(1000000,2),(1000001,1000000)],G6 (.data (.i 0)) e,rfl,⟨rfl,rfl,trivial⟩,?_,?_⟩);kernel_rfl)
  |(refine⟨([(1000000,1000000),(1000001,1000001),(1000002,800002)]:List (Nat×Nat)),rfl,?_,?_⟩)
  |((refine lent_step' [(1000000,1000001),(1000001,800002)] (Ag p FF _ e hR hT hn hl hw hS hF rfl) ?_ ?_ ?_ ?_);rotate_left 0;exact rfl;(exact⟨rfl,trivial⟩);exact rfl)
  |(refine And.intro ?_ ?_)
  |((refine bD ?_);refine fO ?_ ?_ ?_;exact rfl;exact rfl;(first |exact rfl |skip))
  |exact @rfl Block _
  |fail)
 all_goals first
  |skip
end Go.Proofs.YthpbakljheeabaaGreatDoor
namespace Go.Proofs.YthpbakljheeabaaGreatDoor
open Go.Fw Go.Fw.Ref15 Go.Fw.Rg
set_option maxRecDepth 10000
variable [af]
theorem JH(l m:List Int)  : PCall Tryz.prog 86 [ints l,ints m] (.ret (.b (Rt l m))):=by
 refine ae tok hmix ⟨[],[]⟩ Tryz.func86 rfl (by kernel_rfl) (by kernel_rfl) (by kernel_rfl) λhf=>?_
 have hlen:l.length<=9223372036854775807:=by simpa using(hf (ints l) (by simp)).sl.1
 clear hf
 repeat' ((try(conv=>whnf))<;>first
  |with_reducible exact trivial
  |with_reducible exact au hd0 ‹_›
  |((with_reducible refine eu hd0 ?_ ?_);(assumption))
  |((with_reducible refine dI hd0 ?_ ?_);(assumption))
  |with_reducible refine BrI.intro (λh=>?_) (λh=>?_)
  |((with_reducible refine aB.mk 0 ?_);have hz:l.length=m.length:=(by simp at h;omega);have hk0:(l.zip m).length=(l.map dZ).length:=(by rw[iQ hz,List.length_map]);have hlz:(l.zip m).length<=9223372036854775807:=(by rw[iQ hz];exact hlen);refine⟨aI (l.zip m) 13 (λ(_:Unit)=>[]) (λ(_:Unit)=>[]) [0,1,12] (λi0 r0 _=>Rt l m=r0.all z3r),?_⟩;with_reducible refine ah () ?_ ?_ (λi0 (_:Unit) hd0 hI0=>?_) (λi0 x0 r0 (_:Unit) hd0 hl0 hI0=>?_))
  |(with_reducible refine ai hd0 () ?_ ?_)
  |((with_reducible refine aG ?_ ?_ ?_ ?_ ?_);exact rfl;exact rfl;rotate_left;(first |with_reducible exact kS hd0 |with_reducible exact kT hd0))
  |((with_reducible refine ay ?_ ?_);kernel_rfl)
  |((with_reducible refine ag ?_);refine⟨[],rfl,?_,trivial⟩;conv=>whnf)
  |(with_reducible refine And.intro ?_ ?_)
  |exact @rfl AV _
  |fail)
 all_goals(try simp only[Bool.cond_true_left,Bool.cond_false_right,Bool.cond_false_left,Bool.cond_true_right,Bool.not_eq_true',Bool.not_eq_false',bne,Ex.css_len,List.length_map,Int.toNat_zero]at *)
 all_goals first
  |(rw[hI0];(try simp only[z3r,Bool.not_true,Bool.not_false,Bool.and_true,Bool.true_and,Bool.and_false,Bool.false_and,Bool.or_true,Bool.true_or,Bool.or_false,Bool.false_or,if_true,if_false,reduceIte,Bool.false_eq_true,Bool.not_not,Bool.not_eq_true',beq_self_eq_true,List.all_cons,List.all_nil,List.any_cons,List.any_nil,List.length_map,bne,eq_self,Int.toNat_zero, *]);first |done |rfl)
  |(simp only[Rt,BB,Bool.not_true,Bool.not_false,Bool.and_true,Bool.true_and,Bool.and_false,Bool.false_and,Bool.or_true,Bool.true_or,Bool.or_false,Bool.false_or,if_true,if_false,reduceIte,Bool.false_eq_true,Bool.not_not,Bool.not_eq_true',beq_self_eq_true,List.all_cons,List.all_nil,List.any_cons,List.any_nil,List.length_map,bne,eq_self,Int.toNat_zero, *];done)
  |skip
theorem OI(l m:List Bd)  : PCall Tryz.prog 89 [.sl 3 (l.map Bd.cs),.sl 3 (m.map Bd.cs)] (.ret (.b (jQ l m))):=by
 refine ae tok hmix ⟨[],[]⟩ Tryz.func89 rfl (by kernel_rfl) (by kernel_rfl) (by kernel_rfl) λhf=>?_
 have hlen:l.length<=9223372036854775807:=by simpa using(hf (.sl 3 (l.map Bd.cs)) (by simp)).sl.1
 clear hf
 repeat' ((try(conv=>whnf))<;>first
  |with_reducible exact trivial
  |with_reducible exact au hd0 ‹_›
  |((with_reducible refine eu hd0 ?_ ?_);(assumption))
  |((with_reducible refine dI hd0 ?_ ?_);(assumption))
  |with_reducible refine BrI.intro (λh=>?_) (λh=>?_)
  |((with_reducible refine aB.mk 0 ?_);have hz:l.length=m.length:=(by simp at h;omega);have hk0:(l.zip m).length=(l.map Bd.cs).length:=(by rw[iQ hz,List.length_map]);have hlz:(l.zip m).length<=9223372036854775807:=(by rw[iQ hz];exact hlen);refine⟨aI (l.zip m) 13 (λ(_:Unit)=>[]) (λ(_:Unit)=>[]) [0,1,12] (λi0 r0 _=>jQ l m=r0.all Bv),?_⟩;with_reducible refine ah () ?_ ?_ (λi0 (_:Unit) hd0 hI0=>?_) (λi0 x0 r0 (_:Unit) hd0 hl0 hI0=>?_))
  |(with_reducible refine ai hd0 () ?_ ?_)
  |((with_reducible refine xg ?_ ?_ ?_);exact rfl;exact rfl)
  |((with_reducible refine aG ?_ ?_ ?_ ?_ ?_);exact rfl;exact rfl;rotate_left;(first |with_reducible exact kS hd0 |with_reducible exact kT hd0))
  |((with_reducible refine aK ?_ ?_);exact rfl)
  |((with_reducible refine ay ?_ ?_);kernel_rfl)
  |((with_reducible refine ag ?_);refine⟨[],rfl,?_,trivial⟩;conv=>whnf)
  |(with_reducible refine And.intro ?_ ?_)
  |exact @rfl AV _
  |fail)
 all_goals(try simp only[Bool.cond_true_left,Bool.cond_false_right,Bool.cond_false_left,Bool.cond_true_right,Bool.not_eq_true',Bool.not_eq_false',bne,Ex.css_len,List.length_map,Int.toNat_zero]at *)
 all_goals first
  |(rw[hI0];(try simp only[Bv,Bool.not_true,Bool.not_false,Bool.and_true,Bool.true_and,Bool.and_false,Bool.false_and,Bool.or_true,Bool.true_or,Bool.or_false,Bool.false_or,if_true,if_false,reduceIte,Bool.false_eq_true,Bool.not_not,Bool.not_eq_true',beq_self_eq_true,List.all_cons,List.all_nil,List.any_cons,List.any_nil,List.length_map,bne,eq_self,Int.toNat_zero, *]);first |done |rfl)
  |(simp only[jQ,Bool.not_true,Bool.not_false,Bool.and_true,Bool.true_and,Bool.and_false,Bool.false_and,Bool.or_true,Bool.true_or,Bool.or_false,Bool.false_or,if_true,if_false,reduceIte,Bool.false_eq_true,Bool.not_not,Bool.not_eq_true',beq_self_eq_true,List.all_cons,List.all_nil,List.any_cons,List.any_nil,List.length_map,bne,eq_self,Int.toNat_zero, *];done)
  |skip
theorem OJ(l m:List Ln)  : PCall Tryz.prog 90 [.sl 4 (l.map Ln.cs),.sl 4 (m.map Ln.cs)] (.ret (.b (BB yV l m))):=by
 refine ae tok hmix ⟨[],[]⟩ Tryz.func90 rfl (by kernel_rfl) (by kernel_rfl) (by kernel_rfl) λhf=>?_
 have hlen:l.length<=9223372036854775807:=by simpa using(hf (.sl 4 (l.map Ln.cs)) (by simp)).sl.1
 clear hf
 repeat' ((try(conv=>whnf))<;>first
  |with_reducible exact trivial
  |with_reducible exact au hd0 ‹_›
  |((with_reducible refine eu hd0 ?_ ?_);(assumption))
  |((with_reducible refine dI hd0 ?_ ?_);(assumption))
  |with_reducible refine BrI.intro (λh=>?_) (λh=>?_)
  |((with_reducible refine aB.mk 0 ?_);have hz:l.length=m.length:=(by simp at h;omega);have hk0:(l.zip m).length=(l.map Ln.cs).length:=(by rw[iQ hz,List.length_map]);have hlz:(l.zip m).length<=9223372036854775807:=(by rw[iQ hz];exact hlen);refine⟨aI (l.zip m) 13 (λ(_:Unit)=>[]) (λ(_:Unit)=>[]) [0,1,12] (λi0 r0 _=>BB yV l m=r0.all yV),?_⟩;with_reducible refine ah () ?_ ?_ (λi0 (_:Unit) hd0 hI0=>?_) (λi0 x0 r0 (_:Unit) hd0 hl0 hI0=>?_))
  |(with_reducible refine ai hd0 () ?_ ?_)
  |((with_reducible refine xg ?_ ?_ ?_);exact rfl;exact rfl)
  |((with_reducible refine aG ?_ ?_ ?_ ?_ ?_);exact rfl;exact rfl;rotate_left;(first |with_reducible exact kS hd0 |with_reducible exact kT hd0))
  |((with_reducible refine aK ?_ ?_);exact rfl)
  |((with_reducible refine ay ?_ ?_);kernel_rfl)
  |((with_reducible refine ag ?_);refine⟨[],rfl,?_,trivial⟩;conv=>whnf)
  |(with_reducible refine And.intro ?_ ?_)
  |exact @rfl AV _
  |fail)
 all_goals(try simp only[Bool.cond_true_left,Bool.cond_false_right,Bool.cond_false_left,Bool.cond_true_right,Bool.not_eq_true',Bool.not_eq_false',bne,Ex.css_len,List.length_map,Int.toNat_zero]at *)
 all_goals first
  |(rw[hI0];(try simp only[yV,Bool.not_true,Bool.not_false,Bool.and_true,Bool.true_and,Bool.and_false,Bool.false_and,Bool.or_true,Bool.true_or,Bool.or_false,Bool.false_or,if_true,if_false,reduceIte,Bool.false_eq_true,Bool.not_not,Bool.not_eq_true',beq_self_eq_true,List.all_cons,List.all_nil,List.any_cons,List.any_nil,List.length_map,bne,eq_self,Int.toNat_zero, *]);first |done |rfl)
  |(simp only[BB,Bool.not_true,Bool.not_false,Bool.and_true,Bool.true_and,Bool.and_false,Bool.false_and,Bool.or_true,Bool.true_or,Bool.or_false,Bool.false_or,if_true,if_false,reduceIte,Bool.false_eq_true,Bool.not_not,Bool.not_eq_true',beq_self_eq_true,List.all_cons,List.all_nil,List.any_cons,List.any_nil,List.length_map,bne,eq_self,Int.toNat_zero, *];done)
  |skip
theorem Xh(a b:Tb)  : PCall Tryz.prog 85 [.agg a.cs,.agg b.cs] (.ret (.b (tbE (a,b)))):=by
 refine ae tok hmix ⟨[],[]⟩ Tryz.func85 rfl (by kernel_rfl) (by kernel_rfl) (by kernel_rfl) λhf=>?_
 clear hf
 repeat' ((try(conv=>whnf))<;>first
  |((with_reducible refine ak ?_ ?_ ?_);rotate_left;(exact JH _ _))
  |((with_reducible refine bu ?_ ?_ (λhg=>?_) ?_);exact rfl)
  |((with_reducible refine dB ?_ ?_);with_reducible exact rfl;with_reducible exact rfl)
  |((with_reducible refine ag ?_);refine⟨[],rfl,?_,trivial⟩;conv=>whnf)
  |fail)
 all_goals(try simp only[Bool.cond_true_left,Bool.cond_false_right,Bool.cond_false_left,Bool.cond_true_right,Bool.not_eq_true',Bool.not_eq_false',bne,Ex.css_len,List.length_map,Int.toNat_zero]at *)
 all_goals first
  |(simp only[tbE,Bool.not_true,Bool.not_false,Bool.and_true,Bool.true_and,Bool.and_false,Bool.false_and,Bool.or_true,Bool.true_or,Bool.or_false,Bool.false_or,if_true,if_false,reduceIte,Bool.false_eq_true,Bool.not_not,Bool.not_eq_true',beq_self_eq_true,List.all_cons,List.all_nil,List.any_cons,List.any_nil,List.length_map,bne,eq_self,Int.toNat_zero, *];done)
  |skip
theorem OL(l m:List Ex)(ih:∀x∈l,∀y,PCall Tryz.prog 88 [x.d,y.d] (.ret (.b (gB x y)))):PCall Tryz.prog 105 [.sl 5 (l.map Ex.cs),.sl 5 (m.map Ex.cs),.fn 88 []] (.ret (.b (z3s l m))):=by
 refine ae tok hmix ⟨[],[]⟩ Tryz.func105 rfl (by kernel_rfl) (by kernel_rfl) (by kernel_rfl) λhf=>?_
 have hlen:l.length<=9223372036854775807:=by simpa using(hf (.sl 5 (l.map Ex.cs)) (by simp)).sl.1
 clear hf
 repeat' ((try(conv=>whnf))<;>first
  |with_reducible exact trivial
  |with_reducible exact au hd0 ‹_›
  |((with_reducible refine eu hd0 ?_ ?_);(assumption))
  |((with_reducible refine dI hd0 ?_ ?_);(assumption))
  |with_reducible refine BrI.intro (λh=>?_) (λh=>?_)
  |((with_reducible refine aB.mk 0 ?_);have hz:l.length=m.length:=(by simp at h;omega);have hk0:(l.zip m).length=(l.map Ex.cs).length:=(by rw[iQ hz,List.length_map]);have hlz:(l.zip m).length<=9223372036854775807:=(by rw[iQ hz];exact hlen);refine⟨aI (l.zip m) 17 (λ(_:Unit)=>[]) (λ(_:Unit)=>[]) [1,2,15,16] (λi0 r0 _=>z3s l m=r0.all exE),?_⟩;with_reducible refine ah () ?_ ?_ (λi0 (_:Unit) hd0 hI0=>?_) (λi0 x0 r0 (_:Unit) hd0 hl0 hI0=>?_))
  |(with_reducible refine ai hd0 () ?_ ?_)
  |((with_reducible refine ak ?_ ?_ ?_);rotate_left;(exact ih _ (List.of_mem_zip (bJ hd0)).1 _))
  |((with_reducible refine aG ?_ ?_ ?_ ?_ ?_);exact rfl;exact rfl;rotate_left;(first |with_reducible exact kS hd0 |with_reducible exact kT hd0))
  |((with_reducible refine aK ?_ ?_);exact rfl)
  |((with_reducible refine ag ?_);refine⟨[],rfl,?_,trivial⟩;conv=>whnf)
  |(with_reducible refine And.intro ?_ ?_)
  |exact @rfl AV _
  |fail)
 all_goals(try simp only[Bool.cond_true_left,Bool.cond_false_right,Bool.cond_false_left,Bool.cond_true_right,Bool.not_eq_true',Bool.not_eq_false',bne,Ex.css_len,List.length_map,Int.toNat_zero]at *)
 all_goals first
  |(rw[hI0];(try simp only[exE,Bool.not_true,Bool.not_false,Bool.and_true,Bool.true_and,Bool.and_false,Bool.false_and,Bool.or_true,Bool.true_or,Bool.or_false,Bool.false_or,if_true,if_false,reduceIte,Bool.false_eq_true,Bool.not_not,Bool.not_eq_true',beq_self_eq_true,List.all_cons,List.all_nil,List.any_cons,List.any_nil,List.length_map,bne,eq_self,Int.toNat_zero, *]);first |done |rfl)
  |(simp only[z3s,BB,Bool.not_true,Bool.not_false,Bool.and_true,Bool.true_and,Bool.and_false,Bool.false_and,Bool.or_true,Bool.true_or,Bool.or_false,Bool.false_or,if_true,if_false,reduceIte,Bool.false_eq_true,Bool.not_not,Bool.not_eq_true',beq_self_eq_true,List.all_cons,List.all_nil,List.any_cons,List.any_nil,List.length_map,bne,eq_self,Int.toNat_zero, *];done)
  |skip
theorem Ah(a b:Ex)  : PCall Tryz.prog 88 [a.d,b.d] (.ret (.b (gB a b))):=by
 revert b;revert a;refine Ex.ind λa ih b=>?_
 refine ae tok hmix ⟨[],[]⟩ Tryz.func88 rfl (by kernel_rfl) (by kernel_rfl) (by kernel_rfl) λhf=>?_
 clear hf
 repeat' ((try(conv=>whnf))<;>first
  |((with_reducible refine ak ?_ ?_ ?_);rotate_left;((have hq:=OL a.l b.l ih;rw[<-Ex.css_eq,<-Ex.css_eq]at hq;exact hq)))
  |((with_reducible refine bu ?_ ?_ (λhg=>?_) ?_);exact rfl)
  |((with_reducible refine dB ?_ ?_);with_reducible exact rfl;with_reducible exact rfl)
  |((with_reducible refine ag ?_);refine⟨[],rfl,?_,trivial⟩;conv=>whnf)
  |fail)
 all_goals(try simp only[Bool.cond_true_left,Bool.cond_false_right,Bool.cond_false_left,Bool.cond_true_right,Bool.not_eq_true',Bool.not_eq_false',bne,Ex.css_len,List.length_map,Int.toNat_zero]at *)
 all_goals first
  |((exact congrArg D.b (Dy a b)))
  |skip
theorem Xi(a b:Sm)  : PCall Tryz.prog 87 [a.d,b.d] (.ret (.b (smE (a,b)))):=by
 refine ae tok hmix ⟨[],[]⟩ Tryz.func87 rfl (by kernel_rfl) (by kernel_rfl) (by kernel_rfl) λhf=>?_
 clear hf
 repeat' ((try(conv=>whnf))<;>first
  |((with_reducible refine ak ?_ ?_ ?_);rotate_left;(exact Ah _ _))
  |((with_reducible refine bu ?_ ?_ (λhg=>?_) ?_);exact rfl)
  |((with_reducible refine dB ?_ ?_);with_reducible exact rfl;with_reducible exact rfl)
  |((with_reducible refine ag ?_);refine⟨[],rfl,?_,trivial⟩;conv=>whnf)
  |fail)
 all_goals(try simp only[Bool.cond_true_left,Bool.cond_false_right,Bool.cond_false_left,Bool.cond_true_right,Bool.not_eq_true',Bool.not_eq_false',bne,Ex.css_len,List.length_map,Int.toNat_zero]at *)
 all_goals first
  |(simp only[smE,Bool.not_true,Bool.not_false,Bool.and_true,Bool.true_and,Bool.and_false,Bool.false_and,Bool.or_true,Bool.true_or,Bool.or_false,Bool.false_or,if_true,if_false,reduceIte,Bool.false_eq_true,Bool.not_not,Bool.not_eq_true',beq_self_eq_true,List.all_cons,List.all_nil,List.any_cons,List.any_nil,List.length_map,bne,eq_self,Int.toNat_zero, *];done)
  |skip
theorem OM(l m:List Tb)  : PCall Tryz.prog 91 [.sl 2 (l.map Tb.cs),.sl 2 (m.map Tb.cs),.fn 85 []] (.ret (.b (BB tbE l m))):=by
 refine ae tok hmix ⟨[],[]⟩ Tryz.func91 rfl (by kernel_rfl) (by kernel_rfl) (by kernel_rfl) λhf=>?_
 have hlen:l.length<=9223372036854775807:=by simpa using(hf (.sl 2 (l.map Tb.cs)) (by simp)).sl.1
 clear hf
 repeat' ((try(conv=>whnf))<;>first
  |with_reducible exact trivial
  |with_reducible exact au hd0 ‹_›
  |((with_reducible refine eu hd0 ?_ ?_);(assumption))
  |((with_reducible refine dI hd0 ?_ ?_);(assumption))
  |with_reducible refine BrI.intro (λh=>?_) (λh=>?_)
  |((with_reducible refine aB.mk 0 ?_);have hz:l.length=m.length:=(by simp at h;omega);have hk0:(l.zip m).length=(l.map Tb.cs).length:=(by rw[iQ hz,List.length_map]);have hlz:(l.zip m).length<=9223372036854775807:=(by rw[iQ hz];exact hlen);refine⟨aI (l.zip m) 17 (λ(_:Unit)=>[]) (λ(_:Unit)=>[]) [1,2,15,16] (λi0 r0 _=>BB tbE l m=r0.all tbE),?_⟩;with_reducible refine ah () ?_ ?_ (λi0 (_:Unit) hd0 hI0=>?_) (λi0 x0 r0 (_:Unit) hd0 hl0 hI0=>?_))
  |(with_reducible refine ai hd0 () ?_ ?_)
  |((with_reducible refine ak ?_ ?_ ?_);rotate_left;(exact Xh _ _))
  |((with_reducible refine aG ?_ ?_ ?_ ?_ ?_);exact rfl;exact rfl;rotate_left;(first |with_reducible exact kS hd0 |with_reducible exact kT hd0))
  |((with_reducible refine aK ?_ ?_);exact rfl)
  |((with_reducible refine ag ?_);refine⟨[],rfl,?_,trivial⟩;conv=>whnf)
  |(with_reducible refine And.intro ?_ ?_)
  |exact @rfl AV _
  |fail)
 all_goals(try simp only[Bool.cond_true_left,Bool.cond_false_right,Bool.cond_false_left,Bool.cond_true_right,Bool.not_eq_true',Bool.not_eq_false',bne,Ex.css_len,List.length_map,Int.toNat_zero]at *)
 all_goals first
  |(rw[hI0];(try simp only[List.all_cons,Bool.not_true,Bool.not_false,Bool.and_true,Bool.true_and,Bool.and_false,Bool.false_and,Bool.or_true,Bool.true_or,Bool.or_false,Bool.false_or,if_true,if_false,reduceIte,Bool.false_eq_true,Bool.not_not,Bool.not_eq_true',beq_self_eq_true,List.all_cons,List.all_nil,List.any_cons,List.any_nil,List.length_map,bne,eq_self,Int.toNat_zero, *]);first |done |rfl)
  |(simp only[BB,Bool.not_true,Bool.not_false,Bool.and_true,Bool.true_and,Bool.and_false,Bool.false_and,Bool.or_true,Bool.true_or,Bool.or_false,Bool.false_or,if_true,if_false,reduceIte,Bool.false_eq_true,Bool.not_not,Bool.not_eq_true',beq_self_eq_true,List.all_cons,List.all_nil,List.any_cons,List.any_nil,List.length_map,bne,eq_self,Int.toNat_zero, *];done)
  |skip
theorem OO(l m:List Sm)  : PCall Tryz.prog 92 [.sl 8 (l.map Sm.cs),.sl 8 (m.map Sm.cs),.fn 87 []] (.ret (.b (BB smE l m))):=by
 refine ae tok hmix ⟨[],[]⟩ Tryz.func92 rfl (by kernel_rfl) (by kernel_rfl) (by kernel_rfl) λhf=>?_
 have hlen:l.length<=9223372036854775807:=by simpa using(hf (.sl 8 (l.map Sm.cs)) (by simp)).sl.1
 clear hf
 repeat' ((try(conv=>whnf))<;>first
  |with_reducible exact trivial
  |with_reducible exact au hd0 ‹_›
  |((with_reducible refine eu hd0 ?_ ?_);(assumption))
  |((with_reducible refine dI hd0 ?_ ?_);(assumption))
  |with_reducible refine BrI.intro (λh=>?_) (λh=>?_)
  |((with_reducible refine aB.mk 0 ?_);have hz:l.length=m.length:=(by simp at h;omega);have hk0:(l.zip m).length=(l.map Sm.cs).length:=(by rw[iQ hz,List.length_map]);have hlz:(l.zip m).length<=9223372036854775807:=(by rw[iQ hz];exact hlen);refine⟨aI (l.zip m) 17 (λ(_:Unit)=>[]) (λ(_:Unit)=>[]) [1,2,15,16] (λi0 r0 _=>BB smE l m=r0.all smE),?_⟩;with_reducible refine ah () ?_ ?_ (λi0 (_:Unit) hd0 hI0=>?_) (λi0 x0 r0 (_:Unit) hd0 hl0 hI0=>?_))
  |(with_reducible refine ai hd0 () ?_ ?_)
  |((with_reducible refine ak ?_ ?_ ?_);rotate_left;(exact Xi _ _))
  |((with_reducible refine aG ?_ ?_ ?_ ?_ ?_);exact rfl;exact rfl;rotate_left;(first |with_reducible exact kS hd0 |with_reducible exact kT hd0))
  |((with_reducible refine aK ?_ ?_);exact rfl)
  |((with_reducible refine ag ?_);refine⟨[],rfl,?_,trivial⟩;conv=>whnf)
  |(with_reducible refine And.intro ?_ ?_)
  |exact @rfl AV _
  |fail)
 all_goals(try simp only[Bool.cond_true_left,Bool.cond_false_right,Bool.cond_false_left,Bool.cond_true_right,Bool.not_eq_true',Bool.not_eq_false',bne,Ex.css_len,List.length_map,Int.toNat_zero]at *)
 all_goals first
  |(rw[hI0];(try simp only[List.all_cons,Bool.not_true,Bool.not_false,Bool.and_true,Bool.true_and,Bool.and_false,Bool.false_and,Bool.or_true,Bool.true_or,Bool.or_false,Bool.false_or,if_true,if_false,reduceIte,Bool.false_eq_true,Bool.not_not,Bool.not_eq_true',beq_self_eq_true,List.all_cons,List.all_nil,List.any_cons,List.any_nil,List.length_map,bne,eq_self,Int.toNat_zero, *]);first |done |rfl)
  |(simp only[BB,Bool.not_true,Bool.not_false,Bool.and_true,Bool.true_and,Bool.and_false,Bool.false_and,Bool.or_true,Bool.true_or,Bool.or_false,Bool.false_or,if_true,if_false,reduceIte,Bool.false_eq_true,Bool.not_not,Bool.not_eq_true',beq_self_eq_true,List.all_cons,List.all_nil,List.any_cons,List.any_nil,List.length_map,bne,eq_self,Int.toNat_zero, *];done)
  |skip
theorem jR(a b:Pr)  : PCall Tryz.prog 68 [a.d,b.d] (.ret (.b (qo a b))):=by
 refine ae tok hmix ⟨[],[]⟩ Tryz.func68 rfl (by kernel_rfl) (by kernel_rfl) (by kernel_rfl) λhf=>?_
 clear hf
 repeat' ((try(conv=>whnf))<;>first
  |((with_reducible refine ak ?_ ?_ ?_);rotate_left;(first |exact OI _ _ |exact OJ _ _ |exact OM _ _ |exact OO _ _))
  |((with_reducible refine bu ?_ ?_ (λhg=>?_) ?_);exact rfl)
  |((with_reducible refine dB ?_ ?_);with_reducible exact rfl;with_reducible exact rfl)
  |((with_reducible refine ag ?_);refine⟨[],rfl,?_,trivial⟩;conv=>whnf)
  |fail)
 all_goals(try simp only[Bool.cond_true_left,Bool.cond_false_right,Bool.cond_false_left,Bool.cond_true_right,Bool.not_eq_true',Bool.not_eq_false',bne,Ex.css_len,List.length_map,Int.toNat_zero]at *)
 all_goals first
  |(simp only[qo,Ru,Bool.not_true,Bool.not_false,Bool.and_true,Bool.true_and,Bool.and_false,Bool.false_and,Bool.or_true,Bool.true_or,Bool.or_false,Bool.false_or,if_true,if_false,reduceIte,Bool.false_eq_true,Bool.not_not,Bool.not_eq_true',beq_self_eq_true,List.all_cons,List.all_nil,List.any_cons,List.any_nil,List.length_map,bne,eq_self,Int.toNat_zero, *];done)
  |skip
end Go.Proofs.YthpbakljheeabaaGreatDoor
namespace Go.Proofs.YthpbakljheeabaaGreatDoor
open Go.Fw Go.Fw.Rg Go.Fw.Nam
set_option maxRecDepth 10000
variable [af]
theorem Xj(p:Pr)(g:iW p)(he:((resolveC p).2 != 0)=true):PCall Tryz.prog 72 [p.d] (.ret (.tuple [.val (.pointer none),.i (resolveC p).2])):=by
 refine ae tok hmix ⟨[],[]⟩ Tryz.func72 rfl (by kernel_rfl) (by kernel_rfl) (by kernel_rfl) λhf=>?_
 clear hf
 repeat' ((try(conv=>whnf))<;>first
  |(exact Bool.noConfusion (show true=false from he.symm.trans h))
  |refine BrI.intro (λh=>?_) (λh=>?_)
  |((refine ak ?_ ?_ ?_);rotate_left;(exact jy p g.sm g.hn))
  |((refine ay ?_ ?_);kernel_rfl)
  |((refine ag ?_);refine⟨[],rfl,?_,trivial⟩;conv=>whnf)
  |fail)
 all_goals first
  |skip
theorem Xk(p:Pr)(g:iW p)(he:((resolveC p).2 != 0)=false)(hs:qo p (resolveC p).1=false):PCall Tryz.prog 72 [p.d] (.ret (.tuple [.val (.pointer none),.i 150])):=by
 refine ae tok hmix ⟨[],[]⟩ Tryz.func72 rfl (by kernel_rfl) (by kernel_rfl) (by kernel_rfl) λhf=>?_
 clear hf
 repeat' ((try(conv=>whnf))<;>first
  |(exact Bool.noConfusion (show false=true from he.symm.trans h))
  |(exact Bool.noConfusion (show true=false from(congrArg (!·) hs).symm.trans h))
  |refine BrI.intro (λh=>?_) (λh=>?_)
  |((refine ak ?_ ?_ ?_);rotate_left;(first |exact jR _ _ |exact jy p g.sm g.hn))
  |((refine ag ?_);refine⟨[],rfl,?_,trivial⟩;conv=>whnf)
  |fail)
 all_goals first
  |skip
theorem Xl(p:Pr)(FF:List Sp)(g:iW p)(he:(resolveC p).2=0)(hs:(resolveC p).1=p)(hR:Rng p)(hw:tq p 0 p.stmts=true)(hS:bK p p.stmts [] = .ok FF)(hF:gI p p.stmts []=FF):PCall Tryz.prog 72 [p.d] (.ret (.tuple [.ptr (fC p FF),.i 0])):=by
 refine ae tok hmix ⟨[],[]⟩ Tryz.func72 rfl (by kernel_rfl) (by kernel_rfl) (by kernel_rfl) λhf=>?_
 have hq:resolveC p=(p,0):=Prod.ext hs he
 have hc:=jy p g.sm g.hn
 rw[hq]at hc
 have hc2:=jR p p
 rw[(iD p p).2 rfl]at hc2
 clear hf
 repeat' ((try(conv=>whnf))<;>first
  |(exact Bool.noConfusion (show true=false from h.symm.trans (rfl:((0:Int) != 0)=false)))
  |(exact Bool.noConfusion (show false=true from(congrArg (!·) ((iD p p).2 rfl)).symm.trans h))
  |refine BrI.intro (λh=>?_) (λh=>?_)
  |((refine ak ?_ ?_ ?_);rotate_left;(first |exact jR _ _ |exact hc))
  |((refine lent_step' [(1000000,3),(1000001,19),(1000002,800001)] (z1b p FF hR g.hT g.hn g.hl hw hS hF) ?_ ?_ ?_ ?_);rotate_left 0;exact rfl;(exact⟨rfl,rfl,trivial⟩);exact rfl)
  |((refine ay ?_ ?_);kernel_rfl)
  |((refine ag ?_);refine⟨[],rfl,?_,trivial⟩;conv=>whnf)
  |(refine And.intro ?_ ?_)
  |fail)
 all_goals first
  |(rfl)
  |skip
theorem Ul(p:Pr)(FF:List Sp)(e:Int)(g:iW p)(he:(resolveC p).2=0)(hs:(resolveC p).1=p)(hR:Rng p)(hw:tq p 0 p.stmts=true)(hS:bK p p.stmts [] = .error e)(hF:gI p p.stmts []=FF):PCall Tryz.prog 72 [p.d] (.ret (.tuple [.ptr (fC p FF),.i e])):=by
 refine ae tok hmix ⟨[],[]⟩ Tryz.func72 rfl (by kernel_rfl) (by kernel_rfl) (by kernel_rfl) λhf=>?_
 have hq:resolveC p=(p,0):=Prod.ext hs he
 have hc:=jy p g.sm g.hn
 rw[hq]at hc
 have hc2:=jR p p
 rw[(iD p p).2 rfl]at hc2
 clear hf
 repeat' ((try(conv=>whnf))<;>first
  |(exact Bool.noConfusion (show true=false from h.symm.trans (rfl:((0:Int) != 0)=false)))
  |(exact Bool.noConfusion (show false=true from(congrArg (!·) ((iD p p).2 rfl)).symm.trans h))
  |refine BrI.intro (λh=>?_) (λh=>?_)
  |((refine ak ?_ ?_ ?_);rotate_left;(first |exact jR _ _ |exact hc))
  |((refine lent_step' [(1000000,3),(1000001,19),(1000002,800001)] (Xg p FF e hR g.hT g.hn g.hl hw hS hF) ?_ ?_ ?_ ?_);rotate_left 0;exact rfl;(exact⟨rfl,rfl,trivial⟩);exact rfl)
  |((refine ay ?_ ?_);kernel_rfl)
  |((refine ag ?_);refine⟨[],rfl,?_,trivial⟩;conv=>whnf)
  |(refine And.intro ?_ ?_)
  |fail)
 all_goals first
  |(rfl)
  |skip
theorem zI(p:Pr)(x:Ex)(most:Int)(hm0:0<=most)(hm:most<=512):PCall Tryz.prog 73 [p.d,x.d,.i most] (.ret (.tuple [.i (dR p x most).1,.b (dR p x most).2])):=by
 revert hm0 hm;revert most;revert x;refine Ex.ind λx ih most hm0 hm=>?_
 refine ae tok hmix ⟨[],[]⟩ Tryz.func73 rfl (by kernel_rfl) (by kernel_rfl) (by kernel_rfl) λhf=>?_
 have hlen:=Ex.fits (hf x.d (by simp));have hq:=Pr.fits (hf p.d (by simp))
 have ih2:∀y∈x.l,∀m c,c=m->0<=m->m<=512->PCall Tryz.prog 73 [p.d,y.d,.i c] (.ret (.tuple [.i (dR p y m).1,.b (dR p y m).2])):=λy hy m c hc h0 h1=>by subst hc;exact ih y hy c h0 h1
 clear hf
 repeat' ((try(conv=>whnf))<;>first
  |(exact Bool.noConfusion (show true=false from h))
  |(exact Bool.noConfusion (show false=true from h))
  |exact trivial
  |exact au hd1 ‹_›
  |refine jL hd1 ?_
  |refine gJ hd1 ?_
  |refine BrI.intro (λh=>?_) (λh=>?_)
  |((refine RU (l:=bU) ?_ (λnd hnd=>?_) (λhnd=>?_));exact rfl)
  |((refine VU (p:=p) ?_ (λmd hmd=>?_) (λhmd=>?_));exact rfl)
  |(exact(z3x ‹lkI x.kind (jO p)=none› h).elim)
  |((refine kE Sm.none ?_ ?_ ?_ ?_ ?_);exact rfl;exact rfl;rotate_left 2)
  |((refine aB.mk 1 ?_);refine⟨aI (x.l) 109 (λ(q:(Int)×(Bool))=>match q with |(n,ok)=>[(6,.data (.val (.int .i64 n))),(7,.data (.val (.bool ok)))]) (λ(q:(Int)×(Bool))=>match q with |(n,ok)=>[]) [2,3,107,108] (λi1 r1 q=>match q with |(n,ok)=>dR p x most=iY p r1 most n ok/\1<=n/\n<=most),?_⟩;refine ah (?_,?_) ?_ ?_ (λi1 ⟨n,ok⟩ hd1 hI1=>?_) (λi1 x1 r1 ⟨n,ok⟩ hd1 hl1 hI1=>?_))
  |(refine ai hd1 (?_,?_) ?_ ?_)
  |((refine ak ?_ ?_ ?_);rotate_left;(exact ih2 _ (bJ ‹_›) (most-n) _ (bH (by omega) (by omega)) (by omega) (by omega)))
  |((refine aG ?_ ?_ ?_ ?_ ?_);exact rfl;exact rfl;rotate_left;(exact dV hd1))
  |((refine aK ?_ ?_);exact rfl)
  |((refine ag ?_);refine⟨[],rfl,?_,trivial⟩;conv=>whnf)
  |(refine And.intro ?_ ?_)
  |exact @rfl AV _
  |fail)
 all_goals first
  |(rfl)
  |((exact Int.le_refl _))
  |((refine(z8s ‹lkI x.kind (jO p)=some _› ‹(x.kind==5)=true› ?_).1;assumption))
  |((refine(z8s ‹lkI x.kind (jO p)=some _› ‹(x.kind==5)=true› ?_).2;assumption))
  |((refine ZI (l:=x.l) (nd:=nd) ?_;assumption))
  |(((refine Og ‹lkI x.kind bU=some _› ‹lkI x.kind (jO p)=_› ?_ ?_ ?_);assumption;(first |exact rfl |(refine LD (b:=false) ?_;assumption));(first |exact z7e ‹_› |exact z7f ‹_› ‹_› |exact z7g ‹_› ‹_› ‹_› |exact z7h ‹_› ‹_› ‹_›)))
  |((rw[ve ‹lkI x.kind bU=none›]))
  |((rw[vg ‹lkI x.kind bU=some _› (ZH (b:=true) h)]))
  |((rw[VV ‹lkI x.kind bU=some _› ‹lkI x.kind (jO p)=_› ?_ (LD (b:=true) h)];assumption))
  |((obtain⟨hok,hfit⟩:=z6i h;have hr:=xx p x1 (most-n) (by omega);have h3:=hr.2.2 hfit;rw[bH (by omega) (by omega)];first |omega |(rw[hI1.1];exact tN h)))
  |((rw[hI1.1,mX h]))
  |((rw[hI1.1,iY]))
  |skip
theorem check_any(p:Pr)(pd:D)(e:Int)(hw:PCall Tryz.prog 72 [p.d] (.ret (.tuple [pd,.i e]))):PCall Tryz.prog 69 [p.d] (.ret (.i e)):=by
 refine ae tok hmix ⟨[],[]⟩ Tryz.func69 rfl (by kernel_rfl) (by kernel_rfl) (by kernel_rfl) λhf=>?_
 clear hf
 repeat' ((try(conv=>whnf))<;>first
  |((refine ak ?_ ?_ ?_);rotate_left;(exact hw))
  |((refine ag ?_);refine⟨[],rfl,?_,trivial⟩;conv=>whnf)
  |fail)
 all_goals first
  |skip
theorem z1c(p:Pr)(F:List Sp)(x:Ex)(s:Sp)(a b:Int)(hc:PCall Tryz.prog 76 [.ptr (fC p F),x.d] (.ret s.d)):LCall Tryz.prog 75 [.ptr 1000000 0,.ptr 1000001 0,.ptr 1000002 0,.ptr 1000003 0] [(1000000,.cells [.data (.ptr (fC p F))]),(1000001,.cells [.data (.i x.kind),.data (.str x.name),.data (.i x.index),.data (.i x.n),.data (.sl 5 (Ex.css x.l))]),(1000002,.cells [.data (.i a)]),(1000003,.cells [.data (.i b)])] (.ret (.data (.tuple []))) [(1000000,.cells [.data (.ptr (fC p F))]),(1000001,.cells [.data (.i x.kind),.data (.str x.name),.data (.i x.index),.data (.i x.n),.data (.sl 5 (Ex.css x.l))]),(1000002,.cells [.data (.i s.1)]),(1000003,.cells [.data (.i s.2)])]:=by
 refine ax tok hmix ⟨[],[]⟩ Tryz.func75 rfl (by kernel_rfl) (by kernel_rfl) (by kernel_rfl) λhf=>?_
 clear hf
 repeat' ((try(conv=>whnf))<;>first
  |exact trivial
  |((refine ak ?_ ?_ ?_);rotate_left;(exact hc))
  |((refine ag ?_);refine fin_step' [] rfl ?_ ?_)
  |((refine ay ?_ ?_);kernel_rfl)
  |(refine And.intro ?_ ?_)
  |fail)
 all_goals first
  |(rfl)
  |(decide)
  |skip
theorem Xm(p:Pr)(F:List Sp)(x:Ex)(e:Int)(a b:Int)(hc:PCall Tryz.prog 76 [.ptr (fC p F),x.d] (.pan (.iface 30 (.i e)))):LCall Tryz.prog 75 [.ptr 1000000 0,.ptr 1000001 0,.ptr 1000002 0,.ptr 1000003 0] [(1000000,.cells [.data (.ptr (fC p F))]),(1000001,.cells [.data (.i x.kind),.data (.str x.name),.data (.i x.index),.data (.i x.n),.data (.sl 5 (Ex.css x.l))]),(1000002,.cells [.data (.i a)]),(1000003,.cells [.data (.i b)])] (.pan (.data (.iface 30 (.i e)))) [(1000000,.cells [.data (.ptr (fC p F))]),(1000001,.cells [.data (.i x.kind),.data (.str x.name),.data (.i x.index),.data (.i x.n),.data (.sl 5 (Ex.css x.l))]),(1000002,.cells [.data (.i a)]),(1000003,.cells [.data (.i b)])]:=by
 refine ax tok hmix ⟨[],[]⟩ Tryz.func75 rfl (by kernel_rfl) (by kernel_rfl) (by kernel_rfl) λhf=>?_
 clear hf
 repeat' ((try(conv=>whnf))<;>first
  |exact trivial
  |((refine ak ?_ ?_ ?_);rotate_left;(exact hc))
  |((refine iR ?_);refine fin_step' [] rfl ?_ ?_)
  |(refine And.intro ?_ ?_)
  |fail)
 all_goals first
  |skip
theorem Xn(p:Pr)(F:List Sp)(x:Ex)(s:Sp)(hc:PCall Tryz.prog 76 [.ptr (fC p F),x.d] (.ret s.d)):LCall Tryz.prog 74 [.ptr 1000000 0,.fn 75 [.ptr 1000001 0,.ptr 1000002 0,.ptr 1000003 0,.ptr 1000004 0]] [(1000000,.cells [.data (.i 0)]),(1000001,.cells [.data (.ptr (fC p F))]),(1000002,.cells [.data (.i x.kind),.data (.str x.name),.data (.i x.index),.data (.i x.n),.data (.sl 5 (Ex.css x.l))]),(1000003,.cells [.data (.i 0)]),(1000004,.cells [.data (.i 0)])] (.ret (.data (.tuple []))) [(1000000,.cells [.data (.i 0)]),(1000001,.cells [.data (.ptr (fC p F))]),(1000002,.cells [.data (.i x.kind),.data (.str x.name),.data (.i x.index),.data (.i x.n),.data (.sl 5 (Ex.css x.l))]),(1000003,.cells [.data (.i s.1)]),(1000004,.cells [.data (.i s.2)])]:=by
 refine ax tok hmix ⟨[],[]⟩ Tryz.func74 rfl (by kernel_rfl) (by kernel_rfl) (by kernel_rfl) λhf=>?_
 clear hf
 repeat' ((try(conv=>whnf))<;>first
  |exact trivial
  |((refine⟨_,_,_,[(1000000,2),(1000001,1000000)],ML (.i 0),rfl,⟨rfl,rfl,trivial⟩,?_,?_⟩);kernel_rfl)
  |(refine⟨([(1000000,1000000),(1000001,1000001),(1000002,1000002),(1000003,1000003),(1000004,1000004)]:List (Nat×Nat)),rfl,?_,?_⟩)
  |((refine lent_step' [(1000000,1000001),(1000001,1000002),(1000002,1000003),(1000003,1000004)] (z1c p F x s 0 0 hc) ?_ ?_ ?_ ?_);rotate_left 0;exact rfl;(exact⟨rfl,rfl,rfl,rfl,trivial⟩);exact rfl)
  |(refine And.intro ?_ ?_)
  |fail)
 all_goals first
  |skip
theorem Um(p:Pr)(F:List Sp)(x:Ex)(e:Int)(hc:PCall Tryz.prog 76 [.ptr (fC p F),x.d] (.pan (.iface 30 (.i e)))):LCall Tryz.prog 74 [.ptr 1000000 0,.fn 75 [.ptr 1000001 0,.ptr 1000002 0,.ptr 1000003 0,.ptr 1000004 0]] [(1000000,.cells [.data (.i 0)]),(1000001,.cells [.data (.ptr (fC p F))]),(1000002,.cells [.data (.i x.kind),.data (.str x.name),.data (.i x.index),.data (.i x.n),.data (.sl 5 (Ex.css x.l))]),(1000003,.cells [.data (.i 0)]),(1000004,.cells [.data (.i 0)])] (.ret (.data (.tuple []))) [(1000000,.cells [.data (.i e)]),(1000001,.cells [.data (.ptr (fC p F))]),(1000002,.cells [.data (.i x.kind),.data (.str x.name),.data (.i x.index),.data (.i x.n),.data (.sl 5 (Ex.css x.l))]),(1000003,.cells [.data (.i 0)]),(1000004,.cells [.data (.i 0)])]:=by
 refine ax tok hmix ⟨[],[]⟩ Tryz.func74 rfl (by kernel_rfl) (by kernel_rfl) (by kernel_rfl) λhf=>?_
 clear hf
 repeat' ((try(conv=>whnf))<;>first
  |exact trivial
  |((refine⟨_,_,_,[(1000000,2),(1000001,1000000)],G6 (.data (.i 0)) e,rfl,⟨rfl,rfl,trivial⟩,?_,?_⟩);kernel_rfl)
  |(refine⟨([(1000000,1000000),(1000001,1000001),(1000002,1000002),(1000003,1000003),(1000004,1000004)]:List (Nat×Nat)),rfl,?_,?_⟩)
  |((refine lent_step' [(1000000,1000001),(1000001,1000002),(1000002,1000003),(1000003,1000004)] (Xm p F x e 0 0 hc) ?_ ?_ ?_ ?_);rotate_left 0;exact rfl;(exact⟨rfl,rfl,rfl,rfl,trivial⟩);exact rfl)
  |(refine And.intro ?_ ?_)
  |fail)
 all_goals first
  |skip
theorem z1d(p:Pr)(x:Ex)(e:Int)(hw:PCall Tryz.prog 72 [p.d] (.ret (.tuple [.val (.pointer none),.i e])))(he:(e != 0)=true):PCall Tryz.prog 55 [p.d,x.d] (.ret (.tuple [.i 0,.i 0,.i e])):=by
 refine ae tok hmix ⟨[],[]⟩ Tryz.func55 rfl (by kernel_rfl) (by kernel_rfl) (by kernel_rfl) λhf=>?_
 clear hf
 repeat' ((try(conv=>whnf))<;>first
  |(exact Bool.noConfusion (show true=false from he.symm.trans h))
  |refine BrI.intro (λh=>?_) (λh=>?_)
  |((refine ak ?_ ?_ ?_);rotate_left;(exact hw))
  |((refine ay ?_ ?_);kernel_rfl)
  |((refine ag ?_);refine⟨[],rfl,?_,trivial⟩;conv=>whnf)
  |fail)
 all_goals first
  |skip
theorem z1e(p:Pr)(x:Ex)(F:List Sp)(e:Int)(hw:PCall Tryz.prog 72 [p.d] (.ret (.tuple [.ptr (fC p F),.i e])))(he:(e != 0)=true):PCall Tryz.prog 55 [p.d,x.d] (.ret (.tuple [.i 0,.i 0,.i e])):=by
 refine ae tok hmix ⟨[],[]⟩ Tryz.func55 rfl (by kernel_rfl) (by kernel_rfl) (by kernel_rfl) λhf=>?_
 clear hf
 repeat' ((try(conv=>whnf))<;>first
  |(exact Bool.noConfusion (show true=false from he.symm.trans h))
  |refine BrI.intro (λh=>?_) (λh=>?_)
  |((refine ak ?_ ?_ ?_);rotate_left;(exact hw))
  |((refine ay ?_ ?_);kernel_rfl)
  |((refine ag ?_);refine⟨[],rfl,?_,trivial⟩;conv=>whnf)
  |fail)
 all_goals first
  |skip
theorem Xo(p:Pr)(x:Ex)(F:List Sp)(hw:PCall Tryz.prog 72 [p.d] (.ret (.tuple [.ptr (fC p F),.i 0])))(hx:(dR p x 512).2=false):PCall Tryz.prog 55 [p.d,x.d] (.ret (.tuple [.i 0,.i 0,.i 150])):=by
 refine ae tok hmix ⟨[],[]⟩ Tryz.func55 rfl (by kernel_rfl) (by kernel_rfl) (by kernel_rfl) λhf=>?_
 clear hf
 repeat' ((try(conv=>whnf))<;>first
  |(exact Bool.noConfusion (show false=true from h))
  |(exact Bool.noConfusion (show true=false from(congrArg (!·) hx).symm.trans h))
  |refine BrI.intro (λh=>?_) (λh=>?_)
  |((refine ak ?_ ?_ ?_);rotate_left;(first |exact hw |exact zI p x 512 (by decide) (by decide)))
  |((refine ag ?_);refine⟨[],rfl,?_,trivial⟩;conv=>whnf)
  |fail)
 all_goals first
  |skip
theorem z6a(p:Pr)(x:Ex)(F:List Sp)(s:Sp)(hw:PCall Tryz.prog 72 [p.d] (.ret (.tuple [.ptr (fC p F),.i 0])))(hx:(dR p x 512).2=true)(hc:PCall Tryz.prog 76 [.ptr (fC p F),x.d] (.ret s.d)):PCall Tryz.prog 55 [p.d,x.d] (.ret (.tuple [.i s.1,.i s.2,.i 0])):=by
 refine ae tok hmix ⟨[],[]⟩ Tryz.func55 rfl (by kernel_rfl) (by kernel_rfl) (by kernel_rfl) λhf=>?_
 clear hf
 repeat' ((try(conv=>whnf))<;>first
  |(exact Bool.noConfusion (show false=true from h))
  |(exact Bool.noConfusion (show false=true from(congrArg (!·) hx).symm.trans h))
  |refine BrI.intro (λh=>?_) (λh=>?_)
  |((refine ak ?_ ?_ ?_);rotate_left;(first |exact hw |exact zI p x 512 (by decide) (by decide)))
  |((refine lent_step' [(1000000,6),(1000001,7),(1000002,3),(1000003,4),(1000004,5)] (Xn p F x s hc) ?_ ?_ ?_ ?_);rotate_left 0;exact rfl;(exact⟨rfl,rfl,rfl,rfl,rfl,trivial⟩);exact rfl)
  |((refine ay ?_ ?_);kernel_rfl)
  |((refine ag ?_);refine⟨[],rfl,?_,trivial⟩;conv=>whnf)
  |fail)
 all_goals first
  |skip
theorem z1f(p:Pr)(x:Ex)(F:List Sp)(e:Int)(hw:PCall Tryz.prog 72 [p.d] (.ret (.tuple [.ptr (fC p F),.i 0])))(hx:(dR p x 512).2=true)(hc:PCall Tryz.prog 76 [.ptr (fC p F),x.d] (.pan (.iface 30 (.i e)))):PCall Tryz.prog 55 [p.d,x.d] (.ret (.tuple [.i 0,.i 0,.i e])):=by
 refine ae tok hmix ⟨[],[]⟩ Tryz.func55 rfl (by kernel_rfl) (by kernel_rfl) (by kernel_rfl) λhf=>?_
 clear hf
 repeat' ((try(conv=>whnf))<;>first
  |(exact Bool.noConfusion (show false=true from h))
  |(exact Bool.noConfusion (show false=true from(congrArg (!·) hx).symm.trans h))
  |refine BrI.intro (λh=>?_) (λh=>?_)
  |((refine ak ?_ ?_ ?_);rotate_left;(first |exact hw |exact zI p x 512 (by decide) (by decide)))
  |((refine lent_step' [(1000000,6),(1000001,7),(1000002,3),(1000003,4),(1000004,5)] (Um p F x e hc) ?_ ?_ ?_ ?_);rotate_left 0;exact rfl;(exact⟨rfl,rfl,rfl,rfl,rfl,trivial⟩);exact rfl)
  |((refine ay ?_ ?_);kernel_rfl)
  |((refine ag ?_);refine⟨[],rfl,?_,trivial⟩;conv=>whnf)
  |fail)
 all_goals first
  |skip
end Go.Proofs.YthpbakljheeabaaGreatDoor
