/- Contracts: package ranges: numbers. -/
import Derived.Test.YthpbakljheeabaaGreatDoorZSA
import Derived.Test.YthpbakljheeabaaGreatDoorZRB
set_option linter.unusedSectionVars false
set_option linter.unusedSimpArgs false
set_option linter.unusedVariables false
set_option maxHeartbeats 4000000
namespace Go.Proofs.YthpbakljheeabaaGreatDoor
open Go.Fw Go.Fw.Rg
set_option maxRecDepth 10000
variable [af]
theorem Uf(x:Int)  : PCall Tryz.prog 114 [.i x] (.ret (.i (pU x))):=by
 refine ae tok hmix ⟨[],[]⟩ Tryz.func114 rfl (by kernel_rfl) (by kernel_rfl) (by kernel_rfl) λhf=>?_
 clear hf
 repeat' ((try(conv=>whnf))<;>first
  |refine BrI.intro (λh=>?_) (λh=>?_)
  |((refine ai ?_);refine⟨[],rfl,?_,trivial⟩;conv=>whnf)
  |fail)
 all_goals first
  |((refine congrArg D.i ?_;unfold pU;simp only[decide_eq_true_eq,decide_eq_false_iff_not]at *;(repeat' split)<;>omega))
  |skip
theorem G8(a n:Int)(ha:inW a=true)(hn:1<=n)(hn2:n<=2147483648):PCall Tryz.prog 125 [.i a,.i n] (.ret (.i (oJ a n))):=by
 refine ae tok hmix ⟨[],[]⟩ Tryz.func125 rfl (by kernel_rfl) (by kernel_rfl) (by kernel_rfl) λhf=>?_
 clear hf
 repeat' ((try(conv=>whnf))<;>first
  |refine BrI.intro (λh=>?_) (λh=>?_)
  |((refine ai ?_);refine⟨[],rfl,?_,trivial⟩;conv=>whnf)
  |(refine And.intro ?_ ?_)
  |fail)
 all_goals first
  |(omega)
  |((exact congrArg D.i (VA hn hn2 ha (of_decide_eq_true h))))
  |((exact congrArg D.i (VB hn ha (of_decide_eq_false h))))
  |skip
theorem MB(a b:Int)(hc:z7t a b=false)(hw:IntKind.i64.wrap (a+b)=a+b):PCall Tryz.prog 120 [.i a,.i b] (.ret (.i (a+b))):=by
 refine ae tok hmix ⟨[],[]⟩ Tryz.func120 rfl (by kernel_rfl) (by kernel_rfl) (by kernel_rfl) λhf=>?_
 clear hf
 repeat' ((try(conv=>whnf))<;>first
  |refine BrI.intro (λh=>?_) (λh=>?_)
  |(exact Bool.noConfusion (hc.symm.trans h))
  |((refine ai ?_);refine⟨[],rfl,?_,trivial⟩;conv=>whnf)
  |fail)
 all_goals first
  |((exact congrArg D.i hw))
  |skip
theorem add_bad(a b:Int)(hc:z7t a b=true):PCall Tryz.prog 120 [.i a,.i b] (.pan (.iface 30 (.i 160))):=by
 refine ae tok hmix ⟨[],[]⟩ Tryz.func120 rfl (by kernel_rfl) (by kernel_rfl) (by kernel_rfl) λhf=>?_
 clear hf
 repeat' ((try(conv=>whnf))<;>first
  |refine BrI.intro (λh=>?_) (λh=>?_)
  |(exact Bool.noConfusion (hc.symm.trans h))
  |((refine xk ?_);refine⟨[],rfl,?_,trivial⟩;conv=>whnf)
  |fail)
 all_goals first
  |skip
theorem z04(n:Int)(f:Bool)(hc:Oc n f=false):PCall Tryz.prog 129 [.i n,.b f] (.ret (.i n)):=by
 refine ae tok hmix ⟨[],[]⟩ Tryz.func129 rfl (by kernel_rfl) (by kernel_rfl) (by kernel_rfl) λhf=>?_
 clear hf
 repeat' ((try(conv=>whnf))<;>first
  |refine BrI.intro (λh=>?_) (λh=>?_)
  |(exact Bool.noConfusion (hc.symm.trans h))
  |((refine ai ?_);refine⟨[],rfl,?_,trivial⟩;conv=>whnf)
  |fail)
 all_goals first
  |skip
theorem WY(n:Int)(f:Bool)(hc:Oc n f=true):PCall Tryz.prog 129 [.i n,.b f] (.pan (.iface 30 (.i 160))):=by
 refine ae tok hmix ⟨[],[]⟩ Tryz.func129 rfl (by kernel_rfl) (by kernel_rfl) (by kernel_rfl) λhf=>?_
 clear hf
 repeat' ((try(conv=>whnf))<;>first
  |refine BrI.intro (λh=>?_) (λh=>?_)
  |(exact Bool.noConfusion (hc.symm.trans h))
  |((refine xk ?_);refine⟨[],rfl,?_,trivial⟩;conv=>whnf)
  |fail)
 all_goals first
  |skip
theorem mul_zero(a b:Int)(hz:XJ a b=true):PCall Tryz.prog 123 [.i a,.i b] (.ret (.i 0)):=by
 refine ae tok hmix ⟨[],[]⟩ Tryz.func123 rfl (by kernel_rfl) (by kernel_rfl) (by kernel_rfl) λhf=>?_
 clear hf
 repeat' ((try(conv=>whnf))<;>first
  |refine BrI.intro (λh=>?_) (λh=>?_)
  |(exact Bool.noConfusion (hz.symm.trans h))
  |((refine ai ?_);refine⟨[],rfl,?_,trivial⟩;conv=>whnf)
  |fail)
 all_goals first
  |skip
theorem z6b(a b:Int)(hz:XJ a b=false)(hb:b≠0)(hq:mm2 true b (IntKind.i64.wrap (0-b))≠0)(hw:Oc (IntKind.i64.wrap (a * b)) (z3j a b)=false):PCall Tryz.prog 123 [.i a,.i b] (.ret (.i (IntKind.i64.wrap (a * b)))):=by
 refine ae tok hmix ⟨[],[]⟩ Tryz.func123 rfl (by kernel_rfl) (by kernel_rfl) (by kernel_rfl) λhf=>?_
 clear hf
 repeat' ((try(conv=>whnf))<;>first
  |refine BrI.intro (λh=>?_) (λh=>?_)
  |(exact Bool.noConfusion (hz.symm.trans h))
  |((refine ak ?_ ?_ ?_);rotate_left;(exact z04 _ _ hw))
  |((refine bu ?_ ?_ (λhg=>?_) ?_);exact rfl)
  |((refine dB ?_ ?_);exact rfl;exact rfl)
  |((refine fK ?_ ?_);exact rfl)
  |((refine ai ?_);refine⟨[],rfl,?_,trivial⟩;conv=>whnf)
  |(refine And.intro ?_ ?_)
  |fail)
 all_goals first
  |((exact hb))
  |((exact hq))
  |skip
theorem z05(a b:Int)(hz:XJ a b=false)(hb:b≠0)(hq:mm2 true b (IntKind.i64.wrap (0-b))≠0)(hw:Oc (IntKind.i64.wrap (a * b)) (z3j a b)=true):PCall Tryz.prog 123 [.i a,.i b] (.pan (.iface 30 (.i 160))):=by
 refine ae tok hmix ⟨[],[]⟩ Tryz.func123 rfl (by kernel_rfl) (by kernel_rfl) (by kernel_rfl) λhf=>?_
 clear hf
 repeat' ((try(conv=>whnf))<;>first
  |refine BrI.intro (λh=>?_) (λh=>?_)
  |(exact Bool.noConfusion (hz.symm.trans h))
  |((refine ak ?_ ?_ ?_);rotate_left;(exact WY _ _ hw))
  |((refine bu ?_ ?_ (λhg=>?_) ?_);exact rfl)
  |((refine dB ?_ ?_);exact rfl;exact rfl)
  |((refine xk ?_);refine⟨[],rfl,?_,trivial⟩;conv=>whnf)
  |(refine And.intro ?_ ?_)
  |fail)
 all_goals first
  |((exact hb))
  |((exact hq))
  |skip
abbrev fC(p:Pr)(found:List Sp):List D:=[.str p.name,.i p.latency,.i p.tail,.sl 3 (p.params.map Bd.cs),.sl 3 (p.states.map Bd.cs),.sl 4 (p.lines.map Ln.cs),.sl 2 (p.tables.map Tb.cs),.sl 8 (p.stmts.map Sm.cs),.sl 2 (found.map Sp.cs)]
theorem uq(a b c:Int)(hc:c=b)(ha:inW a=true)(hb:inW b=true):PCall Tryz.prog 120 [.i a,.i c] (z7u 30 (okW (a+b))):=by
 subst hc
 unfold okW
 cases hw:inW (a+c)with
 |true=>exact MB a c (by rw[Q3 ha hb,hw];rfl) (mY hw)
 |false=>exact add_bad a c (by rw[Q3 ha hb,hw];rfl)
theorem ut(a b:Int)(ha:inW a=true)(hb:inW b=true):PCall Tryz.prog 123 [.i a,.i b] (z7u 30 (okW (a * b))):=by
 cases hz:XJ a b with
 |true=>rw[Zn hz];exact mul_zero a b hz
 |false=>
  have hb0:=Zo hz
  have hq:mm2 true b (IntKind.i64.wrap (0-b))≠0:=by rw[gU hb,IY];omega
  unfold okW
  cases hw:inW (a * b)with
  |true=>
   have:=z6b a b hz hb0 hq (by rw[Ll ha hb hb0,hw];rfl)
   rw[mY hw]at this;exact this
  |false=>exact z05 a b hz hb0 hq (by rw[Ll ha hb hb0,hw];rfl)
theorem op1(p:Pr)(found:List Sp)(x:Ex)  : PCall Tryz.prog 106 [.ptr (fC p found),x.d,.sl 2 []] (.ret (Sp.d (x.n,x.n))):=by
 refine ae tok hmix ⟨[],[]⟩ Tryz.func106 rfl (by kernel_rfl) (by kernel_rfl) (by kernel_rfl) λhf=>?_
 clear hf
 repeat' ((try(conv=>whnf))<;>first
  |((refine ai ?_);refine⟨[],rfl,?_,trivial⟩;conv=>whnf)
  |fail)
 all_goals first
  |skip
theorem op3(p:Pr)(found:List Sp)(x:Ex)(h0:0<=x.index)(h1:x.index<p.params.length):PCall Tryz.prog 107 [.ptr (fC p found),x.d,.sl 2 []] (.ret (Sp.d ((jD p x.index).lo,(jD p x.index).hi))):=by
 refine ae tok hmix ⟨[],[]⟩ Tryz.func107 rfl (by kernel_rfl) (by kernel_rfl) (by kernel_rfl) λhf=>?_
 clear hf
 repeat' ((try(conv=>whnf))<;>first
  |((refine kH Rg.Bd.none ?_ ?_ h0 h1 ?_);exact rfl;exact rfl)
  |((refine ay ?_ ?_);kernel_rfl)
  |((refine ai ?_);refine⟨[],rfl,?_,trivial⟩;conv=>whnf)
  |fail)
 all_goals first
  |skip
theorem op4(p:Pr)(found:List Sp)(x:Ex)(h0:0<=x.index)(h1:x.index<p.states.length):PCall Tryz.prog 108 [.ptr (fC p found),x.d,.sl 2 []] (.ret (Sp.d ((bT p x.index).lo,(bT p x.index).hi))):=by
 refine ae tok hmix ⟨[],[]⟩ Tryz.func108 rfl (by kernel_rfl) (by kernel_rfl) (by kernel_rfl) λhf=>?_
 clear hf
 repeat' ((try(conv=>whnf))<;>first
  |((refine kH Rg.Bd.none ?_ ?_ h0 h1 ?_);exact rfl;exact rfl)
  |((refine ay ?_ ?_);kernel_rfl)
  |((refine ai ?_);refine⟨[],rfl,?_,trivial⟩;conv=>whnf)
  |fail)
 all_goals first
  |skip
theorem op5(p:Pr)(found:List Sp)(x:Ex)(h0:0<=x.index)(h1:x.index<found.length):PCall Tryz.prog 109 [.ptr (fC p found),x.d,.sl 2 []] (.ret (Sp.d (found.getD x.index.toNat (0,0)))):=by
 refine ae tok hmix ⟨[],[]⟩ Tryz.func109 rfl (by kernel_rfl) (by kernel_rfl) (by kernel_rfl) λhf=>?_
 clear hf
 repeat' ((try(conv=>whnf))<;>first
  |((refine kH ((0,0):Sp) ?_ ?_ h0 h1 ?_);exact rfl;exact rfl)
  |((refine aN ?_ ?_);exact rfl)
  |((refine ay ?_ ?_);kernel_rfl)
  |((refine ai ?_);refine⟨[],rfl,?_,trivial⟩;conv=>whnf)
  |fail)
 all_goals first
  |skip
theorem Yn(p:Pr)(found:List Sp)(x:Ex)(a:Sp)(hc:(decide (a.1<0) || decide (a.2>4096))=false):PCall Tryz.prog 110 [.ptr (fC p found),x.d,.sl 2 [[.i a.1,.i a.2]]] (.ret (Sp.d (-2147483648,2147483647))):=by
 refine ae tok hmix ⟨[],[]⟩ Tryz.func110 rfl (by kernel_rfl) (by kernel_rfl) (by kernel_rfl) λhf=>?_
 clear hf
 repeat' ((try(conv=>whnf))<;>first
  |refine BrI.intro (λh=>?_) (λh=>?_)
  |(exact Bool.noConfusion (hc.symm.trans ((FO _ _).symm.trans h)))
  |((refine jE ?_ ?_ ?_ ?_);exact rfl;exact rfl;exact rfl)
  |((refine aN ?_ ?_);exact rfl)
  |((refine bu ?_ ?_ (λhg=>?_) ?_);exact rfl)
  |((refine dB ?_ ?_);exact rfl;exact rfl)
  |((refine ai ?_);refine⟨[],rfl,?_,trivial⟩;conv=>whnf)
  |(refine And.intro ?_ ?_)
  |fail)
 all_goals first
  |(decide)
  |skip
theorem Ug(p:Pr)(found:List Sp)(x:Ex)(a:Sp)(hc:(decide (a.1<0) || decide (a.2>4096))=true):PCall Tryz.prog 110 [.ptr (fC p found),x.d,.sl 2 [[.i a.1,.i a.2]]] (.pan (.iface 30 (.i 161))):=by
 refine ae tok hmix ⟨[],[]⟩ Tryz.func110 rfl (by kernel_rfl) (by kernel_rfl) (by kernel_rfl) λhf=>?_
 clear hf
 repeat' ((try(conv=>whnf))<;>first
  |refine BrI.intro (λh=>?_) (λh=>?_)
  |(exact Bool.noConfusion (hc.symm.trans ((FO _ _).symm.trans h)))
  |((refine jE ?_ ?_ ?_ ?_);exact rfl;exact rfl;exact rfl)
  |((refine bu ?_ ?_ (λhg=>?_) ?_);exact rfl)
  |((refine dB ?_ ?_);exact rfl;exact rfl)
  |((refine xk ?_);refine⟨[],rfl,?_,trivial⟩;conv=>whnf)
  |(refine And.intro ?_ ?_)
  |fail)
 all_goals first
  |(decide)
  |skip
theorem op8(p:Pr)(found:List Sp)(x:Ex)(a:Sp)(h0:0<=x.index)(h1:x.index<p.lines.length):PCall Tryz.prog 111 [.ptr (fC p found),x.d,.sl 2 [[.i a.1,.i a.2]]] (.ret (Sp.d (mm2 false (bW p x.index).lo 0,mm2 true (bW p x.index).hi 0))):=by
 refine ae tok hmix ⟨[],[]⟩ Tryz.func111 rfl (by kernel_rfl) (by kernel_rfl) (by kernel_rfl) λhf=>?_
 clear hf
 repeat' ((try(conv=>whnf))<;>first
  |((refine kH Rg.Ln.none ?_ ?_ h0 h1 ?_);exact rfl;exact rfl)
  |((refine ay ?_ ?_);kernel_rfl)
  |((refine ai ?_);refine⟨[],rfl,?_,trivial⟩;conv=>whnf)
  |fail)
 all_goals first
  |skip
theorem op9(p:Pr)(found:List Sp)(x:Ex)(a:Sp)(h0:0<=x.index)(h1:x.index<p.tables.length)(hv:0<(aO p x.index).length)(hvl:(aO p x.index).length<=1073741824):PCall Tryz.prog 112 [.ptr (fC p found),x.d,.sl 2 [[.i a.1,.i a.2]]] (.ret (Sp.d (minL ((aO p x.index).getD 0 0) (aO p x.index),maxL ((aO p x.index).getD 0 0) (aO p x.index)))):=by
 refine ae tok hmix ⟨[],[]⟩ Tryz.func112 rfl (by kernel_rfl) (by kernel_rfl) (by kernel_rfl) λhf=>?_
 have hlen:(aO p x.index).length<=9223372036854775807:=by omega
 clear hf
 repeat' ((try(conv=>whnf))<;>first
  |exact trivial
  |exact au hd0 ‹_›
  |refine bi hd0 ?_
  |refine aK hd0 ?_
  |((refine kH Rg.Tb.none ?_ ?_ h0 h1 ?_);exact rfl;exact rfl)
  |((refine kH (f:=dZ) (n:=0) (0:Int) ?_ ?_ ?_ ?_ ?_);exact rfl;exact rfl;exact Int.le_refl _;exact Int.ofNat_lt.2 hv)
  |((refine aA.mk 0 ?_);refine⟨aI ((aO p x.index)) 30 (λ(q:(Int)×(Int))=>match q with |(lo,hi)=>[]) (λ(q:(Int)×(Int))=>match q with |(lo,hi)=>[(8,.cells [.data (.i lo),.data (.i hi)])]) [6,8,28,29] (λi0 r0 q=>match q with |(lo,hi)=>minL ((aO p x.index).getD 0 0) (aO p x.index)=minL lo r0/\maxL ((aO p x.index).getD 0 0) (aO p x.index)=maxL hi r0),?_⟩;refine ag (((aO p x.index).getD 0 0),((aO p x.index).getD 0 0)) ?_ ?_ (λi0 ⟨lo,hi⟩ hd0 hI0=>?_) (λi0 x0 r0 ⟨lo,hi⟩ hd0 hl0 hI0=>?_))
  |(refine ah hd0 ((mm2 false lo x0),(mm2 true hi x0)) ?_ ?_)
  |((refine aG ?_ ?_ ?_ ?_ ?_);exact rfl;exact rfl;rotate_left;(exact aC hd0))
  |((refine ay ?_ ?_);kernel_rfl)
  |((refine ai ?_);refine⟨[],rfl,?_,trivial⟩;conv=>whnf)
  |(refine And.intro ?_ ?_)
  |exact @rfl AV _
  |fail)
 all_goals first
  |(rfl)
  |(decide)
  |((exact hI0.1))
  |((exact hI0.2))
  |((rw[hI0.1,hI0.2];rfl))
  |skip
theorem z95(p:Pr)(found:List Sp)(x:Ex)(a:Sp)  : PCall Tryz.prog 113 [.ptr (fC p found),x.d,.sl 2 [[.i a.1,.i a.2]]] (.ret (Sp.d (pU a.1,pU a.2))):=by
 refine ae tok hmix ⟨[],[]⟩ Tryz.func113 rfl (by kernel_rfl) (by kernel_rfl) (by kernel_rfl) λhf=>?_
 clear hf
 repeat' ((try(conv=>whnf))<;>first
  |((refine jE ?_ ?_ ?_ ?_);exact rfl;exact rfl;exact rfl)
  |((refine ak ?_ ?_ ?_);rotate_left;(exact Uf _))
  |((refine ay ?_ ?_);kernel_rfl)
  |((refine ai ?_);refine⟨[],rfl,?_,trivial⟩;conv=>whnf)
  |(refine And.intro ?_ ?_)
  |fail)
 all_goals first
  |(decide)
  |skip
theorem z96(p:Pr)(found:List Sp)(x:Ex)(a b:Sp)  : PCall Tryz.prog 115 [.ptr (fC p found),x.d,.sl 2 [[.i a.1,.i a.2],[.i b.1,.i b.2]]] (.ret (Sp.d (mm2 false a.1 b.1,mm2 false a.2 b.2))):=by
 refine ae tok hmix ⟨[],[]⟩ Tryz.func115 rfl (by kernel_rfl) (by kernel_rfl) (by kernel_rfl) λhf=>?_
 clear hf
 repeat' ((try(conv=>whnf))<;>first
  |((refine jE ?_ ?_ ?_ ?_);exact rfl;exact rfl;exact rfl)
  |((refine ay ?_ ?_);kernel_rfl)
  |((refine ai ?_);refine⟨[],rfl,?_,trivial⟩;conv=>whnf)
  |(refine And.intro ?_ ?_)
  |fail)
 all_goals first
  |(decide)
  |skip
theorem z97(p:Pr)(found:List Sp)(x:Ex)(a b:Sp)  : PCall Tryz.prog 116 [.ptr (fC p found),x.d,.sl 2 [[.i a.1,.i a.2],[.i b.1,.i b.2]]] (.ret (Sp.d (mm2 true a.1 b.1,mm2 true a.2 b.2))):=by
 refine ae tok hmix ⟨[],[]⟩ Tryz.func116 rfl (by kernel_rfl) (by kernel_rfl) (by kernel_rfl) λhf=>?_
 clear hf
 repeat' ((try(conv=>whnf))<;>first
  |((refine jE ?_ ?_ ?_ ?_);exact rfl;exact rfl;exact rfl)
  |((refine ay ?_ ?_);kernel_rfl)
  |((refine ai ?_);refine⟨[],rfl,?_,trivial⟩;conv=>whnf)
  |(refine And.intro ?_ ?_)
  |fail)
 all_goals first
  |(decide)
  |skip
theorem z98(p:Pr)(found:List Sp)(x:Ex)(a:Sp)(ha:inW a.1=true)(hb:inW a.2=true):PCall Tryz.prog 117 [.ptr (fC p found),x.d,.sl 2 [[.i a.1,.i a.2]]] (.ret (Sp.d (QZ a))):=by
 refine ae tok hmix ⟨[],[]⟩ Tryz.func117 rfl (by kernel_rfl) (by kernel_rfl) (by kernel_rfl) λhf=>?_
 clear hf
 repeat' ((try(conv=>whnf))<;>first
  |refine BrI.intro (λh=>?_) (λh=>?_)
  |((refine jE ?_ ?_ ?_ ?_);exact rfl;exact rfl;exact rfl)
  |((refine aN ?_ ?_);exact rfl)
  |((refine ay ?_ ?_);kernel_rfl)
  |((refine ai ?_);refine⟨[],rfl,?_,trivial⟩;conv=>whnf)
  |(refine And.intro ?_ ?_)
  |fail)
 all_goals first
  |(decide)
  |((refine congrArg Sp.d ?_;unfold QZ;rw[if_pos (of_decide_eq_true h)];done))
  |((unfold QZ;rw[if_neg (of_decide_eq_false ‹decide (a.1>=0)=false›),if_pos (of_decide_eq_true h),gU ha,gU hb];done))
  |((unfold QZ;rw[if_neg (of_decide_eq_false ‹decide (a.1>=0)=false›),if_neg (of_decide_eq_false h),gU ha];done))
  |skip
theorem z99(p:Pr)(found:List Sp)(x:Ex)(a:Sp)(ha:inW a.1=true)(hb:inW a.2=true):PCall Tryz.prog 118 [.ptr (fC p found),x.d,.sl 2 [[.i a.1,.i a.2]]] (.ret (Sp.d (-a.2,-a.1))):=by
 refine ae tok hmix ⟨[],[]⟩ Tryz.func118 rfl (by kernel_rfl) (by kernel_rfl) (by kernel_rfl) λhf=>?_
 clear hf
 repeat' ((try(conv=>whnf))<;>first
  |((refine jE ?_ ?_ ?_ ?_);exact rfl;exact rfl;exact rfl)
  |((refine ay ?_ ?_);kernel_rfl)
  |((refine ai ?_);refine⟨[],rfl,?_,trivial⟩;conv=>whnf)
  |(refine And.intro ?_ ?_)
  |fail)
 all_goals first
  |(decide)
  |((rw[gU ha,gU hb];done))
  |skip
theorem zaa(p:Pr)(found:List Sp)(x:Ex)(a b:Sp)(ha:inW a.1=true/\inW a.2=true)(hb:inW b.1=true/\inW b.2=true):PCall Tryz.prog 119 [.ptr (fC p found),x.d,.sl 2 [[.i a.1,.i a.2],[.i b.1,.i b.2]]] (Q7 30 (two (a.1+b.1) (a.2+b.2))):=by
 refine ae tok hmix ⟨[],[]⟩ Tryz.func119 rfl (by kernel_rfl) (by kernel_rfl) (by kernel_rfl) λhf=>?_
 clear hf
 repeat' ((try(conv=>whnf))<;>first
  |((refine gG _ _ _ [false,false,false,false,false,false,false,false,true,true,true] ?_ ?_ ?_);exact rfl;kernel_rfl)
  |((refine gG _ _ _ [true,true] ?_ ?_ ?_);exact rfl;kernel_rfl)
  |((refine quiet_step ?_ ?_);kernel_rfl)
  |(refine jv (uq a.1 b.1 _ rfl ha.1 hb.1) (λn1 q1=>?_) (λe1 q1=>?_))
  |(refine jv (uq a.2 b.2 _ rfl ha.2 hb.2) (λn2 q2=>?_) (λe2 q2=>?_))
  |((refine Du (n1,n2) (XK q1 q2) ?_);refine⟨[],rfl,?_,trivial⟩;conv=>whnf)
  |((refine lM e1 (XL q1) ?_);refine⟨[],rfl,?_,trivial⟩;conv=>whnf)
  |((refine lM e2 (XM q2) ?_);refine⟨[],rfl,?_,trivial⟩;conv=>whnf)
  |((refine jE ?_ ?_ ?_ ?_);exact rfl;exact rfl;exact rfl)
  |((refine ay ?_ ?_);kernel_rfl)
  |((refine kF ?_ ?_);kernel_rfl)
  |(refine And.intro ?_ ?_)
  |fail)
 all_goals first
  |(decide)
  |skip
theorem zab(p:Pr)(found:List Sp)(x:Ex)(a b:Sp)(ha:inW a.1=true/\inW a.2=true)(hb:inW b.1=true/\inW b.2=true):PCall Tryz.prog 121 [.ptr (fC p found),x.d,.sl 2 [[.i a.1,.i a.2],[.i b.1,.i b.2]]] (Q7 30 (two (a.1 + -b.2) (a.2 + -b.1))):=by
 refine ae tok hmix ⟨[],[]⟩ Tryz.func121 rfl (by kernel_rfl) (by kernel_rfl) (by kernel_rfl) λhf=>?_
 clear hf
 repeat' ((try(conv=>whnf))<;>first
  |((refine gG _ _ _ [false,false,false,false,false,false,false,false,false,true,true,true] ?_ ?_ ?_);exact rfl;kernel_rfl)
  |((refine gG _ _ _ [true,true] ?_ ?_ ?_);exact rfl;kernel_rfl)
  |((refine quiet_step ?_ ?_);kernel_rfl)
  |(refine jv (uq a.1 (-b.2) _ (gU hb.2) ha.1 (tH hb.2)) (λn1 q1=>?_) (λe1 q1=>?_))
  |(refine jv (uq a.2 (-b.1) _ (gU hb.1) ha.2 (tH hb.1)) (λn2 q2=>?_) (λe2 q2=>?_))
  |((refine Du (n1,n2) (XK q1 q2) ?_);refine⟨[],rfl,?_,trivial⟩;conv=>whnf)
  |((refine lM e1 (XL q1) ?_);refine⟨[],rfl,?_,trivial⟩;conv=>whnf)
  |((refine lM e2 (XM q2) ?_);refine⟨[],rfl,?_,trivial⟩;conv=>whnf)
  |((refine jE ?_ ?_ ?_ ?_);exact rfl;exact rfl;exact rfl)
  |((refine ay ?_ ?_);kernel_rfl)
  |((refine kF ?_ ?_);kernel_rfl)
  |(refine And.intro ?_ ?_)
  |fail)
 all_goals first
  |(decide)
  |skip
theorem zac(p:Pr)(found:List Sp)(x:Ex)(a b:Sp)(ha:inW a.1=true/\inW a.2=true)(hb:inW b.1=true/\inW b.2=true):PCall Tryz.prog 122 [.ptr (fC p found),x.d,.sl 2 [[.i a.1,.i a.2],[.i b.1,.i b.2]]] (Q7 30 (prodM a b)):=by
 refine ae tok hmix ⟨[],[]⟩ Tryz.func122 rfl (by kernel_rfl) (by kernel_rfl) (by kernel_rfl) λhf=>?_
 clear hf
 repeat' ((try(conv=>whnf))<;>first
  |((refine gG _ _ _ [false,false,false,false,false,false,false,false,true,false,false,false,false,false,false,false,false,true,false,false,false,false,false,false,false,false,true,true,true,true,true] ?_ ?_ ?_);exact rfl;kernel_rfl)
  |((refine gG _ _ _ [false,false,false,false,false,false,false,false,true,false,false,false,false,false,false,false,false,true,true,true,true,true] ?_ ?_ ?_);exact rfl;kernel_rfl)
  |((refine gG _ _ _ [false,false,false,false,false,false,false,false,true,true,true,true,true] ?_ ?_ ?_);exact rfl;kernel_rfl)
  |((refine gG _ _ _ [true,true,true,true] ?_ ?_ ?_);exact rfl;kernel_rfl)
  |((refine quiet_step ?_ ?_);kernel_rfl)
  |(refine jv (ut a.1 b.1 ha.1 hb.1) (λn1 q1=>?_) (λe1 q1=>?_))
  |(refine jv (ut a.1 b.2 ha.1 hb.2) (λn2 q2=>?_) (λe2 q2=>?_))
  |(refine jv (ut a.2 b.1 ha.2 hb.1) (λn3 q3=>?_) (λe3 q3=>?_))
  |(refine jv (ut a.2 b.2 ha.2 hb.2) (λn4 q4=>?_) (λe4 q4=>?_))
  |((refine Du (Le n1 n2 n3 n4,Lh n1 n2 n3 n4) (Zp q1 q2 q3 q4) ?_);refine⟨[],rfl,?_,trivial⟩;conv=>whnf)
  |((refine lM e1 (xn (.inl q1)) ?_);refine⟨[],rfl,?_,trivial⟩;conv=>whnf)
  |((refine lM e2 (xn (.inr (.inl q2))) ?_);refine⟨[],rfl,?_,trivial⟩;conv=>whnf)
  |((refine lM e3 (xn (.inr (.inr (.inl q3)))) ?_);refine⟨[],rfl,?_,trivial⟩;conv=>whnf)
  |((refine lM e4 (xn (.inr (.inr (.inr q4)))) ?_);refine⟨[],rfl,?_,trivial⟩;conv=>whnf)
  |((refine jE ?_ ?_ ?_ ?_);exact rfl;exact rfl;exact rfl)
  |((refine ay ?_ ?_);kernel_rfl)
  |((refine kF ?_ ?_);kernel_rfl)
  |(refine And.intro ?_ ?_)
  |fail)
 all_goals first
  |(rfl)
  |(decide)
  |skip
theorem zad(p:Pr)(found:List Sp)(x:Ex)(a:Sp)(ha:inW a.1=true)(hb:inW a.2=true)(hn:1<=x.n)(hn2:x.n<=2147483648):PCall Tryz.prog 124 [.ptr (fC p found),x.d,.sl 2 [[.i a.1,.i a.2]]] (.ret (Sp.d (oJ a.1 x.n,oJ a.2 x.n))):=by
 refine ae tok hmix ⟨[],[]⟩ Tryz.func124 rfl (by kernel_rfl) (by kernel_rfl) (by kernel_rfl) λhf=>?_
 clear hf
 repeat' ((try(conv=>whnf))<;>first
  |((refine jE ?_ ?_ ?_ ?_);exact rfl;exact rfl;exact rfl)
  |((refine ak ?_ ?_ ?_);rotate_left;(first |exact G8 _ _ (by assumption) (by assumption) (by assumption) |exact G8 a.1 x.n ha hn hn2))
  |((refine ay ?_ ?_);kernel_rfl)
  |((refine ai ?_);refine⟨[],rfl,?_,trivial⟩;conv=>whnf)
  |(refine And.intro ?_ ?_)
  |fail)
 all_goals first
  |(decide)
  |skip
theorem zae(p:Pr)(found:List Sp)(x:Ex)(a b c d:Sp)  : PCall Tryz.prog 126 [.ptr (fC p found),x.d,.sl 2 [[.i a.1,.i a.2],[.i b.1,.i b.2],[.i c.1,.i c.2],[.i d.1,.i d.2]]] (.ret (Sp.d (mm2 false c.1 d.1,mm2 true c.2 d.2))):=by
 refine ae tok hmix ⟨[],[]⟩ Tryz.func126 rfl (by kernel_rfl) (by kernel_rfl) (by kernel_rfl) λhf=>?_
 clear hf
 repeat' ((try(conv=>whnf))<;>first
  |((refine jE ?_ ?_ ?_ ?_);exact rfl;exact rfl;exact rfl)
  |((refine ay ?_ ?_);kernel_rfl)
  |((refine ai ?_);refine⟨[],rfl,?_,trivial⟩;conv=>whnf)
  |(refine And.intro ?_ ?_)
  |fail)
 all_goals first
  |(decide)
  |skip
abbrev z9a:List D:=[.val .nilFunc,.fn 106 [],.val .nilFunc,.fn 107 [],.fn 108 [],.fn 109 [],.fn 110 [],.fn 110 [],.fn 111 [],.fn 112 [],.fn 113 [],.fn 115 [],.fn 116 [],.fn 117 [],.fn 118 [],.fn 119 [],.fn 121 [],.fn 122 [],.fn 124 [],.fn 126 []]
def opF(k:Int):Nat:=match z9a.getD k.toNat (.val .nilFunc)with | .fn f _=>f |_=>0
theorem zH   : PCall Tryz.prog 95 [] (.ret (.agg z9a)):=by
 refine ae tok hmix ⟨[],[]⟩ Tryz.func95 rfl (by kernel_rfl) (by kernel_rfl) (by kernel_rfl) λhf=>?_
 clear hf
 repeat' ((try(conv=>whnf))<;>first
  |((refine ai ?_);refine⟨[],rfl,?_,trivial⟩;conv=>whnf)
  |fail)
 all_goals first
  |skip
theorem Uh{p:Pr}{n:Nat}{k i m:Int}(hw:uw p n k i m=true){q:D->Prop}(h:q (.fn (opF k) [])):∃c,(0<=k/\z9a[k.toNat]? = some c)/\q c:=by
 rcases kinds hw with rfl |rfl |rfl |rfl |rfl |rfl |rfl |rfl |rfl |rfl |rfl |rfl |rfl |rfl |rfl |rfl |rfl |rfl<;>exact⟨_,⟨by decide,rfl⟩,h⟩
theorem z9b{p:Pr}{n:Nat}{k i m:Int}(hw:uw p n k i m=true):Nat.beq (opF k) zM=false:=by
 rcases kinds hw with rfl |rfl |rfl |rfl |rfl |rfl |rfl |rfl |rfl |rfl |rfl |rfl |rfl |rfl |rfl |rfl |rfl |rfl<;>rfl
theorem WZ{b:Bool}{p q:Prop}:b=false->p->(match b with |true=>q |false=>p):=by intro h h2;subst h;exact h2
theorem z06(p:Pr)(found:List Sp)(x:Ex)(sl:List Sp)(hR:Rng p)(hT:∀t∈p.tables,t.values.length<=1073741824)(hw:wfX p found.length x=true)(hl:sl.length=x.l.length)(hs:InS sl) :
  PCall Tryz.prog (opF x.kind) [.ptr (fC p found),x.d,.sl 2 (sl.map Sp.cs)] (Q7 30 (opM p found x.kind x.index x.n sl)):=by
 obtain⟨h1,h2,_⟩:=bP hw
 rw[<-hl]at h1
 generalize hk:x.kind=k at h1 h2
 have nil:(sl.length:Int)=0->sl = []:=λh=>List.length_eq_zero_iff.1 (by omega)
 rcases kinds h2 with rfl |rfl |rfl |rfl |rfl |rfl |rfl |rfl |rfl |rfl |rfl |rfl |rfl |rfl |rfl |rfl |rfl |rfl
 ·obtain rfl:=nil h1
  exact op1 p found x
 ·obtain rfl:=nil h1
  have h2:(decide (0<=x.index)&&decide (x.index<p.params.length))=true:=h2
  simp only[Bool.and_eq_true,decide_eq_true_eq]at h2
  exact op3 p found x h2.1 h2.2
 ·obtain rfl:=nil h1
  have h2:(decide (0<=x.index)&&decide (x.index<p.states.length))=true:=h2
  simp only[Bool.and_eq_true,decide_eq_true_eq]at h2
  exact op4 p found x h2.1 h2.2
 ·obtain rfl:=nil h1
  have h2:(decide (0<=x.index)&&decide (x.index<found.length))=true:=h2
  simp only[Bool.and_eq_true,decide_eq_true_eq]at h2
  exact op5 p found x h2.1 h2.2
 ·obtain⟨a,rfl⟩:=zh (sl:=sl) (by have h1:(sl.length:Int)=1:=h1;omega)
  show PCall Tryz.prog _ _ (Q7 _ (aheadM a))
  unfold aheadM
  cases hc:(decide (a.1<0) || decide (a.2>4096))with
  |true=>exact Ug p found x a hc
  |false=>exact Yn p found x a hc
 ·obtain⟨a,rfl⟩:=zh (sl:=sl) (by have h1:(sl.length:Int)=1:=h1;omega)
  show PCall Tryz.prog _ _ (Q7 _ (aheadM a))
  unfold aheadM
  cases hc:(decide (a.1<0) || decide (a.2>4096))with
  |true=>exact Ug p found x a hc
  |false=>exact Yn p found x a hc
 ·have h1:(sl.length:Int)=1:=h1
  have h2:(decide (0<=x.index)&&decide (x.index<p.lines.length))=true:=h2
  simp only[Bool.and_eq_true,decide_eq_true_eq]at h2
  obtain⟨a,rfl⟩:=zh (sl:=sl) (by omega)
  exact op8 p found x a h2.1 h2.2
 ·have h1:(sl.length:Int)=1:=h1
  have h2:(decide (0<=x.index)&&decide (x.index<p.tables.length) && !(aO p x.index==[]))=true:=h2
  simp only[Bool.and_eq_true,decide_eq_true_eq]at h2
  obtain⟨a,rfl⟩:=zh (sl:=sl) (by omega)
  have h3:aO p x.index ≠ []:=by simpa using h2.2
  exact op9 p found x a h2.1.1 h2.1.2 (List.length_pos_iff.2 h3) (hT _ (getD_mem' Rg.Tb.none h2.1.1 h2.1.2))
 ·obtain⟨a,rfl⟩:=zh (sl:=sl) (by have h1:(sl.length:Int)=1:=h1;omega)
  exact z95 p found x a
 ·obtain⟨a,b,rfl⟩:=Rh (sl:=sl) (by have h1:(sl.length:Int)=2:=h1;omega)
  exact z96 p found x a b
 ·obtain⟨a,b,rfl⟩:=Rh (sl:=sl) (by have h1:(sl.length:Int)=2:=h1;omega)
  exact z97 p found x a b
 ·obtain⟨a,rfl⟩:=zh (sl:=sl) (by have h1:(sl.length:Int)=1:=h1;omega)
  exact z98 p found x a (hs a (by simp)).1 (hs a (by simp)).2
 ·obtain⟨a,rfl⟩:=zh (sl:=sl) (by have h1:(sl.length:Int)=1:=h1;omega)
  exact z99 p found x a (hs a (by simp)).1 (hs a (by simp)).2
 ·obtain⟨a,b,rfl⟩:=Rh (sl:=sl) (by have h1:(sl.length:Int)=2:=h1;omega)
  exact zaa p found x a b (hs a (by simp)) (hs b (by simp))
 ·obtain⟨a,b,rfl⟩:=Rh (sl:=sl) (by have h1:(sl.length:Int)=2:=h1;omega)
  exact zab p found x a b (hs a (by simp)) (hs b (by simp))
 ·obtain⟨a,b,rfl⟩:=Rh (sl:=sl) (by have h1:(sl.length:Int)=2:=h1;omega)
  exact zac p found x a b (hs a (by simp)) (hs b (by simp))
 ·obtain⟨a,rfl⟩:=zh (sl:=sl) (by have h1:(sl.length:Int)=1:=h1;omega)
  have h2:(decide (1<=x.n)&&decide (x.n<=2147483648))=true:=h2
  simp only[Bool.and_eq_true,decide_eq_true_eq]at h2
  exact zad p found x a (hs a (by simp)).1 (hs a (by simp)).2 h2.1 h2.2
 ·obtain⟨a,b,c,d,rfl⟩:=z7v (sl:=sl) (by have h1:(sl.length:Int)=4:=h1;omega)
  exact zae p found x a b c d
theorem vM(x:Ex)(p:Pr)(found:List Sp)(hR:Rng p)(hF:InS found)(hT:∀t∈p.tables,t.values.length<=1073741824)(hx:Ref15.nodes x<=1073741824)(hw:wfX p found.length x=true):PCall Tryz.prog 76 [.ptr (fC p found),x.d] (Q7 30 (dG p found x)):=by
 revert x;refine Ex.ind λx ih hx hw=>?_
 refine ae tok hmix ⟨[],[]⟩ Tryz.func76 rfl (by kernel_rfl) (by kernel_rfl) (by kernel_rfl) λhf=>?_
 have hN:=Ref15.nodes_eq x
 have hL:=Ref15.len_nodes x.l
 have hlen:x.l.length<=9223372036854775807:=by omega
 obtain⟨g1,g2,g3⟩:=bP hw
 clear hf
 repeat' ((try(conv=>whnf))<;>first
  |((refine gG _ _ _ [true] ?_ ?_ ?_);exact rfl;kernel_rfl)
  |((refine quiet_step ?_ ?_);kernel_rfl)
  |(refine Lp (ih x0 (bJ hd0) (by have:=lZ (bJ hd0);omega) (ig g3 _ (bJ hd0))) (λs1 q1=>?_) (λe1 q1=>?_))
  |(refine Lp (z06 p found x sl hR hT hw (FN (xu hI0.1).2) (VC hR hF g3 (xu hI0.1).2)) (λs2 q2=>?_) (λe2 q2=>?_))
  |((refine Du s2 ((xu hI0.1).1.trans q2) ?_);refine⟨[],rfl,?_,trivial⟩;conv=>whnf)
  |((refine lM e2 ((xu hI0.1).1.trans q2) ?_);refine⟨[],rfl,?_,trivial⟩;conv=>whnf)
  |((refine lM e1 (VD hI0.1 q1) ?_);refine⟨[],rfl,?_,trivial⟩;conv=>whnf)
  |(refine Uh g2 ?_)
  |(refine WZ (z9b g2) ?_)
  |exact trivial
  |exact au hd0 ‹_›
  |refine jO hd0 ?_
  |refine gJ hd0 ?_
  |((refine aA.mk 0 ?_);refine⟨aI (x.l) 11 (λ(sl:(List Sp))=>[(5,.gs 900005 2 (sl.map Sp.cs))]) (λ(sl:(List Sp))=>[(900005,.tok 2 (sl.map Sp.cs).length)]) [0,3,4,9,10] (λi0 r0 sl=>pre sl (cO p found r0)=cO p found x.l/\sl.length=i0),?_⟩;refine ag [] ?_ ?_ (λi0 (sl:(List Sp)) hd0 hI0=>?_) (λi0 x0 r0 (sl:(List Sp)) hd0 hl0 hI0=>?_))
  |(refine ah hd0 (sl++[s1]) ?_ ?_)
  |((refine ak ?_ ?_ ?_);rotate_left;(exact zH))
  |(refine aY.l _ ?_)
  |((refine dW ?_ ?_ ?_ ?_ ?_ ?_)<;>exact rfl)
  |((refine eQ ?_ ?_ ?_ ?_)<;>exact rfl)
  |((refine aG ?_ ?_ ?_ ?_ ?_);exact rfl;exact rfl;rotate_left;(exact dV hd0))
  |((refine aN ?_ ?_);exact rfl)
  |((refine app_step' ?_ ?_ ?_ ?_ ?_ ?_ ?_);exact rfl;exact rfl;exact rfl;exact rfl)
  |((refine ay ?_ ?_);kernel_rfl)
  |((refine kF ?_ ?_);kernel_rfl)
  |(refine And.intro ?_ ?_)
  |((refine qU ?_ ?_ ?_);exact rfl;exact rfl;(first |exact fB |skip))
  |((refine ja ?_ ?_);exact rfl;(first |exact fB |skip))
  |exact @rfl AV _
  |exact iP rfl
  |fail)
 all_goals first
  |(rfl)
  |((exact pre_nil _))
  |((exact Q9 hI0.1 q1))
  |((rw[List.length_append,hI0.2];rfl))
  |((rw[List.length_map];omega))
  |skip
theorem Eb(p:Pr)(FF:List Sp)(R:Except Int (List Sp))(hR:Rng p)(hT:∀t∈p.tables,t.values.length<=1073741824)(hn:∀s∈p.stmts,Ref15.nodes s.x<=1073741824)(hl:p.stmts.length<=1073741824)(hw:tK p 0 p.stmts=true)(hS:bK p p.stmts []=R)(hF:gI p p.stmts []=FF)(hRR:R = .ok FF):LCall Tryz.prog 93 [.ptr 1000000 0] [(1000000,.cells [.data (.str p.name),.data (.i p.latency),.data (.i p.tail),.data (.sl 3 (p.params.map Bd.cs)),.data (.sl 3 (p.states.map Bd.cs)),.data (.sl 4 (p.lines.map Ln.cs)),.data (.sl 2 (p.tables.map Tb.cs)),.data (.sl 8 (p.stmts.map Sm.cs)),.nilsl 2])] (.ret (.data (.tuple []))) [(1000000,.cells [.data (.str p.name),.data (.i p.latency),.data (.i p.tail),.data (.sl 3 (p.params.map Bd.cs)),.data (.sl 3 (p.states.map Bd.cs)),.data (.sl 4 (p.lines.map Ln.cs)),.data (.sl 2 (p.tables.map Tb.cs)),.data (.sl 8 (p.stmts.map Sm.cs)),.gs 1000001 2 (FF.map Sp.cs)]),(1000001,.tok 2 (FF.map Sp.cs).length)]:=by
 refine ax tok hmix ⟨[],[]⟩ Tryz.func93 rfl (by kernel_rfl) (by kernel_rfl) (by kernel_rfl) λhf=>?_
 have hlen:p.stmts.length<=9223372036854775807:=by omega
 clear hf
 repeat' ((try(conv=>whnf))<;>first
  |(exact(FT (hRR.symm.trans (Dx hI0 q1).1)).elim)
  |(exact(FT (hRR.symm.trans (gV hI0 q1 (jF (B:=((bT p x0.index).lo,(bT p x0.index).hi)) (z3l ‹_›) h)).1)).elim)
  |(exact(FT (hRR.symm.trans (gV hI0 q1 (jF (B:=((bW p x0.index).lo,(bW p x0.index).hi)) (z3m ‹_› ‹_›) h)).1)).elim)
  |(exact(FT (hRR.symm.trans (gV hI0 q1 (jF (B:=(-2147483648,2147483647)) (z3n ‹_› ‹_› ‹_›) h)).1)).elim)
  |(exact(FT (hRR.symm.trans (gV hI0 q1 (jF (B:=(-4611686018427387904,4611686018427387904)) (z3o ‹_› ‹_› ‹_›) h)).1)).elim)
  |((have hq:=(Rk hI0).2);subst hq)
  |(refine FP (vM x0.x p fs hR hI0.ins hT (hn _ (bJ hd0)) (Dw hI0)) (λs1 q1=>?_) (λe1 q1=>?_))
  |exact trivial
  |exact au hd0 ‹_›
  |refine bi hd0 ?_
  |refine aK hd0 ?_
  |refine BrI.intro (λh=>?_) (λh=>?_)
  |((refine sZ ?_ ?_);exact rfl)
  |((refine xh ?_ ?_ ?_);exact rfl;exact rfl)
  |((refine kH Rg.Bd.none ?_ ?_ (Ls hI0.wf h).1 (Ls hI0.wf h).2 ?_);exact rfl;exact rfl)
  |((refine kH Rg.Ln.none ?_ ?_ (Lt hI0.wf h).1 (Lt hI0.wf h).2 ?_);exact rfl;exact rfl)
  |((refine aA.mk 0 ?_);refine⟨aI (p.stmts) 13 (λ(fs:(List Sp))=>[]) (λ(fs:(List Sp))=>[(1000000,.cells [.data (.str p.name),.data (.i p.latency),.data (.i p.tail),.data (.sl 3 (p.params.map Bd.cs)),.data (.sl 3 (p.states.map Bd.cs)),.data (.sl 4 (p.lines.map Ln.cs)),.data (.sl 2 (p.tables.map Tb.cs)),.data (.sl 8 (p.stmts.map Sm.cs)),.gs 900007 2 (fs.map Sp.cs)]),(900007,.tok 2 (fs.map Sp.cs).length)]) [0,11,12] (λi0 r0 fs=>StI p R FF i0 r0 fs),?_⟩;refine ag ([]) ?_ ?_ (λi0 (fs:(List Sp)) hd0 hI0=>?_) (λi0 x0 r0 (fs:(List Sp)) hd0 hl0 hI0=>?_))
  |(refine ah hd0 (fs++[s1]) ?_ ?_)
  |((refine ai ?_);refine fin_step' [(1000000,1000000),(1000001,900007)] rfl ?_ ?_)
  |(refine aY.l _ ?_)
  |((refine dW ?_ ?_ ?_ ?_ ?_ ?_)<;>exact rfl)
  |((refine eQ ?_ ?_ ?_ ?_)<;>exact rfl)
  |((refine aG ?_ ?_ ?_ ?_ ?_);exact rfl;exact rfl;rotate_left;(exact aC hd0))
  |((refine aN ?_ ?_);exact rfl)
  |((refine app_step' ?_ ?_ ?_ ?_ ?_ ?_ ?_);exact rfl;exact rfl;exact rfl;exact rfl)
  |((refine ay ?_ ?_);kernel_rfl)
  |(refine And.intro ?_ ?_)
  |((refine qU ?_ ?_ ?_);exact rfl;exact rfl;(first |exact fB |skip))
  |((refine ja ?_ ?_);exact rfl;(first |exact fB |skip))
  |((refine bD ?_);refine fO ?_ ?_ ?_;exact rfl;exact rfl;(first |exact rfl |skip))
  |exact @rfl AV _
  |exact iP rfl
  |fail)
 all_goals first
  |(decide)
  |((exact FQ hS hF hw))
  |((exact lg hR hI0 q1 (kZ (B:=((bT p x0.index).lo,(bT p x0.index).hi)) (z3l ‹_›) h)))
  |((exact lg hR hI0 q1 (kZ (B:=((bW p x0.index).lo,(bW p x0.index).hi)) (z3m ‹_› ‹_›) h)))
  |((exact lg hR hI0 q1 (kZ (B:=(-2147483648,2147483647)) (z3n ‹_› ‹_› ‹_›) h)))
  |((exact lg hR hI0 q1 (kZ (B:=(-4611686018427387904,4611686018427387904)) (z3o ‹_› ‹_› ‹_›) h)))
  |((rw[List.length_map,hI0.len];have:=kE hd0;omega))
  |skip
theorem Af(p:Pr)(FF:List Sp)(R:Except Int (List Sp))(e:Int)(hR:Rng p)(hT:∀t∈p.tables,t.values.length<=1073741824)(hn:∀s∈p.stmts,Ref15.nodes s.x<=1073741824)(hl:p.stmts.length<=1073741824)(hw:tK p 0 p.stmts=true)(hS:bK p p.stmts []=R)(hF:gI p p.stmts []=FF)(hRR:R = .error e):LCall Tryz.prog 93 [.ptr 1000000 0] [(1000000,.cells [.data (.str p.name),.data (.i p.latency),.data (.i p.tail),.data (.sl 3 (p.params.map Bd.cs)),.data (.sl 3 (p.states.map Bd.cs)),.data (.sl 4 (p.lines.map Ln.cs)),.data (.sl 2 (p.tables.map Tb.cs)),.data (.sl 8 (p.stmts.map Sm.cs)),.nilsl 2])] (.pan (.data (.iface 30 (.i e)))) [(1000000,.cells [.data (.str p.name),.data (.i p.latency),.data (.i p.tail),.data (.sl 3 (p.params.map Bd.cs)),.data (.sl 3 (p.states.map Bd.cs)),.data (.sl 4 (p.lines.map Ln.cs)),.data (.sl 2 (p.tables.map Tb.cs)),.data (.sl 8 (p.stmts.map Sm.cs)),.gs 1000001 2 (FF.map Sp.cs)]),(1000001,.tok 2 (FF.map Sp.cs).length)]:=by
 refine ax tok hmix ⟨[],[]⟩ Tryz.func93 rfl (by kernel_rfl) (by kernel_rfl) (by kernel_rfl) λhf=>?_
 have hlen:p.stmts.length<=9223372036854775807:=by omega
 clear hf
 repeat' ((try(conv=>whnf))<;>first
  |((have hq:=Rl (hRR.symm.trans (Dx hI0 q1).1));(have hq2:=(Dx hI0 q1).2);subst hq;subst hq2)
  |((have hq:=Rl (hRR.symm.trans (gV hI0 q1 (jF (B:=((bT p x0.index).lo,(bT p x0.index).hi)) (z3l ‹_›) h)).1));(have hq2:=(gV hI0 q1 (jF (B:=((bT p x0.index).lo,(bT p x0.index).hi)) (z3l ‹_›) h)).2);subst hq;subst hq2)
  |((have hq:=Rl (hRR.symm.trans (gV hI0 q1 (jF (B:=((bW p x0.index).lo,(bW p x0.index).hi)) (z3m ‹_› ‹_›) h)).1));(have hq2:=(gV hI0 q1 (jF (B:=((bW p x0.index).lo,(bW p x0.index).hi)) (z3m ‹_› ‹_›) h)).2);subst hq;subst hq2)
  |((have hq:=Rl (hRR.symm.trans (gV hI0 q1 (jF (B:=(-2147483648,2147483647)) (z3n ‹_› ‹_› ‹_›) h)).1));(have hq2:=(gV hI0 q1 (jF (B:=(-2147483648,2147483647)) (z3n ‹_› ‹_› ‹_›) h)).2);subst hq;subst hq2)
  |((have hq:=Rl (hRR.symm.trans (gV hI0 q1 (jF (B:=(-4611686018427387904,4611686018427387904)) (z3o ‹_› ‹_› ‹_›) h)).1));(have hq2:=(gV hI0 q1 (jF (B:=(-4611686018427387904,4611686018427387904)) (z3o ‹_› ‹_› ‹_›) h)).2);subst hq;subst hq2)
  |(exact(FT ((Rk hI0).1.symm.trans hRR)).elim)
  |(refine FP (vM x0.x p fs hR hI0.ins hT (hn _ (bJ hd0)) (Dw hI0)) (λs1 q1=>?_) (λe1 q1=>?_))
  |exact trivial
  |exact au hd0 ‹_›
  |refine aK hd0 ?_
  |refine BrI.intro (λh=>?_) (λh=>?_)
  |((refine sZ ?_ ?_);exact rfl)
  |((refine xh ?_ ?_ ?_);exact rfl;exact rfl)
  |((refine kH Rg.Bd.none ?_ ?_ (Ls hI0.wf h).1 (Ls hI0.wf h).2 ?_);exact rfl;exact rfl)
  |((refine kH Rg.Ln.none ?_ ?_ (Lt hI0.wf h).1 (Lt hI0.wf h).2 ?_);exact rfl;exact rfl)
  |((refine aA.mk 0 ?_);refine⟨aI (p.stmts) 13 (λ(fs:(List Sp))=>[]) (λ(fs:(List Sp))=>[(1000000,.cells [.data (.str p.name),.data (.i p.latency),.data (.i p.tail),.data (.sl 3 (p.params.map Bd.cs)),.data (.sl 3 (p.states.map Bd.cs)),.data (.sl 4 (p.lines.map Ln.cs)),.data (.sl 2 (p.tables.map Tb.cs)),.data (.sl 8 (p.stmts.map Sm.cs)),.gs 900007 2 (fs.map Sp.cs)]),(900007,.tok 2 (fs.map Sp.cs).length)]) [0,11,12] (λi0 r0 fs=>StI p R FF i0 r0 fs),?_⟩;refine ag ([]) ?_ ?_ (λi0 (fs:(List Sp)) hd0 hI0=>?_) (λi0 x0 r0 (fs:(List Sp)) hd0 hl0 hI0=>?_))
  |(refine ah hd0 (fs++[s1]) ?_ ?_)
  |((refine iR ?_);refine fin_step' [(1000000,1000000),(1000001,900007)] rfl ?_ ?_)
  |(refine aY.l _ ?_)
  |((refine dW ?_ ?_ ?_ ?_ ?_ ?_)<;>exact rfl)
  |((refine eQ ?_ ?_ ?_ ?_)<;>exact rfl)
  |((refine aG ?_ ?_ ?_ ?_ ?_);exact rfl;exact rfl;rotate_left;(exact aC hd0))
  |((refine aN ?_ ?_);exact rfl)
  |((refine app_step' ?_ ?_ ?_ ?_ ?_ ?_ ?_);exact rfl;exact rfl;exact rfl;exact rfl)
  |((refine ay ?_ ?_);kernel_rfl)
  |(refine And.intro ?_ ?_)
  |((refine qU ?_ ?_ ?_);exact rfl;exact rfl;(first |exact fB |skip))
  |((refine ja ?_ ?_);exact rfl;(first |exact fB |skip))
  |((refine bD ?_);refine fO ?_ ?_ ?_;exact rfl;exact rfl;(first |exact rfl |skip))
  |exact @rfl AV _
  |exact iP rfl
  |fail)
 all_goals first
  |(decide)
  |((exact FQ hS hF hw))
  |((exact lg hR hI0 q1 (kZ (B:=((bT p x0.index).lo,(bT p x0.index).hi)) (z3l ‹_›) h)))
  |((exact lg hR hI0 q1 (kZ (B:=((bW p x0.index).lo,(bW p x0.index).hi)) (z3m ‹_› ‹_›) h)))
  |((exact lg hR hI0 q1 (kZ (B:=(-2147483648,2147483647)) (z3n ‹_› ‹_› ‹_›) h)))
  |((exact lg hR hI0 q1 (kZ (B:=(-4611686018427387904,4611686018427387904)) (z3o ‹_› ‹_› ‹_›) h)))
  |((rw[List.length_map,hI0.len];have:=kE hd0;omega))
  |skip
theorem G9(c:AV)(v:Int):sJ Tryz.prog 94 [.ptr 1000000 0] (some (.iface 30 (.i v))) [(1000000,.cells [.ptr 1000001 0]),(1000001,.cells [c])]
  [(1000000,.cells [.ptr 1000001 0]),(1000001,.cells [.data (.i v)])]:=by
 refine gZ tok hmix Tryz.func94 rfl (by kernel_rfl) (by kernel_rfl) (by kernel_rfl) ?_
 repeat' ((try(conv=>whnf))<;>first
  |exact trivial
  |(refine⟨([]:List (Nat×Nat)),?_⟩)
  |(refine⟨by kernel_rfl,?_⟩)
  |(refine⟨rfl,?_⟩)
  |(refine⟨?_,?_⟩)
  |fail)
theorem MO(d:D):sJ Tryz.prog 94 [.ptr 1000000 0] none [(1000000,.cells [.ptr 1000001 0]),(1000001,.cells [.data d])]
  [(1000000,.cells [.ptr 1000001 0]),(1000001,.cells [.data d])]:=by
 refine gZ tok hmix Tryz.func94 rfl (by kernel_rfl) (by kernel_rfl) (by kernel_rfl) ?_
 repeat' ((try(conv=>whnf))<;>first
  |exact trivial
  |(refine⟨([]:List (Nat×Nat)),?_⟩)
  |(refine⟨by kernel_rfl,?_⟩)
  |(refine⟨rfl,?_⟩)
  |(refine⟨?_,?_⟩)
  |fail)
theorem z07(p:Pr)(FF:List Sp)(hR:Rng p)(hT:∀t∈p.tables,t.values.length<=1073741824)(hn:∀s∈p.stmts,Ref15.nodes s.x<=1073741824)(hl:p.stmts.length<=1073741824)(hw:tK p 0 p.stmts=true)(hS:bK p p.stmts [] = .ok FF)(hF:gI p p.stmts []=FF):LCall Tryz.prog 74 [.ptr 1000000 0,.bnd 93 [.ptr 1000001 0]] [(1000000,.cells [.data (.i 0)]),(1000001,.cells [.data (.str p.name),.data (.i p.latency),.data (.i p.tail),.data (.sl 3 (p.params.map Bd.cs)),.data (.sl 3 (p.states.map Bd.cs)),.data (.sl 4 (p.lines.map Ln.cs)),.data (.sl 2 (p.tables.map Tb.cs)),.data (.sl 8 (p.stmts.map Sm.cs)),.nilsl 2])] (.ret (.data (.tuple []))) [(1000000,.cells [.data (.i 0)]),(1000001,.cells [.data (.str p.name),.data (.i p.latency),.data (.i p.tail),.data (.sl 3 (p.params.map Bd.cs)),.data (.sl 3 (p.states.map Bd.cs)),.data (.sl 4 (p.lines.map Ln.cs)),.data (.sl 2 (p.tables.map Tb.cs)),.data (.sl 8 (p.stmts.map Sm.cs)),.gs 1000002 2 (FF.map Sp.cs)]),(1000002,.tok 2 (FF.map Sp.cs).length)]:=by
 refine ax tok hmix ⟨[],[]⟩ Tryz.func74 rfl (by kernel_rfl) (by kernel_rfl) (by kernel_rfl) λhf=>?_
 clear hf
 repeat' ((try(conv=>whnf))<;>first
  |exact trivial
  |((refine⟨_,_,_,[(1000000,2),(1000001,1000000)],MO (.i 0),rfl,⟨rfl,rfl,trivial⟩,?_,?_⟩);kernel_rfl)
  |(refine⟨([(1000000,1000000),(1000001,1000001),(1000002,800002)]:List (Nat×Nat)),rfl,?_,?_⟩)
  |((refine lent_step' [(1000000,1000001),(1000001,800002)] (Eb p FF _ hR hT hn hl hw hS hF rfl) ?_ ?_ ?_ ?_);rotate_left 0;exact rfl;(exact⟨rfl,trivial⟩);exact rfl)
  |(refine And.intro ?_ ?_)
  |((refine bD ?_);refine fO ?_ ?_ ?_;exact rfl;exact rfl;(first |exact rfl |skip))
  |fail)
 all_goals first
  |skip
theorem W9(p:Pr)(FF:List Sp)(e:Int)(hR:Rng p)(hT:∀t∈p.tables,t.values.length<=1073741824)(hn:∀s∈p.stmts,Ref15.nodes s.x<=1073741824)(hl:p.stmts.length<=1073741824)(hw:tK p 0 p.stmts=true)(hS:bK p p.stmts [] = .error e)(hF:gI p p.stmts []=FF):LCall Tryz.prog 74 [.ptr 1000000 0,.bnd 93 [.ptr 1000001 0]] [(1000000,.cells [.data (.i 0)]),(1000001,.cells [.data (.str p.name),.data (.i p.latency),.data (.i p.tail),.data (.sl 3 (p.params.map Bd.cs)),.data (.sl 3 (p.states.map Bd.cs)),.data (.sl 4 (p.lines.map Ln.cs)),.data (.sl 2 (p.tables.map Tb.cs)),.data (.sl 8 (p.stmts.map Sm.cs)),.nilsl 2])] (.ret (.data (.tuple []))) [(1000000,.cells [.data (.i e)]),(1000001,.cells [.data (.str p.name),.data (.i p.latency),.data (.i p.tail),.data (.sl 3 (p.params.map Bd.cs)),.data (.sl 3 (p.states.map Bd.cs)),.data (.sl 4 (p.lines.map Ln.cs)),.data (.sl 2 (p.tables.map Tb.cs)),.data (.sl 8 (p.stmts.map Sm.cs)),.gs 1000002 2 (FF.map Sp.cs)]),(1000002,.tok 2 (FF.map Sp.cs).length)]:=by
 refine ax tok hmix ⟨[],[]⟩ Tryz.func74 rfl (by kernel_rfl) (by kernel_rfl) (by kernel_rfl) λhf=>?_
 clear hf
 repeat' ((try(conv=>whnf))<;>first
  |exact trivial
  |((refine⟨_,_,_,[(1000000,2),(1000001,1000000)],G9 (.data (.i 0)) e,rfl,⟨rfl,rfl,trivial⟩,?_,?_⟩);kernel_rfl)
  |(refine⟨([(1000000,1000000),(1000001,1000001),(1000002,800002)]:List (Nat×Nat)),rfl,?_,?_⟩)
  |((refine lent_step' [(1000000,1000001),(1000001,800002)] (Af p FF _ e hR hT hn hl hw hS hF rfl) ?_ ?_ ?_ ?_);rotate_left 0;exact rfl;(exact⟨rfl,trivial⟩);exact rfl)
  |(refine And.intro ?_ ?_)
  |((refine bD ?_);refine fO ?_ ?_ ?_;exact rfl;exact rfl;(first |exact rfl |skip))
  |exact @rfl Block _
  |fail)
 all_goals first
  |skip
end Go.Proofs.YthpbakljheeabaaGreatDoor
namespace Go.Proofs.YthpbakljheeabaaGreatDoor
open Go.Fw Go.Fw.Ref15 Go.Fw.Rg
set_option maxRecDepth 10000
variable [af]
theorem JL(l m:List Int)  : PCall Tryz.prog 86 [ints l,ints m] (.ret (.b (Rn l m))):=by
 refine ae tok hmix ⟨[],[]⟩ Tryz.func86 rfl (by kernel_rfl) (by kernel_rfl) (by kernel_rfl) λhf=>?_
 have hlen:l.length<=9223372036854775807:=by simpa using(hf (ints l) (by simp)).sl.1
 clear hf
 repeat' ((try(conv=>whnf))<;>first
  |with_reducible exact trivial
  |with_reducible exact au hd0 ‹_›
  |((with_reducible refine eu hd0 ?_ ?_);(assumption))
  |((with_reducible refine dI hd0 ?_ ?_);(assumption))
  |with_reducible refine BrI.intro (λh=>?_) (λh=>?_)
  |((with_reducible refine aA.mk 0 ?_);have hz:l.length=m.length:=(by simp at h;omega);have hk0:(l.zip m).length=(l.map dZ).length:=(by rw[iQ hz,List.length_map]);have hlz:(l.zip m).length<=9223372036854775807:=(by rw[iQ hz];exact hlen);refine⟨aI (l.zip m) 13 (λ(_:Unit)=>[]) (λ(_:Unit)=>[]) [0,1,12] (λi0 r0 _=>Rn l m=r0.all z3p),?_⟩;with_reducible refine ag () ?_ ?_ (λi0 (_:Unit) hd0 hI0=>?_) (λi0 x0 r0 (_:Unit) hd0 hl0 hI0=>?_))
  |(with_reducible refine ah hd0 () ?_ ?_)
  |((with_reducible refine aG ?_ ?_ ?_ ?_ ?_);exact rfl;exact rfl;rotate_left;(first |with_reducible exact kV hd0 |with_reducible exact kW hd0))
  |((with_reducible refine ay ?_ ?_);kernel_rfl)
  |((with_reducible refine ai ?_);refine⟨[],rfl,?_,trivial⟩;conv=>whnf)
  |(with_reducible refine And.intro ?_ ?_)
  |exact @rfl AV _
  |fail)
 all_goals(try simp only[Bool.cond_true_left,Bool.cond_false_right,Bool.cond_false_left,Bool.cond_true_right,Bool.not_eq_true',Bool.not_eq_false',bne,Ex.css_len,List.length_map,Int.toNat_zero]at *)
 all_goals first
  |(rw[hI0];(try simp only[z3p,Bool.not_true,Bool.not_false,Bool.and_true,Bool.true_and,Bool.and_false,Bool.false_and,Bool.or_true,Bool.true_or,Bool.or_false,Bool.false_or,if_true,if_false,reduceIte,Bool.false_eq_true,Bool.not_not,Bool.not_eq_true',beq_self_eq_true,List.all_cons,List.all_nil,List.any_cons,List.any_nil,List.length_map,bne,eq_self,Int.toNat_zero, *]);first |done |rfl)
  |(simp only[Rn,BB,Bool.not_true,Bool.not_false,Bool.and_true,Bool.true_and,Bool.and_false,Bool.false_and,Bool.or_true,Bool.true_or,Bool.or_false,Bool.false_or,if_true,if_false,reduceIte,Bool.false_eq_true,Bool.not_not,Bool.not_eq_true',beq_self_eq_true,List.all_cons,List.all_nil,List.any_cons,List.any_nil,List.length_map,bne,eq_self,Int.toNat_zero, *];done)
  |skip
theorem OM(l m:List Bd)  : PCall Tryz.prog 89 [.sl 3 (l.map Bd.cs),.sl 3 (m.map Bd.cs)] (.ret (.b (jS l m))):=by
 refine ae tok hmix ⟨[],[]⟩ Tryz.func89 rfl (by kernel_rfl) (by kernel_rfl) (by kernel_rfl) λhf=>?_
 have hlen:l.length<=9223372036854775807:=by simpa using(hf (.sl 3 (l.map Bd.cs)) (by simp)).sl.1
 clear hf
 repeat' ((try(conv=>whnf))<;>first
  |with_reducible exact trivial
  |with_reducible exact au hd0 ‹_›
  |((with_reducible refine eu hd0 ?_ ?_);(assumption))
  |((with_reducible refine dI hd0 ?_ ?_);(assumption))
  |with_reducible refine BrI.intro (λh=>?_) (λh=>?_)
  |((with_reducible refine aA.mk 0 ?_);have hz:l.length=m.length:=(by simp at h;omega);have hk0:(l.zip m).length=(l.map Bd.cs).length:=(by rw[iQ hz,List.length_map]);have hlz:(l.zip m).length<=9223372036854775807:=(by rw[iQ hz];exact hlen);refine⟨aI (l.zip m) 13 (λ(_:Unit)=>[]) (λ(_:Unit)=>[]) [0,1,12] (λi0 r0 _=>jS l m=r0.all Bv),?_⟩;with_reducible refine ag () ?_ ?_ (λi0 (_:Unit) hd0 hI0=>?_) (λi0 x0 r0 (_:Unit) hd0 hl0 hI0=>?_))
  |(with_reducible refine ah hd0 () ?_ ?_)
  |((with_reducible refine xh ?_ ?_ ?_);exact rfl;exact rfl)
  |((with_reducible refine aG ?_ ?_ ?_ ?_ ?_);exact rfl;exact rfl;rotate_left;(first |with_reducible exact kV hd0 |with_reducible exact kW hd0))
  |((with_reducible refine aN ?_ ?_);exact rfl)
  |((with_reducible refine ay ?_ ?_);kernel_rfl)
  |((with_reducible refine ai ?_);refine⟨[],rfl,?_,trivial⟩;conv=>whnf)
  |(with_reducible refine And.intro ?_ ?_)
  |exact @rfl AV _
  |fail)
 all_goals(try simp only[Bool.cond_true_left,Bool.cond_false_right,Bool.cond_false_left,Bool.cond_true_right,Bool.not_eq_true',Bool.not_eq_false',bne,Ex.css_len,List.length_map,Int.toNat_zero]at *)
 all_goals first
  |(rw[hI0];(try simp only[Bv,Bool.not_true,Bool.not_false,Bool.and_true,Bool.true_and,Bool.and_false,Bool.false_and,Bool.or_true,Bool.true_or,Bool.or_false,Bool.false_or,if_true,if_false,reduceIte,Bool.false_eq_true,Bool.not_not,Bool.not_eq_true',beq_self_eq_true,List.all_cons,List.all_nil,List.any_cons,List.any_nil,List.length_map,bne,eq_self,Int.toNat_zero, *]);first |done |rfl)
  |(simp only[jS,Bool.not_true,Bool.not_false,Bool.and_true,Bool.true_and,Bool.and_false,Bool.false_and,Bool.or_true,Bool.true_or,Bool.or_false,Bool.false_or,if_true,if_false,reduceIte,Bool.false_eq_true,Bool.not_not,Bool.not_eq_true',beq_self_eq_true,List.all_cons,List.all_nil,List.any_cons,List.any_nil,List.length_map,bne,eq_self,Int.toNat_zero, *];done)
  |skip
theorem OO(l m:List Ln)  : PCall Tryz.prog 90 [.sl 4 (l.map Ln.cs),.sl 4 (m.map Ln.cs)] (.ret (.b (BB yX l m))):=by
 refine ae tok hmix ⟨[],[]⟩ Tryz.func90 rfl (by kernel_rfl) (by kernel_rfl) (by kernel_rfl) λhf=>?_
 have hlen:l.length<=9223372036854775807:=by simpa using(hf (.sl 4 (l.map Ln.cs)) (by simp)).sl.1
 clear hf
 repeat' ((try(conv=>whnf))<;>first
  |with_reducible exact trivial
  |with_reducible exact au hd0 ‹_›
  |((with_reducible refine eu hd0 ?_ ?_);(assumption))
  |((with_reducible refine dI hd0 ?_ ?_);(assumption))
  |with_reducible refine BrI.intro (λh=>?_) (λh=>?_)
  |((with_reducible refine aA.mk 0 ?_);have hz:l.length=m.length:=(by simp at h;omega);have hk0:(l.zip m).length=(l.map Ln.cs).length:=(by rw[iQ hz,List.length_map]);have hlz:(l.zip m).length<=9223372036854775807:=(by rw[iQ hz];exact hlen);refine⟨aI (l.zip m) 13 (λ(_:Unit)=>[]) (λ(_:Unit)=>[]) [0,1,12] (λi0 r0 _=>BB yX l m=r0.all yX),?_⟩;with_reducible refine ag () ?_ ?_ (λi0 (_:Unit) hd0 hI0=>?_) (λi0 x0 r0 (_:Unit) hd0 hl0 hI0=>?_))
  |(with_reducible refine ah hd0 () ?_ ?_)
  |((with_reducible refine xh ?_ ?_ ?_);exact rfl;exact rfl)
  |((with_reducible refine aG ?_ ?_ ?_ ?_ ?_);exact rfl;exact rfl;rotate_left;(first |with_reducible exact kV hd0 |with_reducible exact kW hd0))
  |((with_reducible refine aN ?_ ?_);exact rfl)
  |((with_reducible refine ay ?_ ?_);kernel_rfl)
  |((with_reducible refine ai ?_);refine⟨[],rfl,?_,trivial⟩;conv=>whnf)
  |(with_reducible refine And.intro ?_ ?_)
  |exact @rfl AV _
  |fail)
 all_goals(try simp only[Bool.cond_true_left,Bool.cond_false_right,Bool.cond_false_left,Bool.cond_true_right,Bool.not_eq_true',Bool.not_eq_false',bne,Ex.css_len,List.length_map,Int.toNat_zero]at *)
 all_goals first
  |(rw[hI0];(try simp only[yX,Bool.not_true,Bool.not_false,Bool.and_true,Bool.true_and,Bool.and_false,Bool.false_and,Bool.or_true,Bool.true_or,Bool.or_false,Bool.false_or,if_true,if_false,reduceIte,Bool.false_eq_true,Bool.not_not,Bool.not_eq_true',beq_self_eq_true,List.all_cons,List.all_nil,List.any_cons,List.any_nil,List.length_map,bne,eq_self,Int.toNat_zero, *]);first |done |rfl)
  |(simp only[BB,Bool.not_true,Bool.not_false,Bool.and_true,Bool.true_and,Bool.and_false,Bool.false_and,Bool.or_true,Bool.true_or,Bool.or_false,Bool.false_or,if_true,if_false,reduceIte,Bool.false_eq_true,Bool.not_not,Bool.not_eq_true',beq_self_eq_true,List.all_cons,List.all_nil,List.any_cons,List.any_nil,List.length_map,bne,eq_self,Int.toNat_zero, *];done)
  |skip
theorem Xa(a b:Tb)  : PCall Tryz.prog 85 [.agg a.cs,.agg b.cs] (.ret (.b (tbE (a,b)))):=by
 refine ae tok hmix ⟨[],[]⟩ Tryz.func85 rfl (by kernel_rfl) (by kernel_rfl) (by kernel_rfl) λhf=>?_
 clear hf
 repeat' ((try(conv=>whnf))<;>first
  |((with_reducible refine ak ?_ ?_ ?_);rotate_left;(exact JL _ _))
  |((with_reducible refine bu ?_ ?_ (λhg=>?_) ?_);exact rfl)
  |((with_reducible refine dB ?_ ?_);with_reducible exact rfl;with_reducible exact rfl)
  |((with_reducible refine ai ?_);refine⟨[],rfl,?_,trivial⟩;conv=>whnf)
  |fail)
 all_goals(try simp only[Bool.cond_true_left,Bool.cond_false_right,Bool.cond_false_left,Bool.cond_true_right,Bool.not_eq_true',Bool.not_eq_false',bne,Ex.css_len,List.length_map,Int.toNat_zero]at *)
 all_goals first
  |(simp only[tbE,Bool.not_true,Bool.not_false,Bool.and_true,Bool.true_and,Bool.and_false,Bool.false_and,Bool.or_true,Bool.true_or,Bool.or_false,Bool.false_or,if_true,if_false,reduceIte,Bool.false_eq_true,Bool.not_not,Bool.not_eq_true',beq_self_eq_true,List.all_cons,List.all_nil,List.any_cons,List.any_nil,List.length_map,bne,eq_self,Int.toNat_zero, *];done)
  |skip
theorem OQ(l m:List Ex)(ih:∀x∈l,∀y,PCall Tryz.prog 88 [x.d,y.d] (.ret (.b (gB x y)))):PCall Tryz.prog 105 [.sl 5 (l.map Ex.cs),.sl 5 (m.map Ex.cs),.fn 88 []] (.ret (.b (z3q l m))):=by
 refine ae tok hmix ⟨[],[]⟩ Tryz.func105 rfl (by kernel_rfl) (by kernel_rfl) (by kernel_rfl) λhf=>?_
 have hlen:l.length<=9223372036854775807:=by simpa using(hf (.sl 5 (l.map Ex.cs)) (by simp)).sl.1
 clear hf
 repeat' ((try(conv=>whnf))<;>first
  |with_reducible exact trivial
  |with_reducible exact au hd0 ‹_›
  |((with_reducible refine eu hd0 ?_ ?_);(assumption))
  |((with_reducible refine dI hd0 ?_ ?_);(assumption))
  |with_reducible refine BrI.intro (λh=>?_) (λh=>?_)
  |((with_reducible refine aA.mk 0 ?_);have hz:l.length=m.length:=(by simp at h;omega);have hk0:(l.zip m).length=(l.map Ex.cs).length:=(by rw[iQ hz,List.length_map]);have hlz:(l.zip m).length<=9223372036854775807:=(by rw[iQ hz];exact hlen);refine⟨aI (l.zip m) 17 (λ(_:Unit)=>[]) (λ(_:Unit)=>[]) [1,2,15,16] (λi0 r0 _=>z3q l m=r0.all exE),?_⟩;with_reducible refine ag () ?_ ?_ (λi0 (_:Unit) hd0 hI0=>?_) (λi0 x0 r0 (_:Unit) hd0 hl0 hI0=>?_))
  |(with_reducible refine ah hd0 () ?_ ?_)
  |((with_reducible refine ak ?_ ?_ ?_);rotate_left;(exact ih _ (List.of_mem_zip (bJ hd0)).1 _))
  |((with_reducible refine aG ?_ ?_ ?_ ?_ ?_);exact rfl;exact rfl;rotate_left;(first |with_reducible exact kV hd0 |with_reducible exact kW hd0))
  |((with_reducible refine aN ?_ ?_);exact rfl)
  |((with_reducible refine ai ?_);refine⟨[],rfl,?_,trivial⟩;conv=>whnf)
  |(with_reducible refine And.intro ?_ ?_)
  |exact @rfl AV _
  |fail)
 all_goals(try simp only[Bool.cond_true_left,Bool.cond_false_right,Bool.cond_false_left,Bool.cond_true_right,Bool.not_eq_true',Bool.not_eq_false',bne,Ex.css_len,List.length_map,Int.toNat_zero]at *)
 all_goals first
  |(rw[hI0];(try simp only[exE,Bool.not_true,Bool.not_false,Bool.and_true,Bool.true_and,Bool.and_false,Bool.false_and,Bool.or_true,Bool.true_or,Bool.or_false,Bool.false_or,if_true,if_false,reduceIte,Bool.false_eq_true,Bool.not_not,Bool.not_eq_true',beq_self_eq_true,List.all_cons,List.all_nil,List.any_cons,List.any_nil,List.length_map,bne,eq_self,Int.toNat_zero, *]);first |done |rfl)
  |(simp only[z3q,BB,Bool.not_true,Bool.not_false,Bool.and_true,Bool.true_and,Bool.and_false,Bool.false_and,Bool.or_true,Bool.true_or,Bool.or_false,Bool.false_or,if_true,if_false,reduceIte,Bool.false_eq_true,Bool.not_not,Bool.not_eq_true',beq_self_eq_true,List.all_cons,List.all_nil,List.any_cons,List.any_nil,List.length_map,bne,eq_self,Int.toNat_zero, *];done)
  |skip
theorem Ag(a b:Ex)  : PCall Tryz.prog 88 [a.d,b.d] (.ret (.b (gB a b))):=by
 revert b;revert a;refine Ex.ind λa ih b=>?_
 refine ae tok hmix ⟨[],[]⟩ Tryz.func88 rfl (by kernel_rfl) (by kernel_rfl) (by kernel_rfl) λhf=>?_
 clear hf
 repeat' ((try(conv=>whnf))<;>first
  |((with_reducible refine ak ?_ ?_ ?_);rotate_left;((have hq:=OQ a.l b.l ih;rw[<-Ex.css_eq,<-Ex.css_eq]at hq;exact hq)))
  |((with_reducible refine bu ?_ ?_ (λhg=>?_) ?_);exact rfl)
  |((with_reducible refine dB ?_ ?_);with_reducible exact rfl;with_reducible exact rfl)
  |((with_reducible refine ai ?_);refine⟨[],rfl,?_,trivial⟩;conv=>whnf)
  |fail)
 all_goals(try simp only[Bool.cond_true_left,Bool.cond_false_right,Bool.cond_false_left,Bool.cond_true_right,Bool.not_eq_true',Bool.not_eq_false',bne,Ex.css_len,List.length_map,Int.toNat_zero]at *)
 all_goals first
  |((exact congrArg D.b (Dy a b)))
  |skip
theorem Xb(a b:Sm)  : PCall Tryz.prog 87 [a.d,b.d] (.ret (.b (smE (a,b)))):=by
 refine ae tok hmix ⟨[],[]⟩ Tryz.func87 rfl (by kernel_rfl) (by kernel_rfl) (by kernel_rfl) λhf=>?_
 clear hf
 repeat' ((try(conv=>whnf))<;>first
  |((with_reducible refine ak ?_ ?_ ?_);rotate_left;(exact Ag _ _))
  |((with_reducible refine bu ?_ ?_ (λhg=>?_) ?_);exact rfl)
  |((with_reducible refine dB ?_ ?_);with_reducible exact rfl;with_reducible exact rfl)
  |((with_reducible refine ai ?_);refine⟨[],rfl,?_,trivial⟩;conv=>whnf)
  |fail)
 all_goals(try simp only[Bool.cond_true_left,Bool.cond_false_right,Bool.cond_false_left,Bool.cond_true_right,Bool.not_eq_true',Bool.not_eq_false',bne,Ex.css_len,List.length_map,Int.toNat_zero]at *)
 all_goals first
  |(simp only[smE,Bool.not_true,Bool.not_false,Bool.and_true,Bool.true_and,Bool.and_false,Bool.false_and,Bool.or_true,Bool.true_or,Bool.or_false,Bool.false_or,if_true,if_false,reduceIte,Bool.false_eq_true,Bool.not_not,Bool.not_eq_true',beq_self_eq_true,List.all_cons,List.all_nil,List.any_cons,List.any_nil,List.length_map,bne,eq_self,Int.toNat_zero, *];done)
  |skip
theorem OT(l m:List Tb)  : PCall Tryz.prog 91 [.sl 2 (l.map Tb.cs),.sl 2 (m.map Tb.cs),.fn 85 []] (.ret (.b (BB tbE l m))):=by
 refine ae tok hmix ⟨[],[]⟩ Tryz.func91 rfl (by kernel_rfl) (by kernel_rfl) (by kernel_rfl) λhf=>?_
 have hlen:l.length<=9223372036854775807:=by simpa using(hf (.sl 2 (l.map Tb.cs)) (by simp)).sl.1
 clear hf
 repeat' ((try(conv=>whnf))<;>first
  |with_reducible exact trivial
  |with_reducible exact au hd0 ‹_›
  |((with_reducible refine eu hd0 ?_ ?_);(assumption))
  |((with_reducible refine dI hd0 ?_ ?_);(assumption))
  |with_reducible refine BrI.intro (λh=>?_) (λh=>?_)
  |((with_reducible refine aA.mk 0 ?_);have hz:l.length=m.length:=(by simp at h;omega);have hk0:(l.zip m).length=(l.map Tb.cs).length:=(by rw[iQ hz,List.length_map]);have hlz:(l.zip m).length<=9223372036854775807:=(by rw[iQ hz];exact hlen);refine⟨aI (l.zip m) 17 (λ(_:Unit)=>[]) (λ(_:Unit)=>[]) [1,2,15,16] (λi0 r0 _=>BB tbE l m=r0.all tbE),?_⟩;with_reducible refine ag () ?_ ?_ (λi0 (_:Unit) hd0 hI0=>?_) (λi0 x0 r0 (_:Unit) hd0 hl0 hI0=>?_))
  |(with_reducible refine ah hd0 () ?_ ?_)
  |((with_reducible refine ak ?_ ?_ ?_);rotate_left;(exact Xa _ _))
  |((with_reducible refine aG ?_ ?_ ?_ ?_ ?_);exact rfl;exact rfl;rotate_left;(first |with_reducible exact kV hd0 |with_reducible exact kW hd0))
  |((with_reducible refine aN ?_ ?_);exact rfl)
  |((with_reducible refine ai ?_);refine⟨[],rfl,?_,trivial⟩;conv=>whnf)
  |(with_reducible refine And.intro ?_ ?_)
  |exact @rfl AV _
  |fail)
 all_goals(try simp only[Bool.cond_true_left,Bool.cond_false_right,Bool.cond_false_left,Bool.cond_true_right,Bool.not_eq_true',Bool.not_eq_false',bne,Ex.css_len,List.length_map,Int.toNat_zero]at *)
 all_goals first
  |(rw[hI0];(try simp only[List.all_cons,Bool.not_true,Bool.not_false,Bool.and_true,Bool.true_and,Bool.and_false,Bool.false_and,Bool.or_true,Bool.true_or,Bool.or_false,Bool.false_or,if_true,if_false,reduceIte,Bool.false_eq_true,Bool.not_not,Bool.not_eq_true',beq_self_eq_true,List.all_cons,List.all_nil,List.any_cons,List.any_nil,List.length_map,bne,eq_self,Int.toNat_zero, *]);first |done |rfl)
  |(simp only[BB,Bool.not_true,Bool.not_false,Bool.and_true,Bool.true_and,Bool.and_false,Bool.false_and,Bool.or_true,Bool.true_or,Bool.or_false,Bool.false_or,if_true,if_false,reduceIte,Bool.false_eq_true,Bool.not_not,Bool.not_eq_true',beq_self_eq_true,List.all_cons,List.all_nil,List.any_cons,List.any_nil,List.length_map,bne,eq_self,Int.toNat_zero, *];done)
  |skip
theorem OU(l m:List Sm)  : PCall Tryz.prog 92 [.sl 8 (l.map Sm.cs),.sl 8 (m.map Sm.cs),.fn 87 []] (.ret (.b (BB smE l m))):=by
 refine ae tok hmix ⟨[],[]⟩ Tryz.func92 rfl (by kernel_rfl) (by kernel_rfl) (by kernel_rfl) λhf=>?_
 have hlen:l.length<=9223372036854775807:=by simpa using(hf (.sl 8 (l.map Sm.cs)) (by simp)).sl.1
 clear hf
 repeat' ((try(conv=>whnf))<;>first
  |with_reducible exact trivial
  |with_reducible exact au hd0 ‹_›
  |((with_reducible refine eu hd0 ?_ ?_);(assumption))
  |((with_reducible refine dI hd0 ?_ ?_);(assumption))
  |with_reducible refine BrI.intro (λh=>?_) (λh=>?_)
  |((with_reducible refine aA.mk 0 ?_);have hz:l.length=m.length:=(by simp at h;omega);have hk0:(l.zip m).length=(l.map Sm.cs).length:=(by rw[iQ hz,List.length_map]);have hlz:(l.zip m).length<=9223372036854775807:=(by rw[iQ hz];exact hlen);refine⟨aI (l.zip m) 17 (λ(_:Unit)=>[]) (λ(_:Unit)=>[]) [1,2,15,16] (λi0 r0 _=>BB smE l m=r0.all smE),?_⟩;with_reducible refine ag () ?_ ?_ (λi0 (_:Unit) hd0 hI0=>?_) (λi0 x0 r0 (_:Unit) hd0 hl0 hI0=>?_))
  |(with_reducible refine ah hd0 () ?_ ?_)
  |((with_reducible refine ak ?_ ?_ ?_);rotate_left;(exact Xb _ _))
  |((with_reducible refine aG ?_ ?_ ?_ ?_ ?_);exact rfl;exact rfl;rotate_left;(first |with_reducible exact kV hd0 |with_reducible exact kW hd0))
  |((with_reducible refine aN ?_ ?_);exact rfl)
  |((with_reducible refine ai ?_);refine⟨[],rfl,?_,trivial⟩;conv=>whnf)
  |(with_reducible refine And.intro ?_ ?_)
  |exact @rfl AV _
  |fail)
 all_goals(try simp only[Bool.cond_true_left,Bool.cond_false_right,Bool.cond_false_left,Bool.cond_true_right,Bool.not_eq_true',Bool.not_eq_false',bne,Ex.css_len,List.length_map,Int.toNat_zero]at *)
 all_goals first
  |(rw[hI0];(try simp only[List.all_cons,Bool.not_true,Bool.not_false,Bool.and_true,Bool.true_and,Bool.and_false,Bool.false_and,Bool.or_true,Bool.true_or,Bool.or_false,Bool.false_or,if_true,if_false,reduceIte,Bool.false_eq_true,Bool.not_not,Bool.not_eq_true',beq_self_eq_true,List.all_cons,List.all_nil,List.any_cons,List.any_nil,List.length_map,bne,eq_self,Int.toNat_zero, *]);first |done |rfl)
  |(simp only[BB,Bool.not_true,Bool.not_false,Bool.and_true,Bool.true_and,Bool.and_false,Bool.false_and,Bool.or_true,Bool.true_or,Bool.or_false,Bool.false_or,if_true,if_false,reduceIte,Bool.false_eq_true,Bool.not_not,Bool.not_eq_true',beq_self_eq_true,List.all_cons,List.all_nil,List.any_cons,List.any_nil,List.length_map,bne,eq_self,Int.toNat_zero, *];done)
  |skip
theorem jT(a b:Pr)  : PCall Tryz.prog 68 [a.d,b.d] (.ret (.b (qx a b))):=by
 refine ae tok hmix ⟨[],[]⟩ Tryz.func68 rfl (by kernel_rfl) (by kernel_rfl) (by kernel_rfl) λhf=>?_
 clear hf
 repeat' ((try(conv=>whnf))<;>first
  |((with_reducible refine ak ?_ ?_ ?_);rotate_left;(first |exact OM _ _ |exact OO _ _ |exact OT _ _ |exact OU _ _))
  |((with_reducible refine bu ?_ ?_ (λhg=>?_) ?_);exact rfl)
  |((with_reducible refine dB ?_ ?_);with_reducible exact rfl;with_reducible exact rfl)
  |((with_reducible refine ai ?_);refine⟨[],rfl,?_,trivial⟩;conv=>whnf)
  |fail)
 all_goals(try simp only[Bool.cond_true_left,Bool.cond_false_right,Bool.cond_false_left,Bool.cond_true_right,Bool.not_eq_true',Bool.not_eq_false',bne,Ex.css_len,List.length_map,Int.toNat_zero]at *)
 all_goals first
  |(simp only[qx,Ro,Bool.not_true,Bool.not_false,Bool.and_true,Bool.true_and,Bool.and_false,Bool.false_and,Bool.or_true,Bool.true_or,Bool.or_false,Bool.false_or,if_true,if_false,reduceIte,Bool.false_eq_true,Bool.not_not,Bool.not_eq_true',beq_self_eq_true,List.all_cons,List.all_nil,List.any_cons,List.any_nil,List.length_map,bne,eq_self,Int.toNat_zero, *];done)
  |skip
end Go.Proofs.YthpbakljheeabaaGreatDoor
namespace Go.Proofs.YthpbakljheeabaaGreatDoor
open Go.Fw Go.Fw.Rg Go.Fw.Nam
set_option maxRecDepth 10000
variable [af]
theorem Xc(p:Pr)(g:iY p)(he:((resolveC p).2 != 0)=true):PCall Tryz.prog 72 [p.d] (.ret (.tuple [.val (.pointer none),.i (resolveC p).2])):=by
 refine ae tok hmix ⟨[],[]⟩ Tryz.func72 rfl (by kernel_rfl) (by kernel_rfl) (by kernel_rfl) λhf=>?_
 clear hf
 repeat' ((try(conv=>whnf))<;>first
  |(exact Bool.noConfusion (show true=false from he.symm.trans h))
  |refine BrI.intro (λh=>?_) (λh=>?_)
  |((refine ak ?_ ?_ ?_);rotate_left;(exact jB p g.sm g.hn))
  |((refine ay ?_ ?_);kernel_rfl)
  |((refine ai ?_);refine⟨[],rfl,?_,trivial⟩;conv=>whnf)
  |fail)
 all_goals first
  |skip
theorem Xd(p:Pr)(g:iY p)(he:((resolveC p).2 != 0)=false)(hs:qx p (resolveC p).1=false):PCall Tryz.prog 72 [p.d] (.ret (.tuple [.val (.pointer none),.i 150])):=by
 refine ae tok hmix ⟨[],[]⟩ Tryz.func72 rfl (by kernel_rfl) (by kernel_rfl) (by kernel_rfl) λhf=>?_
 clear hf
 repeat' ((try(conv=>whnf))<;>first
  |(exact Bool.noConfusion (show false=true from he.symm.trans h))
  |(exact Bool.noConfusion (show true=false from(congrArg (!·) hs).symm.trans h))
  |refine BrI.intro (λh=>?_) (λh=>?_)
  |((refine ak ?_ ?_ ?_);rotate_left;(first |exact jT _ _ |exact jB p g.sm g.hn))
  |((refine ai ?_);refine⟨[],rfl,?_,trivial⟩;conv=>whnf)
  |fail)
 all_goals first
  |skip
theorem Xe(p:Pr)(FF:List Sp)(g:iY p)(he:(resolveC p).2=0)(hs:(resolveC p).1=p)(hR:Rng p)(hw:tK p 0 p.stmts=true)(hS:bK p p.stmts [] = .ok FF)(hF:gI p p.stmts []=FF):PCall Tryz.prog 72 [p.d] (.ret (.tuple [.ptr (fC p FF),.i 0])):=by
 refine ae tok hmix ⟨[],[]⟩ Tryz.func72 rfl (by kernel_rfl) (by kernel_rfl) (by kernel_rfl) λhf=>?_
 have hq:resolveC p=(p,0):=Prod.ext hs he
 have hc:=jB p g.sm g.hn
 rw[hq]at hc
 have hc2:=jT p p
 rw[(iD p p).2 rfl]at hc2
 clear hf
 repeat' ((try(conv=>whnf))<;>first
  |(exact Bool.noConfusion (show true=false from h.symm.trans (rfl:((0:Int) != 0)=false)))
  |(exact Bool.noConfusion (show false=true from(congrArg (!·) ((iD p p).2 rfl)).symm.trans h))
  |refine BrI.intro (λh=>?_) (λh=>?_)
  |((refine ak ?_ ?_ ?_);rotate_left;(first |exact jT _ _ |exact hc))
  |((refine lent_step' [(1000000,3),(1000001,19),(1000002,800001)] (z07 p FF hR g.hT g.hn g.hl hw hS hF) ?_ ?_ ?_ ?_);rotate_left 0;exact rfl;(exact⟨rfl,rfl,trivial⟩);exact rfl)
  |((refine ay ?_ ?_);kernel_rfl)
  |((refine ai ?_);refine⟨[],rfl,?_,trivial⟩;conv=>whnf)
  |(refine And.intro ?_ ?_)
  |fail)
 all_goals first
  |(rfl)
  |skip
theorem Ui(p:Pr)(FF:List Sp)(e:Int)(g:iY p)(he:(resolveC p).2=0)(hs:(resolveC p).1=p)(hR:Rng p)(hw:tK p 0 p.stmts=true)(hS:bK p p.stmts [] = .error e)(hF:gI p p.stmts []=FF):PCall Tryz.prog 72 [p.d] (.ret (.tuple [.ptr (fC p FF),.i e])):=by
 refine ae tok hmix ⟨[],[]⟩ Tryz.func72 rfl (by kernel_rfl) (by kernel_rfl) (by kernel_rfl) λhf=>?_
 have hq:resolveC p=(p,0):=Prod.ext hs he
 have hc:=jB p g.sm g.hn
 rw[hq]at hc
 have hc2:=jT p p
 rw[(iD p p).2 rfl]at hc2
 clear hf
 repeat' ((try(conv=>whnf))<;>first
  |(exact Bool.noConfusion (show true=false from h.symm.trans (rfl:((0:Int) != 0)=false)))
  |(exact Bool.noConfusion (show false=true from(congrArg (!·) ((iD p p).2 rfl)).symm.trans h))
  |refine BrI.intro (λh=>?_) (λh=>?_)
  |((refine ak ?_ ?_ ?_);rotate_left;(first |exact jT _ _ |exact hc))
  |((refine lent_step' [(1000000,3),(1000001,19),(1000002,800001)] (W9 p FF e hR g.hT g.hn g.hl hw hS hF) ?_ ?_ ?_ ?_);rotate_left 0;exact rfl;(exact⟨rfl,rfl,trivial⟩);exact rfl)
  |((refine ay ?_ ?_);kernel_rfl)
  |((refine ai ?_);refine⟨[],rfl,?_,trivial⟩;conv=>whnf)
  |(refine And.intro ?_ ?_)
  |fail)
 all_goals first
  |(rfl)
  |skip
theorem zI(p:Pr)(x:Ex)(most:Int)(hm0:0<=most)(hm:most<=512):PCall Tryz.prog 73 [p.d,x.d,.i most] (.ret (.tuple [.i (dR p x most).1,.b (dR p x most).2])):=by
 revert hm0 hm;revert most;revert x;refine Ex.ind λx ih most hm0 hm=>?_
 refine ae tok hmix ⟨[],[]⟩ Tryz.func73 rfl (by kernel_rfl) (by kernel_rfl) (by kernel_rfl) λhf=>?_
 have hlen:=Ex.fits (hf x.d (by simp));have hq:=Pr.fits (hf p.d (by simp))
 have ih2:∀y∈x.l,∀m c,c=m->0<=m->m<=512->PCall Tryz.prog 73 [p.d,y.d,.i c] (.ret (.tuple [.i (dR p y m).1,.b (dR p y m).2])):=λy hy m c hc h0 h1=>by subst hc;exact ih y hy c h0 h1
 clear hf
 repeat' ((try(conv=>whnf))<;>first
  |(exact Bool.noConfusion (show true=false from h))
  |(exact Bool.noConfusion (show false=true from h))
  |exact trivial
  |exact au hd1 ‹_›
  |refine jO hd1 ?_
  |refine gJ hd1 ?_
  |refine BrI.intro (λh=>?_) (λh=>?_)
  |((refine RN (l:=bU) ?_ (λnd hnd=>?_) (λhnd=>?_));exact rfl)
  |((refine VP (p:=p) ?_ (λmd hmd=>?_) (λhmd=>?_));exact rfl)
  |(exact(z3v ‹lkI x.kind (jQ p)=none› h).elim)
  |((refine kH Sm.none ?_ ?_ ?_ ?_ ?_);exact rfl;exact rfl;rotate_left 2)
  |((refine aA.mk 1 ?_);refine⟨aI (x.l) 109 (λ(q:(Int)×(Bool))=>match q with |(n,ok)=>[(6,.data (.val (.int .i64 n))),(7,.data (.val (.bool ok)))]) (λ(q:(Int)×(Bool))=>match q with |(n,ok)=>[]) [2,3,107,108] (λi1 r1 q=>match q with |(n,ok)=>dR p x most=iZ p r1 most n ok/\1<=n/\n<=most),?_⟩;refine ag (?_,?_) ?_ ?_ (λi1 ⟨n,ok⟩ hd1 hI1=>?_) (λi1 x1 r1 ⟨n,ok⟩ hd1 hl1 hI1=>?_))
  |(refine ah hd1 (?_,?_) ?_ ?_)
  |((refine ak ?_ ?_ ?_);rotate_left;(exact ih2 _ (bJ ‹_›) (most-n) _ (bH (by omega) (by omega)) (by omega) (by omega)))
  |((refine aG ?_ ?_ ?_ ?_ ?_);exact rfl;exact rfl;rotate_left;(exact dV hd1))
  |((refine aN ?_ ?_);exact rfl)
  |((refine ai ?_);refine⟨[],rfl,?_,trivial⟩;conv=>whnf)
  |(refine And.intro ?_ ?_)
  |exact @rfl AV _
  |fail)
 all_goals first
  |(rfl)
  |((exact Int.le_refl _))
  |((refine(z9p ‹lkI x.kind (jQ p)=some _› ‹(x.kind==5)=true› ?_).1;assumption))
  |((refine(z9p ‹lkI x.kind (jQ p)=some _› ‹(x.kind==5)=true› ?_).2;assumption))
  |((refine ZB (l:=x.l) (nd:=nd) ?_;assumption))
  |(((refine Oj ‹lkI x.kind bU=some _› ‹lkI x.kind (jQ p)=_› ?_ ?_ ?_);assumption;(first |exact rfl |(refine LK (b:=false) ?_;assumption));(first |exact z7y ‹_› |exact z7z ‹_› ‹_› |exact z8a ‹_› ‹_› ‹_› |exact z8b ‹_› ‹_› ‹_›)))
  |((rw[vk ‹lkI x.kind bU=none›]))
  |((rw[vw ‹lkI x.kind bU=some _› (ZA (b:=true) h)]))
  |((rw[VQ ‹lkI x.kind bU=some _› ‹lkI x.kind (jQ p)=_› ?_ (LK (b:=true) h)];assumption))
  |((obtain⟨hok,hfit⟩:=z7c h;have hr:=xy p x1 (most-n) (by omega);have h3:=hr.2.2 hfit;rw[bH (by omega) (by omega)];first |omega |(rw[hI1.1];exact uf h)))
  |((rw[hI1.1,ng h]))
  |((rw[hI1.1,iZ]))
  |skip
theorem check_any(p:Pr)(pd:D)(e:Int)(hw:PCall Tryz.prog 72 [p.d] (.ret (.tuple [pd,.i e]))):PCall Tryz.prog 69 [p.d] (.ret (.i e)):=by
 refine ae tok hmix ⟨[],[]⟩ Tryz.func69 rfl (by kernel_rfl) (by kernel_rfl) (by kernel_rfl) λhf=>?_
 clear hf
 repeat' ((try(conv=>whnf))<;>first
  |((refine ak ?_ ?_ ?_);rotate_left;(exact hw))
  |((refine ai ?_);refine⟨[],rfl,?_,trivial⟩;conv=>whnf)
  |fail)
 all_goals first
  |skip
theorem z08(p:Pr)(F:List Sp)(x:Ex)(s:Sp)(a b:Int)(hc:PCall Tryz.prog 76 [.ptr (fC p F),x.d] (.ret s.d)):LCall Tryz.prog 75 [.ptr 1000000 0,.ptr 1000001 0,.ptr 1000002 0,.ptr 1000003 0] [(1000000,.cells [.data (.ptr (fC p F))]),(1000001,.cells [.data (.i x.kind),.data (.str x.name),.data (.i x.index),.data (.i x.n),.data (.sl 5 (Ex.css x.l))]),(1000002,.cells [.data (.i a)]),(1000003,.cells [.data (.i b)])] (.ret (.data (.tuple []))) [(1000000,.cells [.data (.ptr (fC p F))]),(1000001,.cells [.data (.i x.kind),.data (.str x.name),.data (.i x.index),.data (.i x.n),.data (.sl 5 (Ex.css x.l))]),(1000002,.cells [.data (.i s.1)]),(1000003,.cells [.data (.i s.2)])]:=by
 refine ax tok hmix ⟨[],[]⟩ Tryz.func75 rfl (by kernel_rfl) (by kernel_rfl) (by kernel_rfl) λhf=>?_
 clear hf
 repeat' ((try(conv=>whnf))<;>first
  |exact trivial
  |((refine ak ?_ ?_ ?_);rotate_left;(exact hc))
  |((refine ai ?_);refine fin_step' [] rfl ?_ ?_)
  |((refine ay ?_ ?_);kernel_rfl)
  |(refine And.intro ?_ ?_)
  |fail)
 all_goals first
  |(rfl)
  |(decide)
  |skip
theorem Xf(p:Pr)(F:List Sp)(x:Ex)(e:Int)(a b:Int)(hc:PCall Tryz.prog 76 [.ptr (fC p F),x.d] (.pan (.iface 30 (.i e)))):LCall Tryz.prog 75 [.ptr 1000000 0,.ptr 1000001 0,.ptr 1000002 0,.ptr 1000003 0] [(1000000,.cells [.data (.ptr (fC p F))]),(1000001,.cells [.data (.i x.kind),.data (.str x.name),.data (.i x.index),.data (.i x.n),.data (.sl 5 (Ex.css x.l))]),(1000002,.cells [.data (.i a)]),(1000003,.cells [.data (.i b)])] (.pan (.data (.iface 30 (.i e)))) [(1000000,.cells [.data (.ptr (fC p F))]),(1000001,.cells [.data (.i x.kind),.data (.str x.name),.data (.i x.index),.data (.i x.n),.data (.sl 5 (Ex.css x.l))]),(1000002,.cells [.data (.i a)]),(1000003,.cells [.data (.i b)])]:=by
 refine ax tok hmix ⟨[],[]⟩ Tryz.func75 rfl (by kernel_rfl) (by kernel_rfl) (by kernel_rfl) λhf=>?_
 clear hf
 repeat' ((try(conv=>whnf))<;>first
  |exact trivial
  |((refine ak ?_ ?_ ?_);rotate_left;(exact hc))
  |((refine iR ?_);refine fin_step' [] rfl ?_ ?_)
  |(refine And.intro ?_ ?_)
  |fail)
 all_goals first
  |skip
theorem Xg(p:Pr)(F:List Sp)(x:Ex)(s:Sp)(hc:PCall Tryz.prog 76 [.ptr (fC p F),x.d] (.ret s.d)):LCall Tryz.prog 74 [.ptr 1000000 0,.fn 75 [.ptr 1000001 0,.ptr 1000002 0,.ptr 1000003 0,.ptr 1000004 0]] [(1000000,.cells [.data (.i 0)]),(1000001,.cells [.data (.ptr (fC p F))]),(1000002,.cells [.data (.i x.kind),.data (.str x.name),.data (.i x.index),.data (.i x.n),.data (.sl 5 (Ex.css x.l))]),(1000003,.cells [.data (.i 0)]),(1000004,.cells [.data (.i 0)])] (.ret (.data (.tuple []))) [(1000000,.cells [.data (.i 0)]),(1000001,.cells [.data (.ptr (fC p F))]),(1000002,.cells [.data (.i x.kind),.data (.str x.name),.data (.i x.index),.data (.i x.n),.data (.sl 5 (Ex.css x.l))]),(1000003,.cells [.data (.i s.1)]),(1000004,.cells [.data (.i s.2)])]:=by
 refine ax tok hmix ⟨[],[]⟩ Tryz.func74 rfl (by kernel_rfl) (by kernel_rfl) (by kernel_rfl) λhf=>?_
 clear hf
 repeat' ((try(conv=>whnf))<;>first
  |exact trivial
  |((refine⟨_,_,_,[(1000000,2),(1000001,1000000)],MO (.i 0),rfl,⟨rfl,rfl,trivial⟩,?_,?_⟩);kernel_rfl)
  |(refine⟨([(1000000,1000000),(1000001,1000001),(1000002,1000002),(1000003,1000003),(1000004,1000004)]:List (Nat×Nat)),rfl,?_,?_⟩)
  |((refine lent_step' [(1000000,1000001),(1000001,1000002),(1000002,1000003),(1000003,1000004)] (z08 p F x s 0 0 hc) ?_ ?_ ?_ ?_);rotate_left 0;exact rfl;(exact⟨rfl,rfl,rfl,rfl,trivial⟩);exact rfl)
  |(refine And.intro ?_ ?_)
  |fail)
 all_goals first
  |skip
theorem Uj(p:Pr)(F:List Sp)(x:Ex)(e:Int)(hc:PCall Tryz.prog 76 [.ptr (fC p F),x.d] (.pan (.iface 30 (.i e)))):LCall Tryz.prog 74 [.ptr 1000000 0,.fn 75 [.ptr 1000001 0,.ptr 1000002 0,.ptr 1000003 0,.ptr 1000004 0]] [(1000000,.cells [.data (.i 0)]),(1000001,.cells [.data (.ptr (fC p F))]),(1000002,.cells [.data (.i x.kind),.data (.str x.name),.data (.i x.index),.data (.i x.n),.data (.sl 5 (Ex.css x.l))]),(1000003,.cells [.data (.i 0)]),(1000004,.cells [.data (.i 0)])] (.ret (.data (.tuple []))) [(1000000,.cells [.data (.i e)]),(1000001,.cells [.data (.ptr (fC p F))]),(1000002,.cells [.data (.i x.kind),.data (.str x.name),.data (.i x.index),.data (.i x.n),.data (.sl 5 (Ex.css x.l))]),(1000003,.cells [.data (.i 0)]),(1000004,.cells [.data (.i 0)])]:=by
 refine ax tok hmix ⟨[],[]⟩ Tryz.func74 rfl (by kernel_rfl) (by kernel_rfl) (by kernel_rfl) λhf=>?_
 clear hf
 repeat' ((try(conv=>whnf))<;>first
  |exact trivial
  |((refine⟨_,_,_,[(1000000,2),(1000001,1000000)],G9 (.data (.i 0)) e,rfl,⟨rfl,rfl,trivial⟩,?_,?_⟩);kernel_rfl)
  |(refine⟨([(1000000,1000000),(1000001,1000001),(1000002,1000002),(1000003,1000003),(1000004,1000004)]:List (Nat×Nat)),rfl,?_,?_⟩)
  |((refine lent_step' [(1000000,1000001),(1000001,1000002),(1000002,1000003),(1000003,1000004)] (Xf p F x e 0 0 hc) ?_ ?_ ?_ ?_);rotate_left 0;exact rfl;(exact⟨rfl,rfl,rfl,rfl,trivial⟩);exact rfl)
  |(refine And.intro ?_ ?_)
  |fail)
 all_goals first
  |skip
theorem z09(p:Pr)(x:Ex)(e:Int)(hw:PCall Tryz.prog 72 [p.d] (.ret (.tuple [.val (.pointer none),.i e])))(he:(e != 0)=true):PCall Tryz.prog 55 [p.d,x.d] (.ret (.tuple [.i 0,.i 0,.i e])):=by
 refine ae tok hmix ⟨[],[]⟩ Tryz.func55 rfl (by kernel_rfl) (by kernel_rfl) (by kernel_rfl) λhf=>?_
 clear hf
 repeat' ((try(conv=>whnf))<;>first
  |(exact Bool.noConfusion (show true=false from he.symm.trans h))
  |refine BrI.intro (λh=>?_) (λh=>?_)
  |((refine ak ?_ ?_ ?_);rotate_left;(exact hw))
  |((refine ay ?_ ?_);kernel_rfl)
  |((refine ai ?_);refine⟨[],rfl,?_,trivial⟩;conv=>whnf)
  |fail)
 all_goals first
  |skip
theorem z1a(p:Pr)(x:Ex)(F:List Sp)(e:Int)(hw:PCall Tryz.prog 72 [p.d] (.ret (.tuple [.ptr (fC p F),.i e])))(he:(e != 0)=true):PCall Tryz.prog 55 [p.d,x.d] (.ret (.tuple [.i 0,.i 0,.i e])):=by
 refine ae tok hmix ⟨[],[]⟩ Tryz.func55 rfl (by kernel_rfl) (by kernel_rfl) (by kernel_rfl) λhf=>?_
 clear hf
 repeat' ((try(conv=>whnf))<;>first
  |(exact Bool.noConfusion (show true=false from he.symm.trans h))
  |refine BrI.intro (λh=>?_) (λh=>?_)
  |((refine ak ?_ ?_ ?_);rotate_left;(exact hw))
  |((refine ay ?_ ?_);kernel_rfl)
  |((refine ai ?_);refine⟨[],rfl,?_,trivial⟩;conv=>whnf)
  |fail)
 all_goals first
  |skip
theorem Xh(p:Pr)(x:Ex)(F:List Sp)(hw:PCall Tryz.prog 72 [p.d] (.ret (.tuple [.ptr (fC p F),.i 0])))(hx:(dR p x 512).2=false):PCall Tryz.prog 55 [p.d,x.d] (.ret (.tuple [.i 0,.i 0,.i 150])):=by
 refine ae tok hmix ⟨[],[]⟩ Tryz.func55 rfl (by kernel_rfl) (by kernel_rfl) (by kernel_rfl) λhf=>?_
 clear hf
 repeat' ((try(conv=>whnf))<;>first
  |(exact Bool.noConfusion (show false=true from h))
  |(exact Bool.noConfusion (show true=false from(congrArg (!·) hx).symm.trans h))
  |refine BrI.intro (λh=>?_) (λh=>?_)
  |((refine ak ?_ ?_ ?_);rotate_left;(first |exact hw |exact zI p x 512 (by decide) (by decide)))
  |((refine ai ?_);refine⟨[],rfl,?_,trivial⟩;conv=>whnf)
  |fail)
 all_goals first
  |skip
theorem z6c(p:Pr)(x:Ex)(F:List Sp)(s:Sp)(hw:PCall Tryz.prog 72 [p.d] (.ret (.tuple [.ptr (fC p F),.i 0])))(hx:(dR p x 512).2=true)(hc:PCall Tryz.prog 76 [.ptr (fC p F),x.d] (.ret s.d)):PCall Tryz.prog 55 [p.d,x.d] (.ret (.tuple [.i s.1,.i s.2,.i 0])):=by
 refine ae tok hmix ⟨[],[]⟩ Tryz.func55 rfl (by kernel_rfl) (by kernel_rfl) (by kernel_rfl) λhf=>?_
 clear hf
 repeat' ((try(conv=>whnf))<;>first
  |(exact Bool.noConfusion (show false=true from h))
  |(exact Bool.noConfusion (show false=true from(congrArg (!·) hx).symm.trans h))
  |refine BrI.intro (λh=>?_) (λh=>?_)
  |((refine ak ?_ ?_ ?_);rotate_left;(first |exact hw |exact zI p x 512 (by decide) (by decide)))
  |((refine lent_step' [(1000000,6),(1000001,7),(1000002,3),(1000003,4),(1000004,5)] (Xg p F x s hc) ?_ ?_ ?_ ?_);rotate_left 0;exact rfl;(exact⟨rfl,rfl,rfl,rfl,rfl,trivial⟩);exact rfl)
  |((refine ay ?_ ?_);kernel_rfl)
  |((refine ai ?_);refine⟨[],rfl,?_,trivial⟩;conv=>whnf)
  |fail)
 all_goals first
  |skip
theorem z1b(p:Pr)(x:Ex)(F:List Sp)(e:Int)(hw:PCall Tryz.prog 72 [p.d] (.ret (.tuple [.ptr (fC p F),.i 0])))(hx:(dR p x 512).2=true)(hc:PCall Tryz.prog 76 [.ptr (fC p F),x.d] (.pan (.iface 30 (.i e)))):PCall Tryz.prog 55 [p.d,x.d] (.ret (.tuple [.i 0,.i 0,.i e])):=by
 refine ae tok hmix ⟨[],[]⟩ Tryz.func55 rfl (by kernel_rfl) (by kernel_rfl) (by kernel_rfl) λhf=>?_
 clear hf
 repeat' ((try(conv=>whnf))<;>first
  |(exact Bool.noConfusion (show false=true from h))
  |(exact Bool.noConfusion (show false=true from(congrArg (!·) hx).symm.trans h))
  |refine BrI.intro (λh=>?_) (λh=>?_)
  |((refine ak ?_ ?_ ?_);rotate_left;(first |exact hw |exact zI p x 512 (by decide) (by decide)))
  |((refine lent_step' [(1000000,6),(1000001,7),(1000002,3),(1000003,4),(1000004,5)] (Uj p F x e hc) ?_ ?_ ?_ ?_);rotate_left 0;exact rfl;(exact⟨rfl,rfl,rfl,rfl,rfl,trivial⟩);exact rfl)
  |((refine ay ?_ ?_);kernel_rfl)
  |((refine ai ?_);refine⟨[],rfl,?_,trivial⟩;conv=>whnf)
  |fail)
 all_goals first
  |skip
end Go.Proofs.YthpbakljheeabaaGreatDoor
