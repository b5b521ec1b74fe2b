/- Contracts: package ranges: numbers. -/
import Derived.Test.YthpbakljheeabaaGreatDoorZSA
import Derived.Test.YthpbakljheeabaaGreatDoorZRB
set_option linter.unusedSectionVars false
set_option linter.unusedSimpArgs false
set_option linter.unusedVariables false
set_option maxHeartbeats 4000000
namespace Go.Proofs.YthpbakljheeabaaGreatDoor
open Go.Fw Go.Fw.Rg
set_option maxRecDepth 10000
variable [ah]
theorem U0(x:Int)  : PCall Tryz.prog 114 [.i x] (.ret (.i (qw x))):=by
 refine aJ Tryz.func114 ?_
 repeat' ((try(conv=>whnf))<;>first
  |refine BrI.intro (λh=>?_) (λh=>?_)
  |(refine fA ?_;conv=>whnf)
  |fail)
 all_goals first
  |((refine congrArg D.i ?_;unfold qw;simp only[decide_eq_true_eq,decide_eq_false_iff_not]at *;(repeat' split)<;>omega))
  |skip
theorem Il(a n:Int)(ha:inW a=true)(hn:1<=n)(hn2:n<=2147483648):PCall Tryz.prog 125 [.i a,.i n] (.ret (.i (o9 a n))):=by
 refine aJ Tryz.func125 ?_
 repeat' ((try(conv=>whnf))<;>first
  |refine BrI.intro (λh=>?_) (λh=>?_)
  |(refine fA ?_;conv=>whnf)
  |(refine And.intro ?_ ?_)
  |fail)
 all_goals first
  |(omega)
  |((exact congrArg D.i (Wp hn hn2 ha (of_decide_eq_true h))))
  |((exact congrArg D.i (Wq hn ha (of_decide_eq_false h))))
  |skip
theorem Nu(a b:Int)(hc:z8c a b=false)(hw:IntKind.i64.wrap (a+b)=a+b):PCall Tryz.prog 120 [.i a,.i b] (.ret (.i (a+b))):=by
 refine aJ Tryz.func120 ?_
 repeat' ((try(conv=>whnf))<;>first
  |refine BrI.intro (λh=>?_) (λh=>?_)
  |(exact Bool.noConfusion (hc.symm.trans h))
  |(refine fA ?_;conv=>whnf)
  |fail)
 all_goals first
  |((exact congrArg D.i hw))
  |skip
theorem add_bad(a b:Int)(hc:z8c a b=true):PCall Tryz.prog 120 [.i a,.i b] (.pan (.iface 30 (.i 160))):=by
 refine aJ Tryz.func120 ?_
 repeat' ((try(conv=>whnf))<;>first
  |refine BrI.intro (λh=>?_) (λh=>?_)
  |(exact Bool.noConfusion (hc.symm.trans h))
  |((refine xQ ?_);refine⟨[],rfl,?_,trivial⟩;conv=>whnf)
  |fail)
 all_goals first
  |skip
theorem z18(n:Int)(f:Bool)(hc:OU n f=false):PCall Tryz.prog 129 [.i n,.b f] (.ret (.i n)):=by
 refine aJ Tryz.func129 ?_
 repeat' ((try(conv=>whnf))<;>first
  |refine BrI.intro (λh=>?_) (λh=>?_)
  |(exact Bool.noConfusion (hc.symm.trans h))
  |(refine fA ?_;conv=>whnf)
  |fail)
 all_goals first
  |skip
theorem XJ(n:Int)(f:Bool)(hc:OU n f=true):PCall Tryz.prog 129 [.i n,.b f] (.pan (.iface 30 (.i 160))):=by
 refine aJ Tryz.func129 ?_
 repeat' ((try(conv=>whnf))<;>first
  |refine BrI.intro (λh=>?_) (λh=>?_)
  |(exact Bool.noConfusion (hc.symm.trans h))
  |((refine xQ ?_);refine⟨[],rfl,?_,trivial⟩;conv=>whnf)
  |fail)
 all_goals first
  |skip
theorem mul_zero(a b:Int)(hz:Yn a b=true):PCall Tryz.prog 123 [.i a,.i b] (.ret (.i 0)):=by
 refine aJ Tryz.func123 ?_
 repeat' ((try(conv=>whnf))<;>first
  |refine BrI.intro (λh=>?_) (λh=>?_)
  |(exact Bool.noConfusion (hz.symm.trans h))
  |(refine fA ?_;conv=>whnf)
  |fail)
 all_goals first
  |skip
theorem z7c(a b:Int)(hz:Yn a b=false)(hb:b≠0)(hq:mm2 true b (IntKind.i64.wrap (0-b))≠0)(hw:OU (IntKind.i64.wrap (a * b)) (z4l a b)=false):PCall Tryz.prog 123 [.i a,.i b] (.ret (.i (IntKind.i64.wrap (a * b)))):=by
 refine aJ Tryz.func123 ?_
 repeat' ((try(conv=>whnf))<;>first
  |refine BrI.intro (λh=>?_) (λh=>?_)
  |(exact Bool.noConfusion (hz.symm.trans h))
  |((refine ai ?_ ?_ ?_);rotate_left;(exact z18 _ _ hw))
  |((refine bD ?_ ?_ (λhg=>?_) ?_);exact rfl)
  |((refine dK ?_ ?_);exact rfl;exact rfl)
  |((refine fZ ?_ ?_);exact rfl)
  |(refine fA ?_;conv=>whnf)
  |(refine And.intro ?_ ?_)
  |fail)
 all_goals first
  |((exact hb))
  |((exact hq))
  |skip
theorem z19(a b:Int)(hz:Yn a b=false)(hb:b≠0)(hq:mm2 true b (IntKind.i64.wrap (0-b))≠0)(hw:OU (IntKind.i64.wrap (a * b)) (z4l a b)=true):PCall Tryz.prog 123 [.i a,.i b] (.pan (.iface 30 (.i 160))):=by
 refine aJ Tryz.func123 ?_
 repeat' ((try(conv=>whnf))<;>first
  |refine BrI.intro (λh=>?_) (λh=>?_)
  |(exact Bool.noConfusion (hz.symm.trans h))
  |((refine ai ?_ ?_ ?_);rotate_left;(exact XJ _ _ hw))
  |((refine bD ?_ ?_ (λhg=>?_) ?_);exact rfl)
  |((refine dK ?_ ?_);exact rfl;exact rfl)
  |((refine xQ ?_);refine⟨[],rfl,?_,trivial⟩;conv=>whnf)
  |(refine And.intro ?_ ?_)
  |fail)
 all_goals first
  |((exact hb))
  |((exact hq))
  |skip
abbrev fC(p:Pr)(found:List Sp):List D:=[.str p.name,.i p.latency,.i p.tail,.sl 3 (p.params.map Bd.cs),.sl 3 (p.states.map Bd.cs),.sl 4 (p.lines.map Ln.cs),.sl 2 (p.tables.map Tb.cs),.sl 8 (p.stmts.map Sm.cs),.sl 2 (found.map Sp.cs)]
theorem uN(a b c:Int)(hc:c=b)(ha:inW a=true)(hb:inW b=true):PCall Tryz.prog 120 [.i a,.i c] (z8d 30 (okW (a+b))):=by
 subst hc
 unfold okW
 cases hw:inW (a+c)with
 |true=>exact Nu a c (by rw[RY ha hb,hw];rfl) (nN hw)
 |false=>exact add_bad a c (by rw[RY ha hb,hw];rfl)
theorem uO(a b:Int)(ha:inW a=true)(hb:inW b=true):PCall Tryz.prog 123 [.i a,.i b] (z8d 30 (okW (a * b))):=by
 cases hz:Yn a b with
 |true=>rw[ZY hz];exact mul_zero a b hz
 |false=>
  have hb0:=ZZ hz
  have hq:mm2 true b (IntKind.i64.wrap (0-b))≠0:=by rw[iq hb,Jv];omega
  unfold okW
  cases hw:inW (a * b)with
  |true=>
   have:=z7c a b hz hb0 hq (by rw[MG ha hb hb0,hw];rfl)
   rw[nN hw]at this;exact this
  |false=>exact z19 a b hz hb0 hq (by rw[MG ha hb hb0,hw];rfl)
theorem op1(p:Pr)(found:List Sp)(x:Ex)  : PCall Tryz.prog 106 [.ptr (fC p found),x.d,.sl 2 []] (.ret (Sp.d (x.n,x.n))):=by
 refine aJ Tryz.func106 ?_
 repeat' ((try(conv=>whnf))<;>first
  |(refine fA ?_;conv=>whnf)
  |fail)
 all_goals first
  |skip
theorem op3(p:Pr)(found:List Sp)(x:Ex)(h0:0<=x.index)(h1:x.index<p.params.length):PCall Tryz.prog 107 [.ptr (fC p found),x.d,.sl 2 []] (.ret (Sp.d ((jS p x.index).lo,(jS p x.index).hi))):=by
 refine aJ Tryz.func107 ?_
 repeat' ((try(conv=>whnf))<;>first
  |((refine kT Rg.Bd.none ?_ ?_ h0 h1 ?_);exact rfl;exact rfl)
  |((refine ak ?_ ?_);kernel_rfl)
  |(refine fA ?_;conv=>whnf)
  |fail)
 all_goals first
  |skip
theorem op4(p:Pr)(found:List Sp)(x:Ex)(h0:0<=x.index)(h1:x.index<p.states.length):PCall Tryz.prog 108 [.ptr (fC p found),x.d,.sl 2 []] (.ret (Sp.d ((bU p x.index).lo,(bU p x.index).hi))):=by
 refine aJ Tryz.func108 ?_
 repeat' ((try(conv=>whnf))<;>first
  |((refine kT Rg.Bd.none ?_ ?_ h0 h1 ?_);exact rfl;exact rfl)
  |((refine ak ?_ ?_);kernel_rfl)
  |(refine fA ?_;conv=>whnf)
  |fail)
 all_goals first
  |skip
theorem op5(p:Pr)(found:List Sp)(x:Ex)(h0:0<=x.index)(h1:x.index<found.length):PCall Tryz.prog 109 [.ptr (fC p found),x.d,.sl 2 []] (.ret (Sp.d (found.getD x.index.toNat (0,0)))):=by
 refine aJ Tryz.func109 ?_
 repeat' ((try(conv=>whnf))<;>first
  |((refine kT ((0,0):Sp) ?_ ?_ h0 h1 ?_);exact rfl;exact rfl)
  |((refine aK ?_ ?_);exact rfl)
  |((refine ak ?_ ?_);kernel_rfl)
  |(refine fA ?_;conv=>whnf)
  |fail)
 all_goals first
  |skip
theorem YY(p:Pr)(found:List Sp)(x:Ex)(a:Sp)(hc:(decide (a.1<0) || decide (a.2>4096))=false):PCall Tryz.prog 110 [.ptr (fC p found),x.d,.sl 2 [[.i a.1,.i a.2]]] (.ret (Sp.d (-2147483648,2147483647))):=by
 refine aJ Tryz.func110 ?_
 repeat' ((try(conv=>whnf))<;>first
  |refine BrI.intro (λh=>?_) (λh=>?_)
  |(exact Bool.noConfusion (hc.symm.trans ((Gu _ _).symm.trans h)))
  |((refine jT ?_ ?_ ?_ ?_);exact rfl;exact rfl;exact rfl)
  |((refine aK ?_ ?_);exact rfl)
  |((refine bD ?_ ?_ (λhg=>?_) ?_);exact rfl)
  |((refine dK ?_ ?_);exact rfl;exact rfl)
  |(refine fA ?_;conv=>whnf)
  |(refine And.intro ?_ ?_)
  |fail)
 all_goals first
  |(decide)
  |skip
theorem U1(p:Pr)(found:List Sp)(x:Ex)(a:Sp)(hc:(decide (a.1<0) || decide (a.2>4096))=true):PCall Tryz.prog 110 [.ptr (fC p found),x.d,.sl 2 [[.i a.1,.i a.2]]] (.pan (.iface 30 (.i 161))):=by
 refine aJ Tryz.func110 ?_
 repeat' ((try(conv=>whnf))<;>first
  |refine BrI.intro (λh=>?_) (λh=>?_)
  |(exact Bool.noConfusion (hc.symm.trans ((Gu _ _).symm.trans h)))
  |((refine jT ?_ ?_ ?_ ?_);exact rfl;exact rfl;exact rfl)
  |((refine bD ?_ ?_ (λhg=>?_) ?_);exact rfl)
  |((refine dK ?_ ?_);exact rfl;exact rfl)
  |((refine xQ ?_);refine⟨[],rfl,?_,trivial⟩;conv=>whnf)
  |(refine And.intro ?_ ?_)
  |fail)
 all_goals first
  |(decide)
  |skip
theorem op8(p:Pr)(found:List Sp)(x:Ex)(a:Sp)(h0:0<=x.index)(h1:x.index<p.lines.length):PCall Tryz.prog 111 [.ptr (fC p found),x.d,.sl 2 [[.i a.1,.i a.2]]] (.ret (Sp.d (mm2 false (cu p x.index).lo 0,mm2 true (cu p x.index).hi 0))):=by
 refine aJ Tryz.func111 ?_
 repeat' ((try(conv=>whnf))<;>first
  |((refine kT Rg.Ln.none ?_ ?_ h0 h1 ?_);exact rfl;exact rfl)
  |((refine ak ?_ ?_);kernel_rfl)
  |(refine fA ?_;conv=>whnf)
  |fail)
 all_goals first
  |skip
theorem op9(p:Pr)(found:List Sp)(x:Ex)(a:Sp)(h0:0<=x.index)(h1:x.index<p.tables.length)(hv:0<(aO p x.index).length)(hvl:(aO p x.index).length<=1073741824):PCall Tryz.prog 112 [.ptr (fC p found),x.d,.sl 2 [[.i a.1,.i a.2]]] (.ret (Sp.d (minL ((aO p x.index).getD 0 0) (aO p x.index),maxL ((aO p x.index).getD 0 0) (aO p x.index)))):=by
 refine dA Tryz.func112 λhf=>?_
 have hlen:(aO p x.index).length<=9223372036854775807:=by omega
 clear hf
 repeat' ((try(conv=>whnf))<;>first
  |exact trivial
  |exact aj hd0 ‹_›
  |refine bu hd0 ?_
  |refine aN hd0 ?_
  |((refine kT Rg.Tb.none ?_ ?_ h0 h1 ?_);exact rfl;exact rfl)
  |((refine kT (f:=eU) (n:=0) (0:Int) ?_ ?_ ?_ ?_ ?_);exact rfl;exact rfl;exact Int.le_refl _;exact Int.ofNat_lt.2 hv)
  |((refine au.mk 0 ?_);refine⟨aF ((aO p x.index)) 30 (λ(q:(Int)×(Int))=>match q with |(lo,hi)=>[]) (λ(q:(Int)×(Int))=>match q with |(lo,hi)=>[(8,.cells [.data (.i lo),.data (.i hi)])]) [6,8,28,29] (λi0 r0 q=>match q with |(lo,hi)=>minL ((aO p x.index).getD 0 0) (aO p x.index)=minL lo r0/\maxL ((aO p x.index).getD 0 0) (aO p x.index)=maxL hi r0),?_⟩;refine af (((aO p x.index).getD 0 0),((aO p x.index).getD 0 0)) ?_ ?_ (λi0 ⟨lo,hi⟩ hd0 hI0=>?_) (λi0 x0 r0 ⟨lo,hi⟩ hd0 hl0 hI0=>?_))
  |(refine ag hd0 ((mm2 false lo x0),(mm2 true hi x0)) ?_ ?_)
  |((refine ay ?_ ?_ ?_ ?_ ?_);exact rfl;exact rfl;rotate_left;(exact ax hd0))
  |((refine ak ?_ ?_);kernel_rfl)
  |(refine fA ?_;conv=>whnf)
  |(refine And.intro ?_ ?_)
  |exact @rfl AV _
  |fail)
 all_goals first
  |(rfl)
  |(decide)
  |((exact hI0.1))
  |((exact hI0.2))
  |((rw[hI0.1,hI0.2];rfl))
  |skip
theorem zaf(p:Pr)(found:List Sp)(x:Ex)(a:Sp)  : PCall Tryz.prog 113 [.ptr (fC p found),x.d,.sl 2 [[.i a.1,.i a.2]]] (.ret (Sp.d (qw a.1,qw a.2))):=by
 refine aJ Tryz.func113 ?_
 repeat' ((try(conv=>whnf))<;>first
  |((refine jT ?_ ?_ ?_ ?_);exact rfl;exact rfl;exact rfl)
  |((refine ai ?_ ?_ ?_);rotate_left;(exact U0 _))
  |((refine ak ?_ ?_);kernel_rfl)
  |(refine fA ?_;conv=>whnf)
  |(refine And.intro ?_ ?_)
  |fail)
 all_goals first
  |(decide)
  |skip
theorem zah(p:Pr)(found:List Sp)(x:Ex)(a b:Sp)  : PCall Tryz.prog 115 [.ptr (fC p found),x.d,.sl 2 [[.i a.1,.i a.2],[.i b.1,.i b.2]]] (.ret (Sp.d (mm2 false a.1 b.1,mm2 false a.2 b.2))):=by
 refine aJ Tryz.func115 ?_
 repeat' ((try(conv=>whnf))<;>first
  |((refine jT ?_ ?_ ?_ ?_);exact rfl;exact rfl;exact rfl)
  |((refine ak ?_ ?_);kernel_rfl)
  |(refine fA ?_;conv=>whnf)
  |(refine And.intro ?_ ?_)
  |fail)
 all_goals first
  |(decide)
  |skip
theorem zai(p:Pr)(found:List Sp)(x:Ex)(a b:Sp)  : PCall Tryz.prog 116 [.ptr (fC p found),x.d,.sl 2 [[.i a.1,.i a.2],[.i b.1,.i b.2]]] (.ret (Sp.d (mm2 true a.1 b.1,mm2 true a.2 b.2))):=by
 refine aJ Tryz.func116 ?_
 repeat' ((try(conv=>whnf))<;>first
  |((refine jT ?_ ?_ ?_ ?_);exact rfl;exact rfl;exact rfl)
  |((refine ak ?_ ?_);kernel_rfl)
  |(refine fA ?_;conv=>whnf)
  |(refine And.intro ?_ ?_)
  |fail)
 all_goals first
  |(decide)
  |skip
theorem zaj(p:Pr)(found:List Sp)(x:Ex)(a:Sp)(ha:inW a.1=true)(hb:inW a.2=true):PCall Tryz.prog 117 [.ptr (fC p found),x.d,.sl 2 [[.i a.1,.i a.2]]] (.ret (Sp.d (RX a))):=by
 refine aJ Tryz.func117 ?_
 repeat' ((try(conv=>whnf))<;>first
  |refine BrI.intro (λh=>?_) (λh=>?_)
  |((refine jT ?_ ?_ ?_ ?_);exact rfl;exact rfl;exact rfl)
  |((refine aK ?_ ?_);exact rfl)
  |((refine ak ?_ ?_);kernel_rfl)
  |(refine fA ?_;conv=>whnf)
  |(refine And.intro ?_ ?_)
  |fail)
 all_goals first
  |(decide)
  |((refine congrArg Sp.d ?_;unfold RX;rw[if_pos (of_decide_eq_true h)];done))
  |((unfold RX;rw[if_neg (of_decide_eq_false ‹decide (a.1>=0)=false›),if_pos (of_decide_eq_true h),iq ha,iq hb];done))
  |((unfold RX;rw[if_neg (of_decide_eq_false ‹decide (a.1>=0)=false›),if_neg (of_decide_eq_false h),iq ha];done))
  |skip
theorem zak(p:Pr)(found:List Sp)(x:Ex)(a:Sp)(ha:inW a.1=true)(hb:inW a.2=true):PCall Tryz.prog 118 [.ptr (fC p found),x.d,.sl 2 [[.i a.1,.i a.2]]] (.ret (Sp.d (-a.2,-a.1))):=by
 refine aJ Tryz.func118 ?_
 repeat' ((try(conv=>whnf))<;>first
  |((refine jT ?_ ?_ ?_ ?_);exact rfl;exact rfl;exact rfl)
  |((refine ak ?_ ?_);kernel_rfl)
  |(refine fA ?_;conv=>whnf)
  |(refine And.intro ?_ ?_)
  |fail)
 all_goals first
  |(decide)
  |((rw[iq ha,iq hb];done))
  |skip
theorem zal(p:Pr)(found:List Sp)(x:Ex)(a b:Sp)(ha:inW a.1=true/\inW a.2=true)(hb:inW b.1=true/\inW b.2=true):PCall Tryz.prog 119 [.ptr (fC p found),x.d,.sl 2 [[.i a.1,.i a.2],[.i b.1,.i b.2]]] (Sj 30 (two (a.1+b.1) (a.2+b.2))):=by
 refine aJ Tryz.func119 ?_
 repeat' ((try(conv=>whnf))<;>first
  |((refine gW _ _ _ [false,false,false,false,false,false,false,false,true,true,true] ?_ ?_ ?_);exact rfl;kernel_rfl)
  |((refine gW _ _ _ [true,true] ?_ ?_ ?_);exact rfl;kernel_rfl)
  |((refine quiet_step ?_ ?_);kernel_rfl)
  |(refine jL (uN a.1 b.1 _ rfl ha.1 hb.1) (λn1 q1=>?_) (λe1 q1=>?_))
  |(refine jL (uN a.2 b.2 _ rfl ha.2 hb.2) (λn2 q2=>?_) (λe2 q2=>?_))
  |((refine D7 (n1,n2) (Yo q1 q2) ?_);refine⟨[],rfl,?_,trivial⟩;conv=>whnf)
  |((refine mf e1 (Yp q1) ?_);refine⟨[],rfl,?_,trivial⟩;conv=>whnf)
  |((refine mf e2 (Yq q2) ?_);refine⟨[],rfl,?_,trivial⟩;conv=>whnf)
  |((refine jT ?_ ?_ ?_ ?_);exact rfl;exact rfl;exact rfl)
  |((refine ak ?_ ?_);kernel_rfl)
  |((refine kR ?_ ?_);kernel_rfl)
  |(refine And.intro ?_ ?_)
  |fail)
 all_goals first
  |(decide)
  |skip
theorem zam(p:Pr)(found:List Sp)(x:Ex)(a b:Sp)(ha:inW a.1=true/\inW a.2=true)(hb:inW b.1=true/\inW b.2=true):PCall Tryz.prog 121 [.ptr (fC p found),x.d,.sl 2 [[.i a.1,.i a.2],[.i b.1,.i b.2]]] (Sj 30 (two (a.1 + -b.2) (a.2 + -b.1))):=by
 refine aJ Tryz.func121 ?_
 repeat' ((try(conv=>whnf))<;>first
  |((refine gW _ _ _ [false,false,false,false,false,false,false,false,false,true,true,true] ?_ ?_ ?_);exact rfl;kernel_rfl)
  |((refine gW _ _ _ [true,true] ?_ ?_ ?_);exact rfl;kernel_rfl)
  |((refine quiet_step ?_ ?_);kernel_rfl)
  |(refine jL (uN a.1 (-b.2) _ (iq hb.2) ha.1 (uo hb.2)) (λn1 q1=>?_) (λe1 q1=>?_))
  |(refine jL (uN a.2 (-b.1) _ (iq hb.1) ha.2 (uo hb.1)) (λn2 q2=>?_) (λe2 q2=>?_))
  |((refine D7 (n1,n2) (Yo q1 q2) ?_);refine⟨[],rfl,?_,trivial⟩;conv=>whnf)
  |((refine mf e1 (Yp q1) ?_);refine⟨[],rfl,?_,trivial⟩;conv=>whnf)
  |((refine mf e2 (Yq q2) ?_);refine⟨[],rfl,?_,trivial⟩;conv=>whnf)
  |((refine jT ?_ ?_ ?_ ?_);exact rfl;exact rfl;exact rfl)
  |((refine ak ?_ ?_);kernel_rfl)
  |((refine kR ?_ ?_);kernel_rfl)
  |(refine And.intro ?_ ?_)
  |fail)
 all_goals first
  |(decide)
  |skip
theorem zan(p:Pr)(found:List Sp)(x:Ex)(a b:Sp)(ha:inW a.1=true/\inW a.2=true)(hb:inW b.1=true/\inW b.2=true):PCall Tryz.prog 122 [.ptr (fC p found),x.d,.sl 2 [[.i a.1,.i a.2],[.i b.1,.i b.2]]] (Sj 30 (prodM a b)):=by
 refine aJ Tryz.func122 ?_
 repeat' ((try(conv=>whnf))<;>first
  |((refine gW _ _ _ [false,false,false,false,false,false,false,false,true,false,false,false,false,false,false,false,false,true,false,false,false,false,false,false,false,false,true,true,true,true,true] ?_ ?_ ?_);exact rfl;kernel_rfl)
  |((refine gW _ _ _ [false,false,false,false,false,false,false,false,true,false,false,false,false,false,false,false,false,true,true,true,true,true] ?_ ?_ ?_);exact rfl;kernel_rfl)
  |((refine gW _ _ _ [false,false,false,false,false,false,false,false,true,true,true,true,true] ?_ ?_ ?_);exact rfl;kernel_rfl)
  |((refine gW _ _ _ [true,true,true,true] ?_ ?_ ?_);exact rfl;kernel_rfl)
  |((refine quiet_step ?_ ?_);kernel_rfl)
  |(refine jL (uO a.1 b.1 ha.1 hb.1) (λn1 q1=>?_) (λe1 q1=>?_))
  |(refine jL (uO a.1 b.2 ha.1 hb.2) (λn2 q2=>?_) (λe2 q2=>?_))
  |(refine jL (uO a.2 b.1 ha.2 hb.1) (λn3 q3=>?_) (λe3 q3=>?_))
  |(refine jL (uO a.2 b.2 ha.2 hb.2) (λn4 q4=>?_) (λe4 q4=>?_))
  |((refine D7 (MB n1 n2 n3 n4,MC n1 n2 n3 n4) (Z4 q1 q2 q3 q4) ?_);refine⟨[],rfl,?_,trivial⟩;conv=>whnf)
  |((refine mf e1 (xU (.inl q1)) ?_);refine⟨[],rfl,?_,trivial⟩;conv=>whnf)
  |((refine mf e2 (xU (.inr (.inl q2))) ?_);refine⟨[],rfl,?_,trivial⟩;conv=>whnf)
  |((refine mf e3 (xU (.inr (.inr (.inl q3)))) ?_);refine⟨[],rfl,?_,trivial⟩;conv=>whnf)
  |((refine mf e4 (xU (.inr (.inr (.inr q4)))) ?_);refine⟨[],rfl,?_,trivial⟩;conv=>whnf)
  |((refine jT ?_ ?_ ?_ ?_);exact rfl;exact rfl;exact rfl)
  |((refine ak ?_ ?_);kernel_rfl)
  |((refine kR ?_ ?_);kernel_rfl)
  |(refine And.intro ?_ ?_)
  |fail)
 all_goals first
  |(rfl)
  |(decide)
  |skip
theorem zao(p:Pr)(found:List Sp)(x:Ex)(a:Sp)(ha:inW a.1=true)(hb:inW a.2=true)(hn:1<=x.n)(hn2:x.n<=2147483648):PCall Tryz.prog 124 [.ptr (fC p found),x.d,.sl 2 [[.i a.1,.i a.2]]] (.ret (Sp.d (o9 a.1 x.n,o9 a.2 x.n))):=by
 refine aJ Tryz.func124 ?_
 repeat' ((try(conv=>whnf))<;>first
  |((refine jT ?_ ?_ ?_ ?_);exact rfl;exact rfl;exact rfl)
  |((refine ai ?_ ?_ ?_);rotate_left;(first |exact Il _ _ (by assumption) (by assumption) (by assumption) |exact Il a.1 x.n ha hn hn2))
  |((refine ak ?_ ?_);kernel_rfl)
  |(refine fA ?_;conv=>whnf)
  |(refine And.intro ?_ ?_)
  |fail)
 all_goals first
  |(decide)
  |skip
theorem zaq(p:Pr)(found:List Sp)(x:Ex)(a b c d:Sp)  : PCall Tryz.prog 126 [.ptr (fC p found),x.d,.sl 2 [[.i a.1,.i a.2],[.i b.1,.i b.2],[.i c.1,.i c.2],[.i d.1,.i d.2]]] (.ret (Sp.d (mm2 false c.1 d.1,mm2 true c.2 d.2))):=by
 refine aJ Tryz.func126 ?_
 repeat' ((try(conv=>whnf))<;>first
  |((refine jT ?_ ?_ ?_ ?_);exact rfl;exact rfl;exact rfl)
  |((refine ak ?_ ?_);kernel_rfl)
  |(refine fA ?_;conv=>whnf)
  |(refine And.intro ?_ ?_)
  |fail)
 all_goals first
  |(decide)
  |skip
abbrev z9m:List D:=[.val .nilFunc,.fn 106 [],.val .nilFunc,.fn 107 [],.fn 108 [],.fn 109 [],.fn 110 [],.fn 110 [],.fn 111 [],.fn 112 [],.fn 113 [],.fn 115 [],.fn 116 [],.fn 117 [],.fn 118 [],.fn 119 [],.fn 121 [],.fn 122 [],.fn 124 [],.fn 126 []]
def opF(k:Int):Nat:=match z9m.getD k.toNat (.val .nilFunc)with | .fn f _=>f |_=>0
theorem Af   : PCall Tryz.prog 95 [] (.ret (.agg z9m)):=by
 refine aJ Tryz.func95 ?_
 repeat' ((try(conv=>whnf))<;>first
  |(refine fA ?_;conv=>whnf)
  |fail)
 all_goals first
  |skip
theorem U2{p:Pr}{n:Nat}{k i m:Int}(hw:qN p n k i m=true){q:D->Prop}(h:q (.fn (opF k) [])):∃c,(0<=k/\z9m[k.toNat]? = some c)/\q c:=by
 rcases kinds hw with rfl |rfl |rfl |rfl |rfl |rfl |rfl |rfl |rfl |rfl |rfl |rfl |rfl |rfl |rfl |rfl |rfl |rfl<;>exact⟨_,⟨by decide,rfl⟩,h⟩
theorem z9n{p:Pr}{n:Nat}{k i m:Int}(hw:qN p n k i m=true):Nat.beq (opF k) xn=false:=by
 rcases kinds hw with rfl |rfl |rfl |rfl |rfl |rfl |rfl |rfl |rfl |rfl |rfl |rfl |rfl |rfl |rfl |rfl |rfl |rfl<;>rfl
theorem XK{b:Bool}{p q:Prop}:b=false->p->(match b with |true=>q |false=>p):=by intro h h2;subst h;exact h2
theorem z2a(p:Pr)(found:List Sp)(x:Ex)(sl:List Sp)(hR:Rng p)(hT:∀t∈p.tables,t.values.length<=1073741824)(hw:wfX p found.length x=true)(hl:sl.length=x.l.length)(hs:InS sl) :
  PCall Tryz.prog (opF x.kind) [.ptr (fC p found),x.d,.sl 2 (sl.map Sp.cs)] (Sj 30 (opM p found x.kind x.index x.n sl)):=by
 obtain⟨h1,h2,_⟩:=bG hw
 rw[<-hl]at h1
 generalize hk:x.kind=k at h1 h2
 have nil:(sl.length:Int)=0->sl = []:=λh=>List.length_eq_zero_iff.1 (by omega)
 rcases kinds h2 with rfl |rfl |rfl |rfl |rfl |rfl |rfl |rfl |rfl |rfl |rfl |rfl |rfl |rfl |rfl |rfl |rfl |rfl
 ·obtain rfl:=nil h1
  exact op1 p found x
 ·obtain rfl:=nil h1
  have h2:(decide (0<=x.index)&&decide (x.index<p.params.length))=true:=h2
  simp only[Bool.and_eq_true,decide_eq_true_eq]at h2
  exact op3 p found x h2.1 h2.2
 ·obtain rfl:=nil h1
  have h2:(decide (0<=x.index)&&decide (x.index<p.states.length))=true:=h2
  simp only[Bool.and_eq_true,decide_eq_true_eq]at h2
  exact op4 p found x h2.1 h2.2
 ·obtain rfl:=nil h1
  have h2:(decide (0<=x.index)&&decide (x.index<found.length))=true:=h2
  simp only[Bool.and_eq_true,decide_eq_true_eq]at h2
  exact op5 p found x h2.1 h2.2
 ·obtain⟨a,rfl⟩:=zM (sl:=sl) (by have h1:(sl.length:Int)=1:=h1;omega)
  show PCall Tryz.prog _ _ (Sj _ (aheadM a))
  unfold aheadM
  cases hc:(decide (a.1<0) || decide (a.2>4096))with
  |true=>exact U1 p found x a hc
  |false=>exact YY p found x a hc
 ·obtain⟨a,rfl⟩:=zM (sl:=sl) (by have h1:(sl.length:Int)=1:=h1;omega)
  show PCall Tryz.prog _ _ (Sj _ (aheadM a))
  unfold aheadM
  cases hc:(decide (a.1<0) || decide (a.2>4096))with
  |true=>exact U1 p found x a hc
  |false=>exact YY p found x a hc
 ·have h1:(sl.length:Int)=1:=h1
  have h2:(decide (0<=x.index)&&decide (x.index<p.lines.length))=true:=h2
  simp only[Bool.and_eq_true,decide_eq_true_eq]at h2
  obtain⟨a,rfl⟩:=zM (sl:=sl) (by omega)
  exact op8 p found x a h2.1 h2.2
 ·have h1:(sl.length:Int)=1:=h1
  have h2:(decide (0<=x.index)&&decide (x.index<p.tables.length) && !(aO p x.index==[]))=true:=h2
  simp only[Bool.and_eq_true,decide_eq_true_eq]at h2
  obtain⟨a,rfl⟩:=zM (sl:=sl) (by omega)
  have h3:aO p x.index ≠ []:=by simpa using h2.2
  exact op9 p found x a h2.1.1 h2.1.2 (List.length_pos_iff.2 h3) (hT _ (getD_mem' Rg.Tb.none h2.1.1 h2.1.2))
 ·obtain⟨a,rfl⟩:=zM (sl:=sl) (by have h1:(sl.length:Int)=1:=h1;omega)
  exact zaf p found x a
 ·obtain⟨a,b,rfl⟩:=Su (sl:=sl) (by have h1:(sl.length:Int)=2:=h1;omega)
  exact zah p found x a b
 ·obtain⟨a,b,rfl⟩:=Su (sl:=sl) (by have h1:(sl.length:Int)=2:=h1;omega)
  exact zai p found x a b
 ·obtain⟨a,rfl⟩:=zM (sl:=sl) (by have h1:(sl.length:Int)=1:=h1;omega)
  exact zaj p found x a (hs a (by simp)).1 (hs a (by simp)).2
 ·obtain⟨a,rfl⟩:=zM (sl:=sl) (by have h1:(sl.length:Int)=1:=h1;omega)
  exact zak p found x a (hs a (by simp)).1 (hs a (by simp)).2
 ·obtain⟨a,b,rfl⟩:=Su (sl:=sl) (by have h1:(sl.length:Int)=2:=h1;omega)
  exact zal p found x a b (hs a (by simp)) (hs b (by simp))
 ·obtain⟨a,b,rfl⟩:=Su (sl:=sl) (by have h1:(sl.length:Int)=2:=h1;omega)
  exact zam p found x a b (hs a (by simp)) (hs b (by simp))
 ·obtain⟨a,b,rfl⟩:=Su (sl:=sl) (by have h1:(sl.length:Int)=2:=h1;omega)
  exact zan p found x a b (hs a (by simp)) (hs b (by simp))
 ·obtain⟨a,rfl⟩:=zM (sl:=sl) (by have h1:(sl.length:Int)=1:=h1;omega)
  have h2:(decide (1<=x.n)&&decide (x.n<=2147483648))=true:=h2
  simp only[Bool.and_eq_true,decide_eq_true_eq]at h2
  exact zao p found x a (hs a (by simp)).1 (hs a (by simp)).2 h2.1 h2.2
 ·obtain⟨a,b,c,d,rfl⟩:=z8e (sl:=sl) (by have h1:(sl.length:Int)=4:=h1;omega)
  exact zaq p found x a b c d
theorem wL(x:Ex)(p:Pr)(found:List Sp)(hR:Rng p)(hF:InS found)(hT:∀t∈p.tables,t.values.length<=1073741824)(hx:Ref15.nodes x<=1073741824)(hw:wfX p found.length x=true):PCall Tryz.prog 76 [.ptr (fC p found),x.d] (Sj 30 (dN p found x)):=by
 revert x;refine Ex.ind λx ih hx hw=>?_
 refine dA Tryz.func76 λhf=>?_
 have hN:=Ref15.nodes_eq x
 have hL:=Ref15.len_nodes x.l
 have hlen:x.l.length<=9223372036854775807:=by omega
 obtain⟨g1,g2,g3⟩:=bG hw
 clear hf
 repeat' ((try(conv=>whnf))<;>first
  |((refine gW _ _ _ [true] ?_ ?_ ?_);exact rfl;kernel_rfl)
  |((refine quiet_step ?_ ?_);kernel_rfl)
  |(refine MI (ih x0 (bn hd0) (by have:=mP (bn hd0);omega) (gY g3 _ (bn hd0))) (λs1 q1=>?_) (λe1 q1=>?_))
  |(refine MI (z2a p found x sl hR hT hw (Gt (xX hI0.1).2) (Ws hR hF g3 (xX hI0.1).2)) (λs2 q2=>?_) (λe2 q2=>?_))
  |((refine D7 s2 ((xX hI0.1).1.trans q2) ?_);refine⟨[],rfl,?_,trivial⟩;conv=>whnf)
  |((refine mf e2 ((xX hI0.1).1.trans q2) ?_);refine⟨[],rfl,?_,trivial⟩;conv=>whnf)
  |((refine mf e1 (Wu hI0.1 q1) ?_);refine⟨[],rfl,?_,trivial⟩;conv=>whnf)
  |(refine U2 g2 ?_)
  |(refine XK (z9n g2) ?_)
  |exact trivial
  |exact aj hd0 ‹_›
  |refine jB hd0 ?_
  |refine fV hd0 ?_
  |((refine au.mk 0 ?_);refine⟨aF (x.l) 11 (λ(sl:(List Sp))=>[(5,.gs 900005 2 (sl.map Sp.cs))]) (λ(sl:(List Sp))=>[(900005,.tok 2 (sl.map Sp.cs).length)]) [0,3,4,9,10] (λi0 r0 sl=>pre sl (di p found r0)=di p found x.l/\sl.length=i0),?_⟩;refine af [] ?_ ?_ (λi0 (sl:(List Sp)) hd0 hI0=>?_) (λi0 x0 r0 (sl:(List Sp)) hd0 hl0 hI0=>?_))
  |(refine ag hd0 (sl++[s1]) ?_ ?_)
  |((refine ai ?_ ?_ ?_);rotate_left;(exact Af))
  |(refine aZ.l _ ?_)
  |((refine eH ?_ ?_ ?_ ?_ ?_ ?_)<;>exact rfl)
  |((refine fE ?_ ?_ ?_ ?_)<;>exact rfl)
  |((refine ay ?_ ?_ ?_ ?_ ?_);exact rfl;exact rfl;rotate_left;(exact dS hd0))
  |((refine aK ?_ ?_);exact rfl)
  |((refine app_step' ?_ ?_ ?_ ?_ ?_ ?_ ?_);exact rfl;exact rfl;exact rfl;exact rfl)
  |((refine ak ?_ ?_);kernel_rfl)
  |((refine kR ?_ ?_);kernel_rfl)
  |(refine And.intro ?_ ?_)
  |((refine rP ?_ ?_ ?_);exact rfl;exact rfl;(first |exact fK |skip))
  |((refine jl ?_ ?_);exact rfl;(first |exact fK |skip))
  |exact @rfl AV _
  |exact jm rfl
  |fail)
 all_goals first
  |(rfl)
  |((exact pre_nil _))
  |((exact Sr hI0.1 q1))
  |((rw[List.length_append,hI0.2];rfl))
  |((rw[List.length_map];omega))
  |skip
theorem EL(p:Pr)(FF:List Sp)(R:Except Int (List Sp))(hR:Rng p)(hT:∀t∈p.tables,t.values.length<=1073741824)(hn:∀s∈p.stmts,Ref15.nodes s.x<=1073741824)(hl:p.stmts.length<=1073741824)(hw:ut p 0 p.stmts=true)(hS:bM p p.stmts []=R)(hF:gX p p.stmts []=FF)(hRR:R = .ok FF):LCall Tryz.prog 93 [.ptr 1000000 0] [(1000000,.cells [.data (.str p.name),.data (.i p.latency),.data (.i p.tail),.data (.sl 3 (p.params.map Bd.cs)),.data (.sl 3 (p.states.map Bd.cs)),.data (.sl 4 (p.lines.map Ln.cs)),.data (.sl 2 (p.tables.map Tb.cs)),.data (.sl 8 (p.stmts.map Sm.cs)),.nilsl 2])] (.ret (.data (.tuple []))) [(1000000,.cells [.data (.str p.name),.data (.i p.latency),.data (.i p.tail),.data (.sl 3 (p.params.map Bd.cs)),.data (.sl 3 (p.states.map Bd.cs)),.data (.sl 4 (p.lines.map Ln.cs)),.data (.sl 2 (p.tables.map Tb.cs)),.data (.sl 8 (p.stmts.map Sm.cs)),.gs 1000001 2 (FF.map Sp.cs)]),(1000001,.tok 2 (FF.map Sp.cs).length)]:=by
 refine jJ Tryz.func93 λhf=>?_
 have hlen:p.stmts.length<=9223372036854775807:=by omega
 clear hf
 repeat' ((try(conv=>whnf))<;>first
  |(exact(Gx (hRR.symm.trans (Ea hI0 q1).1)).elim)
  |(exact(Gx (hRR.symm.trans (iw hI0 q1 (jU (B:=((bU p x0.index).lo,(bU p x0.index).hi)) (z4n ‹_›) h)).1)).elim)
  |(exact(Gx (hRR.symm.trans (iw hI0 q1 (jU (B:=((cu p x0.index).lo,(cu p x0.index).hi)) (z4o ‹_› ‹_›) h)).1)).elim)
  |(exact(Gx (hRR.symm.trans (iw hI0 q1 (jU (B:=(-2147483648,2147483647)) (z4p ‹_› ‹_› ‹_›) h)).1)).elim)
  |(exact(Gx (hRR.symm.trans (iw hI0 q1 (jU (B:=(-4611686018427387904,4611686018427387904)) (z4q ‹_› ‹_› ‹_›) h)).1)).elim)
  |((have hq:=(SC hI0).2);subst hq)
  |(refine Gv (wL x0.x p fs hR hI0.ins hT (hn _ (bn hd0)) (D9 hI0)) (λs1 q1=>?_) (λe1 q1=>?_))
  |exact trivial
  |exact aj hd0 ‹_›
  |refine bu hd0 ?_
  |refine aN hd0 ?_
  |refine BrI.intro (λh=>?_) (λh=>?_)
  |((refine zG ?_ ?_);exact rfl)
  |((refine pW ?_ ?_ ?_);exact rfl;exact rfl)
  |((refine kT Rg.Bd.none ?_ ?_ (MK hI0.wf h).1 (MK hI0.wf h).2 ?_);exact rfl;exact rfl)
  |((refine kT Rg.Ln.none ?_ ?_ (ML hI0.wf h).1 (ML hI0.wf h).2 ?_);exact rfl;exact rfl)
  |((refine au.mk 0 ?_);refine⟨aF (p.stmts) 13 (λ(fs:(List Sp))=>[]) (λ(fs:(List Sp))=>[(1000000,.cells [.data (.str p.name),.data (.i p.latency),.data (.i p.tail),.data (.sl 3 (p.params.map Bd.cs)),.data (.sl 3 (p.states.map Bd.cs)),.data (.sl 4 (p.lines.map Ln.cs)),.data (.sl 2 (p.tables.map Tb.cs)),.data (.sl 8 (p.stmts.map Sm.cs)),.gs 900007 2 (fs.map Sp.cs)]),(900007,.tok 2 (fs.map Sp.cs).length)]) [0,11,12] (λi0 r0 fs=>StI p R FF i0 r0 fs),?_⟩;refine af ([]) ?_ ?_ (λi0 (fs:(List Sp)) hd0 hI0=>?_) (λi0 x0 r0 (fs:(List Sp)) hd0 hl0 hI0=>?_))
  |(refine ag hd0 (fs++[s1]) ?_ ?_)
  |((refine aI ?_);refine fin_step' [(1000000,1000000),(1000001,900007)] rfl ?_ ?_)
  |(refine aZ.l _ ?_)
  |((refine eH ?_ ?_ ?_ ?_ ?_ ?_)<;>exact rfl)
  |((refine fE ?_ ?_ ?_ ?_)<;>exact rfl)
  |((refine ay ?_ ?_ ?_ ?_ ?_);exact rfl;exact rfl;rotate_left;(exact ax hd0))
  |((refine aK ?_ ?_);exact rfl)
  |((refine app_step' ?_ ?_ ?_ ?_ ?_ ?_ ?_);exact rfl;exact rfl;exact rfl;exact rfl)
  |((refine ak ?_ ?_);kernel_rfl)
  |(refine And.intro ?_ ?_)
  |((refine rP ?_ ?_ ?_);exact rfl;exact rfl;(first |exact fK |skip))
  |((refine jl ?_ ?_);exact rfl;(first |exact fK |skip))
  |((refine bF ?_);refine gp ?_ ?_ ?_;exact rfl;exact rfl;(first |exact rfl |skip))
  |exact @rfl AV _
  |exact jm rfl
  |fail)
 all_goals first
  |(decide)
  |((exact Gw hS hF hw))
  |((exact lI hR hI0 q1 (lH (B:=((bU p x0.index).lo,(bU p x0.index).hi)) (z4n ‹_›) h)))
  |((exact lI hR hI0 q1 (lH (B:=((cu p x0.index).lo,(cu p x0.index).hi)) (z4o ‹_› ‹_›) h)))
  |((exact lI hR hI0 q1 (lH (B:=(-2147483648,2147483647)) (z4p ‹_› ‹_› ‹_›) h)))
  |((exact lI hR hI0 q1 (lH (B:=(-4611686018427387904,4611686018427387904)) (z4q ‹_› ‹_› ‹_›) h)))
  |((rw[List.length_map,hI0.len];have:=kQ hd0;omega))
  |skip
theorem AX(p:Pr)(FF:List Sp)(R:Except Int (List Sp))(e:Int)(hR:Rng p)(hT:∀t∈p.tables,t.values.length<=1073741824)(hn:∀s∈p.stmts,Ref15.nodes s.x<=1073741824)(hl:p.stmts.length<=1073741824)(hw:ut p 0 p.stmts=true)(hS:bM p p.stmts []=R)(hF:gX p p.stmts []=FF)(hRR:R = .error e):LCall Tryz.prog 93 [.ptr 1000000 0] [(1000000,.cells [.data (.str p.name),.data (.i p.latency),.data (.i p.tail),.data (.sl 3 (p.params.map Bd.cs)),.data (.sl 3 (p.states.map Bd.cs)),.data (.sl 4 (p.lines.map Ln.cs)),.data (.sl 2 (p.tables.map Tb.cs)),.data (.sl 8 (p.stmts.map Sm.cs)),.nilsl 2])] (.pan (.data (.iface 30 (.i e)))) [(1000000,.cells [.data (.str p.name),.data (.i p.latency),.data (.i p.tail),.data (.sl 3 (p.params.map Bd.cs)),.data (.sl 3 (p.states.map Bd.cs)),.data (.sl 4 (p.lines.map Ln.cs)),.data (.sl 2 (p.tables.map Tb.cs)),.data (.sl 8 (p.stmts.map Sm.cs)),.gs 1000001 2 (FF.map Sp.cs)]),(1000001,.tok 2 (FF.map Sp.cs).length)]:=by
 refine jJ Tryz.func93 λhf=>?_
 have hlen:p.stmts.length<=9223372036854775807:=by omega
 clear hf
 repeat' ((try(conv=>whnf))<;>first
  |((have hq:=SE (hRR.symm.trans (Ea hI0 q1).1));(have hq2:=(Ea hI0 q1).2);subst hq;subst hq2)
  |((have hq:=SE (hRR.symm.trans (iw hI0 q1 (jU (B:=((bU p x0.index).lo,(bU p x0.index).hi)) (z4n ‹_›) h)).1));(have hq2:=(iw hI0 q1 (jU (B:=((bU p x0.index).lo,(bU p x0.index).hi)) (z4n ‹_›) h)).2);subst hq;subst hq2)
  |((have hq:=SE (hRR.symm.trans (iw hI0 q1 (jU (B:=((cu p x0.index).lo,(cu p x0.index).hi)) (z4o ‹_› ‹_›) h)).1));(have hq2:=(iw hI0 q1 (jU (B:=((cu p x0.index).lo,(cu p x0.index).hi)) (z4o ‹_› ‹_›) h)).2);subst hq;subst hq2)
  |((have hq:=SE (hRR.symm.trans (iw hI0 q1 (jU (B:=(-2147483648,2147483647)) (z4p ‹_› ‹_› ‹_›) h)).1));(have hq2:=(iw hI0 q1 (jU (B:=(-2147483648,2147483647)) (z4p ‹_› ‹_› ‹_›) h)).2);subst hq;subst hq2)
  |((have hq:=SE (hRR.symm.trans (iw hI0 q1 (jU (B:=(-4611686018427387904,4611686018427387904)) (z4q ‹_› ‹_› ‹_›) h)).1));(have hq2:=(iw hI0 q1 (jU (B:=(-4611686018427387904,4611686018427387904)) (z4q ‹_› ‹_› ‹_›) h)).2);subst hq;subst hq2)
  |(exact(Gx ((SC hI0).1.symm.trans hRR)).elim)
  |(refine Gv (wL x0.x p fs hR hI0.ins hT (hn _ (bn hd0)) (D9 hI0)) (λs1 q1=>?_) (λe1 q1=>?_))
  |exact trivial
  |exact aj hd0 ‹_›
  |refine aN hd0 ?_
  |refine BrI.intro (λh=>?_) (λh=>?_)
  |((refine zG ?_ ?_);exact rfl)
  |((refine pW ?_ ?_ ?_);exact rfl;exact rfl)
  |((refine kT Rg.Bd.none ?_ ?_ (MK hI0.wf h).1 (MK hI0.wf h).2 ?_);exact rfl;exact rfl)
  |((refine kT Rg.Ln.none ?_ ?_ (ML hI0.wf h).1 (ML hI0.wf h).2 ?_);exact rfl;exact rfl)
  |((refine au.mk 0 ?_);refine⟨aF (p.stmts) 13 (λ(fs:(List Sp))=>[]) (λ(fs:(List Sp))=>[(1000000,.cells [.data (.str p.name),.data (.i p.latency),.data (.i p.tail),.data (.sl 3 (p.params.map Bd.cs)),.data (.sl 3 (p.states.map Bd.cs)),.data (.sl 4 (p.lines.map Ln.cs)),.data (.sl 2 (p.tables.map Tb.cs)),.data (.sl 8 (p.stmts.map Sm.cs)),.gs 900007 2 (fs.map Sp.cs)]),(900007,.tok 2 (fs.map Sp.cs).length)]) [0,11,12] (λi0 r0 fs=>StI p R FF i0 r0 fs),?_⟩;refine af ([]) ?_ ?_ (λi0 (fs:(List Sp)) hd0 hI0=>?_) (λi0 x0 r0 (fs:(List Sp)) hd0 hl0 hI0=>?_))
  |(refine ag hd0 (fs++[s1]) ?_ ?_)
  |((refine jc ?_);refine fin_step' [(1000000,1000000),(1000001,900007)] rfl ?_ ?_)
  |(refine aZ.l _ ?_)
  |((refine eH ?_ ?_ ?_ ?_ ?_ ?_)<;>exact rfl)
  |((refine fE ?_ ?_ ?_ ?_)<;>exact rfl)
  |((refine ay ?_ ?_ ?_ ?_ ?_);exact rfl;exact rfl;rotate_left;(exact ax hd0))
  |((refine aK ?_ ?_);exact rfl)
  |((refine app_step' ?_ ?_ ?_ ?_ ?_ ?_ ?_);exact rfl;exact rfl;exact rfl;exact rfl)
  |((refine ak ?_ ?_);kernel_rfl)
  |(refine And.intro ?_ ?_)
  |((refine rP ?_ ?_ ?_);exact rfl;exact rfl;(first |exact fK |skip))
  |((refine jl ?_ ?_);exact rfl;(first |exact fK |skip))
  |((refine bF ?_);refine gp ?_ ?_ ?_;exact rfl;exact rfl;(first |exact rfl |skip))
  |exact @rfl AV _
  |exact jm rfl
  |fail)
 all_goals first
  |(decide)
  |((exact Gw hS hF hw))
  |((exact lI hR hI0 q1 (lH (B:=((bU p x0.index).lo,(bU p x0.index).hi)) (z4n ‹_›) h)))
  |((exact lI hR hI0 q1 (lH (B:=((cu p x0.index).lo,(cu p x0.index).hi)) (z4o ‹_› ‹_›) h)))
  |((exact lI hR hI0 q1 (lH (B:=(-2147483648,2147483647)) (z4p ‹_› ‹_› ‹_›) h)))
  |((exact lI hR hI0 q1 (lH (B:=(-4611686018427387904,4611686018427387904)) (z4q ‹_› ‹_› ‹_›) h)))
  |((rw[List.length_map,hI0.len];have:=kQ hd0;omega))
  |skip
theorem Io(c:AV)(v:Int):nZ Tryz.prog 94 [.ptr 1000000 0] (some (.iface 30 (.i v))) [(1000000,.cells [.ptr 1000001 0]),(1000001,.cells [c])]
  [(1000000,.cells [.ptr 1000001 0]),(1000001,.cells [.data (.i v)])]:=by
 refine iG tok hmix Tryz.func94 rfl (by kernel_rfl) (by kernel_rfl) (by kernel_rfl) ?_
 repeat' ((try(conv=>whnf))<;>first
  |exact trivial
  |(refine⟨([]:List (Nat×Nat)),?_⟩)
  |(refine⟨by kernel_rfl,?_⟩)
  |(refine⟨rfl,?_⟩)
  |(refine⟨?_,?_⟩)
  |fail)
theorem NI(d:D):nZ Tryz.prog 94 [.ptr 1000000 0] none [(1000000,.cells [.ptr 1000001 0]),(1000001,.cells [.data d])]
  [(1000000,.cells [.ptr 1000001 0]),(1000001,.cells [.data d])]:=by
 refine iG tok hmix Tryz.func94 rfl (by kernel_rfl) (by kernel_rfl) (by kernel_rfl) ?_
 repeat' ((try(conv=>whnf))<;>first
  |exact trivial
  |(refine⟨([]:List (Nat×Nat)),?_⟩)
  |(refine⟨by kernel_rfl,?_⟩)
  |(refine⟨rfl,?_⟩)
  |(refine⟨?_,?_⟩)
  |fail)
theorem z2c(p:Pr)(FF:List Sp)(hR:Rng p)(hT:∀t∈p.tables,t.values.length<=1073741824)(hn:∀s∈p.stmts,Ref15.nodes s.x<=1073741824)(hl:p.stmts.length<=1073741824)(hw:ut p 0 p.stmts=true)(hS:bM p p.stmts [] = .ok FF)(hF:gX p p.stmts []=FF):LCall Tryz.prog 74 [.ptr 1000000 0,.bnd 93 [.ptr 1000001 0]] [(1000000,.cells [.data (.i 0)]),(1000001,.cells [.data (.str p.name),.data (.i p.latency),.data (.i p.tail),.data (.sl 3 (p.params.map Bd.cs)),.data (.sl 3 (p.states.map Bd.cs)),.data (.sl 4 (p.lines.map Ln.cs)),.data (.sl 2 (p.tables.map Tb.cs)),.data (.sl 8 (p.stmts.map Sm.cs)),.nilsl 2])] (.ret (.data (.tuple []))) [(1000000,.cells [.data (.i 0)]),(1000001,.cells [.data (.str p.name),.data (.i p.latency),.data (.i p.tail),.data (.sl 3 (p.params.map Bd.cs)),.data (.sl 3 (p.states.map Bd.cs)),.data (.sl 4 (p.lines.map Ln.cs)),.data (.sl 2 (p.tables.map Tb.cs)),.data (.sl 8 (p.stmts.map Sm.cs)),.gs 1000002 2 (FF.map Sp.cs)]),(1000002,.tok 2 (FF.map Sp.cs).length)]:=by
 refine dX Tryz.func74 ?_
 repeat' ((try(conv=>whnf))<;>first
  |exact trivial
  |((refine⟨_,_,_,[(1000000,2),(1000001,1000000)],NI (.i 0),rfl,⟨rfl,rfl,trivial⟩,?_,?_⟩);kernel_rfl)
  |(refine⟨([(1000000,1000000),(1000001,1000001),(1000002,800002)]:List (Nat×Nat)),rfl,?_,?_⟩)
  |((refine lent_step' [(1000000,1000001),(1000001,800002)] (EL p FF _ hR hT hn hl hw hS hF rfl) ?_ ?_ ?_ ?_);rotate_left 0;exact rfl;(exact⟨rfl,trivial⟩);exact rfl)
  |(refine And.intro ?_ ?_)
  |((refine bF ?_);refine gp ?_ ?_ ?_;exact rfl;exact rfl;(first |exact rfl |skip))
  |fail)
 all_goals first
  |skip
theorem XL(p:Pr)(FF:List Sp)(e:Int)(hR:Rng p)(hT:∀t∈p.tables,t.values.length<=1073741824)(hn:∀s∈p.stmts,Ref15.nodes s.x<=1073741824)(hl:p.stmts.length<=1073741824)(hw:ut p 0 p.stmts=true)(hS:bM p p.stmts [] = .error e)(hF:gX p p.stmts []=FF):LCall Tryz.prog 74 [.ptr 1000000 0,.bnd 93 [.ptr 1000001 0]] [(1000000,.cells [.data (.i 0)]),(1000001,.cells [.data (.str p.name),.data (.i p.latency),.data (.i p.tail),.data (.sl 3 (p.params.map Bd.cs)),.data (.sl 3 (p.states.map Bd.cs)),.data (.sl 4 (p.lines.map Ln.cs)),.data (.sl 2 (p.tables.map Tb.cs)),.data (.sl 8 (p.stmts.map Sm.cs)),.nilsl 2])] (.ret (.data (.tuple []))) [(1000000,.cells [.data (.i e)]),(1000001,.cells [.data (.str p.name),.data (.i p.latency),.data (.i p.tail),.data (.sl 3 (p.params.map Bd.cs)),.data (.sl 3 (p.states.map Bd.cs)),.data (.sl 4 (p.lines.map Ln.cs)),.data (.sl 2 (p.tables.map Tb.cs)),.data (.sl 8 (p.stmts.map Sm.cs)),.gs 1000002 2 (FF.map Sp.cs)]),(1000002,.tok 2 (FF.map Sp.cs).length)]:=by
 refine dX Tryz.func74 ?_
 repeat' ((try(conv=>whnf))<;>first
  |exact trivial
  |((refine⟨_,_,_,[(1000000,2),(1000001,1000000)],Io (.data (.i 0)) e,rfl,⟨rfl,rfl,trivial⟩,?_,?_⟩);kernel_rfl)
  |(refine⟨([(1000000,1000000),(1000001,1000001),(1000002,800002)]:List (Nat×Nat)),rfl,?_,?_⟩)
  |((refine lent_step' [(1000000,1000001),(1000001,800002)] (AX p FF _ e hR hT hn hl hw hS hF rfl) ?_ ?_ ?_ ?_);rotate_left 0;exact rfl;(exact⟨rfl,trivial⟩);exact rfl)
  |(refine And.intro ?_ ?_)
  |((refine bF ?_);refine gp ?_ ?_ ?_;exact rfl;exact rfl;(first |exact rfl |skip))
  |exact @rfl Block _
  |fail)
 all_goals first
  |skip
end Go.Proofs.YthpbakljheeabaaGreatDoor
namespace Go.Proofs.YthpbakljheeabaaGreatDoor
open Go.Fw Go.Fw.Ref15 Go.Fw.Rg
set_option maxRecDepth 10000
variable [ah]
theorem KD(l m:List Int)  : PCall Tryz.prog 86 [ints l,ints m] (.ret (.b (SG l m))):=by
 refine dA Tryz.func86 λhf=>?_
 have hlen:l.length<=9223372036854775807:=by simpa using(hf (ints l) (by simp)).sl.1
 clear hf
 repeat' ((try(conv=>whnf))<;>first
  |with_reducible exact trivial
  |with_reducible exact aj hd0 ‹_›
  |((with_reducible refine dF hd0 ?_ ?_);(assumption))
  |((with_reducible refine bV hd0 ?_ ?_);(assumption))
  |with_reducible refine BrI.intro (λh=>?_) (λh=>?_)
  |((with_reducible refine au.mk 0 ?_);have hz:l.length=m.length:=(by simp at h;omega);have hk0:(l.zip m).length=(l.map eU).length:=(by rw[dR hz,List.length_map]);have hlz:(l.zip m).length<=9223372036854775807:=(by rw[dR hz];exact hlen);refine⟨aF (l.zip m) 13 (λ(_:Unit)=>[]) (λ(_:Unit)=>[]) [0,1,12] (λi0 r0 _=>SG l m=r0.all z4r),?_⟩;with_reducible refine af () ?_ ?_ (λi0 (_:Unit) hd0 hI0=>?_) (λi0 x0 r0 (_:Unit) hd0 hl0 hI0=>?_))
  |(with_reducible refine ag hd0 () ?_ ?_)
  |((with_reducible refine ay ?_ ?_ ?_ ?_ ?_);exact rfl;exact rfl;rotate_left;(first |with_reducible exact ig hd0 |with_reducible exact ik hd0))
  |((with_reducible refine ak ?_ ?_);kernel_rfl)
  |((with_reducible refine aI ?_);refine⟨[],rfl,?_,trivial⟩;conv=>whnf)
  |(with_reducible refine And.intro ?_ ?_)
  |exact @rfl AV _
  |fail)
 all_goals(try simp only[csimp]at *)
 all_goals first
  |(rw[hI0];(try simp only[z4r,Bool.not_true,Bool.not_false,Bool.and_true,Bool.true_and,Bool.and_false,Bool.false_and,Bool.or_true,Bool.true_or,Bool.or_false,Bool.false_or,if_true,if_false,reduceIte,Bool.false_eq_true,Bool.not_not,Bool.not_eq_true',beq_self_eq_true,List.all_cons,List.all_nil,List.any_cons,List.any_nil,List.length_map,bne,eq_self,Int.toNat_zero, *]);first |done |rfl)
  |(simp only[SG,Cb,Bool.not_true,Bool.not_false,Bool.and_true,Bool.true_and,Bool.and_false,Bool.false_and,Bool.or_true,Bool.true_or,Bool.or_false,Bool.false_or,if_true,if_false,reduceIte,Bool.false_eq_true,Bool.not_not,Bool.not_eq_true',beq_self_eq_true,List.all_cons,List.all_nil,List.any_cons,List.any_nil,List.length_map,bne,eq_self,Int.toNat_zero, *];done)
  |skip
theorem Pv(l m:List Bd)  : PCall Tryz.prog 89 [.sl 3 (l.map Bd.cs),.sl 3 (m.map Bd.cs)] (.ret (.b (dM l m))):=by
 refine dA Tryz.func89 λhf=>?_
 have hlen:l.length<=9223372036854775807:=by simpa using(hf (.sl 3 (l.map Bd.cs)) (by simp)).sl.1
 clear hf
 repeat' ((try(conv=>whnf))<;>first
  |with_reducible exact trivial
  |with_reducible exact aj hd0 ‹_›
  |((with_reducible refine dF hd0 ?_ ?_);(assumption))
  |((with_reducible refine bV hd0 ?_ ?_);(assumption))
  |with_reducible refine BrI.intro (λh=>?_) (λh=>?_)
  |((with_reducible refine au.mk 0 ?_);have hz:l.length=m.length:=(by simp at h;omega);have hk0:(l.zip m).length=(l.map Bd.cs).length:=(by rw[dR hz,List.length_map]);have hlz:(l.zip m).length<=9223372036854775807:=(by rw[dR hz];exact hlen);refine⟨aF (l.zip m) 13 (λ(_:Unit)=>[]) (λ(_:Unit)=>[]) [0,1,12] (λi0 r0 _=>dM l m=r0.all qL),?_⟩;with_reducible refine af () ?_ ?_ (λi0 (_:Unit) hd0 hI0=>?_) (λi0 x0 r0 (_:Unit) hd0 hl0 hI0=>?_))
  |(with_reducible refine ag hd0 () ?_ ?_)
  |((with_reducible refine pW ?_ ?_ ?_);exact rfl;exact rfl)
  |((with_reducible refine ay ?_ ?_ ?_ ?_ ?_);exact rfl;exact rfl;rotate_left;(first |with_reducible exact ig hd0 |with_reducible exact ik hd0))
  |((with_reducible refine aK ?_ ?_);exact rfl)
  |((with_reducible refine ak ?_ ?_);kernel_rfl)
  |((with_reducible refine aI ?_);refine⟨[],rfl,?_,trivial⟩;conv=>whnf)
  |(with_reducible refine And.intro ?_ ?_)
  |exact @rfl AV _
  |fail)
 all_goals(try simp only[csimp]at *)
 all_goals first
  |(rw[hI0];(try simp only[qL,Bool.not_true,Bool.not_false,Bool.and_true,Bool.true_and,Bool.and_false,Bool.false_and,Bool.or_true,Bool.true_or,Bool.or_false,Bool.false_or,if_true,if_false,reduceIte,Bool.false_eq_true,Bool.not_not,Bool.not_eq_true',beq_self_eq_true,List.all_cons,List.all_nil,List.any_cons,List.any_nil,List.length_map,bne,eq_self,Int.toNat_zero, *]);first |done |rfl)
  |(simp only[dM,Bool.not_true,Bool.not_false,Bool.and_true,Bool.true_and,Bool.and_false,Bool.false_and,Bool.or_true,Bool.true_or,Bool.or_false,Bool.false_or,if_true,if_false,reduceIte,Bool.false_eq_true,Bool.not_not,Bool.not_eq_true',beq_self_eq_true,List.all_cons,List.all_nil,List.any_cons,List.any_nil,List.length_map,bne,eq_self,Int.toNat_zero, *];done)
  |skip
theorem Px(l m:List Ln)  : PCall Tryz.prog 90 [.sl 4 (l.map Ln.cs),.sl 4 (m.map Ln.cs)] (.ret (.b (Cb lC l m))):=by
 refine dA Tryz.func90 λhf=>?_
 have hlen:l.length<=9223372036854775807:=by simpa using(hf (.sl 4 (l.map Ln.cs)) (by simp)).sl.1
 clear hf
 repeat' ((try(conv=>whnf))<;>first
  |with_reducible exact trivial
  |with_reducible exact aj hd0 ‹_›
  |((with_reducible refine dF hd0 ?_ ?_);(assumption))
  |((with_reducible refine bV hd0 ?_ ?_);(assumption))
  |with_reducible refine BrI.intro (λh=>?_) (λh=>?_)
  |((with_reducible refine au.mk 0 ?_);have hz:l.length=m.length:=(by simp at h;omega);have hk0:(l.zip m).length=(l.map Ln.cs).length:=(by rw[dR hz,List.length_map]);have hlz:(l.zip m).length<=9223372036854775807:=(by rw[dR hz];exact hlen);refine⟨aF (l.zip m) 13 (λ(_:Unit)=>[]) (λ(_:Unit)=>[]) [0,1,12] (λi0 r0 _=>Cb lC l m=r0.all lC),?_⟩;with_reducible refine af () ?_ ?_ (λi0 (_:Unit) hd0 hI0=>?_) (λi0 x0 r0 (_:Unit) hd0 hl0 hI0=>?_))
  |(with_reducible refine ag hd0 () ?_ ?_)
  |((with_reducible refine pW ?_ ?_ ?_);exact rfl;exact rfl)
  |((with_reducible refine ay ?_ ?_ ?_ ?_ ?_);exact rfl;exact rfl;rotate_left;(first |with_reducible exact ig hd0 |with_reducible exact ik hd0))
  |((with_reducible refine aK ?_ ?_);exact rfl)
  |((with_reducible refine ak ?_ ?_);kernel_rfl)
  |((with_reducible refine aI ?_);refine⟨[],rfl,?_,trivial⟩;conv=>whnf)
  |(with_reducible refine And.intro ?_ ?_)
  |exact @rfl AV _
  |fail)
 all_goals(try simp only[csimp]at *)
 all_goals first
  |(rw[hI0];(try simp only[lC,Bool.not_true,Bool.not_false,Bool.and_true,Bool.true_and,Bool.and_false,Bool.false_and,Bool.or_true,Bool.true_or,Bool.or_false,Bool.false_or,if_true,if_false,reduceIte,Bool.false_eq_true,Bool.not_not,Bool.not_eq_true',beq_self_eq_true,List.all_cons,List.all_nil,List.any_cons,List.any_nil,List.length_map,bne,eq_self,Int.toNat_zero, *]);first |done |rfl)
  |(simp only[Cb,Bool.not_true,Bool.not_false,Bool.and_true,Bool.true_and,Bool.and_false,Bool.false_and,Bool.or_true,Bool.true_or,Bool.or_false,Bool.false_or,if_true,if_false,reduceIte,Bool.false_eq_true,Bool.not_not,Bool.not_eq_true',beq_self_eq_true,List.all_cons,List.all_nil,List.any_cons,List.any_nil,List.length_map,bne,eq_self,Int.toNat_zero, *];done)
  |skip
theorem XM(a b:Tb)  : PCall Tryz.prog 85 [.agg a.cs,.agg b.cs] (.ret (.b (tbE (a,b)))):=by
 refine aJ Tryz.func85 ?_
 repeat' ((try(conv=>whnf))<;>first
  |((with_reducible refine ai ?_ ?_ ?_);rotate_left;(exact KD _ _))
  |((with_reducible refine bD ?_ ?_ (λhg=>?_) ?_);exact rfl)
  |((with_reducible refine dK ?_ ?_);with_reducible exact rfl;with_reducible exact rfl)
  |((with_reducible refine aI ?_);refine⟨[],rfl,?_,trivial⟩;conv=>whnf)
  |fail)
 all_goals(try simp only[csimp]at *)
 all_goals first
  |(simp only[tbE,Bool.not_true,Bool.not_false,Bool.and_true,Bool.true_and,Bool.and_false,Bool.false_and,Bool.or_true,Bool.true_or,Bool.or_false,Bool.false_or,if_true,if_false,reduceIte,Bool.false_eq_true,Bool.not_not,Bool.not_eq_true',beq_self_eq_true,List.all_cons,List.all_nil,List.any_cons,List.any_nil,List.length_map,bne,eq_self,Int.toNat_zero, *];done)
  |skip
theorem Py(l m:List Ex)(ih:∀x∈l,∀y,PCall Tryz.prog 88 [x.d,y.d] (.ret (.b (gV x y)))):PCall Tryz.prog 105 [.sl 5 (l.map Ex.cs),.sl 5 (m.map Ex.cs),.fn 88 []] (.ret (.b (z4s l m))):=by
 refine dA Tryz.func105 λhf=>?_
 have hlen:l.length<=9223372036854775807:=by simpa using(hf (.sl 5 (l.map Ex.cs)) (by simp)).sl.1
 clear hf
 repeat' ((try(conv=>whnf))<;>first
  |with_reducible exact trivial
  |with_reducible exact aj hd0 ‹_›
  |((with_reducible refine dF hd0 ?_ ?_);(assumption))
  |((with_reducible refine bV hd0 ?_ ?_);(assumption))
  |with_reducible refine BrI.intro (λh=>?_) (λh=>?_)
  |((with_reducible refine au.mk 0 ?_);have hz:l.length=m.length:=(by simp at h;omega);have hk0:(l.zip m).length=(l.map Ex.cs).length:=(by rw[dR hz,List.length_map]);have hlz:(l.zip m).length<=9223372036854775807:=(by rw[dR hz];exact hlen);refine⟨aF (l.zip m) 17 (λ(_:Unit)=>[]) (λ(_:Unit)=>[]) [1,2,15,16] (λi0 r0 _=>z4s l m=r0.all exE),?_⟩;with_reducible refine af () ?_ ?_ (λi0 (_:Unit) hd0 hI0=>?_) (λi0 x0 r0 (_:Unit) hd0 hl0 hI0=>?_))
  |(with_reducible refine ag hd0 () ?_ ?_)
  |((with_reducible refine ai ?_ ?_ ?_);rotate_left;(exact ih _ (List.of_mem_zip (bn hd0)).1 _))
  |((with_reducible refine ay ?_ ?_ ?_ ?_ ?_);exact rfl;exact rfl;rotate_left;(first |with_reducible exact ig hd0 |with_reducible exact ik hd0))
  |((with_reducible refine aK ?_ ?_);exact rfl)
  |((with_reducible refine aI ?_);refine⟨[],rfl,?_,trivial⟩;conv=>whnf)
  |(with_reducible refine And.intro ?_ ?_)
  |exact @rfl AV _
  |fail)
 all_goals(try simp only[csimp]at *)
 all_goals first
  |(rw[hI0];(try simp only[exE,Bool.not_true,Bool.not_false,Bool.and_true,Bool.true_and,Bool.and_false,Bool.false_and,Bool.or_true,Bool.true_or,Bool.or_false,Bool.false_or,if_true,if_false,reduceIte,Bool.false_eq_true,Bool.not_not,Bool.not_eq_true',beq_self_eq_true,List.all_cons,List.all_nil,List.any_cons,List.any_nil,List.length_map,bne,eq_self,Int.toNat_zero, *]);first |done |rfl)
  |(simp only[z4s,Cb,Bool.not_true,Bool.not_false,Bool.and_true,Bool.true_and,Bool.and_false,Bool.false_and,Bool.or_true,Bool.true_or,Bool.or_false,Bool.false_or,if_true,if_false,reduceIte,Bool.false_eq_true,Bool.not_not,Bool.not_eq_true',beq_self_eq_true,List.all_cons,List.all_nil,List.any_cons,List.any_nil,List.length_map,bne,eq_self,Int.toNat_zero, *];done)
  |skip
theorem AY(a b:Ex)  : PCall Tryz.prog 88 [a.d,b.d] (.ret (.b (gV a b))):=by
 revert b;revert a;refine Ex.ind λa ih b=>?_
 refine aJ Tryz.func88 ?_
 repeat' ((try(conv=>whnf))<;>first
  |((with_reducible refine ai ?_ ?_ ?_);rotate_left;((have hq:=Py a.l b.l ih;rw[<-Ex.css_eq,<-Ex.css_eq]at hq;exact hq)))
  |((with_reducible refine bD ?_ ?_ (λhg=>?_) ?_);exact rfl)
  |((with_reducible refine dK ?_ ?_);with_reducible exact rfl;with_reducible exact rfl)
  |((with_reducible refine aI ?_);refine⟨[],rfl,?_,trivial⟩;conv=>whnf)
  |fail)
 all_goals(try simp only[csimp]at *)
 all_goals first
  |((exact congrArg D.b (Eb a b)))
  |skip
theorem XN(a b:Sm)  : PCall Tryz.prog 87 [a.d,b.d] (.ret (.b (smE (a,b)))):=by
 refine aJ Tryz.func87 ?_
 repeat' ((try(conv=>whnf))<;>first
  |((with_reducible refine ai ?_ ?_ ?_);rotate_left;(exact AY _ _))
  |((with_reducible refine bD ?_ ?_ (λhg=>?_) ?_);exact rfl)
  |((with_reducible refine dK ?_ ?_);with_reducible exact rfl;with_reducible exact rfl)
  |((with_reducible refine aI ?_);refine⟨[],rfl,?_,trivial⟩;conv=>whnf)
  |fail)
 all_goals(try simp only[csimp]at *)
 all_goals first
  |(simp only[smE,Bool.not_true,Bool.not_false,Bool.and_true,Bool.true_and,Bool.and_false,Bool.false_and,Bool.or_true,Bool.true_or,Bool.or_false,Bool.false_or,if_true,if_false,reduceIte,Bool.false_eq_true,Bool.not_not,Bool.not_eq_true',beq_self_eq_true,List.all_cons,List.all_nil,List.any_cons,List.any_nil,List.length_map,bne,eq_self,Int.toNat_zero, *];done)
  |skip
theorem Pz(l m:List Tb)  : PCall Tryz.prog 91 [.sl 2 (l.map Tb.cs),.sl 2 (m.map Tb.cs),.fn 85 []] (.ret (.b (Cb tbE l m))):=by
 refine dA Tryz.func91 λhf=>?_
 have hlen:l.length<=9223372036854775807:=by simpa using(hf (.sl 2 (l.map Tb.cs)) (by simp)).sl.1
 clear hf
 repeat' ((try(conv=>whnf))<;>first
  |with_reducible exact trivial
  |with_reducible exact aj hd0 ‹_›
  |((with_reducible refine dF hd0 ?_ ?_);(assumption))
  |((with_reducible refine bV hd0 ?_ ?_);(assumption))
  |with_reducible refine BrI.intro (λh=>?_) (λh=>?_)
  |((with_reducible refine au.mk 0 ?_);have hz:l.length=m.length:=(by simp at h;omega);have hk0:(l.zip m).length=(l.map Tb.cs).length:=(by rw[dR hz,List.length_map]);have hlz:(l.zip m).length<=9223372036854775807:=(by rw[dR hz];exact hlen);refine⟨aF (l.zip m) 17 (λ(_:Unit)=>[]) (λ(_:Unit)=>[]) [1,2,15,16] (λi0 r0 _=>Cb tbE l m=r0.all tbE),?_⟩;with_reducible refine af () ?_ ?_ (λi0 (_:Unit) hd0 hI0=>?_) (λi0 x0 r0 (_:Unit) hd0 hl0 hI0=>?_))
  |(with_reducible refine ag hd0 () ?_ ?_)
  |((with_reducible refine ai ?_ ?_ ?_);rotate_left;(exact XM _ _))
  |((with_reducible refine ay ?_ ?_ ?_ ?_ ?_);exact rfl;exact rfl;rotate_left;(first |with_reducible exact ig hd0 |with_reducible exact ik hd0))
  |((with_reducible refine aK ?_ ?_);exact rfl)
  |((with_reducible refine aI ?_);refine⟨[],rfl,?_,trivial⟩;conv=>whnf)
  |(with_reducible refine And.intro ?_ ?_)
  |exact @rfl AV _
  |fail)
 all_goals(try simp only[csimp]at *)
 all_goals first
  |(rw[hI0];(try simp only[List.all_cons,Bool.not_true,Bool.not_false,Bool.and_true,Bool.true_and,Bool.and_false,Bool.false_and,Bool.or_true,Bool.true_or,Bool.or_false,Bool.false_or,if_true,if_false,reduceIte,Bool.false_eq_true,Bool.not_not,Bool.not_eq_true',beq_self_eq_true,List.all_cons,List.all_nil,List.any_cons,List.any_nil,List.length_map,bne,eq_self,Int.toNat_zero, *]);first |done |rfl)
  |(simp only[Cb,Bool.not_true,Bool.not_false,Bool.and_true,Bool.true_and,Bool.and_false,Bool.false_and,Bool.or_true,Bool.true_or,Bool.or_false,Bool.false_or,if_true,if_false,reduceIte,Bool.false_eq_true,Bool.not_not,Bool.not_eq_true',beq_self_eq_true,List.all_cons,List.all_nil,List.any_cons,List.any_nil,List.length_map,bne,eq_self,Int.toNat_zero, *];done)
  |skip
theorem PD(l m:List Sm)  : PCall Tryz.prog 92 [.sl 8 (l.map Sm.cs),.sl 8 (m.map Sm.cs),.fn 87 []] (.ret (.b (Cb smE l m))):=by
 refine dA Tryz.func92 λhf=>?_
 have hlen:l.length<=9223372036854775807:=by simpa using(hf (.sl 8 (l.map Sm.cs)) (by simp)).sl.1
 clear hf
 repeat' ((try(conv=>whnf))<;>first
  |with_reducible exact trivial
  |with_reducible exact aj hd0 ‹_›
  |((with_reducible refine dF hd0 ?_ ?_);(assumption))
  |((with_reducible refine bV hd0 ?_ ?_);(assumption))
  |with_reducible refine BrI.intro (λh=>?_) (λh=>?_)
  |((with_reducible refine au.mk 0 ?_);have hz:l.length=m.length:=(by simp at h;omega);have hk0:(l.zip m).length=(l.map Sm.cs).length:=(by rw[dR hz,List.length_map]);have hlz:(l.zip m).length<=9223372036854775807:=(by rw[dR hz];exact hlen);refine⟨aF (l.zip m) 17 (λ(_:Unit)=>[]) (λ(_:Unit)=>[]) [1,2,15,16] (λi0 r0 _=>Cb smE l m=r0.all smE),?_⟩;with_reducible refine af () ?_ ?_ (λi0 (_:Unit) hd0 hI0=>?_) (λi0 x0 r0 (_:Unit) hd0 hl0 hI0=>?_))
  |(with_reducible refine ag hd0 () ?_ ?_)
  |((with_reducible refine ai ?_ ?_ ?_);rotate_left;(exact XN _ _))
  |((with_reducible refine ay ?_ ?_ ?_ ?_ ?_);exact rfl;exact rfl;rotate_left;(first |with_reducible exact ig hd0 |with_reducible exact ik hd0))
  |((with_reducible refine aK ?_ ?_);exact rfl)
  |((with_reducible refine aI ?_);refine⟨[],rfl,?_,trivial⟩;conv=>whnf)
  |(with_reducible refine And.intro ?_ ?_)
  |exact @rfl AV _
  |fail)
 all_goals(try simp only[csimp]at *)
 all_goals first
  |(rw[hI0];(try simp only[List.all_cons,Bool.not_true,Bool.not_false,Bool.and_true,Bool.true_and,Bool.and_false,Bool.false_and,Bool.or_true,Bool.true_or,Bool.or_false,Bool.false_or,if_true,if_false,reduceIte,Bool.false_eq_true,Bool.not_not,Bool.not_eq_true',beq_self_eq_true,List.all_cons,List.all_nil,List.any_cons,List.any_nil,List.length_map,bne,eq_self,Int.toNat_zero, *]);first |done |rfl)
  |(simp only[Cb,Bool.not_true,Bool.not_false,Bool.and_true,Bool.true_and,Bool.and_false,Bool.false_and,Bool.or_true,Bool.true_or,Bool.or_false,Bool.false_or,if_true,if_false,reduceIte,Bool.false_eq_true,Bool.not_not,Bool.not_eq_true',beq_self_eq_true,List.all_cons,List.all_nil,List.any_cons,List.any_nil,List.length_map,bne,eq_self,Int.toNat_zero, *];done)
  |skip
theorem kE(a b:Pr)  : PCall Tryz.prog 68 [a.d,b.d] (.ret (.b (qO a b))):=by
 refine aJ Tryz.func68 ?_
 repeat' ((try(conv=>whnf))<;>first
  |((with_reducible refine ai ?_ ?_ ?_);rotate_left;(first |exact Pv _ _ |exact Px _ _ |exact Pz _ _ |exact PD _ _))
  |((with_reducible refine bD ?_ ?_ (λhg=>?_) ?_);exact rfl)
  |((with_reducible refine dK ?_ ?_);with_reducible exact rfl;with_reducible exact rfl)
  |((with_reducible refine aI ?_);refine⟨[],rfl,?_,trivial⟩;conv=>whnf)
  |fail)
 all_goals(try simp only[csimp]at *)
 all_goals first
  |(simp only[qO,SH,Bool.not_true,Bool.not_false,Bool.and_true,Bool.true_and,Bool.and_false,Bool.false_and,Bool.or_true,Bool.true_or,Bool.or_false,Bool.false_or,if_true,if_false,reduceIte,Bool.false_eq_true,Bool.not_not,Bool.not_eq_true',beq_self_eq_true,List.all_cons,List.all_nil,List.any_cons,List.any_nil,List.length_map,bne,eq_self,Int.toNat_zero, *];done)
  |skip
end Go.Proofs.YthpbakljheeabaaGreatDoor
namespace Go.Proofs.YthpbakljheeabaaGreatDoor
open Go.Fw Go.Fw.Rg Go.Fw.Nam
set_option maxRecDepth 10000
variable [ah]
theorem XO(p:Pr)(g:gq p)(he:((resolveC p).2 != 0)=true):PCall Tryz.prog 72 [p.d] (.ret (.tuple [.val (.pointer none),.i (resolveC p).2])):=by
 refine aJ Tryz.func72 ?_
 repeat' ((try(conv=>whnf))<;>first
  |(exact Bool.noConfusion (show true=false from he.symm.trans h))
  |refine BrI.intro (λh=>?_) (λh=>?_)
  |((refine ai ?_ ?_ ?_);rotate_left;(exact jP p g.sm g.hn))
  |((refine ak ?_ ?_);kernel_rfl)
  |(refine fA ?_;conv=>whnf)
  |fail)
 all_goals first
  |skip
theorem XP(p:Pr)(g:gq p)(he:((resolveC p).2 != 0)=false)(hs:qO p (resolveC p).1=false):PCall Tryz.prog 72 [p.d] (.ret (.tuple [.val (.pointer none),.i 150])):=by
 refine aJ Tryz.func72 ?_
 repeat' ((try(conv=>whnf))<;>first
  |(exact Bool.noConfusion (show false=true from he.symm.trans h))
  |(exact Bool.noConfusion (show true=false from(congrArg (!·) hs).symm.trans h))
  |refine BrI.intro (λh=>?_) (λh=>?_)
  |((refine ai ?_ ?_ ?_);rotate_left;(first |exact kE _ _ |exact jP p g.sm g.hn))
  |(refine fA ?_;conv=>whnf)
  |fail)
 all_goals first
  |skip
theorem XQ(p:Pr)(FF:List Sp)(g:gq p)(he:(resolveC p).2=0)(hs:(resolveC p).1=p)(hR:Rng p)(hw:ut p 0 p.stmts=true)(hS:bM p p.stmts [] = .ok FF)(hF:gX p p.stmts []=FF):PCall Tryz.prog 72 [p.d] (.ret (.tuple [.ptr (fC p FF),.i 0])):=by
 refine dA Tryz.func72 λhf=>?_
 have hq:resolveC p=(p,0):=Prod.ext hs he
 have hc:=jP p g.sm g.hn
 rw[hq]at hc
 have hc2:=kE p p
 rw[(iO p p).2 rfl]at hc2
 clear hf
 repeat' ((try(conv=>whnf))<;>first
  |(exact Bool.noConfusion (show true=false from h.symm.trans (rfl:((0:Int) != 0)=false)))
  |(exact Bool.noConfusion (show false=true from(congrArg (!·) ((iO p p).2 rfl)).symm.trans h))
  |refine BrI.intro (λh=>?_) (λh=>?_)
  |((refine ai ?_ ?_ ?_);rotate_left;(first |exact kE _ _ |exact hc))
  |((refine lent_step' [(1000000,3),(1000001,19),(1000002,800001)] (z2c p FF hR g.hT g.hn g.hl hw hS hF) ?_ ?_ ?_ ?_);rotate_left 0;exact rfl;(exact⟨rfl,rfl,trivial⟩);exact rfl)
  |((refine ak ?_ ?_);kernel_rfl)
  |(refine fA ?_;conv=>whnf)
  |(refine And.intro ?_ ?_)
  |fail)
 all_goals first
  |(rfl)
  |skip
theorem U3(p:Pr)(FF:List Sp)(e:Int)(g:gq p)(he:(resolveC p).2=0)(hs:(resolveC p).1=p)(hR:Rng p)(hw:ut p 0 p.stmts=true)(hS:bM p p.stmts [] = .error e)(hF:gX p p.stmts []=FF):PCall Tryz.prog 72 [p.d] (.ret (.tuple [.ptr (fC p FF),.i e])):=by
 refine dA Tryz.func72 λhf=>?_
 have hq:resolveC p=(p,0):=Prod.ext hs he
 have hc:=jP p g.sm g.hn
 rw[hq]at hc
 have hc2:=kE p p
 rw[(iO p p).2 rfl]at hc2
 clear hf
 repeat' ((try(conv=>whnf))<;>first
  |(exact Bool.noConfusion (show true=false from h.symm.trans (rfl:((0:Int) != 0)=false)))
  |(exact Bool.noConfusion (show false=true from(congrArg (!·) ((iO p p).2 rfl)).symm.trans h))
  |refine BrI.intro (λh=>?_) (λh=>?_)
  |((refine ai ?_ ?_ ?_);rotate_left;(first |exact kE _ _ |exact hc))
  |((refine lent_step' [(1000000,3),(1000001,19),(1000002,800001)] (XL p FF e hR g.hT g.hn g.hl hw hS hF) ?_ ?_ ?_ ?_);rotate_left 0;exact rfl;(exact⟨rfl,rfl,trivial⟩);exact rfl)
  |((refine ak ?_ ?_);kernel_rfl)
  |(refine fA ?_;conv=>whnf)
  |(refine And.intro ?_ ?_)
  |fail)
 all_goals first
  |(rfl)
  |skip
theorem Ag(p:Pr)(x:Ex)(most:Int)(hm0:0<=most)(hm:most<=512):PCall Tryz.prog 73 [p.d,x.d,.i most] (.ret (.tuple [.i (eu p x most).1,.b (eu p x most).2])):=by
 revert hm0 hm;revert most;revert x;refine Ex.ind λx ih most hm0 hm=>?_
 refine dA Tryz.func73 λhf=>?_
 have hlen:=Ex.fits (hf x.d (by simp));have hq:=Pr.fits (hf p.d (by simp))
 have ih2:∀y∈x.l,∀m c,c=m->0<=m->m<=512->PCall Tryz.prog 73 [p.d,y.d,.i c] (.ret (.tuple [.i (eu p y m).1,.b (eu p y m).2])):=λy hy m c hc h0 h1=>by subst hc;exact ih y hy c h0 h1
 clear hf
 repeat' ((try(conv=>whnf))<;>first
  |(exact Bool.noConfusion (show true=false from h))
  |(exact Bool.noConfusion (show false=true from h))
  |exact trivial
  |exact aj hd1 ‹_›
  |refine jB hd1 ?_
  |refine fV hd1 ?_
  |refine BrI.intro (λh=>?_) (λh=>?_)
  |((refine Tj (l:=bW) ?_ (λnd hnd=>?_) (λhnd=>?_));exact rfl)
  |((refine WJ (p:=p) ?_ (λmd hmd=>?_) (λhmd=>?_));exact rfl)
  |(exact(z4x ‹lkI x.kind (kD p)=none› h).elim)
  |((refine kT Sm.none ?_ ?_ ?_ ?_ ?_);exact rfl;exact rfl;rotate_left 2)
  |((refine au.mk 1 ?_);refine⟨aF (x.l) 109 (λ(q:(Int)×(Bool))=>match q with |(n,ok)=>[(6,.data (.val (.int .i64 n))),(7,.data (.val (.bool ok)))]) (λ(q:(Int)×(Bool))=>match q with |(n,ok)=>[]) [2,3,107,108] (λi1 r1 q=>match q with |(n,ok)=>eu p x most=jh p r1 most n ok/\1<=n/\n<=most),?_⟩;refine af (?_,?_) ?_ ?_ (λi1 ⟨n,ok⟩ hd1 hI1=>?_) (λi1 x1 r1 ⟨n,ok⟩ hd1 hl1 hI1=>?_))
  |(refine ag hd1 (?_,?_) ?_ ?_)
  |((refine ai ?_ ?_ ?_);rotate_left;(exact ih2 _ (bn ‹_›) (most-n) _ (bJ (by omega) (by omega)) (by omega) (by omega)))
  |((refine ay ?_ ?_ ?_ ?_ ?_);exact rfl;exact rfl;rotate_left;(exact dS hd1))
  |((refine aK ?_ ?_);exact rfl)
  |(refine fA ?_;conv=>whnf)
  |(refine And.intro ?_ ?_)
  |exact @rfl AV _
  |fail)
 all_goals first
  |(rfl)
  |((exact Int.le_refl _))
  |((refine(z92 ‹lkI x.kind (kD p)=some _› ‹(x.kind==5)=true› ?_).1;assumption))
  |((refine(z92 ‹lkI x.kind (kD p)=some _› ‹(x.kind==5)=true› ?_).2;assumption))
  |((refine z0g (l:=x.l) (nd:=nd) ?_;assumption))
  |(((refine OZ ‹lkI x.kind bW=some _› ‹lkI x.kind (kD p)=_› ?_ ?_ ?_);assumption;(first |exact rfl |(refine MS (b:=false) ?_;assumption));(first |exact z8h ‹_› |exact z8i ‹_› ‹_› |exact z8j ‹_› ‹_› ‹_› |exact z8k ‹_› ‹_› ‹_›)))
  |((rw[vY ‹lkI x.kind bW=none›]))
  |((rw[vZ ‹lkI x.kind bW=some _› (z0f (b:=true) h)]))
  |((rw[WL ‹lkI x.kind bW=some _› ‹lkI x.kind (kD p)=_› ?_ (MS (b:=true) h)];assumption))
  |((obtain⟨hok,hfit⟩:=z7m h;have hr:=x9 p x1 (most-n) (by omega);have h3:=hr.2.2 hfit;rw[bJ (by omega) (by omega)];first |omega |(rw[hI1.1];exact uB h)))
  |((rw[hI1.1,nP h]))
  |((rw[hI1.1,jh]))
  |skip
theorem check_any(p:Pr)(pd:D)(e:Int)(hw:PCall Tryz.prog 72 [p.d] (.ret (.tuple [pd,.i e]))):PCall Tryz.prog 69 [p.d] (.ret (.i e)):=by
 refine aJ Tryz.func69 ?_
 repeat' ((try(conv=>whnf))<;>first
  |((refine ai ?_ ?_ ?_);rotate_left;(exact hw))
  |(refine fA ?_;conv=>whnf)
  |fail)
 all_goals first
  |skip
theorem z2d(p:Pr)(F:List Sp)(x:Ex)(s:Sp)(a b:Int)(hc:PCall Tryz.prog 76 [.ptr (fC p F),x.d] (.ret s.d)):LCall Tryz.prog 75 [.ptr 1000000 0,.ptr 1000001 0,.ptr 1000002 0,.ptr 1000003 0] [(1000000,.cells [.data (.ptr (fC p F))]),(1000001,.cells [.data (.i x.kind),.data (.str x.name),.data (.i x.index),.data (.i x.n),.data (.sl 5 (Ex.css x.l))]),(1000002,.cells [.data (.i a)]),(1000003,.cells [.data (.i b)])] (.ret (.data (.tuple []))) [(1000000,.cells [.data (.ptr (fC p F))]),(1000001,.cells [.data (.i x.kind),.data (.str x.name),.data (.i x.index),.data (.i x.n),.data (.sl 5 (Ex.css x.l))]),(1000002,.cells [.data (.i s.1)]),(1000003,.cells [.data (.i s.2)])]:=by
 refine dX Tryz.func75 ?_
 repeat' ((try(conv=>whnf))<;>first
  |exact trivial
  |((refine ai ?_ ?_ ?_);rotate_left;(exact hc))
  |((refine aI ?_);refine fin_step' [] rfl ?_ ?_)
  |((refine ak ?_ ?_);kernel_rfl)
  |(refine And.intro ?_ ?_)
  |fail)
 all_goals first
  |(rfl)
  |(decide)
  |skip
theorem XR(p:Pr)(F:List Sp)(x:Ex)(e:Int)(a b:Int)(hc:PCall Tryz.prog 76 [.ptr (fC p F),x.d] (.pan (.iface 30 (.i e)))):LCall Tryz.prog 75 [.ptr 1000000 0,.ptr 1000001 0,.ptr 1000002 0,.ptr 1000003 0] [(1000000,.cells [.data (.ptr (fC p F))]),(1000001,.cells [.data (.i x.kind),.data (.str x.name),.data (.i x.index),.data (.i x.n),.data (.sl 5 (Ex.css x.l))]),(1000002,.cells [.data (.i a)]),(1000003,.cells [.data (.i b)])] (.pan (.data (.iface 30 (.i e)))) [(1000000,.cells [.data (.ptr (fC p F))]),(1000001,.cells [.data (.i x.kind),.data (.str x.name),.data (.i x.index),.data (.i x.n),.data (.sl 5 (Ex.css x.l))]),(1000002,.cells [.data (.i a)]),(1000003,.cells [.data (.i b)])]:=by
 refine dX Tryz.func75 ?_
 repeat' ((try(conv=>whnf))<;>first
  |exact trivial
  |((refine ai ?_ ?_ ?_);rotate_left;(exact hc))
  |((refine jc ?_);refine fin_step' [] rfl ?_ ?_)
  |(refine And.intro ?_ ?_)
  |fail)
 all_goals first
  |skip
theorem XT(p:Pr)(F:List Sp)(x:Ex)(s:Sp)(hc:PCall Tryz.prog 76 [.ptr (fC p F),x.d] (.ret s.d)):LCall Tryz.prog 74 [.ptr 1000000 0,.fn 75 [.ptr 1000001 0,.ptr 1000002 0,.ptr 1000003 0,.ptr 1000004 0]] [(1000000,.cells [.data (.i 0)]),(1000001,.cells [.data (.ptr (fC p F))]),(1000002,.cells [.data (.i x.kind),.data (.str x.name),.data (.i x.index),.data (.i x.n),.data (.sl 5 (Ex.css x.l))]),(1000003,.cells [.data (.i 0)]),(1000004,.cells [.data (.i 0)])] (.ret (.data (.tuple []))) [(1000000,.cells [.data (.i 0)]),(1000001,.cells [.data (.ptr (fC p F))]),(1000002,.cells [.data (.i x.kind),.data (.str x.name),.data (.i x.index),.data (.i x.n),.data (.sl 5 (Ex.css x.l))]),(1000003,.cells [.data (.i s.1)]),(1000004,.cells [.data (.i s.2)])]:=by
 refine dX Tryz.func74 ?_
 repeat' ((try(conv=>whnf))<;>first
  |exact trivial
  |((refine⟨_,_,_,[(1000000,2),(1000001,1000000)],NI (.i 0),rfl,⟨rfl,rfl,trivial⟩,?_,?_⟩);kernel_rfl)
  |(refine⟨([(1000000,1000000),(1000001,1000001),(1000002,1000002),(1000003,1000003),(1000004,1000004)]:List (Nat×Nat)),rfl,?_,?_⟩)
  |((refine lent_step' [(1000000,1000001),(1000001,1000002),(1000002,1000003),(1000003,1000004)] (z2d p F x s 0 0 hc) ?_ ?_ ?_ ?_);rotate_left 0;exact rfl;(exact⟨rfl,rfl,rfl,rfl,trivial⟩);exact rfl)
  |(refine And.intro ?_ ?_)
  |fail)
 all_goals first
  |skip
theorem U4(p:Pr)(F:List Sp)(x:Ex)(e:Int)(hc:PCall Tryz.prog 76 [.ptr (fC p F),x.d] (.pan (.iface 30 (.i e)))):LCall Tryz.prog 74 [.ptr 1000000 0,.fn 75 [.ptr 1000001 0,.ptr 1000002 0,.ptr 1000003 0,.ptr 1000004 0]] [(1000000,.cells [.data (.i 0)]),(1000001,.cells [.data (.ptr (fC p F))]),(1000002,.cells [.data (.i x.kind),.data (.str x.name),.data (.i x.index),.data (.i x.n),.data (.sl 5 (Ex.css x.l))]),(1000003,.cells [.data (.i 0)]),(1000004,.cells [.data (.i 0)])] (.ret (.data (.tuple []))) [(1000000,.cells [.data (.i e)]),(1000001,.cells [.data (.ptr (fC p F))]),(1000002,.cells [.data (.i x.kind),.data (.str x.name),.data (.i x.index),.data (.i x.n),.data (.sl 5 (Ex.css x.l))]),(1000003,.cells [.data (.i 0)]),(1000004,.cells [.data (.i 0)])]:=by
 refine dX Tryz.func74 ?_
 repeat' ((try(conv=>whnf))<;>first
  |exact trivial
  |((refine⟨_,_,_,[(1000000,2),(1000001,1000000)],Io (.data (.i 0)) e,rfl,⟨rfl,rfl,trivial⟩,?_,?_⟩);kernel_rfl)
  |(refine⟨([(1000000,1000000),(1000001,1000001),(1000002,1000002),(1000003,1000003),(1000004,1000004)]:List (Nat×Nat)),rfl,?_,?_⟩)
  |((refine lent_step' [(1000000,1000001),(1000001,1000002),(1000002,1000003),(1000003,1000004)] (XR p F x e 0 0 hc) ?_ ?_ ?_ ?_);rotate_left 0;exact rfl;(exact⟨rfl,rfl,rfl,rfl,trivial⟩);exact rfl)
  |(refine And.intro ?_ ?_)
  |fail)
 all_goals first
  |skip
theorem z2e(p:Pr)(x:Ex)(e:Int)(hw:PCall Tryz.prog 72 [p.d] (.ret (.tuple [.val (.pointer none),.i e])))(he:(e != 0)=true):PCall Tryz.prog 55 [p.d,x.d] (.ret (.tuple [.i 0,.i 0,.i e])):=by
 refine aJ Tryz.func55 ?_
 repeat' ((try(conv=>whnf))<;>first
  |(exact Bool.noConfusion (show true=false from he.symm.trans h))
  |refine BrI.intro (λh=>?_) (λh=>?_)
  |((refine ai ?_ ?_ ?_);rotate_left;(exact hw))
  |((refine ak ?_ ?_);kernel_rfl)
  |(refine fA ?_;conv=>whnf)
  |fail)
 all_goals first
  |skip
theorem z2f(p:Pr)(x:Ex)(F:List Sp)(e:Int)(hw:PCall Tryz.prog 72 [p.d] (.ret (.tuple [.ptr (fC p F),.i e])))(he:(e != 0)=true):PCall Tryz.prog 55 [p.d,x.d] (.ret (.tuple [.i 0,.i 0,.i e])):=by
 refine aJ Tryz.func55 ?_
 repeat' ((try(conv=>whnf))<;>first
  |(exact Bool.noConfusion (show true=false from he.symm.trans h))
  |refine BrI.intro (λh=>?_) (λh=>?_)
  |((refine ai ?_ ?_ ?_);rotate_left;(exact hw))
  |((refine ak ?_ ?_);kernel_rfl)
  |(refine fA ?_;conv=>whnf)
  |fail)
 all_goals first
  |skip
theorem XU(p:Pr)(x:Ex)(F:List Sp)(hw:PCall Tryz.prog 72 [p.d] (.ret (.tuple [.ptr (fC p F),.i 0])))(hx:(eu p x 512).2=false):PCall Tryz.prog 55 [p.d,x.d] (.ret (.tuple [.i 0,.i 0,.i 150])):=by
 refine aJ Tryz.func55 ?_
 repeat' ((try(conv=>whnf))<;>first
  |(exact Bool.noConfusion (show false=true from h))
  |(exact Bool.noConfusion (show true=false from(congrArg (!·) hx).symm.trans h))
  |refine BrI.intro (λh=>?_) (λh=>?_)
  |((refine ai ?_ ?_ ?_);rotate_left;(first |exact hw |exact Ag p x 512 (by decide) (by decide)))
  |(refine fA ?_;conv=>whnf)
  |fail)
 all_goals first
  |skip
theorem z7d(p:Pr)(x:Ex)(F:List Sp)(s:Sp)(hw:PCall Tryz.prog 72 [p.d] (.ret (.tuple [.ptr (fC p F),.i 0])))(hx:(eu p x 512).2=true)(hc:PCall Tryz.prog 76 [.ptr (fC p F),x.d] (.ret s.d)):PCall Tryz.prog 55 [p.d,x.d] (.ret (.tuple [.i s.1,.i s.2,.i 0])):=by
 refine aJ Tryz.func55 ?_
 repeat' ((try(conv=>whnf))<;>first
  |(exact Bool.noConfusion (show false=true from h))
  |(exact Bool.noConfusion (show false=true from(congrArg (!·) hx).symm.trans h))
  |refine BrI.intro (λh=>?_) (λh=>?_)
  |((refine ai ?_ ?_ ?_);rotate_left;(first |exact hw |exact Ag p x 512 (by decide) (by decide)))
  |((refine lent_step' [(1000000,6),(1000001,7),(1000002,3),(1000003,4),(1000004,5)] (XT p F x s hc) ?_ ?_ ?_ ?_);rotate_left 0;exact rfl;(exact⟨rfl,rfl,rfl,rfl,rfl,trivial⟩);exact rfl)
  |((refine ak ?_ ?_);kernel_rfl)
  |(refine fA ?_;conv=>whnf)
  |fail)
 all_goals first
  |skip
theorem z2g(p:Pr)(x:Ex)(F:List Sp)(e:Int)(hw:PCall Tryz.prog 72 [p.d] (.ret (.tuple [.ptr (fC p F),.i 0])))(hx:(eu p x 512).2=true)(hc:PCall Tryz.prog 76 [.ptr (fC p F),x.d] (.pan (.iface 30 (.i e)))):PCall Tryz.prog 55 [p.d,x.d] (.ret (.tuple [.i 0,.i 0,.i e])):=by
 refine aJ Tryz.func55 ?_
 repeat' ((try(conv=>whnf))<;>first
  |(exact Bool.noConfusion (show false=true from h))
  |(exact Bool.noConfusion (show false=true from(congrArg (!·) hx).symm.trans h))
  |refine BrI.intro (λh=>?_) (λh=>?_)
  |((refine ai ?_ ?_ ?_);rotate_left;(first |exact hw |exact Ag p x 512 (by decide) (by decide)))
  |((refine lent_step' [(1000000,6),(1000001,7),(1000002,3),(1000003,4),(1000004,5)] (U4 p F x e hc) ?_ ?_ ?_ ?_);rotate_left 0;exact rfl;(exact⟨rfl,rfl,rfl,rfl,rfl,trivial⟩);exact rfl)
  |((refine ak ?_ ?_);kernel_rfl)
  |(refine fA ?_;conv=>whnf)
  |fail)
 all_goals first
  |skip
end Go.Proofs.YthpbakljheeabaaGreatDoor
