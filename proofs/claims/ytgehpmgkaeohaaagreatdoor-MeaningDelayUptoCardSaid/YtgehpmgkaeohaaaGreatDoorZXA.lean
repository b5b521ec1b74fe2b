/- A part of the proof. -/
import Derived.Test.YtgehpmgkaeohaaaGreatDoorZSA
import Derived.Test.YtgehpmgkaeohaaaGreatDoorZRB
set_option linter.all false
set_option maxHeartbeats 4000000
namespace Go.Proofs.YtgehpmgkaeohaaaGreatDoor
open Go.Fw Go.Fw.Rg
set_option maxRecDepth 10000
variable [ae]
theorem Xt(x:Int)  : PCall Tryz.prog 168 [.i x] (.ret (.i (oK x))):=by
 refine ak Tryz.func168 ?_
 repeat' ((try conv=>whnf)<;>first
  |refine BrI.intro (λh=>?_) (λh=>?_)
  |(refine dm ?_;conv=>whnf)
  |fail)
 all_goals (refine congrArg D.i ?_;unfold oK;simp only[decide_eq_true_eq,decide_eq_false_iff_not]at *;(repeat' split)<;>omega)
theorem JU(a n:Int)(ha:inW a=true)(hn:1<=n)(hn2:n<=2147483648):PCall Tryz.prog 179 [.i a,.i n] (.ret (.i (ji a n))):=by
 refine ak Tryz.func179 ?_
 repeat' ((try conv=>whnf)<;>first
  |refine BrI.intro (λh=>?_) (λh=>?_)
  |(refine dm ?_;conv=>whnf)
  |refine And.intro ?_ ?_
  |fail)
 all_goals first
  |omega
  |exact congrArg D.i (YY hn hn2 ha (of_decide_eq_true h))
  |exact congrArg D.i (YZ hn ha (of_decide_eq_false h))
theorem PD(a b:Int)(hc:zf0 a b=false)(hw:IntKind.i64.wrap (a+b)=a+b):PCall Tryz.prog 174 [.i a,.i b] (.ret (.i (a+b))):=by
 refine ak Tryz.func174 ?_
 repeat' ((try conv=>whnf)<;>first
  |refine BrI.intro (λh=>?_) (λh=>?_)
  |exact Bool.noConfusion (hc.symm.trans h)
  |(refine dm ?_;conv=>whnf)
  |fail)
 all_goals exact congrArg D.i hw
theorem add_bad(a b:Int)(hc:zf0 a b=true):PCall Tryz.prog 174 [.i a,.i b] (.pan (.iface 34 (.i 160))):=by
 refine ak Tryz.func174 ?_
 repeat' ((try conv=>whnf)<;>first
  |refine BrI.intro (λh=>?_) (λh=>?_)
  |exact Bool.noConfusion (hc.symm.trans h)
  |((refine y5 ?_);refine⟨[],rfl,?_,trivial⟩;conv=>whnf)
  |fail)
theorem z9s(n:Int)(f:Bool)(hc:Rn n f=false):PCall Tryz.prog 219 [.i n,.b f] (.ret (.i n)):=by
 refine ak Tryz.func219 ?_
 repeat' ((try conv=>whnf)<;>first
  |refine BrI.intro (λh=>?_) (λh=>?_)
  |exact Bool.noConfusion (hc.symm.trans h)
  |(refine dm ?_;conv=>whnf)
  |fail)
theorem z0e(n:Int)(f:Bool)(hc:Rn n f=true):PCall Tryz.prog 219 [.i n,.b f] (.pan (.iface 34 (.i 160))):=by
 refine ak Tryz.func219 ?_
 repeat' ((try conv=>whnf)<;>first
  |refine BrI.intro (λh=>?_) (λh=>?_)
  |exact Bool.noConfusion (hc.symm.trans h)
  |((refine y5 ?_);refine⟨[],rfl,?_,trivial⟩;conv=>whnf)
  |fail)
theorem mul_zero(a b:Int)(hz:z1y a b=true):PCall Tryz.prog 177 [.i a,.i b] (.ret (.i 0)):=by
 refine ak Tryz.func177 ?_
 repeat' ((try conv=>whnf)<;>first
  |refine BrI.intro (λh=>?_) (λh=>?_)
  |exact Bool.noConfusion (hz.symm.trans h)
  |(refine dm ?_;conv=>whnf)
  |fail)
theorem ze5(a b:Int)(hz:z1y a b=false)(hb:b≠0)(hq:mm2 true b (IntKind.i64.wrap (0-b))≠0)(hw:Rn (IntKind.i64.wrap (a * b)) (zb8 a b)=false):PCall Tryz.prog 177 [.i a,.i b] (.ret (.i (IntKind.i64.wrap (a * b)))):=by
 refine ak Tryz.func177 ?_
 repeat' ((try conv=>whnf)<;>first
  |refine BrI.intro (λh=>?_) (λh=>?_)
  |exact Bool.noConfusion (hz.symm.trans h)
  |((refine ah ?_ ?_ ?_);rotate_left;exact z9s _ _ hw)
  |((refine aK ?_ ?_ (λhg=>?_) ?_);rfl)
  |((refine bf ?_ ?_);rfl;rfl)
  |((refine gq ?_ ?_);rfl)
  |(refine dm ?_;conv=>whnf)
  |refine And.intro ?_ ?_
  |fail)
 all_goals first
  |exact hb
  |exact hq
theorem z9t(a b:Int)(hz:z1y a b=false)(hb:b≠0)(hq:mm2 true b (IntKind.i64.wrap (0-b))≠0)(hw:Rn (IntKind.i64.wrap (a * b)) (zb8 a b)=true):PCall Tryz.prog 177 [.i a,.i b] (.pan (.iface 34 (.i 160))):=by
 refine ak Tryz.func177 ?_
 repeat' ((try conv=>whnf)<;>first
  |refine BrI.intro (λh=>?_) (λh=>?_)
  |exact Bool.noConfusion (hz.symm.trans h)
  |((refine ah ?_ ?_ ?_);rotate_left;exact z0e _ _ hw)
  |((refine aK ?_ ?_ (λhg=>?_) ?_);rfl)
  |((refine bf ?_ ?_);rfl;rfl)
  |((refine y5 ?_);refine⟨[],rfl,?_,trivial⟩;conv=>whnf)
  |refine And.intro ?_ ?_
  |fail)
 all_goals first
  |exact hb
  |exact hq
abbrev fC(p:Pr)(found:List Sp):List D:=[.str p.name,.i p.latency,.i p.tail,.sl 3 (p.params.map Bd.cs),.sl 3 (p.states.map Bd.cs),.sl 4 (p.lines.map Ln.cs),.sl 2 (p.tables.map Tb.cs),.sl 8 (p.stmts.map Sm.cs),.sl 2 (found.map Sp.cs)]
theorem vY(a b c:Int)(hc:c=b)(ha:inW a=true)(hb:inW b=true):PCall Tryz.prog 174 [.i a,.i c] (zf1 34 (okW (a+b))):=by
 subst hc
 unfold okW
 cases hw:inW (a+c)with
 |true=>exact PD a c (by rw[Vt ha hb,hw];rfl) (qR hw)
 |false=>exact add_bad a c (by rw[Vt ha hb,hw];rfl)
theorem vZ(a b:Int)(ha:inW a=true)(hb:inW b=true):PCall Tryz.prog 177 [.i a,.i b] (zf1 34 (okW (a * b))):=by
 cases hz:z1y a b with
 |true=>rw[z5z hz];exact mul_zero a b hz
 |false=>
  have hb0:=z6a hz
  have hq:mm2 true b (IntKind.i64.wrap (0-b))≠0:=by rw[fZ hb,LX];omega
  unfold okW
  cases hw:inW (a * b)with
  |true=>
   have:=ze5 a b hz hb0 hq (by rw[OU ha hb hb0,hw];rfl)
   rw[qR hw]at this;exact this
  |false=>exact z9t a b hz hb0 hq (by rw[OU ha hb hb0,hw];rfl)
theorem op1(p:Pr)(found:List Sp)(x:Ex)  : PCall Tryz.prog 160 [.ptr (fC p found),x.d,.sl 2 []] (.ret (Sp.d (x.n,x.n))):=by
 refine ak Tryz.func160 ?_
 repeat' ((try conv=>whnf)<;>first
  |(refine dm ?_;conv=>whnf)
  |fail)
theorem op3(p:Pr)(found:List Sp)(x:Ex)(h0:0<=x.index)(h1:x.index<p.params.length):PCall Tryz.prog 161 [.ptr (fC p found),x.d,.sl 2 []] (.ret (Sp.d ((jk p x.index).lo,(jk p x.index).hi))):=by
 refine ak Tryz.func161 ?_
 repeat' ((try conv=>whnf)<;>first
  |((refine eX Rg.Bd.none ?_ ?_ h0 h1 ?_);rfl;rfl)
  |refine eU ?_
  |(refine dm ?_;conv=>whnf)
  |fail)
theorem op4(p:Pr)(found:List Sp)(x:Ex)(h0:0<=x.index)(h1:x.index<p.states.length):PCall Tryz.prog 162 [.ptr (fC p found),x.d,.sl 2 []] (.ret (Sp.d ((bH p x.index).lo,(bH p x.index).hi))):=by
 refine ak Tryz.func162 ?_
 repeat' ((try conv=>whnf)<;>first
  |((refine eX Rg.Bd.none ?_ ?_ h0 h1 ?_);rfl;rfl)
  |refine eU ?_
  |(refine dm ?_;conv=>whnf)
  |fail)
theorem op5(p:Pr)(found:List Sp)(x:Ex)(h0:0<=x.index)(h1:x.index<found.length):PCall Tryz.prog 163 [.ptr (fC p found),x.d,.sl 2 []] (.ret (Sp.d (found.getD x.index.toNat (0,0)))):=by
 refine ak Tryz.func163 ?_
 repeat' ((try conv=>whnf)<;>first
  |((refine eX ((0,0):Sp) ?_ ?_ h0 h1 ?_);rfl;rfl)
  |refine pF ?_
  |refine eU ?_
  |(refine dm ?_;conv=>whnf)
  |fail)
theorem z3p(p:Pr)(found:List Sp)(x:Ex)(a:Sp)(hc:(decide (a.1<0) || decide (a.2>4096))=false):PCall Tryz.prog 164 [.ptr (fC p found),x.d,.sl 2 [[.i a.1,.i a.2]]] (.ret (Sp.d (-2147483648,2147483647))):=by
 refine ak Tryz.func164 ?_
 repeat' ((try conv=>whnf)<;>first
  |refine BrI.intro (λh=>?_) (λh=>?_)
  |exact Bool.noConfusion (hc.symm.trans ((z1x _ _).symm.trans h))
  |refine yG ?_
  |refine pF ?_
  |((refine aK ?_ ?_ (λhg=>?_) ?_);rfl)
  |((refine bf ?_ ?_);rfl;rfl)
  |(refine dm ?_;conv=>whnf)
  |refine And.intro ?_ ?_
  |fail)
 all_goals decide
theorem Xu(p:Pr)(found:List Sp)(x:Ex)(a:Sp)(hc:(decide (a.1<0) || decide (a.2>4096))=true):PCall Tryz.prog 164 [.ptr (fC p found),x.d,.sl 2 [[.i a.1,.i a.2]]] (.pan (.iface 34 (.i 161))):=by
 refine ak Tryz.func164 ?_
 repeat' ((try conv=>whnf)<;>first
  |refine BrI.intro (λh=>?_) (λh=>?_)
  |exact Bool.noConfusion (hc.symm.trans ((z1x _ _).symm.trans h))
  |refine yG ?_
  |((refine aK ?_ ?_ (λhg=>?_) ?_);rfl)
  |((refine bf ?_ ?_);rfl;rfl)
  |((refine y5 ?_);refine⟨[],rfl,?_,trivial⟩;conv=>whnf)
  |refine And.intro ?_ ?_
  |fail)
 all_goals decide
theorem op8(p:Pr)(found:List Sp)(x:Ex)(a:Sp)(h0:0<=x.index)(h1:x.index<p.lines.length):PCall Tryz.prog 165 [.ptr (fC p found),x.d,.sl 2 [[.i a.1,.i a.2]]] (.ret (Sp.d (mm2 false (bW p x.index).lo 0,mm2 true (bW p x.index).hi 0))):=by
 refine ak Tryz.func165 ?_
 repeat' ((try conv=>whnf)<;>first
  |((refine eX Rg.Ln.none ?_ ?_ h0 h1 ?_);rfl;rfl)
  |refine eU ?_
  |(refine dm ?_;conv=>whnf)
  |fail)
theorem op9(p:Pr)(found:List Sp)(x:Ex)(a:Sp)(h0:0<=x.index)(h1:x.index<p.tables.length)(hv:0<(aI p x.index).length)(hvl:(aI p x.index).length<=1073741824):PCall Tryz.prog 166 [.ptr (fC p found),x.d,.sl 2 [[.i a.1,.i a.2]]] (.ret (Sp.d (minL ((aI p x.index).getD 0 0) (aI p x.index),maxL ((aI p x.index).getD 0 0) (aI p x.index)))):=by
 refine dJ Tryz.func166 λhf=>?_
 have hlen:(aI p x.index).length<=9223372036854775807:=by omega
 clear hf
 repeat' ((try conv=>whnf)<;>first
  |exact trivial
  |exact ai hd0 ‹_›
  |refine bM hd0 ?_
  |refine aU hd0 ?_
  |((refine eX Rg.Tb.none ?_ ?_ h0 h1 ?_);rfl;rfl)
  |((refine eX (f:=z5k) (n:=0) (0:Int) ?_ ?_ ?_ ?_ ?_);rfl;rfl;exact Int.le_refl _;exact Int.ofNat_lt.2 hv)
  |((refine ax.mk 0 ?_);refine⟨aJ ((aI p x.index)) 30 (λ(q:(Int)×(Int))=>match q with |(lo,hi)=>[]) (λ(q:(Int)×(Int))=>match q with |(lo,hi)=>[(8,.cells [.data (.i lo),.data (.i hi)])]) [6,8,28,29] (λi0 r0 q=>match q with |(lo,hi)=>minL ((aI p x.index).getD 0 0) (aI p x.index)=minL lo r0/\maxL ((aI p x.index).getD 0 0) (aI p x.index)=maxL hi r0),?_⟩;refine af (((aI p x.index).getD 0 0),((aI p x.index).getD 0 0)) ?_ ?_ (λi0 ⟨lo,hi⟩ hd0 hI0=>?_) (λi0 x0 r0 ⟨lo,hi⟩ hd0 hl0 hI0=>?_))
  |refine ag hd0 ((mm2 false lo x0),(mm2 true hi x0)) ?_ ?_
  |((refine aH ?_ ?_ ?_ ?_ ?_);rfl;rfl;rotate_left;exact aG hd0)
  |refine eU ?_
  |(refine dm ?_;conv=>whnf)
  |refine And.intro ?_ ?_
  |exact @rfl AV _
  |fail)
 all_goals first
  |rfl
  |decide
  |exact hI0.1
  |exact hI0.2
  |(rw[hI0.1,hI0.2];rfl)
theorem zik(p:Pr)(found:List Sp)(x:Ex)(a:Sp)  : PCall Tryz.prog 167 [.ptr (fC p found),x.d,.sl 2 [[.i a.1,.i a.2]]] (.ret (Sp.d (oK a.1,oK a.2))):=by
 refine ak Tryz.func167 ?_
 repeat' ((try conv=>whnf)<;>first
  |refine yG ?_
  |((refine ah ?_ ?_ ?_);rotate_left;exact Xt _)
  |refine eU ?_
  |(refine dm ?_;conv=>whnf)
  |refine And.intro ?_ ?_
  |fail)
 all_goals decide
theorem zil(p:Pr)(found:List Sp)(x:Ex)(a b:Sp)  : PCall Tryz.prog 169 [.ptr (fC p found),x.d,.sl 2 [[.i a.1,.i a.2],[.i b.1,.i b.2]]] (.ret (Sp.d (mm2 false a.1 b.1,mm2 false a.2 b.2))):=by
 refine ak Tryz.func169 ?_
 repeat' ((try conv=>whnf)<;>first
  |refine yG ?_
  |refine eU ?_
  |(refine dm ?_;conv=>whnf)
  |refine And.intro ?_ ?_
  |fail)
 all_goals decide
theorem zim(p:Pr)(found:List Sp)(x:Ex)(a b:Sp)  : PCall Tryz.prog 170 [.ptr (fC p found),x.d,.sl 2 [[.i a.1,.i a.2],[.i b.1,.i b.2]]] (.ret (Sp.d (mm2 true a.1 b.1,mm2 true a.2 b.2))):=by
 refine ak Tryz.func170 ?_
 repeat' ((try conv=>whnf)<;>first
  |refine yG ?_
  |refine eU ?_
  |(refine dm ?_;conv=>whnf)
  |refine And.intro ?_ ?_
  |fail)
 all_goals decide
theorem zin(p:Pr)(found:List Sp)(x:Ex)(a:Sp)(ha:inW a.1=true)(hb:inW a.2=true):PCall Tryz.prog 171 [.ptr (fC p found),x.d,.sl 2 [[.i a.1,.i a.2]]] (.ret (Sp.d (Tu a))):=by
 refine ak Tryz.func171 ?_
 repeat' ((try conv=>whnf)<;>first
  |refine BrI.intro (λh=>?_) (λh=>?_)
  |refine yG ?_
  |refine pF ?_
  |refine eU ?_
  |(refine dm ?_;conv=>whnf)
  |refine And.intro ?_ ?_
  |fail)
 all_goals first
  |decide
  |(refine congrArg Sp.d ?_;unfold Tu;rw[if_pos (of_decide_eq_true h)];done)
  |(unfold Tu;rw[if_neg (of_decide_eq_false ‹decide (a.1>=0)=false›),if_pos (of_decide_eq_true h),fZ ha,fZ hb];done)
  |(unfold Tu;rw[if_neg (of_decide_eq_false ‹decide (a.1>=0)=false›),if_neg (of_decide_eq_false h),fZ ha];done)
theorem zio(p:Pr)(found:List Sp)(x:Ex)(a:Sp)(ha:inW a.1=true)(hb:inW a.2=true):PCall Tryz.prog 172 [.ptr (fC p found),x.d,.sl 2 [[.i a.1,.i a.2]]] (.ret (Sp.d (-a.2,-a.1))):=by
 refine ak Tryz.func172 ?_
 repeat' ((try conv=>whnf)<;>first
  |refine yG ?_
  |refine eU ?_
  |(refine dm ?_;conv=>whnf)
  |refine And.intro ?_ ?_
  |fail)
 all_goals first
  |decide
  |(rw[fZ ha,fZ hb];done)
theorem ziq(p:Pr)(found:List Sp)(x:Ex)(a b:Sp)(ha:inW a.1=true/\inW a.2=true)(hb:inW b.1=true/\inW b.2=true):PCall Tryz.prog 173 [.ptr (fC p found),x.d,.sl 2 [[.i a.1,.i a.2],[.i b.1,.i b.2]]] (Vw 34 (two (a.1+b.1) (a.2+b.2))):=by
 refine ak Tryz.func173 ?_
 repeat' ((try conv=>whnf)<;>first
  |((refine bP _ _ _ [false,false,false,false,false,false,false,false,true,true,true] ?_ ?_ ?_);rfl;kernel_rfl)
  |((refine bP _ _ _ [true,true] ?_ ?_ ?_);rfl;kernel_rfl)
  |((refine quiet_step ?_ ?_);kernel_rfl)
  |refine jR (vY a.1 b.1 _ rfl ha.1 hb.1) (λn1 q1=>?_) (λe1 q1=>?_)
  |refine jR (vY a.2 b.2 _ rfl ha.2 hb.2) (λn2 q2=>?_) (λe2 q2=>?_)
  |((refine FZ (n1,n2) (z1z q1 q2) ?_);refine⟨[],rfl,?_,trivial⟩;conv=>whnf)
  |((refine ng e1 (z14 q1) ?_);refine⟨[],rfl,?_,trivial⟩;conv=>whnf)
  |((refine ng e2 (z15 q2) ?_);refine⟨[],rfl,?_,trivial⟩;conv=>whnf)
  |refine yG ?_
  |refine eU ?_
  |((refine eu ?_ ?_);kernel_rfl)
  |refine And.intro ?_ ?_
  |fail)
 all_goals decide
theorem zir(p:Pr)(found:List Sp)(x:Ex)(a b:Sp)(ha:inW a.1=true/\inW a.2=true)(hb:inW b.1=true/\inW b.2=true):PCall Tryz.prog 175 [.ptr (fC p found),x.d,.sl 2 [[.i a.1,.i a.2],[.i b.1,.i b.2]]] (Vw 34 (two (a.1 + -b.2) (a.2 + -b.1))):=by
 refine ak Tryz.func175 ?_
 repeat' ((try conv=>whnf)<;>first
  |((refine bP _ _ _ [false,false,false,false,false,false,false,false,false,true,true,true] ?_ ?_ ?_);rfl;kernel_rfl)
  |((refine bP _ _ _ [true,true] ?_ ?_ ?_);rfl;kernel_rfl)
  |((refine quiet_step ?_ ?_);kernel_rfl)
  |refine jR (vY a.1 (-b.2) _ (fZ hb.2) ha.1 (Ba hb.2)) (λn1 q1=>?_) (λe1 q1=>?_)
  |refine jR (vY a.2 (-b.1) _ (fZ hb.1) ha.2 (Ba hb.1)) (λn2 q2=>?_) (λe2 q2=>?_)
  |((refine FZ (n1,n2) (z1z q1 q2) ?_);refine⟨[],rfl,?_,trivial⟩;conv=>whnf)
  |((refine ng e1 (z14 q1) ?_);refine⟨[],rfl,?_,trivial⟩;conv=>whnf)
  |((refine ng e2 (z15 q2) ?_);refine⟨[],rfl,?_,trivial⟩;conv=>whnf)
  |refine yG ?_
  |refine eU ?_
  |((refine eu ?_ ?_);kernel_rfl)
  |refine And.intro ?_ ?_
  |fail)
 all_goals decide
theorem zis(p:Pr)(found:List Sp)(x:Ex)(a b:Sp)(ha:inW a.1=true/\inW a.2=true)(hb:inW b.1=true/\inW b.2=true):PCall Tryz.prog 176 [.ptr (fC p found),x.d,.sl 2 [[.i a.1,.i a.2],[.i b.1,.i b.2]]] (Vw 34 (prodM a b)):=by
 refine ak Tryz.func176 ?_
 repeat' ((try conv=>whnf)<;>first
  |((refine bP _ _ _ [false,false,false,false,false,false,false,false,true,false,false,false,false,false,false,false,false,true,false,false,false,false,false,false,false,false,true,true,true,true,true] ?_ ?_ ?_);rfl;kernel_rfl)
  |((refine bP _ _ _ [false,false,false,false,false,false,false,false,true,false,false,false,false,false,false,false,false,true,true,true,true,true] ?_ ?_ ?_);rfl;kernel_rfl)
  |((refine bP _ _ _ [false,false,false,false,false,false,false,false,true,true,true,true,true] ?_ ?_ ?_);rfl;kernel_rfl)
  |((refine bP _ _ _ [true,true,true,true] ?_ ?_ ?_);rfl;kernel_rfl)
  |((refine quiet_step ?_ ?_);kernel_rfl)
  |refine jR (vZ a.1 b.1 ha.1 hb.1) (λn1 q1=>?_) (λe1 q1=>?_)
  |refine jR (vZ a.1 b.2 ha.1 hb.2) (λn2 q2=>?_) (λe2 q2=>?_)
  |refine jR (vZ a.2 b.1 ha.2 hb.1) (λn3 q3=>?_) (λe3 q3=>?_)
  |refine jR (vZ a.2 b.2 ha.2 hb.2) (λn4 q4=>?_) (λe4 q4=>?_)
  |((refine FZ (KA n1 n2 n3 n4,KC n1 n2 n3 n4) (z6c q1 q2 q3 q4) ?_);refine⟨[],rfl,?_,trivial⟩;conv=>whnf)
  |((refine ng e1 (y8 (.inl q1)) ?_);refine⟨[],rfl,?_,trivial⟩;conv=>whnf)
  |((refine ng e2 (y8 (.inr (.inl q2))) ?_);refine⟨[],rfl,?_,trivial⟩;conv=>whnf)
  |((refine ng e3 (y8 (.inr (.inr (.inl q3)))) ?_);refine⟨[],rfl,?_,trivial⟩;conv=>whnf)
  |((refine ng e4 (y8 (.inr (.inr (.inr q4)))) ?_);refine⟨[],rfl,?_,trivial⟩;conv=>whnf)
  |refine yG ?_
  |refine eU ?_
  |((refine eu ?_ ?_);kernel_rfl)
  |refine And.intro ?_ ?_
  |fail)
 all_goals first
  |rfl
  |decide
theorem zit(p:Pr)(found:List Sp)(x:Ex)(a:Sp)(ha:inW a.1=true)(hb:inW a.2=true)(hn:1<=x.n)(hn2:x.n<=2147483648):PCall Tryz.prog 178 [.ptr (fC p found),x.d,.sl 2 [[.i a.1,.i a.2]]] (.ret (Sp.d (ji a.1 x.n,ji a.2 x.n))):=by
 refine ak Tryz.func178 ?_
 repeat' ((try conv=>whnf)<;>first
  |refine yG ?_
  |((refine ah ?_ ?_ ?_);rotate_left;(first |exact JU _ _ (by assumption) (by assumption) (by assumption) |exact JU a.1 x.n ha hn hn2))
  |refine eU ?_
  |(refine dm ?_;conv=>whnf)
  |refine And.intro ?_ ?_
  |fail)
 all_goals decide
theorem ziu(p:Pr)(found:List Sp)(x:Ex)(a b c d:Sp)  : PCall Tryz.prog 180 [.ptr (fC p found),x.d,.sl 2 [[.i a.1,.i a.2],[.i b.1,.i b.2],[.i c.1,.i c.2],[.i d.1,.i d.2]]] (.ret (Sp.d (mm2 false c.1 d.1,mm2 true c.2 d.2))):=by
 refine ak Tryz.func180 ?_
 repeat' ((try conv=>whnf)<;>first
  |refine yG ?_
  |refine eU ?_
  |(refine dm ?_;conv=>whnf)
  |refine And.intro ?_ ?_
  |fail)
 all_goals decide
abbrev zgo:List D:=[.val .nilFunc,.fn 160 [],.val .nilFunc,.fn 161 [],.fn 162 [],.fn 163 [],.fn 164 [],.fn 164 [],.fn 165 [],.fn 166 [],.fn 167 [],.fn 169 [],.fn 170 [],.fn 171 [],.fn 172 [],.fn 173 [],.fn 175 [],.fn 176 [],.fn 178 [],.fn 180 []]
def opF(k:Int):Nat:=match zgo.getD k.toNat (.val .nilFunc)with | .fn f _=>f |_=>0
theorem BV   : PCall Tryz.prog 130 [] (.ret (.agg zgo)):=by
 refine ak Tryz.func130 ?_
 repeat' ((try conv=>whnf)<;>first
  |(refine dm ?_;conv=>whnf)
  |fail)
theorem Xv{p:Pr}{n:Nat}{k i m:Int}(hw:tX p n k i m=true){q:D->Prop}(h:q (.fn (opF k) [])):∃c,(0<=k/\zgo[k.toNat]? = some c)/\q c:=by
 rcases kinds hw with rfl |rfl |rfl |rfl |rfl |rfl |rfl |rfl |rfl |rfl |rfl |rfl |rfl |rfl |rfl |rfl |rfl |rfl<;>exact⟨_,⟨by decide,rfl⟩,h⟩
theorem zgp{p:Pr}{n:Nat}{k i m:Int}(hw:tX p n k i m=true):Nat.beq (opF k) xR=false:=by
 rcases kinds hw with rfl |rfl |rfl |rfl |rfl |rfl |rfl |rfl |rfl |rfl |rfl |rfl |rfl |rfl |rfl |rfl |rfl |rfl<;>rfl
theorem Qd{b:Bool}{p q:Prop}:b=false->p->(match b with |true=>q |false=>p):=by intro h h2;subst h;exact h2
theorem z9u(p:Pr)(found:List Sp)(x:Ex)(sl:List Sp)(hR:Rng p)(hT:∀t∈p.tables,t.values.length<=1073741824)(hw:wfX p found.length x=true)(hl:sl.length=x.l.length)(hs:InS sl) :
  PCall Tryz.prog (opF x.kind) [.ptr (fC p found),x.d,.sl 2 (sl.map Sp.cs)] (Vw 34 (opM p found x.kind x.index x.n sl)):=by
 obtain⟨h1,h2,_⟩:=bZ hw
 rw[<-hl]at h1
 generalize hk:x.kind=k at h1 h2
 have nil:(sl.length:Int)=0->sl = []:=λh=>List.length_eq_zero_iff.1 (by omega)
 rcases kinds h2 with rfl |rfl |rfl |rfl |rfl |rfl |rfl |rfl |rfl |rfl |rfl |rfl |rfl |rfl |rfl |rfl |rfl |rfl
 ·obtain rfl:=nil h1
  exact op1 p found x
 ·obtain rfl:=nil h1
  have h2:(decide (0<=x.index)&&decide (x.index<p.params.length))=true:=h2
  simp only[Bool.and_eq_true,decide_eq_true_eq]at h2
  exact op3 p found x h2.1 h2.2
 ·obtain rfl:=nil h1
  have h2:(decide (0<=x.index)&&decide (x.index<p.states.length))=true:=h2
  simp only[Bool.and_eq_true,decide_eq_true_eq]at h2
  exact op4 p found x h2.1 h2.2
 ·obtain rfl:=nil h1
  have h2:(decide (0<=x.index)&&decide (x.index<found.length))=true:=h2
  simp only[Bool.and_eq_true,decide_eq_true_eq]at h2
  exact op5 p found x h2.1 h2.2
 ·obtain⟨a,rfl⟩:=Bf (sl:=sl) (by have h1:(sl.length:Int)=1:=h1;omega)
  show PCall Tryz.prog _ _ (Vw _ (aheadM a))
  unfold aheadM
  cases hc:(decide (a.1<0) || decide (a.2>4096))with
  |true=>exact Xu p found x a hc
  |false=>exact z3p p found x a hc
 ·obtain⟨a,rfl⟩:=Bf (sl:=sl) (by have h1:(sl.length:Int)=1:=h1;omega)
  show PCall Tryz.prog _ _ (Vw _ (aheadM a))
  unfold aheadM
  cases hc:(decide (a.1<0) || decide (a.2>4096))with
  |true=>exact Xu p found x a hc
  |false=>exact z3p p found x a hc
 ·have h1:(sl.length:Int)=1:=h1
  have h2:(decide (0<=x.index)&&decide (x.index<p.lines.length))=true:=h2
  simp only[Bool.and_eq_true,decide_eq_true_eq]at h2
  obtain⟨a,rfl⟩:=Bf (sl:=sl) (by omega)
  exact op8 p found x a h2.1 h2.2
 ·have h1:(sl.length:Int)=1:=h1
  have h2:(decide (0<=x.index)&&decide (x.index<p.tables.length) && !(aI p x.index==[]))=true:=h2
  simp only[Bool.and_eq_true,decide_eq_true_eq]at h2
  obtain⟨a,rfl⟩:=Bf (sl:=sl) (by omega)
  have h3:aI p x.index ≠ []:=by simpa using h2.2
  exact op9 p found x a h2.1.1 h2.1.2 (List.length_pos_iff.2 h3) (hT _ (getD_mem' Rg.Tb.none h2.1.1 h2.1.2))
 ·obtain⟨a,rfl⟩:=Bf (sl:=sl) (by have h1:(sl.length:Int)=1:=h1;omega)
  exact zik p found x a
 ·obtain⟨a,b,rfl⟩:=Vy (sl:=sl) (by have h1:(sl.length:Int)=2:=h1;omega)
  exact zil p found x a b
 ·obtain⟨a,b,rfl⟩:=Vy (sl:=sl) (by have h1:(sl.length:Int)=2:=h1;omega)
  exact zim p found x a b
 ·obtain⟨a,rfl⟩:=Bf (sl:=sl) (by have h1:(sl.length:Int)=1:=h1;omega)
  exact zin p found x a (hs a (by simp)).1 (hs a (by simp)).2
 ·obtain⟨a,rfl⟩:=Bf (sl:=sl) (by have h1:(sl.length:Int)=1:=h1;omega)
  exact zio p found x a (hs a (by simp)).1 (hs a (by simp)).2
 ·obtain⟨a,b,rfl⟩:=Vy (sl:=sl) (by have h1:(sl.length:Int)=2:=h1;omega)
  exact ziq p found x a b (hs a (by simp)) (hs b (by simp))
 ·obtain⟨a,b,rfl⟩:=Vy (sl:=sl) (by have h1:(sl.length:Int)=2:=h1;omega)
  exact zir p found x a b (hs a (by simp)) (hs b (by simp))
 ·obtain⟨a,b,rfl⟩:=Vy (sl:=sl) (by have h1:(sl.length:Int)=2:=h1;omega)
  exact zis p found x a b (hs a (by simp)) (hs b (by simp))
 ·obtain⟨a,rfl⟩:=Bf (sl:=sl) (by have h1:(sl.length:Int)=1:=h1;omega)
  have h2:(decide (1<=x.n)&&decide (x.n<=2147483648))=true:=h2
  simp only[Bool.and_eq_true,decide_eq_true_eq]at h2
  exact zit p found x a (hs a (by simp)).1 (hs a (by simp)).2 h2.1 h2.2
 ·obtain⟨a,b,c,d,rfl⟩:=zf2 (sl:=sl) (by have h1:(sl.length:Int)=4:=h1;omega)
  exact ziu p found x a b c d
theorem xO(x:Ex)(p:Pr)(found:List Sp)(hR:Rng p)(hF:InS found)(hT:∀t∈p.tables,t.values.length<=1073741824)(hx:Ref15.nodes x<=1073741824)(hw:wfX p found.length x=true):PCall Tryz.prog 98 [.ptr (fC p found),x.d] (Vw 34 (dD p found x)):=by
 revert x;refine Ex.ind λx ih hx hw=>?_
 refine dJ Tryz.func98 λhf=>?_
 have hN:=Ref15.nodes_eq x
 have hL:=Ref15.len_nodes x.l
 have hlen:x.l.length<=9223372036854775807:=by omega
 obtain⟨g1,g2,g3⟩:=bZ hw
 clear hf
 repeat' ((try conv=>whnf)<;>first
  |((refine bP _ _ _ [true] ?_ ?_ ?_);rfl;kernel_rfl)
  |((refine quiet_step ?_ ?_);kernel_rfl)
  |refine OV (ih x0 (bK hd0) (by have:=qx (bK hd0);omega) (mZ g3 _ (bK hd0))) (λs1 q1=>?_) (λe1 q1=>?_)
  |refine OV (z9u p found x sl hR hT hw (I4 (y9 hI0.1).2) (Y0 hR hF g3 (y9 hI0.1).2)) (λs2 q2=>?_) (λe2 q2=>?_)
  |((refine FZ s2 ((y9 hI0.1).1.trans q2) ?_);refine⟨[],rfl,?_,trivial⟩;conv=>whnf)
  |((refine ng e2 ((y9 hI0.1).1.trans q2) ?_);refine⟨[],rfl,?_,trivial⟩;conv=>whnf)
  |((refine ng e1 (Y1 hI0.1 q1) ?_);refine⟨[],rfl,?_,trivial⟩;conv=>whnf)
  |refine Xv g2 ?_
  |refine Qd (zgp g2) ?_
  |exact trivial
  |exact ai hd0 ‹_›
  |refine kF hd0 ?_
  |refine iD hd0 ?_
  |((refine ax.mk 0 ?_);refine⟨aJ (x.l) 11 (λ(sl:(List Sp))=>[(5,.gs 900005 2 (sl.map Sp.cs))]) (λ(sl:(List Sp))=>[(900005,.tok 2 (sl.map Sp.cs).length)]) [0,3,4,9,10] (λi0 r0 sl=>pre sl (dh p found r0)=dh p found x.l/\sl.length=i0),?_⟩;refine af [] ?_ ?_ (λi0 (sl:(List Sp)) hd0 hI0=>?_) (λi0 x0 r0 (sl:(List Sp)) hd0 hl0 hI0=>?_))
  |refine ag hd0 (sl++[s1]) ?_ ?_
  |((refine ah ?_ ?_ ?_);rotate_left;exact BV)
  |refine aF.l _ ?_
  |((refine bY ?_ ?_ ?_ ?_ ?_ ?_)<;>exact rfl)
  |((refine cO ?_ ?_ ?_ ?_)<;>exact rfl)
  |((refine aH ?_ ?_ ?_ ?_ ?_);rfl;rfl;rotate_left;exact fO hd0)
  |refine pF ?_
  |refine wz ?_ ?_ ?_
  |refine eU ?_
  |((refine eu ?_ ?_);kernel_rfl)
  |refine And.intro ?_ ?_
  |((refine mY ?_ ?_ ?_);rfl;rfl;(first |exact bz |skip))
  |((refine gu ?_ ?_);rfl;(first |exact bz |skip))
  |exact @rfl AV _
  |exact dP rfl
  |fail)
 all_goals first
  |rfl
  |exact pre_nil _
  |exact Vx hI0.1 q1
  |(rw[List.length_append,hI0.2];rfl)
  |(rw[List.length_map];omega)
theorem G7(p:Pr)(FF:List Sp)(R:Except Int (List Sp))(hR:Rng p)(hT:∀t∈p.tables,t.values.length<=1073741824)(hn:∀s∈p.stmts,Ref15.nodes s.x<=1073741824)(hl:p.stmts.length<=1073741824)(hw:vF p 0 p.stmts=true)(hS:bT p p.stmts []=R)(hF:ik p p.stmts []=FF)(hRR:R = .ok FF):aj Tryz.prog 128 [.ptr 1000000 0] [(1000000,.cells [.data (.str p.name),.data (.i p.latency),.data (.i p.tail),.data (.sl 3 (p.params.map Bd.cs)),.data (.sl 3 (p.states.map Bd.cs)),.data (.sl 4 (p.lines.map Ln.cs)),.data (.sl 2 (p.tables.map Tb.cs)),.data (.sl 8 (p.stmts.map Sm.cs)),.nilsl 2])] (.ret (.data (.tuple []))) [(1000000,.cells [.data (.str p.name),.data (.i p.latency),.data (.i p.tail),.data (.sl 3 (p.params.map Bd.cs)),.data (.sl 3 (p.states.map Bd.cs)),.data (.sl 4 (p.lines.map Ln.cs)),.data (.sl 2 (p.tables.map Tb.cs)),.data (.sl 8 (p.stmts.map Sm.cs)),.gs 1000001 2 (FF.map Sp.cs)]),(1000001,.tok 2 (FF.map Sp.cs).length)]:=by
 refine o7 Tryz.func128 λhf=>?_
 have hlen:p.stmts.length<=9223372036854775807:=by omega
 clear hf
 repeat' ((try conv=>whnf)<;>first
  |exact(I9 (hRR.symm.trans (Gf hI0 q1).1)).elim
  |exact(I9 (hRR.symm.trans (iK hI0 q1 (jY (B:=((bH p x0.index).lo,(bH p x0.index).hi)) (zca ‹_›) h)).1)).elim
  |exact(I9 (hRR.symm.trans (iK hI0 q1 (jY (B:=((bW p x0.index).lo,(bW p x0.index).hi)) (zcb ‹_› ‹_›) h)).1)).elim
  |exact(I9 (hRR.symm.trans (iK hI0 q1 (jY (B:=(-2147483648,2147483647)) (zcc ‹_› ‹_› ‹_›) h)).1)).elim
  |exact(I9 (hRR.symm.trans (iK hI0 q1 (jY (B:=(-4611686018427387904,4611686018427387904)) (zcd ‹_› ‹_› ‹_›) h)).1)).elim
  |((have hq:=(VB hI0).2);subst hq)
  |refine I7 (xO x0.x p fs hR hI0.ins hT (hn _ (bK hd0)) (F9 hI0)) (λs1 q1=>?_) (λe1 q1=>?_)
  |exact trivial
  |exact ai hd0 ‹_›
  |refine bM hd0 ?_
  |refine aU hd0 ?_
  |refine BrI.intro (λh=>?_) (λh=>?_)
  |((refine dC ?_ ?_);rfl)
  |((refine yZ ?_ ?_ ?_);rfl;rfl)
  |((refine eX Rg.Bd.none ?_ ?_ (OW hI0.wf h).1 (OW hI0.wf h).2 ?_);rfl;rfl)
  |((refine eX Rg.Ln.none ?_ ?_ (OX hI0.wf h).1 (OX hI0.wf h).2 ?_);rfl;rfl)
  |((refine ax.mk 0 ?_);refine⟨aJ (p.stmts) 13 (λ(fs:(List Sp))=>[]) (λ(fs:(List Sp))=>[(1000000,.cells [.data (.str p.name),.data (.i p.latency),.data (.i p.tail),.data (.sl 3 (p.params.map Bd.cs)),.data (.sl 3 (p.states.map Bd.cs)),.data (.sl 4 (p.lines.map Ln.cs)),.data (.sl 2 (p.tables.map Tb.cs)),.data (.sl 8 (p.stmts.map Sm.cs)),.gs 900007 2 (fs.map Sp.cs)]),(900007,.tok 2 (fs.map Sp.cs).length)]) [0,11,12] (λi0 r0 fs=>StI p R FF i0 r0 fs),?_⟩;refine af ([]) ?_ ?_ (λi0 (fs:(List Sp)) hd0 hI0=>?_) (λi0 x0 r0 (fs:(List Sp)) hd0 hl0 hI0=>?_))
  |refine ag hd0 (fs++[s1]) ?_ ?_
  |((refine bg ?_);refine fin_step' [(1000000,1000000),(1000001,900007)] rfl ?_ ?_)
  |refine aF.l _ ?_
  |((refine bY ?_ ?_ ?_ ?_ ?_ ?_)<;>exact rfl)
  |((refine cO ?_ ?_ ?_ ?_)<;>exact rfl)
  |((refine aH ?_ ?_ ?_ ?_ ?_);rfl;rfl;rotate_left;exact aG hd0)
  |refine pF ?_
  |refine wz ?_ ?_ ?_
  |refine eU ?_
  |refine And.intro ?_ ?_
  |((refine mY ?_ ?_ ?_);rfl;rfl;(first |exact bz |skip))
  |((refine gu ?_ ?_);rfl;(first |exact bz |skip))
  |((refine bQ ?_);refine ig ?_ ?_ ?_;rfl;rfl;(first |exact rfl |skip))
  |exact @rfl AV _
  |exact dP rfl
  |fail)
 all_goals first
  |decide
  |exact I8 hS hF hw
  |exact mi hR hI0 q1 (mg (B:=((bH p x0.index).lo,(bH p x0.index).hi)) (zca ‹_›) h)
  |exact mi hR hI0 q1 (mg (B:=((bW p x0.index).lo,(bW p x0.index).hi)) (zcb ‹_› ‹_›) h)
  |exact mi hR hI0 q1 (mg (B:=(-2147483648,2147483647)) (zcc ‹_› ‹_› ‹_›) h)
  |exact mi hR hI0 q1 (mg (B:=(-4611686018427387904,4611686018427387904)) (zcd ‹_› ‹_› ‹_›) h)
  |(rw[List.length_map,hI0.len];have:=oH hd0;omega)
theorem Dq(p:Pr)(FF:List Sp)(R:Except Int (List Sp))(e:Int)(hR:Rng p)(hT:∀t∈p.tables,t.values.length<=1073741824)(hn:∀s∈p.stmts,Ref15.nodes s.x<=1073741824)(hl:p.stmts.length<=1073741824)(hw:vF p 0 p.stmts=true)(hS:bT p p.stmts []=R)(hF:ik p p.stmts []=FF)(hRR:R = .error e):aj Tryz.prog 128 [.ptr 1000000 0] [(1000000,.cells [.data (.str p.name),.data (.i p.latency),.data (.i p.tail),.data (.sl 3 (p.params.map Bd.cs)),.data (.sl 3 (p.states.map Bd.cs)),.data (.sl 4 (p.lines.map Ln.cs)),.data (.sl 2 (p.tables.map Tb.cs)),.data (.sl 8 (p.stmts.map Sm.cs)),.nilsl 2])] (.pan (.data (.iface 34 (.i e)))) [(1000000,.cells [.data (.str p.name),.data (.i p.latency),.data (.i p.tail),.data (.sl 3 (p.params.map Bd.cs)),.data (.sl 3 (p.states.map Bd.cs)),.data (.sl 4 (p.lines.map Ln.cs)),.data (.sl 2 (p.tables.map Tb.cs)),.data (.sl 8 (p.stmts.map Sm.cs)),.gs 1000001 2 (FF.map Sp.cs)]),(1000001,.tok 2 (FF.map Sp.cs).length)]:=by
 refine o7 Tryz.func128 λhf=>?_
 have hlen:p.stmts.length<=9223372036854775807:=by omega
 clear hf
 repeat' ((try conv=>whnf)<;>first
  |((have hq:=VC (hRR.symm.trans (Gf hI0 q1).1));(have hq2:=(Gf hI0 q1).2);subst hq;subst hq2)
  |((have hq:=VC (hRR.symm.trans (iK hI0 q1 (jY (B:=((bH p x0.index).lo,(bH p x0.index).hi)) (zca ‹_›) h)).1));(have hq2:=(iK hI0 q1 (jY (B:=((bH p x0.index).lo,(bH p x0.index).hi)) (zca ‹_›) h)).2);subst hq;subst hq2)
  |((have hq:=VC (hRR.symm.trans (iK hI0 q1 (jY (B:=((bW p x0.index).lo,(bW p x0.index).hi)) (zcb ‹_› ‹_›) h)).1));(have hq2:=(iK hI0 q1 (jY (B:=((bW p x0.index).lo,(bW p x0.index).hi)) (zcb ‹_› ‹_›) h)).2);subst hq;subst hq2)
  |((have hq:=VC (hRR.symm.trans (iK hI0 q1 (jY (B:=(-2147483648,2147483647)) (zcc ‹_› ‹_› ‹_›) h)).1));(have hq2:=(iK hI0 q1 (jY (B:=(-2147483648,2147483647)) (zcc ‹_› ‹_› ‹_›) h)).2);subst hq;subst hq2)
  |((have hq:=VC (hRR.symm.trans (iK hI0 q1 (jY (B:=(-4611686018427387904,4611686018427387904)) (zcd ‹_› ‹_› ‹_›) h)).1));(have hq2:=(iK hI0 q1 (jY (B:=(-4611686018427387904,4611686018427387904)) (zcd ‹_› ‹_› ‹_›) h)).2);subst hq;subst hq2)
  |exact(I9 ((VB hI0).1.symm.trans hRR)).elim
  |refine I7 (xO x0.x p fs hR hI0.ins hT (hn _ (bK hd0)) (F9 hI0)) (λs1 q1=>?_) (λe1 q1=>?_)
  |exact trivial
  |exact ai hd0 ‹_›
  |refine aU hd0 ?_
  |refine BrI.intro (λh=>?_) (λh=>?_)
  |((refine dC ?_ ?_);rfl)
  |((refine yZ ?_ ?_ ?_);rfl;rfl)
  |((refine eX Rg.Bd.none ?_ ?_ (OW hI0.wf h).1 (OW hI0.wf h).2 ?_);rfl;rfl)
  |((refine eX Rg.Ln.none ?_ ?_ (OX hI0.wf h).1 (OX hI0.wf h).2 ?_);rfl;rfl)
  |((refine ax.mk 0 ?_);refine⟨aJ (p.stmts) 13 (λ(fs:(List Sp))=>[]) (λ(fs:(List Sp))=>[(1000000,.cells [.data (.str p.name),.data (.i p.latency),.data (.i p.tail),.data (.sl 3 (p.params.map Bd.cs)),.data (.sl 3 (p.states.map Bd.cs)),.data (.sl 4 (p.lines.map Ln.cs)),.data (.sl 2 (p.tables.map Tb.cs)),.data (.sl 8 (p.stmts.map Sm.cs)),.gs 900007 2 (fs.map Sp.cs)]),(900007,.tok 2 (fs.map Sp.cs).length)]) [0,11,12] (λi0 r0 fs=>StI p R FF i0 r0 fs),?_⟩;refine af ([]) ?_ ?_ (λi0 (fs:(List Sp)) hd0 hI0=>?_) (λi0 x0 r0 (fs:(List Sp)) hd0 hl0 hI0=>?_))
  |refine ag hd0 (fs++[s1]) ?_ ?_
  |((refine dw ?_);refine fin_step' [(1000000,1000000),(1000001,900007)] rfl ?_ ?_)
  |refine aF.l _ ?_
  |((refine bY ?_ ?_ ?_ ?_ ?_ ?_)<;>exact rfl)
  |((refine cO ?_ ?_ ?_ ?_)<;>exact rfl)
  |((refine aH ?_ ?_ ?_ ?_ ?_);rfl;rfl;rotate_left;exact aG hd0)
  |refine pF ?_
  |refine wz ?_ ?_ ?_
  |refine eU ?_
  |refine And.intro ?_ ?_
  |((refine mY ?_ ?_ ?_);rfl;rfl;(first |exact bz |skip))
  |((refine gu ?_ ?_);rfl;(first |exact bz |skip))
  |((refine bQ ?_);refine ig ?_ ?_ ?_;rfl;rfl;(first |exact rfl |skip))
  |exact @rfl AV _
  |exact dP rfl
  |fail)
 all_goals first
  |decide
  |exact I8 hS hF hw
  |exact mi hR hI0 q1 (mg (B:=((bH p x0.index).lo,(bH p x0.index).hi)) (zca ‹_›) h)
  |exact mi hR hI0 q1 (mg (B:=((bW p x0.index).lo,(bW p x0.index).hi)) (zcb ‹_› ‹_›) h)
  |exact mi hR hI0 q1 (mg (B:=(-2147483648,2147483647)) (zcc ‹_› ‹_› ‹_›) h)
  |exact mi hR hI0 q1 (mg (B:=(-4611686018427387904,4611686018427387904)) (zcd ‹_› ‹_› ‹_›) h)
  |(rw[List.length_map,hI0.len];have:=oH hd0;omega)
theorem JV(c:AV)(v:Int):yE Tryz.prog 129 [.ptr 1000000 0] (some (.iface 34 (.i v))) [(1000000,.cells [.ptr 1000001 0]),(1000001,.cells [c])]
  [(1000000,.cells [.ptr 1000001 0]),(1000001,.cells [.data (.i v)])]:=by
 refine dR tok hmix Tryz.func129 rfl (by kernel_rfl) (by kernel_rfl) (by kernel_rfl) ?_
 repeat' ((try conv=>whnf)<;>first
  |exact trivial
  |refine⟨([]:List (Nat×Nat)),?_⟩
  |refine⟨by kernel_rfl,?_⟩
  |refine⟨rfl,?_⟩
  |refine⟨?_,?_⟩
  |fail)
theorem Qe(d:D):yE Tryz.prog 129 [.ptr 1000000 0] none [(1000000,.cells [.ptr 1000001 0]),(1000001,.cells [.data d])]
  [(1000000,.cells [.ptr 1000001 0]),(1000001,.cells [.data d])]:=by
 refine dR tok hmix Tryz.func129 rfl (by kernel_rfl) (by kernel_rfl) (by kernel_rfl) ?_
 repeat' ((try conv=>whnf)<;>first
  |exact trivial
  |refine⟨([]:List (Nat×Nat)),?_⟩
  |refine⟨by kernel_rfl,?_⟩
  |refine⟨rfl,?_⟩
  |refine⟨?_,?_⟩
  |fail)
theorem z9v(p:Pr)(FF:List Sp)(hR:Rng p)(hT:∀t∈p.tables,t.values.length<=1073741824)(hn:∀s∈p.stmts,Ref15.nodes s.x<=1073741824)(hl:p.stmts.length<=1073741824)(hw:vF p 0 p.stmts=true)(hS:bT p p.stmts [] = .ok FF)(hF:ik p p.stmts []=FF):aj Tryz.prog 96 [.ptr 1000000 0,.bnd 128 [.ptr 1000001 0]] [(1000000,.cells [.data (.i 0)]),(1000001,.cells [.data (.str p.name),.data (.i p.latency),.data (.i p.tail),.data (.sl 3 (p.params.map Bd.cs)),.data (.sl 3 (p.states.map Bd.cs)),.data (.sl 4 (p.lines.map Ln.cs)),.data (.sl 2 (p.tables.map Tb.cs)),.data (.sl 8 (p.stmts.map Sm.cs)),.nilsl 2])] (.ret (.data (.tuple []))) [(1000000,.cells [.data (.i 0)]),(1000001,.cells [.data (.str p.name),.data (.i p.latency),.data (.i p.tail),.data (.sl 3 (p.params.map Bd.cs)),.data (.sl 3 (p.states.map Bd.cs)),.data (.sl 4 (p.lines.map Ln.cs)),.data (.sl 2 (p.tables.map Tb.cs)),.data (.sl 8 (p.stmts.map Sm.cs)),.gs 1000002 2 (FF.map Sp.cs)]),(1000002,.tok 2 (FF.map Sp.cs).length)]:=by
 refine aS Tryz.func96 ?_
 repeat' ((try conv=>whnf)<;>first
  |exact trivial
  |((refine⟨_,_,_,[(1000000,2),(1000001,1000000)],Qe (.i 0),rfl,⟨rfl,rfl,trivial⟩,?_,?_⟩);kernel_rfl)
  |refine⟨([(1000000,1000000),(1000001,1000001),(1000002,800002)]:List (Nat×Nat)),rfl,?_,?_⟩
  |((refine lent_step' [(1000000,1000001),(1000001,800002)] (G7 p FF _ hR hT hn hl hw hS hF rfl) ?_ ?_ ?_ ?_);rotate_left 0;rfl;(exact⟨rfl,trivial⟩);rfl)
  |refine And.intro ?_ ?_
  |((refine bQ ?_);refine ig ?_ ?_ ?_;rfl;rfl;(first |exact rfl |skip))
  |fail)
theorem z0f(p:Pr)(FF:List Sp)(e:Int)(hR:Rng p)(hT:∀t∈p.tables,t.values.length<=1073741824)(hn:∀s∈p.stmts,Ref15.nodes s.x<=1073741824)(hl:p.stmts.length<=1073741824)(hw:vF p 0 p.stmts=true)(hS:bT p p.stmts [] = .error e)(hF:ik p p.stmts []=FF):aj Tryz.prog 96 [.ptr 1000000 0,.bnd 128 [.ptr 1000001 0]] [(1000000,.cells [.data (.i 0)]),(1000001,.cells [.data (.str p.name),.data (.i p.latency),.data (.i p.tail),.data (.sl 3 (p.params.map Bd.cs)),.data (.sl 3 (p.states.map Bd.cs)),.data (.sl 4 (p.lines.map Ln.cs)),.data (.sl 2 (p.tables.map Tb.cs)),.data (.sl 8 (p.stmts.map Sm.cs)),.nilsl 2])] (.ret (.data (.tuple []))) [(1000000,.cells [.data (.i e)]),(1000001,.cells [.data (.str p.name),.data (.i p.latency),.data (.i p.tail),.data (.sl 3 (p.params.map Bd.cs)),.data (.sl 3 (p.states.map Bd.cs)),.data (.sl 4 (p.lines.map Ln.cs)),.data (.sl 2 (p.tables.map Tb.cs)),.data (.sl 8 (p.stmts.map Sm.cs)),.gs 1000002 2 (FF.map Sp.cs)]),(1000002,.tok 2 (FF.map Sp.cs).length)]:=by
 refine aS Tryz.func96 ?_
 repeat' ((try conv=>whnf)<;>first
  |exact trivial
  |((refine DZ.ret ?_);(refine⟨_,_,_,[(1000000,2),(1000001,1000000)],JV (.data (.i 0)) e,rfl,⟨rfl,rfl,trivial⟩,?_,?_⟩);kernel_rfl)
  |refine⟨([(1000000,1000000),(1000001,1000001),(1000002,800002)]:List (Nat×Nat)),rfl,?_,?_⟩
  |((refine lent_step' [(1000000,1000001),(1000001,800002)] (Dq p FF _ e hR hT hn hl hw hS hF rfl) ?_ ?_ ?_ ?_);rotate_left 0;rfl;(exact⟨rfl,trivial⟩);rfl)
  |refine And.intro ?_ ?_
  |((refine bQ ?_);refine ig ?_ ?_ ?_;rfl;rfl;(first |exact rfl |skip))
  |exact @rfl Block _
  |fail)
end Go.Proofs.YtgehpmgkaeohaaaGreatDoor
namespace Go.Proofs.YtgehpmgkaeohaaaGreatDoor
open Go.Fw Go.Fw.Ref15 Go.Fw.Rg
set_option maxRecDepth 10000
variable [ae]
theorem Nr(l m:List Int)  : PCall Tryz.prog 121 [ints l,ints m] (.ret (.b (intsE l m))):=by
 refine dJ Tryz.func121 λhf=>?_
 have hlen:l.length<=9223372036854775807:=by simpa using(hf (ints l) (by simp)).sl.1
 clear hf
 repeat' ((try conv=>whnf)<;>first
  |with_reducible exact trivial
  |with_reducible exact ai hd0 ‹_›
  |((refine eP hd0 ?_ ?_);(assumption))
  |((refine dL hd0 ?_ ?_);(assumption))
  |with_reducible refine BrI.intro (λh=>?_) (λh=>?_)
  |((with_reducible refine ax.mk 0 ?_);have hz:l.length=m.length:=(by simp at h;omega);have hk0:(l.zip m).length=(l.map z5k).length:=(by rw[jh hz,List.length_map]);have hlz:(l.zip m).length<=9223372036854775807:=(by rw[jh hz];exact hlen);refine⟨aJ (l.zip m) 13 (λ(_:Unit)=>[]) (λ(_:Unit)=>[]) [0,1,12] (λi0 r0 _=>intsE l m=r0.all z6f),?_⟩;refine af () ?_ ?_ (λi0 (_:Unit) hd0 hI0=>?_) (λi0 x0 r0 (_:Unit) hd0 hl0 hI0=>?_))
  |refine ag hd0 () ?_ ?_
  |((with_reducible refine aH ?_ ?_ ?_ ?_ ?_);rfl;rfl;rotate_left;(first |with_reducible exact jH hd0 |with_reducible exact jI hd0))
  |refine eU ?_
  |(refine dm ?_;conv=>whnf)
  |with_reducible refine And.intro ?_ ?_
  |exact @rfl AV _
  |fail)
 all_goals(try simp only[csmp]at *)
 all_goals first
  |(rw[hI0];(try simp only[z6f,Bool.not_true,Bool.not_false,Bool.and_true,Bool.true_and,Bool.and_false,Bool.false_and,Bool.or_true,Bool.true_or,Bool.or_false,Bool.false_or,if_true,if_false,reduceIte,Bool.false_eq_true,Bool.not_not,Bool.not_eq_true',beq_self_eq_true,List.all_cons,List.all_nil,List.any_cons,List.any_nil,List.length_map,bne,eq_self,Int.toNat_zero, *]);first |done |rfl)
  |(simp only[intsE,lenE,Bool.not_true,Bool.not_false,Bool.and_true,Bool.true_and,Bool.and_false,Bool.false_and,Bool.or_true,Bool.true_or,Bool.or_false,Bool.false_or,if_true,if_false,reduceIte,Bool.false_eq_true,Bool.not_not,Bool.not_eq_true',beq_self_eq_true,List.all_cons,List.all_nil,List.any_cons,List.any_nil,List.length_map,bne,eq_self,Int.toNat_zero, *];done)
theorem Sr(l m:List Bd)  : PCall Tryz.prog 124 [.sl 3 (l.map Bd.cs),.sl 3 (m.map Bd.cs)] (.ret (.b (kL l m))):=by
 refine dJ Tryz.func124 λhf=>?_
 have hlen:l.length<=9223372036854775807:=by simpa using(hf (.sl 3 (l.map Bd.cs)) (by simp)).sl.1
 clear hf
 repeat' ((try conv=>whnf)<;>first
  |with_reducible exact trivial
  |with_reducible exact ai hd0 ‹_›
  |((refine eP hd0 ?_ ?_);(assumption))
  |((refine dL hd0 ?_ ?_);(assumption))
  |with_reducible refine BrI.intro (λh=>?_) (λh=>?_)
  |((with_reducible refine ax.mk 0 ?_);have hz:l.length=m.length:=(by simp at h;omega);have hk0:(l.zip m).length=(l.map Bd.cs).length:=(by rw[jh hz,List.length_map]);have hlz:(l.zip m).length<=9223372036854775807:=(by rw[jh hz];exact hlen);refine⟨aJ (l.zip m) 13 (λ(_:Unit)=>[]) (λ(_:Unit)=>[]) [0,1,12] (λi0 r0 _=>kL l m=r0.all Eg),?_⟩;refine af () ?_ ?_ (λi0 (_:Unit) hd0 hI0=>?_) (λi0 x0 r0 (_:Unit) hd0 hl0 hI0=>?_))
  |refine ag hd0 () ?_ ?_
  |((refine yZ ?_ ?_ ?_);rfl;rfl)
  |((with_reducible refine aH ?_ ?_ ?_ ?_ ?_);rfl;rfl;rotate_left;(first |with_reducible exact jH hd0 |with_reducible exact jI hd0))
  |refine pF ?_
  |refine eU ?_
  |(refine dm ?_;conv=>whnf)
  |with_reducible refine And.intro ?_ ?_
  |exact @rfl AV _
  |fail)
 all_goals(try simp only[csmp]at *)
 all_goals first
  |(rw[hI0];(try simp only[Eg,Bool.not_true,Bool.not_false,Bool.and_true,Bool.true_and,Bool.and_false,Bool.false_and,Bool.or_true,Bool.true_or,Bool.or_false,Bool.false_or,if_true,if_false,reduceIte,Bool.false_eq_true,Bool.not_not,Bool.not_eq_true',beq_self_eq_true,List.all_cons,List.all_nil,List.any_cons,List.any_nil,List.length_map,bne,eq_self,Int.toNat_zero, *]);first |done |rfl)
  |(simp only[kL,Bool.not_true,Bool.not_false,Bool.and_true,Bool.true_and,Bool.and_false,Bool.false_and,Bool.or_true,Bool.true_or,Bool.or_false,Bool.false_or,if_true,if_false,reduceIte,Bool.false_eq_true,Bool.not_not,Bool.not_eq_true',beq_self_eq_true,List.all_cons,List.all_nil,List.any_cons,List.any_nil,List.length_map,bne,eq_self,Int.toNat_zero, *];done)
theorem Su(l m:List Ln)  : PCall Tryz.prog 125 [.sl 4 (l.map Ln.cs),.sl 4 (m.map Ln.cs)] (.ret (.b (lenE AP l m))):=by
 refine dJ Tryz.func125 λhf=>?_
 have hlen:l.length<=9223372036854775807:=by simpa using(hf (.sl 4 (l.map Ln.cs)) (by simp)).sl.1
 clear hf
 repeat' ((try conv=>whnf)<;>first
  |with_reducible exact trivial
  |with_reducible exact ai hd0 ‹_›
  |((refine eP hd0 ?_ ?_);(assumption))
  |((refine dL hd0 ?_ ?_);(assumption))
  |with_reducible refine BrI.intro (λh=>?_) (λh=>?_)
  |((with_reducible refine ax.mk 0 ?_);have hz:l.length=m.length:=(by simp at h;omega);have hk0:(l.zip m).length=(l.map Ln.cs).length:=(by rw[jh hz,List.length_map]);have hlz:(l.zip m).length<=9223372036854775807:=(by rw[jh hz];exact hlen);refine⟨aJ (l.zip m) 13 (λ(_:Unit)=>[]) (λ(_:Unit)=>[]) [0,1,12] (λi0 r0 _=>lenE AP l m=r0.all AP),?_⟩;refine af () ?_ ?_ (λi0 (_:Unit) hd0 hI0=>?_) (λi0 x0 r0 (_:Unit) hd0 hl0 hI0=>?_))
  |refine ag hd0 () ?_ ?_
  |((refine yZ ?_ ?_ ?_);rfl;rfl)
  |((with_reducible refine aH ?_ ?_ ?_ ?_ ?_);rfl;rfl;rotate_left;(first |with_reducible exact jH hd0 |with_reducible exact jI hd0))
  |refine pF ?_
  |refine eU ?_
  |(refine dm ?_;conv=>whnf)
  |with_reducible refine And.intro ?_ ?_
  |exact @rfl AV _
  |fail)
 all_goals(try simp only[csmp]at *)
 all_goals first
  |(rw[hI0];(try simp only[AP,Bool.not_true,Bool.not_false,Bool.and_true,Bool.true_and,Bool.and_false,Bool.false_and,Bool.or_true,Bool.true_or,Bool.or_false,Bool.false_or,if_true,if_false,reduceIte,Bool.false_eq_true,Bool.not_not,Bool.not_eq_true',beq_self_eq_true,List.all_cons,List.all_nil,List.any_cons,List.any_nil,List.length_map,bne,eq_self,Int.toNat_zero, *]);first |done |rfl)
  |(simp only[lenE,Bool.not_true,Bool.not_false,Bool.and_true,Bool.true_and,Bool.and_false,Bool.false_and,Bool.or_true,Bool.true_or,Bool.or_false,Bool.false_or,if_true,if_false,reduceIte,Bool.false_eq_true,Bool.not_not,Bool.not_eq_true',beq_self_eq_true,List.all_cons,List.all_nil,List.any_cons,List.any_nil,List.length_map,bne,eq_self,Int.toNat_zero, *];done)
theorem z0g(a b:Tb)  : PCall Tryz.prog 120 [.agg a.cs,.agg b.cs] (.ret (.b (tbE (a,b)))):=by
 refine ak Tryz.func120 ?_
 repeat' ((try conv=>whnf)<;>first
  |((refine ah ?_ ?_ ?_);rotate_left;exact Nr _ _)
  |((refine aK ?_ ?_ (λhg=>?_) ?_);rfl)
  |((refine bf ?_ ?_);with_reducible exact rfl;with_reducible exact rfl)
  |(refine dm ?_;conv=>whnf)
  |fail)
 all_goals(try simp only[csmp]at *)
 all_goals (simp only[tbE,Bool.not_true,Bool.not_false,Bool.and_true,Bool.true_and,Bool.and_false,Bool.false_and,Bool.or_true,Bool.true_or,Bool.or_false,Bool.false_or,if_true,if_false,reduceIte,Bool.false_eq_true,Bool.not_not,Bool.not_eq_true',beq_self_eq_true,List.all_cons,List.all_nil,List.any_cons,List.any_nil,List.length_map,bne,eq_self,Int.toNat_zero, *];done)
theorem SA(l m:List Ex)(ih:∀x∈l,∀y,PCall Tryz.prog 123 [x.d,y.d] (.ret (.b (iJ x y)))):PCall Tryz.prog 159 [.sl 5 (l.map Ex.cs),.sl 5 (m.map Ex.cs),.fn 123 []] (.ret (.b (zce l m))):=by
 refine dJ Tryz.func159 λhf=>?_
 have hlen:l.length<=9223372036854775807:=by simpa using(hf (.sl 5 (l.map Ex.cs)) (by simp)).sl.1
 clear hf
 repeat' ((try conv=>whnf)<;>first
  |with_reducible exact trivial
  |with_reducible exact ai hd0 ‹_›
  |((refine eP hd0 ?_ ?_);(assumption))
  |((refine dL hd0 ?_ ?_);(assumption))
  |with_reducible refine BrI.intro (λh=>?_) (λh=>?_)
  |((with_reducible refine ax.mk 0 ?_);have hz:l.length=m.length:=(by simp at h;omega);have hk0:(l.zip m).length=(l.map Ex.cs).length:=(by rw[jh hz,List.length_map]);have hlz:(l.zip m).length<=9223372036854775807:=(by rw[jh hz];exact hlen);refine⟨aJ (l.zip m) 17 (λ(_:Unit)=>[]) (λ(_:Unit)=>[]) [1,2,15,16] (λi0 r0 _=>zce l m=r0.all exE),?_⟩;refine af () ?_ ?_ (λi0 (_:Unit) hd0 hI0=>?_) (λi0 x0 r0 (_:Unit) hd0 hl0 hI0=>?_))
  |refine ag hd0 () ?_ ?_
  |((refine ah ?_ ?_ ?_);rotate_left;(exact ih _ (List.of_mem_zip (bK hd0)).1 _))
  |((with_reducible refine aH ?_ ?_ ?_ ?_ ?_);rfl;rfl;rotate_left;(first |with_reducible exact jH hd0 |with_reducible exact jI hd0))
  |refine pF ?_
  |(refine dm ?_;conv=>whnf)
  |with_reducible refine And.intro ?_ ?_
  |exact @rfl AV _
  |fail)
 all_goals(try simp only[csmp]at *)
 all_goals first
  |(rw[hI0];(try simp only[exE,Bool.not_true,Bool.not_false,Bool.and_true,Bool.true_and,Bool.and_false,Bool.false_and,Bool.or_true,Bool.true_or,Bool.or_false,Bool.false_or,if_true,if_false,reduceIte,Bool.false_eq_true,Bool.not_not,Bool.not_eq_true',beq_self_eq_true,List.all_cons,List.all_nil,List.any_cons,List.any_nil,List.length_map,bne,eq_self,Int.toNat_zero, *]);first |done |rfl)
  |(simp only[zce,lenE,Bool.not_true,Bool.not_false,Bool.and_true,Bool.true_and,Bool.and_false,Bool.false_and,Bool.or_true,Bool.true_or,Bool.or_false,Bool.false_or,if_true,if_false,reduceIte,Bool.false_eq_true,Bool.not_not,Bool.not_eq_true',beq_self_eq_true,List.all_cons,List.all_nil,List.any_cons,List.any_nil,List.length_map,bne,eq_self,Int.toNat_zero, *];done)
theorem Dt(a b:Ex)  : PCall Tryz.prog 123 [a.d,b.d] (.ret (.b (iJ a b))):=by
 revert b;revert a;refine Ex.ind λa ih b=>?_
 refine ak Tryz.func123 ?_
 repeat' ((try conv=>whnf)<;>first
  |((refine ah ?_ ?_ ?_);rotate_left;((have hq:=SA a.l b.l ih;rw[<-Ex.css_eq,<-Ex.css_eq]at hq;exact hq)))
  |((refine aK ?_ ?_ (λhg=>?_) ?_);rfl)
  |((refine bf ?_ ?_);with_reducible exact rfl;with_reducible exact rfl)
  |(refine dm ?_;conv=>whnf)
  |fail)
 all_goals(try simp only[csmp]at *)
 all_goals exact congrArg D.b (Gg a b)
theorem z0h(a b:Sm)  : PCall Tryz.prog 122 [a.d,b.d] (.ret (.b (smE (a,b)))):=by
 refine ak Tryz.func122 ?_
 repeat' ((try conv=>whnf)<;>first
  |((refine ah ?_ ?_ ?_);rotate_left;exact Dt _ _)
  |((refine aK ?_ ?_ (λhg=>?_) ?_);rfl)
  |((refine bf ?_ ?_);with_reducible exact rfl;with_reducible exact rfl)
  |(refine dm ?_;conv=>whnf)
  |fail)
 all_goals(try simp only[csmp]at *)
 all_goals (simp only[smE,Bool.not_true,Bool.not_false,Bool.and_true,Bool.true_and,Bool.and_false,Bool.false_and,Bool.or_true,Bool.true_or,Bool.or_false,Bool.false_or,if_true,if_false,reduceIte,Bool.false_eq_true,Bool.not_not,Bool.not_eq_true',beq_self_eq_true,List.all_cons,List.all_nil,List.any_cons,List.any_nil,List.length_map,bne,eq_self,Int.toNat_zero, *];done)
theorem SB(l m:List Tb)  : PCall Tryz.prog 126 [.sl 2 (l.map Tb.cs),.sl 2 (m.map Tb.cs),.fn 120 []] (.ret (.b (lenE tbE l m))):=by
 refine dJ Tryz.func126 λhf=>?_
 have hlen:l.length<=9223372036854775807:=by simpa using(hf (.sl 2 (l.map Tb.cs)) (by simp)).sl.1
 clear hf
 repeat' ((try conv=>whnf)<;>first
  |with_reducible exact trivial
  |with_reducible exact ai hd0 ‹_›
  |((refine eP hd0 ?_ ?_);(assumption))
  |((refine dL hd0 ?_ ?_);(assumption))
  |with_reducible refine BrI.intro (λh=>?_) (λh=>?_)
  |((with_reducible refine ax.mk 0 ?_);have hz:l.length=m.length:=(by simp at h;omega);have hk0:(l.zip m).length=(l.map Tb.cs).length:=(by rw[jh hz,List.length_map]);have hlz:(l.zip m).length<=9223372036854775807:=(by rw[jh hz];exact hlen);refine⟨aJ (l.zip m) 17 (λ(_:Unit)=>[]) (λ(_:Unit)=>[]) [1,2,15,16] (λi0 r0 _=>lenE tbE l m=r0.all tbE),?_⟩;refine af () ?_ ?_ (λi0 (_:Unit) hd0 hI0=>?_) (λi0 x0 r0 (_:Unit) hd0 hl0 hI0=>?_))
  |refine ag hd0 () ?_ ?_
  |((refine ah ?_ ?_ ?_);rotate_left;exact z0g _ _)
  |((with_reducible refine aH ?_ ?_ ?_ ?_ ?_);rfl;rfl;rotate_left;(first |with_reducible exact jH hd0 |with_reducible exact jI hd0))
  |refine pF ?_
  |(refine dm ?_;conv=>whnf)
  |with_reducible refine And.intro ?_ ?_
  |exact @rfl AV _
  |fail)
 all_goals(try simp only[csmp]at *)
 all_goals first
  |(rw[hI0];(try simp only[List.all_cons,Bool.not_true,Bool.not_false,Bool.and_true,Bool.true_and,Bool.and_false,Bool.false_and,Bool.or_true,Bool.true_or,Bool.or_false,Bool.false_or,if_true,if_false,reduceIte,Bool.false_eq_true,Bool.not_not,Bool.not_eq_true',beq_self_eq_true,List.all_cons,List.all_nil,List.any_cons,List.any_nil,List.length_map,bne,eq_self,Int.toNat_zero, *]);first |done |rfl)
  |(simp only[lenE,Bool.not_true,Bool.not_false,Bool.and_true,Bool.true_and,Bool.and_false,Bool.false_and,Bool.or_true,Bool.true_or,Bool.or_false,Bool.false_or,if_true,if_false,reduceIte,Bool.false_eq_true,Bool.not_not,Bool.not_eq_true',beq_self_eq_true,List.all_cons,List.all_nil,List.any_cons,List.any_nil,List.length_map,bne,eq_self,Int.toNat_zero, *];done)
theorem SC(l m:List Sm)  : PCall Tryz.prog 127 [.sl 8 (l.map Sm.cs),.sl 8 (m.map Sm.cs),.fn 122 []] (.ret (.b (lenE smE l m))):=by
 refine dJ Tryz.func127 λhf=>?_
 have hlen:l.length<=9223372036854775807:=by simpa using(hf (.sl 8 (l.map Sm.cs)) (by simp)).sl.1
 clear hf
 repeat' ((try conv=>whnf)<;>first
  |with_reducible exact trivial
  |with_reducible exact ai hd0 ‹_›
  |((refine eP hd0 ?_ ?_);(assumption))
  |((refine dL hd0 ?_ ?_);(assumption))
  |with_reducible refine BrI.intro (λh=>?_) (λh=>?_)
  |((with_reducible refine ax.mk 0 ?_);have hz:l.length=m.length:=(by simp at h;omega);have hk0:(l.zip m).length=(l.map Sm.cs).length:=(by rw[jh hz,List.length_map]);have hlz:(l.zip m).length<=9223372036854775807:=(by rw[jh hz];exact hlen);refine⟨aJ (l.zip m) 17 (λ(_:Unit)=>[]) (λ(_:Unit)=>[]) [1,2,15,16] (λi0 r0 _=>lenE smE l m=r0.all smE),?_⟩;refine af () ?_ ?_ (λi0 (_:Unit) hd0 hI0=>?_) (λi0 x0 r0 (_:Unit) hd0 hl0 hI0=>?_))
  |refine ag hd0 () ?_ ?_
  |((refine ah ?_ ?_ ?_);rotate_left;exact z0h _ _)
  |((with_reducible refine aH ?_ ?_ ?_ ?_ ?_);rfl;rfl;rotate_left;(first |with_reducible exact jH hd0 |with_reducible exact jI hd0))
  |refine pF ?_
  |(refine dm ?_;conv=>whnf)
  |with_reducible refine And.intro ?_ ?_
  |exact @rfl AV _
  |fail)
 all_goals(try simp only[csmp]at *)
 all_goals first
  |(rw[hI0];(try simp only[List.all_cons,Bool.not_true,Bool.not_false,Bool.and_true,Bool.true_and,Bool.and_false,Bool.false_and,Bool.or_true,Bool.true_or,Bool.or_false,Bool.false_or,if_true,if_false,reduceIte,Bool.false_eq_true,Bool.not_not,Bool.not_eq_true',beq_self_eq_true,List.all_cons,List.all_nil,List.any_cons,List.any_nil,List.length_map,bne,eq_self,Int.toNat_zero, *]);first |done |rfl)
  |(simp only[lenE,Bool.not_true,Bool.not_false,Bool.and_true,Bool.true_and,Bool.and_false,Bool.false_and,Bool.or_true,Bool.true_or,Bool.or_false,Bool.false_or,if_true,if_false,reduceIte,Bool.false_eq_true,Bool.not_not,Bool.not_eq_true',beq_self_eq_true,List.all_cons,List.all_nil,List.any_cons,List.any_nil,List.length_map,bne,eq_self,Int.toNat_zero, *];done)
theorem kP(a b:Pr)  : PCall Tryz.prog 90 [a.d,b.d] (.ret (.b (qA a b))):=by
 refine ak Tryz.func90 ?_
 repeat' ((try conv=>whnf)<;>first
  |((refine ah ?_ ?_ ?_);rotate_left;(first |exact Sr _ _ |exact Su _ _ |exact SB _ _ |exact SC _ _))
  |((refine aK ?_ ?_ (λhg=>?_) ?_);rfl)
  |((refine bf ?_ ?_);with_reducible exact rfl;with_reducible exact rfl)
  |(refine dm ?_;conv=>whnf)
  |fail)
 all_goals(try simp only[csmp]at *)
 all_goals (simp only[qA,VD,Bool.not_true,Bool.not_false,Bool.and_true,Bool.true_and,Bool.and_false,Bool.false_and,Bool.or_true,Bool.true_or,Bool.or_false,Bool.false_or,if_true,if_false,reduceIte,Bool.false_eq_true,Bool.not_not,Bool.not_eq_true',beq_self_eq_true,List.all_cons,List.all_nil,List.any_cons,List.any_nil,List.length_map,bne,eq_self,Int.toNat_zero, *];done)
theorem SE(l m:List Int)  : PCall Tryz.prog 22 [ints l,ints m] (.ret (.b (intsE l m))):=by
 refine dJ Tryz.func22 λhf=>?_
 have hlen:l.length<=9223372036854775807:=by simpa using(hf (ints l) (by simp)).sl.1
 clear hf
 repeat' ((try conv=>whnf)<;>first
  |with_reducible exact trivial
  |with_reducible exact ai hd0 ‹_›
  |((refine eP hd0 ?_ ?_);(assumption))
  |((refine dL hd0 ?_ ?_);(assumption))
  |with_reducible refine BrI.intro (λh=>?_) (λh=>?_)
  |((with_reducible refine ax.mk 0 ?_);have hz:l.length=m.length:=(by simp at h;omega);have hk0:(l.zip m).length=(l.map z5k).length:=(by rw[jh hz,List.length_map]);have hlz:(l.zip m).length<=9223372036854775807:=(by rw[jh hz];exact hlen);refine⟨aJ (l.zip m) 5 (λ(_:Unit)=>[]) (λ(_:Unit)=>[]) [0,1] (λi0 r0 _=>intsE l m=r0.all z6f),?_⟩;refine af () ?_ ?_ (λi0 (_:Unit) hd0 hI0=>?_) (λi0 x0 r0 (_:Unit) hd0 hl0 hI0=>?_))
  |refine ag hd0 () ?_ ?_
  |((with_reducible refine aH ?_ ?_ ?_ ?_ ?_);rfl;rfl;rotate_left;(first |with_reducible exact jH hd0 |with_reducible exact jI hd0))
  |refine eU ?_
  |(refine dm ?_;conv=>whnf)
  |with_reducible refine And.intro ?_ ?_
  |exact @rfl AV _
  |fail)
 all_goals(try simp only[csmp]at *)
 all_goals first
  |(rw[hI0];(try simp only[z6f,Bool.not_true,Bool.not_false,Bool.and_true,Bool.true_and,Bool.and_false,Bool.false_and,Bool.or_true,Bool.true_or,Bool.or_false,Bool.false_or,if_true,if_false,reduceIte,Bool.false_eq_true,Bool.not_not,Bool.not_eq_true',beq_self_eq_true,List.all_cons,List.all_nil,List.any_cons,List.any_nil,List.length_map,bne,eq_self,Int.toNat_zero, *]);first |done |rfl)
  |(simp only[intsE,lenE,Bool.not_true,Bool.not_false,Bool.and_true,Bool.true_and,Bool.and_false,Bool.false_and,Bool.or_true,Bool.true_or,Bool.or_false,Bool.false_or,if_true,if_false,reduceIte,Bool.false_eq_true,Bool.not_not,Bool.not_eq_true',beq_self_eq_true,List.all_cons,List.all_nil,List.any_cons,List.any_nil,List.length_map,bne,eq_self,Int.toNat_zero, *];done)
end Go.Proofs.YtgehpmgkaeohaaaGreatDoor
namespace Go.Proofs.YtgehpmgkaeohaaaGreatDoor
open Go.Fw Go.Fw.Rg Go.Fw.Nam
set_option maxRecDepth 10000
variable [ae]
theorem z0i(p:Pr)(g:ja p)(he:((resolveC p).2 != 0)=true):PCall Tryz.prog 94 [p.d] (.ret (.tuple [.val (.pointer none),.i (resolveC p).2])):=by
 refine ak Tryz.func94 ?_
 repeat' ((try conv=>whnf)<;>first
  |exact Bool.noConfusion (show true=false from he.symm.trans h)
  |refine BrI.intro (λh=>?_) (λh=>?_)
  |((refine ah ?_ ?_ ?_);rotate_left;exact gB p g.sm g.hn)
  |refine eU ?_
  |(refine dm ?_;conv=>whnf)
  |fail)
theorem z0j(p:Pr)(g:ja p)(he:((resolveC p).2 != 0)=false)(hs:qA p (resolveC p).1=false):PCall Tryz.prog 94 [p.d] (.ret (.tuple [.val (.pointer none),.i 150])):=by
 refine ak Tryz.func94 ?_
 repeat' ((try conv=>whnf)<;>first
  |exact Bool.noConfusion (show false=true from he.symm.trans h)
  |exact Bool.noConfusion (show true=false from(congrArg (!·) hs).symm.trans h)
  |refine BrI.intro (λh=>?_) (λh=>?_)
  |((refine ah ?_ ?_ ?_);rotate_left;(first |exact kP _ _ |exact gB p g.sm g.hn))
  |(refine dm ?_;conv=>whnf)
  |fail)
theorem z0k(p:Pr)(FF:List Sp)(g:ja p)(he:(resolveC p).2=0)(hs:(resolveC p).1=p)(hR:Rng p)(hw:vF p 0 p.stmts=true)(hS:bT p p.stmts [] = .ok FF)(hF:ik p p.stmts []=FF):PCall Tryz.prog 94 [p.d] (.ret (.tuple [.ptr (fC p FF),.i 0])):=by
 refine dJ Tryz.func94 λhf=>?_
 have hq:resolveC p=(p,0):=Prod.ext hs he
 have hc:=gB p g.sm g.hn
 rw[hq]at hc
 have hc2:=kP p p
 rw[(gW p p).2 rfl]at hc2
 clear hf
 repeat' ((try conv=>whnf)<;>first
  |exact Bool.noConfusion (show true=false from h.symm.trans (rfl:((0:Int) != 0)=false))
  |exact Bool.noConfusion (show false=true from(congrArg (!·) ((gW p p).2 rfl)).symm.trans h)
  |refine BrI.intro (λh=>?_) (λh=>?_)
  |((refine ah ?_ ?_ ?_);rotate_left;(first |exact kP _ _ |exact hc))
  |((refine lent_step' [(1000000,3),(1000001,19),(1000002,800001)] (z9v p FF hR g.hT g.hn g.hl hw hS hF) ?_ ?_ ?_ ?_);rotate_left 0;rfl;(exact⟨rfl,rfl,trivial⟩);rfl)
  |refine eU ?_
  |(refine dm ?_;conv=>whnf)
  |refine And.intro ?_ ?_
  |fail)
 all_goals rfl
theorem Xw(p:Pr)(FF:List Sp)(e:Int)(g:ja p)(he:(resolveC p).2=0)(hs:(resolveC p).1=p)(hR:Rng p)(hw:vF p 0 p.stmts=true)(hS:bT p p.stmts [] = .error e)(hF:ik p p.stmts []=FF):PCall Tryz.prog 94 [p.d] (.ret (.tuple [.ptr (fC p FF),.i e])):=by
 refine dJ Tryz.func94 λhf=>?_
 have hq:resolveC p=(p,0):=Prod.ext hs he
 have hc:=gB p g.sm g.hn
 rw[hq]at hc
 have hc2:=kP p p
 rw[(gW p p).2 rfl]at hc2
 clear hf
 repeat' ((try conv=>whnf)<;>first
  |exact Bool.noConfusion (show true=false from h.symm.trans (rfl:((0:Int) != 0)=false))
  |exact Bool.noConfusion (show false=true from(congrArg (!·) ((gW p p).2 rfl)).symm.trans h)
  |refine BrI.intro (λh=>?_) (λh=>?_)
  |((refine ah ?_ ?_ ?_);rotate_left;(first |exact kP _ _ |exact hc))
  |((refine lent_step' [(1000000,3),(1000001,19),(1000002,800001)] (z0f p FF e hR g.hT g.hn g.hl hw hS hF) ?_ ?_ ?_ ?_);rotate_left 0;rfl;(exact⟨rfl,rfl,trivial⟩);rfl)
  |refine eU ?_
  |(refine dm ?_;conv=>whnf)
  |refine And.intro ?_ ?_
  |fail)
 all_goals rfl
theorem BX(p:Pr)(x:Ex)(most:Int)(hm0:0<=most)(hm:most<=512):PCall Tryz.prog 95 [p.d,x.d,.i most] (.ret (.tuple [.i (eY p x most).1,.b (eY p x most).2])):=by
 revert hm0 hm;revert most;revert x;refine Ex.ind λx ih most hm0 hm=>?_
 refine dJ Tryz.func95 λhf=>?_
 have hlen:=Ex.fits (hf x.d (by simp));have hq:=Pr.fits (hf p.d (by simp))
 have ih2:∀y∈x.l,∀m c,c=m->0<=m->m<=512->PCall Tryz.prog 95 [p.d,y.d,.i c] (.ret (.tuple [.i (eY p y m).1,.b (eY p y m).2])):=λy hy m c hc h0 h1=>by subst hc;exact ih y hy c h0 h1
 clear hf
 repeat' ((try conv=>whnf)<;>first
  |exact Bool.noConfusion (show true=false from h)
  |exact Bool.noConfusion (show false=true from h)
  |exact trivial
  |exact ai hd1 ‹_›
  |refine kF hd1 ?_
  |refine iD hd1 ?_
  |refine BrI.intro (λh=>?_) (λh=>?_)
  |((refine VR (l:=lV) ?_ (λnd hnd=>?_) (λhnd=>?_));rfl)
  |((refine Zc (p:=p) ?_ (λmd hmd=>?_) (λhmd=>?_));rfl)
  |exact(zck ‹lkI x.kind (lG p)=none› h).elim
  |((refine eX Sm.none ?_ ?_ ?_ ?_ ?_);rfl;rfl;rotate_left 2)
  |((refine ax.mk 1 ?_);refine⟨aJ (x.l) 109 (λ(q:(Int)×(Bool))=>match q with |(n,ok)=>[(6,.data (.val (.int .i64 n))),(7,.data (.val (.bool ok)))]) (λ(q:(Int)×(Bool))=>match q with |(n,ok)=>[]) [2,3,107,108] (λi1 r1 q=>match q with |(n,ok)=>eY p x most=jw p r1 most n ok/\1<=n/\n<=most),?_⟩;refine af (?_,?_) ?_ ?_ (λi1 ⟨n,ok⟩ hd1 hI1=>?_) (λi1 x1 r1 ⟨n,ok⟩ hd1 hl1 hI1=>?_))
  |refine ag hd1 (?_,?_) ?_ ?_
  |((refine ah ?_ ?_ ?_);rotate_left;(exact ih2 _ (bK ‹_›) (most-n) _ (bC (by omega) (by omega)) (by omega) (by omega)))
  |((refine aH ?_ ?_ ?_ ?_ ?_);rfl;rfl;rotate_left;exact fO hd1)
  |refine pF ?_
  |(refine dm ?_;conv=>whnf)
  |refine And.intro ?_ ?_
  |exact @rfl AV _
  |fail)
 all_goals first
  |rfl
  |exact Int.le_refl _
  |(refine(zhd ‹lkI x.kind (lG p)=some _› ‹(x.kind==5)=true› ?_).1;assumption)
  |(refine(zhd ‹lkI x.kind (lG p)=some _› ‹(x.kind==5)=true› ?_).2;assumption)
  |(refine z6o (l:=x.l) (nd:=nd) ?_;assumption)
  |((refine Rw ‹lkI x.kind lV=some _› ‹lkI x.kind (lG p)=_› ?_ ?_ ?_);assumption;(first |exact rfl |(refine O5 (b:=false) ?_;assumption));(first |exact zf5 ‹_› |exact zf6 ‹_› ‹_› |exact zf7 ‹_› ‹_› ‹_› |exact zf8 ‹_› ‹_› ‹_›))
  |rw[xn ‹lkI x.kind lV=none›]
  |rw[xq ‹lkI x.kind lV=some _› (z6n (b:=true) h)]
  |(rw[Zd ‹lkI x.kind lV=some _› ‹lkI x.kind (lG p)=_› ?_ (O5 (b:=true) h)];assumption)
  |(obtain⟨hok,hfit⟩:=zhe h;have hr:=O6 p x1 (most-n) (by omega);have h3:=hr.2.2 hfit;rw[bC (by omega) (by omega)];first |omega |(rw[hI1.1];exact vK h))
  |rw[hI1.1,oM h]
  |rw[hI1.1,jw]
theorem check_any(p:Pr)(pd:D)(e:Int)(hw:PCall Tryz.prog 94 [p.d] (.ret (.tuple [pd,.i e]))):PCall Tryz.prog 91 [p.d] (.ret (.i e)):=by
 refine ak Tryz.func91 ?_
 repeat' ((try conv=>whnf)<;>first
  |((refine ah ?_ ?_ ?_);rotate_left;exact hw)
  |(refine dm ?_;conv=>whnf)
  |fail)
theorem z9w(p:Pr)(F:List Sp)(x:Ex)(s:Sp)(a b:Int)(hc:PCall Tryz.prog 98 [.ptr (fC p F),x.d] (.ret s.d)):aj Tryz.prog 97 [.ptr 1000000 0,.ptr 1000001 0,.ptr 1000002 0,.ptr 1000003 0] [(1000000,.cells [.data (.ptr (fC p F))]),(1000001,.cells [.data (.i x.kind),.data (.str x.name),.data (.i x.index),.data (.i x.n),.data (.sl 5 (Ex.css x.l))]),(1000002,.cells [.data (.i a)]),(1000003,.cells [.data (.i b)])] (.ret (.data (.tuple []))) [(1000000,.cells [.data (.ptr (fC p F))]),(1000001,.cells [.data (.i x.kind),.data (.str x.name),.data (.i x.index),.data (.i x.n),.data (.sl 5 (Ex.css x.l))]),(1000002,.cells [.data (.i s.1)]),(1000003,.cells [.data (.i s.2)])]:=by
 refine aS Tryz.func97 ?_
 repeat' ((try conv=>whnf)<;>first
  |exact trivial
  |((refine ah ?_ ?_ ?_);rotate_left;exact hc)
  |((refine bg ?_);refine fin_step' [] rfl ?_ ?_)
  |refine eU ?_
  |refine And.intro ?_ ?_
  |fail)
 all_goals first
  |rfl
  |decide
theorem z0l(p:Pr)(F:List Sp)(x:Ex)(e:Int)(a b:Int)(hc:PCall Tryz.prog 98 [.ptr (fC p F),x.d] (.pan (.iface 34 (.i e)))):aj Tryz.prog 97 [.ptr 1000000 0,.ptr 1000001 0,.ptr 1000002 0,.ptr 1000003 0] [(1000000,.cells [.data (.ptr (fC p F))]),(1000001,.cells [.data (.i x.kind),.data (.str x.name),.data (.i x.index),.data (.i x.n),.data (.sl 5 (Ex.css x.l))]),(1000002,.cells [.data (.i a)]),(1000003,.cells [.data (.i b)])] (.pan (.data (.iface 34 (.i e)))) [(1000000,.cells [.data (.ptr (fC p F))]),(1000001,.cells [.data (.i x.kind),.data (.str x.name),.data (.i x.index),.data (.i x.n),.data (.sl 5 (Ex.css x.l))]),(1000002,.cells [.data (.i a)]),(1000003,.cells [.data (.i b)])]:=by
 refine aS Tryz.func97 ?_
 repeat' ((try conv=>whnf)<;>first
  |exact trivial
  |((refine ah ?_ ?_ ?_);rotate_left;exact hc)
  |((refine dw ?_);refine fin_step' [] rfl ?_ ?_)
  |refine And.intro ?_ ?_
  |fail)
theorem z0m(p:Pr)(F:List Sp)(x:Ex)(s:Sp)(hc:PCall Tryz.prog 98 [.ptr (fC p F),x.d] (.ret s.d)):aj Tryz.prog 96 [.ptr 1000000 0,.fn 97 [.ptr 1000001 0,.ptr 1000002 0,.ptr 1000003 0,.ptr 1000004 0]] [(1000000,.cells [.data (.i 0)]),(1000001,.cells [.data (.ptr (fC p F))]),(1000002,.cells [.data (.i x.kind),.data (.str x.name),.data (.i x.index),.data (.i x.n),.data (.sl 5 (Ex.css x.l))]),(1000003,.cells [.data (.i 0)]),(1000004,.cells [.data (.i 0)])] (.ret (.data (.tuple []))) [(1000000,.cells [.data (.i 0)]),(1000001,.cells [.data (.ptr (fC p F))]),(1000002,.cells [.data (.i x.kind),.data (.str x.name),.data (.i x.index),.data (.i x.n),.data (.sl 5 (Ex.css x.l))]),(1000003,.cells [.data (.i s.1)]),(1000004,.cells [.data (.i s.2)])]:=by
 refine aS Tryz.func96 ?_
 repeat' ((try conv=>whnf)<;>first
  |exact trivial
  |((refine⟨_,_,_,[(1000000,2),(1000001,1000000)],Qe (.i 0),rfl,⟨rfl,rfl,trivial⟩,?_,?_⟩);kernel_rfl)
  |refine⟨([(1000000,1000000),(1000001,1000001),(1000002,1000002),(1000003,1000003),(1000004,1000004)]:List (Nat×Nat)),rfl,?_,?_⟩
  |((refine lent_step' [(1000000,1000001),(1000001,1000002),(1000002,1000003),(1000003,1000004)] (z9w p F x s 0 0 hc) ?_ ?_ ?_ ?_);rotate_left 0;rfl;(exact⟨rfl,rfl,rfl,rfl,trivial⟩);rfl)
  |refine And.intro ?_ ?_
  |fail)
theorem Xx(p:Pr)(F:List Sp)(x:Ex)(e:Int)(hc:PCall Tryz.prog 98 [.ptr (fC p F),x.d] (.pan (.iface 34 (.i e)))):aj Tryz.prog 96 [.ptr 1000000 0,.fn 97 [.ptr 1000001 0,.ptr 1000002 0,.ptr 1000003 0,.ptr 1000004 0]] [(1000000,.cells [.data (.i 0)]),(1000001,.cells [.data (.ptr (fC p F))]),(1000002,.cells [.data (.i x.kind),.data (.str x.name),.data (.i x.index),.data (.i x.n),.data (.sl 5 (Ex.css x.l))]),(1000003,.cells [.data (.i 0)]),(1000004,.cells [.data (.i 0)])] (.ret (.data (.tuple []))) [(1000000,.cells [.data (.i e)]),(1000001,.cells [.data (.ptr (fC p F))]),(1000002,.cells [.data (.i x.kind),.data (.str x.name),.data (.i x.index),.data (.i x.n),.data (.sl 5 (Ex.css x.l))]),(1000003,.cells [.data (.i 0)]),(1000004,.cells [.data (.i 0)])]:=by
 refine aS Tryz.func96 ?_
 repeat' ((try conv=>whnf)<;>first
  |exact trivial
  |((refine DZ.ret ?_);(refine⟨_,_,_,[(1000000,2),(1000001,1000000)],JV (.data (.i 0)) e,rfl,⟨rfl,rfl,trivial⟩,?_,?_⟩);kernel_rfl)
  |refine⟨([(1000000,1000000),(1000001,1000001),(1000002,1000002),(1000003,1000003),(1000004,1000004)]:List (Nat×Nat)),rfl,?_,?_⟩
  |((refine lent_step' [(1000000,1000001),(1000001,1000002),(1000002,1000003),(1000003,1000004)] (z0l p F x e 0 0 hc) ?_ ?_ ?_ ?_);rotate_left 0;rfl;(exact⟨rfl,rfl,rfl,rfl,trivial⟩);rfl)
  |refine And.intro ?_ ?_
  |fail)
theorem z9x(p:Pr)(x:Ex)(e:Int)(hw:PCall Tryz.prog 94 [p.d] (.ret (.tuple [.val (.pointer none),.i e])))(he:(e != 0)=true):PCall Tryz.prog 49 [p.d,x.d] (.ret (.tuple [.i 0,.i 0,.i e])):=by
 refine ak Tryz.func49 ?_
 repeat' ((try conv=>whnf)<;>first
  |exact Bool.noConfusion (show true=false from he.symm.trans h)
  |refine BrI.intro (λh=>?_) (λh=>?_)
  |((refine ah ?_ ?_ ?_);rotate_left;exact hw)
  |refine eU ?_
  |(refine dm ?_;conv=>whnf)
  |fail)
theorem z9y(p:Pr)(x:Ex)(F:List Sp)(e:Int)(hw:PCall Tryz.prog 94 [p.d] (.ret (.tuple [.ptr (fC p F),.i e])))(he:(e != 0)=true):PCall Tryz.prog 49 [p.d,x.d] (.ret (.tuple [.i 0,.i 0,.i e])):=by
 refine ak Tryz.func49 ?_
 repeat' ((try conv=>whnf)<;>first
  |exact Bool.noConfusion (show true=false from he.symm.trans h)
  |refine BrI.intro (λh=>?_) (λh=>?_)
  |((refine ah ?_ ?_ ?_);rotate_left;exact hw)
  |refine eU ?_
  |(refine dm ?_;conv=>whnf)
  |fail)
theorem z0n(p:Pr)(x:Ex)(F:List Sp)(hw:PCall Tryz.prog 94 [p.d] (.ret (.tuple [.ptr (fC p F),.i 0])))(hx:(eY p x 512).2=false):PCall Tryz.prog 49 [p.d,x.d] (.ret (.tuple [.i 0,.i 0,.i 150])):=by
 refine ak Tryz.func49 ?_
 repeat' ((try conv=>whnf)<;>first
  |exact Bool.noConfusion (show false=true from h)
  |exact Bool.noConfusion (show true=false from(congrArg (!·) hx).symm.trans h)
  |refine BrI.intro (λh=>?_) (λh=>?_)
  |((refine ah ?_ ?_ ?_);rotate_left;(first |exact hw |exact BX p x 512 (by decide) (by decide)))
  |(refine dm ?_;conv=>whnf)
  |fail)
theorem ze6(p:Pr)(x:Ex)(F:List Sp)(s:Sp)(hw:PCall Tryz.prog 94 [p.d] (.ret (.tuple [.ptr (fC p F),.i 0])))(hx:(eY p x 512).2=true)(hc:PCall Tryz.prog 98 [.ptr (fC p F),x.d] (.ret s.d)):PCall Tryz.prog 49 [p.d,x.d] (.ret (.tuple [.i s.1,.i s.2,.i 0])):=by
 refine ak Tryz.func49 ?_
 repeat' ((try conv=>whnf)<;>first
  |exact Bool.noConfusion (show false=true from h)
  |exact Bool.noConfusion (show false=true from(congrArg (!·) hx).symm.trans h)
  |refine BrI.intro (λh=>?_) (λh=>?_)
  |((refine ah ?_ ?_ ?_);rotate_left;(first |exact hw |exact BX p x 512 (by decide) (by decide)))
  |((refine lent_step' [(1000000,6),(1000001,7),(1000002,3),(1000003,4),(1000004,5)] (z0m p F x s hc) ?_ ?_ ?_ ?_);rotate_left 0;rfl;(exact⟨rfl,rfl,rfl,rfl,rfl,trivial⟩);rfl)
  |refine eU ?_
  |(refine dm ?_;conv=>whnf)
  |fail)
theorem z9z(p:Pr)(x:Ex)(F:List Sp)(e:Int)(hw:PCall Tryz.prog 94 [p.d] (.ret (.tuple [.ptr (fC p F),.i 0])))(hx:(eY p x 512).2=true)(hc:PCall Tryz.prog 98 [.ptr (fC p F),x.d] (.pan (.iface 34 (.i e)))):PCall Tryz.prog 49 [p.d,x.d] (.ret (.tuple [.i 0,.i 0,.i e])):=by
 refine ak Tryz.func49 ?_
 repeat' ((try conv=>whnf)<;>first
  |exact Bool.noConfusion (show false=true from h)
  |exact Bool.noConfusion (show false=true from(congrArg (!·) hx).symm.trans h)
  |refine BrI.intro (λh=>?_) (λh=>?_)
  |((refine ah ?_ ?_ ?_);rotate_left;(first |exact hw |exact BX p x 512 (by decide) (by decide)))
  |((refine lent_step' [(1000000,6),(1000001,7),(1000002,3),(1000003,4),(1000004,5)] (Xx p F x e hc) ?_ ?_ ?_ ?_);rotate_left 0;rfl;(exact⟨rfl,rfl,rfl,rfl,rfl,trivial⟩);rfl)
  |refine eU ?_
  |(refine dm ?_;conv=>whnf)
  |fail)
end Go.Proofs.YtgehpmgkaeohaaaGreatDoor
