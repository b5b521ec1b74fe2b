/- A part of the proof. -/
import Derived.Test.YtgehpmgkaeohaaaGreatDoorZSA
import Derived.Test.YtgehpmgkaeohaaaGreatDoorZRB
set_option linter.all false
set_option maxHeartbeats 4000000
namespace Go.Proofs.YtgehpmgkaeohaaaGreatDoor
open Go.Fw Go.Fw.Rg
set_option maxRecDepth 10000
variable [ae]
theorem X7(x:Int)  : PCall Tryz.prog 168 [.i x] (.ret (.i (oN x))):=by
 refine aj Tryz.func168 ?_
 repeat' ((try conv=>whnf)<;>first
  |refine BrI.intro (λh=>?_) (λh=>?_)
  |(refine cO ?_;conv=>whnf)
  |fail)
 all_goals (refine congrArg D.i ?_;unfold oN;simp only[decide_eq_true_eq,decide_eq_false_iff_not]at *;(repeat' split)<;>omega)
theorem KA(a n:Int)(ha:inW a=true)(hn:1<=n)(hn2:n<=2147483648):PCall Tryz.prog 179 [.i a,.i n] (.ret (.i (ji a n))):=by
 refine aj Tryz.func179 ?_
 repeat' ((try conv=>whnf)<;>first
  |refine BrI.intro (λh=>?_) (λh=>?_)
  |(refine cO ?_;conv=>whnf)
  |refine And.intro ?_ ?_
  |fail)
 all_goals first
  |omega
  |exact congrArg D.i (ZH hn hn2 ha (of_decide_eq_true h))
  |exact congrArg D.i (ZI hn ha (of_decide_eq_false h))
theorem Qg(a b:Int)(hc:zh0 a b=false)(hw:IntKind.i64.wrap (a+b)=a+b):PCall Tryz.prog 174 [.i a,.i b] (.ret (.i (a+b))):=by
 refine aj Tryz.func174 ?_
 repeat' ((try conv=>whnf)<;>first
  |refine BrI.intro (λh=>?_) (λh=>?_)
  |exact Bool.noConfusion (hc.symm.trans h)
  |(refine cO ?_;conv=>whnf)
  |fail)
 all_goals exact congrArg D.i hw
theorem add_bad(a b:Int)(hc:zh0 a b=true):PCall Tryz.prog 174 [.i a,.i b] (.pan (.iface 34 (.i 160))):=by
 refine aj Tryz.func174 ?_
 repeat' ((try conv=>whnf)<;>first
  |refine BrI.intro (λh=>?_) (λh=>?_)
  |exact Bool.noConfusion (hc.symm.trans h)
  |((refine zy ?_);refine⟨[],rfl,?_,trivial⟩;conv=>whnf)
  |fail)
theorem zbm(n:Int)(f:Bool)(hc:SH n f=false):PCall Tryz.prog 219 [.i n,.b f] (.ret (.i n)):=by
 refine aj Tryz.func219 ?_
 repeat' ((try conv=>whnf)<;>first
  |refine BrI.intro (λh=>?_) (λh=>?_)
  |exact Bool.noConfusion (hc.symm.trans h)
  |(refine cO ?_;conv=>whnf)
  |fail)
theorem z1t(n:Int)(f:Bool)(hc:SH n f=true):PCall Tryz.prog 219 [.i n,.b f] (.pan (.iface 34 (.i 160))):=by
 refine aj Tryz.func219 ?_
 repeat' ((try conv=>whnf)<;>first
  |refine BrI.intro (λh=>?_) (λh=>?_)
  |exact Bool.noConfusion (hc.symm.trans h)
  |((refine zy ?_);refine⟨[],rfl,?_,trivial⟩;conv=>whnf)
  |fail)
theorem mul_zero(a b:Int)(hz:z3u a b=true):PCall Tryz.prog 177 [.i a,.i b] (.ret (.i 0)):=by
 refine aj Tryz.func177 ?_
 repeat' ((try conv=>whnf)<;>first
  |refine BrI.intro (λh=>?_) (λh=>?_)
  |exact Bool.noConfusion (hz.symm.trans h)
  |(refine cO ?_;conv=>whnf)
  |fail)
theorem zg5(a b:Int)(hz:z3u a b=false)(hb:b≠0)(hq:mm2 true b (IntKind.i64.wrap (0-b))≠0)(hw:SH (IntKind.i64.wrap (a * b)) (zd0 a b)=false):PCall Tryz.prog 177 [.i a,.i b] (.ret (.i (IntKind.i64.wrap (a * b)))):=by
 refine aj Tryz.func177 ?_
 repeat' ((try conv=>whnf)<;>first
  |refine BrI.intro (λh=>?_) (λh=>?_)
  |exact Bool.noConfusion (hz.symm.trans h)
  |((refine ah ?_ ?_ ?_);rotate_left;exact zbm _ _ hw)
  |((refine aK ?_ ?_ (λhg=>?_) ?_);rfl)
  |((refine aY ?_ ?_);rfl;rfl)
  |((refine gu ?_ ?_);rfl)
  |(refine cO ?_;conv=>whnf)
  |refine And.intro ?_ ?_
  |fail)
 all_goals first
  |exact hb
  |exact hq
theorem zbn(a b:Int)(hz:z3u a b=false)(hb:b≠0)(hq:mm2 true b (IntKind.i64.wrap (0-b))≠0)(hw:SH (IntKind.i64.wrap (a * b)) (zd0 a b)=true):PCall Tryz.prog 177 [.i a,.i b] (.pan (.iface 34 (.i 160))):=by
 refine aj Tryz.func177 ?_
 repeat' ((try conv=>whnf)<;>first
  |refine BrI.intro (λh=>?_) (λh=>?_)
  |exact Bool.noConfusion (hz.symm.trans h)
  |((refine ah ?_ ?_ ?_);rotate_left;exact z1t _ _ hw)
  |((refine aK ?_ ?_ (λhg=>?_) ?_);rfl)
  |((refine aY ?_ ?_);rfl;rfl)
  |((refine zy ?_);refine⟨[],rfl,?_,trivial⟩;conv=>whnf)
  |refine And.intro ?_ ?_
  |fail)
 all_goals first
  |exact hb
  |exact hq
abbrev fC(p:Pr)(found:List Sp):List D:=[.str p.name,.i p.latency,.i p.tail,.sl 3 (p.params.map Bd.cs),.sl 3 (p.states.map Bd.cs),.sl 4 (p.lines.map Ln.cs),.sl 2 (p.tables.map Tb.cs),.sl 8 (p.stmts.map Sm.cs),.sl 2 (found.map Sp.cs)]
theorem wI(a b c:Int)(hc:c=b)(ha:inW a=true)(hb:inW b=true):PCall Tryz.prog 174 [.i a,.i c] (zh1 34 (okW (a+b))):=by
 subst hc
 unfold okW
 cases hw:inW (a+c)with
 |true=>exact Qg a c (by rw[VW ha hb,hw];rfl) (qV hw)
 |false=>exact add_bad a c (by rw[VW ha hb,hw];rfl)
theorem wJ(a b:Int)(ha:inW a=true)(hb:inW b=true):PCall Tryz.prog 177 [.i a,.i b] (zh1 34 (okW (a * b))):=by
 cases hz:z3u a b with
 |true=>rw[z8c hz];exact mul_zero a b hz
 |false=>
  have hb0:=z8d hz
  have hq:mm2 true b (IntKind.i64.wrap (0-b))≠0:=by rw[gp hb,MQ];omega
  unfold okW
  cases hw:inW (a * b)with
  |true=>
   have:=zg5 a b hz hb0 hq (by rw[PG ha hb hb0,hw];rfl)
   rw[qV hw]at this;exact this
  |false=>exact zbn a b hz hb0 hq (by rw[PG ha hb hb0,hw];rfl)
theorem op1(p:Pr)(found:List Sp)(x:Ex)  : PCall Tryz.prog 160 [.ptr (fC p found),x.d,.sl 2 []] (.ret (Sp.d (x.n,x.n))):=by
 refine aj Tryz.func160 ?_
 repeat' ((try conv=>whnf)<;>first
  |(refine cO ?_;conv=>whnf)
  |fail)
theorem op3(p:Pr)(found:List Sp)(x:Ex)(h0:0<=x.index)(h1:x.index<p.params.length):PCall Tryz.prog 161 [.ptr (fC p found),x.d,.sl 2 []] (.ret (Sp.d ((jk p x.index).lo,(jk p x.index).hi))):=by
 refine aj Tryz.func161 ?_
 repeat' ((try conv=>whnf)<;>first
  |((refine fA Rg.Bd.none ?_ ?_ h0 h1 ?_);rfl;rfl)
  |refine eQ ?_
  |(refine cO ?_;conv=>whnf)
  |fail)
theorem op4(p:Pr)(found:List Sp)(x:Ex)(h0:0<=x.index)(h1:x.index<p.states.length):PCall Tryz.prog 162 [.ptr (fC p found),x.d,.sl 2 []] (.ret (Sp.d ((bH p x.index).lo,(bH p x.index).hi))):=by
 refine aj Tryz.func162 ?_
 repeat' ((try conv=>whnf)<;>first
  |((refine fA Rg.Bd.none ?_ ?_ h0 h1 ?_);rfl;rfl)
  |refine eQ ?_
  |(refine cO ?_;conv=>whnf)
  |fail)
theorem op5(p:Pr)(found:List Sp)(x:Ex)(h0:0<=x.index)(h1:x.index<found.length):PCall Tryz.prog 163 [.ptr (fC p found),x.d,.sl 2 []] (.ret (Sp.d (found.getD x.index.toNat (0,0)))):=by
 refine aj Tryz.func163 ?_
 repeat' ((try conv=>whnf)<;>first
  |((refine fA ((0,0):Sp) ?_ ?_ h0 h1 ?_);rfl;rfl)
  |refine oK ?_
  |refine eQ ?_
  |(refine cO ?_;conv=>whnf)
  |fail)
theorem z5t(p:Pr)(found:List Sp)(x:Ex)(a:Sp)(hc:(decide (a.1<0) || decide (a.2>4096))=false):PCall Tryz.prog 164 [.ptr (fC p found),x.d,.sl 2 [[.i a.1,.i a.2]]] (.ret (Sp.d (-2147483648,2147483647))):=by
 refine aj Tryz.func164 ?_
 repeat' ((try conv=>whnf)<;>first
  |refine BrI.intro (λh=>?_) (λh=>?_)
  |exact Bool.noConfusion (hc.symm.trans ((PE _ _).symm.trans h))
  |refine yV ?_
  |refine oK ?_
  |((refine aK ?_ ?_ (λhg=>?_) ?_);rfl)
  |((refine aY ?_ ?_);rfl;rfl)
  |(refine cO ?_;conv=>whnf)
  |refine And.intro ?_ ?_
  |fail)
 all_goals decide
theorem X8(p:Pr)(found:List Sp)(x:Ex)(a:Sp)(hc:(decide (a.1<0) || decide (a.2>4096))=true):PCall Tryz.prog 164 [.ptr (fC p found),x.d,.sl 2 [[.i a.1,.i a.2]]] (.pan (.iface 34 (.i 161))):=by
 refine aj Tryz.func164 ?_
 repeat' ((try conv=>whnf)<;>first
  |refine BrI.intro (λh=>?_) (λh=>?_)
  |exact Bool.noConfusion (hc.symm.trans ((PE _ _).symm.trans h))
  |refine yV ?_
  |((refine aK ?_ ?_ (λhg=>?_) ?_);rfl)
  |((refine aY ?_ ?_);rfl;rfl)
  |((refine zy ?_);refine⟨[],rfl,?_,trivial⟩;conv=>whnf)
  |refine And.intro ?_ ?_
  |fail)
 all_goals decide
theorem op8(p:Pr)(found:List Sp)(x:Ex)(a:Sp)(h0:0<=x.index)(h1:x.index<p.lines.length):PCall Tryz.prog 165 [.ptr (fC p found),x.d,.sl 2 [[.i a.1,.i a.2]]] (.ret (Sp.d (mm2 false (bW p x.index).lo 0,mm2 true (bW p x.index).hi 0))):=by
 refine aj Tryz.func165 ?_
 repeat' ((try conv=>whnf)<;>first
  |((refine fA Rg.Ln.none ?_ ?_ h0 h1 ?_);rfl;rfl)
  |refine eQ ?_
  |(refine cO ?_;conv=>whnf)
  |fail)
theorem op9(p:Pr)(found:List Sp)(x:Ex)(a:Sp)(h0:0<=x.index)(h1:x.index<p.tables.length)(hv:0<(aJ p x.index).length)(hvl:(aJ p x.index).length<=1073741824):PCall Tryz.prog 166 [.ptr (fC p found),x.d,.sl 2 [[.i a.1,.i a.2]]] (.ret (Sp.d (minL ((aJ p x.index).getD 0 0) (aJ p x.index),maxL ((aJ p x.index).getD 0 0) (aJ p x.index)))):=by
 refine dh Tryz.func166 λhf=>?_
 have hlen:(aJ p x.index).length<=9223372036854775807:=by omega
 clear hf
 repeat' ((try conv=>whnf)<;>first
  |exact trivial
  |exact ai hd0 ‹_›
  |refine bu hd0 ?_
  |refine aP hd0 ?_
  |((refine fA Rg.Tb.none ?_ ?_ h0 h1 ?_);rfl;rfl)
  |((refine fA (f:=z3p) (n:=0) (0:Int) ?_ ?_ ?_ ?_ ?_);rfl;rfl;exact Int.le_refl _;exact Int.ofNat_lt.2 hv)
  |((refine au.mk 0 ?_);refine⟨aH ((aJ p x.index)) 30 (λ(q:(Int)×(Int))=>match q with |(lo,hi)=>[]) (λ(q:(Int)×(Int))=>match q with |(lo,hi)=>[(8,.cells [.data (.i lo),.data (.i hi)])]) [6,8,28,29] (λi0 r0 q=>match q with |(lo,hi)=>minL ((aJ p x.index).getD 0 0) (aJ p x.index)=minL lo r0/\maxL ((aJ p x.index).getD 0 0) (aJ p x.index)=maxL hi r0),?_⟩;refine af (((aJ p x.index).getD 0 0),((aJ p x.index).getD 0 0)) ?_ ?_ (λi0 ⟨lo,hi⟩ hd0 hI0=>?_) (λi0 x0 r0 ⟨lo,hi⟩ hd0 hl0 hI0=>?_))
  |refine ag hd0 ((mm2 false lo x0),(mm2 true hi x0)) ?_ ?_
  |((refine aB ?_ ?_ ?_ ?_ ?_);rfl;rfl;rotate_left;exact ay hd0)
  |refine eQ ?_
  |(refine cO ?_;conv=>whnf)
  |refine And.intro ?_ ?_
  |exact @rfl AV _
  |fail)
 all_goals first
  |rfl
  |decide
  |exact hI0.1
  |exact hI0.2
  |(rw[hI0.1,hI0.2];rfl)
theorem zkj(p:Pr)(found:List Sp)(x:Ex)(a:Sp)  : PCall Tryz.prog 167 [.ptr (fC p found),x.d,.sl 2 [[.i a.1,.i a.2]]] (.ret (Sp.d (oN a.1,oN a.2))):=by
 refine aj Tryz.func167 ?_
 repeat' ((try conv=>whnf)<;>first
  |refine yV ?_
  |((refine ah ?_ ?_ ?_);rotate_left;exact X7 _)
  |refine eQ ?_
  |(refine cO ?_;conv=>whnf)
  |refine And.intro ?_ ?_
  |fail)
 all_goals decide
theorem zkk(p:Pr)(found:List Sp)(x:Ex)(a b:Sp)  : PCall Tryz.prog 169 [.ptr (fC p found),x.d,.sl 2 [[.i a.1,.i a.2],[.i b.1,.i b.2]]] (.ret (Sp.d (mm2 false a.1 b.1,mm2 false a.2 b.2))):=by
 refine aj Tryz.func169 ?_
 repeat' ((try conv=>whnf)<;>first
  |refine yV ?_
  |refine eQ ?_
  |(refine cO ?_;conv=>whnf)
  |refine And.intro ?_ ?_
  |fail)
 all_goals decide
theorem zkl(p:Pr)(found:List Sp)(x:Ex)(a b:Sp)  : PCall Tryz.prog 170 [.ptr (fC p found),x.d,.sl 2 [[.i a.1,.i a.2],[.i b.1,.i b.2]]] (.ret (Sp.d (mm2 true a.1 b.1,mm2 true a.2 b.2))):=by
 refine aj Tryz.func170 ?_
 repeat' ((try conv=>whnf)<;>first
  |refine yV ?_
  |refine eQ ?_
  |(refine cO ?_;conv=>whnf)
  |refine And.intro ?_ ?_
  |fail)
 all_goals decide
theorem zkm(p:Pr)(found:List Sp)(x:Ex)(a:Sp)(ha:inW a.1=true)(hb:inW a.2=true):PCall Tryz.prog 171 [.ptr (fC p found),x.d,.sl 2 [[.i a.1,.i a.2]]] (.ret (Sp.d (Ue a))):=by
 refine aj Tryz.func171 ?_
 repeat' ((try conv=>whnf)<;>first
  |refine BrI.intro (λh=>?_) (λh=>?_)
  |refine yV ?_
  |refine oK ?_
  |refine eQ ?_
  |(refine cO ?_;conv=>whnf)
  |refine And.intro ?_ ?_
  |fail)
 all_goals first
  |decide
  |(refine congrArg Sp.d ?_;unfold Ue;rw[if_pos (of_decide_eq_true h)];done)
  |(unfold Ue;rw[if_neg (of_decide_eq_false ‹decide (a.1>=0)=false›),if_pos (of_decide_eq_true h),gp ha,gp hb];done)
  |(unfold Ue;rw[if_neg (of_decide_eq_false ‹decide (a.1>=0)=false›),if_neg (of_decide_eq_false h),gp ha];done)
theorem zkn(p:Pr)(found:List Sp)(x:Ex)(a:Sp)(ha:inW a.1=true)(hb:inW a.2=true):PCall Tryz.prog 172 [.ptr (fC p found),x.d,.sl 2 [[.i a.1,.i a.2]]] (.ret (Sp.d (-a.2,-a.1))):=by
 refine aj Tryz.func172 ?_
 repeat' ((try conv=>whnf)<;>first
  |refine yV ?_
  |refine eQ ?_
  |(refine cO ?_;conv=>whnf)
  |refine And.intro ?_ ?_
  |fail)
 all_goals first
  |decide
  |(rw[gp ha,gp hb];done)
theorem zko(p:Pr)(found:List Sp)(x:Ex)(a b:Sp)(ha:inW a.1=true/\inW a.2=true)(hb:inW b.1=true/\inW b.2=true):PCall Tryz.prog 173 [.ptr (fC p found),x.d,.sl 2 [[.i a.1,.i a.2],[.i b.1,.i b.2]]] (VY 34 (two (a.1+b.1) (a.2+b.2))):=by
 refine aj Tryz.func173 ?_
 repeat' ((try conv=>whnf)<;>first
  |((refine bK _ _ _ [false,false,false,false,false,false,false,false,true,true,true] ?_ ?_ ?_);rfl;kernel_rfl)
  |((refine bK _ _ _ [true,true] ?_ ?_ ?_);rfl;kernel_rfl)
  |((refine quiet_step ?_ ?_);kernel_rfl)
  |refine jT (wI a.1 b.1 _ rfl ha.1 hb.1) (λn1 q1=>?_) (λe1 q1=>?_)
  |refine jT (wI a.2 b.2 _ rfl ha.2 hb.2) (λn2 q2=>?_) (λe2 q2=>?_)
  |((refine Gt (n1,n2) (z3v q1 q2) ?_);refine⟨[],rfl,?_,trivial⟩;conv=>whnf)
  |((refine ni e1 (z3w q1) ?_);refine⟨[],rfl,?_,trivial⟩;conv=>whnf)
  |((refine ni e2 (z3x q2) ?_);refine⟨[],rfl,?_,trivial⟩;conv=>whnf)
  |refine yV ?_
  |refine eQ ?_
  |((refine eF ?_ ?_);kernel_rfl)
  |refine And.intro ?_ ?_
  |fail)
 all_goals decide
theorem zkp(p:Pr)(found:List Sp)(x:Ex)(a b:Sp)(ha:inW a.1=true/\inW a.2=true)(hb:inW b.1=true/\inW b.2=true):PCall Tryz.prog 175 [.ptr (fC p found),x.d,.sl 2 [[.i a.1,.i a.2],[.i b.1,.i b.2]]] (VY 34 (two (a.1 + -b.2) (a.2 + -b.1))):=by
 refine aj Tryz.func175 ?_
 repeat' ((try conv=>whnf)<;>first
  |((refine bK _ _ _ [false,false,false,false,false,false,false,false,false,true,true,true] ?_ ?_ ?_);rfl;kernel_rfl)
  |((refine bK _ _ _ [true,true] ?_ ?_ ?_);rfl;kernel_rfl)
  |((refine quiet_step ?_ ?_);kernel_rfl)
  |refine jT (wI a.1 (-b.2) _ (gp hb.2) ha.1 (BC hb.2)) (λn1 q1=>?_) (λe1 q1=>?_)
  |refine jT (wI a.2 (-b.1) _ (gp hb.1) ha.2 (BC hb.1)) (λn2 q2=>?_) (λe2 q2=>?_)
  |((refine Gt (n1,n2) (z3v q1 q2) ?_);refine⟨[],rfl,?_,trivial⟩;conv=>whnf)
  |((refine ni e1 (z3w q1) ?_);refine⟨[],rfl,?_,trivial⟩;conv=>whnf)
  |((refine ni e2 (z3x q2) ?_);refine⟨[],rfl,?_,trivial⟩;conv=>whnf)
  |refine yV ?_
  |refine eQ ?_
  |((refine eF ?_ ?_);kernel_rfl)
  |refine And.intro ?_ ?_
  |fail)
 all_goals decide
theorem zkq(p:Pr)(found:List Sp)(x:Ex)(a b:Sp)(ha:inW a.1=true/\inW a.2=true)(hb:inW b.1=true/\inW b.2=true):PCall Tryz.prog 176 [.ptr (fC p found),x.d,.sl 2 [[.i a.1,.i a.2],[.i b.1,.i b.2]]] (VY 34 (prodM a b)):=by
 refine aj Tryz.func176 ?_
 repeat' ((try conv=>whnf)<;>first
  |((refine bK _ _ _ [false,false,false,false,false,false,false,false,true,false,false,false,false,false,false,false,false,true,false,false,false,false,false,false,false,false,true,true,true,true,true] ?_ ?_ ?_);rfl;kernel_rfl)
  |((refine bK _ _ _ [false,false,false,false,false,false,false,false,true,false,false,false,false,false,false,false,false,true,true,true,true,true] ?_ ?_ ?_);rfl;kernel_rfl)
  |((refine bK _ _ _ [false,false,false,false,false,false,false,false,true,true,true,true,true] ?_ ?_ ?_);rfl;kernel_rfl)
  |((refine bK _ _ _ [true,true,true,true] ?_ ?_ ?_);rfl;kernel_rfl)
  |((refine quiet_step ?_ ?_);kernel_rfl)
  |refine jT (wJ a.1 b.1 ha.1 hb.1) (λn1 q1=>?_) (λe1 q1=>?_)
  |refine jT (wJ a.1 b.2 ha.1 hb.2) (λn2 q2=>?_) (λe2 q2=>?_)
  |refine jT (wJ a.2 b.1 ha.2 hb.1) (λn3 q3=>?_) (λe3 q3=>?_)
  |refine jT (wJ a.2 b.2 ha.2 hb.2) (λn4 q4=>?_) (λe4 q4=>?_)
  |((refine Gt (Ld n1 n2 n3 n4,Lh n1 n2 n3 n4) (z8f q1 q2 q3 q4) ?_);refine⟨[],rfl,?_,trivial⟩;conv=>whnf)
  |((refine ni e1 (zB (.inl q1)) ?_);refine⟨[],rfl,?_,trivial⟩;conv=>whnf)
  |((refine ni e2 (zB (.inr (.inl q2))) ?_);refine⟨[],rfl,?_,trivial⟩;conv=>whnf)
  |((refine ni e3 (zB (.inr (.inr (.inl q3)))) ?_);refine⟨[],rfl,?_,trivial⟩;conv=>whnf)
  |((refine ni e4 (zB (.inr (.inr (.inr q4)))) ?_);refine⟨[],rfl,?_,trivial⟩;conv=>whnf)
  |refine yV ?_
  |refine eQ ?_
  |((refine eF ?_ ?_);kernel_rfl)
  |refine And.intro ?_ ?_
  |fail)
 all_goals first
  |rfl
  |decide
theorem zkr(p:Pr)(found:List Sp)(x:Ex)(a:Sp)(ha:inW a.1=true)(hb:inW a.2=true)(hn:1<=x.n)(hn2:x.n<=2147483648):PCall Tryz.prog 178 [.ptr (fC p found),x.d,.sl 2 [[.i a.1,.i a.2]]] (.ret (Sp.d (ji a.1 x.n,ji a.2 x.n))):=by
 refine aj Tryz.func178 ?_
 repeat' ((try conv=>whnf)<;>first
  |refine yV ?_
  |((refine ah ?_ ?_ ?_);rotate_left;(first |exact KA _ _ (by assumption) (by assumption) (by assumption) |exact KA a.1 x.n ha hn hn2))
  |refine eQ ?_
  |(refine cO ?_;conv=>whnf)
  |refine And.intro ?_ ?_
  |fail)
 all_goals decide
theorem zks(p:Pr)(found:List Sp)(x:Ex)(a b c d:Sp)  : PCall Tryz.prog 180 [.ptr (fC p found),x.d,.sl 2 [[.i a.1,.i a.2],[.i b.1,.i b.2],[.i c.1,.i c.2],[.i d.1,.i d.2]]] (.ret (Sp.d (mm2 false c.1 d.1,mm2 true c.2 d.2))):=by
 refine aj Tryz.func180 ?_
 repeat' ((try conv=>whnf)<;>first
  |refine yV ?_
  |refine eQ ?_
  |(refine cO ?_;conv=>whnf)
  |refine And.intro ?_ ?_
  |fail)
 all_goals decide
abbrev zir:List D:=[.val .nilFunc,.fn 160 [],.val .nilFunc,.fn 161 [],.fn 162 [],.fn 163 [],.fn 164 [],.fn 164 [],.fn 165 [],.fn 166 [],.fn 167 [],.fn 169 [],.fn 170 [],.fn 171 [],.fn 172 [],.fn 173 [],.fn 175 [],.fn 176 [],.fn 178 [],.fn 180 []]
def opF(k:Int):Nat:=match zir.getD k.toNat (.val .nilFunc)with | .fn f _=>f |_=>0
theorem CJ   : PCall Tryz.prog 130 [] (.ret (.agg zir)):=by
 refine aj Tryz.func130 ?_
 repeat' ((try conv=>whnf)<;>first
  |(refine cO ?_;conv=>whnf)
  |fail)
theorem X9{p:Pr}{n:Nat}{k i m:Int}(hw:uk p n k i m=true){q:D->Prop}(h:q (.fn (opF k) [])):∃c,(0<=k/\zir[k.toNat]? = some c)/\q c:=by
 rcases kinds hw with rfl |rfl |rfl |rfl |rfl |rfl |rfl |rfl |rfl |rfl |rfl |rfl |rfl |rfl |rfl |rfl |rfl |rfl<;>exact⟨_,⟨by decide,rfl⟩,h⟩
theorem zis{p:Pr}{n:Nat}{k i m:Int}(hw:uk p n k i m=true):Nat.beq (opF k) yx=false:=by
 rcases kinds hw with rfl |rfl |rfl |rfl |rfl |rfl |rfl |rfl |rfl |rfl |rfl |rfl |rfl |rfl |rfl |rfl |rfl |rfl<;>rfl
theorem QM{b:Bool}{p q:Prop}:b=false->p->(match b with |true=>q |false=>p):=by intro h h2;subst h;exact h2
theorem zbo(p:Pr)(found:List Sp)(x:Ex)(sl:List Sp)(hR:Rng p)(hT:∀t∈p.tables,t.values.length<=1073741824)(hw:wfX p found.length x=true)(hl:sl.length=x.l.length)(hs:InS sl) :
  PCall Tryz.prog (opF x.kind) [.ptr (fC p found),x.d,.sl 2 (sl.map Sp.cs)] (VY 34 (opM p found x.kind x.index x.n sl)):=by
 obtain⟨h1,h2,_⟩:=bZ hw
 rw[<-hl]at h1
 generalize hk:x.kind=k at h1 h2
 have nil:(sl.length:Int)=0->sl = []:=λh=>List.length_eq_zero_iff.1 (by omega)
 rcases kinds h2 with rfl |rfl |rfl |rfl |rfl |rfl |rfl |rfl |rfl |rfl |rfl |rfl |rfl |rfl |rfl |rfl |rfl |rfl
 ·obtain rfl:=nil h1
  exact op1 p found x
 ·obtain rfl:=nil h1
  have h2:(decide (0<=x.index)&&decide (x.index<p.params.length))=true:=h2
  simp only[Bool.and_eq_true,decide_eq_true_eq]at h2
  exact op3 p found x h2.1 h2.2
 ·obtain rfl:=nil h1
  have h2:(decide (0<=x.index)&&decide (x.index<p.states.length))=true:=h2
  simp only[Bool.and_eq_true,decide_eq_true_eq]at h2
  exact op4 p found x h2.1 h2.2
 ·obtain rfl:=nil h1
  have h2:(decide (0<=x.index)&&decide (x.index<found.length))=true:=h2
  simp only[Bool.and_eq_true,decide_eq_true_eq]at h2
  exact op5 p found x h2.1 h2.2
 ·obtain⟨a,rfl⟩:=BG (sl:=sl) (by have h1:(sl.length:Int)=1:=h1;omega)
  show PCall Tryz.prog _ _ (VY _ (aheadM a))
  unfold aheadM
  cases hc:(decide (a.1<0) || decide (a.2>4096))with
  |true=>exact X8 p found x a hc
  |false=>exact z5t p found x a hc
 ·obtain⟨a,rfl⟩:=BG (sl:=sl) (by have h1:(sl.length:Int)=1:=h1;omega)
  show PCall Tryz.prog _ _ (VY _ (aheadM a))
  unfold aheadM
  cases hc:(decide (a.1<0) || decide (a.2>4096))with
  |true=>exact X8 p found x a hc
  |false=>exact z5t p found x a hc
 ·have h1:(sl.length:Int)=1:=h1
  have h2:(decide (0<=x.index)&&decide (x.index<p.lines.length))=true:=h2
  simp only[Bool.and_eq_true,decide_eq_true_eq]at h2
  obtain⟨a,rfl⟩:=BG (sl:=sl) (by omega)
  exact op8 p found x a h2.1 h2.2
 ·have h1:(sl.length:Int)=1:=h1
  have h2:(decide (0<=x.index)&&decide (x.index<p.tables.length) && !(aJ p x.index==[]))=true:=h2
  simp only[Bool.and_eq_true,decide_eq_true_eq]at h2
  obtain⟨a,rfl⟩:=BG (sl:=sl) (by omega)
  have h3:aJ p x.index ≠ []:=by simpa using h2.2
  exact op9 p found x a h2.1.1 h2.1.2 (List.length_pos_iff.2 h3) (hT _ (getD_mem' Rg.Tb.none h2.1.1 h2.1.2))
 ·obtain⟨a,rfl⟩:=BG (sl:=sl) (by have h1:(sl.length:Int)=1:=h1;omega)
  exact zkj p found x a
 ·obtain⟨a,b,rfl⟩:=V3 (sl:=sl) (by have h1:(sl.length:Int)=2:=h1;omega)
  exact zkk p found x a b
 ·obtain⟨a,b,rfl⟩:=V3 (sl:=sl) (by have h1:(sl.length:Int)=2:=h1;omega)
  exact zkl p found x a b
 ·obtain⟨a,rfl⟩:=BG (sl:=sl) (by have h1:(sl.length:Int)=1:=h1;omega)
  exact zkm p found x a (hs a (by simp)).1 (hs a (by simp)).2
 ·obtain⟨a,rfl⟩:=BG (sl:=sl) (by have h1:(sl.length:Int)=1:=h1;omega)
  exact zkn p found x a (hs a (by simp)).1 (hs a (by simp)).2
 ·obtain⟨a,b,rfl⟩:=V3 (sl:=sl) (by have h1:(sl.length:Int)=2:=h1;omega)
  exact zko p found x a b (hs a (by simp)) (hs b (by simp))
 ·obtain⟨a,b,rfl⟩:=V3 (sl:=sl) (by have h1:(sl.length:Int)=2:=h1;omega)
  exact zkp p found x a b (hs a (by simp)) (hs b (by simp))
 ·obtain⟨a,b,rfl⟩:=V3 (sl:=sl) (by have h1:(sl.length:Int)=2:=h1;omega)
  exact zkq p found x a b (hs a (by simp)) (hs b (by simp))
 ·obtain⟨a,rfl⟩:=BG (sl:=sl) (by have h1:(sl.length:Int)=1:=h1;omega)
  have h2:(decide (1<=x.n)&&decide (x.n<=2147483648))=true:=h2
  simp only[Bool.and_eq_true,decide_eq_true_eq]at h2
  exact zkr p found x a (hs a (by simp)).1 (hs a (by simp)).2 h2.1 h2.2
 ·obtain⟨a,b,c,d,rfl⟩:=zh2 (sl:=sl) (by have h1:(sl.length:Int)=4:=h1;omega)
  exact zks p found x a b c d
theorem yj(x:Ex)(p:Pr)(found:List Sp)(hR:Rng p)(hF:InS found)(hT:∀t∈p.tables,t.values.length<=1073741824)(hx:Ref15.nodes x<=1073741824)(hw:wfX p found.length x=true):PCall Tryz.prog 98 [.ptr (fC p found),x.d] (VY 34 (dF p found x)):=by
 revert x;refine Ex.ind λx ih hx hw=>?_
 refine dh Tryz.func98 λhf=>?_
 have hN:=Ref15.nodes_eq x
 have hL:=Ref15.len_nodes x.l
 have hlen:x.l.length<=9223372036854775807:=by omega
 obtain⟨g1,g2,g3⟩:=bZ hw
 clear hf
 repeat' ((try conv=>whnf)<;>first
  |((refine bK _ _ _ [true] ?_ ?_ ?_);rfl;kernel_rfl)
  |((refine quiet_step ?_ ?_);kernel_rfl)
  |refine PH (ih x0 (bU hd0) (by have:=qB (bU hd0);omega) (ng g3 _ (bU hd0))) (λs1 q1=>?_) (λe1 q1=>?_)
  |refine PH (zbo p found x sl hR hT hw (Jm (zC hI0.1).2) (ZJ hR hF g3 (zC hI0.1).2)) (λs2 q2=>?_) (λe2 q2=>?_)
  |((refine Gt s2 ((zC hI0.1).1.trans q2) ?_);refine⟨[],rfl,?_,trivial⟩;conv=>whnf)
  |((refine ni e2 ((zC hI0.1).1.trans q2) ?_);refine⟨[],rfl,?_,trivial⟩;conv=>whnf)
  |((refine ni e1 (ZK hI0.1 q1) ?_);refine⟨[],rfl,?_,trivial⟩;conv=>whnf)
  |refine X9 g2 ?_
  |refine QM (zis g2) ?_
  |exact trivial
  |exact ai hd0 ‹_›
  |refine kG hd0 ?_
  |refine iw hd0 ?_
  |((refine au.mk 0 ?_);refine⟨aH (x.l) 11 (λ(sl:(List Sp))=>[(5,.gs 900005 2 (sl.map Sp.cs))]) (λ(sl:(List Sp))=>[(900005,.tok 2 (sl.map Sp.cs).length)]) [0,3,4,9,10] (λi0 r0 sl=>pre sl (dw p found r0)=dw p found x.l/\sl.length=i0),?_⟩;refine af [] ?_ ?_ (λi0 (sl:(List Sp)) hd0 hI0=>?_) (λi0 x0 r0 (sl:(List Sp)) hd0 hl0 hI0=>?_))
  |refine ag hd0 (sl++[s1]) ?_ ?_
  |((refine ah ?_ ?_ ?_);rotate_left;exact CJ)
  |refine aI.l _ ?_
  |((refine bY ?_ ?_ ?_ ?_ ?_ ?_)<;>exact rfl)
  |((refine di ?_ ?_ ?_ ?_)<;>exact rfl)
  |((refine aB ?_ ?_ ?_ ?_ ?_);rfl;rfl;rotate_left;exact eY hd0)
  |refine oK ?_
  |refine wP ?_ ?_ ?_
  |refine eQ ?_
  |((refine eF ?_ ?_);kernel_rfl)
  |refine And.intro ?_ ?_
  |((refine mZ ?_ ?_ ?_);rfl;rfl;(first |exact bC |skip))
  |((refine gy ?_ ?_);rfl;(first |exact bC |skip))
  |exact @rfl AV _
  |exact dQ rfl
  |fail)
 all_goals first
  |rfl
  |exact pre_nil _
  |exact VZ hI0.1 q1
  |(rw[List.length_append,hI0.2];rfl)
  |(rw[List.length_map];omega)
theorem H5(p:Pr)(FF:List Sp)(R:Except Int (List Sp))(hR:Rng p)(hT:∀t∈p.tables,t.values.length<=1073741824)(hn:∀s∈p.stmts,Ref15.nodes s.x<=1073741824)(hl:p.stmts.length<=1073741824)(hw:vT p 0 p.stmts=true)(hS:bQ p p.stmts []=R)(hF:ig p p.stmts []=FF)(hRR:R = .ok FF):ak Tryz.prog 128 [.ptr 1000000 0] [(1000000,.cells [.data (.str p.name),.data (.i p.latency),.data (.i p.tail),.data (.sl 3 (p.params.map Bd.cs)),.data (.sl 3 (p.states.map Bd.cs)),.data (.sl 4 (p.lines.map Ln.cs)),.data (.sl 2 (p.tables.map Tb.cs)),.data (.sl 8 (p.stmts.map Sm.cs)),.nilsl 2])] (.ret (.data (.tuple []))) [(1000000,.cells [.data (.str p.name),.data (.i p.latency),.data (.i p.tail),.data (.sl 3 (p.params.map Bd.cs)),.data (.sl 3 (p.states.map Bd.cs)),.data (.sl 4 (p.lines.map Ln.cs)),.data (.sl 2 (p.tables.map Tb.cs)),.data (.sl 8 (p.stmts.map Sm.cs)),.gs 1000001 2 (FF.map Sp.cs)]),(1000001,.tok 2 (FF.map Sp.cs).length)]:=by
 refine pg Tryz.func128 λhf=>?_
 have hlen:p.stmts.length<=9223372036854775807:=by omega
 clear hf
 repeat' ((try conv=>whnf)<;>first
  |exact(Jq (hRR.symm.trans (Gz hI0 q1).1)).elim
  |exact(Jq (hRR.symm.trans (iL hI0 q1 (jZ (B:=((bH p x0.index).lo,(bH p x0.index).hi)) (zd2 ‹_›) h)).1)).elim
  |exact(Jq (hRR.symm.trans (iL hI0 q1 (jZ (B:=((bW p x0.index).lo,(bW p x0.index).hi)) (zd3 ‹_› ‹_›) h)).1)).elim
  |exact(Jq (hRR.symm.trans (iL hI0 q1 (jZ (B:=(-2147483648,2147483647)) (zd4 ‹_› ‹_› ‹_›) h)).1)).elim
  |exact(Jq (hRR.symm.trans (iL hI0 q1 (jZ (B:=(-4611686018427387904,4611686018427387904)) (zd5 ‹_› ‹_› ‹_›) h)).1)).elim
  |((have hq:=(V6 hI0).2);subst hq)
  |refine Jo (yj x0.x p fs hR hI0.ins hT (hn _ (bU hd0)) (Gy hI0)) (λs1 q1=>?_) (λe1 q1=>?_)
  |exact trivial
  |exact ai hd0 ‹_›
  |refine bu hd0 ?_
  |refine aP hd0 ?_
  |refine BrI.intro (λh=>?_) (λh=>?_)
  |((refine dE ?_ ?_);rfl)
  |((refine zx ?_ ?_ ?_);rfl;rfl)
  |((refine fA Rg.Bd.none ?_ ?_ (PI hI0.wf h).1 (PI hI0.wf h).2 ?_);rfl;rfl)
  |((refine fA Rg.Ln.none ?_ ?_ (PK hI0.wf h).1 (PK hI0.wf h).2 ?_);rfl;rfl)
  |((refine au.mk 0 ?_);refine⟨aH (p.stmts) 13 (λ(fs:(List Sp))=>[]) (λ(fs:(List Sp))=>[(1000000,.cells [.data (.str p.name),.data (.i p.latency),.data (.i p.tail),.data (.sl 3 (p.params.map Bd.cs)),.data (.sl 3 (p.states.map Bd.cs)),.data (.sl 4 (p.lines.map Ln.cs)),.data (.sl 2 (p.tables.map Tb.cs)),.data (.sl 8 (p.stmts.map Sm.cs)),.gs 900007 2 (fs.map Sp.cs)]),(900007,.tok 2 (fs.map Sp.cs).length)]) [0,11,12] (λi0 r0 fs=>StI p R FF i0 r0 fs),?_⟩;refine af ([]) ?_ ?_ (λi0 (fs:(List Sp)) hd0 hI0=>?_) (λi0 x0 r0 (fs:(List Sp)) hd0 hl0 hI0=>?_))
  |refine ag hd0 (fs++[s1]) ?_ ?_
  |((refine bg ?_);refine fin_step' [(1000000,1000000),(1000001,900007)] rfl ?_ ?_)
  |refine aI.l _ ?_
  |((refine bY ?_ ?_ ?_ ?_ ?_ ?_)<;>exact rfl)
  |((refine di ?_ ?_ ?_ ?_)<;>exact rfl)
  |((refine aB ?_ ?_ ?_ ?_ ?_);rfl;rfl;rotate_left;exact ay hd0)
  |refine oK ?_
  |refine wP ?_ ?_ ?_
  |refine eQ ?_
  |refine And.intro ?_ ?_
  |((refine mZ ?_ ?_ ?_);rfl;rfl;(first |exact bC |skip))
  |((refine gy ?_ ?_);rfl;(first |exact bC |skip))
  |((refine bP ?_);refine gZ ?_ ?_ ?_;rfl;rfl;(first |exact rfl |skip))
  |exact @rfl AV _
  |exact dQ rfl
  |fail)
 all_goals first
  |decide
  |exact Jp hS hF hw
  |exact mr hR hI0 q1 (mi (B:=((bH p x0.index).lo,(bH p x0.index).hi)) (zd2 ‹_›) h)
  |exact mr hR hI0 q1 (mi (B:=((bW p x0.index).lo,(bW p x0.index).hi)) (zd3 ‹_› ‹_›) h)
  |exact mr hR hI0 q1 (mi (B:=(-2147483648,2147483647)) (zd4 ‹_› ‹_› ‹_›) h)
  |exact mr hR hI0 q1 (mi (B:=(-4611686018427387904,4611686018427387904)) (zd5 ‹_› ‹_› ‹_›) h)
  |(rw[List.length_map,hI0.len];have:=oJ hd0;omega)
theorem DK(p:Pr)(FF:List Sp)(R:Except Int (List Sp))(e:Int)(hR:Rng p)(hT:∀t∈p.tables,t.values.length<=1073741824)(hn:∀s∈p.stmts,Ref15.nodes s.x<=1073741824)(hl:p.stmts.length<=1073741824)(hw:vT p 0 p.stmts=true)(hS:bQ p p.stmts []=R)(hF:ig p p.stmts []=FF)(hRR:R = .error e):ak Tryz.prog 128 [.ptr 1000000 0] [(1000000,.cells [.data (.str p.name),.data (.i p.latency),.data (.i p.tail),.data (.sl 3 (p.params.map Bd.cs)),.data (.sl 3 (p.states.map Bd.cs)),.data (.sl 4 (p.lines.map Ln.cs)),.data (.sl 2 (p.tables.map Tb.cs)),.data (.sl 8 (p.stmts.map Sm.cs)),.nilsl 2])] (.pan (.data (.iface 34 (.i e)))) [(1000000,.cells [.data (.str p.name),.data (.i p.latency),.data (.i p.tail),.data (.sl 3 (p.params.map Bd.cs)),.data (.sl 3 (p.states.map Bd.cs)),.data (.sl 4 (p.lines.map Ln.cs)),.data (.sl 2 (p.tables.map Tb.cs)),.data (.sl 8 (p.stmts.map Sm.cs)),.gs 1000001 2 (FF.map Sp.cs)]),(1000001,.tok 2 (FF.map Sp.cs).length)]:=by
 refine pg Tryz.func128 λhf=>?_
 have hlen:p.stmts.length<=9223372036854775807:=by omega
 clear hf
 repeat' ((try conv=>whnf)<;>first
  |((have hq:=V7 (hRR.symm.trans (Gz hI0 q1).1));(have hq2:=(Gz hI0 q1).2);subst hq;subst hq2)
  |((have hq:=V7 (hRR.symm.trans (iL hI0 q1 (jZ (B:=((bH p x0.index).lo,(bH p x0.index).hi)) (zd2 ‹_›) h)).1));(have hq2:=(iL hI0 q1 (jZ (B:=((bH p x0.index).lo,(bH p x0.index).hi)) (zd2 ‹_›) h)).2);subst hq;subst hq2)
  |((have hq:=V7 (hRR.symm.trans (iL hI0 q1 (jZ (B:=((bW p x0.index).lo,(bW p x0.index).hi)) (zd3 ‹_› ‹_›) h)).1));(have hq2:=(iL hI0 q1 (jZ (B:=((bW p x0.index).lo,(bW p x0.index).hi)) (zd3 ‹_› ‹_›) h)).2);subst hq;subst hq2)
  |((have hq:=V7 (hRR.symm.trans (iL hI0 q1 (jZ (B:=(-2147483648,2147483647)) (zd4 ‹_› ‹_› ‹_›) h)).1));(have hq2:=(iL hI0 q1 (jZ (B:=(-2147483648,2147483647)) (zd4 ‹_› ‹_› ‹_›) h)).2);subst hq;subst hq2)
  |((have hq:=V7 (hRR.symm.trans (iL hI0 q1 (jZ (B:=(-4611686018427387904,4611686018427387904)) (zd5 ‹_› ‹_› ‹_›) h)).1));(have hq2:=(iL hI0 q1 (jZ (B:=(-4611686018427387904,4611686018427387904)) (zd5 ‹_› ‹_› ‹_›) h)).2);subst hq;subst hq2)
  |exact(Jq ((V6 hI0).1.symm.trans hRR)).elim
  |refine Jo (yj x0.x p fs hR hI0.ins hT (hn _ (bU hd0)) (Gy hI0)) (λs1 q1=>?_) (λe1 q1=>?_)
  |exact trivial
  |exact ai hd0 ‹_›
  |refine aP hd0 ?_
  |refine BrI.intro (λh=>?_) (λh=>?_)
  |((refine dE ?_ ?_);rfl)
  |((refine zx ?_ ?_ ?_);rfl;rfl)
  |((refine fA Rg.Bd.none ?_ ?_ (PI hI0.wf h).1 (PI hI0.wf h).2 ?_);rfl;rfl)
  |((refine fA Rg.Ln.none ?_ ?_ (PK hI0.wf h).1 (PK hI0.wf h).2 ?_);rfl;rfl)
  |((refine au.mk 0 ?_);refine⟨aH (p.stmts) 13 (λ(fs:(List Sp))=>[]) (λ(fs:(List Sp))=>[(1000000,.cells [.data (.str p.name),.data (.i p.latency),.data (.i p.tail),.data (.sl 3 (p.params.map Bd.cs)),.data (.sl 3 (p.states.map Bd.cs)),.data (.sl 4 (p.lines.map Ln.cs)),.data (.sl 2 (p.tables.map Tb.cs)),.data (.sl 8 (p.stmts.map Sm.cs)),.gs 900007 2 (fs.map Sp.cs)]),(900007,.tok 2 (fs.map Sp.cs).length)]) [0,11,12] (λi0 r0 fs=>StI p R FF i0 r0 fs),?_⟩;refine af ([]) ?_ ?_ (λi0 (fs:(List Sp)) hd0 hI0=>?_) (λi0 x0 r0 (fs:(List Sp)) hd0 hl0 hI0=>?_))
  |refine ag hd0 (fs++[s1]) ?_ ?_
  |((refine dB ?_);refine fin_step' [(1000000,1000000),(1000001,900007)] rfl ?_ ?_)
  |refine aI.l _ ?_
  |((refine bY ?_ ?_ ?_ ?_ ?_ ?_)<;>exact rfl)
  |((refine di ?_ ?_ ?_ ?_)<;>exact rfl)
  |((refine aB ?_ ?_ ?_ ?_ ?_);rfl;rfl;rotate_left;exact ay hd0)
  |refine oK ?_
  |refine wP ?_ ?_ ?_
  |refine eQ ?_
  |refine And.intro ?_ ?_
  |((refine mZ ?_ ?_ ?_);rfl;rfl;(first |exact bC |skip))
  |((refine gy ?_ ?_);rfl;(first |exact bC |skip))
  |((refine bP ?_);refine gZ ?_ ?_ ?_;rfl;rfl;(first |exact rfl |skip))
  |exact @rfl AV _
  |exact dQ rfl
  |fail)
 all_goals first
  |decide
  |exact Jp hS hF hw
  |exact mr hR hI0 q1 (mi (B:=((bH p x0.index).lo,(bH p x0.index).hi)) (zd2 ‹_›) h)
  |exact mr hR hI0 q1 (mi (B:=((bW p x0.index).lo,(bW p x0.index).hi)) (zd3 ‹_› ‹_›) h)
  |exact mr hR hI0 q1 (mi (B:=(-2147483648,2147483647)) (zd4 ‹_› ‹_› ‹_›) h)
  |exact mr hR hI0 q1 (mi (B:=(-4611686018427387904,4611686018427387904)) (zd5 ‹_› ‹_› ‹_›) h)
  |(rw[List.length_map,hI0.len];have:=oJ hd0;omega)
theorem KC(c:AV)(v:Int):yT Tryz.prog 129 [.ptr 1000000 0] (some (.iface 34 (.i v))) [(1000000,.cells [.ptr 1000001 0]),(1000001,.cells [c])]
  [(1000000,.cells [.ptr 1000001 0]),(1000001,.cells [.data (.i v)])]:=by
 refine dS tok hmix Tryz.func129 rfl (by kernel_rfl) (by kernel_rfl) (by kernel_rfl) ?_
 repeat' ((try conv=>whnf)<;>first
  |exact trivial
  |refine⟨([]:List (Nat×Nat)),?_⟩
  |refine⟨by kernel_rfl,?_⟩
  |refine⟨rfl,?_⟩
  |refine⟨?_,?_⟩
  |fail)
theorem QN(d:D):yT Tryz.prog 129 [.ptr 1000000 0] none [(1000000,.cells [.ptr 1000001 0]),(1000001,.cells [.data d])]
  [(1000000,.cells [.ptr 1000001 0]),(1000001,.cells [.data d])]:=by
 refine dS tok hmix Tryz.func129 rfl (by kernel_rfl) (by kernel_rfl) (by kernel_rfl) ?_
 repeat' ((try conv=>whnf)<;>first
  |exact trivial
  |refine⟨([]:List (Nat×Nat)),?_⟩
  |refine⟨by kernel_rfl,?_⟩
  |refine⟨rfl,?_⟩
  |refine⟨?_,?_⟩
  |fail)
theorem zbp(p:Pr)(FF:List Sp)(hR:Rng p)(hT:∀t∈p.tables,t.values.length<=1073741824)(hn:∀s∈p.stmts,Ref15.nodes s.x<=1073741824)(hl:p.stmts.length<=1073741824)(hw:vT p 0 p.stmts=true)(hS:bQ p p.stmts [] = .ok FF)(hF:ig p p.stmts []=FF):ak Tryz.prog 96 [.ptr 1000000 0,.bnd 128 [.ptr 1000001 0]] [(1000000,.cells [.data (.i 0)]),(1000001,.cells [.data (.str p.name),.data (.i p.latency),.data (.i p.tail),.data (.sl 3 (p.params.map Bd.cs)),.data (.sl 3 (p.states.map Bd.cs)),.data (.sl 4 (p.lines.map Ln.cs)),.data (.sl 2 (p.tables.map Tb.cs)),.data (.sl 8 (p.stmts.map Sm.cs)),.nilsl 2])] (.ret (.data (.tuple []))) [(1000000,.cells [.data (.i 0)]),(1000001,.cells [.data (.str p.name),.data (.i p.latency),.data (.i p.tail),.data (.sl 3 (p.params.map Bd.cs)),.data (.sl 3 (p.states.map Bd.cs)),.data (.sl 4 (p.lines.map Ln.cs)),.data (.sl 2 (p.tables.map Tb.cs)),.data (.sl 8 (p.stmts.map Sm.cs)),.gs 1000002 2 (FF.map Sp.cs)]),(1000002,.tok 2 (FF.map Sp.cs).length)]:=by
 refine aT Tryz.func96 ?_
 repeat' ((try conv=>whnf)<;>first
  |exact trivial
  |((refine⟨_,_,_,[(1000000,2),(1000001,1000000)],QN (.i 0),rfl,⟨rfl,rfl,trivial⟩,?_,?_⟩);kernel_rfl)
  |refine⟨([(1000000,1000000),(1000001,1000001),(1000002,800002)]:List (Nat×Nat)),rfl,?_,?_⟩
  |((refine lent_step' [(1000000,1000001),(1000001,800002)] (H5 p FF _ hR hT hn hl hw hS hF rfl) ?_ ?_ ?_ ?_);rotate_left 0;rfl;(exact⟨rfl,trivial⟩);rfl)
  |refine And.intro ?_ ?_
  |((refine bP ?_);refine gZ ?_ ?_ ?_;rfl;rfl;(first |exact rfl |skip))
  |fail)
theorem z1u(p:Pr)(FF:List Sp)(e:Int)(hR:Rng p)(hT:∀t∈p.tables,t.values.length<=1073741824)(hn:∀s∈p.stmts,Ref15.nodes s.x<=1073741824)(hl:p.stmts.length<=1073741824)(hw:vT p 0 p.stmts=true)(hS:bQ p p.stmts [] = .error e)(hF:ig p p.stmts []=FF):ak Tryz.prog 96 [.ptr 1000000 0,.bnd 128 [.ptr 1000001 0]] [(1000000,.cells [.data (.i 0)]),(1000001,.cells [.data (.str p.name),.data (.i p.latency),.data (.i p.tail),.data (.sl 3 (p.params.map Bd.cs)),.data (.sl 3 (p.states.map Bd.cs)),.data (.sl 4 (p.lines.map Ln.cs)),.data (.sl 2 (p.tables.map Tb.cs)),.data (.sl 8 (p.stmts.map Sm.cs)),.nilsl 2])] (.ret (.data (.tuple []))) [(1000000,.cells [.data (.i e)]),(1000001,.cells [.data (.str p.name),.data (.i p.latency),.data (.i p.tail),.data (.sl 3 (p.params.map Bd.cs)),.data (.sl 3 (p.states.map Bd.cs)),.data (.sl 4 (p.lines.map Ln.cs)),.data (.sl 2 (p.tables.map Tb.cs)),.data (.sl 8 (p.stmts.map Sm.cs)),.gs 1000002 2 (FF.map Sp.cs)]),(1000002,.tok 2 (FF.map Sp.cs).length)]:=by
 refine aT Tryz.func96 ?_
 repeat' ((try conv=>whnf)<;>first
  |exact trivial
  |((refine Eh.ret ?_);(refine⟨_,_,_,[(1000000,2),(1000001,1000000)],KC (.data (.i 0)) e,rfl,⟨rfl,rfl,trivial⟩,?_,?_⟩);kernel_rfl)
  |refine⟨([(1000000,1000000),(1000001,1000001),(1000002,800002)]:List (Nat×Nat)),rfl,?_,?_⟩
  |((refine lent_step' [(1000000,1000001),(1000001,800002)] (DK p FF _ e hR hT hn hl hw hS hF rfl) ?_ ?_ ?_ ?_);rotate_left 0;rfl;(exact⟨rfl,trivial⟩);rfl)
  |refine And.intro ?_ ?_
  |((refine bP ?_);refine gZ ?_ ?_ ?_;rfl;rfl;(first |exact rfl |skip))
  |exact @rfl Block _
  |fail)
end Go.Proofs.YtgehpmgkaeohaaaGreatDoor
namespace Go.Proofs.YtgehpmgkaeohaaaGreatDoor
open Go.Fw Go.Fw.Ref15 Go.Fw.Rg
set_option maxRecDepth 10000
variable [ae]
theorem N7(l m:List Int)  : PCall Tryz.prog 121 [ints l,ints m] (.ret (.b (intsE l m))):=by
 refine dh Tryz.func121 λhf=>?_
 have hlen:l.length<=9223372036854775807:=by simpa using(hf (ints l) (by simp)).sl.1
 clear hf
 repeat' ((try conv=>whnf)<;>first
  |with_reducible exact trivial
  |with_reducible exact ai hd0 ‹_›
  |((refine eU hd0 ?_ ?_);(assumption))
  |((refine dM hd0 ?_ ?_);(assumption))
  |with_reducible refine BrI.intro (λh=>?_) (λh=>?_)
  |((with_reducible refine au.mk 0 ?_);have hz:l.length=m.length:=(by simp at h;omega);have hk0:(l.zip m).length=(l.map z3p).length:=(by rw[jh hz,List.length_map]);have hlz:(l.zip m).length<=9223372036854775807:=(by rw[jh hz];exact hlen);refine⟨aH (l.zip m) 13 (λ(_:Unit)=>[]) (λ(_:Unit)=>[]) [0,1,12] (λi0 r0 _=>intsE l m=r0.all z8i),?_⟩;refine af () ?_ ?_ (λi0 (_:Unit) hd0 hI0=>?_) (λi0 x0 r0 (_:Unit) hd0 hl0 hI0=>?_))
  |refine ag hd0 () ?_ ?_
  |((with_reducible refine aB ?_ ?_ ?_ ?_ ?_);rfl;rfl;rotate_left;(first |with_reducible exact jI hd0 |with_reducible exact jJ hd0))
  |refine eQ ?_
  |(refine cO ?_;conv=>whnf)
  |with_reducible refine And.intro ?_ ?_
  |exact @rfl AV _
  |fail)
 all_goals(try simp only[csmp]at *)
 all_goals first
  |(rw[hI0];(try simp only[z8i,Bool.not_true,Bool.not_false,Bool.and_true,Bool.true_and,Bool.and_false,Bool.false_and,Bool.or_true,Bool.true_or,Bool.or_false,Bool.false_or,if_true,if_false,reduceIte,Bool.false_eq_true,Bool.not_not,Bool.not_eq_true',beq_self_eq_true,List.all_cons,List.all_nil,List.any_cons,List.any_nil,List.length_map,bne,eq_self,Int.toNat_zero, *]);first |done |rfl)
  |(simp only[intsE,lenE,Bool.not_true,Bool.not_false,Bool.and_true,Bool.true_and,Bool.and_false,Bool.false_and,Bool.or_true,Bool.true_or,Bool.or_false,Bool.false_or,if_true,if_false,reduceIte,Bool.false_eq_true,Bool.not_not,Bool.not_eq_true',beq_self_eq_true,List.all_cons,List.all_nil,List.any_cons,List.any_nil,List.length_map,bne,eq_self,Int.toNat_zero, *];done)
theorem TA(l m:List Bd)  : PCall Tryz.prog 124 [.sl 3 (l.map Bd.cs),.sl 3 (m.map Bd.cs)] (.ret (.b (kM l m))):=by
 refine dh Tryz.func124 λhf=>?_
 have hlen:l.length<=9223372036854775807:=by simpa using(hf (.sl 3 (l.map Bd.cs)) (by simp)).sl.1
 clear hf
 repeat' ((try conv=>whnf)<;>first
  |with_reducible exact trivial
  |with_reducible exact ai hd0 ‹_›
  |((refine eU hd0 ?_ ?_);(assumption))
  |((refine dM hd0 ?_ ?_);(assumption))
  |with_reducible refine BrI.intro (λh=>?_) (λh=>?_)
  |((with_reducible refine au.mk 0 ?_);have hz:l.length=m.length:=(by simp at h;omega);have hk0:(l.zip m).length=(l.map Bd.cs).length:=(by rw[jh hz,List.length_map]);have hlz:(l.zip m).length<=9223372036854775807:=(by rw[jh hz];exact hlen);refine⟨aH (l.zip m) 13 (λ(_:Unit)=>[]) (λ(_:Unit)=>[]) [0,1,12] (λi0 r0 _=>kM l m=r0.all EC),?_⟩;refine af () ?_ ?_ (λi0 (_:Unit) hd0 hI0=>?_) (λi0 x0 r0 (_:Unit) hd0 hl0 hI0=>?_))
  |refine ag hd0 () ?_ ?_
  |((refine zx ?_ ?_ ?_);rfl;rfl)
  |((with_reducible refine aB ?_ ?_ ?_ ?_ ?_);rfl;rfl;rotate_left;(first |with_reducible exact jI hd0 |with_reducible exact jJ hd0))
  |refine oK ?_
  |refine eQ ?_
  |(refine cO ?_;conv=>whnf)
  |with_reducible refine And.intro ?_ ?_
  |exact @rfl AV _
  |fail)
 all_goals(try simp only[csmp]at *)
 all_goals first
  |(rw[hI0];(try simp only[EC,Bool.not_true,Bool.not_false,Bool.and_true,Bool.true_and,Bool.and_false,Bool.false_and,Bool.or_true,Bool.true_or,Bool.or_false,Bool.false_or,if_true,if_false,reduceIte,Bool.false_eq_true,Bool.not_not,Bool.not_eq_true',beq_self_eq_true,List.all_cons,List.all_nil,List.any_cons,List.any_nil,List.length_map,bne,eq_self,Int.toNat_zero, *]);first |done |rfl)
  |(simp only[kM,Bool.not_true,Bool.not_false,Bool.and_true,Bool.true_and,Bool.and_false,Bool.false_and,Bool.or_true,Bool.true_or,Bool.or_false,Bool.false_or,if_true,if_false,reduceIte,Bool.false_eq_true,Bool.not_not,Bool.not_eq_true',beq_self_eq_true,List.all_cons,List.all_nil,List.any_cons,List.any_nil,List.length_map,bne,eq_self,Int.toNat_zero, *];done)
theorem TB(l m:List Ln)  : PCall Tryz.prog 125 [.sl 4 (l.map Ln.cs),.sl 4 (m.map Ln.cs)] (.ret (.b (lenE Bl l m))):=by
 refine dh Tryz.func125 λhf=>?_
 have hlen:l.length<=9223372036854775807:=by simpa using(hf (.sl 4 (l.map Ln.cs)) (by simp)).sl.1
 clear hf
 repeat' ((try conv=>whnf)<;>first
  |with_reducible exact trivial
  |with_reducible exact ai hd0 ‹_›
  |((refine eU hd0 ?_ ?_);(assumption))
  |((refine dM hd0 ?_ ?_);(assumption))
  |with_reducible refine BrI.intro (λh=>?_) (λh=>?_)
  |((with_reducible refine au.mk 0 ?_);have hz:l.length=m.length:=(by simp at h;omega);have hk0:(l.zip m).length=(l.map Ln.cs).length:=(by rw[jh hz,List.length_map]);have hlz:(l.zip m).length<=9223372036854775807:=(by rw[jh hz];exact hlen);refine⟨aH (l.zip m) 13 (λ(_:Unit)=>[]) (λ(_:Unit)=>[]) [0,1,12] (λi0 r0 _=>lenE Bl l m=r0.all Bl),?_⟩;refine af () ?_ ?_ (λi0 (_:Unit) hd0 hI0=>?_) (λi0 x0 r0 (_:Unit) hd0 hl0 hI0=>?_))
  |refine ag hd0 () ?_ ?_
  |((refine zx ?_ ?_ ?_);rfl;rfl)
  |((with_reducible refine aB ?_ ?_ ?_ ?_ ?_);rfl;rfl;rotate_left;(first |with_reducible exact jI hd0 |with_reducible exact jJ hd0))
  |refine oK ?_
  |refine eQ ?_
  |(refine cO ?_;conv=>whnf)
  |with_reducible refine And.intro ?_ ?_
  |exact @rfl AV _
  |fail)
 all_goals(try simp only[csmp]at *)
 all_goals first
  |(rw[hI0];(try simp only[Bl,Bool.not_true,Bool.not_false,Bool.and_true,Bool.true_and,Bool.and_false,Bool.false_and,Bool.or_true,Bool.true_or,Bool.or_false,Bool.false_or,if_true,if_false,reduceIte,Bool.false_eq_true,Bool.not_not,Bool.not_eq_true',beq_self_eq_true,List.all_cons,List.all_nil,List.any_cons,List.any_nil,List.length_map,bne,eq_self,Int.toNat_zero, *]);first |done |rfl)
  |(simp only[lenE,Bool.not_true,Bool.not_false,Bool.and_true,Bool.true_and,Bool.and_false,Bool.false_and,Bool.or_true,Bool.true_or,Bool.or_false,Bool.false_or,if_true,if_false,reduceIte,Bool.false_eq_true,Bool.not_not,Bool.not_eq_true',beq_self_eq_true,List.all_cons,List.all_nil,List.any_cons,List.any_nil,List.length_map,bne,eq_self,Int.toNat_zero, *];done)
theorem z1v(a b:Tb)  : PCall Tryz.prog 120 [.agg a.cs,.agg b.cs] (.ret (.b (tbE (a,b)))):=by
 refine aj Tryz.func120 ?_
 repeat' ((try conv=>whnf)<;>first
  |((refine ah ?_ ?_ ?_);rotate_left;exact N7 _ _)
  |((refine aK ?_ ?_ (λhg=>?_) ?_);rfl)
  |((refine aY ?_ ?_);with_reducible exact rfl;with_reducible exact rfl)
  |(refine cO ?_;conv=>whnf)
  |fail)
 all_goals(try simp only[csmp]at *)
 all_goals (simp only[tbE,Bool.not_true,Bool.not_false,Bool.and_true,Bool.true_and,Bool.and_false,Bool.false_and,Bool.or_true,Bool.true_or,Bool.or_false,Bool.false_or,if_true,if_false,reduceIte,Bool.false_eq_true,Bool.not_not,Bool.not_eq_true',beq_self_eq_true,List.all_cons,List.all_nil,List.any_cons,List.any_nil,List.length_map,bne,eq_self,Int.toNat_zero, *];done)
theorem TC(l m:List Ex)(ih:∀x∈l,∀y,PCall Tryz.prog 123 [x.d,y.d] (.ret (.b (iK x y)))):PCall Tryz.prog 159 [.sl 5 (l.map Ex.cs),.sl 5 (m.map Ex.cs),.fn 123 []] (.ret (.b (zd6 l m))):=by
 refine dh Tryz.func159 λhf=>?_
 have hlen:l.length<=9223372036854775807:=by simpa using(hf (.sl 5 (l.map Ex.cs)) (by simp)).sl.1
 clear hf
 repeat' ((try conv=>whnf)<;>first
  |with_reducible exact trivial
  |with_reducible exact ai hd0 ‹_›
  |((refine eU hd0 ?_ ?_);(assumption))
  |((refine dM hd0 ?_ ?_);(assumption))
  |with_reducible refine BrI.intro (λh=>?_) (λh=>?_)
  |((with_reducible refine au.mk 0 ?_);have hz:l.length=m.length:=(by simp at h;omega);have hk0:(l.zip m).length=(l.map Ex.cs).length:=(by rw[jh hz,List.length_map]);have hlz:(l.zip m).length<=9223372036854775807:=(by rw[jh hz];exact hlen);refine⟨aH (l.zip m) 17 (λ(_:Unit)=>[]) (λ(_:Unit)=>[]) [1,2,15,16] (λi0 r0 _=>zd6 l m=r0.all exE),?_⟩;refine af () ?_ ?_ (λi0 (_:Unit) hd0 hI0=>?_) (λi0 x0 r0 (_:Unit) hd0 hl0 hI0=>?_))
  |refine ag hd0 () ?_ ?_
  |((refine ah ?_ ?_ ?_);rotate_left;(exact ih _ (List.of_mem_zip (bU hd0)).1 _))
  |((with_reducible refine aB ?_ ?_ ?_ ?_ ?_);rfl;rfl;rotate_left;(first |with_reducible exact jI hd0 |with_reducible exact jJ hd0))
  |refine oK ?_
  |(refine cO ?_;conv=>whnf)
  |with_reducible refine And.intro ?_ ?_
  |exact @rfl AV _
  |fail)
 all_goals(try simp only[csmp]at *)
 all_goals first
  |(rw[hI0];(try simp only[exE,Bool.not_true,Bool.not_false,Bool.and_true,Bool.true_and,Bool.and_false,Bool.false_and,Bool.or_true,Bool.true_or,Bool.or_false,Bool.false_or,if_true,if_false,reduceIte,Bool.false_eq_true,Bool.not_not,Bool.not_eq_true',beq_self_eq_true,List.all_cons,List.all_nil,List.any_cons,List.any_nil,List.length_map,bne,eq_self,Int.toNat_zero, *]);first |done |rfl)
  |(simp only[zd6,lenE,Bool.not_true,Bool.not_false,Bool.and_true,Bool.true_and,Bool.and_false,Bool.false_and,Bool.or_true,Bool.true_or,Bool.or_false,Bool.false_or,if_true,if_false,reduceIte,Bool.false_eq_true,Bool.not_not,Bool.not_eq_true',beq_self_eq_true,List.all_cons,List.all_nil,List.any_cons,List.any_nil,List.length_map,bne,eq_self,Int.toNat_zero, *];done)
theorem DL(a b:Ex)  : PCall Tryz.prog 123 [a.d,b.d] (.ret (.b (iK a b))):=by
 revert b;revert a;refine Ex.ind λa ih b=>?_
 refine aj Tryz.func123 ?_
 repeat' ((try conv=>whnf)<;>first
  |((refine ah ?_ ?_ ?_);rotate_left;((have hq:=TC a.l b.l ih;rw[<-Ex.css_eq,<-Ex.css_eq]at hq;exact hq)))
  |((refine aK ?_ ?_ (λhg=>?_) ?_);rfl)
  |((refine aY ?_ ?_);with_reducible exact rfl;with_reducible exact rfl)
  |(refine cO ?_;conv=>whnf)
  |fail)
 all_goals(try simp only[csmp]at *)
 all_goals exact congrArg D.b (GG a b)
theorem z1w(a b:Sm)  : PCall Tryz.prog 122 [a.d,b.d] (.ret (.b (smE (a,b)))):=by
 refine aj Tryz.func122 ?_
 repeat' ((try conv=>whnf)<;>first
  |((refine ah ?_ ?_ ?_);rotate_left;exact DL _ _)
  |((refine aK ?_ ?_ (λhg=>?_) ?_);rfl)
  |((refine aY ?_ ?_);with_reducible exact rfl;with_reducible exact rfl)
  |(refine cO ?_;conv=>whnf)
  |fail)
 all_goals(try simp only[csmp]at *)
 all_goals (simp only[smE,Bool.not_true,Bool.not_false,Bool.and_true,Bool.true_and,Bool.and_false,Bool.false_and,Bool.or_true,Bool.true_or,Bool.or_false,Bool.false_or,if_true,if_false,reduceIte,Bool.false_eq_true,Bool.not_not,Bool.not_eq_true',beq_self_eq_true,List.all_cons,List.all_nil,List.any_cons,List.any_nil,List.length_map,bne,eq_self,Int.toNat_zero, *];done)
theorem TD(l m:List Tb)  : PCall Tryz.prog 126 [.sl 2 (l.map Tb.cs),.sl 2 (m.map Tb.cs),.fn 120 []] (.ret (.b (lenE tbE l m))):=by
 refine dh Tryz.func126 λhf=>?_
 have hlen:l.length<=9223372036854775807:=by simpa using(hf (.sl 2 (l.map Tb.cs)) (by simp)).sl.1
 clear hf
 repeat' ((try conv=>whnf)<;>first
  |with_reducible exact trivial
  |with_reducible exact ai hd0 ‹_›
  |((refine eU hd0 ?_ ?_);(assumption))
  |((refine dM hd0 ?_ ?_);(assumption))
  |with_reducible refine BrI.intro (λh=>?_) (λh=>?_)
  |((with_reducible refine au.mk 0 ?_);have hz:l.length=m.length:=(by simp at h;omega);have hk0:(l.zip m).length=(l.map Tb.cs).length:=(by rw[jh hz,List.length_map]);have hlz:(l.zip m).length<=9223372036854775807:=(by rw[jh hz];exact hlen);refine⟨aH (l.zip m) 17 (λ(_:Unit)=>[]) (λ(_:Unit)=>[]) [1,2,15,16] (λi0 r0 _=>lenE tbE l m=r0.all tbE),?_⟩;refine af () ?_ ?_ (λi0 (_:Unit) hd0 hI0=>?_) (λi0 x0 r0 (_:Unit) hd0 hl0 hI0=>?_))
  |refine ag hd0 () ?_ ?_
  |((refine ah ?_ ?_ ?_);rotate_left;exact z1v _ _)
  |((with_reducible refine aB ?_ ?_ ?_ ?_ ?_);rfl;rfl;rotate_left;(first |with_reducible exact jI hd0 |with_reducible exact jJ hd0))
  |refine oK ?_
  |(refine cO ?_;conv=>whnf)
  |with_reducible refine And.intro ?_ ?_
  |exact @rfl AV _
  |fail)
 all_goals(try simp only[csmp]at *)
 all_goals first
  |(rw[hI0];(try simp only[List.all_cons,Bool.not_true,Bool.not_false,Bool.and_true,Bool.true_and,Bool.and_false,Bool.false_and,Bool.or_true,Bool.true_or,Bool.or_false,Bool.false_or,if_true,if_false,reduceIte,Bool.false_eq_true,Bool.not_not,Bool.not_eq_true',beq_self_eq_true,List.all_cons,List.all_nil,List.any_cons,List.any_nil,List.length_map,bne,eq_self,Int.toNat_zero, *]);first |done |rfl)
  |(simp only[lenE,Bool.not_true,Bool.not_false,Bool.and_true,Bool.true_and,Bool.and_false,Bool.false_and,Bool.or_true,Bool.true_or,Bool.or_false,Bool.false_or,if_true,if_false,reduceIte,Bool.false_eq_true,Bool.not_not,Bool.not_eq_true',beq_self_eq_true,List.all_cons,List.all_nil,List.any_cons,List.any_nil,List.length_map,bne,eq_self,Int.toNat_zero, *];done)
theorem TE(l m:List Sm)  : PCall Tryz.prog 127 [.sl 8 (l.map Sm.cs),.sl 8 (m.map Sm.cs),.fn 122 []] (.ret (.b (lenE smE l m))):=by
 refine dh Tryz.func127 λhf=>?_
 have hlen:l.length<=9223372036854775807:=by simpa using(hf (.sl 8 (l.map Sm.cs)) (by simp)).sl.1
 clear hf
 repeat' ((try conv=>whnf)<;>first
  |with_reducible exact trivial
  |with_reducible exact ai hd0 ‹_›
  |((refine eU hd0 ?_ ?_);(assumption))
  |((refine dM hd0 ?_ ?_);(assumption))
  |with_reducible refine BrI.intro (λh=>?_) (λh=>?_)
  |((with_reducible refine au.mk 0 ?_);have hz:l.length=m.length:=(by simp at h;omega);have hk0:(l.zip m).length=(l.map Sm.cs).length:=(by rw[jh hz,List.length_map]);have hlz:(l.zip m).length<=9223372036854775807:=(by rw[jh hz];exact hlen);refine⟨aH (l.zip m) 17 (λ(_:Unit)=>[]) (λ(_:Unit)=>[]) [1,2,15,16] (λi0 r0 _=>lenE smE l m=r0.all smE),?_⟩;refine af () ?_ ?_ (λi0 (_:Unit) hd0 hI0=>?_) (λi0 x0 r0 (_:Unit) hd0 hl0 hI0=>?_))
  |refine ag hd0 () ?_ ?_
  |((refine ah ?_ ?_ ?_);rotate_left;exact z1w _ _)
  |((with_reducible refine aB ?_ ?_ ?_ ?_ ?_);rfl;rfl;rotate_left;(first |with_reducible exact jI hd0 |with_reducible exact jJ hd0))
  |refine oK ?_
  |(refine cO ?_;conv=>whnf)
  |with_reducible refine And.intro ?_ ?_
  |exact @rfl AV _
  |fail)
 all_goals(try simp only[csmp]at *)
 all_goals first
  |(rw[hI0];(try simp only[List.all_cons,Bool.not_true,Bool.not_false,Bool.and_true,Bool.true_and,Bool.and_false,Bool.false_and,Bool.or_true,Bool.true_or,Bool.or_false,Bool.false_or,if_true,if_false,reduceIte,Bool.false_eq_true,Bool.not_not,Bool.not_eq_true',beq_self_eq_true,List.all_cons,List.all_nil,List.any_cons,List.any_nil,List.length_map,bne,eq_self,Int.toNat_zero, *]);first |done |rfl)
  |(simp only[lenE,Bool.not_true,Bool.not_false,Bool.and_true,Bool.true_and,Bool.and_false,Bool.false_and,Bool.or_true,Bool.true_or,Bool.or_false,Bool.false_or,if_true,if_false,reduceIte,Bool.false_eq_true,Bool.not_not,Bool.not_eq_true',beq_self_eq_true,List.all_cons,List.all_nil,List.any_cons,List.any_nil,List.length_map,bne,eq_self,Int.toNat_zero, *];done)
theorem kQ(a b:Pr)  : PCall Tryz.prog 90 [a.d,b.d] (.ret (.b (sJ a b))):=by
 refine aj Tryz.func90 ?_
 repeat' ((try conv=>whnf)<;>first
  |((refine ah ?_ ?_ ?_);rotate_left;(first |exact TA _ _ |exact TB _ _ |exact TD _ _ |exact TE _ _))
  |((refine aK ?_ ?_ (λhg=>?_) ?_);rfl)
  |((refine aY ?_ ?_);with_reducible exact rfl;with_reducible exact rfl)
  |(refine cO ?_;conv=>whnf)
  |fail)
 all_goals(try simp only[csmp]at *)
 all_goals (simp only[sJ,V8,Bool.not_true,Bool.not_false,Bool.and_true,Bool.true_and,Bool.and_false,Bool.false_and,Bool.or_true,Bool.true_or,Bool.or_false,Bool.false_or,if_true,if_false,reduceIte,Bool.false_eq_true,Bool.not_not,Bool.not_eq_true',beq_self_eq_true,List.all_cons,List.all_nil,List.any_cons,List.any_nil,List.length_map,bne,eq_self,Int.toNat_zero, *];done)
theorem yt(l m:List Int)  : PCall Tryz.prog 22 [ints l,ints m] (.ret (.b (intsE l m))):=by
 refine dh Tryz.func22 λhf=>?_
 have hlen:l.length<=9223372036854775807:=by simpa using(hf (ints l) (by simp)).sl.1
 clear hf
 repeat' ((try conv=>whnf)<;>first
  |with_reducible exact trivial
  |with_reducible exact ai hd0 ‹_›
  |((refine eU hd0 ?_ ?_);(assumption))
  |((refine dM hd0 ?_ ?_);(assumption))
  |with_reducible refine BrI.intro (λh=>?_) (λh=>?_)
  |((with_reducible refine au.mk 0 ?_);have hz:l.length=m.length:=(by simp at h;omega);have hk0:(l.zip m).length=(l.map z3p).length:=(by rw[jh hz,List.length_map]);have hlz:(l.zip m).length<=9223372036854775807:=(by rw[jh hz];exact hlen);refine⟨aH (l.zip m) 5 (λ(_:Unit)=>[]) (λ(_:Unit)=>[]) [0,1] (λi0 r0 _=>intsE l m=r0.all z8i),?_⟩;refine af () ?_ ?_ (λi0 (_:Unit) hd0 hI0=>?_) (λi0 x0 r0 (_:Unit) hd0 hl0 hI0=>?_))
  |refine ag hd0 () ?_ ?_
  |((with_reducible refine aB ?_ ?_ ?_ ?_ ?_);rfl;rfl;rotate_left;(first |with_reducible exact jI hd0 |with_reducible exact jJ hd0))
  |refine eQ ?_
  |(refine cO ?_;conv=>whnf)
  |with_reducible refine And.intro ?_ ?_
  |exact @rfl AV _
  |fail)
 all_goals(try simp only[csmp]at *)
 all_goals first
  |(rw[hI0];(try simp only[z8i,Bool.not_true,Bool.not_false,Bool.and_true,Bool.true_and,Bool.and_false,Bool.false_and,Bool.or_true,Bool.true_or,Bool.or_false,Bool.false_or,if_true,if_false,reduceIte,Bool.false_eq_true,Bool.not_not,Bool.not_eq_true',beq_self_eq_true,List.all_cons,List.all_nil,List.any_cons,List.any_nil,List.length_map,bne,eq_self,Int.toNat_zero, *]);first |done |rfl)
  |(simp only[intsE,lenE,Bool.not_true,Bool.not_false,Bool.and_true,Bool.true_and,Bool.and_false,Bool.false_and,Bool.or_true,Bool.true_or,Bool.or_false,Bool.false_or,if_true,if_false,reduceIte,Bool.false_eq_true,Bool.not_not,Bool.not_eq_true',beq_self_eq_true,List.all_cons,List.all_nil,List.any_cons,List.any_nil,List.length_map,bne,eq_self,Int.toNat_zero, *];done)
end Go.Proofs.YtgehpmgkaeohaaaGreatDoor
namespace Go.Proofs.YtgehpmgkaeohaaaGreatDoor
open Go.Fw Go.Fw.Rg Go.Fw.Nam
set_option maxRecDepth 10000
variable [ae]
theorem z1x(p:Pr)(g:iE p)(he:((resolveC p).2 != 0)=true):PCall Tryz.prog 94 [p.d] (.ret (.tuple [.val (.pointer none),.i (resolveC p).2])):=by
 refine aj Tryz.func94 ?_
 repeat' ((try conv=>whnf)<;>first
  |exact Bool.noConfusion (show true=false from he.symm.trans h)
  |refine BrI.intro (λh=>?_) (λh=>?_)
  |((refine ah ?_ ?_ ?_);rotate_left;exact iZ p g.sm g.hn)
  |refine eQ ?_
  |(refine cO ?_;conv=>whnf)
  |fail)
theorem z1y(p:Pr)(g:iE p)(he:((resolveC p).2 != 0)=false)(hs:sJ p (resolveC p).1=false):PCall Tryz.prog 94 [p.d] (.ret (.tuple [.val (.pointer none),.i 150])):=by
 refine aj Tryz.func94 ?_
 repeat' ((try conv=>whnf)<;>first
  |exact Bool.noConfusion (show false=true from he.symm.trans h)
  |exact Bool.noConfusion (show true=false from(congrArg (!·) hs).symm.trans h)
  |refine BrI.intro (λh=>?_) (λh=>?_)
  |((refine ah ?_ ?_ ?_);rotate_left;(first |exact kQ _ _ |exact iZ p g.sm g.hn))
  |(refine cO ?_;conv=>whnf)
  |fail)
theorem z1z(p:Pr)(FF:List Sp)(g:iE p)(he:(resolveC p).2=0)(hs:(resolveC p).1=p)(hR:Rng p)(hw:vT p 0 p.stmts=true)(hS:bQ p p.stmts [] = .ok FF)(hF:ig p p.stmts []=FF):PCall Tryz.prog 94 [p.d] (.ret (.tuple [.ptr (fC p FF),.i 0])):=by
 refine dh Tryz.func94 λhf=>?_
 have hq:resolveC p=(p,0):=Prod.ext hs he
 have hc:=iZ p g.sm g.hn
 rw[hq]at hc
 have hc2:=kQ p p
 rw[(iW p p).2 rfl]at hc2
 clear hf
 repeat' ((try conv=>whnf)<;>first
  |exact Bool.noConfusion (show true=false from h.symm.trans (rfl:((0:Int) != 0)=false))
  |exact Bool.noConfusion (show false=true from(congrArg (!·) ((iW p p).2 rfl)).symm.trans h)
  |refine BrI.intro (λh=>?_) (λh=>?_)
  |((refine ah ?_ ?_ ?_);rotate_left;(first |exact kQ _ _ |exact hc))
  |((refine lent_step' [(1000000,3),(1000001,19),(1000002,800001)] (zbp p FF hR g.hT g.hn g.hl hw hS hF) ?_ ?_ ?_ ?_);rotate_left 0;rfl;(exact⟨rfl,rfl,trivial⟩);rfl)
  |refine eQ ?_
  |(refine cO ?_;conv=>whnf)
  |refine And.intro ?_ ?_
  |fail)
 all_goals rfl
theorem Ya(p:Pr)(FF:List Sp)(e:Int)(g:iE p)(he:(resolveC p).2=0)(hs:(resolveC p).1=p)(hR:Rng p)(hw:vT p 0 p.stmts=true)(hS:bQ p p.stmts [] = .error e)(hF:ig p p.stmts []=FF):PCall Tryz.prog 94 [p.d] (.ret (.tuple [.ptr (fC p FF),.i e])):=by
 refine dh Tryz.func94 λhf=>?_
 have hq:resolveC p=(p,0):=Prod.ext hs he
 have hc:=iZ p g.sm g.hn
 rw[hq]at hc
 have hc2:=kQ p p
 rw[(iW p p).2 rfl]at hc2
 clear hf
 repeat' ((try conv=>whnf)<;>first
  |exact Bool.noConfusion (show true=false from h.symm.trans (rfl:((0:Int) != 0)=false))
  |exact Bool.noConfusion (show false=true from(congrArg (!·) ((iW p p).2 rfl)).symm.trans h)
  |refine BrI.intro (λh=>?_) (λh=>?_)
  |((refine ah ?_ ?_ ?_);rotate_left;(first |exact kQ _ _ |exact hc))
  |((refine lent_step' [(1000000,3),(1000001,19),(1000002,800001)] (z1u p FF e hR g.hT g.hn g.hl hw hS hF) ?_ ?_ ?_ ?_);rotate_left 0;rfl;(exact⟨rfl,rfl,trivial⟩);rfl)
  |refine eQ ?_
  |(refine cO ?_;conv=>whnf)
  |refine And.intro ?_ ?_
  |fail)
 all_goals rfl
theorem CO(p:Pr)(x:Ex)(most:Int)(hm0:0<=most)(hm:most<=512):PCall Tryz.prog 95 [p.d,x.d,.i most] (.ret (.tuple [.i (fB p x most).1,.b (fB p x most).2])):=by
 revert hm0 hm;revert most;revert x;refine Ex.ind λx ih most hm0 hm=>?_
 refine dh Tryz.func95 λhf=>?_
 have hlen:=Ex.fits (hf x.d (by simp));have hq:=Pr.fits (hf p.d (by simp))
 have ih2:∀y∈x.l,∀m c,c=m->0<=m->m<=512->PCall Tryz.prog 95 [p.d,y.d,.i c] (.ret (.tuple [.i (fB p y m).1,.b (fB p y m).2])):=λy hy m c hc h0 h1=>by subst hc;exact ih y hy c h0 h1
 clear hf
 repeat' ((try conv=>whnf)<;>first
  |exact Bool.noConfusion (show true=false from h)
  |exact Bool.noConfusion (show false=true from h)
  |exact trivial
  |exact ai hd1 ‹_›
  |refine kG hd1 ?_
  |refine iw hd1 ?_
  |refine BrI.intro (λh=>?_) (λh=>?_)
  |((refine Wy (l:=lW) ?_ (λnd hnd=>?_) (λhnd=>?_));rfl)
  |((refine ZW (p:=p) ?_ (λmd hmd=>?_) (λhmd=>?_));rfl)
  |exact(zec ‹lkI x.kind (lH p)=none› h).elim
  |((refine fA Sm.none ?_ ?_ ?_ ?_ ?_);rfl;rfl;rotate_left 2)
  |((refine au.mk 1 ?_);refine⟨aH (x.l) 109 (λ(q:(Int)×(Bool))=>match q with |(n,ok)=>[(6,.data (.val (.int .i64 n))),(7,.data (.val (.bool ok)))]) (λ(q:(Int)×(Bool))=>match q with |(n,ok)=>[]) [2,3,107,108] (λi1 r1 q=>match q with |(n,ok)=>fB p x most=jv p r1 most n ok/\1<=n/\n<=most),?_⟩;refine af (?_,?_) ?_ ?_ (λi1 ⟨n,ok⟩ hd1 hI1=>?_) (λi1 x1 r1 ⟨n,ok⟩ hd1 hl1 hI1=>?_))
  |refine ag hd1 (?_,?_) ?_ ?_
  |((refine ah ?_ ?_ ?_);rotate_left;(exact ih2 _ (bU ‹_›) (most-n) _ (bM (by omega) (by omega)) (by omega) (by omega)))
  |((refine aB ?_ ?_ ?_ ?_ ?_);rfl;rfl;rotate_left;exact eY hd1)
  |refine oK ?_
  |(refine cO ?_;conv=>whnf)
  |refine And.intro ?_ ?_
  |exact @rfl AV _
  |fail)
 all_goals first
  |rfl
  |exact Int.le_refl _
  |(refine(zjg ‹lkI x.kind (lH p)=some _› ‹(x.kind==5)=true› ?_).1;assumption)
  |(refine(zjg ‹lkI x.kind (lH p)=some _› ‹(x.kind==5)=true› ?_).2;assumption)
  |(refine z8r (l:=x.l) (nd:=nd) ?_;assumption)
  |((refine SQ ‹lkI x.kind lW=some _› ‹lkI x.kind (lH p)=_› ?_ ?_ ?_);assumption;(first |exact rfl |(refine PT (b:=false) ?_;assumption));(first |exact zh5 ‹_› |exact zh6 ‹_› ‹_› |exact zh7 ‹_› ‹_› ‹_› |exact zh8 ‹_› ‹_› ‹_›))
  |rw[xK ‹lkI x.kind lW=none›]
  |rw[xM ‹lkI x.kind lW=some _› (z8q (b:=true) h)]
  |(rw[ZX ‹lkI x.kind lW=some _› ‹lkI x.kind (lH p)=_› ?_ (PT (b:=true) h)];assumption)
  |(obtain⟨hok,hfit⟩:=zjh h;have hr:=PU p x1 (most-n) (by omega);have h3:=hr.2.2 hfit;rw[bM (by omega) (by omega)];first |omega |(rw[hI1.1];exact vY h))
  |rw[hI1.1,oP h]
  |rw[hI1.1,jv]
theorem check_any(p:Pr)(pd:D)(e:Int)(hw:PCall Tryz.prog 94 [p.d] (.ret (.tuple [pd,.i e]))):PCall Tryz.prog 91 [p.d] (.ret (.i e)):=by
 refine aj Tryz.func91 ?_
 repeat' ((try conv=>whnf)<;>first
  |((refine ah ?_ ?_ ?_);rotate_left;exact hw)
  |(refine cO ?_;conv=>whnf)
  |fail)
theorem zbq(p:Pr)(F:List Sp)(x:Ex)(s:Sp)(a b:Int)(hc:PCall Tryz.prog 98 [.ptr (fC p F),x.d] (.ret s.d)):ak Tryz.prog 97 [.ptr 1000000 0,.ptr 1000001 0,.ptr 1000002 0,.ptr 1000003 0] [(1000000,.cells [.data (.ptr (fC p F))]),(1000001,.cells [.data (.i x.kind),.data (.str x.name),.data (.i x.index),.data (.i x.n),.data (.sl 5 (Ex.css x.l))]),(1000002,.cells [.data (.i a)]),(1000003,.cells [.data (.i b)])] (.ret (.data (.tuple []))) [(1000000,.cells [.data (.ptr (fC p F))]),(1000001,.cells [.data (.i x.kind),.data (.str x.name),.data (.i x.index),.data (.i x.n),.data (.sl 5 (Ex.css x.l))]),(1000002,.cells [.data (.i s.1)]),(1000003,.cells [.data (.i s.2)])]:=by
 refine aT Tryz.func97 ?_
 repeat' ((try conv=>whnf)<;>first
  |exact trivial
  |((refine ah ?_ ?_ ?_);rotate_left;exact hc)
  |((refine bg ?_);refine fin_step' [] rfl ?_ ?_)
  |refine eQ ?_
  |refine And.intro ?_ ?_
  |fail)
 all_goals first
  |rfl
  |decide
theorem z14(p:Pr)(F:List Sp)(x:Ex)(e:Int)(a b:Int)(hc:PCall Tryz.prog 98 [.ptr (fC p F),x.d] (.pan (.iface 34 (.i e)))):ak Tryz.prog 97 [.ptr 1000000 0,.ptr 1000001 0,.ptr 1000002 0,.ptr 1000003 0] [(1000000,.cells [.data (.ptr (fC p F))]),(1000001,.cells [.data (.i x.kind),.data (.str x.name),.data (.i x.index),.data (.i x.n),.data (.sl 5 (Ex.css x.l))]),(1000002,.cells [.data (.i a)]),(1000003,.cells [.data (.i b)])] (.pan (.data (.iface 34 (.i e)))) [(1000000,.cells [.data (.ptr (fC p F))]),(1000001,.cells [.data (.i x.kind),.data (.str x.name),.data (.i x.index),.data (.i x.n),.data (.sl 5 (Ex.css x.l))]),(1000002,.cells [.data (.i a)]),(1000003,.cells [.data (.i b)])]:=by
 refine aT Tryz.func97 ?_
 repeat' ((try conv=>whnf)<;>first
  |exact trivial
  |((refine ah ?_ ?_ ?_);rotate_left;exact hc)
  |((refine dB ?_);refine fin_step' [] rfl ?_ ?_)
  |refine And.intro ?_ ?_
  |fail)
theorem z15(p:Pr)(F:List Sp)(x:Ex)(s:Sp)(hc:PCall Tryz.prog 98 [.ptr (fC p F),x.d] (.ret s.d)):ak Tryz.prog 96 [.ptr 1000000 0,.fn 97 [.ptr 1000001 0,.ptr 1000002 0,.ptr 1000003 0,.ptr 1000004 0]] [(1000000,.cells [.data (.i 0)]),(1000001,.cells [.data (.ptr (fC p F))]),(1000002,.cells [.data (.i x.kind),.data (.str x.name),.data (.i x.index),.data (.i x.n),.data (.sl 5 (Ex.css x.l))]),(1000003,.cells [.data (.i 0)]),(1000004,.cells [.data (.i 0)])] (.ret (.data (.tuple []))) [(1000000,.cells [.data (.i 0)]),(1000001,.cells [.data (.ptr (fC p F))]),(1000002,.cells [.data (.i x.kind),.data (.str x.name),.data (.i x.index),.data (.i x.n),.data (.sl 5 (Ex.css x.l))]),(1000003,.cells [.data (.i s.1)]),(1000004,.cells [.data (.i s.2)])]:=by
 refine aT Tryz.func96 ?_
 repeat' ((try conv=>whnf)<;>first
  |exact trivial
  |((refine⟨_,_,_,[(1000000,2),(1000001,1000000)],QN (.i 0),rfl,⟨rfl,rfl,trivial⟩,?_,?_⟩);kernel_rfl)
  |refine⟨([(1000000,1000000),(1000001,1000001),(1000002,1000002),(1000003,1000003),(1000004,1000004)]:List (Nat×Nat)),rfl,?_,?_⟩
  |((refine lent_step' [(1000000,1000001),(1000001,1000002),(1000002,1000003),(1000003,1000004)] (zbq p F x s 0 0 hc) ?_ ?_ ?_ ?_);rotate_left 0;rfl;(exact⟨rfl,rfl,rfl,rfl,trivial⟩);rfl)
  |refine And.intro ?_ ?_
  |fail)
theorem Yb(p:Pr)(F:List Sp)(x:Ex)(e:Int)(hc:PCall Tryz.prog 98 [.ptr (fC p F),x.d] (.pan (.iface 34 (.i e)))):ak Tryz.prog 96 [.ptr 1000000 0,.fn 97 [.ptr 1000001 0,.ptr 1000002 0,.ptr 1000003 0,.ptr 1000004 0]] [(1000000,.cells [.data (.i 0)]),(1000001,.cells [.data (.ptr (fC p F))]),(1000002,.cells [.data (.i x.kind),.data (.str x.name),.data (.i x.index),.data (.i x.n),.data (.sl 5 (Ex.css x.l))]),(1000003,.cells [.data (.i 0)]),(1000004,.cells [.data (.i 0)])] (.ret (.data (.tuple []))) [(1000000,.cells [.data (.i e)]),(1000001,.cells [.data (.ptr (fC p F))]),(1000002,.cells [.data (.i x.kind),.data (.str x.name),.data (.i x.index),.data (.i x.n),.data (.sl 5 (Ex.css x.l))]),(1000003,.cells [.data (.i 0)]),(1000004,.cells [.data (.i 0)])]:=by
 refine aT Tryz.func96 ?_
 repeat' ((try conv=>whnf)<;>first
  |exact trivial
  |((refine Eh.ret ?_);(refine⟨_,_,_,[(1000000,2),(1000001,1000000)],KC (.data (.i 0)) e,rfl,⟨rfl,rfl,trivial⟩,?_,?_⟩);kernel_rfl)
  |refine⟨([(1000000,1000000),(1000001,1000001),(1000002,1000002),(1000003,1000003),(1000004,1000004)]:List (Nat×Nat)),rfl,?_,?_⟩
  |((refine lent_step' [(1000000,1000001),(1000001,1000002),(1000002,1000003),(1000003,1000004)] (z14 p F x e 0 0 hc) ?_ ?_ ?_ ?_);rotate_left 0;rfl;(exact⟨rfl,rfl,rfl,rfl,trivial⟩);rfl)
  |refine And.intro ?_ ?_
  |fail)
theorem zbr(p:Pr)(x:Ex)(e:Int)(hw:PCall Tryz.prog 94 [p.d] (.ret (.tuple [.val (.pointer none),.i e])))(he:(e != 0)=true):PCall Tryz.prog 49 [p.d,x.d] (.ret (.tuple [.i 0,.i 0,.i e])):=by
 refine aj Tryz.func49 ?_
 repeat' ((try conv=>whnf)<;>first
  |exact Bool.noConfusion (show true=false from he.symm.trans h)
  |refine BrI.intro (λh=>?_) (λh=>?_)
  |((refine ah ?_ ?_ ?_);rotate_left;exact hw)
  |refine eQ ?_
  |(refine cO ?_;conv=>whnf)
  |fail)
theorem zbs(p:Pr)(x:Ex)(F:List Sp)(e:Int)(hw:PCall Tryz.prog 94 [p.d] (.ret (.tuple [.ptr (fC p F),.i e])))(he:(e != 0)=true):PCall Tryz.prog 49 [p.d,x.d] (.ret (.tuple [.i 0,.i 0,.i e])):=by
 refine aj Tryz.func49 ?_
 repeat' ((try conv=>whnf)<;>first
  |exact Bool.noConfusion (show true=false from he.symm.trans h)
  |refine BrI.intro (λh=>?_) (λh=>?_)
  |((refine ah ?_ ?_ ?_);rotate_left;exact hw)
  |refine eQ ?_
  |(refine cO ?_;conv=>whnf)
  |fail)
theorem z16(p:Pr)(x:Ex)(F:List Sp)(hw:PCall Tryz.prog 94 [p.d] (.ret (.tuple [.ptr (fC p F),.i 0])))(hx:(fB p x 512).2=false):PCall Tryz.prog 49 [p.d,x.d] (.ret (.tuple [.i 0,.i 0,.i 150])):=by
 refine aj Tryz.func49 ?_
 repeat' ((try conv=>whnf)<;>first
  |exact Bool.noConfusion (show false=true from h)
  |exact Bool.noConfusion (show true=false from(congrArg (!·) hx).symm.trans h)
  |refine BrI.intro (λh=>?_) (λh=>?_)
  |((refine ah ?_ ?_ ?_);rotate_left;(first |exact hw |exact CO p x 512 (by decide) (by decide)))
  |(refine cO ?_;conv=>whnf)
  |fail)
theorem zg6(p:Pr)(x:Ex)(F:List Sp)(s:Sp)(hw:PCall Tryz.prog 94 [p.d] (.ret (.tuple [.ptr (fC p F),.i 0])))(hx:(fB p x 512).2=true)(hc:PCall Tryz.prog 98 [.ptr (fC p F),x.d] (.ret s.d)):PCall Tryz.prog 49 [p.d,x.d] (.ret (.tuple [.i s.1,.i s.2,.i 0])):=by
 refine aj Tryz.func49 ?_
 repeat' ((try conv=>whnf)<;>first
  |exact Bool.noConfusion (show false=true from h)
  |exact Bool.noConfusion (show false=true from(congrArg (!·) hx).symm.trans h)
  |refine BrI.intro (λh=>?_) (λh=>?_)
  |((refine ah ?_ ?_ ?_);rotate_left;(first |exact hw |exact CO p x 512 (by decide) (by decide)))
  |((refine lent_step' [(1000000,6),(1000001,7),(1000002,3),(1000003,4),(1000004,5)] (z15 p F x s hc) ?_ ?_ ?_ ?_);rotate_left 0;rfl;(exact⟨rfl,rfl,rfl,rfl,rfl,trivial⟩);rfl)
  |refine eQ ?_
  |(refine cO ?_;conv=>whnf)
  |fail)
theorem zbt(p:Pr)(x:Ex)(F:List Sp)(e:Int)(hw:PCall Tryz.prog 94 [p.d] (.ret (.tuple [.ptr (fC p F),.i 0])))(hx:(fB p x 512).2=true)(hc:PCall Tryz.prog 98 [.ptr (fC p F),x.d] (.pan (.iface 34 (.i e)))):PCall Tryz.prog 49 [p.d,x.d] (.ret (.tuple [.i 0,.i 0,.i e])):=by
 refine aj Tryz.func49 ?_
 repeat' ((try conv=>whnf)<;>first
  |exact Bool.noConfusion (show false=true from h)
  |exact Bool.noConfusion (show false=true from(congrArg (!·) hx).symm.trans h)
  |refine BrI.intro (λh=>?_) (λh=>?_)
  |((refine ah ?_ ?_ ?_);rotate_left;(first |exact hw |exact CO p x 512 (by decide) (by decide)))
  |((refine lent_step' [(1000000,6),(1000001,7),(1000002,3),(1000003,4),(1000004,5)] (Yb p F x e hc) ?_ ?_ ?_ ?_);rotate_left 0;rfl;(exact⟨rfl,rfl,rfl,rfl,rfl,trivial⟩);rfl)
  |refine eQ ?_
  |(refine cO ?_;conv=>whnf)
  |fail)
end Go.Proofs.YtgehpmgkaeohaaaGreatDoor
