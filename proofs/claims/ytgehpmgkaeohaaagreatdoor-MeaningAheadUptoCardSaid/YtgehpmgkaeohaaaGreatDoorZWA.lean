/- A part of the proof. -/
import Derived.Test.YtgehpmgkaeohaaaGreatDoorZMA
import Derived.Test.YtgehpmgkaeohaaaGreatDoorZYC
set_option linter.all false
set_option maxHeartbeats 8000000
namespace Go.Proofs.YtgehpmgkaeohaaaGreatDoor
open Go.Fw Go.Fw.Ref15 Go.Fw.Rg Go.Fw.Tl Go.Fw.Mn
set_option maxRecDepth 10000
variable [ae]
theorem uG(n lo hi:Int)  : PCall Tryz.prog 29 [.i n,.i lo,.i hi] (.ret (.i (iF n lo hi))):=by
 refine aj Tryz.func29 ?_
 repeat' ((try conv=>whnf)<;>first
  |(refine cO ?_;conv=>whnf)
  |fail)
 all_goals rfl
theorem Oj(a n:Int)(ha:inW a=true)(hn:1<=n):PCall Tryz.prog 80 [.i a,.i n] (.ret (.i (ji a n))):=by
 refine aj Tryz.func80 ?_
 repeat' ((try conv=>whnf)<;>first
  |refine BrI.intro (λh=>?_) (λh=>?_)
  |(refine cO ?_;conv=>whnf)
  |refine And.intro ?_ ?_
  |fail)
 all_goals first
  |omega
  |(refine congrArg D.i ?_;have e:=Jn hn ha;rw[if_pos (of_decide_eq_true h)]at e;rw[e,bM (n:=ji a n+1-1) (by have:=dK.1 (BD hn ha);simp only[ji];omega) (by have:=dK.1 (BD hn ha);simp only[ji];omega)];omega)
  |(refine congrArg D.i ?_;have e:=Jn hn ha;rw[if_neg (of_decide_eq_false h)]at e;exact e)
theorem KO(a:Int)(l:List Int)(h:l.length<=1073741824):PCall Tryz.prog 29 [.i a,.i 0,.i (IntKind.i64.wrap (((l.map aC).length:Int)-1))] (.ret (.i (iF a 0 (l.length-1)))):=by
 rw[Xk h];exact uG a 0 _
theorem ev1(F:Fr)(p:Pr)(x:Ex)(vs:List Int)  : PCall Tryz.prog 63 [.ptr (F.cs p),x.d,.sl 1 (vs.map aC)] (.ret (.i x.n)):=by
 refine aj Tryz.func63 ?_
 repeat' ((try conv=>whnf)<;>first
  |(refine cO ?_;conv=>whnf)
  |fail)
theorem ev3(F:Fr)(p:Pr)(x:Ex)(vs:List Int)(h0:0<=x.index)(h1:x.index<F.params.length):PCall Tryz.prog 64 [.ptr (F.cs p),x.d,.sl 1 (vs.map aC)] (.ret (.i (at0 F.params x.index))):=by
 refine aj Tryz.func64 ?_
 repeat' ((try conv=>whnf)<;>first
  |((refine fA (f:=aC) (0:Int) ?_ ?_ h0 h1 ?_);rfl;rfl)
  |refine eQ ?_
  |(refine cO ?_;conv=>whnf)
  |fail)
 all_goals rfl
theorem ev4(F:Fr)(p:Pr)(x:Ex)(vs:List Int)(h0:0<=x.index)(h1:x.index<F.vals.length):PCall Tryz.prog 65 [.ptr (F.cs p),x.d,.sl 1 (vs.map aC)] (.ret (.i (at0 F.vals x.index))):=by
 refine aj Tryz.func65 ?_
 repeat' ((try conv=>whnf)<;>first
  |((refine fA (f:=aC) (0:Int) ?_ ?_ h0 h1 ?_);rfl;rfl)
  |refine eQ ?_
  |(refine cO ?_;conv=>whnf)
  |fail)
 all_goals rfl
theorem ev5(F:Fr)(p:Pr)(x:Ex)(vs:List Int)(h0:0<=x.index)(h1:x.index<F.lets.length):PCall Tryz.prog 66 [.ptr (F.cs p),x.d,.sl 1 (vs.map aC)] (.ret (.i (at0 F.lets x.index))):=by
 refine aj Tryz.func66 ?_
 repeat' ((try conv=>whnf)<;>first
  |((refine fA (f:=aC) (0:Int) ?_ ?_ h0 h1 ?_);rfl;rfl)
  |refine eQ ?_
  |(refine cO ?_;conv=>whnf)
  |fail)
 all_goals rfl
theorem ev6(F:Fr)(p:Pr)(x:Ex)(a:Int)(h0:0<=a)(h1:a<F.inp.length):PCall Tryz.prog 67 [.ptr (F.cs p),x.d,.sl 1 [[.i a]]] (.ret (.i (at0 F.inp a))):=by
 refine aj Tryz.func67 ?_
 repeat' ((try conv=>whnf)<;>first
  |refine yV ?_
  |((refine fA (f:=aC) (0:Int) ?_ ?_ h0 h1 ?_);rfl;rfl)
  |refine eQ ?_
  |(refine cO ?_;conv=>whnf)
  |fail)
 all_goals rfl
theorem ev7(F:Fr)(p:Pr)(x:Ex)(a:Int)(h0:0<=a)(h1:a<F.side.length):PCall Tryz.prog 68 [.ptr (F.cs p),x.d,.sl 1 [[.i a]]] (.ret (.i (at0 F.side a))):=by
 refine aj Tryz.func68 ?_
 repeat' ((try conv=>whnf)<;>first
  |refine yV ?_
  |((refine fA (f:=aC) (0:Int) ?_ ?_ h0 h1 ?_);rfl;rfl)
  |refine eQ ?_
  |(refine cO ?_;conv=>whnf)
  |fail)
 all_goals rfl
theorem ev8(F:Fr)(p:Pr)(x:Ex)(a:Int)(h0:0<=x.index)(h1:x.index<F.lines.length)(h2:0<(Dx F x.index).length/\(Dx F x.index).length<=1073741824):PCall Tryz.prog 69 [.ptr (F.cs p),x.d,.sl 1 [[.i a]]] (.ret (.i (at0 (Dx F x.index) (iF a 0 ((Dx F x.index).length-1))))):=by
 refine aj Tryz.func69 ?_
 repeat' ((try conv=>whnf)<;>first
  |((refine fA (f:=lC) ([]:List Int) ?_ ?_ h0 h1 ?_);rfl;rfl)
  |((refine fA (f:=aC) (0:Int) ?_ ?_ (zI h2.1).1 (zI h2.1).2 ?_);rfl;rfl)
  |refine yV ?_
  |((refine ah ?_ ?_ ?_);rotate_left;(exact(KO a (F.lines.getD x.index.toNat []) h2.2)))
  |refine eQ ?_
  |(refine cO ?_;conv=>whnf)
  |fail)
 all_goals (unfold at0;rfl)
theorem ev9(F:Fr)(p:Pr)(x:Ex)(a:Int)(h0:0<=x.index)(h1:x.index<p.tables.length)(h2:0<(aJ p x.index).length/\(aJ p x.index).length<=1073741824):PCall Tryz.prog 70 [.ptr (F.cs p),x.d,.sl 1 [[.i a]]] (.ret (.i (at0 (aJ p x.index) (iF a 0 ((aJ p x.index).length-1))))):=by
 refine aj Tryz.func70 ?_
 repeat' ((try conv=>whnf)<;>first
  |((refine fA (f:=Tb.cs) Rg.Tb.none ?_ ?_ h0 h1 ?_);rfl;rfl)
  |((refine fA (f:=aC) (0:Int) ?_ ?_ (zI h2.1).1 (zI h2.1).2 ?_);rfl;rfl)
  |refine yV ?_
  |((refine ah ?_ ?_ ?_);rotate_left;(exact(KO a (p.tables.getD x.index.toNat Tb.none).values h2.2)))
  |refine eQ ?_
  |(refine cO ?_;conv=>whnf)
  |fail)
 all_goals (unfold at0;rfl)
theorem zkt(F:Fr)(p:Pr)(x:Ex)(a:Int)  : PCall Tryz.prog 71 [.ptr (F.cs p),x.d,.sl 1 [[.i a]]] (.ret (.i (iF a (-2147483648) 2147483647))):=by
 refine aj Tryz.func71 ?_
 repeat' ((try conv=>whnf)<;>first
  |refine yV ?_
  |((refine ah ?_ ?_ ?_);rotate_left;exact uG a _ _)
  |(refine cO ?_;conv=>whnf)
  |fail)
theorem zku(F:Fr)(p:Pr)(x:Ex)(a b:Int)  : PCall Tryz.prog 72 [.ptr (F.cs p),x.d,.sl 1 [[.i a],[.i b]]] (.ret (.i (mm2 false a b))):=by
 refine aj Tryz.func72 ?_
 repeat' ((try conv=>whnf)<;>first
  |refine yV ?_
  |refine eQ ?_
  |(refine cO ?_;conv=>whnf)
  |fail)
theorem zkv(F:Fr)(p:Pr)(x:Ex)(a b:Int)  : PCall Tryz.prog 73 [.ptr (F.cs p),x.d,.sl 1 [[.i a],[.i b]]] (.ret (.i (mm2 true a b))):=by
 refine aj Tryz.func73 ?_
 repeat' ((try conv=>whnf)<;>first
  |refine yV ?_
  |refine eQ ?_
  |(refine cO ?_;conv=>whnf)
  |fail)
theorem zkw(F:Fr)(p:Pr)(x:Ex)(a:Int)(ha:inW a=true):PCall Tryz.prog 74 [.ptr (F.cs p),x.d,.sl 1 [[.i a]]] (.ret (.i (mm2 true a (-a)))):=by
 refine aj Tryz.func74 ?_
 repeat' ((try conv=>whnf)<;>first
  |refine yV ?_
  |refine eQ ?_
  |(refine cO ?_;conv=>whnf)
  |fail)
 all_goals (rw[gp ha];done)
theorem zkx(F:Fr)(p:Pr)(x:Ex)(a:Int)(ha:inW a=true):PCall Tryz.prog 75 [.ptr (F.cs p),x.d,.sl 1 [[.i a]]] (.ret (.i (-a))):=by
 refine aj Tryz.func75 ?_
 repeat' ((try conv=>whnf)<;>first
  |refine yV ?_
  |(refine cO ?_;conv=>whnf)
  |fail)
 all_goals (rw[gp ha];done)
theorem zky(F:Fr)(p:Pr)(x:Ex)(a b:Int)(hw:IntKind.i64.wrap (a+b)=a+b):PCall Tryz.prog 76 [.ptr (F.cs p),x.d,.sl 1 [[.i a],[.i b]]] (.ret (.i (a+b))):=by
 refine aj Tryz.func76 ?_
 repeat' ((try conv=>whnf)<;>first
  |refine yV ?_
  |refine eQ ?_
  |(refine cO ?_;conv=>whnf)
  |fail)
 all_goals exact congrArg D.i hw
theorem zkz(F:Fr)(p:Pr)(x:Ex)(a b:Int)(hw:IntKind.i64.wrap (a-b)=a-b):PCall Tryz.prog 77 [.ptr (F.cs p),x.d,.sl 1 [[.i a],[.i b]]] (.ret (.i (a-b))):=by
 refine aj Tryz.func77 ?_
 repeat' ((try conv=>whnf)<;>first
  |refine yV ?_
  |refine eQ ?_
  |(refine cO ?_;conv=>whnf)
  |fail)
 all_goals exact congrArg D.i hw
theorem zk0(F:Fr)(p:Pr)(x:Ex)(a b:Int)(hw:IntKind.i64.wrap (a * b)=a * b):PCall Tryz.prog 78 [.ptr (F.cs p),x.d,.sl 1 [[.i a],[.i b]]] (.ret (.i (a * b))):=by
 refine aj Tryz.func78 ?_
 repeat' ((try conv=>whnf)<;>first
  |refine yV ?_
  |refine eQ ?_
  |(refine cO ?_;conv=>whnf)
  |fail)
 all_goals exact congrArg D.i hw
theorem zk1(F:Fr)(p:Pr)(x:Ex)(a:Int)(ha:inW a=true)(hn:1<=x.n):PCall Tryz.prog 79 [.ptr (F.cs p),x.d,.sl 1 [[.i a]]] (.ret (.i (ji a x.n))):=by
 refine aj Tryz.func79 ?_
 repeat' ((try conv=>whnf)<;>first
  |refine yV ?_
  |((refine ah ?_ ?_ ?_);rotate_left;(exact Oj _ _ (by assumption) (by assumption)))
  |refine eQ ?_
  |(refine cO ?_;conv=>whnf)
  |fail)
end Go.Proofs.YtgehpmgkaeohaaaGreatDoor
namespace Go.Proofs.YtgehpmgkaeohaaaGreatDoor
open Go.Fw Go.Fw.Ref15 Go.Fw.Rg Go.Fw.Tl Go.Fw.Mn
set_option maxRecDepth 10000
variable [ae] {k i m : Int} {n : Nat} {p : Pr}
abbrev evD:List D:=[.val .nilFunc,.fn 63 [],.val .nilFunc,.fn 64 [],.fn 65 [],.fn 66 [],.fn 67 [],.fn 68 [],.fn 69 [],.fn 70 [],.fn 71 [],.fn 72 [],.fn 73 [],.fn 74 [],.fn 75 [],.fn 76 [],.fn 77 [],.fn 78 [],.fn 79 [],.val .nilFunc]
def evF(k:Int):Nat:=match evD.getD k.toNat (.val .nilFunc)with | .fn f _=>f |_=>0
theorem TW   : PCall Tryz.prog 41 [] (.ret (.agg evD)):=by
 refine aj Tryz.func41 ?_
 repeat' ((try conv=>whnf)<;>first
  |(refine cO ?_;conv=>whnf)
  |fail)
theorem zhc(hw:uk p n k i m=true)(h19:(k==19)=false):0<=k/\evD[k.toNat]? = some (.fn (evF k) []):=by
 rcases kinds hw with rfl |rfl |rfl |rfl |rfl |rfl |rfl |rfl |rfl |rfl |rfl |rfl |rfl |rfl |rfl |rfl |rfl |rfl
 all_goals first
  |exact⟨by decide,rfl⟩
  |exact Bool.noConfusion h19
theorem zb6(hw:uk p n k i m=true)(h19:(k==19)=false){z:Nat}(hz:z=1):List.drop (k.toNat * z) evD = .fn (evF k) []::List.drop (k.toNat+1) evD:=by
 subst hz
 obtain⟨h0,h1⟩:=zhc hw h19
 rw[Nat.mul_one]
 obtain⟨hl,e⟩:=List.getElem?_eq_some_iff.1 h1
 rw[List.drop_eq_getElem_cons hl,e]
theorem zix(hw:uk p n k i m=true):k<((20:Nat):Int):=by
 rcases kinds hw with rfl |rfl |rfl |rfl |rfl |rfl |rfl |rfl |rfl |rfl |rfl |rfl |rfl |rfl |rfl |rfl |rfl |rfl<;>decide
theorem ziy(hw:uk p n k i m=true):Nat.beq (evF k) yx=false:=by
 rcases kinds hw with rfl |rfl |rfl |rfl |rfl |rfl |rfl |rfl |rfl |rfl |rfl |rfl |rfl |rfl |rfl |rfl |rfl |rfl<;>rfl
theorem zb7(F:Fr)(p:Pr)(found:List Sp)(x:Ex)(hF:zev p found F)(h:XOk p found F x)(h19:(x.kind==19)=false) :
  PCall Tryz.prog (evF x.kind) [.ptr (F.cs p),x.d,.sl 1 ((valXs p (lfM F) x.l).map aC)] (.ret (.i (nP p (lfM F) x))):=by
 obtain⟨h1,h2,_⟩:=bZ h.wf
 have hW:=h.inW hF
 have hin:∀y∈x.l,inW (nP p (lfM F) y)=true:=λy hy=>(h.part hy).inW hF
 have ha:=h.ahd x (z9p x)
 rw[NC]at hW ⊢
 have hs:(valXs p (lfM F) x.l).length=x.l.length:=z9q x.l
 have hi:∀v∈valXs p (lfM F) x.l,inW v=true:=by
  intro v hv;rw[BQ]at hv
  obtain⟨y,hy,rfl⟩:=List.mem_map.1 hv
  exact hin y hy
 have hl1:x.l.length=1->∃z,x.l = [z]:=λq=>by
  match x.l,q with
  | [z],_=>exact⟨z,rfl⟩
 have ha1:looks x=true->∀a,valXs p (lfM F) x.l = [a]->0<=a/\a<F.inp.length/\a<F.side.length:=by
  intro hk a e
  obtain⟨z,hz⟩:=hl1 (by rw[<-hs,e];rfl)
  have:=ha hk z hz
  rw[hz]at e
  cases e
  exact this
 generalize valXs p (lfM F) x.l=vs at *
 rw[<-hs]at h1
 unfold looks at ha1
 generalize hk:x.kind=k at *
 have nil:(vs.length:Int)=0->vs = []:=λh=>List.length_eq_zero_iff.1 (by omega)
 rcases kinds h2 with rfl |rfl |rfl |rfl |rfl |rfl |rfl |rfl |rfl |rfl |rfl |rfl |rfl |rfl |rfl |rfl |rfl |rfl
 ·exact ev1 F p x vs
 ·have q:=z3z h2 rfl
  exact ev3 F p x vs q.1 (by rw[hF.par];exact q.2)
 ·have q:=WB h2 rfl
  exact ev4 F p x vs q.1 (by rw[hF.val];exact q.2)
 ·have q:=PV h2 rfl
  exact ev5 F p x vs q.1 (by rw[hF.let_];exact q.2)
 ·obtain⟨a,rfl⟩:=yJ (sl:=vs) (by have h1:(vs.length:Int)=1:=h1;omega)
  have q:=ha1 rfl a rfl
  exact ev6 F p x a q.1 q.2.1
 ·obtain⟨a,rfl⟩:=yJ (sl:=vs) (by have h1:(vs.length:Int)=1:=h1;omega)
  have q:=ha1 rfl a rfl
  exact ev7 F p x a q.1 q.2.2
 ·obtain⟨a,rfl⟩:=yJ (sl:=vs) (by have h1:(vs.length:Int)=1:=h1;omega)
  have q:=z4a h2 rfl
  have q2:x.index<F.lines.length:=by rw[hF.lin];exact q.2
  exact ev8 F p x a q.1 q2 (hF.lne _ (getD_mem' ([]:List Int) q.1 q2))
 ·obtain⟨a,rfl⟩:=yJ (sl:=vs) (by have h1:(vs.length:Int)=1:=h1;omega)
  have q:(decide (0<=x.index)&&decide (x.index<p.tables.length) && !(aJ p x.index==[]))=true:=h2
  simp only[Bool.and_eq_true,decide_eq_true_eq]at q
  exact ev9 F p x a q.1.1 q.1.2 ⟨WC h2 rfl,hF.tab _ (getD_mem' Rg.Tb.none q.1.1 q.1.2)⟩
 ·obtain⟨a,rfl⟩:=yJ (sl:=vs) (by have h1:(vs.length:Int)=1:=h1;omega)
  exact zkt F p x a
 ·obtain⟨a,b,rfl⟩:=JK (sl:=vs) (by have h1:(vs.length:Int)=2:=h1;omega)
  exact zku F p x a b
 ·obtain⟨a,b,rfl⟩:=JK (sl:=vs) (by have h1:(vs.length:Int)=2:=h1;omega)
  exact zkv F p x a b
 ·obtain⟨a,rfl⟩:=yJ (sl:=vs) (by have h1:(vs.length:Int)=1:=h1;omega)
  exact zkw F p x a (hi a (by simp))
 ·obtain⟨a,rfl⟩:=yJ (sl:=vs) (by have h1:(vs.length:Int)=1:=h1;omega)
  exact zkx F p x a (hi a (by simp))
 ·obtain⟨a,b,rfl⟩:=JK (sl:=vs) (by have h1:(vs.length:Int)=2:=h1;omega)
  exact zky F p x a b (wrap_in hW)
 ·obtain⟨a,b,rfl⟩:=JK (sl:=vs) (by have h1:(vs.length:Int)=2:=h1;omega)
  exact zkz F p x a b (wrap_in hW)
 ·obtain⟨a,b,rfl⟩:=JK (sl:=vs) (by have h1:(vs.length:Int)=2:=h1;omega)
  exact zk0 F p x a b (wrap_in hW)
 ·obtain⟨a,rfl⟩:=yJ (sl:=vs) (by have h1:(vs.length:Int)=1:=h1;omega)
  have q:(decide (1<=x.n)&&decide (x.n<=2147483648))=true:=h2
  simp only[Bool.and_eq_true,decide_eq_true_eq]at q
  exact zk1 F p x a (hi a (by simp)) q.1
 ·exact Bool.noConfusion h19
theorem Ol(x:Ex)(F:Fr)(p:Pr)(found:List Sp)(hF:zev p found F)(hx:Ref15.nodes x<=1073741824)(h0:XOk p found F x):PCall Tryz.prog 42 [.ptr (F.cs p),.ptr evD,x.d] (.ret (.i (nP p (lfM F) x))):=by
 revert x;refine Ex.ind λx ih hx h0=>?_
 refine dh Tryz.func42 λhf=>?_
 have hN:=Ref15.nodes_eq x
 have hL:=Ref15.len_nodes x.l
 have hlen:x.l.length<=9223372036854775807:=by omega
 have g2:=(bZ h0.wf).2.1
 have ih2:∀y∈x.l,PCall Tryz.prog 42 [.ptr (F.cs p),.ptr evD,y.d] (.ret (.i (nP p (lfM F) y))):=λy hy=>ih y hy (by have:=qB hy;omega) (h0.part hy)
 clear hf
 repeat' ((try conv=>whnf)<;>first
  |(have hk:(x.kind==19)=true:=h;clear h;obtain⟨a,b,c,d,hl,hv⟩:=zey h0 hk;have hi:=zez hl)
  |((refine aB ?_ ?_ ?_ ?_ ?_);rfl;rfl;rotate_left;(first |exact hi.1 |exact hi.2.1 |exact hi.2.2.1 |exact hi.2.2.2))
  |rw[zb6 (z:=(Tryz.T.at 82).size) g2 (by assumption) (by kernel_rfl)]
  |refine QM (ziy g2) ?_
  |exact trivial
  |exact ai hd0 ‹_›
  |refine kG hd0 ?_
  |refine iw hd0 ?_
  |refine BrI.intro (λh=>?_) (λh=>?_)
  |((refine au.mk 0 ?_);refine⟨aH (x.l) 45 (λ(sl:(List Int))=>[(7,.gs 900007 1 (sl.map aC))]) (λ(sl:(List Int))=>[(900007,.tok 1 (sl.map aC).length)]) [0,1,5,43,44] (λi0 r0 sl=>sl++valXs p (lfM F) r0=valXs p (lfM F) x.l/\sl.length=i0),?_⟩;refine af [] ?_ ?_ (λi0 (sl:(List Int)) hd0 hI0=>?_) (λi0 x0 r0 (sl:(List Int)) hd0 hl0 hI0=>?_))
  |refine ag hd0 (sl++[nP p (lfM F) x0]) ?_ ?_
  |((refine ah ?_ ?_ ?_);rotate_left;(first |exact ih2 a (by rw[hl];simp) |exact ih2 b (by rw[hl];simp) |exact ih2 c (by rw[hl];simp) |exact ih2 d (by rw[hl];simp) |exact ih2 _ (bU hd0) |(rw[z0i hI0.1];exact zb7 F p found x hF h0 (by assumption))))
  |refine aI.l _ ?_
  |((refine bY ?_ ?_ ?_ ?_ ?_ ?_)<;>exact rfl)
  |((refine di ?_ ?_ ?_ ?_)<;>exact rfl)
  |((refine aB ?_ ?_ ?_ ?_ ?_);rfl;rfl;rotate_left;exact eY hd0)
  |refine oK ?_
  |refine wP ?_ ?_ ?_
  |refine eQ ?_
  |(refine cO ?_;conv=>whnf)
  |refine And.intro ?_ ?_
  |((refine mZ ?_ ?_ ?_);rfl;rfl;(first |exact bC |skip))
  |((refine gy ?_ ?_);rfl;(first |exact bC |skip))
  |exact @rfl AV _
  |exact dQ rfl
  |fail)
 all_goals first
  |rfl
  |exact congrArg D.i (zj9 hv h)
  |exact congrArg D.i (zka hv h)
  |exact(zhc g2 (by assumption)).1
  |exact zix g2
  |exact Xl hI0.1
  |(rw[List.length_append,hI0.2];rfl)
  |(rw[List.length_map];omega)
end Go.Proofs.YtgehpmgkaeohaaaGreatDoor
namespace Go.Proofs.YtgehpmgkaeohaaaGreatDoor
open Go.Fw Go.Fw.Ref15 Go.Fw.Rg Go.Fw.Tl Go.Fw.Mn
set_option maxRecDepth 10000
variable [ae]
theorem TY(x:Int)  : PCall Tryz.prog 61 [.i x] (.ret (.b (z9r x))):=by
 refine aj Tryz.func61 ?_
 repeat' ((try conv=>whnf)<;>first
  |(refine cO ?_;conv=>whnf)
  |fail)
 all_goals rfl
theorem KP(l:List Int)(hl:l.length<=1073741824):PCall Tryz.prog 112 [.sl 1 (l.map aC),.fn 61 []] (.ret (.i (jA z9r l 0))):=by
 refine dh Tryz.func112 λhf=>?_
 have hlen:l.length<=9223372036854775807:=by omega
 clear hf
 repeat' ((try conv=>whnf)<;>first
  |exact trivial
  |exact ai hd0 ‹_›
  |refine bu hd0 ?_
  |refine aP hd0 ?_
  |refine BrI.intro (λh=>?_) (λh=>?_)
  |((refine au.mk 0 ?_);refine⟨aH (l) 8 (λ(_:Unit)=>[]) (λ(_:Unit)=>[]) [0,1,7] (λi0 r0 _=>jA z9r l 0=jA z9r r0 i0),?_⟩;refine af () ?_ ?_ (λi0 (_:Unit) hd0 hI0=>?_) (λi0 x0 r0 (_:Unit) hd0 hl0 hI0=>?_))
  |refine ag hd0 () ?_ ?_
  |((refine ah ?_ ?_ ?_);rotate_left;exact TY _)
  |((refine aB ?_ ?_ ?_ ?_ ?_);rfl;rfl;rotate_left;exact ay hd0)
  |(refine cO ?_;conv=>whnf)
  |refine And.intro ?_ ?_
  |exact @rfl AV _
  |fail)
 all_goals first
  |rfl
  |exact BR hI0 h
  |exact congrArg D.i (EU hI0 h).symm
  |exact congrArg D.i hI0.symm
theorem CX(l:List Int)(hl:l.length<=1073741824):PCall Tryz.prog 60 [.sl 1 (l.map aC),.fn 61 []] (.ret (.b (l.any z9r))):=by
 refine aj Tryz.func60 ?_
 repeat' ((try conv=>whnf)<;>first
  |((refine ah ?_ ?_ ?_);rotate_left;exact KP l hl)
  |(refine cO ?_;conv=>whnf)
  |fail)
 all_goals exact congrArg D.b (xQ l 0 (Int.le_refl _))
theorem gY(l:List Int)(n:Int)(hl:l.length<=1073741824):PCall Tryz.prog 32 [.sl 1 (l.map aC),.i n] (.ret (.b (rq l n))):=by
 refine aj Tryz.func32 ?_
 repeat' ((try conv=>whnf)<;>first
  |((refine ah ?_ ?_ ?_);rotate_left;exact CX l hl)
  |((refine aK ?_ ?_ (λhg=>?_) ?_);rfl)
  |((refine aY ?_ ?_);rfl;rfl)
  |(refine cO ?_;conv=>whnf)
  |fail)
 all_goals (simp only[rq,List.length_map];done)
theorem mG(l:List Int)(bs:List Bd)(hl:l.length<=1073741824):PCall Tryz.prog 31 [.sl 1 (l.map aC),.sl 3 (bs.map Bd.cs)] (.ret (.b (jC l bs))):=by
 refine aj Tryz.func31 ?_
 repeat' ((try conv=>whnf)<;>first
  |exact trivial
  |exact ai hd0 ‹_›
  |((refine eU hd0 ?_ ?_);(assumption))
  |((refine dM hd0 ?_ ?_);(assumption))
  |refine BrI.intro (λh=>?_) (λh=>?_)
  |((refine au.mk 0 ?_);have heq:l.length=bs.length:=lne (by simpa only [List.length_map]using h);have hz:(l.zip bs).length=(l.map aC).length:=(by rw[List.length_map];exact ze1 heq);have hlen:(l.zip bs).length<=9223372036854775807:=(by rw[hz,List.length_map];omega);refine⟨aH (l.zip bs) 14 (λ(_:Unit)=>[]) (λ(_:Unit)=>[]) [1,12,13] (λi0 r0 _=>Xm (l.zip bs)=Xm r0),?_⟩;refine af () ?_ ?_ (λi0 (_:Unit) hd0 hI0=>?_) (λi0 x0 r0 (_:Unit) hd0 hl0 hI0=>?_))
  |refine ag hd0 () ?_ ?_
  |((refine aB ?_ ?_ ?_ ?_ ?_);rfl;rfl;rotate_left;(first |exact jI hd0 |exact jJ hd0))
  |((refine aK ?_ ?_ (λhg=>?_) ?_);rfl)
  |((refine aY ?_ ?_);rfl;rfl)
  |(refine cO ?_;conv=>whnf)
  |refine And.intro ?_ ?_
  |exact @rfl AV _
  |fail)
 all_goals first
  |exact z0j hI0 h
  |exact congrArg D.b (ze0 (by simpa only [List.length_map]using h))
  |exact congrArg D.b ((z9t hI0 h).trans (Xo heq).symm)
  |exact congrArg D.b (Eq.trans (Xo heq) hI0).symm
theorem TZ(x:Ln)(v:Int)  : ak Tryz.prog 62 [.data (.i v),.ptr 1000000 0] [(1000000,.cells (x.cs.map .data))] (.ret (.data (.b (z9s x v)))) [(1000000,.cells (x.cs.map .data))]:=by
 refine aT Tryz.func62 ?_
 repeat' ((try conv=>whnf)<;>first
  |exact trivial
  |((refine bg ?_);refine fin_step' [] rfl ?_ ?_)
  |refine And.intro ?_ ?_
  |fail)
 all_goals rfl
theorem KR(x:Ln)(l:List Int)(hl:l.length<=1073741824):ak Tryz.prog 112 [.data (.sl 1 (l.map aC)),.fn 62 [.ptr 1000000 0]] [(1000000,.cells (x.cs.map .data))] (.ret (.data (.i (jA (z9s x) l 0)))) [(1000000,.cells (x.cs.map .data))]:=by
 refine pg Tryz.func112 λhf=>?_
 have hlen:l.length<=9223372036854775807:=by omega
 clear hf
 repeat' ((try conv=>whnf)<;>first
  |exact trivial
  |exact ai hd0 ‹_›
  |refine bu hd0 ?_
  |refine aP hd0 ?_
  |refine BrI.intro (λh=>?_) (λh=>?_)
  |((refine au.mk 0 ?_);refine⟨aH (l) 8 (λ(_:Unit)=>[]) (λ(_:Unit)=>[(1000000,.cells (x.cs.map .data))]) [0,1,7] (λi0 r0 _=>jA (z9s x) l 0=jA (z9s x) r0 i0),?_⟩;refine af () ?_ ?_ (λi0 (_:Unit) hd0 hI0=>?_) (λi0 x0 r0 (_:Unit) hd0 hl0 hI0=>?_))
  |refine ag hd0 () ?_ ?_
  |((refine lent_step' [] (TZ x x0) ?_ ?_ ?_ ?_);rotate_left 0;rfl;(exact⟨rfl,trivial⟩);rfl)
  |((refine bg ?_);refine fin_step' [] rfl ?_ ?_)
  |((refine aB ?_ ?_ ?_ ?_ ?_);rfl;rfl;rotate_left;exact ay hd0)
  |refine And.intro ?_ ?_
  |exact @rfl AV _
  |exact @rfl (List AV) _
  |fail)
 all_goals first
  |rfl
  |exact BR hI0 h
  |exact congrArg D.i (EU hI0 h).symm
  |exact congrArg D.i hI0.symm
theorem CY(x:Ln)(l:List Int)(hl:l.length<=1073741824):ak Tryz.prog 60 [.data (.sl 1 (l.map aC)),.fn 62 [.ptr 1000000 0]] [(1000000,.cells (x.cs.map .data))] (.ret (.data (.b (l.any (z9s x))))) [(1000000,.cells (x.cs.map .data))]:=by
 refine aT Tryz.func60 ?_
 repeat' ((try conv=>whnf)<;>first
  |exact trivial
  |((refine lent_step' [] (KR x l hl) ?_ ?_ ?_ ?_);rotate_left 0;rfl;(exact⟨rfl,trivial⟩);rfl)
  |((refine bg ?_);refine fin_step' [] rfl ?_ ?_)
  |refine And.intro ?_ ?_
  |fail)
 all_goals exact congrArg D.b (xQ l 0 (Int.le_refl _))
theorem CZ(p:Pr)(s:St)(hs:s.Sm):PCall Tryz.prog 33 [p.d,s.d] (.ret (.b (lK p s))):=by
 refine dh Tryz.func33 λhf=>?_
 have g7:=hs.line;have g8:=hs.lines
 clear hf
 repeat' ((try conv=>whnf)<;>first
  |exact trivial
  |exact ai hd0 ‹_›
  |((refine eU hd0 ?_ ?_);(assumption))
  |((refine dM hd0 ?_ ?_);(assumption))
  |refine BrI.intro (λh=>?_) (λh=>?_)
  |((refine au.mk 0 ?_);have heq:=z9v (p:=p) (s:=s) (by simpa only [List.length_map]using h);have hz:(s.lines.zip p.lines).length=(p.lines.map Ln.cs).length:=(by rw[List.length_map,ze1 heq.1];exact heq.1);have hlen:(s.lines.zip p.lines).length<=9223372036854775807:=(by rw[ze1 heq.1];omega);refine⟨aH (s.lines.zip p.lines) 26 (λ(_:Unit)=>[]) (λ(_:Unit)=>[]) [3,24,25] (λi0 r0 _=>Xn (s.lines.zip p.lines)=Xn r0),?_⟩;refine af () ?_ ?_ (λi0 (_:Unit) hd0 hI0=>?_) (λi0 x0 r0 (_:Unit) hd0 hl0 hI0=>?_))
  |refine ag hd0 () ?_ ?_
  |((refine ah ?_ ?_ ?_);rotate_left;exact mG _ _ hs.vals)
  |((refine lent_step' [(1000000,6)] (CY x0.2 x0.1 (g7 _ (List.of_mem_zip (bU hd0)).1)) ?_ ?_ ?_ ?_);rotate_left 0;rfl;(exact⟨rfl,trivial⟩);rfl)
  |((refine aB ?_ ?_ ?_ ?_ ?_);rfl;rfl;rotate_left;(first |exact jI hd0 |exact jJ hd0))
  |refine oK ?_
  |((refine uf ?_ ?_ (λhg=>?_) ?_);rfl)
  |((refine aY ?_ ?_);rfl;rfl)
  |refine eQ ?_
  |(refine cO ?_;conv=>whnf)
  |refine And.intro ?_ ?_
  |exact @rfl AV _
  |fail)
 all_goals first
  |rfl
  |exact z0k hI0 (by simpa only [zcr,List.length_map]using h)
  |exact congrArg D.b (ze2 (by simpa only [List.length_map]using h))
  |exact congrArg D.b ((z9u hI0 (by simpa only [zcr,List.length_map]using h)).trans heq.2.symm)
  |exact congrArg D.b (Eq.trans heq.2 hI0).symm
theorem Om(l:List Int)(hl:l.length<=1073741824):ak Tryz.prog 34 [.data (.sl 1 (l.map aC))] [] (.ret (.own 1000000 1 1 0 l.length)) [(1000000,.arr 1 1 (l.map aC))]:=by
 refine aT Tryz.func34 ?_
 repeat' ((try conv=>whnf)<;>first
  |refine aI.r 5 ?_
  |(obtain rfl:l = []:=(List.length_eq_zero_iff.1 (by simpa using hz));clear hz;refine Ql [(2,.own 5 1 1 0 0)] [(5,.arr 1 1 [])] ?_ ?_)
  |exact trivial
  |refine BrI.tt ?_
  |refine BrI.ff ?_
  |refine YF.mk (λhz=>?_) ?_
  |((refine yG ?_ ?_ ?_ ?_ ?_ ?_ ?_ ?_);rfl;rfl;rfl;exact dQ rfl;rfl;exact Nat.zero_le _;(rw[List.length_map];exact hl))
  |refine fin_step' [(1000000,5)] rfl ?_ ?_
  |exact Xp rfl ((Nat.zero_add _).trans (List.length_map _))
  |exact Qm rfl
  |((refine bg ?_);refine fin_step' [(1000000,5)] rfl ?_ ?_)
  |((refine di ?_ ?_ ?_ ?_)<;>exact rfl)
  |refine And.intro ?_ ?_
  |exact @rfl AV _
  |exact @rfl Block _
  |fail)
 all_goals rfl
theorem KT(l:List (List Int))(hl:l.length<=1073741824):ak Tryz.prog 35 [.data (.sl 1 (l.map lC))] [] (.ret (.own 1000000 1 1 0 l.length)) [(1000000,.arr 1 1 (l.map lC))]:=by
 refine aT Tryz.func35 ?_
 repeat' ((try conv=>whnf)<;>first
  |refine aI.r 5 ?_
  |(obtain rfl:l = []:=(List.length_eq_zero_iff.1 (by simpa using hz));clear hz;refine Ql [(2,.own 5 1 1 0 0)] [(5,.arr 1 1 [])] ?_ ?_)
  |exact trivial
  |refine BrI.tt ?_
  |refine BrI.ff ?_
  |refine YF.mk (λhz=>?_) ?_
  |((refine yG ?_ ?_ ?_ ?_ ?_ ?_ ?_ ?_);rfl;rfl;rfl;exact dQ rfl;rfl;exact Nat.zero_le _;(rw[List.length_map];exact hl))
  |refine fin_step' [(1000000,5)] rfl ?_ ?_
  |exact Xp rfl ((Nat.zero_add _).trans (List.length_map _))
  |exact Qm rfl
  |((refine bg ?_);refine fin_step' [(1000000,5)] rfl ?_ ?_)
  |((refine di ?_ ?_ ?_ ?_)<;>exact rfl)
  |refine And.intro ?_ ?_
  |exact @rfl AV _
  |exact @rfl Block _
  |fail)
 all_goals rfl
theorem Ua(p:Pr)(e:Int)(hc:PCall Tryz.prog 16 [p.d] (.ret (.i e)))(he:(e != 0)=true):PCall Tryz.prog 11 [p.d] (.ret (.tuple [(⟨[],[]⟩:St).d,.i e])):=by
 refine aj Tryz.func11 ?_
 repeat' ((try conv=>whnf)<;>first
  |exact Bool.noConfusion (he.symm.trans h)
  |refine BrI.intro (λh=>?_) (λh=>?_)
  |((refine ah ?_ ?_ ?_);rotate_left;exact hc)
  |(refine cO ?_;conv=>whnf)
  |fail)
 all_goals rfl
theorem Yr(p:Pr)(hc:PCall Tryz.prog 16 [p.d] (.ret (.i 0)))(h1:p.states.length<=1073741824)(h2:p.lines.length<=1073741824)(hsz:∀x∈p.lines,1<=x.size/\x.size<=65536):PCall Tryz.prog 11 [p.d] (.ret (.tuple [(lL p).d,.i 0])):=by
 refine dh Tryz.func11 λhf=>?_
 have hlen:p.states.length<=9223372036854775807:=by omega
 have hlen2:p.lines.length<=9223372036854775807:=by omega
 clear hf
 repeat' ((try conv=>whnf)<;>first
  |((refine BrI.ff_of ?_ ?_);rfl)
  |exact trivial
  |exact ai hd2 ‹_›
  |exact ai hd0 ‹_›
  |refine bu hd2 ?_
  |refine bu hd0 ?_
  |refine aP hd2 ?_
  |refine aP hd0 ?_
  |((refine z7u ?_ ?_ ?_ ?_ ?_);(have:=hsz _ (bU hd2);omega);exact Int.le_refl _;rfl;(have:=hsz _ (bU hd2);omega))
  |((refine au.mk 0 ?_);refine⟨aH (p.states) 17 (λ(vs:(List Int))=>[]) (λ(vs:(List Int))=>[(2,.cells [.gs 900001 1 (vs.map aC),.nilsl 1]),(900001,.tok 1 (vs.map aC).length)]) [1,2,15,16] (λi0 r0 vs=>(lL p).vals=vs++r0.map (λb=>iF 0 b.lo b.hi)),?_⟩;refine af ([]) ?_ ?_ (λi0 (vs:(List Int)) hd0 hI0=>?_) (λi0 x0 r0 (vs:(List Int)) hd0 hl0 hI0=>?_))
  |refine ag hd0 (vs++[iF 0 x0.lo x0.hi]) ?_ ?_
  |((refine au.mk 2 ?_);refine⟨aH (p.lines) 35 (λ(ls:(List (List Int)))=>[]) (λ(ls:(List (List Int)))=>[(2,.cells [.gs 900001 1 (vs.map aC),.gs 900002 1 (ls.map lC)]),(900001,.tok 1 (vs.map aC).length),(900002,.tok 1 (ls.map lC).length)]) [2,33,34] (λi2 r2 ls=>(lL p).lines=ls++r2.map (λl=>List.replicate l.size.toNat 0)),?_⟩;refine af ([]) ?_ ?_ (λi2 (ls:(List (List Int))) hd2 hI2=>?_) (λi2 x2 r2 (ls:(List (List Int))) hd2 hl2 hI2=>?_))
  |refine ag hd2 (ls++[List.replicate x2.size.toNat 0]) ?_ ?_
  |((refine ah ?_ ?_ ?_);rotate_left;(first |exact hc |exact uG _ _ _))
  |refine aI.l _ ?_
  |((refine bY ?_ ?_ ?_ ?_ ?_ ?_)<;>exact rfl)
  |((refine di ?_ ?_ ?_ ?_)<;>exact rfl)
  |((refine aB ?_ ?_ ?_ ?_ ?_);rfl;rfl;rotate_left;(first |exact ay hd2 |exact ay hd0))
  |refine oK ?_
  |refine wP ?_ ?_ ?_
  |refine eQ ?_
  |(refine cO ?_;conv=>whnf)
  |refine And.intro ?_ ?_
  |((refine mZ ?_ ?_ ?_);rfl;rfl;(first |exact bC |skip))
  |((refine gy ?_ ?_);rfl;(first |exact bC |skip))
  |exact @rfl AV _
  |exact dQ rfl
  |fail)
 all_goals first
  |rfl
  |(rw[hI0];simp;done)
  |(rw[hI2];simp;done)
  |(have hq:=congrArg List.length hI0;simp only[lL,List.length_append,List.length_map]at hq ⊢;omega)
  |(have hq:=congrArg List.length hI2;simp only[lL,List.length_append,List.length_map]at hq ⊢;omega)
  |exact(congrArg (λd=>D.tuple [d,D.i 0]) (z9w hI0 hI2)).symm
  |exact z0l
theorem z2k(s:Sm)(n:Int)  : PCall Tryz.prog 36 [s.d,.i n] (.ret (.tuple [])):=by
 refine aj Tryz.func36 ?_
 repeat' ((try conv=>whnf)<;>first
  |(refine cO ?_;conv=>whnf)
  |fail)
theorem z2l(s:Sm)(n o:Int)  : ak Tryz.prog 40 [.data s.d,.data (.i n),.ptr 1000000 0] [(1000000,.cells [.data (.i o)])] (.ret (.data (.tuple []))) [(1000000,.cells [.data (.i n)])]:=by
 refine aT Tryz.func40 ?_
 repeat' ((try conv=>whnf)<;>first
  |exact trivial
  |((refine bg ?_);refine fin_step' [(1000000,1000000)] rfl ?_ ?_)
  |refine And.intro ?_ ?_
  |fail)
theorem z2m(p:Pr)(F:Fr)(s:Sm)(n:Int)(h0:0<=s.index)(h1:s.index<F.vals.length):ak Tryz.prog 37 [.data s.d,.data (.i n),.ptr 1000000 0] [(1000000,.cells [.ptr 1000001 0]),(1000001,.cells (FA p F 1000002 1000003 1000004)),(1000002,.arr 1 1 (F.vals.map aC)),(1000003,.arr 1 1 (F.lines.map lC)),(1000004,.tok 1 (F.lets.map aC).length)] (.ret (.data (.tuple []))) [(1000000,.cells [.ptr 1000001 0]),(1000001,.cells (FA p F 1000002 1000003 1000004)),(1000002,.arr 1 1 ((F.vals.set s.index.toNat n).map aC)),(1000003,.arr 1 1 (F.lines.map lC)),(1000004,.tok 1 (F.lets.map aC).length)]:=by
 refine aT Tryz.func37 ?_
 repeat' ((try conv=>whnf)<;>first
  |exact trivial
  |((refine yF ?_ ?_ ?_ ?_ ?_);rfl;rfl;rfl;exact⟨h0,h1⟩)
  |((refine sH ?_ ?_ ?_ ?_ ?_ ?_ ?_ ?_ ?_);rfl;rfl;rfl;rfl;exact dQ rfl;rfl;rotate_left;exact ze3 h0 h1)
  |((refine bg ?_);refine fin_step' [(1000000,1000000),(1000001,1000001),(1000002,1000002),(1000003,1000003),(1000004,1000004)] rfl ?_ ?_)
  |refine eQ ?_
  |refine And.intro ?_ ?_
  |((refine bP ?_);refine gZ ?_ ?_ ?_;rfl;rfl;(first |exact rfl |skip))
  |exact @rfl AV _
  |fail)
 all_goals exact congrArg (Block.arr 1 1) z9x
theorem z2o(p:Pr)(F:Fr)(s:Sm)(n:Int)(b:Nat)(pu:List (Sm×Int))(hl:pu.length<=1073741824):ak Tryz.prog 38 [.data s.d,.data (.i n),.ptr 1000000 0,.ptr 1000001 0] [(1000000,.cells [.gs 1000002 1 (pu.map (pC 39 b))]),(1000001,.cells [.ptr 1000004 0]),(1000002,.tok 1 (pu.map (pC 39 b)).length),(1000003,.adr 1000001 b),(1000004,.cells (FA p F 1000005 1000006 1000007)),(1000005,.arr 1 1 (F.vals.map aC)),(1000006,.arr 1 1 (F.lines.map lC)),(1000007,.tok 1 (F.lets.map aC).length)] (.ret (.data (.tuple []))) [(1000000,.cells [.gs 1000002 1 ((pu++[(s,n)]).map (pC 39 b))]),(1000001,.cells [.ptr 1000004 0]),(1000002,.tok 1 ((pu++[(s,n)]).map (pC 39 b)).length),(1000003,.adr 1000001 b),(1000004,.cells (FA p F 1000005 1000006 1000007)),(1000005,.arr 1 1 (F.vals.map aC)),(1000006,.arr 1 1 (F.lines.map lC)),(1000007,.tok 1 (F.lets.map aC).length)]:=by
 refine lm tok hmix ⟨[1],[]⟩ Tryz.func38 rfl (by kernel_rfl) (by kernel_rfl) (by kernel_rfl) λhf=>?_
 clear hf
 repeat' ((try conv=>whnf)<;>first
  |exact trivial
  |((refine au.mk 1 ?_);refine⟨⟨Unit,λ_=>[(3,.data (.val (.pointer (some ⟨b,0,none⟩)))),(4,.data (.ptr s.cs)),(5,.data (.ptr [.i n]))],λ_=>[(1000001,.cells [.ptr 1000004 0]),(1000003,.adr 1000001 b),(1000004,.cells (FA p F 1000005 1000006 1000007)),(1000005,.arr 1 1 (F.vals.map aC)),(1000006,.arr 1 1 (F.lines.map lC)),(1000007,.tok 1 (F.lets.map aC).length)],[2],λ_=>True,λ_=>0⟩,?_,λ_ _=>?_⟩)
  |refine I4.l ?_
  |refine⟨(),trivial,?_⟩
  |((refine bg ?_);refine fin_step' [(1000000,1000000),(1000001,1000001),(1000002,1000002),(1000003,1000003),(1000004,1000004),(1000005,1000005),(1000006,1000006),(1000007,1000007)] rfl ?_ ?_)
  |refine aI.l _ ?_
  |refine wP ?_ ?_ ?_
  |refine And.intro ?_ ?_
  |((refine gy ?_ ?_);rfl;(first |skip))
  |((refine bP ?_);refine gZ ?_ ?_ ?_;rfl;rfl;(first |exact rfl |skip))
  |exact @rfl AV _
  |exact @rfl Block _
  |exact dQ rfl
  |fail)
 all_goals first
  |(rw[List.length_map];exact hl)
  |exact z9y rfl
  |rfl
theorem z2p(p:Pr)(F:Fr)(s:Sm)(n:Int)(h0:0<=s.index)(h1:s.index<F.lines.length)(h2:0<(Dx F s.index).length/\(Dx F s.index).length<=1073741824):ak Tryz.prog 39 [.ptr 1000000 0,.data (.ptr s.cs),.data (.ptr [.i n])] [(1000000,.cells [.ptr 1000001 0]),(1000001,.cells (FA p F 1000002 1000003 1000004)),(1000002,.arr 1 1 (F.vals.map aC)),(1000003,.arr 1 1 (F.lines.map lC)),(1000004,.tok 1 (F.lets.map aC).length)] (.ret (.data (.tuple []))) [(1000000,.cells [.ptr 1000001 0]),(1000001,.cells (FA p F 1000002 1000003 1000004)),(1000002,.arr 1 1 (F.vals.map aC)),(1000003,.arr 1 1 ((ny F.lines (s,n)).map lC)),(1000004,.tok 1 (F.lets.map aC).length)]:=by
 refine aT Tryz.func39 ?_
 repeat' ((try conv=>whnf)<;>first
  |exact trivial
  |((refine yF ?_ ?_ ?_ ?_ ?_);rfl;rfl;rfl;exact⟨h0,h1⟩)
  |((refine Gl ?_ ?_ ?_ ?_ ?_ ?_ ?_);rfl;rfl;rotate_left 2;exact Xq h0 h1;rfl)
  |((refine sH ?_ ?_ ?_ ?_ ?_ ?_ ?_ ?_ ?_);rfl;rfl;rfl;rfl;exact dQ rfl;rfl;rotate_left;exact Xq h0 h1)
  |((refine bg ?_);refine fin_step' [(1000000,1000000),(1000001,1000001),(1000002,1000002),(1000003,1000003),(1000004,1000004)] rfl ?_ ?_)
  |refine aI.l _ ?_
  |refine wP ?_ ?_ ?_
  |refine eQ ?_
  |refine And.intro ?_ ?_
  |((refine bP ?_);refine gZ ?_ ?_ ?_;rfl;rfl;(first |exact rfl |skip))
  |exact @rfl AV _
  |exact dQ rfl
  |fail)
 all_goals first
  |(rw[Xk h2.2];omega)
  |(have hq:=h2;rw[Xk h2.2,List.length_map];show((Dx F s.index).length:Int)-1<=(Dx F s.index).length;omega)
  |(rw[z9z h2,List.length_map,List.length_dropLast];omega)
  |((try(conv=>whnf));exact z90 rfl h2)
  |rfl
theorem Yt(p:Pr)(found:List Sp)(F:Fr)(x:Ex){n m:Nat}(hn:n=F.vals.length)(hm:m=F.lines.length)(hF:zev p found F)(hx:Ref15.nodes x<=1073741824)(h0:XOk p found F x) :
  PCall Tryz.prog 42 [.ptr [.sl 1 (F.lets.map aC),.str p.name,.i p.latency,.i p.tail,.sl 3 (p.params.map Bd.cs),.sl 3 (p.states.map Bd.cs),.sl 4 (p.lines.map Ln.cs),.sl 2 (p.tables.map Tb.cs),.sl 8 (p.stmts.map Sm.cs),
   .sl 1 (F.params.map aC),.sl 1 (F.inp.map aC),.sl 1 (F.side.map aC),.sl 1 (((F.vals.map aC).drop 0).take n),.sl 1 (((F.lines.map lC).drop 0).take m)],.ptr evD,x.d] (.ret (.i (nP p (lfM F) x))):=by
 subst hn hm
 rw[List.drop_zero,List.drop_zero,List.take_of_length_le (by simp),List.take_of_length_le (by simp)]
 exact Ol x F p found hF hx h0
def KQ(s:Sm):Prop:=s.kind=1\/s.kind=2\/s.kind=3\/s.kind=4
theorem zk2{k c:Int}{z:Nat}(h:k=c):k.toNat * z=c.toNat * z:=by rw[h]
theorem Yu(p:Pr)(A:Fr)(q:Ss){i:Nat}{s:Sm}{r:List Sm}{n m:Nat}(hn:n=q.vals.length)(hm:m=A.lines.length)(hK:sN p A)(hd:p.stmts.drop i=s::r)(hq:q=qH p A i) :
  PCall Tryz.prog 42 [.ptr [.sl 1 (q.lets.map aC),.str p.name,.i p.latency,.i p.tail,.sl 3 (p.params.map Bd.cs),.sl 3 (p.states.map Bd.cs),.sl 4 (p.lines.map Ln.cs),.sl 2 (p.tables.map Tb.cs),.sl 8 (p.stmts.map Sm.cs),
   .sl 1 (A.params.map aC),.sl 1 (A.inp.map aC),.sl 1 (A.side.map aC),.sl 1 (((q.vals.map aC).drop 0).take n),.sl 1 (((A.lines.map lC).drop 0).take m)],.ptr evD,s.x.d] (.ret (.i (nD p A q s))):=by
 subst hq
 have hs:=vN hd
 obtain⟨found,hF,hX⟩:=hK.fr i s hs
 exact Yt p found (A.at (qH p A i)) s.x hn hm hF (hK.nod s (List.mem_of_getElem? hs)) hX
theorem z2q(G:Nat){K:Heap}{q:Heap->Prop}(_:(K.get G).isSome=true)(h2:q K):I4 K q:=I4.l h2
theorem zb8{i v s o k:Nat}{l:List Int}{x:Int}:AV.own i v s o l.length=AV.own i v s o (l.set k x).length:=by rw[List.length_set]
theorem z2r{i v s o:Nat}{ls:List (List Int)}{x:Sm×Int}:AV.own i v s o ls.length=AV.own i v s o (ny ls x).length:=by rw[ny,List.length_set]
theorem zb9{n m:Nat}{X:List (List D)}{k:List (List D)->Prop}(h1:n<=m)(h2:k X):∃r,(n<=m/\r=X)/\k r:=⟨X,⟨h1,rfl⟩,h2⟩
theorem z2s{p:Pr}{A:Fr}{q:Ss}{i:Nat}{ls:List (List Int)}(h:q=qH p A i)(hd:p.stmts.drop i = [])(h2:q.pu.foldl ny A.lines=ls) :
  D.tuple [.i q.out,.agg [.sl 1 (((q.vals.map aC).drop 0).take q.vals.length),.sl 1 (((ls.map lC).drop 0).take ls.length)],.i 0]=D.tuple [.i (stepM p A).1,(stepM p A).2.d,.i 0]:=by
 rw[List.drop_zero,List.drop_zero,List.take_of_length_le (by simp),List.take_of_length_le (by simp)]
 exact(Mn.step_ret h hd h2).symm
theorem zca{p:Pr}{A:Fr}{q:Ss}{s:Sm}{i:Nat}{r:List Sm}(h:q=qH p A i)(hd:p.stmts.drop i=s::r)(hk:s.kind=1):(⟨q.lets++[nD p A q s],q.vals,q.out,q.pu⟩:Ss)=qH p A (i+1):=by rw[<-zfa hk];exact step_next h hd
theorem zcb{p:Pr}{A:Fr}{q:Ss}{s:Sm}{i:Nat}{r:List Sm}(h:q=qH p A i)(hd:p.stmts.drop i=s::r)(hk:s.kind=2):(⟨q.lets++[nD p A q s],q.vals.set s.index.toNat (nD p A q s),q.out,q.pu⟩:Ss)=qH p A (i+1):=by rw[<-zfb hk];exact step_next h hd
theorem zcc{p:Pr}{A:Fr}{q:Ss}{s:Sm}{i:Nat}{r:List Sm}(h:q=qH p A i)(hd:p.stmts.drop i=s::r)(hk:s.kind=3):(⟨q.lets++[nD p A q s],q.vals,q.out,q.pu++[(s,nD p A q s)]⟩:Ss)=qH p A (i+1):=by rw[<-zfc hk];exact step_next h hd
theorem zcd{p:Pr}{A:Fr}{q:Ss}{s:Sm}{i:Nat}{r:List Sm}(h:q=qH p A i)(hd:p.stmts.drop i=s::r)(hk:s.kind=4):(⟨q.lets++[nD p A q s],q.vals,nD p A q s,q.pu⟩:Ss)=qH p A (i+1):=by rw[<-zfd hk];exact step_next h hd
theorem ziz{A:Fr}{ls:List (List Int)}{i:Int}(h:ze5 A ls)(h1:i<A.lines.length):i<(ls.length:Nat):=by rw[h.1];exact h1
theorem zhd{p:Pr}{A:Fr}{q:Ss}{i:Nat}(hK:sN p A)(h:q=qH p A i)(hi:i<p.stmts.length):q.pu.length<=1073741824:=by
 have:=hK.len
 have:=z92 (p:=p) (A:=A) (i:=i) (by omega)
 rw[h];omega
theorem zi0{p:Pr}{A:Fr}{q:Ss}{i:Nat}(hK:sN p A)(h:q=qH p A i):q.pu.length<=9223372036854775807:=by
 have:=(ry (p:=p) (A:=A) (p.stmts.take i) (ss0 A)).2.2
 have hk:=hK.len
 have e:(ss0 A).pu.length=0:=rfl
 rw[List.length_take,e]at this
 rw[h,qH];omega
theorem zhe{p:Pr}{A:Fr}{q:Ss}{i:Nat}{n:Int}(h:q=qH p A i)(hn:n<A.vals.length):n<(q.vals.length:Nat):=by rw[h,JL];exact hn
structure ASm(A:Fr):Prop where
 par:A.params.length<=1073741824
 inp:A.inp.length<=1073741824
 sid:A.side.length<=1073741824
theorem step_bad(p:Pr)(A:Fr)(e:Int)(hc:PCall Tryz.prog 16 [p.d] (.ret (.i e)))(he:(e != 0)=true):PCall Tryz.prog 13 [p.d,.sl 1 (A.params.map aC),.sl 1 (A.inp.map aC),.sl 1 (A.side.map aC),(⟨A.vals,A.lines⟩:St).d] (.ret (.tuple [.i 0,(⟨[],[]⟩:St).d,.i e])):=by
 refine aj Tryz.func13 ?_
 repeat' ((try conv=>whnf)<;>first
  |exact Bool.noConfusion (he.symm.trans h)
  |refine BrI.intro (λh=>?_) (λh=>?_)
  |((refine ah ?_ ?_ ?_);rotate_left;exact hc)
  |refine eQ ?_
  |(refine cO ?_;conv=>whnf)
  |fail)
 all_goals rfl
theorem z2t(p:Pr)(A:Fr)(hc:PCall Tryz.prog 16 [p.d] (.ret (.i 0)))(ha:ASm A)(hb:YJ p A=true):PCall Tryz.prog 13 [p.d,.sl 1 (A.params.map aC),.sl 1 (A.inp.map aC),.sl 1 (A.side.map aC),(⟨A.vals,A.lines⟩:St).d] (.ret (.tuple [.i 0,(⟨[],[]⟩:St).d,.i 1])):=by
 refine aj Tryz.func13 ?_
 repeat' ((try conv=>whnf)<;>first
  |((refine BrI.ff_of ?_ ?_);exact rfl)
  |exact Bool.noConfusion (hb.symm.trans h)
  |refine BrI.intro (λh=>?_) (λh=>?_)
  |((refine ah ?_ ?_ ?_);rotate_left;(first |exact hc |exact mG _ _ ha.par |exact gY _ _ ha.inp |exact gY _ _ ha.sid))
  |((refine aK ?_ ?_ (λhg=>?_) ?_);exact rfl)
  |((refine aY ?_ ?_);exact rfl;exact rfl)
  |refine eQ ?_
  |(refine cO ?_;conv=>whnf)
  |fail)
 all_goals rfl
theorem Ub(p:Pr)(A:Fr)(hc:PCall Tryz.prog 16 [p.d] (.ret (.i 0)))(ha:ASm A)(hs:(⟨A.vals,A.lines⟩:St).Sm)(hb:YJ p A=false)(hv:lK p ⟨A.vals,A.lines⟩=false):PCall Tryz.prog 13 [p.d,.sl 1 (A.params.map aC),.sl 1 (A.inp.map aC),.sl 1 (A.side.map aC),(⟨A.vals,A.lines⟩:St).d] (.ret (.tuple [.i 0,(⟨[],[]⟩:St).d,.i 180])):=by
 refine aj Tryz.func13 ?_
 repeat' ((try conv=>whnf)<;>first
  |((refine BrI.ff_of ?_ ?_);exact rfl)
  |exact Bool.noConfusion (hb.symm.trans h)
  |exact Bool.noConfusion ((congrArg (!·) hv).symm.trans h)
  |refine BrI.intro (λh=>?_) (λh=>?_)
  |((refine ah ?_ ?_ ?_);rotate_left;(first |exact hc |exact mG _ _ ha.par |exact gY _ _ ha.inp |exact gY _ _ ha.sid |exact CZ p ⟨A.vals,A.lines⟩ hs))
  |((refine aK ?_ ?_ (λhg=>?_) ?_);exact rfl)
  |((refine aY ?_ ?_);exact rfl;exact rfl)
  |refine eQ ?_
  |(refine cO ?_;conv=>whnf)
  |fail)
 all_goals rfl
theorem step_ok(p:Pr)(A:Fr)(hc:PCall Tryz.prog 16 [p.d] (.ret (.i 0)))(ha:ASm A)(hs:(⟨A.vals,A.lines⟩:St).Sm)(hb:YJ p A=false)(hv:lK p ⟨A.vals,A.lines⟩=true)(hK:sN p A):PCall Tryz.prog 13 [p.d,.sl 1 (A.params.map aC),.sl 1 (A.inp.map aC),.sl 1 (A.side.map aC),(⟨A.vals,A.lines⟩:St).d] (.ret (.tuple [.i (stepM p A).1,(stepM p A).2.d,.i 0])):=by
 refine tZ tok hmix ⟨[9,17,22],[]⟩ Tryz.func13 rfl (by kernel_rfl) (by kernel_rfl) (by kernel_rfl) λhf=>?_
 have hl_b:p.stmts.length<=9223372036854775807:=by have:=hK.len;omega
 clear hf
 repeat' ((try conv=>whnf)<;>first
  |((refine BrI.ff_of ?_ ?_);exact rfl)
  |exact Bool.noConfusion (hb.symm.trans h)
  |exact Bool.noConfusion ((congrArg (!·) hv).symm.trans h)
  |refine⟨(),hK.knd x0 (bU hd0),?_⟩
  |refine⟨(),ze7 hK hI0 hd0 hd2,?_⟩
  |obtain⟨hp0,hp1⟩:=hpq
  |(rcases hkq with hk |hk |hk |hk)
  |exact trivial
  |exact ai hd2 ‹_›
  |exact ai hd0 ‹_›
  |refine bu hd2 ?_
  |refine bu hd0 ?_
  |refine aP hd2 ?_
  |refine aP hd0 ?_
  |refine BrI.intro (λh=>?_) (λh=>?_)
  |((refine au.mk 9 ?_);refine⟨⟨Nat,λb=>[(13,.ptr 13 0)],λb=>[(13,.cells [.ptr 67 0]),(67,.cells (FA p ((A.at (ss0 A))) 800100 800200 900010)),(800100,.arr 1 1 ((ss0 A).vals.map aC)),(800200,.arr 1 1 (A.lines.map lC)),(900010,.tok 1 ((ss0 A).lets.map aC).length),(999001,.adr 13 b)],[5,10,11],λ_=>True,λ_=>0⟩,?_,λb _=>?_⟩)
  |((refine z2q 999001 ?_ ?_);exact rfl)
  |refine I4.adr 999001 13 rfl (λb=>?_)
  |rw[zk2 (z:=(Tryz.T.at 79).size) hk]
  |rw[zfa hk]
  |rw[zfb hk]
  |rw[zfc hk]
  |rw[zfd hk]
  |exact zb8
  |exact z2r
  |refine zb9 (by simp) ?_
  |refine⟨b,trivial,?_⟩
  |((refine au.mk 17 ?_);refine⟨⟨Unit,λ_=>[(18,.ptr 18 0),(19,.data (.i (nD p A q x0)))],λ_=>[(18,.cells (x0.cs.map .data)),(10,.cells [.data (.i q.out)]),(13,.cells [.ptr 67 0]),(67,.cells (FA p ((A.at (⟨q.lets++[(nD p A q x0)],q.vals,q.out,q.pu⟩:Ss))) 800100 800200 900010)),(800100,.arr 1 1 ((⟨q.lets++[(nD p A q x0)],q.vals,q.out,q.pu⟩:Ss).vals.map aC)),(800200,.arr 1 1 (A.lines.map lC)),(900010,.tok 1 ((⟨q.lets++[(nD p A q x0)],q.vals,q.out,q.pu⟩:Ss).lets.map aC).length),(999001,.adr 13 b),(14,.cells [.gs 900020 1 ((⟨q.lets++[(nD p A q x0)],q.vals,q.out,q.pu⟩:Ss).pu.map (pC 39 b))]),(900020,.tok 1 ((⟨q.lets++[(nD p A q x0)],q.vals,q.out,q.pu⟩:Ss).pu.map (pC 39 b)).length)],[10,11,13,14,15,16,74,75,76],λ_=>KQ x0,λ_=>0⟩,?_,λ_ hkq=>?_⟩)
  |((refine au.mk 22 ?_);refine⟨⟨Unit,λ_=>[(21,.fn 39 [.ptr 13 0,.data (.ptr x2.1.cs),.data (.ptr [.i x2.2])])],λ_=>[(10,.cells [.data (.i q.out)]),(13,.cells [.ptr 67 0]),(67,.cells (FA p ((⟨A.params,A.inp,A.side,q.vals,ls,q.lets⟩:Fr)) 800100 800200 900010)),(800100,.arr 1 1 (q.vals.map aC)),(800200,.arr 1 1 (ls.map lC)),(900010,.tok 1 (q.lets.map aC).length),(999001,.adr 13 b),(14,.cells [.gs 900020 1 (q.pu.map (pC 39 b))]),(900020,.tok 1 (q.pu.map (pC 39 b)).length)],[10,11,13,104,105,106],λ_=>0<=x2.1.index/\x2.1.index<A.lines.length,λ_=>0⟩,?_,λ_ hpq=>?_⟩)
  |((refine au.mk 0 ?_);refine⟨aH (p.stmts) 76 (λ(q:(Ss))=>[]) (λ(q:(Ss))=>[(10,.cells [.data (.i q.out)]),(13,.cells [.ptr 67 0]),(67,.cells (FA p ((A.at q)) 800100 800200 900010)),(800100,.arr 1 1 (q.vals.map aC)),(800200,.arr 1 1 (A.lines.map lC)),(900010,.tok 1 (q.lets.map aC).length),(999001,.adr 13 b),(14,.cells [.gs 900020 1 (q.pu.map (pC 39 b))]),(900020,.tok 1 (q.pu.map (pC 39 b)).length)]) [10,11,13,14,15,16,74,75] (λi0 r0 q=>q=qH p A i0),?_⟩;refine af (ss0 A) ?_ ?_ (λi0 (q:(Ss)) hd0 hI0=>?_) (λi0 x0 r0 (q:(Ss)) hd0 hl0 hI0=>?_))
  |refine ag hd0 (pJ p A q x0) ?_ ?_
  |((refine au.mk 2 ?_);have hl_p:q.pu.length<=9223372036854775807:=zi0 hK hI0;refine⟨aH (q.pu) 106 (λ(ls:(List (List Int)))=>[]) (λ(ls:(List (List Int)))=>[(10,.cells [.data (.i q.out)]),(13,.cells [.ptr 67 0]),(67,.cells (FA p ((⟨A.params,A.inp,A.side,q.vals,ls,q.lets⟩:Fr)) 800100 800200 900010)),(800100,.arr 1 1 (q.vals.map aC)),(800200,.arr 1 1 (ls.map lC)),(900010,.tok 1 (q.lets.map aC).length),(999001,.adr 13 b),(14,.cells [.gs 900020 1 (q.pu.map (pC 39 b))]),(900020,.tok 1 (q.pu.map (pC 39 b)).length)]) [10,11,13,104,105] (λi2 r2 ls=>q.pu.foldl ny A.lines=r2.foldl ny ls/\ze5 A ls),?_⟩;refine af (A.lines) ?_ ?_ (λi2 (ls:(List (List Int))) hd2 hI2=>?_) (λi2 x2 r2 (ls:(List (List Int))) hd2 hl2 hI2=>?_))
  |refine ag hd2 (ny ls x2) ?_ ?_
  |((refine ah ?_ ?_ ?_);rotate_left;(first |exact TW |exact hc |exact mG _ _ ha.par |exact gY _ _ ha.inp |exact gY _ _ ha.sid |exact CZ p ⟨A.vals,A.lines⟩ hs |exact z2k x0 (nD p A q x0)))
  |((refine dE ?_ ?_);exact rfl)
  |((refine dU ?_ ?_ ?_);rotate_left;(exact Yu p A q (Int.toNat_natCast _) (Int.toNat_natCast _) hK hd0 hI0))
  |((refine fM [(1000000,800100)] (Om A.vals hs.vals) ?_ ?_ ?_ ?_);rotate_left 0;exact rfl;exact trivial;exact rfl)
  |((refine fM [(1000000,800200)] (KT A.lines hs.lines) ?_ ?_ ?_ ?_);rotate_left 0;exact rfl;exact trivial;exact rfl)
  |((refine lent_step' [(1000000,13),(1000001,67),(1000002,800100),(1000003,800200),(1000004,900010)] (z2m p (A.at (⟨q.lets++[(nD p A q x0)],q.vals,q.out,q.pu⟩:Ss)) x0 (nD p A q x0) (hK.set x0 (bU hd0) hk).1 (zhe hI0 (hK.set x0 (bU hd0) hk).2)) ?_ ?_ ?_ ?_);rotate_left 0;exact rfl;(exact⟨rfl,rfl,rfl,rfl,rfl,trivial⟩);exact rfl)
  |((refine lent_step' [(1000000,14),(1000001,13),(1000002,900020),(1000003,999001),(1000004,67),(1000005,800100),(1000006,800200),(1000007,900010)] (z2o p (A.at (⟨q.lets++[(nD p A q x0)],q.vals,q.out,q.pu⟩:Ss)) x0 (nD p A q x0) b q.pu (zhd hK hI0 hl0)) ?_ ?_ ?_ ?_);rotate_left 0;exact rfl;(exact⟨rfl,rfl,rfl,rfl,rfl,rfl,rfl,rfl,trivial⟩);exact rfl)
  |((refine lent_step' [(1000000,10)] (z2l x0 (nD p A q x0) q.out) ?_ ?_ ?_ ?_);rotate_left 0;exact rfl;(exact⟨rfl,trivial⟩);exact rfl)
  |((refine lent_step' [(1000000,13),(1000001,67),(1000002,800100),(1000003,800200),(1000004,900010)] (z2p p (⟨A.params,A.inp,A.side,q.vals,ls,q.lets⟩:Fr) x2.1 x2.2 hp0 (ziz hI2.2 hp1) (z4x hI2.2 hp0 hp1)) ?_ ?_ ?_ ?_);rotate_left 0;exact rfl;(exact⟨rfl,rfl,rfl,rfl,rfl,trivial⟩);exact rfl)
  |refine aI.l _ ?_
  |((refine bY ?_ ?_ ?_ ?_ ?_ ?_)<;>exact rfl)
  |((refine di ?_ ?_ ?_ ?_)<;>exact rfl)
  |((refine aB ?_ ?_ ?_ ?_ ?_);exact rfl;exact rfl;rotate_left;(first |exact ay hd2 |exact ay hd0))
  |refine oK ?_
  |refine wP ?_ ?_ ?_
  |((refine aK ?_ ?_ (λhg=>?_) ?_);exact rfl)
  |((refine aY ?_ ?_);exact rfl;exact rfl)
  |refine eQ ?_
  |(refine cO ?_;conv=>whnf)
  |refine And.intro ?_ ?_
  |((refine mZ ?_ ?_ ?_);exact rfl;exact rfl;(first |exact bC |exact rfl |skip))
  |((refine gy ?_ ?_);exact rfl;(first |exact bC |skip))
  |exact @rfl AV _
  |exact @rfl Block _
  |exact dQ rfl
  |fail)
 all_goals first
  |exact ze4 p A
  |exact hK.lne
  |exact hI2.1
  |exact(Xt hI2.2 hp0 hp1).1
  |exact(Xt hI2.2 hp0 hp1).2
  |exact z2s hI0 hd0 hI2.1
  |exact zca hI0 hd0 hk
  |exact zcb hI0 hd0 hk
  |exact zcc hI0 hd0 hk
  |exact zcd hI0 hd0 hk
  |(rw[List.length_map];show q.lets.length<=_;rw[hI0,Xr (by omega)];have:=hK.len;omega)
  |omega
  |(simp;done)
  |rfl
theorem FB(p:Pr)(g:iE p):PCall Tryz.prog 11 [p.d] (.ret (.tuple [(JO p).1.d,.i (JO p).2])):=by
 have hc:=Fz p g
 unfold JO
 cases h:(jy p != 0)with
 |true=>exact Ua p _ hc h
 |false=>
  have h0:jy p=0:=by simpa using h
  rw[h0]at hc
  obtain⟨hB,-⟩:=Mn.chkZ h0
  obtain⟨h1,h2,h3⟩:=z0r hB.res
  exact Yr p hc h1 h2 h3
theorem wL(p:Pr)(A:Fr)(g:iE p)(ha:ASm A)(hs:(⟨A.vals,A.lines⟩:Mn.St).Sm) :
  PCall Tryz.prog 13 [p.d,.sl 1 (A.params.map aC),.sl 1 (A.inp.map aC),.sl 1 (A.side.map aC),(⟨A.vals,A.lines⟩:Mn.St).d] (.ret (.tuple [.i (yY p A).1,(yY p A).2.1.d,.i (yY p A).2.2])):=by
 have hc:=Fz p g
 unfold yY
 cases h:(jy p != 0)with
 |true=>exact step_bad p A _ hc h
 |false=>
  have h0:jy p=0:=by simpa using h
  rw[h0]at hc
  rw[if_neg (by decide)]
  cases hb:YJ p A with
  |true=>exact z2t p A hc ha hb
  |false=>
   rw[if_neg (by decide)]
   cases hv:lK p ⟨A.vals,A.lines⟩with
   |false=>exact Ub p A hc ha hs hb hv
   |true=>exact step_ok p A hc ha hs hb hv (EX h0 hb hv)
end Go.Proofs.YtgehpmgkaeohaaaGreatDoor
