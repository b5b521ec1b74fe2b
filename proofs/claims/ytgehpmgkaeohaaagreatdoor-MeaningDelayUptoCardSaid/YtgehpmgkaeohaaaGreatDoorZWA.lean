/- A part of the proof. -/
import Derived.Test.YtgehpmgkaeohaaaGreatDoorZMA
import Derived.Test.YtgehpmgkaeohaaaGreatDoorZYC
set_option linter.all false
set_option maxHeartbeats 8000000
namespace Go.Proofs.YtgehpmgkaeohaaaGreatDoor
open Go.Fw Go.Fw.Ref15 Go.Fw.Rg Go.Fw.Tl Go.Fw.Mn
set_option maxRecDepth 10000
variable [ae]
theorem uq(n lo hi:Int)  : PCall Tryz.prog 29 [.i n,.i lo,.i hi] (.ret (.i (gm n lo hi))):=by
 refine ak Tryz.func29 ?_
 repeat' ((try conv=>whnf)<;>first
  |(refine dm ?_;conv=>whnf)
  |fail)
 all_goals rfl
theorem NF(a n:Int)(ha:inW a=true)(hn:1<=n):PCall Tryz.prog 80 [.i a,.i n] (.ret (.i (ji a n))):=by
 refine ak Tryz.func80 ?_
 repeat' ((try conv=>whnf)<;>first
  |refine BrI.intro (λh=>?_) (λh=>?_)
  |(refine dm ?_;conv=>whnf)
  |refine And.intro ?_ ?_
  |fail)
 all_goals first
  |omega
  |(refine congrArg D.i ?_;have e:=I5 hn ha;rw[if_pos (of_decide_eq_true h)]at e;rw[e,bC (n:=ji a n+1-1) (by have:=dI.1 (Bc hn ha);simp only[ji];omega) (by have:=dI.1 (Bc hn ha);simp only[ji];omega)];omega)
  |(refine congrArg D.i ?_;have e:=I5 hn ha;rw[if_neg (of_decide_eq_false h)]at e;exact e)
theorem J8(a:Int)(l:List Int)(h:l.length<=1073741824):PCall Tryz.prog 29 [.i a,.i 0,.i (IntKind.i64.wrap (((l.map aC).length:Int)-1))] (.ret (.i (gm a 0 (l.length-1)))):=by
 rw[Zu h];exact uq a 0 _
theorem ev1(F:Fr)(p:Pr)(x:Ex)(vs:List Int)  : PCall Tryz.prog 63 [.ptr (F.cs p),x.d,.sl 1 (vs.map aC)] (.ret (.i x.n)):=by
 refine ak Tryz.func63 ?_
 repeat' ((try conv=>whnf)<;>first
  |(refine dm ?_;conv=>whnf)
  |fail)
theorem ev3(F:Fr)(p:Pr)(x:Ex)(vs:List Int)(h0:0<=x.index)(h1:x.index<F.params.length):PCall Tryz.prog 64 [.ptr (F.cs p),x.d,.sl 1 (vs.map aC)] (.ret (.i (at0 F.params x.index))):=by
 refine ak Tryz.func64 ?_
 repeat' ((try conv=>whnf)<;>first
  |((refine eX (f:=aC) (0:Int) ?_ ?_ h0 h1 ?_);rfl;rfl)
  |refine eU ?_
  |(refine dm ?_;conv=>whnf)
  |fail)
 all_goals rfl
theorem ev4(F:Fr)(p:Pr)(x:Ex)(vs:List Int)(h0:0<=x.index)(h1:x.index<F.vals.length):PCall Tryz.prog 65 [.ptr (F.cs p),x.d,.sl 1 (vs.map aC)] (.ret (.i (at0 F.vals x.index))):=by
 refine ak Tryz.func65 ?_
 repeat' ((try conv=>whnf)<;>first
  |((refine eX (f:=aC) (0:Int) ?_ ?_ h0 h1 ?_);rfl;rfl)
  |refine eU ?_
  |(refine dm ?_;conv=>whnf)
  |fail)
 all_goals rfl
theorem ev5(F:Fr)(p:Pr)(x:Ex)(vs:List Int)(h0:0<=x.index)(h1:x.index<F.lets.length):PCall Tryz.prog 66 [.ptr (F.cs p),x.d,.sl 1 (vs.map aC)] (.ret (.i (at0 F.lets x.index))):=by
 refine ak Tryz.func66 ?_
 repeat' ((try conv=>whnf)<;>first
  |((refine eX (f:=aC) (0:Int) ?_ ?_ h0 h1 ?_);rfl;rfl)
  |refine eU ?_
  |(refine dm ?_;conv=>whnf)
  |fail)
 all_goals rfl
theorem ev6(F:Fr)(p:Pr)(x:Ex)(a:Int)(h0:0<=a)(h1:a<F.inp.length):PCall Tryz.prog 67 [.ptr (F.cs p),x.d,.sl 1 [[.i a]]] (.ret (.i (at0 F.inp a))):=by
 refine ak Tryz.func67 ?_
 repeat' ((try conv=>whnf)<;>first
  |refine yG ?_
  |((refine eX (f:=aC) (0:Int) ?_ ?_ h0 h1 ?_);rfl;rfl)
  |refine eU ?_
  |(refine dm ?_;conv=>whnf)
  |fail)
 all_goals rfl
theorem ev7(F:Fr)(p:Pr)(x:Ex)(a:Int)(h0:0<=a)(h1:a<F.side.length):PCall Tryz.prog 68 [.ptr (F.cs p),x.d,.sl 1 [[.i a]]] (.ret (.i (at0 F.side a))):=by
 refine ak Tryz.func68 ?_
 repeat' ((try conv=>whnf)<;>first
  |refine yG ?_
  |((refine eX (f:=aC) (0:Int) ?_ ?_ h0 h1 ?_);rfl;rfl)
  |refine eU ?_
  |(refine dm ?_;conv=>whnf)
  |fail)
 all_goals rfl
theorem ev8(F:Fr)(p:Pr)(x:Ex)(a:Int)(h0:0<=x.index)(h1:x.index<F.lines.length)(h2:0<(Dc F x.index).length/\(Dc F x.index).length<=1073741824):PCall Tryz.prog 69 [.ptr (F.cs p),x.d,.sl 1 [[.i a]]] (.ret (.i (at0 (Dc F x.index) (gm a 0 ((Dc F x.index).length-1))))):=by
 refine ak Tryz.func69 ?_
 repeat' ((try conv=>whnf)<;>first
  |((refine eX (f:=lC) ([]:List Int) ?_ ?_ h0 h1 ?_);rfl;rfl)
  |((refine eX (f:=aC) (0:Int) ?_ ?_ (zk h2.1).1 (zk h2.1).2 ?_);rfl;rfl)
  |refine yG ?_
  |((refine ah ?_ ?_ ?_);rotate_left;(exact(J8 a (F.lines.getD x.index.toNat []) h2.2)))
  |refine eU ?_
  |(refine dm ?_;conv=>whnf)
  |fail)
 all_goals (unfold at0;rfl)
theorem ev9(F:Fr)(p:Pr)(x:Ex)(a:Int)(h0:0<=x.index)(h1:x.index<p.tables.length)(h2:0<(aI p x.index).length/\(aI p x.index).length<=1073741824):PCall Tryz.prog 70 [.ptr (F.cs p),x.d,.sl 1 [[.i a]]] (.ret (.i (at0 (aI p x.index) (gm a 0 ((aI p x.index).length-1))))):=by
 refine ak Tryz.func70 ?_
 repeat' ((try conv=>whnf)<;>first
  |((refine eX (f:=Tb.cs) Rg.Tb.none ?_ ?_ h0 h1 ?_);rfl;rfl)
  |((refine eX (f:=aC) (0:Int) ?_ ?_ (zk h2.1).1 (zk h2.1).2 ?_);rfl;rfl)
  |refine yG ?_
  |((refine ah ?_ ?_ ?_);rotate_left;(exact(J8 a (p.tables.getD x.index.toNat Tb.none).values h2.2)))
  |refine eU ?_
  |(refine dm ?_;conv=>whnf)
  |fail)
 all_goals (unfold at0;rfl)
theorem ziv(F:Fr)(p:Pr)(x:Ex)(a:Int)  : PCall Tryz.prog 71 [.ptr (F.cs p),x.d,.sl 1 [[.i a]]] (.ret (.i (gm a (-2147483648) 2147483647))):=by
 refine ak Tryz.func71 ?_
 repeat' ((try conv=>whnf)<;>first
  |refine yG ?_
  |((refine ah ?_ ?_ ?_);rotate_left;exact uq a _ _)
  |(refine dm ?_;conv=>whnf)
  |fail)
theorem ziw(F:Fr)(p:Pr)(x:Ex)(a b:Int)  : PCall Tryz.prog 72 [.ptr (F.cs p),x.d,.sl 1 [[.i a],[.i b]]] (.ret (.i (mm2 false a b))):=by
 refine ak Tryz.func72 ?_
 repeat' ((try conv=>whnf)<;>first
  |refine yG ?_
  |refine eU ?_
  |(refine dm ?_;conv=>whnf)
  |fail)
theorem zix(F:Fr)(p:Pr)(x:Ex)(a b:Int)  : PCall Tryz.prog 73 [.ptr (F.cs p),x.d,.sl 1 [[.i a],[.i b]]] (.ret (.i (mm2 true a b))):=by
 refine ak Tryz.func73 ?_
 repeat' ((try conv=>whnf)<;>first
  |refine yG ?_
  |refine eU ?_
  |(refine dm ?_;conv=>whnf)
  |fail)
theorem ziy(F:Fr)(p:Pr)(x:Ex)(a:Int)(ha:inW a=true):PCall Tryz.prog 74 [.ptr (F.cs p),x.d,.sl 1 [[.i a]]] (.ret (.i (mm2 true a (-a)))):=by
 refine ak Tryz.func74 ?_
 repeat' ((try conv=>whnf)<;>first
  |refine yG ?_
  |refine eU ?_
  |(refine dm ?_;conv=>whnf)
  |fail)
 all_goals (rw[fZ ha];done)
theorem ziz(F:Fr)(p:Pr)(x:Ex)(a:Int)(ha:inW a=true):PCall Tryz.prog 75 [.ptr (F.cs p),x.d,.sl 1 [[.i a]]] (.ret (.i (-a))):=by
 refine ak Tryz.func75 ?_
 repeat' ((try conv=>whnf)<;>first
  |refine yG ?_
  |(refine dm ?_;conv=>whnf)
  |fail)
 all_goals (rw[fZ ha];done)
theorem zi0(F:Fr)(p:Pr)(x:Ex)(a b:Int)(hw:IntKind.i64.wrap (a+b)=a+b):PCall Tryz.prog 76 [.ptr (F.cs p),x.d,.sl 1 [[.i a],[.i b]]] (.ret (.i (a+b))):=by
 refine ak Tryz.func76 ?_
 repeat' ((try conv=>whnf)<;>first
  |refine yG ?_
  |refine eU ?_
  |(refine dm ?_;conv=>whnf)
  |fail)
 all_goals exact congrArg D.i hw
theorem zi1(F:Fr)(p:Pr)(x:Ex)(a b:Int)(hw:IntKind.i64.wrap (a-b)=a-b):PCall Tryz.prog 77 [.ptr (F.cs p),x.d,.sl 1 [[.i a],[.i b]]] (.ret (.i (a-b))):=by
 refine ak Tryz.func77 ?_
 repeat' ((try conv=>whnf)<;>first
  |refine yG ?_
  |refine eU ?_
  |(refine dm ?_;conv=>whnf)
  |fail)
 all_goals exact congrArg D.i hw
theorem zi2(F:Fr)(p:Pr)(x:Ex)(a b:Int)(hw:IntKind.i64.wrap (a * b)=a * b):PCall Tryz.prog 78 [.ptr (F.cs p),x.d,.sl 1 [[.i a],[.i b]]] (.ret (.i (a * b))):=by
 refine ak Tryz.func78 ?_
 repeat' ((try conv=>whnf)<;>first
  |refine yG ?_
  |refine eU ?_
  |(refine dm ?_;conv=>whnf)
  |fail)
 all_goals exact congrArg D.i hw
theorem zi3(F:Fr)(p:Pr)(x:Ex)(a:Int)(ha:inW a=true)(hn:1<=x.n):PCall Tryz.prog 79 [.ptr (F.cs p),x.d,.sl 1 [[.i a]]] (.ret (.i (ji a x.n))):=by
 refine ak Tryz.func79 ?_
 repeat' ((try conv=>whnf)<;>first
  |refine yG ?_
  |((refine ah ?_ ?_ ?_);rotate_left;(exact NF _ _ (by assumption) (by assumption)))
  |refine eU ?_
  |(refine dm ?_;conv=>whnf)
  |fail)
end Go.Proofs.YtgehpmgkaeohaaaGreatDoor
namespace Go.Proofs.YtgehpmgkaeohaaaGreatDoor
open Go.Fw Go.Fw.Ref15 Go.Fw.Rg Go.Fw.Tl Go.Fw.Mn
set_option maxRecDepth 10000
variable [ae] {k i m : Int} {n : Nat} {p : Pr}
abbrev evD:List D:=[.val .nilFunc,.fn 63 [],.val .nilFunc,.fn 64 [],.fn 65 [],.fn 66 [],.fn 67 [],.fn 68 [],.fn 69 [],.fn 70 [],.fn 71 [],.fn 72 [],.fn 73 [],.fn 74 [],.fn 75 [],.fn 76 [],.fn 77 [],.fn 78 [],.fn 79 [],.val .nilFunc]
def evF(k:Int):Nat:=match evD.getD k.toNat (.val .nilFunc)with | .fn f _=>f |_=>0
theorem Tf   : PCall Tryz.prog 41 [] (.ret (.agg evD)):=by
 refine ak Tryz.func41 ?_
 repeat' ((try conv=>whnf)<;>first
  |(refine dm ?_;conv=>whnf)
  |fail)
theorem zfc(hw:tX p n k i m=true)(h19:(k==19)=false):0<=k/\evD[k.toNat]? = some (.fn (evF k) []):=by
 rcases kinds hw with rfl |rfl |rfl |rfl |rfl |rfl |rfl |rfl |rfl |rfl |rfl |rfl |rfl |rfl |rfl |rfl |rfl |rfl
 all_goals first
  |exact⟨by decide,rfl⟩
  |exact Bool.noConfusion h19
theorem zae(hw:tX p n k i m=true)(h19:(k==19)=false){z:Nat}(hz:z=1):List.drop (k.toNat * z) evD = .fn (evF k) []::List.drop (k.toNat+1) evD:=by
 subst hz
 obtain⟨h0,h1⟩:=zfc hw h19
 rw[Nat.mul_one]
 obtain⟨hl,e⟩:=List.getElem?_eq_some_iff.1 h1
 rw[List.drop_eq_getElem_cons hl,e]
theorem zgu(hw:tX p n k i m=true):k<((20:Nat):Int):=by
 rcases kinds hw with rfl |rfl |rfl |rfl |rfl |rfl |rfl |rfl |rfl |rfl |rfl |rfl |rfl |rfl |rfl |rfl |rfl |rfl<;>decide
theorem zgv(hw:tX p n k i m=true):Nat.beq (evF k) xR=false:=by
 rcases kinds hw with rfl |rfl |rfl |rfl |rfl |rfl |rfl |rfl |rfl |rfl |rfl |rfl |rfl |rfl |rfl |rfl |rfl |rfl<;>rfl
theorem zaf(F:Fr)(p:Pr)(found:List Sp)(x:Ex)(hF:zc3 p found F)(h:XOk p found F x)(h19:(x.kind==19)=false) :
  PCall Tryz.prog (evF x.kind) [.ptr (F.cs p),x.d,.sl 1 ((valXs p (lfM F) x.l).map aC)] (.ret (.i (nM p (lfM F) x))):=by
 obtain⟨h1,h2,_⟩:=bZ h.wf
 have hW:=h.inW hF
 have hin:∀y∈x.l,inW (nM p (lfM F) y)=true:=λy hy=>(h.part hy).inW hF
 have ha:=h.ahd x (z7n x)
 rw[MR]at hW ⊢
 have hs:(valXs p (lfM F) x.l).length=x.l.length:=z7o x.l
 have hi:∀v∈valXs p (lfM F) x.l,inW v=true:=by
  intro v hv;rw[BB]at hv
  obtain⟨y,hy,rfl⟩:=List.mem_map.1 hv
  exact hin y hy
 have hl1:x.l.length=1->∃z,x.l = [z]:=λq=>by
  match x.l,q with
  | [z],_=>exact⟨z,rfl⟩
 have ha1:looks x=true->∀a,valXs p (lfM F) x.l = [a]->0<=a/\a<F.inp.length/\a<F.side.length:=by
  intro hk a e
  obtain⟨z,hz⟩:=hl1 (by rw[<-hs,e];rfl)
  have:=ha hk z hz
  rw[hz]at e
  cases e
  exact this
 generalize valXs p (lfM F) x.l=vs at *
 rw[<-hs]at h1
 unfold looks at ha1
 generalize hk:x.kind=k at *
 have nil:(vs.length:Int)=0->vs = []:=λh=>List.length_eq_zero_iff.1 (by omega)
 rcases kinds h2 with rfl |rfl |rfl |rfl |rfl |rfl |rfl |rfl |rfl |rfl |rfl |rfl |rfl |rfl |rfl |rfl |rfl |rfl
 ·exact ev1 F p x vs
 ·have q:=z18 h2 rfl
  exact ev3 F p x vs q.1 (by rw[hF.par];exact q.2)
 ·have q:=VT h2 rfl
  exact ev4 F p x vs q.1 (by rw[hF.val];exact q.2)
 ·have q:=O7 h2 rfl
  exact ev5 F p x vs q.1 (by rw[hF.let_];exact q.2)
 ·obtain⟨a,rfl⟩:=yj (sl:=vs) (by have h1:(vs.length:Int)=1:=h1;omega)
  have q:=ha1 rfl a rfl
  exact ev6 F p x a q.1 q.2.1
 ·obtain⟨a,rfl⟩:=yj (sl:=vs) (by have h1:(vs.length:Int)=1:=h1;omega)
  have q:=ha1 rfl a rfl
  exact ev7 F p x a q.1 q.2.2
 ·obtain⟨a,rfl⟩:=yj (sl:=vs) (by have h1:(vs.length:Int)=1:=h1;omega)
  have q:=z19 h2 rfl
  have q2:x.index<F.lines.length:=by rw[hF.lin];exact q.2
  exact ev8 F p x a q.1 q2 (hF.lne _ (getD_mem' ([]:List Int) q.1 q2))
 ·obtain⟨a,rfl⟩:=yj (sl:=vs) (by have h1:(vs.length:Int)=1:=h1;omega)
  have q:(decide (0<=x.index)&&decide (x.index<p.tables.length) && !(aI p x.index==[]))=true:=h2
  simp only[Bool.and_eq_true,decide_eq_true_eq]at q
  exact ev9 F p x a q.1.1 q.1.2 ⟨VU h2 rfl,hF.tab _ (getD_mem' Rg.Tb.none q.1.1 q.1.2)⟩
 ·obtain⟨a,rfl⟩:=yj (sl:=vs) (by have h1:(vs.length:Int)=1:=h1;omega)
  exact ziv F p x a
 ·obtain⟨a,b,rfl⟩:=Js (sl:=vs) (by have h1:(vs.length:Int)=2:=h1;omega)
  exact ziw F p x a b
 ·obtain⟨a,b,rfl⟩:=Js (sl:=vs) (by have h1:(vs.length:Int)=2:=h1;omega)
  exact zix F p x a b
 ·obtain⟨a,rfl⟩:=yj (sl:=vs) (by have h1:(vs.length:Int)=1:=h1;omega)
  exact ziy F p x a (hi a (by simp))
 ·obtain⟨a,rfl⟩:=yj (sl:=vs) (by have h1:(vs.length:Int)=1:=h1;omega)
  exact ziz F p x a (hi a (by simp))
 ·obtain⟨a,b,rfl⟩:=Js (sl:=vs) (by have h1:(vs.length:Int)=2:=h1;omega)
  exact zi0 F p x a b (wrap_in hW)
 ·obtain⟨a,b,rfl⟩:=Js (sl:=vs) (by have h1:(vs.length:Int)=2:=h1;omega)
  exact zi1 F p x a b (wrap_in hW)
 ·obtain⟨a,b,rfl⟩:=Js (sl:=vs) (by have h1:(vs.length:Int)=2:=h1;omega)
  exact zi2 F p x a b (wrap_in hW)
 ·obtain⟨a,rfl⟩:=yj (sl:=vs) (by have h1:(vs.length:Int)=1:=h1;omega)
  have q:(decide (1<=x.n)&&decide (x.n<=2147483648))=true:=h2
  simp only[Bool.and_eq_true,decide_eq_true_eq]at q
  exact zi3 F p x a (hi a (by simp)) q.1
 ·exact Bool.noConfusion h19
theorem NG(x:Ex)(F:Fr)(p:Pr)(found:List Sp)(hF:zc3 p found F)(hx:Ref15.nodes x<=1073741824)(h0:XOk p found F x):PCall Tryz.prog 42 [.ptr (F.cs p),.ptr evD,x.d] (.ret (.i (nM p (lfM F) x))):=by
 revert x;refine Ex.ind λx ih hx h0=>?_
 refine dJ Tryz.func42 λhf=>?_
 have hN:=Ref15.nodes_eq x
 have hL:=Ref15.len_nodes x.l
 have hlen:x.l.length<=9223372036854775807:=by omega
 have g2:=(bZ h0.wf).2.1
 have ih2:∀y∈x.l,PCall Tryz.prog 42 [.ptr (F.cs p),.ptr evD,y.d] (.ret (.i (nM p (lfM F) y))):=λy hy=>ih y hy (by have:=qx hy;omega) (h0.part hy)
 clear hf
 repeat' ((try conv=>whnf)<;>first
  |(have hk:(x.kind==19)=true:=h;clear h;obtain⟨a,b,c,d,hl,hv⟩:=zc6 h0 hk;have hi:=zc7 hl)
  |((refine aH ?_ ?_ ?_ ?_ ?_);rfl;rfl;rotate_left;(first |exact hi.1 |exact hi.2.1 |exact hi.2.2.1 |exact hi.2.2.2))
  |rw[zae (z:=(Tryz.T.at 82).size) g2 (by assumption) (by kernel_rfl)]
  |refine Qd (zgv g2) ?_
  |exact trivial
  |exact ai hd0 ‹_›
  |refine kF hd0 ?_
  |refine iD hd0 ?_
  |refine BrI.intro (λh=>?_) (λh=>?_)
  |((refine ax.mk 0 ?_);refine⟨aJ (x.l) 45 (λ(sl:(List Int))=>[(7,.gs 900007 1 (sl.map aC))]) (λ(sl:(List Int))=>[(900007,.tok 1 (sl.map aC).length)]) [0,1,5,43,44] (λi0 r0 sl=>sl++valXs p (lfM F) r0=valXs p (lfM F) x.l/\sl.length=i0),?_⟩;refine af [] ?_ ?_ (λi0 (sl:(List Int)) hd0 hI0=>?_) (λi0 x0 r0 (sl:(List Int)) hd0 hl0 hI0=>?_))
  |refine ag hd0 (sl++[nM p (lfM F) x0]) ?_ ?_
  |((refine ah ?_ ?_ ?_);rotate_left;(first |exact ih2 a (by rw[hl];simp) |exact ih2 b (by rw[hl];simp) |exact ih2 c (by rw[hl];simp) |exact ih2 d (by rw[hl];simp) |exact ih2 _ (bK hd0) |(rw[Zv hI0.1];exact zaf F p found x hF h0 (by assumption))))
  |refine aF.l _ ?_
  |((refine bY ?_ ?_ ?_ ?_ ?_ ?_)<;>exact rfl)
  |((refine cO ?_ ?_ ?_ ?_)<;>exact rfl)
  |((refine aH ?_ ?_ ?_ ?_ ?_);rfl;rfl;rotate_left;exact fO hd0)
  |refine pF ?_
  |refine wz ?_ ?_ ?_
  |refine eU ?_
  |(refine dm ?_;conv=>whnf)
  |refine And.intro ?_ ?_
  |((refine mY ?_ ?_ ?_);rfl;rfl;(first |exact bz |skip))
  |((refine gu ?_ ?_);rfl;(first |exact bz |skip))
  |exact @rfl AV _
  |exact dP rfl
  |fail)
 all_goals first
  |rfl
  |exact congrArg D.i (zh6 hv h)
  |exact congrArg D.i (zh7 hv h)
  |exact(zfc g2 (by assumption)).1
  |exact zgu g2
  |exact WI hI0.1
  |(rw[List.length_append,hI0.2];rfl)
  |(rw[List.length_map];omega)
end Go.Proofs.YtgehpmgkaeohaaaGreatDoor
namespace Go.Proofs.YtgehpmgkaeohaaaGreatDoor
open Go.Fw Go.Fw.Ref15 Go.Fw.Rg Go.Fw.Tl Go.Fw.Mn
set_option maxRecDepth 10000
variable [ae]
theorem Ti(x:Int)  : PCall Tryz.prog 61 [.i x] (.ret (.b (Zw x))):=by
 refine ak Tryz.func61 ?_
 repeat' ((try conv=>whnf)<;>first
  |(refine dm ?_;conv=>whnf)
  |fail)
 all_goals rfl
theorem J9(l:List Int)(hl:l.length<=1073741824):PCall Tryz.prog 112 [.sl 1 (l.map aC),.fn 61 []] (.ret (.i (jA Zw l 0))):=by
 refine dJ Tryz.func112 λhf=>?_
 have hlen:l.length<=9223372036854775807:=by omega
 clear hf
 repeat' ((try conv=>whnf)<;>first
  |exact trivial
  |exact ai hd0 ‹_›
  |refine bM hd0 ?_
  |refine aU hd0 ?_
  |refine BrI.intro (λh=>?_) (λh=>?_)
  |((refine ax.mk 0 ?_);refine⟨aJ (l) 8 (λ(_:Unit)=>[]) (λ(_:Unit)=>[]) [0,1,7] (λi0 r0 _=>jA Zw l 0=jA Zw r0 i0),?_⟩;refine af () ?_ ?_ (λi0 (_:Unit) hd0 hI0=>?_) (λi0 x0 r0 (_:Unit) hd0 hl0 hI0=>?_))
  |refine ag hd0 () ?_ ?_
  |((refine ah ?_ ?_ ?_);rotate_left;exact Ti _)
  |((refine aH ?_ ?_ ?_ ?_ ?_);rfl;rfl;rotate_left;exact aG hd0)
  |(refine dm ?_;conv=>whnf)
  |refine And.intro ?_ ?_
  |exact @rfl AV _
  |fail)
 all_goals first
  |rfl
  |exact BC hI0 h
  |exact congrArg D.i (EG hI0 h).symm
  |exact congrArg D.i hI0.symm
theorem Cj(l:List Int)(hl:l.length<=1073741824):PCall Tryz.prog 60 [.sl 1 (l.map aC),.fn 61 []] (.ret (.b (l.any Zw))):=by
 refine ak Tryz.func60 ?_
 repeat' ((try conv=>whnf)<;>first
  |((refine ah ?_ ?_ ?_);rotate_left;exact J9 l hl)
  |(refine dm ?_;conv=>whnf)
  |fail)
 all_goals exact congrArg D.b (xy l 0 (Int.le_refl _))
theorem gZ(l:List Int)(n:Int)(hl:l.length<=1073741824):PCall Tryz.prog 32 [.sl 1 (l.map aC),.i n] (.ret (.b (iL l n))):=by
 refine ak Tryz.func32 ?_
 repeat' ((try conv=>whnf)<;>first
  |((refine ah ?_ ?_ ?_);rotate_left;exact Cj l hl)
  |((refine aK ?_ ?_ (λhg=>?_) ?_);rfl)
  |((refine bf ?_ ?_);rfl;rfl)
  |(refine dm ?_;conv=>whnf)
  |fail)
 all_goals (simp only[iL,List.length_map];done)
theorem mF(l:List Int)(bs:List Bd)(hl:l.length<=1073741824):PCall Tryz.prog 31 [.sl 1 (l.map aC),.sl 3 (bs.map Bd.cs)] (.ret (.b (iR l bs))):=by
 refine ak Tryz.func31 ?_
 repeat' ((try conv=>whnf)<;>first
  |exact trivial
  |exact ai hd0 ‹_›
  |((refine eP hd0 ?_ ?_);(assumption))
  |((refine dL hd0 ?_ ?_);(assumption))
  |refine BrI.intro (λh=>?_) (λh=>?_)
  |((refine ax.mk 0 ?_);have heq:l.length=bs.length:=lne (by simpa only [List.length_map]using h);have hz:(l.zip bs).length=(l.map aC).length:=(by rw[List.length_map];exact zc9 heq);have hlen:(l.zip bs).length<=9223372036854775807:=(by rw[hz,List.length_map];omega);refine⟨aJ (l.zip bs) 14 (λ(_:Unit)=>[]) (λ(_:Unit)=>[]) [1,12,13] (λi0 r0 _=>WJ (l.zip bs)=WJ r0),?_⟩;refine af () ?_ ?_ (λi0 (_:Unit) hd0 hI0=>?_) (λi0 x0 r0 (_:Unit) hd0 hl0 hI0=>?_))
  |refine ag hd0 () ?_ ?_
  |((refine aH ?_ ?_ ?_ ?_ ?_);rfl;rfl;rotate_left;(first |exact jH hd0 |exact jI hd0))
  |((refine aK ?_ ?_ (λhg=>?_) ?_);rfl)
  |((refine bf ?_ ?_);rfl;rfl)
  |(refine dm ?_;conv=>whnf)
  |refine And.intro ?_ ?_
  |exact @rfl AV _
  |fail)
 all_goals first
  |exact Zx hI0 h
  |exact congrArg D.b (zc8 (by simpa only [List.length_map]using h))
  |exact congrArg D.b ((z7q hI0 h).trans (WL heq).symm)
  |exact congrArg D.b (Eq.trans (WL heq) hI0).symm
theorem Tj(x:Ln)(v:Int)  : aj Tryz.prog 62 [.data (.i v),.ptr 1000000 0] [(1000000,.cells (x.cs.map .data))] (.ret (.data (.b (z2u x v)))) [(1000000,.cells (x.cs.map .data))]:=by
 refine aS Tryz.func62 ?_
 repeat' ((try conv=>whnf)<;>first
  |exact trivial
  |((refine bg ?_);refine fin_step' [] rfl ?_ ?_)
  |refine And.intro ?_ ?_
  |fail)
 all_goals rfl
theorem Ko(x:Ln)(l:List Int)(hl:l.length<=1073741824):aj Tryz.prog 112 [.data (.sl 1 (l.map aC)),.fn 62 [.ptr 1000000 0]] [(1000000,.cells (x.cs.map .data))] (.ret (.data (.i (jA (z2u x) l 0)))) [(1000000,.cells (x.cs.map .data))]:=by
 refine o7 Tryz.func112 λhf=>?_
 have hlen:l.length<=9223372036854775807:=by omega
 clear hf
 repeat' ((try conv=>whnf)<;>first
  |exact trivial
  |exact ai hd0 ‹_›
  |refine bM hd0 ?_
  |refine aU hd0 ?_
  |refine BrI.intro (λh=>?_) (λh=>?_)
  |((refine ax.mk 0 ?_);refine⟨aJ (l) 8 (λ(_:Unit)=>[]) (λ(_:Unit)=>[(1000000,.cells (x.cs.map .data))]) [0,1,7] (λi0 r0 _=>jA (z2u x) l 0=jA (z2u x) r0 i0),?_⟩;refine af () ?_ ?_ (λi0 (_:Unit) hd0 hI0=>?_) (λi0 x0 r0 (_:Unit) hd0 hl0 hI0=>?_))
  |refine ag hd0 () ?_ ?_
  |((refine lent_step' [] (Tj x x0) ?_ ?_ ?_ ?_);rotate_left 0;rfl;(exact⟨rfl,trivial⟩);rfl)
  |((refine bg ?_);refine fin_step' [] rfl ?_ ?_)
  |((refine aH ?_ ?_ ?_ ?_ ?_);rfl;rfl;rotate_left;exact aG hd0)
  |refine And.intro ?_ ?_
  |exact @rfl AV _
  |exact @rfl (List AV) _
  |fail)
 all_goals first
  |rfl
  |exact BC hI0 h
  |exact congrArg D.i (EG hI0 h).symm
  |exact congrArg D.i hI0.symm
theorem Cm(x:Ln)(l:List Int)(hl:l.length<=1073741824):aj Tryz.prog 60 [.data (.sl 1 (l.map aC)),.fn 62 [.ptr 1000000 0]] [(1000000,.cells (x.cs.map .data))] (.ret (.data (.b (l.any (z2u x))))) [(1000000,.cells (x.cs.map .data))]:=by
 refine aS Tryz.func60 ?_
 repeat' ((try conv=>whnf)<;>first
  |exact trivial
  |((refine lent_step' [] (Ko x l hl) ?_ ?_ ?_ ?_);rotate_left 0;rfl;(exact⟨rfl,trivial⟩);rfl)
  |((refine bg ?_);refine fin_step' [] rfl ?_ ?_)
  |refine And.intro ?_ ?_
  |fail)
 all_goals exact congrArg D.b (xy l 0 (Int.le_refl _))
theorem CB(p:Pr)(s:St)(hs:s.Sm):PCall Tryz.prog 33 [p.d,s.d] (.ret (.b (jS p s))):=by
 refine dJ Tryz.func33 λhf=>?_
 have g7:=hs.line;have g8:=hs.lines
 clear hf
 repeat' ((try conv=>whnf)<;>first
  |exact trivial
  |exact ai hd0 ‹_›
  |((refine eP hd0 ?_ ?_);(assumption))
  |((refine dL hd0 ?_ ?_);(assumption))
  |refine BrI.intro (λh=>?_) (λh=>?_)
  |((refine ax.mk 0 ?_);have heq:=z7s (p:=p) (s:=s) (by simpa only [List.length_map]using h);have hz:(s.lines.zip p.lines).length=(p.lines.map Ln.cs).length:=(by rw[List.length_map,zc9 heq.1];exact heq.1);have hlen:(s.lines.zip p.lines).length<=9223372036854775807:=(by rw[zc9 heq.1];omega);refine⟨aJ (s.lines.zip p.lines) 26 (λ(_:Unit)=>[]) (λ(_:Unit)=>[]) [3,24,25] (λi0 r0 _=>linZ (s.lines.zip p.lines)=linZ r0),?_⟩;refine af () ?_ ?_ (λi0 (_:Unit) hd0 hI0=>?_) (λi0 x0 r0 (_:Unit) hd0 hl0 hI0=>?_))
  |refine ag hd0 () ?_ ?_
  |((refine ah ?_ ?_ ?_);rotate_left;exact mF _ _ hs.vals)
  |((refine lent_step' [(1000000,6)] (Cm x0.2 x0.1 (g7 _ (List.of_mem_zip (bK hd0)).1)) ?_ ?_ ?_ ?_);rotate_left 0;rfl;(exact⟨rfl,trivial⟩);rfl)
  |((refine aH ?_ ?_ ?_ ?_ ?_);rfl;rfl;rotate_left;(first |exact jH hd0 |exact jI hd0))
  |refine pF ?_
  |((refine AQ ?_ ?_ (λhg=>?_) ?_);rfl)
  |((refine bf ?_ ?_);rfl;rfl)
  |refine eU ?_
  |(refine dm ?_;conv=>whnf)
  |refine And.intro ?_ ?_
  |exact @rfl AV _
  |fail)
 all_goals first
  |rfl
  |exact Zy hI0 (by simpa only [z7p,List.length_map]using h)
  |exact congrArg D.b (zda (by simpa only [List.length_map]using h))
  |exact congrArg D.b ((z7r hI0 (by simpa only [z7p,List.length_map]using h)).trans heq.2.symm)
  |exact congrArg D.b (Eq.trans heq.2 hI0).symm
theorem NH(l:List Int)(hl:l.length<=1073741824):aj Tryz.prog 34 [.data (.sl 1 (l.map aC))] [] (.ret (.own 1000000 1 1 0 l.length)) [(1000000,.arr 1 1 (l.map aC))]:=by
 refine aS Tryz.func34 ?_
 repeat' ((try conv=>whnf)<;>first
  |refine aF.r 5 ?_
  |(obtain rfl:l = []:=(List.length_eq_zero_iff.1 (by simpa using hz));clear hz;refine PK [(2,.own 5 1 1 0 0)] [(5,.arr 1 1 [])] ?_ ?_)
  |exact trivial
  |refine BrI.tt ?_
  |refine BrI.ff ?_
  |refine XV.mk (λhz=>?_) ?_
  |((refine yf ?_ ?_ ?_ ?_ ?_ ?_ ?_ ?_);rfl;rfl;rfl;exact dP rfl;rfl;exact Nat.zero_le _;(rw[List.length_map];exact hl))
  |refine fin_step' [(1000000,5)] rfl ?_ ?_
  |exact WM rfl ((Nat.zero_add _).trans (List.length_map _))
  |exact PL rfl
  |((refine bg ?_);refine fin_step' [(1000000,5)] rfl ?_ ?_)
  |((refine cO ?_ ?_ ?_ ?_)<;>exact rfl)
  |refine And.intro ?_ ?_
  |exact @rfl AV _
  |exact @rfl Block _
  |fail)
 all_goals rfl
theorem Kq(l:List (List Int))(hl:l.length<=1073741824):aj Tryz.prog 35 [.data (.sl 1 (l.map lC))] [] (.ret (.own 1000000 1 1 0 l.length)) [(1000000,.arr 1 1 (l.map lC))]:=by
 refine aS Tryz.func35 ?_
 repeat' ((try conv=>whnf)<;>first
  |refine aF.r 5 ?_
  |(obtain rfl:l = []:=(List.length_eq_zero_iff.1 (by simpa using hz));clear hz;refine PK [(2,.own 5 1 1 0 0)] [(5,.arr 1 1 [])] ?_ ?_)
  |exact trivial
  |refine BrI.tt ?_
  |refine BrI.ff ?_
  |refine XV.mk (λhz=>?_) ?_
  |((refine yf ?_ ?_ ?_ ?_ ?_ ?_ ?_ ?_);rfl;rfl;rfl;exact dP rfl;rfl;exact Nat.zero_le _;(rw[List.length_map];exact hl))
  |refine fin_step' [(1000000,5)] rfl ?_ ?_
  |exact WM rfl ((Nat.zero_add _).trans (List.length_map _))
  |exact PL rfl
  |((refine bg ?_);refine fin_step' [(1000000,5)] rfl ?_ ?_)
  |((refine cO ?_ ?_ ?_ ?_)<;>exact rfl)
  |refine And.intro ?_ ?_
  |exact @rfl AV _
  |exact @rfl Block _
  |fail)
 all_goals rfl
theorem Tm(p:Pr)(e:Int)(hc:PCall Tryz.prog 16 [p.d] (.ret (.i e)))(he:(e != 0)=true):PCall Tryz.prog 11 [p.d] (.ret (.tuple [(⟨[],[]⟩:St).d,.i e])):=by
 refine ak Tryz.func11 ?_
 repeat' ((try conv=>whnf)<;>first
  |exact Bool.noConfusion (he.symm.trans h)
  |refine BrI.intro (λh=>?_) (λh=>?_)
  |((refine ah ?_ ?_ ?_);rotate_left;exact hc)
  |(refine dm ?_;conv=>whnf)
  |fail)
 all_goals rfl
theorem XM(p:Pr)(hc:PCall Tryz.prog 16 [p.d] (.ret (.i 0)))(h1:p.states.length<=1073741824)(h2:p.lines.length<=1073741824)(hsz:∀x∈p.lines,1<=x.size/\x.size<=65536):PCall Tryz.prog 11 [p.d] (.ret (.tuple [(lK p).d,.i 0])):=by
 refine dJ Tryz.func11 λhf=>?_
 have hlen:p.states.length<=9223372036854775807:=by omega
 have hlen2:p.lines.length<=9223372036854775807:=by omega
 clear hf
 repeat' ((try conv=>whnf)<;>first
  |((refine BrI.ff_of ?_ ?_);rfl)
  |exact trivial
  |exact ai hd2 ‹_›
  |exact ai hd0 ‹_›
  |refine bM hd2 ?_
  |refine bM hd0 ?_
  |refine aU hd2 ?_
  |refine aU hd0 ?_
  |((refine z5r ?_ ?_ ?_ ?_ ?_);(have:=hsz _ (bK hd2);omega);exact Int.le_refl _;rfl;(have:=hsz _ (bK hd2);omega))
  |((refine ax.mk 0 ?_);refine⟨aJ (p.states) 17 (λ(vs:(List Int))=>[]) (λ(vs:(List Int))=>[(2,.cells [.gs 900001 1 (vs.map aC),.nilsl 1]),(900001,.tok 1 (vs.map aC).length)]) [1,2,15,16] (λi0 r0 vs=>(lK p).vals=vs++r0.map (λb=>gm 0 b.lo b.hi)),?_⟩;refine af ([]) ?_ ?_ (λi0 (vs:(List Int)) hd0 hI0=>?_) (λi0 x0 r0 (vs:(List Int)) hd0 hl0 hI0=>?_))
  |refine ag hd0 (vs++[gm 0 x0.lo x0.hi]) ?_ ?_
  |((refine ax.mk 2 ?_);refine⟨aJ (p.lines) 35 (λ(ls:(List (List Int)))=>[]) (λ(ls:(List (List Int)))=>[(2,.cells [.gs 900001 1 (vs.map aC),.gs 900002 1 (ls.map lC)]),(900001,.tok 1 (vs.map aC).length),(900002,.tok 1 (ls.map lC).length)]) [2,33,34] (λi2 r2 ls=>(lK p).lines=ls++r2.map (λl=>List.replicate l.size.toNat 0)),?_⟩;refine af ([]) ?_ ?_ (λi2 (ls:(List (List Int))) hd2 hI2=>?_) (λi2 x2 r2 (ls:(List (List Int))) hd2 hl2 hI2=>?_))
  |refine ag hd2 (ls++[List.replicate x2.size.toNat 0]) ?_ ?_
  |((refine ah ?_ ?_ ?_);rotate_left;(first |exact hc |exact uq _ _ _))
  |refine aF.l _ ?_
  |((refine bY ?_ ?_ ?_ ?_ ?_ ?_)<;>exact rfl)
  |((refine cO ?_ ?_ ?_ ?_)<;>exact rfl)
  |((refine aH ?_ ?_ ?_ ?_ ?_);rfl;rfl;rotate_left;(first |exact aG hd2 |exact aG hd0))
  |refine pF ?_
  |refine wz ?_ ?_ ?_
  |refine eU ?_
  |(refine dm ?_;conv=>whnf)
  |refine And.intro ?_ ?_
  |((refine mY ?_ ?_ ?_);rfl;rfl;(first |exact bz |skip))
  |((refine gu ?_ ?_);rfl;(first |exact bz |skip))
  |exact @rfl AV _
  |exact dP rfl
  |fail)
 all_goals first
  |rfl
  |(rw[hI0];simp;done)
  |(rw[hI2];simp;done)
  |(have hq:=congrArg List.length hI0;simp only[lK,List.length_append,List.length_map]at hq ⊢;omega)
  |(have hq:=congrArg List.length hI2;simp only[lK,List.length_append,List.length_map]at hq ⊢;omega)
  |exact(congrArg (λd=>D.tuple [d,D.i 0]) (z7t hI0 hI2)).symm
  |exact Zz
theorem z0z(s:Sm)(n:Int)  : PCall Tryz.prog 36 [s.d,.i n] (.ret (.tuple [])):=by
 refine ak Tryz.func36 ?_
 repeat' ((try conv=>whnf)<;>first
  |(refine dm ?_;conv=>whnf)
  |fail)
theorem z00(s:Sm)(n o:Int)  : aj Tryz.prog 40 [.data s.d,.data (.i n),.ptr 1000000 0] [(1000000,.cells [.data (.i o)])] (.ret (.data (.tuple []))) [(1000000,.cells [.data (.i n)])]:=by
 refine aS Tryz.func40 ?_
 repeat' ((try conv=>whnf)<;>first
  |exact trivial
  |((refine bg ?_);refine fin_step' [(1000000,1000000)] rfl ?_ ?_)
  |refine And.intro ?_ ?_
  |fail)
theorem z01(p:Pr)(F:Fr)(s:Sm)(n:Int)(h0:0<=s.index)(h1:s.index<F.vals.length):aj Tryz.prog 37 [.data s.d,.data (.i n),.ptr 1000000 0] [(1000000,.cells [.ptr 1000001 0]),(1000001,.cells (FA p F 1000002 1000003 1000004)),(1000002,.arr 1 1 (F.vals.map aC)),(1000003,.arr 1 1 (F.lines.map lC)),(1000004,.tok 1 (F.lets.map aC).length)] (.ret (.data (.tuple []))) [(1000000,.cells [.ptr 1000001 0]),(1000001,.cells (FA p F 1000002 1000003 1000004)),(1000002,.arr 1 1 ((F.vals.set s.index.toNat n).map aC)),(1000003,.arr 1 1 (F.lines.map lC)),(1000004,.tok 1 (F.lets.map aC).length)]:=by
 refine aS Tryz.func37 ?_
 repeat' ((try conv=>whnf)<;>first
  |exact trivial
  |((refine yc ?_ ?_ ?_ ?_ ?_);rfl;rfl;rfl;exact⟨h0,h1⟩)
  |((refine sD ?_ ?_ ?_ ?_ ?_ ?_ ?_ ?_ ?_);rfl;rfl;rfl;rfl;exact dP rfl;rfl;rotate_left;exact zdc h0 h1)
  |((refine bg ?_);refine fin_step' [(1000000,1000000),(1000001,1000001),(1000002,1000002),(1000003,1000003),(1000004,1000004)] rfl ?_ ?_)
  |refine eU ?_
  |refine And.intro ?_ ?_
  |((refine bQ ?_);refine ig ?_ ?_ ?_;rfl;rfl;(first |exact rfl |skip))
  |exact @rfl AV _
  |fail)
 all_goals exact congrArg (Block.arr 1 1) z7u
theorem z02(p:Pr)(F:Fr)(s:Sm)(n:Int)(b:Nat)(pu:List (Sm×Int))(hl:pu.length<=1073741824):aj Tryz.prog 38 [.data s.d,.data (.i n),.ptr 1000000 0,.ptr 1000001 0] [(1000000,.cells [.gs 1000002 1 (pu.map (pC 39 b))]),(1000001,.cells [.ptr 1000004 0]),(1000002,.tok 1 (pu.map (pC 39 b)).length),(1000003,.adr 1000001 b),(1000004,.cells (FA p F 1000005 1000006 1000007)),(1000005,.arr 1 1 (F.vals.map aC)),(1000006,.arr 1 1 (F.lines.map lC)),(1000007,.tok 1 (F.lets.map aC).length)] (.ret (.data (.tuple []))) [(1000000,.cells [.gs 1000002 1 ((pu++[(s,n)]).map (pC 39 b))]),(1000001,.cells [.ptr 1000004 0]),(1000002,.tok 1 ((pu++[(s,n)]).map (pC 39 b)).length),(1000003,.adr 1000001 b),(1000004,.cells (FA p F 1000005 1000006 1000007)),(1000005,.arr 1 1 (F.vals.map aC)),(1000006,.arr 1 1 (F.lines.map lC)),(1000007,.tok 1 (F.lets.map aC).length)]:=by
 refine lh tok hmix ⟨[1],[]⟩ Tryz.func38 rfl (by kernel_rfl) (by kernel_rfl) (by kernel_rfl) λhf=>?_
 clear hf
 repeat' ((try conv=>whnf)<;>first
  |exact trivial
  |((refine ax.mk 1 ?_);refine⟨⟨Unit,λ_=>[(3,.data (.val (.pointer (some ⟨b,0,none⟩)))),(4,.data (.ptr s.cs)),(5,.data (.ptr [.i n]))],λ_=>[(1000001,.cells [.ptr 1000004 0]),(1000003,.adr 1000001 b),(1000004,.cells (FA p F 1000005 1000006 1000007)),(1000005,.arr 1 1 (F.vals.map aC)),(1000006,.arr 1 1 (F.lines.map lC)),(1000007,.tok 1 (F.lets.map aC).length)],[2],λ_=>True,λ_=>0⟩,?_,λ_ _=>?_⟩)
  |refine Hl.l ?_
  |refine⟨(),trivial,?_⟩
  |((refine bg ?_);refine fin_step' [(1000000,1000000),(1000001,1000001),(1000002,1000002),(1000003,1000003),(1000004,1000004),(1000005,1000005),(1000006,1000006),(1000007,1000007)] rfl ?_ ?_)
  |refine aF.l _ ?_
  |refine wz ?_ ?_ ?_
  |refine And.intro ?_ ?_
  |((refine gu ?_ ?_);rfl;(first |skip))
  |((refine bQ ?_);refine ig ?_ ?_ ?_;rfl;rfl;(first |exact rfl |skip))
  |exact @rfl AV _
  |exact @rfl Block _
  |exact dP rfl
  |fail)
 all_goals first
  |(rw[List.length_map];exact hl)
  |exact z7v rfl
  |rfl
theorem z03(p:Pr)(F:Fr)(s:Sm)(n:Int)(h0:0<=s.index)(h1:s.index<F.lines.length)(h2:0<(Dc F s.index).length/\(Dc F s.index).length<=1073741824):aj Tryz.prog 39 [.ptr 1000000 0,.data (.ptr s.cs),.data (.ptr [.i n])] [(1000000,.cells [.ptr 1000001 0]),(1000001,.cells (FA p F 1000002 1000003 1000004)),(1000002,.arr 1 1 (F.vals.map aC)),(1000003,.arr 1 1 (F.lines.map lC)),(1000004,.tok 1 (F.lets.map aC).length)] (.ret (.data (.tuple []))) [(1000000,.cells [.ptr 1000001 0]),(1000001,.cells (FA p F 1000002 1000003 1000004)),(1000002,.arr 1 1 (F.vals.map aC)),(1000003,.arr 1 1 ((xA F.lines (s,n)).map lC)),(1000004,.tok 1 (F.lets.map aC).length)]:=by
 refine aS Tryz.func39 ?_
 repeat' ((try conv=>whnf)<;>first
  |exact trivial
  |((refine yc ?_ ?_ ?_ ?_ ?_);rfl;rfl;rfl;exact⟨h0,h1⟩)
  |((refine FT ?_ ?_ ?_ ?_ ?_ ?_ ?_);rfl;rfl;rotate_left 2;exact WN h0 h1;rfl)
  |((refine sD ?_ ?_ ?_ ?_ ?_ ?_ ?_ ?_ ?_);rfl;rfl;rfl;rfl;exact dP rfl;rfl;rotate_left;exact WN h0 h1)
  |((refine bg ?_);refine fin_step' [(1000000,1000000),(1000001,1000001),(1000002,1000002),(1000003,1000003),(1000004,1000004)] rfl ?_ ?_)
  |refine aF.l _ ?_
  |refine wz ?_ ?_ ?_
  |refine eU ?_
  |refine And.intro ?_ ?_
  |((refine bQ ?_);refine ig ?_ ?_ ?_;rfl;rfl;(first |exact rfl |skip))
  |exact @rfl AV _
  |exact dP rfl
  |fail)
 all_goals first
  |(rw[Zu h2.2];omega)
  |(have hq:=h2;rw[Zu h2.2,List.length_map];show((Dc F s.index).length:Int)-1<=(Dc F s.index).length;omega)
  |(rw[zdd h2,List.length_map,List.length_dropLast];omega)
  |((try(conv=>whnf));exact z7w rfl h2)
  |rfl
theorem XN(p:Pr)(found:List Sp)(F:Fr)(x:Ex){n m:Nat}(hn:n=F.vals.length)(hm:m=F.lines.length)(hF:zc3 p found F)(hx:Ref15.nodes x<=1073741824)(h0:XOk p found F x) :
  PCall Tryz.prog 42 [.ptr [.sl 1 (F.lets.map aC),.str p.name,.i p.latency,.i p.tail,.sl 3 (p.params.map Bd.cs),.sl 3 (p.states.map Bd.cs),.sl 4 (p.lines.map Ln.cs),.sl 2 (p.tables.map Tb.cs),.sl 8 (p.stmts.map Sm.cs),
   .sl 1 (F.params.map aC),.sl 1 (F.inp.map aC),.sl 1 (F.side.map aC),.sl 1 (((F.vals.map aC).drop 0).take n),.sl 1 (((F.lines.map lC).drop 0).take m)],.ptr evD,x.d] (.ret (.i (nM p (lfM F) x))):=by
 subst hn hm
 rw[List.drop_zero,List.drop_zero,List.take_of_length_le (by simp),List.take_of_length_le (by simp)]
 exact NG x F p found hF hx h0
def KQ(s:Sm):Prop:=s.kind=1\/s.kind=2\/s.kind=3\/s.kind=4
theorem zi4{k c:Int}{z:Nat}(h:k=c):k.toNat * z=c.toNat * z:=by rw[h]
theorem XO(p:Pr)(A:Fr)(q:Ss){i:Nat}{s:Sm}{r:List Sm}{n m:Nat}(hn:n=q.vals.length)(hm:m=A.lines.length)(hK:yt p A)(hd:p.stmts.drop i=s::r)(hq:q=qF p A i) :
  PCall Tryz.prog 42 [.ptr [.sl 1 (q.lets.map aC),.str p.name,.i p.latency,.i p.tail,.sl 3 (p.params.map Bd.cs),.sl 3 (p.states.map Bd.cs),.sl 4 (p.lines.map Ln.cs),.sl 2 (p.tables.map Tb.cs),.sl 8 (p.stmts.map Sm.cs),
   .sl 1 (A.params.map aC),.sl 1 (A.inp.map aC),.sl 1 (A.side.map aC),.sl 1 (((q.vals.map aC).drop 0).take n),.sl 1 (((A.lines.map lC).drop 0).take m)],.ptr evD,s.x.d] (.ret (.i (nN p A q s))):=by
 subst hq
 have hs:=vk hd
 obtain⟨found,hF,hX⟩:=hK.fr i s hs
 exact XN p found (A.at (qF p A i)) s.x hn hm hF (hK.nod s (List.mem_of_getElem? hs)) hX
theorem z04(G:Nat){K:Heap}{q:Heap->Prop}(_:(K.get G).isSome=true)(h2:q K):Hl K q:=Hl.l h2
theorem zah{i v s o k:Nat}{l:List Int}{x:Int}:AV.own i v s o l.length=AV.own i v s o (l.set k x).length:=by rw[List.length_set]
theorem z05{i v s o:Nat}{ls:List (List Int)}{x:Sm×Int}:AV.own i v s o ls.length=AV.own i v s o (xA ls x).length:=by rw[xA,List.length_set]
theorem zai{n m:Nat}{X:List (List D)}{k:List (List D)->Prop}(h1:n<=m)(h2:k X):∃r,(n<=m/\r=X)/\k r:=⟨X,⟨h1,rfl⟩,h2⟩
theorem z06{p:Pr}{A:Fr}{q:Ss}{i:Nat}{ls:List (List Int)}(h:q=qF p A i)(hd:p.stmts.drop i = [])(h2:q.pu.foldl xA A.lines=ls) :
  D.tuple [.i q.out,.agg [.sl 1 (((q.vals.map aC).drop 0).take q.vals.length),.sl 1 (((ls.map lC).drop 0).take ls.length)],.i 0]=D.tuple [.i (stepM p A).1,(stepM p A).2.d,.i 0]:=by
 rw[List.drop_zero,List.drop_zero,List.take_of_length_le (by simp),List.take_of_length_le (by simp)]
 exact(Mn.step_ret h hd h2).symm
theorem zaj{p:Pr}{A:Fr}{q:Ss}{s:Sm}{i:Nat}{r:List Sm}(h:q=qF p A i)(hd:p.stmts.drop i=s::r)(hk:s.kind=1):(⟨q.lets++[nN p A q s],q.vals,q.out,q.pu⟩:Ss)=qF p A (i+1):=by rw[<-zdk hk];exact step_next h hd
theorem zak{p:Pr}{A:Fr}{q:Ss}{s:Sm}{i:Nat}{r:List Sm}(h:q=qF p A i)(hd:p.stmts.drop i=s::r)(hk:s.kind=2):(⟨q.lets++[nN p A q s],q.vals.set s.index.toNat (nN p A q s),q.out,q.pu⟩:Ss)=qF p A (i+1):=by rw[<-zdl hk];exact step_next h hd
theorem zal{p:Pr}{A:Fr}{q:Ss}{s:Sm}{i:Nat}{r:List Sm}(h:q=qF p A i)(hd:p.stmts.drop i=s::r)(hk:s.kind=3):(⟨q.lets++[nN p A q s],q.vals,q.out,q.pu++[(s,nN p A q s)]⟩:Ss)=qF p A (i+1):=by rw[<-zdm hk];exact step_next h hd
theorem zam{p:Pr}{A:Fr}{q:Ss}{s:Sm}{i:Nat}{r:List Sm}(h:q=qF p A i)(hd:p.stmts.drop i=s::r)(hk:s.kind=4):(⟨q.lets++[nN p A q s],q.vals,nN p A q s,q.pu⟩:Ss)=qF p A (i+1):=by rw[<-zdn hk];exact step_next h hd
theorem zgw{A:Fr}{ls:List (List Int)}{i:Int}(h:zdf A ls)(h1:i<A.lines.length):i<(ls.length:Nat):=by rw[h.1];exact h1
theorem zfd{p:Pr}{A:Fr}{q:Ss}{i:Nat}(hK:yt p A)(h:q=qF p A i)(hi:i<p.stmts.length):q.pu.length<=1073741824:=by
 have:=hK.len
 have:=z7x (p:=p) (A:=A) (i:=i) (by omega)
 rw[h];omega
theorem zgx{p:Pr}{A:Fr}{q:Ss}{i:Nat}(hK:yt p A)(h:q=qF p A i):q.pu.length<=9223372036854775807:=by
 have:=(vN (p:=p) (A:=A) (p.stmts.take i) (ss0 A)).2.2
 have hk:=hK.len
 have e:(ss0 A).pu.length=0:=rfl
 rw[List.length_take,e]at this
 rw[h,qF];omega
theorem zfe{p:Pr}{A:Fr}{q:Ss}{i:Nat}{n:Int}(h:q=qF p A i)(hn:n<A.vals.length):n<(q.vals.length:Nat):=by rw[h,Jt];exact hn
structure ASm(A:Fr):Prop where
 par:A.params.length<=1073741824
 inp:A.inp.length<=1073741824
 sid:A.side.length<=1073741824
theorem step_bad(p:Pr)(A:Fr)(e:Int)(hc:PCall Tryz.prog 16 [p.d] (.ret (.i e)))(he:(e != 0)=true):PCall Tryz.prog 13 [p.d,.sl 1 (A.params.map aC),.sl 1 (A.inp.map aC),.sl 1 (A.side.map aC),(⟨A.vals,A.lines⟩:St).d] (.ret (.tuple [.i 0,(⟨[],[]⟩:St).d,.i e])):=by
 refine ak Tryz.func13 ?_
 repeat' ((try conv=>whnf)<;>first
  |exact Bool.noConfusion (he.symm.trans h)
  |refine BrI.intro (λh=>?_) (λh=>?_)
  |((refine ah ?_ ?_ ?_);rotate_left;exact hc)
  |refine eU ?_
  |(refine dm ?_;conv=>whnf)
  |fail)
 all_goals rfl
theorem z07(p:Pr)(A:Fr)(hc:PCall Tryz.prog 16 [p.d] (.ret (.i 0)))(ha:ASm A)(hb:XZ p A=true):PCall Tryz.prog 13 [p.d,.sl 1 (A.params.map aC),.sl 1 (A.inp.map aC),.sl 1 (A.side.map aC),(⟨A.vals,A.lines⟩:St).d] (.ret (.tuple [.i 0,(⟨[],[]⟩:St).d,.i 1])):=by
 refine ak Tryz.func13 ?_
 repeat' ((try conv=>whnf)<;>first
  |((refine BrI.ff_of ?_ ?_);exact rfl)
  |exact Bool.noConfusion (hb.symm.trans h)
  |refine BrI.intro (λh=>?_) (λh=>?_)
  |((refine ah ?_ ?_ ?_);rotate_left;(first |exact hc |exact mF _ _ ha.par |exact gZ _ _ ha.inp |exact gZ _ _ ha.sid))
  |((refine aK ?_ ?_ (λhg=>?_) ?_);exact rfl)
  |((refine bf ?_ ?_);exact rfl;exact rfl)
  |refine eU ?_
  |(refine dm ?_;conv=>whnf)
  |fail)
 all_goals rfl
theorem Tn(p:Pr)(A:Fr)(hc:PCall Tryz.prog 16 [p.d] (.ret (.i 0)))(ha:ASm A)(hs:(⟨A.vals,A.lines⟩:St).Sm)(hb:XZ p A=false)(hv:jS p ⟨A.vals,A.lines⟩=false):PCall Tryz.prog 13 [p.d,.sl 1 (A.params.map aC),.sl 1 (A.inp.map aC),.sl 1 (A.side.map aC),(⟨A.vals,A.lines⟩:St).d] (.ret (.tuple [.i 0,(⟨[],[]⟩:St).d,.i 180])):=by
 refine ak Tryz.func13 ?_
 repeat' ((try conv=>whnf)<;>first
  |((refine BrI.ff_of ?_ ?_);exact rfl)
  |exact Bool.noConfusion (hb.symm.trans h)
  |exact Bool.noConfusion ((congrArg (!·) hv).symm.trans h)
  |refine BrI.intro (λh=>?_) (λh=>?_)
  |((refine ah ?_ ?_ ?_);rotate_left;(first |exact hc |exact mF _ _ ha.par |exact gZ _ _ ha.inp |exact gZ _ _ ha.sid |exact CB p ⟨A.vals,A.lines⟩ hs))
  |((refine aK ?_ ?_ (λhg=>?_) ?_);exact rfl)
  |((refine bf ?_ ?_);exact rfl;exact rfl)
  |refine eU ?_
  |(refine dm ?_;conv=>whnf)
  |fail)
 all_goals rfl
theorem step_ok(p:Pr)(A:Fr)(hc:PCall Tryz.prog 16 [p.d] (.ret (.i 0)))(ha:ASm A)(hs:(⟨A.vals,A.lines⟩:St).Sm)(hb:XZ p A=false)(hv:jS p ⟨A.vals,A.lines⟩=true)(hK:yt p A):PCall Tryz.prog 13 [p.d,.sl 1 (A.params.map aC),.sl 1 (A.inp.map aC),.sl 1 (A.side.map aC),(⟨A.vals,A.lines⟩:St).d] (.ret (.tuple [.i (stepM p A).1,(stepM p A).2.d,.i 0])):=by
 refine oD tok hmix ⟨[9,17,22],[]⟩ Tryz.func13 rfl (by kernel_rfl) (by kernel_rfl) (by kernel_rfl) λhf=>?_
 have hl_b:p.stmts.length<=9223372036854775807:=by have:=hK.len;omega
 clear hf
 repeat' ((try conv=>whnf)<;>first
  |((refine BrI.ff_of ?_ ?_);exact rfl)
  |exact Bool.noConfusion (hb.symm.trans h)
  |exact Bool.noConfusion ((congrArg (!·) hv).symm.trans h)
  |refine⟨(),hK.knd x0 (bK hd0),?_⟩
  |refine⟨(),zdh hK hI0 hd0 hd2,?_⟩
  |obtain⟨hp0,hp1⟩:=hpq
  |(rcases hkq with hk |hk |hk |hk)
  |exact trivial
  |exact ai hd2 ‹_›
  |exact ai hd0 ‹_›
  |refine bM hd2 ?_
  |refine bM hd0 ?_
  |refine aU hd2 ?_
  |refine aU hd0 ?_
  |refine BrI.intro (λh=>?_) (λh=>?_)
  |((refine ax.mk 9 ?_);refine⟨⟨Nat,λb=>[(13,.ptr 13 0)],λb=>[(13,.cells [.ptr 67 0]),(67,.cells (FA p ((A.at (ss0 A))) 800100 800200 900010)),(800100,.arr 1 1 ((ss0 A).vals.map aC)),(800200,.arr 1 1 (A.lines.map lC)),(900010,.tok 1 ((ss0 A).lets.map aC).length),(999001,.adr 13 b)],[5,10,11],λ_=>True,λ_=>0⟩,?_,λb _=>?_⟩)
  |((refine z04 999001 ?_ ?_);exact rfl)
  |refine Hl.adr 999001 13 rfl (λb=>?_)
  |rw[zi4 (z:=(Tryz.T.at 79).size) hk]
  |rw[zdk hk]
  |rw[zdl hk]
  |rw[zdm hk]
  |rw[zdn hk]
  |exact zah
  |exact z05
  |refine zai (by simp) ?_
  |refine⟨b,trivial,?_⟩
  |((refine ax.mk 17 ?_);refine⟨⟨Unit,λ_=>[(18,.ptr 18 0),(19,.data (.i (nN p A q x0)))],λ_=>[(18,.cells (x0.cs.map .data)),(10,.cells [.data (.i q.out)]),(13,.cells [.ptr 67 0]),(67,.cells (FA p ((A.at (⟨q.lets++[(nN p A q x0)],q.vals,q.out,q.pu⟩:Ss))) 800100 800200 900010)),(800100,.arr 1 1 ((⟨q.lets++[(nN p A q x0)],q.vals,q.out,q.pu⟩:Ss).vals.map aC)),(800200,.arr 1 1 (A.lines.map lC)),(900010,.tok 1 ((⟨q.lets++[(nN p A q x0)],q.vals,q.out,q.pu⟩:Ss).lets.map aC).length),(999001,.adr 13 b),(14,.cells [.gs 900020 1 ((⟨q.lets++[(nN p A q x0)],q.vals,q.out,q.pu⟩:Ss).pu.map (pC 39 b))]),(900020,.tok 1 ((⟨q.lets++[(nN p A q x0)],q.vals,q.out,q.pu⟩:Ss).pu.map (pC 39 b)).length)],[10,11,13,14,15,16,74,75,76],λ_=>KQ x0,λ_=>0⟩,?_,λ_ hkq=>?_⟩)
  |((refine ax.mk 22 ?_);refine⟨⟨Unit,λ_=>[(21,.fn 39 [.ptr 13 0,.data (.ptr x2.1.cs),.data (.ptr [.i x2.2])])],λ_=>[(10,.cells [.data (.i q.out)]),(13,.cells [.ptr 67 0]),(67,.cells (FA p ((⟨A.params,A.inp,A.side,q.vals,ls,q.lets⟩:Fr)) 800100 800200 900010)),(800100,.arr 1 1 (q.vals.map aC)),(800200,.arr 1 1 (ls.map lC)),(900010,.tok 1 (q.lets.map aC).length),(999001,.adr 13 b),(14,.cells [.gs 900020 1 (q.pu.map (pC 39 b))]),(900020,.tok 1 (q.pu.map (pC 39 b)).length)],[10,11,13,104,105,106],λ_=>0<=x2.1.index/\x2.1.index<A.lines.length,λ_=>0⟩,?_,λ_ hpq=>?_⟩)
  |((refine ax.mk 0 ?_);refine⟨aJ (p.stmts) 76 (λ(q:(Ss))=>[]) (λ(q:(Ss))=>[(10,.cells [.data (.i q.out)]),(13,.cells [.ptr 67 0]),(67,.cells (FA p ((A.at q)) 800100 800200 900010)),(800100,.arr 1 1 (q.vals.map aC)),(800200,.arr 1 1 (A.lines.map lC)),(900010,.tok 1 (q.lets.map aC).length),(999001,.adr 13 b),(14,.cells [.gs 900020 1 (q.pu.map (pC 39 b))]),(900020,.tok 1 (q.pu.map (pC 39 b)).length)]) [10,11,13,14,15,16,74,75] (λi0 r0 q=>q=qF p A i0),?_⟩;refine af (ss0 A) ?_ ?_ (λi0 (q:(Ss)) hd0 hI0=>?_) (λi0 x0 r0 (q:(Ss)) hd0 hl0 hI0=>?_))
  |refine ag hd0 (uu p A q x0) ?_ ?_
  |((refine ax.mk 2 ?_);have hl_p:q.pu.length<=9223372036854775807:=zgx hK hI0;refine⟨aJ (q.pu) 106 (λ(ls:(List (List Int)))=>[]) (λ(ls:(List (List Int)))=>[(10,.cells [.data (.i q.out)]),(13,.cells [.ptr 67 0]),(67,.cells (FA p ((⟨A.params,A.inp,A.side,q.vals,ls,q.lets⟩:Fr)) 800100 800200 900010)),(800100,.arr 1 1 (q.vals.map aC)),(800200,.arr 1 1 (ls.map lC)),(900010,.tok 1 (q.lets.map aC).length),(999001,.adr 13 b),(14,.cells [.gs 900020 1 (q.pu.map (pC 39 b))]),(900020,.tok 1 (q.pu.map (pC 39 b)).length)]) [10,11,13,104,105] (λi2 r2 ls=>q.pu.foldl xA A.lines=r2.foldl xA ls/\zdf A ls),?_⟩;refine af (A.lines) ?_ ?_ (λi2 (ls:(List (List Int))) hd2 hI2=>?_) (λi2 x2 r2 (ls:(List (List Int))) hd2 hl2 hI2=>?_))
  |refine ag hd2 (xA ls x2) ?_ ?_
  |((refine ah ?_ ?_ ?_);rotate_left;(first |exact Tf |exact hc |exact mF _ _ ha.par |exact gZ _ _ ha.inp |exact gZ _ _ ha.sid |exact CB p ⟨A.vals,A.lines⟩ hs |exact z0z x0 (nN p A q x0)))
  |((refine dC ?_ ?_);exact rfl)
  |((refine dS ?_ ?_ ?_);rotate_left;(exact XO p A q (Int.toNat_natCast _) (Int.toNat_natCast _) hK hd0 hI0))
  |((refine fH [(1000000,800100)] (NH A.vals hs.vals) ?_ ?_ ?_ ?_);rotate_left 0;exact rfl;exact trivial;exact rfl)
  |((refine fH [(1000000,800200)] (Kq A.lines hs.lines) ?_ ?_ ?_ ?_);rotate_left 0;exact rfl;exact trivial;exact rfl)
  |((refine lent_step' [(1000000,13),(1000001,67),(1000002,800100),(1000003,800200),(1000004,900010)] (z01 p (A.at (⟨q.lets++[(nN p A q x0)],q.vals,q.out,q.pu⟩:Ss)) x0 (nN p A q x0) (hK.set x0 (bK hd0) hk).1 (zfe hI0 (hK.set x0 (bK hd0) hk).2)) ?_ ?_ ?_ ?_);rotate_left 0;exact rfl;(exact⟨rfl,rfl,rfl,rfl,rfl,trivial⟩);exact rfl)
  |((refine lent_step' [(1000000,14),(1000001,13),(1000002,900020),(1000003,999001),(1000004,67),(1000005,800100),(1000006,800200),(1000007,900010)] (z02 p (A.at (⟨q.lets++[(nN p A q x0)],q.vals,q.out,q.pu⟩:Ss)) x0 (nN p A q x0) b q.pu (zfd hK hI0 hl0)) ?_ ?_ ?_ ?_);rotate_left 0;exact rfl;(exact⟨rfl,rfl,rfl,rfl,rfl,rfl,rfl,rfl,trivial⟩);exact rfl)
  |((refine lent_step' [(1000000,10)] (z00 x0 (nN p A q x0) q.out) ?_ ?_ ?_ ?_);rotate_left 0;exact rfl;(exact⟨rfl,trivial⟩);exact rfl)
  |((refine lent_step' [(1000000,13),(1000001,67),(1000002,800100),(1000003,800200),(1000004,900010)] (z03 p (⟨A.params,A.inp,A.side,q.vals,ls,q.lets⟩:Fr) x2.1 x2.2 hp0 (zgw hI2.2 hp1) (z2y hI2.2 hp0 hp1)) ?_ ?_ ?_ ?_);rotate_left 0;exact rfl;(exact⟨rfl,rfl,rfl,rfl,rfl,trivial⟩);exact rfl)
  |refine aF.l _ ?_
  |((refine bY ?_ ?_ ?_ ?_ ?_ ?_)<;>exact rfl)
  |((refine cO ?_ ?_ ?_ ?_)<;>exact rfl)
  |((refine aH ?_ ?_ ?_ ?_ ?_);exact rfl;exact rfl;rotate_left;(first |exact aG hd2 |exact aG hd0))
  |refine pF ?_
  |refine wz ?_ ?_ ?_
  |((refine aK ?_ ?_ (λhg=>?_) ?_);exact rfl)
  |((refine bf ?_ ?_);exact rfl;exact rfl)
  |refine eU ?_
  |(refine dm ?_;conv=>whnf)
  |refine And.intro ?_ ?_
  |((refine mY ?_ ?_ ?_);exact rfl;exact rfl;(first |exact bz |exact rfl |skip))
  |((refine gu ?_ ?_);exact rfl;(first |exact bz |skip))
  |exact @rfl AV _
  |exact @rfl Block _
  |exact dP rfl
  |fail)
 all_goals first
  |exact zde p A
  |exact hK.lne
  |exact hI2.1
  |exact(WP hI2.2 hp0 hp1).1
  |exact(WP hI2.2 hp0 hp1).2
  |exact z06 hI0 hd0 hI2.1
  |exact zaj hI0 hd0 hk
  |exact zak hI0 hd0 hk
  |exact zal hI0 hd0 hk
  |exact zam hI0 hd0 hk
  |(rw[List.length_map];show q.lets.length<=_;rw[hI0,WO (by omega)];have:=hK.len;omega)
  |omega
  |(simp;done)
  |rfl
theorem xQ(p:Pr)(g:ja p):PCall Tryz.prog 11 [p.d] (.ret (.tuple [(BD p).1.d,.i (BD p).2])):=by
 have hc:=EU p g
 unfold BD
 cases h:(jo p != 0)with
 |true=>exact Tm p _ hc h
 |false=>
  have h0:jo p=0:=by simpa using h
  rw[h0]at hc
  obtain⟨hB,-⟩:=Mn.chkZ h0
  obtain⟨h1,h2,h3⟩:=ZH hB.res
  exact XM p hc h1 h2 h3
theorem wo(p:Pr)(A:Fr)(g:ja p)(ha:ASm A)(hs:(⟨A.vals,A.lines⟩:Mn.St).Sm) :
  PCall Tryz.prog 13 [p.d,.sl 1 (A.params.map aC),.sl 1 (A.inp.map aC),.sl 1 (A.side.map aC),(⟨A.vals,A.lines⟩:Mn.St).d] (.ret (.tuple [.i (GG p A).1,(GG p A).2.1.d,.i (GG p A).2.2])):=by
 have hc:=EU p g
 unfold GG
 cases h:(jo p != 0)with
 |true=>exact step_bad p A _ hc h
 |false=>
  have h0:jo p=0:=by simpa using h
  rw[h0]at hc
  rw[if_neg (by decide)]
  cases hb:XZ p A with
  |true=>exact z07 p A hc ha hb
  |false=>
   rw[if_neg (by decide)]
   cases hv:jS p ⟨A.vals,A.lines⟩with
   |false=>exact Tn p A hc ha hs hb hv
   |true=>exact step_ok p A hc ha hs hb hv (RF h0 hb hv)
end Go.Proofs.YtgehpmgkaeohaaaGreatDoor
