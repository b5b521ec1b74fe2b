/- A part of the proof. -/
import Derived.Test.YtaipffoajgkljaaGreatDoorZMA
import Derived.Test.YtaipffoajgkljaaGreatDoorZYC
set_option linter.all false
set_option maxHeartbeats 8000000
namespace Go.Proofs.YtaipffoajgkljaaGreatDoor
open Go.Fw Go.Fw.Ref15 Go.Fw.Rg Go.Fw.Tl Go.Fw.Mn
set_option maxRecDepth 10000
variable [af]
theorem BL(n lo hi:Int)  : PCall Tryz.prog 60 [.i n,.i lo,.i hi] (.ret (.i (iO n lo hi))):=by
 refine ay Tryz.func60 ?_
 repeat' ((try conv=>whnf)<;>first
  |(refine cO ?_;conv=>whnf)
  |fail)
 all_goals rfl
theorem NG(a n:Int)(ha:inW a=true)(hn:1<=n):PCall Tryz.prog 71 [.i a,.i n] (.ret (.i (iG a n))):=by
 refine ay Tryz.func71 ?_
 repeat' ((try conv=>whnf)<;>first
  |refine BrI.intro (λh=>?_) (λh=>?_)
  |(refine cO ?_;conv=>whnf)
  |refine And.intro ?_ ?_
  |fail)
 all_goals first
  |omega
  |(refine congrArg D.i ?_;have e:=IU hn ha;rw[if_pos (of_decide_eq_true h)]at e;rw[e,aO (n:=iG a n+1-1) (by have:=bT.1 (A7 hn ha);simp only[iG];omega) (by have:=bT.1 (A7 hn ha);simp only[iG];omega)];omega)
  |(refine congrArg D.i ?_;have e:=IU hn ha;rw[if_neg (of_decide_eq_false h)]at e;exact e)
theorem J7(a:Int)(l:List Int)(h:l.length<=1073741824):PCall Tryz.prog 60 [.i a,.i 0,.i (IntKind.i64.wrap (((l.map aC).length:Int)-1))] (.ret (.i (iO a 0 (l.length-1)))):=by
 rw[Zn h];exact BL a 0 _
theorem ev1(F:Fr)(p:Pr)(x:Ex)(vs:List Int)  : PCall Tryz.prog 53 [.ptr (F.cs p),x.d,.sl 1 (vs.map aC)] (.ret (.i x.n)):=by
 refine ay Tryz.func53 ?_
 repeat' ((try conv=>whnf)<;>first
  |(refine cO ?_;conv=>whnf)
  |fail)
theorem ev3(F:Fr)(p:Pr)(x:Ex)(vs:List Int)(h0:0<=x.index)(h1:x.index<F.params.length):PCall Tryz.prog 54 [.ptr (F.cs p),x.d,.sl 1 (vs.map aC)] (.ret (.i (at0 F.params x.index))):=by
 refine ay Tryz.func54 ?_
 repeat' ((try conv=>whnf)<;>first
  |((refine eU (f:=aC) (0:Int) ?_ ?_ h0 h1 ?_);rfl;rfl)
  |refine fD ?_
  |(refine cO ?_;conv=>whnf)
  |fail)
 all_goals rfl
theorem ev4(F:Fr)(p:Pr)(x:Ex)(vs:List Int)(h0:0<=x.index)(h1:x.index<F.vals.length):PCall Tryz.prog 55 [.ptr (F.cs p),x.d,.sl 1 (vs.map aC)] (.ret (.i (at0 F.vals x.index))):=by
 refine ay Tryz.func55 ?_
 repeat' ((try conv=>whnf)<;>first
  |((refine eU (f:=aC) (0:Int) ?_ ?_ h0 h1 ?_);rfl;rfl)
  |refine fD ?_
  |(refine cO ?_;conv=>whnf)
  |fail)
 all_goals rfl
theorem ev5(F:Fr)(p:Pr)(x:Ex)(vs:List Int)(h0:0<=x.index)(h1:x.index<F.lets.length):PCall Tryz.prog 56 [.ptr (F.cs p),x.d,.sl 1 (vs.map aC)] (.ret (.i (at0 F.lets x.index))):=by
 refine ay Tryz.func56 ?_
 repeat' ((try conv=>whnf)<;>first
  |((refine eU (f:=aC) (0:Int) ?_ ?_ h0 h1 ?_);rfl;rfl)
  |refine fD ?_
  |(refine cO ?_;conv=>whnf)
  |fail)
 all_goals rfl
theorem ev6(F:Fr)(p:Pr)(x:Ex)(a:Int)(h0:0<=a)(h1:a<F.inp.length):PCall Tryz.prog 57 [.ptr (F.cs p),x.d,.sl 1 [[.i a]]] (.ret (.i (at0 F.inp a))):=by
 refine ay Tryz.func57 ?_
 repeat' ((try conv=>whnf)<;>first
  |refine yz ?_
  |((refine eU (f:=aC) (0:Int) ?_ ?_ h0 h1 ?_);rfl;rfl)
  |refine fD ?_
  |(refine cO ?_;conv=>whnf)
  |fail)
 all_goals rfl
theorem ev7(F:Fr)(p:Pr)(x:Ex)(a:Int)(h0:0<=a)(h1:a<F.side.length):PCall Tryz.prog 58 [.ptr (F.cs p),x.d,.sl 1 [[.i a]]] (.ret (.i (at0 F.side a))):=by
 refine ay Tryz.func58 ?_
 repeat' ((try conv=>whnf)<;>first
  |refine yz ?_
  |((refine eU (f:=aC) (0:Int) ?_ ?_ h0 h1 ?_);rfl;rfl)
  |refine fD ?_
  |(refine cO ?_;conv=>whnf)
  |fail)
 all_goals rfl
theorem ev8(F:Fr)(p:Pr)(x:Ex)(a:Int)(h0:0<=x.index)(h1:x.index<F.lines.length)(h2:0<(rG F x.index).length/\(rG F x.index).length<=1073741824):PCall Tryz.prog 59 [.ptr (F.cs p),x.d,.sl 1 [[.i a]]] (.ret (.i (at0 (rG F x.index) (iO a 0 ((rG F x.index).length-1))))):=by
 refine ay Tryz.func59 ?_
 repeat' ((try conv=>whnf)<;>first
  |((refine eU (f:=lC) ([]:List Int) ?_ ?_ h0 h1 ?_);rfl;rfl)
  |((refine eU (f:=aC) (0:Int) ?_ ?_ (qX h2.1).1 (qX h2.1).2 ?_);rfl;rfl)
  |refine yz ?_
  |((refine ai ?_ ?_ ?_);rotate_left;(exact(J7 a (F.lines.getD x.index.toNat []) h2.2)))
  |refine fD ?_
  |(refine cO ?_;conv=>whnf)
  |fail)
 all_goals (unfold at0;rfl)
theorem ev9(F:Fr)(p:Pr)(x:Ex)(a:Int)(h0:0<=x.index)(h1:x.index<p.tables.length)(h2:0<(aF p x.index).length/\(aF p x.index).length<=1073741824):PCall Tryz.prog 61 [.ptr (F.cs p),x.d,.sl 1 [[.i a]]] (.ret (.i (at0 (aF p x.index) (iO a 0 ((aF p x.index).length-1))))):=by
 refine ay Tryz.func61 ?_
 repeat' ((try conv=>whnf)<;>first
  |((refine eU (f:=Tb.cs) Rg.Tb.none ?_ ?_ h0 h1 ?_);rfl;rfl)
  |((refine eU (f:=aC) (0:Int) ?_ ?_ (qX h2.1).1 (qX h2.1).2 ?_);rfl;rfl)
  |refine yz ?_
  |((refine ai ?_ ?_ ?_);rotate_left;(exact(J7 a (p.tables.getD x.index.toNat Tb.none).values h2.2)))
  |refine fD ?_
  |(refine cO ?_;conv=>whnf)
  |fail)
 all_goals (unfold at0;rfl)
theorem zhd(F:Fr)(p:Pr)(x:Ex)(a:Int)  : PCall Tryz.prog 62 [.ptr (F.cs p),x.d,.sl 1 [[.i a]]] (.ret (.i (iO a (-2147483648) 2147483647))):=by
 refine ay Tryz.func62 ?_
 repeat' ((try conv=>whnf)<;>first
  |refine yz ?_
  |((refine ai ?_ ?_ ?_);rotate_left;exact BL a _ _)
  |(refine cO ?_;conv=>whnf)
  |fail)
theorem zhe(F:Fr)(p:Pr)(x:Ex)(a b:Int)  : PCall Tryz.prog 63 [.ptr (F.cs p),x.d,.sl 1 [[.i a],[.i b]]] (.ret (.i (mm2 false a b))):=by
 refine ay Tryz.func63 ?_
 repeat' ((try conv=>whnf)<;>first
  |refine yz ?_
  |refine fD ?_
  |(refine cO ?_;conv=>whnf)
  |fail)
theorem zhf(F:Fr)(p:Pr)(x:Ex)(a b:Int)  : PCall Tryz.prog 64 [.ptr (F.cs p),x.d,.sl 1 [[.i a],[.i b]]] (.ret (.i (mm2 true a b))):=by
 refine ay Tryz.func64 ?_
 repeat' ((try conv=>whnf)<;>first
  |refine yz ?_
  |refine fD ?_
  |(refine cO ?_;conv=>whnf)
  |fail)
theorem zhg(F:Fr)(p:Pr)(x:Ex)(a:Int)(ha:inW a=true):PCall Tryz.prog 65 [.ptr (F.cs p),x.d,.sl 1 [[.i a]]] (.ret (.i (mm2 true a (-a)))):=by
 refine ay Tryz.func65 ?_
 repeat' ((try conv=>whnf)<;>first
  |refine yz ?_
  |refine fD ?_
  |(refine cO ?_;conv=>whnf)
  |fail)
 all_goals (rw[gu ha];done)
theorem zhh(F:Fr)(p:Pr)(x:Ex)(a:Int)(ha:inW a=true):PCall Tryz.prog 66 [.ptr (F.cs p),x.d,.sl 1 [[.i a]]] (.ret (.i (-a))):=by
 refine ay Tryz.func66 ?_
 repeat' ((try conv=>whnf)<;>first
  |refine yz ?_
  |(refine cO ?_;conv=>whnf)
  |fail)
 all_goals (rw[gu ha];done)
theorem zhi(F:Fr)(p:Pr)(x:Ex)(a b:Int)(hw:IntKind.i64.wrap (a+b)=a+b):PCall Tryz.prog 67 [.ptr (F.cs p),x.d,.sl 1 [[.i a],[.i b]]] (.ret (.i (a+b))):=by
 refine ay Tryz.func67 ?_
 repeat' ((try conv=>whnf)<;>first
  |refine yz ?_
  |refine fD ?_
  |(refine cO ?_;conv=>whnf)
  |fail)
 all_goals exact congrArg D.i hw
theorem zhj(F:Fr)(p:Pr)(x:Ex)(a b:Int)(hw:IntKind.i64.wrap (a-b)=a-b):PCall Tryz.prog 68 [.ptr (F.cs p),x.d,.sl 1 [[.i a],[.i b]]] (.ret (.i (a-b))):=by
 refine ay Tryz.func68 ?_
 repeat' ((try conv=>whnf)<;>first
  |refine yz ?_
  |refine fD ?_
  |(refine cO ?_;conv=>whnf)
  |fail)
 all_goals exact congrArg D.i hw
theorem zhk(F:Fr)(p:Pr)(x:Ex)(a b:Int)(hw:IntKind.i64.wrap (a * b)=a * b):PCall Tryz.prog 69 [.ptr (F.cs p),x.d,.sl 1 [[.i a],[.i b]]] (.ret (.i (a * b))):=by
 refine ay Tryz.func69 ?_
 repeat' ((try conv=>whnf)<;>first
  |refine yz ?_
  |refine fD ?_
  |(refine cO ?_;conv=>whnf)
  |fail)
 all_goals exact congrArg D.i hw
theorem zhl(F:Fr)(p:Pr)(x:Ex)(a:Int)(ha:inW a=true)(hn:1<=x.n):PCall Tryz.prog 70 [.ptr (F.cs p),x.d,.sl 1 [[.i a]]] (.ret (.i (iG a x.n))):=by
 refine ay Tryz.func70 ?_
 repeat' ((try conv=>whnf)<;>first
  |refine yz ?_
  |((refine ai ?_ ?_ ?_);rotate_left;(exact NG _ _ (by assumption) (by assumption)))
  |refine fD ?_
  |(refine cO ?_;conv=>whnf)
  |fail)
end Go.Proofs.YtaipffoajgkljaaGreatDoor
namespace Go.Proofs.YtaipffoajgkljaaGreatDoor
open Go.Fw Go.Fw.Ref15 Go.Fw.Rg Go.Fw.Tl Go.Fw.Mn
set_option maxRecDepth 10000
variable [af] {k i m : Int} {n : Nat} {p : Pr}
abbrev evD:List D:=[.val .nilFunc,.fn 53 [],.val .nilFunc,.fn 54 [],.fn 55 [],.fn 56 [],.fn 57 [],.fn 58 [],.fn 59 [],.fn 61 [],.fn 62 [],.fn 63 [],.fn 64 [],.fn 65 [],.fn 66 [],.fn 67 [],.fn 68 [],.fn 69 [],.fn 70 [],.val .nilFunc]
def evF(k:Int):Nat:=match evD.getD k.toNat (.val .nilFunc)with | .fn f _=>f |_=>0
theorem SK   : PCall Tryz.prog 26 [] (.ret (.agg evD)):=by
 refine ay Tryz.func26 ?_
 repeat' ((try conv=>whnf)<;>first
  |(refine cO ?_;conv=>whnf)
  |fail)
theorem zeb(hw:oP p n k i m=true)(h19:(k==19)=false):0<=k/\evD[k.toNat]? = some (.fn (evF k) []):=by
 rcases kinds hw with rfl |rfl |rfl |rfl |rfl |rfl |rfl |rfl |rfl |rfl |rfl |rfl |rfl |rfl |rfl |rfl |rfl |rfl
 all_goals first
  |exact⟨by decide,rfl⟩
  |exact Bool.noConfusion h19
theorem z9u(hw:oP p n k i m=true)(h19:(k==19)=false){z:Nat}(hz:z=1):List.drop (k.toNat * z) evD = .fn (evF k) []::List.drop (k.toNat+1) evD:=by
 subst hz
 obtain⟨h0,h1⟩:=zeb hw h19
 rw[Nat.mul_one]
 obtain⟨hl,e⟩:=List.getElem?_eq_some_iff.1 h1
 rw[List.drop_eq_getElem_cons hl,e]
theorem zf8(hw:oP p n k i m=true):k<((20:Nat):Int):=by
 rcases kinds hw with rfl |rfl |rfl |rfl |rfl |rfl |rfl |rfl |rfl |rfl |rfl |rfl |rfl |rfl |rfl |rfl |rfl |rfl<;>decide
theorem zf9(hw:oP p n k i m=true):Nat.beq (evF k) xK=false:=by
 rcases kinds hw with rfl |rfl |rfl |rfl |rfl |rfl |rfl |rfl |rfl |rfl |rfl |rfl |rfl |rfl |rfl |rfl |rfl |rfl<;>rfl
theorem z9v(F:Fr)(p:Pr)(found:List Sp)(x:Ex)(hF:z7g p found F)(h:XOk p found F x)(h19:(x.kind==19)=false) :
  PCall Tryz.prog (evF x.kind) [.ptr (F.cs p),x.d,.sl 1 ((valXs p (lfM F) x.l).map aC)] (.ret (.i (bC p (lfM F) x))):=by
 obtain⟨h1,h2,_⟩:=aV h.wf
 have hW:=h.inW hF
 have hin:∀y∈x.l,inW (bC p (lfM F) y)=true:=λy hy=>(h.part hy).inW hF
 have ha:=h.ahd x (z7f x)
 rw[MO]at hW ⊢
 have hs:(valXs p (lfM F) x.l).length=x.l.length:=z7h x.l
 have hi:∀v∈valXs p (lfM F) x.l,inW v=true:=by
  intro v hv;rw[Bo]at hv
  obtain⟨y,hy,rfl⟩:=List.mem_map.1 hv
  exact hin y hy
 have hl1:x.l.length=1->∃z,x.l = [z]:=λq=>by
  match x.l,q with
  | [z],_=>exact⟨z,rfl⟩
 have ha1:looks x=true->∀a,valXs p (lfM F) x.l = [a]->0<=a/\a<F.inp.length/\a<F.side.length:=by
  intro hk a e
  obtain⟨z,hz⟩:=hl1 (by rw[<-hs,e];rfl)
  have:=ha hk z hz
  rw[hz]at e
  cases e
  exact this
 generalize valXs p (lfM F) x.l=vs at *
 rw[<-hs]at h1
 unfold looks at ha1
 generalize hk:x.kind=k at *
 have nil:(vs.length:Int)=0->vs = []:=λh=>List.length_eq_zero_iff.1 (by omega)
 rcases kinds h2 with rfl |rfl |rfl |rfl |rfl |rfl |rfl |rfl |rfl |rfl |rfl |rfl |rfl |rfl |rfl |rfl |rfl |rfl
 ·exact ev1 F p x vs
 ·have q:=O8 h2 rfl
  exact ev3 F p x vs q.1 (by rw[hF.par];exact q.2)
 ·have q:=Ja h2 rfl
  exact ev4 F p x vs q.1 (by rw[hF.val];exact q.2)
 ·have q:=Ea h2 rfl
  exact ev5 F p x vs q.1 (by rw[hF.let_];exact q.2)
 ·obtain⟨a,rfl⟩:=xX (sl:=vs) (by have h1:(vs.length:Int)=1:=h1;omega)
  have q:=ha1 rfl a rfl
  exact ev6 F p x a q.1 q.2.1
 ·obtain⟨a,rfl⟩:=xX (sl:=vs) (by have h1:(vs.length:Int)=1:=h1;omega)
  have q:=ha1 rfl a rfl
  exact ev7 F p x a q.1 q.2.2
 ·obtain⟨a,rfl⟩:=xX (sl:=vs) (by have h1:(vs.length:Int)=1:=h1;omega)
  have q:=Jb h2 rfl
  have q2:x.index<F.lines.length:=by rw[hF.lin];exact q.2
  exact ev8 F p x a q.1 q2 (hF.lne _ (getD_mem' ([]:List Int) q.1 q2))
 ·obtain⟨a,rfl⟩:=xX (sl:=vs) (by have h1:(vs.length:Int)=1:=h1;omega)
  have q:(decide (0<=x.index)&&decide (x.index<p.tables.length) && !(aF p x.index==[]))=true:=h2
  simp only[Bool.and_eq_true,decide_eq_true_eq]at q
  exact ev9 F p x a q.1.1 q.1.2 ⟨Me h2 rfl,hF.tab _ (getD_mem' Rg.Tb.none q.1.1 q.1.2)⟩
 ·obtain⟨a,rfl⟩:=xX (sl:=vs) (by have h1:(vs.length:Int)=1:=h1;omega)
  exact zhd F p x a
 ·obtain⟨a,b,rfl⟩:=Jn (sl:=vs) (by have h1:(vs.length:Int)=2:=h1;omega)
  exact zhe F p x a b
 ·obtain⟨a,b,rfl⟩:=Jn (sl:=vs) (by have h1:(vs.length:Int)=2:=h1;omega)
  exact zhf F p x a b
 ·obtain⟨a,rfl⟩:=xX (sl:=vs) (by have h1:(vs.length:Int)=1:=h1;omega)
  exact zhg F p x a (hi a (by simp))
 ·obtain⟨a,rfl⟩:=xX (sl:=vs) (by have h1:(vs.length:Int)=1:=h1;omega)
  exact zhh F p x a (hi a (by simp))
 ·obtain⟨a,b,rfl⟩:=Jn (sl:=vs) (by have h1:(vs.length:Int)=2:=h1;omega)
  exact zhi F p x a b (wrap_in hW)
 ·obtain⟨a,b,rfl⟩:=Jn (sl:=vs) (by have h1:(vs.length:Int)=2:=h1;omega)
  exact zhj F p x a b (wrap_in hW)
 ·obtain⟨a,b,rfl⟩:=Jn (sl:=vs) (by have h1:(vs.length:Int)=2:=h1;omega)
  exact zhk F p x a b (wrap_in hW)
 ·obtain⟨a,rfl⟩:=xX (sl:=vs) (by have h1:(vs.length:Int)=1:=h1;omega)
  have q:(decide (1<=x.n)&&decide (x.n<=2147483648))=true:=h2
  simp only[Bool.and_eq_true,decide_eq_true_eq]at q
  exact zhl F p x a (hi a (by simp)) q.1
 ·exact Bool.noConfusion h19
theorem NH(x:Ex)(F:Fr)(p:Pr)(found:List Sp)(hF:z7g p found F)(hx:Ref15.nodes x<=1073741824)(h0:XOk p found F x):PCall Tryz.prog 27 [.ptr (F.cs p),.ptr evD,x.d] (.ret (.i (bC p (lfM F) x))):=by
 revert x;refine Ex.ind λx ih hx h0=>?_
 refine dh Tryz.func27 λhf=>?_
 have hN:=Ref15.nodes_eq x
 have hL:=Ref15.len_nodes x.l
 have hlen:x.l.length<=9223372036854775807:=by omega
 have g2:=(aV h0.wf).2.1
 have ih2:∀y∈x.l,PCall Tryz.prog 27 [.ptr (F.cs p),.ptr evD,y.d] (.ret (.i (bC p (lfM F) y))):=λy hy=>ih y hy (by have:=lN hy;omega) (h0.part hy)
 clear hf
 repeat' ((try conv=>whnf)<;>first
  |(have hk:(x.kind==19)=true:=h;clear h;obtain⟨a,b,c,d,hl,hv⟩:=zcn h0 hk;have hi:=zco hl)
  |((refine au ?_ ?_ ?_ ?_ ?_);rfl;rfl;rotate_left;(first |exact hi.1 |exact hi.2.1 |exact hi.2.2.1 |exact hi.2.2.2))
  |rw[z9u (z:=(Tryz.T.at 78).size) g2 (by assumption) (by kernel_rfl)]
  |refine P6 (zf9 g2) ?_
  |exact trivial
  |exact aj hd0 ‹_›
  |refine jA hd0 ?_
  |refine fK hd0 ?_
  |refine BrI.intro (λh=>?_) (λh=>?_)
  |((refine ak.mk 0 ?_);refine⟨aB (x.l) 45 (λ(sl:(List Int))=>[(7,.gs 900007 1 (sl.map aC))]) (λ(sl:(List Int))=>[(900007,.tok 1 (sl.map aC).length)]) [0,1,5,43,44] (λi0 r0 sl=>sl++valXs p (lfM F) r0=valXs p (lfM F) x.l/\sl.length=i0),?_⟩;refine ag [] ?_ ?_ (λi0 (sl:(List Int)) hd0 hI0=>?_) (λi0 x0 r0 (sl:(List Int)) hd0 hl0 hI0=>?_))
  |refine ah hd0 (sl++[bC p (lfM F) x0]) ?_ ?_
  |((refine ai ?_ ?_ ?_);rotate_left;(first |exact ih2 a (by rw[hl];simp) |exact ih2 b (by rw[hl];simp) |exact ih2 c (by rw[hl];simp) |exact ih2 d (by rw[hl];simp) |exact ih2 _ (aX hd0) |(rw[Zo hI0.1];exact z9v F p found x hF h0 (by assumption))))
  |refine aW.l _ ?_
  |((refine dS ?_ ?_ ?_ ?_ ?_ ?_)<;>exact rfl)
  |((refine dL ?_ ?_ ?_ ?_)<;>exact rfl)
  |((refine au ?_ ?_ ?_ ?_ ?_);rfl;rfl;rotate_left;exact dR hd0)
  |refine lY ?_
  |refine FB ?_ ?_ ?_
  |refine fD ?_
  |(refine cO ?_;conv=>whnf)
  |refine And.intro ?_ ?_
  |((refine qo ?_ ?_ ?_);rfl;rfl;(first |exact dU |skip))
  |((refine iK ?_ ?_);rfl;(first |exact dU |skip))
  |exact @rfl AV _
  |exact fA rfl
  |fail)
 all_goals first
  |rfl
  |exact congrArg D.i (zgw hv h)
  |exact congrArg D.i (zgx hv h)
  |exact(zeb g2 (by assumption)).1
  |exact zf8 g2
  |exact Wi hI0.1
  |(rw[List.length_append,hI0.2];rfl)
  |(rw[List.length_map];omega)
end Go.Proofs.YtaipffoajgkljaaGreatDoor
namespace Go.Proofs.YtaipffoajgkljaaGreatDoor
open Go.Fw Go.Fw.Ref15 Go.Fw.Rg Go.Fw.Tl Go.Fw.Mn
set_option maxRecDepth 10000
variable [af]
theorem SL(x:Int)  : PCall Tryz.prog 51 [.i x] (.ret (.b (z7i x))):=by
 refine ay Tryz.func51 ?_
 repeat' ((try conv=>whnf)<;>first
  |(refine cO ?_;conv=>whnf)
  |fail)
 all_goals rfl
theorem J8(l:List Int)(hl:l.length<=1073741824):PCall Tryz.prog 94 [.sl 1 (l.map aC),.fn 51 []] (.ret (.i (jM z7i l 0))):=by
 refine dh Tryz.func94 λhf=>?_
 have hlen:l.length<=9223372036854775807:=by omega
 clear hf
 repeat' ((try conv=>whnf)<;>first
  |exact trivial
  |exact aj hd0 ‹_›
  |refine aZ hd0 ?_
  |refine aK hd0 ?_
  |refine BrI.intro (λh=>?_) (λh=>?_)
  |((refine ak.mk 0 ?_);refine⟨aB (l) 8 (λ(_:Unit)=>[]) (λ(_:Unit)=>[]) [0,1,7] (λi0 r0 _=>jM z7i l 0=jM z7i r0 i0),?_⟩;refine ag () ?_ ?_ (λi0 (_:Unit) hd0 hI0=>?_) (λi0 x0 r0 (_:Unit) hd0 hl0 hI0=>?_))
  |refine ah hd0 () ?_ ?_
  |((refine ai ?_ ?_ ?_);rotate_left;exact SL _)
  |((refine au ?_ ?_ ?_ ?_ ?_);rfl;rfl;rotate_left;exact ax hd0)
  |(refine cO ?_;conv=>whnf)
  |refine And.intro ?_ ?_
  |exact @rfl AV _
  |fail)
 all_goals first
  |rfl
  |exact Bq hI0 h
  |exact congrArg D.i (Ej hI0 h).symm
  |exact congrArg D.i hI0.symm
theorem BM(l:List Int)(hl:l.length<=1073741824):PCall Tryz.prog 50 [.sl 1 (l.map aC),.fn 51 []] (.ret (.b (l.any z7i))):=by
 refine ay Tryz.func50 ?_
 repeat' ((try conv=>whnf)<;>first
  |((refine ai ?_ ?_ ?_);rotate_left;exact J8 l hl)
  |(refine cO ?_;conv=>whnf)
  |fail)
 all_goals exact congrArg D.b (xw l 0 (Int.le_refl _))
theorem iF(l:List Int)(n:Int)(hl:l.length<=1073741824):PCall Tryz.prog 17 [.sl 1 (l.map aC),.i n] (.ret (.b (qY l n))):=by
 refine ay Tryz.func17 ?_
 repeat' ((try conv=>whnf)<;>first
  |((refine ai ?_ ?_ ?_);rotate_left;exact BM l hl)
  |((refine aY ?_ ?_ (λhg=>?_) ?_);rfl)
  |((refine bY ?_ ?_);rfl;rfl)
  |(refine cO ?_;conv=>whnf)
  |fail)
 all_goals (simp only[qY,List.length_map];done)
theorem mX(l:List Int)(bs:List Bd)(hl:l.length<=1073741824):PCall Tryz.prog 16 [.sl 1 (l.map aC),.sl 3 (bs.map Bd.cs)] (.ret (.b (jQ l bs))):=by
 refine ay Tryz.func16 ?_
 repeat' ((try conv=>whnf)<;>first
  |exact trivial
  |exact aj hd0 ‹_›
  |((refine dB hd0 ?_ ?_);(assumption))
  |((refine bK hd0 ?_ ?_);(assumption))
  |refine BrI.intro (λh=>?_) (λh=>?_)
  |((refine ak.mk 0 ?_);have heq:l.length=bs.length:=lne (by simpa only [List.length_map]using h);have hz:(l.zip bs).length=(l.map aC).length:=(by rw[List.length_map];exact zfa heq);have hlen:(l.zip bs).length<=9223372036854775807:=(by rw[hz,List.length_map];omega);refine⟨aB (l.zip bs) 14 (λ(_:Unit)=>[]) (λ(_:Unit)=>[]) [1,12,13] (λi0 r0 _=>Wj (l.zip bs)=Wj r0),?_⟩;refine ag () ?_ ?_ (λi0 (_:Unit) hd0 hI0=>?_) (λi0 x0 r0 (_:Unit) hd0 hl0 hI0=>?_))
  |refine ah hd0 () ?_ ?_
  |((refine au ?_ ?_ ?_ ?_ ?_);rfl;rfl;rotate_left;(first |exact gp hd0 |exact gq hd0))
  |((refine aY ?_ ?_ (λhg=>?_) ?_);rfl)
  |((refine bY ?_ ?_);rfl;rfl)
  |(refine cO ?_;conv=>whnf)
  |refine And.intro ?_ ?_
  |exact @rfl AV _
  |fail)
 all_goals first
  |exact Zp hI0 h
  |exact congrArg D.b (zcp (by simpa only [List.length_map]using h))
  |exact congrArg D.b ((z7k hI0 h).trans (Wp heq).symm)
  |exact congrArg D.b (Eq.trans (Wp heq) hI0).symm
theorem SN(x:Ln)(v:Int)  : LCall Tryz.prog 52 [.data (.i v),.ptr 1000000 0] [(1000000,.cells (x.cs.map .data))] (.ret (.data (.b (z7j x v)))) [(1000000,.cells (x.cs.map .data))]:=by
 refine dC Tryz.func52 ?_
 repeat' ((try conv=>whnf)<;>first
  |exact trivial
  |((refine aP ?_);refine fin_step' [] rfl ?_ ?_)
  |refine And.intro ?_ ?_
  |fail)
 all_goals rfl
theorem J9(x:Ln)(l:List Int)(hl:l.length<=1073741824):LCall Tryz.prog 94 [.data (.sl 1 (l.map aC)),.fn 52 [.ptr 1000000 0]] [(1000000,.cells (x.cs.map .data))] (.ret (.data (.i (jM (z7j x) l 0)))) [(1000000,.cells (x.cs.map .data))]:=by
 refine jK Tryz.func94 λhf=>?_
 have hlen:l.length<=9223372036854775807:=by omega
 clear hf
 repeat' ((try conv=>whnf)<;>first
  |exact trivial
  |exact aj hd0 ‹_›
  |refine aZ hd0 ?_
  |refine aK hd0 ?_
  |refine BrI.intro (λh=>?_) (λh=>?_)
  |((refine ak.mk 0 ?_);refine⟨aB (l) 8 (λ(_:Unit)=>[]) (λ(_:Unit)=>[(1000000,.cells (x.cs.map .data))]) [0,1,7] (λi0 r0 _=>jM (z7j x) l 0=jM (z7j x) r0 i0),?_⟩;refine ag () ?_ ?_ (λi0 (_:Unit) hd0 hI0=>?_) (λi0 x0 r0 (_:Unit) hd0 hl0 hI0=>?_))
  |refine ah hd0 () ?_ ?_
  |((refine lent_step' [] (SN x x0) ?_ ?_ ?_ ?_);rotate_left 0;rfl;(exact⟨rfl,trivial⟩);rfl)
  |((refine aP ?_);refine fin_step' [] rfl ?_ ?_)
  |((refine au ?_ ?_ ?_ ?_ ?_);rfl;rfl;rotate_left;exact ax hd0)
  |refine And.intro ?_ ?_
  |exact @rfl AV _
  |exact @rfl (List AV) _
  |fail)
 all_goals first
  |rfl
  |exact Bq hI0 h
  |exact congrArg D.i (Ej hI0 h).symm
  |exact congrArg D.i hI0.symm
theorem BN(x:Ln)(l:List Int)(hl:l.length<=1073741824):LCall Tryz.prog 50 [.data (.sl 1 (l.map aC)),.fn 52 [.ptr 1000000 0]] [(1000000,.cells (x.cs.map .data))] (.ret (.data (.b (l.any (z7j x))))) [(1000000,.cells (x.cs.map .data))]:=by
 refine dC Tryz.func50 ?_
 repeat' ((try conv=>whnf)<;>first
  |exact trivial
  |((refine lent_step' [] (J9 x l hl) ?_ ?_ ?_ ?_);rotate_left 0;rfl;(exact⟨rfl,trivial⟩);rfl)
  |((refine aP ?_);refine fin_step' [] rfl ?_ ?_)
  |refine And.intro ?_ ?_
  |fail)
 all_goals exact congrArg D.b (xw l 0 (Int.le_refl _))
theorem BO(p:Pr)(s:St)(hs:s.Sm):PCall Tryz.prog 18 [p.d,s.d] (.ret (.b (mQ p s))):=by
 refine dh Tryz.func18 λhf=>?_
 have g7:=hs.line;have g8:=hs.lines
 clear hf
 repeat' ((try conv=>whnf)<;>first
  |exact trivial
  |exact aj hd0 ‹_›
  |((refine dB hd0 ?_ ?_);(assumption))
  |((refine bK hd0 ?_ ?_);(assumption))
  |refine BrI.intro (λh=>?_) (λh=>?_)
  |((refine ak.mk 0 ?_);have heq:=z7m (p:=p) (s:=s) (by simpa only [List.length_map]using h);have hz:(s.lines.zip p.lines).length=(p.lines.map Ln.cs).length:=(by rw[List.length_map,zfa heq.1];exact heq.1);have hlen:(s.lines.zip p.lines).length<=9223372036854775807:=(by rw[zfa heq.1];omega);refine⟨aB (s.lines.zip p.lines) 26 (λ(_:Unit)=>[]) (λ(_:Unit)=>[]) [3,24,25] (λi0 r0 _=>Wl (s.lines.zip p.lines)=Wl r0),?_⟩;refine ag () ?_ ?_ (λi0 (_:Unit) hd0 hI0=>?_) (λi0 x0 r0 (_:Unit) hd0 hl0 hI0=>?_))
  |refine ah hd0 () ?_ ?_
  |((refine ai ?_ ?_ ?_);rotate_left;exact mX _ _ hs.vals)
  |((refine lent_step' [(1000000,6)] (BN x0.2 x0.1 (g7 _ (List.of_mem_zip (aX hd0)).1)) ?_ ?_ ?_ ?_);rotate_left 0;rfl;(exact⟨rfl,trivial⟩);rfl)
  |((refine au ?_ ?_ ?_ ?_ ?_);rfl;rfl;rotate_left;(first |exact gp hd0 |exact gq hd0))
  |refine lY ?_
  |((refine tK ?_ ?_ (λhg=>?_) ?_);rfl)
  |((refine bY ?_ ?_);rfl;rfl)
  |refine fD ?_
  |(refine cO ?_;conv=>whnf)
  |refine And.intro ?_ ?_
  |exact @rfl AV _
  |fail)
 all_goals first
  |rfl
  |exact Zq hI0 (by simpa only [zao,List.length_map]using h)
  |exact congrArg D.b (zcq (by simpa only [List.length_map]using h))
  |exact congrArg D.b ((z7l hI0 (by simpa only [zao,List.length_map]using h)).trans heq.2.symm)
  |exact congrArg D.b (Eq.trans heq.2 hI0).symm
theorem NI(l:List Int)(hl:l.length<=1073741824):LCall Tryz.prog 19 [.data (.sl 1 (l.map aC))] [] (.ret (.own 1000000 1 1 0 l.length)) [(1000000,.arr 1 1 (l.map aC))]:=by
 refine dC Tryz.func19 ?_
 repeat' ((try conv=>whnf)<;>first
  |refine aW.r 5 ?_
  |(obtain rfl:l = []:=(List.length_eq_zero_iff.1 (by simpa using hz));clear hz;refine Gm [(2,.own 5 1 1 0 0)] [(5,.arr 1 1 [])] ?_ ?_)
  |exact trivial
  |refine BrI.tt ?_
  |refine BrI.ff ?_
  |refine XR.mk (λhz=>?_) ?_
  |((refine mJ ?_ ?_ ?_ ?_ ?_ ?_ ?_ ?_);rfl;rfl;rfl;exact fA rfl;rfl;exact Nat.zero_le _;(rw[List.length_map];exact hl))
  |refine fin_step' [(1000000,5)] rfl ?_ ?_
  |exact Wq rfl ((Nat.zero_add _).trans (List.length_map _))
  |exact PM rfl
  |((refine aP ?_);refine fin_step' [(1000000,5)] rfl ?_ ?_)
  |((refine dL ?_ ?_ ?_ ?_)<;>exact rfl)
  |refine And.intro ?_ ?_
  |exact @rfl AV _
  |exact @rfl Block _
  |fail)
 all_goals rfl
theorem Ko(l:List (List Int))(hl:l.length<=1073741824):LCall Tryz.prog 20 [.data (.sl 1 (l.map lC))] [] (.ret (.own 1000000 1 1 0 l.length)) [(1000000,.arr 1 1 (l.map lC))]:=by
 refine dC Tryz.func20 ?_
 repeat' ((try conv=>whnf)<;>first
  |refine aW.r 5 ?_
  |(obtain rfl:l = []:=(List.length_eq_zero_iff.1 (by simpa using hz));clear hz;refine Gm [(2,.own 5 1 1 0 0)] [(5,.arr 1 1 [])] ?_ ?_)
  |exact trivial
  |refine BrI.tt ?_
  |refine BrI.ff ?_
  |refine XR.mk (λhz=>?_) ?_
  |((refine mJ ?_ ?_ ?_ ?_ ?_ ?_ ?_ ?_);rfl;rfl;rfl;exact fA rfl;rfl;exact Nat.zero_le _;(rw[List.length_map];exact hl))
  |refine fin_step' [(1000000,5)] rfl ?_ ?_
  |exact Wq rfl ((Nat.zero_add _).trans (List.length_map _))
  |exact PM rfl
  |((refine aP ?_);refine fin_step' [(1000000,5)] rfl ?_ ?_)
  |((refine dL ?_ ?_ ?_ ?_)<;>exact rfl)
  |refine And.intro ?_ ?_
  |exact @rfl AV _
  |exact @rfl Block _
  |fail)
 all_goals rfl
theorem z0t(s:Sm)(n:Int)  : PCall Tryz.prog 21 [s.d,.i n] (.ret (.tuple [])):=by
 refine ay Tryz.func21 ?_
 repeat' ((try conv=>whnf)<;>first
  |(refine cO ?_;conv=>whnf)
  |fail)
theorem z0u(s:Sm)(n o:Int)  : LCall Tryz.prog 25 [.data s.d,.data (.i n),.ptr 1000000 0] [(1000000,.cells [.data (.i o)])] (.ret (.data (.tuple []))) [(1000000,.cells [.data (.i n)])]:=by
 refine dC Tryz.func25 ?_
 repeat' ((try conv=>whnf)<;>first
  |exact trivial
  |((refine aP ?_);refine fin_step' [(1000000,1000000)] rfl ?_ ?_)
  |refine And.intro ?_ ?_
  |fail)
theorem z0v(p:Pr)(F:Fr)(s:Sm)(n:Int)(h0:0<=s.index)(h1:s.index<F.vals.length):LCall Tryz.prog 22 [.data s.d,.data (.i n),.ptr 1000000 0] [(1000000,.cells [.ptr 1000001 0]),(1000001,.cells (FA p F 1000002 1000003 1000004)),(1000002,.arr 1 1 (F.vals.map aC)),(1000003,.arr 1 1 (F.lines.map lC)),(1000004,.tok 1 (F.lets.map aC).length)] (.ret (.data (.tuple []))) [(1000000,.cells [.ptr 1000001 0]),(1000001,.cells (FA p F 1000002 1000003 1000004)),(1000002,.arr 1 1 ((F.vals.set s.index.toNat n).map aC)),(1000003,.arr 1 1 (F.lines.map lC)),(1000004,.tok 1 (F.lets.map aC).length)]:=by
 refine dC Tryz.func22 ?_
 repeat' ((try conv=>whnf)<;>first
  |exact trivial
  |((refine jd ?_ ?_ ?_ ?_ ?_);rfl;rfl;rfl;exact⟨h0,h1⟩)
  |((refine fQ ?_ ?_ ?_ ?_ ?_ ?_ ?_ ?_ ?_);rfl;rfl;rfl;rfl;exact fA rfl;rfl;rotate_left;exact zcr h0 h1)
  |((refine aP ?_);refine fin_step' [(1000000,1000000),(1000001,1000001),(1000002,1000002),(1000003,1000003),(1000004,1000004)] rfl ?_ ?_)
  |refine fD ?_
  |refine And.intro ?_ ?_
  |((refine bz ?_);refine fB ?_ ?_ ?_;rfl;rfl;(first |exact rfl |skip))
  |exact @rfl AV _
  |fail)
 all_goals exact congrArg (Block.arr 1 1) z7n
theorem z0w(p:Pr)(F:Fr)(s:Sm)(n:Int)(b:Nat)(pu:List (Sm×Int))(hl:pu.length<=1073741824):LCall Tryz.prog 23 [.data s.d,.data (.i n),.ptr 1000000 0,.ptr 1000001 0] [(1000000,.cells [.gs 1000002 1 (pu.map (pC 24 b))]),(1000001,.cells [.ptr 1000004 0]),(1000002,.tok 1 (pu.map (pC 24 b)).length),(1000003,.adr 1000001 b),(1000004,.cells (FA p F 1000005 1000006 1000007)),(1000005,.arr 1 1 (F.vals.map aC)),(1000006,.arr 1 1 (F.lines.map lC)),(1000007,.tok 1 (F.lets.map aC).length)] (.ret (.data (.tuple []))) [(1000000,.cells [.gs 1000002 1 ((pu++[(s,n)]).map (pC 24 b))]),(1000001,.cells [.ptr 1000004 0]),(1000002,.tok 1 ((pu++[(s,n)]).map (pC 24 b)).length),(1000003,.adr 1000001 b),(1000004,.cells (FA p F 1000005 1000006 1000007)),(1000005,.arr 1 1 (F.vals.map aC)),(1000006,.arr 1 1 (F.lines.map lC)),(1000007,.tok 1 (F.lets.map aC).length)]:=by
 refine oL tok hmix ⟨[1],[]⟩ Tryz.func23 rfl (by kernel_rfl) (by kernel_rfl) (by kernel_rfl) λhf=>?_
 clear hf
 repeat' ((try conv=>whnf)<;>first
  |exact trivial
  |((refine ak.mk 1 ?_);refine⟨⟨Unit,λ_=>[(3,.data (.val (.pointer (some ⟨b,0,none⟩)))),(4,.data (.ptr s.cs)),(5,.data (.ptr [.i n]))],λ_=>[(1000001,.cells [.ptr 1000004 0]),(1000003,.adr 1000001 b),(1000004,.cells (FA p F 1000005 1000006 1000007)),(1000005,.arr 1 1 (F.vals.map aC)),(1000006,.arr 1 1 (F.lines.map lC)),(1000007,.tok 1 (F.lets.map aC).length)],[2],λ_=>True,λ_=>0⟩,?_,λ_ _=>?_⟩)
  |refine Cb.l ?_
  |refine⟨(),trivial,?_⟩
  |((refine aP ?_);refine fin_step' [(1000000,1000000),(1000001,1000001),(1000002,1000002),(1000003,1000003),(1000004,1000004),(1000005,1000005),(1000006,1000006),(1000007,1000007)] rfl ?_ ?_)
  |refine aW.l _ ?_
  |refine FB ?_ ?_ ?_
  |refine And.intro ?_ ?_
  |((refine iK ?_ ?_);rfl;(first |skip))
  |((refine bz ?_);refine fB ?_ ?_ ?_;rfl;rfl;(first |exact rfl |skip))
  |exact @rfl AV _
  |exact @rfl Block _
  |exact fA rfl
  |fail)
 all_goals first
  |(rw[List.length_map];exact hl)
  |exact z7o rfl
  |rfl
theorem z0x(p:Pr)(F:Fr)(s:Sm)(n:Int)(h0:0<=s.index)(h1:s.index<F.lines.length)(h2:0<(rG F s.index).length/\(rG F s.index).length<=1073741824):LCall Tryz.prog 24 [.ptr 1000000 0,.data (.ptr s.cs),.data (.ptr [.i n])] [(1000000,.cells [.ptr 1000001 0]),(1000001,.cells (FA p F 1000002 1000003 1000004)),(1000002,.arr 1 1 (F.vals.map aC)),(1000003,.arr 1 1 (F.lines.map lC)),(1000004,.tok 1 (F.lets.map aC).length)] (.ret (.data (.tuple []))) [(1000000,.cells [.ptr 1000001 0]),(1000001,.cells (FA p F 1000002 1000003 1000004)),(1000002,.arr 1 1 (F.vals.map aC)),(1000003,.arr 1 1 ((pushL F.lines (s,n)).map lC)),(1000004,.tok 1 (F.lets.map aC).length)]:=by
 refine dC Tryz.func24 ?_
 repeat' ((try conv=>whnf)<;>first
  |exact trivial
  |((refine jd ?_ ?_ ?_ ?_ ?_);rfl;rfl;rfl;exact⟨h0,h1⟩)
  |((refine jC ?_ ?_ ?_ ?_ ?_ ?_ ?_);rfl;rfl;rotate_left 2;exact Ws h0 h1;rfl)
  |((refine fQ ?_ ?_ ?_ ?_ ?_ ?_ ?_ ?_ ?_);rfl;rfl;rfl;rfl;exact fA rfl;rfl;rotate_left;exact Ws h0 h1)
  |((refine aP ?_);refine fin_step' [(1000000,1000000),(1000001,1000001),(1000002,1000002),(1000003,1000003),(1000004,1000004)] rfl ?_ ?_)
  |refine aW.l _ ?_
  |refine FB ?_ ?_ ?_
  |refine fD ?_
  |refine And.intro ?_ ?_
  |((refine bz ?_);refine fB ?_ ?_ ?_;rfl;rfl;(first |exact rfl |skip))
  |exact @rfl AV _
  |exact fA rfl
  |fail)
 all_goals first
  |(rw[Zn h2.2];omega)
  |(have hq:=h2;rw[Zn h2.2,List.length_map];show((rG F s.index).length:Int)-1<=(rG F s.index).length;omega)
  |(rw[zcs h2,List.length_map,List.length_dropLast];omega)
  |((try(conv=>whnf));exact z7p rfl h2)
  |rfl
theorem XH(p:Pr)(found:List Sp)(F:Fr)(x:Ex){n m:Nat}(hn:n=F.vals.length)(hm:m=F.lines.length)(hF:z7g p found F)(hx:Ref15.nodes x<=1073741824)(h0:XOk p found F x) :
  PCall Tryz.prog 27 [.ptr [.sl 1 (F.lets.map aC),.str p.name,.i p.latency,.i p.tail,.sl 3 (p.params.map Bd.cs),.sl 3 (p.states.map Bd.cs),.sl 4 (p.lines.map Ln.cs),.sl 2 (p.tables.map Tb.cs),.sl 8 (p.stmts.map Sm.cs),
   .sl 1 (F.params.map aC),.sl 1 (F.inp.map aC),.sl 1 (F.side.map aC),.sl 1 (((F.vals.map aC).drop 0).take n),.sl 1 (((F.lines.map lC).drop 0).take m)],.ptr evD,x.d] (.ret (.i (bC p (lfM F) x))):=by
 subst hn hm
 rw[List.drop_zero,List.drop_zero,List.take_of_length_le (by simp),List.take_of_length_le (by simp)]
 exact NH x F p found hF hx h0
def KQ(s:Sm):Prop:=s.kind=1\/s.kind=2\/s.kind=3\/s.kind=4
theorem zhm{k c:Int}{z:Nat}(h:k=c):k.toNat * z=c.toNat * z:=by rw[h]
theorem XI(p:Pr)(A:Fr)(q:Ss){i:Nat}{s:Sm}{r:List Sm}{n m:Nat}(hn:n=q.vals.length)(hm:m=A.lines.length)(hK:nU p A)(hd:p.stmts.drop i=s::r)(hq:q=gB p A i) :
  PCall Tryz.prog 27 [.ptr [.sl 1 (q.lets.map aC),.str p.name,.i p.latency,.i p.tail,.sl 3 (p.params.map Bd.cs),.sl 3 (p.states.map Bd.cs),.sl 4 (p.lines.map Ln.cs),.sl 2 (p.tables.map Tb.cs),.sl 8 (p.stmts.map Sm.cs),
   .sl 1 (A.params.map aC),.sl 1 (A.inp.map aC),.sl 1 (A.side.map aC),.sl 1 (((q.vals.map aC).drop 0).take n),.sl 1 (((A.lines.map lC).drop 0).take m)],.ptr evD,s.x.d] (.ret (.i (ji p A q s))):=by
 subst hq
 have hs:=mD hd
 obtain⟨found,hF,hX⟩:=hK.fr i s hs
 exact XH p found (A.at (gB p A i)) s.x hn hm hF (hK.nod s (List.mem_of_getElem? hs)) hX
theorem z0y(G:Nat){K:Heap}{q:Heap->Prop}(_:(K.get G).isSome=true)(h2:q K):Cb K q:=Cb.l h2
theorem z9w{i v s o k:Nat}{l:List Int}{x:Int}:AV.own i v s o l.length=AV.own i v s o (l.set k x).length:=by rw[List.length_set]
theorem z0z{i v s o:Nat}{ls:List (List Int)}{x:Sm×Int}:AV.own i v s o ls.length=AV.own i v s o (pushL ls x).length:=by rw[pushL,List.length_set]
theorem z9x{n m:Nat}{X:List (List D)}{k:List (List D)->Prop}(h1:n<=m)(h2:k X):∃r,(n<=m/\r=X)/\k r:=⟨X,⟨h1,rfl⟩,h2⟩
theorem z00{p:Pr}{A:Fr}{q:Ss}{i:Nat}{ls:List (List Int)}(h:q=gB p A i)(hd:p.stmts.drop i = [])(h2:q.pu.foldl pushL A.lines=ls) :
  D.tuple [.i q.out,.agg [.sl 1 (((q.vals.map aC).drop 0).take q.vals.length),.sl 1 (((ls.map lC).drop 0).take ls.length)],.i 0]=D.tuple [.i (stepM p A).1,(stepM p A).2.d,.i 0]:=by
 rw[List.drop_zero,List.drop_zero,List.take_of_length_le (by simp),List.take_of_length_le (by simp)]
 exact(Mn.step_ret h hd h2).symm
theorem z9y{p:Pr}{A:Fr}{q:Ss}{s:Sm}{i:Nat}{r:List Sm}(h:q=gB p A i)(hd:p.stmts.drop i=s::r)(hk:s.kind=1):(⟨q.lets++[ji p A q s],q.vals,q.out,q.pu⟩:Ss)=gB p A (i+1):=by rw[<-z7r hk];exact step_next h hd
theorem z9z{p:Pr}{A:Fr}{q:Ss}{s:Sm}{i:Nat}{r:List Sm}(h:q=gB p A i)(hd:p.stmts.drop i=s::r)(hk:s.kind=2):(⟨q.lets++[ji p A q s],q.vals.set s.index.toNat (ji p A q s),q.out,q.pu⟩:Ss)=gB p A (i+1):=by rw[<-WA hk];exact step_next h hd
theorem z90{p:Pr}{A:Fr}{q:Ss}{s:Sm}{i:Nat}{r:List Sm}(h:q=gB p A i)(hd:p.stmts.drop i=s::r)(hk:s.kind=3):(⟨q.lets++[ji p A q s],q.vals,q.out,q.pu++[(s,ji p A q s)]⟩:Ss)=gB p A (i+1):=by rw[<-z7s hk];exact step_next h hd
theorem z92{p:Pr}{A:Fr}{q:Ss}{s:Sm}{i:Nat}{r:List Sm}(h:q=gB p A i)(hd:p.stmts.drop i=s::r)(hk:s.kind=4):(⟨q.lets++[ji p A q s],q.vals,ji p A q s,q.pu⟩:Ss)=gB p A (i+1):=by rw[<-z7t hk];exact step_next h hd
theorem zga{A:Fr}{ls:List (List Int)}{i:Int}(h:zcu A ls)(h1:i<A.lines.length):i<(ls.length:Nat):=by rw[h.1];exact h1
theorem zec{p:Pr}{A:Fr}{q:Ss}{i:Nat}(hK:nU p A)(h:q=gB p A i)(hi:i<p.stmts.length):q.pu.length<=1073741824:=by
 have:=hK.len
 have:=z7q (p:=p) (A:=A) (i:=i) (by omega)
 rw[h];omega
theorem zgb{p:Pr}{A:Fr}{q:Ss}{i:Nat}(hK:nU p A)(h:q=gB p A i):q.pu.length<=9223372036854775807:=by
 have:=(qZ (p:=p) (A:=A) (p.stmts.take i) (ss0 A)).2.2
 have hk:=hK.len
 have e:(ss0 A).pu.length=0:=rfl
 rw[List.length_take,e]at this
 rw[h,gB];omega
theorem zed{p:Pr}{A:Fr}{q:Ss}{i:Nat}{n:Int}(h:q=gB p A i)(hn:n<A.vals.length):n<(q.vals.length:Nat):=by rw[h,Bv];exact hn
structure ASm(A:Fr):Prop where
 par:A.params.length<=1073741824
 inp:A.inp.length<=1073741824
 sid:A.side.length<=1073741824
theorem step_bad(p:Pr)(A:Fr)(e:Int)(hc:PCall Tryz.prog 15 [p.d] (.ret (.i e)))(he:(e != 0)=true):PCall Tryz.prog 6 [p.d,.sl 1 (A.params.map aC),.sl 1 (A.inp.map aC),.sl 1 (A.side.map aC),(⟨A.vals,A.lines⟩:St).d] (.ret (.tuple [.i 0,(⟨[],[]⟩:St).d,.i e])):=by
 refine ay Tryz.func6 ?_
 repeat' ((try conv=>whnf)<;>first
  |exact Bool.noConfusion (he.symm.trans h)
  |refine BrI.intro (λh=>?_) (λh=>?_)
  |((refine ai ?_ ?_ ?_);rotate_left;exact hc)
  |refine fD ?_
  |(refine cO ?_;conv=>whnf)
  |fail)
 all_goals rfl
theorem z01(p:Pr)(A:Fr)(hc:PCall Tryz.prog 15 [p.d] (.ret (.i 0)))(ha:ASm A)(hb:Zt p A=true):PCall Tryz.prog 6 [p.d,.sl 1 (A.params.map aC),.sl 1 (A.inp.map aC),.sl 1 (A.side.map aC),(⟨A.vals,A.lines⟩:St).d] (.ret (.tuple [.i 0,(⟨[],[]⟩:St).d,.i 1])):=by
 refine ay Tryz.func6 ?_
 repeat' ((try conv=>whnf)<;>first
  |((refine BrI.ff_of ?_ ?_);exact rfl)
  |exact Bool.noConfusion (hb.symm.trans h)
  |refine BrI.intro (λh=>?_) (λh=>?_)
  |((refine ai ?_ ?_ ?_);rotate_left;(first |exact hc |exact mX _ _ ha.par |exact iF _ _ ha.inp |exact iF _ _ ha.sid))
  |((refine aY ?_ ?_ (λhg=>?_) ?_);exact rfl)
  |((refine bY ?_ ?_);exact rfl;exact rfl)
  |refine fD ?_
  |(refine cO ?_;conv=>whnf)
  |fail)
 all_goals rfl
theorem SQ(p:Pr)(A:Fr)(hc:PCall Tryz.prog 15 [p.d] (.ret (.i 0)))(ha:ASm A)(hs:(⟨A.vals,A.lines⟩:St).Sm)(hb:Zt p A=false)(hv:mQ p ⟨A.vals,A.lines⟩=false):PCall Tryz.prog 6 [p.d,.sl 1 (A.params.map aC),.sl 1 (A.inp.map aC),.sl 1 (A.side.map aC),(⟨A.vals,A.lines⟩:St).d] (.ret (.tuple [.i 0,(⟨[],[]⟩:St).d,.i 180])):=by
 refine ay Tryz.func6 ?_
 repeat' ((try conv=>whnf)<;>first
  |((refine BrI.ff_of ?_ ?_);exact rfl)
  |exact Bool.noConfusion (hb.symm.trans h)
  |exact Bool.noConfusion ((congrArg (!·) hv).symm.trans h)
  |refine BrI.intro (λh=>?_) (λh=>?_)
  |((refine ai ?_ ?_ ?_);rotate_left;(first |exact hc |exact mX _ _ ha.par |exact iF _ _ ha.inp |exact iF _ _ ha.sid |exact BO p ⟨A.vals,A.lines⟩ hs))
  |((refine aY ?_ ?_ (λhg=>?_) ?_);exact rfl)
  |((refine bY ?_ ?_);exact rfl;exact rfl)
  |refine fD ?_
  |(refine cO ?_;conv=>whnf)
  |fail)
 all_goals rfl
theorem step_ok(p:Pr)(A:Fr)(hc:PCall Tryz.prog 15 [p.d] (.ret (.i 0)))(ha:ASm A)(hs:(⟨A.vals,A.lines⟩:St).Sm)(hb:Zt p A=false)(hv:mQ p ⟨A.vals,A.lines⟩=true)(hK:nU p A):PCall Tryz.prog 6 [p.d,.sl 1 (A.params.map aC),.sl 1 (A.inp.map aC),.sl 1 (A.side.map aC),(⟨A.vals,A.lines⟩:St).d] (.ret (.tuple [.i (stepM p A).1,(stepM p A).2.d,.i 0])):=by
 refine gI tok hmix ⟨[9,17,22],[]⟩ Tryz.func6 rfl (by kernel_rfl) (by kernel_rfl) (by kernel_rfl) λhf=>?_
 have hl_b:p.stmts.length<=9223372036854775807:=by have:=hK.len;omega
 clear hf
 repeat' ((try conv=>whnf)<;>first
  |((refine BrI.ff_of ?_ ?_);exact rfl)
  |exact Bool.noConfusion (hb.symm.trans h)
  |exact Bool.noConfusion ((congrArg (!·) hv).symm.trans h)
  |refine⟨(),hK.knd x0 (aX hd0),?_⟩
  |refine⟨(),zcw hK hI0 hd0 hd2,?_⟩
  |obtain⟨hp0,hp1⟩:=hpq
  |(rcases hkq with hk |hk |hk |hk)
  |exact trivial
  |exact aj hd2 ‹_›
  |exact aj hd0 ‹_›
  |refine aZ hd2 ?_
  |refine aZ hd0 ?_
  |refine aK hd2 ?_
  |refine aK hd0 ?_
  |refine BrI.intro (λh=>?_) (λh=>?_)
  |((refine ak.mk 9 ?_);refine⟨⟨Nat,λb=>[(13,.ptr 13 0)],λb=>[(13,.cells [.ptr 67 0]),(67,.cells (FA p ((A.at (ss0 A))) 800100 800200 900010)),(800100,.arr 1 1 ((ss0 A).vals.map aC)),(800200,.arr 1 1 (A.lines.map lC)),(900010,.tok 1 ((ss0 A).lets.map aC).length),(999001,.adr 13 b)],[5,10,11],λ_=>True,λ_=>0⟩,?_,λb _=>?_⟩)
  |((refine z0y 999001 ?_ ?_);exact rfl)
  |refine Cb.adr 999001 13 rfl (λb=>?_)
  |rw[zhm (z:=(Tryz.T.at 75).size) hk]
  |rw[z7r hk]
  |rw[WA hk]
  |rw[z7s hk]
  |rw[z7t hk]
  |exact z9w
  |exact z0z
  |refine z9x (by simp) ?_
  |refine⟨b,trivial,?_⟩
  |((refine ak.mk 17 ?_);refine⟨⟨Unit,λ_=>[(18,.ptr 18 0),(19,.data (.i (ji p A q x0)))],λ_=>[(18,.cells (x0.cs.map .data)),(10,.cells [.data (.i q.out)]),(13,.cells [.ptr 67 0]),(67,.cells (FA p ((A.at (⟨q.lets++[(ji p A q x0)],q.vals,q.out,q.pu⟩:Ss))) 800100 800200 900010)),(800100,.arr 1 1 ((⟨q.lets++[(ji p A q x0)],q.vals,q.out,q.pu⟩:Ss).vals.map aC)),(800200,.arr 1 1 (A.lines.map lC)),(900010,.tok 1 ((⟨q.lets++[(ji p A q x0)],q.vals,q.out,q.pu⟩:Ss).lets.map aC).length),(999001,.adr 13 b),(14,.cells [.gs 900020 1 ((⟨q.lets++[(ji p A q x0)],q.vals,q.out,q.pu⟩:Ss).pu.map (pC 24 b))]),(900020,.tok 1 ((⟨q.lets++[(ji p A q x0)],q.vals,q.out,q.pu⟩:Ss).pu.map (pC 24 b)).length)],[10,11,13,14,15,16,74,75,76],λ_=>KQ x0,λ_=>0⟩,?_,λ_ hkq=>?_⟩)
  |((refine ak.mk 22 ?_);refine⟨⟨Unit,λ_=>[(21,.fn 24 [.ptr 13 0,.data (.ptr x2.1.cs),.data (.ptr [.i x2.2])])],λ_=>[(10,.cells [.data (.i q.out)]),(13,.cells [.ptr 67 0]),(67,.cells (FA p ((⟨A.params,A.inp,A.side,q.vals,ls,q.lets⟩:Fr)) 800100 800200 900010)),(800100,.arr 1 1 (q.vals.map aC)),(800200,.arr 1 1 (ls.map lC)),(900010,.tok 1 (q.lets.map aC).length),(999001,.adr 13 b),(14,.cells [.gs 900020 1 (q.pu.map (pC 24 b))]),(900020,.tok 1 (q.pu.map (pC 24 b)).length)],[10,11,13,104,105,106],λ_=>0<=x2.1.index/\x2.1.index<A.lines.length,λ_=>0⟩,?_,λ_ hpq=>?_⟩)
  |((refine ak.mk 0 ?_);refine⟨aB (p.stmts) 76 (λ(q:(Ss))=>[]) (λ(q:(Ss))=>[(10,.cells [.data (.i q.out)]),(13,.cells [.ptr 67 0]),(67,.cells (FA p ((A.at q)) 800100 800200 900010)),(800100,.arr 1 1 (q.vals.map aC)),(800200,.arr 1 1 (A.lines.map lC)),(900010,.tok 1 (q.lets.map aC).length),(999001,.adr 13 b),(14,.cells [.gs 900020 1 (q.pu.map (pC 24 b))]),(900020,.tok 1 (q.pu.map (pC 24 b)).length)]) [10,11,13,14,15,16,74,75] (λi0 r0 q=>q=gB p A i0),?_⟩;refine ag (ss0 A) ?_ ?_ (λi0 (q:(Ss)) hd0 hI0=>?_) (λi0 x0 r0 (q:(Ss)) hd0 hl0 hI0=>?_))
  |refine ah hd0 (pq p A q x0) ?_ ?_
  |((refine ak.mk 2 ?_);have hl_p:q.pu.length<=9223372036854775807:=zgb hK hI0;refine⟨aB (q.pu) 106 (λ(ls:(List (List Int)))=>[]) (λ(ls:(List (List Int)))=>[(10,.cells [.data (.i q.out)]),(13,.cells [.ptr 67 0]),(67,.cells (FA p ((⟨A.params,A.inp,A.side,q.vals,ls,q.lets⟩:Fr)) 800100 800200 900010)),(800100,.arr 1 1 (q.vals.map aC)),(800200,.arr 1 1 (ls.map lC)),(900010,.tok 1 (q.lets.map aC).length),(999001,.adr 13 b),(14,.cells [.gs 900020 1 (q.pu.map (pC 24 b))]),(900020,.tok 1 (q.pu.map (pC 24 b)).length)]) [10,11,13,104,105] (λi2 r2 ls=>q.pu.foldl pushL A.lines=r2.foldl pushL ls/\zcu A ls),?_⟩;refine ag (A.lines) ?_ ?_ (λi2 (ls:(List (List Int))) hd2 hI2=>?_) (λi2 x2 r2 (ls:(List (List Int))) hd2 hl2 hI2=>?_))
  |refine ah hd2 (pushL ls x2) ?_ ?_
  |((refine ai ?_ ?_ ?_);rotate_left;(first |exact SK |exact hc |exact mX _ _ ha.par |exact iF _ _ ha.inp |exact iF _ _ ha.sid |exact BO p ⟨A.vals,A.lines⟩ hs |exact z0t x0 (ji p A q x0)))
  |((refine uX ?_ ?_);exact rfl)
  |((refine IJ ?_ ?_ ?_);rotate_left;(exact XI p A q (Int.toNat_natCast _) (Int.toNat_natCast _) hK hd0 hI0))
  |((refine eP [(1000000,800100)] (NI A.vals hs.vals) ?_ ?_ ?_ ?_);rotate_left 0;exact rfl;exact trivial;exact rfl)
  |((refine eP [(1000000,800200)] (Ko A.lines hs.lines) ?_ ?_ ?_ ?_);rotate_left 0;exact rfl;exact trivial;exact rfl)
  |((refine lent_step' [(1000000,13),(1000001,67),(1000002,800100),(1000003,800200),(1000004,900010)] (z0v p (A.at (⟨q.lets++[(ji p A q x0)],q.vals,q.out,q.pu⟩:Ss)) x0 (ji p A q x0) (hK.set x0 (aX hd0) hk).1 (zed hI0 (hK.set x0 (aX hd0) hk).2)) ?_ ?_ ?_ ?_);rotate_left 0;exact rfl;(exact⟨rfl,rfl,rfl,rfl,rfl,trivial⟩);exact rfl)
  |((refine lent_step' [(1000000,14),(1000001,13),(1000002,900020),(1000003,999001),(1000004,67),(1000005,800100),(1000006,800200),(1000007,900010)] (z0w p (A.at (⟨q.lets++[(ji p A q x0)],q.vals,q.out,q.pu⟩:Ss)) x0 (ji p A q x0) b q.pu (zec hK hI0 hl0)) ?_ ?_ ?_ ?_);rotate_left 0;exact rfl;(exact⟨rfl,rfl,rfl,rfl,rfl,rfl,rfl,rfl,trivial⟩);exact rfl)
  |((refine lent_step' [(1000000,10)] (z0u x0 (ji p A q x0) q.out) ?_ ?_ ?_ ?_);rotate_left 0;exact rfl;(exact⟨rfl,trivial⟩);exact rfl)
  |((refine lent_step' [(1000000,13),(1000001,67),(1000002,800100),(1000003,800200),(1000004,900010)] (z0x p (⟨A.params,A.inp,A.side,q.vals,ls,q.lets⟩:Fr) x2.1 x2.2 hp0 (zga hI2.2 hp1) (z2u hI2.2 hp0 hp1)) ?_ ?_ ?_ ?_);rotate_left 0;exact rfl;(exact⟨rfl,rfl,rfl,rfl,rfl,trivial⟩);exact rfl)
  |refine aW.l _ ?_
  |((refine dS ?_ ?_ ?_ ?_ ?_ ?_)<;>exact rfl)
  |((refine dL ?_ ?_ ?_ ?_)<;>exact rfl)
  |((refine au ?_ ?_ ?_ ?_ ?_);exact rfl;exact rfl;rotate_left;(first |exact ax hd2 |exact ax hd0))
  |refine lY ?_
  |refine FB ?_ ?_ ?_
  |((refine aY ?_ ?_ (λhg=>?_) ?_);exact rfl)
  |((refine bY ?_ ?_);exact rfl;exact rfl)
  |refine fD ?_
  |(refine cO ?_;conv=>whnf)
  |refine And.intro ?_ ?_
  |((refine qo ?_ ?_ ?_);exact rfl;exact rfl;(first |exact dU |exact rfl |skip))
  |((refine iK ?_ ?_);exact rfl;(first |exact dU |skip))
  |exact @rfl AV _
  |exact @rfl Block _
  |exact fA rfl
  |fail)
 all_goals first
  |exact zct p A
  |exact hK.lne
  |exact hI2.1
  |exact(Wx hI2.2 hp0 hp1).1
  |exact(Wx hI2.2 hp0 hp1).2
  |exact z00 hI0 hd0 hI2.1
  |exact z9y hI0 hd0 hk
  |exact z9z hI0 hd0 hk
  |exact z90 hI0 hd0 hk
  |exact z92 hI0 hd0 hk
  |(rw[List.length_map];show q.lets.length<=_;rw[hI0,Jo (by omega)];have:=hK.len;omega)
  |omega
  |(simp;done)
  |rfl
theorem XJ(p:Pr)(A:Fr)(g:gy p)(ha:ASm A)(hs:(⟨A.vals,A.lines⟩:Mn.St).Sm) :
  PCall Tryz.prog 6 [p.d,.sl 1 (A.params.map aC),.sl 1 (A.inp.map aC),.sl 1 (A.side.map aC),(⟨A.vals,A.lines⟩:Mn.St).d] (.ret (.tuple [.i (Gq p A).1,(Gq p A).2.1.d,.i (Gq p A).2.2])):=by
 have hc:=xG p g
 unfold Gq
 cases h:(jF p != 0)with
 |true=>exact step_bad p A _ hc h
 |false=>
  have h0:jF p=0:=by simpa using h
  rw[h0]at hc
  rw[if_neg (by decide)]
  cases hb:Zt p A with
  |true=>exact z01 p A hc ha hb
  |false=>
   rw[if_neg (by decide)]
   cases hv:mQ p ⟨A.vals,A.lines⟩with
   |false=>exact SQ p A hc ha hs hb hv
   |true=>exact step_ok p A hc ha hs hb hv (Eo h0 hb hv)
end Go.Proofs.YtaipffoajgkljaaGreatDoor
