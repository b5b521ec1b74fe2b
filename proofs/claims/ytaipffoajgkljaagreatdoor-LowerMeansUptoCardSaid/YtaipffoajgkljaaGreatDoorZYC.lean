/- A part of the proof. -/
import Derived.Test.YtaipffoajgkljaaGreatDoorZXA
import Derived.Test.YtaipffoajgkljaaGreatDoorZYB_
import Derived.Test.YtaipffoajgkljaaGreatDoorZTB
set_option linter.all false
set_option maxHeartbeats 8000000
namespace Go.Proofs.YtaipffoajgkljaaGreatDoor
open Go.Fw Go.Fw.Rg Go.Fw.Nam
set_option maxRecDepth 10000
variable [af]
theorem J6(p:Pr)(g:gy p):∃pd,PCall Tryz.prog 101 [p.d] (.ret (.tuple [pd,.i (aJ p).2]))/\(((aJ p).2 != 0)=true->pd = .val (.pointer none)\/pd = .ptr (fC p (iH p p.stmts [])))/\((aJ p).2=0->pd = .ptr (fC p (aJ p).1)):=by
 cases he:resE p != 0 with
 |true=>
  rw[qV he]
  refine⟨.val (.pointer none),?_,λ_=>.inl rfl,λh=>?_⟩
  ·cases h2:(resolveC p).2 != 0 with
   |true=>rw[show resE p=(resolveC p).2 from by rw[resE,if_pos h2]];exact z0h p g h2
   |false=>
    cases h3:su p (resolveC p).1 with
    |true=>rw[resE,if_neg (by rw[h2];decide),h3]at he;exact absurd he (by decide)
    |false=>rw[show resE p=150 from by rw[resE,if_neg (by rw[h2];decide),h3];rfl];exact z0i p g h2 h3
  ·have h:resE p=0:=h
   rw[h]at he;exact absurd he (by decide)
 |false=>
  have hz:resE p=0:=by simpa using he
  have hr:=yZ hz
  have hq:=I9 hz
  cases hs:bU p p.stmts []with
  |ok F=>
   rw[qU hz hs]
   have hF:iH p p.stmts []=F:=z6n hs
   exact⟨.ptr (fC p F),z0j p F g (by rw[hq]) (by rw[hq]) hr.rng hr.wf hs hF,λh=>Bool.noConfusion (show false=true from h),λ_=>rfl⟩
  |error e=>
   rw[Bg hz hs]
   refine⟨.ptr (fC p (iH p p.stmts [])),XA p _ e g (by rw[hq]) (by rw[hq]) hr.rng hr.wf hs rfl,λ_=>.inr rfl,λh=>?_⟩
   have:=VC hs
   have h:e=0:=h
   rw[h]at this;exact absurd this (by decide)
theorem NC(p:Pr)(g:gy p):PCall Tryz.prog 98 [p.d] (.ret (.i (aJ p).2)):=by
 obtain⟨pd,h1,h2,h3⟩:=J6 p g
 exact check_any p pd _ h1
theorem CS(p:Pr)(x:Ex)(g:gy p)(hx:Ref15.nodes x<=1073741824):PCall Tryz.prog 90 [p.d,x.d] (.ret (zgv (gK p x))):=by
 obtain⟨pd,h1,h2,h3⟩:=J6 p g
 cases he:(aJ p).2 != 0 with
 |true=>
  rw[z6m he]
  rcases h2 he with r |r
  ·subst r;exact z9i p x _ h1 he
  ·subst r;exact z9j p x _ _ h1 he
 |false=>
  have hz:(aJ p).2=0:=by simpa using he
  have h3:=h3 hz;subst h3
  rw[hz]at h1
  have hb:=(kH hz).1
  cases hx2:Gf p x with
  |false=>rw[VE hz hx2];exact z0m p x _ h1 hx2
  |true=>
   rw[VF hz hx2]
   have hf:=xC x p (aJ p).1 hb.res.rng hb.ins g.hT hx (zb6 hb hx2)
   cases hm:dE p (aJ p).1 x with
   |ok s=>rw[hm]at hf;exact zd6 p x _ s h1 hx2 hf
   |error e=>rw[hm]at hf;exact z9k p x _ e h1 hx2 hf
end Go.Proofs.YtaipffoajgkljaaGreatDoor
namespace Go.Proofs.YtaipffoajgkljaaGreatDoor
open Go.Fw Go.Fw.Rg Go.Fw.Nam Go.Fw.Tl
set_option maxRecDepth 10000
variable [af]
theorem zf5{p:Pr}(h:((resolveC p).2 != 0)=true):(resolveC p).2=(aJ p).2:=by
 have e:resE p=(resolveC p).2:=by rw[resE,if_pos h]
 rw[qV (by rw[e];exact h),e]
theorem zf6{p:Pr}(h:((resolveC p).2 != 0)=false)(h2:(!su (resolveC p).1 p)=true):(150:Int)=(aJ p).2:=by
 have h3:su p (resolveC p).1=false:=by
  cases q:su p (resolveC p).1 with
  |false=>rfl
  |true=>
   have e:=(je _ _).1 q
   rw[(je _ _).2 e.symm]at h2
   exact Bool.noConfusion h2
 have e:resE p=150:=by rw[resE,h,if_neg (by decide),if_neg (by rw[h3];decide)]
 rw[qV (by rw[e];decide),e]
theorem xE(p:Pr)(g:gy p):PCall Tryz.prog 88 [p.d] (.ret (.i (aJ p).2)):=by
 refine ay Tryz.func88 ?_
 repeat' ((try conv=>whnf)<;>first
  |refine BrI.intro (λh=>?_) (λh=>?_)
  |((refine ai ?_ ?_ ?_);rotate_left;(first |exact kZ _ _ |exact kM p g.sm g.hn |exact NC p g))
  |(refine cO ?_;conv=>whnf)
  |fail)
 all_goals first
  |exact congrArg D.i (zf5 h)
  |exact congrArg D.i (zf6 ‹_› h)
theorem GN(p:Pr)(g:gy p)(h:(aJ p).2=0):PCall Tryz.prog 88 [p.d] (.ret (.i 0)):=by
 have:=xE p g;rwa[h]at this
theorem z9o(p:Pr)(z:Ex)(s:Sp)(g:gy p)(h:gK p z = .ok s)(hz:Ref15.nodes z<=1073741824):PCall Tryz.prog 90 [p.d,z.d] (.ret (.tuple [.i s.1,.i s.2,.i 0])):=by
 have:=CS p z g hz;rw[h]at this;exact this
theorem z9p(p:Pr)(g:gy p)(hb:((aJ p).2 != 0)=true):PCall Tryz.prog 48 [p.d] (.ret (.tuple [.i 0,.i (aJ p).2])):=by
 refine ay Tryz.func48 ?_
 repeat' ((try conv=>whnf)<;>first
  |exact Bool.noConfusion (hb.symm.trans h)
  |refine BrI.intro (λh=>?_) (λh=>?_)
  |((refine ai ?_ ?_ ?_);rotate_left;exact xE p g)
  |refine fD ?_
  |(refine cO ?_;conv=>whnf)
  |fail)
theorem zd9(p:Pr)(F:List Sp)(g:gy p)(hb:BOk p F):PCall Tryz.prog 48 [p.d] (.ret (.tuple [.i (XU p),.i 0])):=by
 refine dh Tryz.func48 λhf=>?_
 have hs5:=g.sm.stmts
 have hl_b:p.stmts.length<=9223372036854775807:=by omega
 clear hf
 repeat' ((try conv=>whnf)<;>first
  |((refine BrI.ff_of ?_ ?_);exact rfl)
  |((refine lF.mk 25 ?_);refine⟨rfl,⟨[(1,.ptr 1 0),(2,.ptr 2 0),(3,.ptr 3 0),(16,.data (.sl 8 (p.stmts.map Sm.cs))),(17,.data (.i ((p.stmts.map Sm.cs).length:Nat))),(18,.data (.i (i0:Nat))),(24,.fn 99 [.ptr 800001 0])],[(1,.cells [.data (.str p.name),.data (.i p.latency),.data (.i p.tail),.data (.sl 3 (p.params.map Bd.cs)),.data (.sl 3 (p.states.map Bd.cs)),.data (.sl 4 (p.lines.map Ln.cs)),.data (.sl 2 (p.tables.map Tb.cs)),.data (.sl 8 (p.stmts.map Sm.cs))]),(2,.cells [.data (.i n)]),(3,.cells [.data (.i 0)]),(800001,.cells [.data (.i x0.x.kind),.data (.str x0.x.name),.data (.i x0.x.index),.data (.i x0.x.n),.data (.sl 5 (Ex.css x0.x.l))])],[(1000000,2),(1000001,1),(1000002,3)],[(1,.ptr 1000001 0),(2,.ptr 1000000 0),(3,.ptr 1000002 0)],λj=>[(1000000,.cells [.data (.i (We p n x0.x j))]),(1000001,.cells [.data (.str p.name),.data (.i p.latency),.data (.i p.tail),.data (.sl 3 (p.params.map Bd.cs)),.data (.sl 3 (p.states.map Bd.cs)),.data (.sl 4 (p.lines.map Ln.cs)),.data (.sl 2 (p.tables.map Tb.cs)),.data (.sl 8 (p.stmts.map Sm.cs))]),(1000002,.cells [.data (.i 0)])],(aA x0.x).length,λj=>[((aA x0.x).getD j Ex.none).d],900002,none⟩,⟨?_,rfl,rfl,?_,?_,λj hj=>⟨rfl,rfl,?_⟩,λ_ _ e=>J5 e,⟨_,_,rfl,rfl,λRf Re hy hy2=>⟨1000000,[.ptr 1000001 0],[(1000001,.cells [.data (.i x0.x.kind),.data (.str x0.x.name),.data (.i x0.x.index),.data (.i x0.x.n),.data (.sl 5 (Ex.css x0.x.l))])],.data (.tuple []),[(1000001,.cells [.data (.i x0.x.kind),.data (.str x0.x.name),.data (.i x0.x.index),.data (.i x0.x.n),.data (.sl 5 (Ex.css x0.x.l))])],[(1000000,900002),(1000001,800001)],EE x0.x Rf (λj y hj=>MN (P:=λn d=>LCall Tryz.prog xK [.yld 1000000,.data d] [(1000000,.rnd (Rf n))] (.ret (.b true)) [(1000000,.rnd (Rf (n+1)))]) hy j y (List.getElem?_eq_some_iff.1 hj).1 hj),rfl,?_,rfl,rfl,?_⟩⟩⟩⟩)
  |(have hq:=z7d (n:=n) hb g hd0 hj (by assumption);clear hj;obtain⟨z,s,hz1,hz2,hz3,hz4⟩:=hq)
  |(have hz4:=zcj (p:=p) (n:=n) hj (by assumption);clear hj)
  |((refine au ?_ ?_ ?_ ?_ ?_);exact rfl;exact rfl;rotate_left;exact Zm hz1)
  |exact trivial
  |exact aj hd0 ‹_›
  |refine aZ hd0 ?_
  |refine aK hd0 ?_
  |refine BrI.intro (λh=>?_) (λh=>?_)
  |((refine ak.mk 0 ?_);refine⟨aB (p.stmts) 18 (λ(n:(Int))=>[]) (λ(n:(Int))=>[(1,.cells [.data (.str p.name),.data (.i p.latency),.data (.i p.tail),.data (.sl 3 (p.params.map Bd.cs)),.data (.sl 3 (p.states.map Bd.cs)),.data (.sl 4 (p.lines.map Ln.cs)),.data (.sl 2 (p.tables.map Tb.cs)),.data (.sl 8 (p.stmts.map Sm.cs))]),(2,.cells [.data (.i n)]),(3,.cells [.data (.i 0)])]) [2,3,16,17,1] (λi0 r0 n=>XU p=r0.foldl (zan p) n),?_⟩;refine ag (0) ?_ ?_ (λi0 (n:(Int)) hd0 hI0=>?_) (λi0 x0 r0 (n:(Int)) hd0 hl0 hI0=>?_))
  |refine ah hd0 (We p n x0.x (aA x0.x).length) ?_ ?_
  |((refine ai ?_ ?_ ?_);rotate_left;(first |exact GN p g (Zk hb) |exact z9o p z s g hz2 hz3))
  |((refine eP [(1000000,800001)] (uh x0.x) ?_ ?_ ?_ ?_);rotate_left 0;exact rfl;exact trivial;exact rfl)
  |((refine au ?_ ?_ ?_ ?_ ?_);exact rfl;exact rfl;rotate_left;exact ax hd0)
  |refine lY ?_
  |refine fD ?_
  |(refine cO ?_;conv=>whnf)
  |refine And.intro ?_ ?_
  |exact @rfl AV _
  |exact @rfl (List AV) _
  |fail)
 all_goals first
  |rfl
  |(rw[Zl];exact hI0)
  |exact congrArg (λz=>D.tuple [.i z,.i 0]) hI0.symm
  |exact congrArg (λz=>AV.data (D.i z)) hz4.symm
theorem yf(p:Pr)(g:gy p):PCall Tryz.prog 48 [p.d] (.ret (.tuple [.i (oV p).1,.i (oV p).2])):=by
 cases h:((aJ p).2 != 0)with
 |true=>rw[oV,if_pos h];exact z9p p g h
 |false=>rw[oV,if_neg (by rw[h];decide)];exact zd9 p _ g (kH (by simpa using h)).1
end Go.Proofs.YtaipffoajgkljaaGreatDoor
namespace Go.Proofs.YtaipffoajgkljaaGreatDoor
open Go.Fw Go.Fw.Ref15 Go.Fw.Rg Go.Fw.Tl
set_option maxRecDepth 10000
variable [af] {p : Pr}
theorem z0o(a b:D):Il Tryz.prog 93 [.ptr 1000000 0,.ptr 1000001 0] (some zd7) [(1000000,.cells [.data a]),(1000001,.cells [.data b])] [(1000000,.cells [.data (.i (-1))]),(1000001,.cells [.data (.i 0)])]:=by
 refine ja tok hmix Tryz.func93 rfl (by kernel_rfl) (by kernel_rfl) (by kernel_rfl) ?_
 repeat' ((try conv=>whnf)<;>first
  |exact trivial
  |refine⟨([]:List (Nat×Nat)),?_⟩
  |refine⟨by kernel_rfl,?_⟩
  |refine⟨rfl,?_⟩
  |refine⟨?_,?_⟩
  |fail)
theorem z9q(a b:D):Il Tryz.prog 93 [.ptr 1000000 0,.ptr 1000001 0] none [(1000000,.cells [.data a]),(1000001,.cells [.data b])] [(1000000,.cells [.data a]),(1000001,.cells [.data b])]:=by
 refine ja tok hmix Tryz.func93 rfl (by kernel_rfl) (by kernel_rfl) (by kernel_rfl) ?_
 repeat' ((try conv=>whnf)<;>first
  |exact trivial
  |refine⟨([]:List (Nat×Nat)),?_⟩
  |refine⟨by kernel_rfl,?_⟩
  |refine⟨rfl,?_⟩
  |refine⟨?_,?_⟩
  |fail)
theorem P8{g:Bool}{ks:List KS}{l:List (Key×Int)}{k:Key}{v:Int}{c:Bool}(h:c=true):Block.map g ks (mput (.agg [.i k.1,.i k.2]) (.i v) (l.map kkD))=Block.map g ks ((if c then XV k v l else l).map kkD):=by rw[VQ,if_pos h]
theorem P9{g:Bool}{ks:List KS}{l:List (Key×Int)}{k:Key}{v:Int}{c:Bool}(h:c=false):Block.map g ks (l.map kkD)=Block.map g ks ((if c then XV k v l else l).map kkD):=by rw[if_neg (by rw[h];decide)]
theorem XD{i:Nat}{S:List (Key×Int)}(h:bf p=z2c [] i S):bf p=S:=h
theorem Ba(h:p.stmts.length<=1073741824):IntKind.i64.wrap (((p.stmts.map Sm.cs).length:Int)-1)=(p.stmts.length:Int)-1:=by rw[List.length_map];exact aO (by omega) (by omega)
theorem SB{i:Nat}{S:List (Key×Int)}{s':AS}{v:Int}(hl:p.stmts.length<=67108864)(hS:bf p=z2c [] i S)(hA:J4 p (bf p) ⟨[],[]⟩ ((p.stmts.length:Int)-1) v s'):LCall Tryz.prog 92 [.data (.i (IntKind.i64.wrap (((p.stmts.map Sm.cs).length:Int)-1))),.ptr 1000001 0,.ptr 1000002 0,.ptr 1000003 0,.ptr 1000004 0] [(1000001,.cells [.map 1000005]),(1000002,.cells [.map 1000006]),(1000003,.cells [.data (.str p.name),.data (.i p.latency),.data (.i p.tail),.data (.sl 3 (p.params.map Bd.cs)),.data (.sl 3 (p.states.map Bd.cs)),.data (.sl 4 (p.lines.map Ln.cs)),.data (.sl 2 (p.tables.map Tb.cs)),.data (.sl 8 (p.stmts.map Sm.cs))]),(1000004,.cells [.fn 91 [.ptr 1000007 0,.ptr 1000008 0,.ptr 1000003 0]]),(1000005,.map false [.int .i64] []),(1000006,.map false [.int .i64] []),(1000007,.cells [.fn 92 [.ptr 1000001 0,.ptr 1000002 0,.ptr 1000003 0,.ptr 1000004 0]]),(1000008,.cells [.map 1000009]),(1000009,.map true [.int .i64,.int .i64] (S.map kkD))] (.ret (.data (.i v))) [(1000001,.cells [.map 1000005]),(1000002,.cells [.map 1000006]),(1000003,.cells [.data (.str p.name),.data (.i p.latency),.data (.i p.tail),.data (.sl 3 (p.params.map Bd.cs)),.data (.sl 3 (p.states.map Bd.cs)),.data (.sl 4 (p.lines.map Ln.cs)),.data (.sl 2 (p.tables.map Tb.cs)),.data (.sl 8 (p.stmts.map Sm.cs))]),(1000004,.cells [.fn 91 [.ptr 1000007 0,.ptr 1000008 0,.ptr 1000003 0]]),(1000005,.map false [.int .i64] (s'.opn.map ibD)),(1000006,.map false [.int .i64] (s'.ages.map iiD)),(1000007,.cells [.fn 92 [.ptr 1000001 0,.ptr 1000002 0,.ptr 1000003 0,.ptr 1000004 0]]),(1000008,.cells [.map 1000009]),(1000009,.map true [.int .i64,.int .i64] (S.map kkD))]:=by
 rw[XD hS]at hA;rw[Ba (by omega)];exact hA
theorem ND{i:Nat}{S:List (Key×Int)}{s':AS}(hl:p.stmts.length<=67108864)(hS:bf p=z2c [] i S)(hA:BJ p (bf p) ⟨[],[]⟩ ((p.stmts.length:Int)-1) s'):LCall Tryz.prog 92 [.data (.i (IntKind.i64.wrap (((p.stmts.map Sm.cs).length:Int)-1))),.ptr 1000001 0,.ptr 1000002 0,.ptr 1000003 0,.ptr 1000004 0] [(1000001,.cells [.map 1000005]),(1000002,.cells [.map 1000006]),(1000003,.cells [.data (.str p.name),.data (.i p.latency),.data (.i p.tail),.data (.sl 3 (p.params.map Bd.cs)),.data (.sl 3 (p.states.map Bd.cs)),.data (.sl 4 (p.lines.map Ln.cs)),.data (.sl 2 (p.tables.map Tb.cs)),.data (.sl 8 (p.stmts.map Sm.cs))]),(1000004,.cells [.fn 91 [.ptr 1000007 0,.ptr 1000008 0,.ptr 1000003 0]]),(1000005,.map false [.int .i64] []),(1000006,.map false [.int .i64] []),(1000007,.cells [.fn 92 [.ptr 1000001 0,.ptr 1000002 0,.ptr 1000003 0,.ptr 1000004 0]]),(1000008,.cells [.map 1000009]),(1000009,.map true [.int .i64,.int .i64] (S.map kkD))] (.pan (.data zd7)) [(1000001,.cells [.map 1000005]),(1000002,.cells [.map 1000006]),(1000003,.cells [.data (.str p.name),.data (.i p.latency),.data (.i p.tail),.data (.sl 3 (p.params.map Bd.cs)),.data (.sl 3 (p.states.map Bd.cs)),.data (.sl 4 (p.lines.map Ln.cs)),.data (.sl 2 (p.tables.map Tb.cs)),.data (.sl 8 (p.stmts.map Sm.cs))]),(1000004,.cells [.fn 91 [.ptr 1000007 0,.ptr 1000008 0,.ptr 1000003 0]]),(1000005,.map false [.int .i64] (s'.opn.map ibD)),(1000006,.map false [.int .i64] (s'.ages.map iiD)),(1000007,.cells [.fn 92 [.ptr 1000001 0,.ptr 1000002 0,.ptr 1000003 0,.ptr 1000004 0]]),(1000008,.cells [.map 1000009]),(1000009,.map true [.int .i64,.int .i64] (S.map kkD))]:=by
 rw[XD hS]at hA;rw[Ba (by omega)];exact hA
theorem z9r(p:Pr)(g:gy p)(hb:((aJ p).2 != 0)=true):PCall Tryz.prog 49 [p.d] (.ret (.tuple [.i 0,.i (aJ p).2])):=by
 refine ay Tryz.func49 ?_
 repeat' ((try conv=>whnf)<;>first
  |exact Bool.noConfusion (hb.symm.trans h)
  |refine BrI.intro (λh=>?_) (λh=>?_)
  |((refine ai ?_ ?_ ?_);rotate_left;exact xE p g)
  |refine fD ?_
  |(refine cO ?_;conv=>whnf)
  |fail)
theorem zea(p:Pr)(v:Int)(s':AS)(g:gy p)(hb:(aJ p).2=0)(hA:J4 p (bf p) ⟨[],[]⟩ ((p.stmts.length:Int)-1) v s'):PCall Tryz.prog 49 [p.d] (.ret (.tuple [.i v,.i 0])):=by
 refine dh Tryz.func49 λhf=>?_
 have hs5:=g.sm.stmts
 have hl_b:p.stmts.length<=9223372036854775807:=by omega
 clear hf
 repeat' ((try conv=>whnf)<;>first
  |((refine BrI.ff_of ?_ ?_);exact rfl)
  |exact trivial
  |exact aj hd0 ‹_›
  |refine aZ hd0 ?_
  |refine aK hd0 ?_
  |refine BrI.intro (λh=>?_) (λh=>?_)
  |((refine⟨_,_,_,[(1000000,2),(1000001,3)],z9q (.i v) (.i 0),rfl,⟨rfl,rfl,trivial⟩,?_,?_⟩);kernel_rfl)
  |refine⟨([]:List (Nat×Nat)),rfl,?_,trivial⟩
  |((refine ak.mk 0 ?_);refine⟨aB (p.stmts) 20 (λ(S:(List (Key×Int)))=>[]) (λ(S:(List (Key×Int)))=>[(1,.cells [.data (.str p.name),.data (.i p.latency),.data (.i p.tail),.data (.sl 3 (p.params.map Bd.cs)),.data (.sl 3 (p.states.map Bd.cs)),.data (.sl 4 (p.lines.map Ln.cs)),.data (.sl 2 (p.tables.map Tb.cs)),.data (.sl 8 (p.stmts.map Sm.cs))]),(2,.cells [.data (.i 0)]),(3,.cells [.data (.i 0)]),(4,.cells [.map 16]),(16,.map true [.int .i64,.int .i64] (S.map kkD))]) [1,2,3,4,18,19] (λi0 r0 S=>bf p=z2c r0 i0 S),?_⟩;refine ag ([]) ?_ ?_ (λi0 (S:(List (Key×Int))) hd0 hI0=>?_) (λi0 x0 r0 (S:(List (Key×Int))) hd0 hl0 hI0=>?_))
  |refine ah hd0 ((if sets x0.kind then XV (x0.kind,x0.index) (i0:Int) S else S)) ?_ ?_
  |((refine ai ?_ ?_ ?_);rotate_left;exact GN p g hb)
  |((refine lent_step' [(1000001,8),(1000002,7),(1000003,1),(1000004,10),(1000005,42),(1000006,41),(1000007,9),(1000008,4),(1000009,16)] (SB g.sm.stmts hI0 hA) ?_ ?_ ?_ ?_);rotate_left 0;exact rfl;(exact⟨rfl,rfl,rfl,rfl,rfl,rfl,rfl,rfl,rfl,trivial⟩);exact rfl)
  |((refine au ?_ ?_ ?_ ?_ ?_);exact rfl;exact rfl;rotate_left;exact ax hd0)
  |refine lY ?_
  |refine And.intro ?_ ?_
  |exact @rfl AV _
  |exact @rfl Block _
  |fail)
 all_goals first
  |rfl
  |exact hI0
  |exact P8 (k:=(x0.kind,x0.index)) (v:=(i0:Int)) (l:=S) (c:=sets x0.kind) h
  |exact P9 (k:=(x0.kind,x0.index)) (v:=(i0:Int)) (l:=S) (c:=sets x0.kind) h
theorem z9s(p:Pr)(s':AS)(g:gy p)(hb:(aJ p).2=0)(hA:BJ p (bf p) ⟨[],[]⟩ ((p.stmts.length:Int)-1) s'):PCall Tryz.prog 49 [p.d] (.ret (.tuple [.i (-1),.i 0])):=by
 refine dh Tryz.func49 λhf=>?_
 have hs5:=g.sm.stmts
 have hl_b:p.stmts.length<=9223372036854775807:=by omega
 clear hf
 repeat' ((try conv=>whnf)<;>first
  |((refine BrI.ff_of ?_ ?_);exact rfl)
  |exact trivial
  |exact aj hd0 ‹_›
  |refine aZ hd0 ?_
  |refine aK hd0 ?_
  |refine BrI.intro (λh=>?_) (λh=>?_)
  |((refine qp ?_);(refine⟨_,_,_,[(1000000,2),(1000001,3)],z0o (.i 0) (.i 0),rfl,⟨rfl,rfl,trivial⟩,?_,?_⟩);kernel_rfl)
  |refine⟨([]:List (Nat×Nat)),rfl,?_,trivial⟩
  |((refine ak.mk 0 ?_);refine⟨aB (p.stmts) 20 (λ(S:(List (Key×Int)))=>[]) (λ(S:(List (Key×Int)))=>[(1,.cells [.data (.str p.name),.data (.i p.latency),.data (.i p.tail),.data (.sl 3 (p.params.map Bd.cs)),.data (.sl 3 (p.states.map Bd.cs)),.data (.sl 4 (p.lines.map Ln.cs)),.data (.sl 2 (p.tables.map Tb.cs)),.data (.sl 8 (p.stmts.map Sm.cs))]),(2,.cells [.data (.i 0)]),(3,.cells [.data (.i 0)]),(4,.cells [.map 16]),(16,.map true [.int .i64,.int .i64] (S.map kkD))]) [1,2,3,4,18,19] (λi0 r0 S=>bf p=z2c r0 i0 S),?_⟩;refine ag ([]) ?_ ?_ (λi0 (S:(List (Key×Int))) hd0 hI0=>?_) (λi0 x0 r0 (S:(List (Key×Int))) hd0 hl0 hI0=>?_))
  |refine ah hd0 ((if sets x0.kind then XV (x0.kind,x0.index) (i0:Int) S else S)) ?_ ?_
  |((refine ai ?_ ?_ ?_);rotate_left;exact GN p g hb)
  |((refine lent_step' [(1000001,8),(1000002,7),(1000003,1),(1000004,10),(1000005,42),(1000006,41),(1000007,9),(1000008,4),(1000009,16)] (ND g.sm.stmts hI0 hA) ?_ ?_ ?_ ?_);rotate_left 0;exact rfl;(exact⟨rfl,rfl,rfl,rfl,rfl,rfl,rfl,rfl,rfl,trivial⟩);exact rfl)
  |((refine au ?_ ?_ ?_ ?_ ?_);exact rfl;exact rfl;rotate_left;exact ax hd0)
  |refine lY ?_
  |refine And.intro ?_ ?_
  |exact @rfl AV _
  |exact @rfl Block _
  |fail)
 all_goals first
  |rfl
  |exact hI0
  |exact P8 (k:=(x0.kind,x0.index)) (v:=(i0:Int)) (l:=S) (c:=sets x0.kind) h
  |exact P9 (k:=(x0.kind,x0.index)) (v:=(i0:Int)) (l:=S) (c:=sets x0.kind) h
theorem NE(p:Pr)(g:gy p):PCall Tryz.prog 49 [p.d] (.ret (.tuple [.i (xq p).1,.i (xq p).2])):=by
 cases h:((aJ p).2 != 0)with
 |true=>rw[xq,if_pos h];exact z9r p g h
 |false=>
  rw[xq,if_neg (by rw[h];decide)]
  have hb:(aJ p).2=0:=by simpa using h
  have hr:=yZ (kH hb).2
  have hall:=GM p (bf p) (p.stmts.length+1) ⟨[],[]⟩ ((p.stmts.length:Int)-1)
  rcases Wh (z6w hr) (VY hr)with⟨v,s',e⟩ |⟨t,e⟩
  ·have:=zea p v s' g hb (hall.1 v s' e)
   rw[z6t,e];exact this
  ·have:=z9s p t g hb (hall.2 t e)
   rw[z6t,e];exact this
theorem zf7{n m lat tail:Int}{b:Bool}(h1:decide (n>lat)=false)(h:(bif (0:Int) != 0 then true else bif tail != -1 then bif m == -1 then true else decide (m>tail)else false)=b):(if n>lat then(170:Int)else if(tail != -1&&(m == -1 || decide (m>tail)))=true then 171 else 0)=if b then 171 else 0:=by
 rw[if_neg (of_decide_eq_false h1)]
 have:(tail != -1&&(m == -1 || decide (m>tail)))=b:=by rw[<-h];cases tail != -1<;>cases m == -1<;>rfl
 rw[this]
theorem XE(p:Pr)(g:gy p)(hb:((aJ p).2 != 0)=true)(h1:PCall Tryz.prog 48 [p.d] (.ret (.tuple [.i 0,.i (aJ p).2]))):PCall Tryz.prog 15 [p.d] (.ret (.i (aJ p).2)):=by
 refine ay Tryz.func15 ?_
 repeat' ((try conv=>whnf)<;>first
  |exact Bool.noConfusion (hb.symm.trans h)
  |refine BrI.intro (λh=>?_) (λh=>?_)
  |((refine ai ?_ ?_ ?_);rotate_left;exact h1)
  |(refine cO ?_;conv=>whnf)
  |fail)
theorem XF(p:Pr)(n m:Int)(g:gy p)(h1:PCall Tryz.prog 48 [p.d] (.ret (.tuple [.i n,.i 0])))(h2:PCall Tryz.prog 49 [p.d] (.ret (.tuple [.i m,.i 0]))):PCall Tryz.prog 15 [p.d] (.ret (.i (if n>p.latency then 170 else if(p.tail != -1&&(m == -1 || decide (m>p.tail)))=true then 171 else 0))):=by
 refine ay Tryz.func15 ?_
 repeat' ((try conv=>whnf)<;>first
  |((refine BrI.ff_of ?_ ?_);exact rfl)
  |refine BrI.intro (λh=>?_) (λh=>?_)
  |((refine ai ?_ ?_ ?_);rotate_left;(first |exact h1 |exact h2))
  |(refine cO ?_;conv=>whnf)
  |fail)
 all_goals first
  |exact congrArg D.i (by rw[if_pos (of_decide_eq_true ‹_›)])
  |exact congrArg D.i (zf7 ‹_› h).symm
theorem xG(p:Pr)(g:gy p):PCall Tryz.prog 15 [p.d] (.ret (.i (jF p))):=by
 cases h:((aJ p).2 != 0)with
 |true=>
  rw[jF,if_pos h]
  have h1:=yf p g
  rw[oV,if_pos h]at h1
  exact XE p g h h1
 |false=>
  have hb:(aJ p).2=0:=by simpa using h
  rw[jF,if_neg (by rw[h];decide)]
  have h1:=yf p g
  have h2:=NE p g
  rw[ze8 hb]at h1
  rw[ze9 hb]at h2
  exact XF p (XU p) (z6t p) g h1 h2
end Go.Proofs.YtaipffoajgkljaaGreatDoor
