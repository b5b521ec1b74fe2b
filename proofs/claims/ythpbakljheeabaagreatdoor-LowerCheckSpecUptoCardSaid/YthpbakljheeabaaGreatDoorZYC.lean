/- Contracts: package ranges: Check and Interval, whole. -/
import Derived.Test.YthpbakljheeabaaGreatDoorZXA
import Derived.Test.YthpbakljheeabaaGreatDoorZYB
import Derived.Test.YthpbakljheeabaaGreatDoorZTB
set_option linter.unusedSectionVars false
set_option linter.unusedSimpArgs false
set_option linter.unusedVariables false
set_option maxHeartbeats 8000000
namespace Go.Proofs.YthpbakljheeabaaGreatDoor
open Go.Fw Go.Fw.Rg Go.Fw.Nam
set_option maxRecDepth 10000
variable [af]
theorem Hq(p:Pr)(g:iU p):∃pd,PCall Tryz.prog 72 [p.d] (.ret (.tuple [pd,.i (aI p).2]))/\(((aI p).2 != 0)=true->pd = .val (.pointer none)\/pd = .ptr (fC p (gI p p.stmts [])))/\((aI p).2=0->pd = .ptr (fC p (aI p).1)):=by
 cases he:resE p != 0 with
 |true=>
  rw[pq he]
  refine⟨.val (.pointer none),?_,λ_=>.inl rfl,λh=>?_⟩
  ·cases h2:(resolveC p).2 != 0 with
   |true=>rw[show resE p=(resolveC p).2 from by rw[resE,if_pos h2]];exact Xb p g h2
   |false=>
    cases h3:qw p (resolveC p).1 with
    |true=>rw[resE,if_neg (by rw[h2];decide),h3]at he;exact absurd he (by decide)
    |false=>rw[show resE p=150 from by rw[resE,if_neg (by rw[h2];decide),h3];rfl];exact Xc p g h2 h3
  ·have h:resE p=0:=h
   rw[h]at he;exact absurd he (by decide)
 |false=>
  have hz:resE p=0:=by simpa using he
  have hr:=xx hz
  have hq:=F7 hz
  cases hs:bI p p.stmts []with
  |ok F=>
   rw[pg hz hs]
   have hF:gI p p.stmts []=F:=Zz hs
   exact⟨.ptr (fC p F),Xd p F g (by rw[hq]) (by rw[hq]) hr.rng hr.wf hs hF,λh=>Bool.noConfusion (show false=true from h),λ_=>rfl⟩
  |error e=>
   rw[zq hz hs]
   refine⟨.ptr (fC p (gI p p.stmts [])),Uj p _ e g (by rw[hq]) (by rw[hq]) hr.rng hr.wf hs rfl,λ_=>.inr rfl,λh=>?_⟩
   have:=RS hs
   have h:e=0:=h
   rw[h]at this;exact absurd this (by decide)
theorem JM(p:Pr)(g:iU p):PCall Tryz.prog 69 [p.d] (.ret (.i (aI p).2)):=by
 obtain⟨pd,h1,h2,h3⟩:=Hq p g
 exact check_any p pd _ h1
theorem Ai(p:Pr)(x:Ex)(g:iU p)(hx:Ref15.nodes x<=1073741824):PCall Tryz.prog 55 [p.d,x.d] (.ret (z8n (fP p x))):=by
 obtain⟨pd,h1,h2,h3⟩:=Hq p g
 cases he:(aI p).2 != 0 with
 |true=>
  rw[Zy he]
  rcases h2 he with r |r
  ·subst r;exact z04 p x _ h1 he
  ·subst r;exact z05 p x _ _ h1 he
 |false=>
  have hz:(aI p).2=0:=by simpa using he
  have h3:=h3 hz;subst h3
  rw[hz]at h1
  have hb:=(kY hz).1
  cases hx2:DT p x with
  |false=>rw[RV hz hx2];exact Xg p x _ h1 hx2
  |true=>
   rw[RX hz hx2]
   have hf:=vM x p (aI p).1 hb.res.rng hb.ins g.hT hx (z3q hb hx2)
   cases hm:dF p (aI p).1 x with
   |ok s=>rw[hm]at hf;exact z5q p x _ s h1 hx2 hf
   |error e=>rw[hm]at hf;exact z06 p x _ e h1 hx2 hf
end Go.Proofs.YthpbakljheeabaaGreatDoor
namespace Go.Proofs.YthpbakljheeabaaGreatDoor
open Go.Fw Go.Fw.Rg Go.Fw.Nam Go.Fw.Tl
set_option maxRecDepth 10000
variable [af]
theorem z8c{p:Pr}(h:((resolveC p).2 != 0)=true):(resolveC p).2=(aI p).2:=by
 have e:resE p=(resolveC p).2:=by rw[resE,if_pos h]
 rw[pq (by rw[e];exact h),e]
theorem z8d{p:Pr}(h:((resolveC p).2 != 0)=false)(h2:(!qw (resolveC p).1 p)=true):(150:Int)=(aI p).2:=by
 have h3:qw p (resolveC p).1=false:=by
  cases q:qw p (resolveC p).1 with
  |false=>rfl
  |true=>
   have e:=(iC _ _).1 q
   rw[(iC _ _).2 e.symm]at h2
   exact Bool.noConfusion h2
 have e:resE p=150:=by rw[resE,h,if_neg (by decide),if_neg (by rw[h3];decide)]
 rw[pq (by rw[e];decide),e]
theorem vO(p:Pr)(g:iU p):PCall Tryz.prog 53 [p.d] (.ret (.i (aI p).2)):=by
 refine ae tok hmix ⟨[],[]⟩ Tryz.func53 rfl (by kernel_rfl) (by kernel_rfl) (by kernel_rfl) λhf=>?_
 clear hf
 repeat' ((try(conv=>whnf))<;>first
  |with_reducible refine BrI.intro (λh=>?_) (λh=>?_)
  |((with_reducible refine ak ?_ ?_ ?_);rotate_left;(first |exact jw p g.sm g.hn |exact jQ (resolveC p).1 p |exact JM p g))
  |((with_reducible refine ai ?_);refine⟨[],rfl,?_,trivial⟩;conv=>whnf)
  |fail)
 all_goals first
  |((exact congrArg D.i (z8c h)))
  |((exact congrArg D.i (z8d ‹_› h)))
  |skip
theorem Eg(p:Pr)(g:iU p)(h:(aI p).2=0):PCall Tryz.prog 53 [p.d] (.ret (.i 0)):=by
 have:=vO p g;rwa[h]at this
theorem z1a(p:Pr)(z:Ex)(s:Sp)(g:iU p)(h:fP p z = .ok s)(hz:Ref15.nodes z<=1073741824):PCall Tryz.prog 55 [p.d,z.d] (.ret (.tuple [.i s.1,.i s.2,.i 0])):=by
 have:=Ai p z g hz;rw[h]at this;exact this
theorem z1b(p:Pr)(g:iU p)(hb:((aI p).2 != 0)=true):PCall Tryz.prog 35 [p.d] (.ret (.tuple [.i 0,.i (aI p).2])):=by
 refine ae tok hmix ⟨[],[]⟩ Tryz.func35 rfl (by kernel_rfl) (by kernel_rfl) (by kernel_rfl) λhf=>?_
 clear hf
 repeat' ((try(conv=>whnf))<;>first
  |(exact Bool.noConfusion (hb.symm.trans h))
  |with_reducible refine BrI.intro (λh=>?_) (λh=>?_)
  |((with_reducible refine ak ?_ ?_ ?_);rotate_left;(exact vO p g))
  |((with_reducible refine ay ?_ ?_);kernel_rfl)
  |((with_reducible refine ai ?_);refine⟨[],rfl,?_,trivial⟩;conv=>whnf)
  |fail)
 all_goals first
  |skip
theorem z5t(p:Pr)(F:List Sp)(g:iU p)(hb:BOk p F):PCall Tryz.prog 35 [p.d] (.ret (.tuple [.i (z1q p),.i 0])):=by
 refine ae tok hmix ⟨[],[]⟩ Tryz.func35 rfl (by kernel_rfl) (by kernel_rfl) (by kernel_rfl) λhf=>?_
 have hs5:=g.sm.stmts
 have hl_b:p.stmts.length<=9223372036854775807:=by omega
 clear hf
 repeat' ((try(conv=>whnf))<;>first
  |((with_reducible refine BrI.ff_of ?_ ?_);exact rfl)
  |((with_reducible refine jW.mk 25 ?_);refine⟨rfl,⟨[(1,.ptr 1 0),(2,.ptr 2 0),(3,.ptr 3 0),(16,.data (.sl 8 (p.stmts.map Sm.cs))),(17,.data (.i ((p.stmts.map Sm.cs).length:Nat))),(18,.data (.i (i0:Nat))),(24,.fn 70 [.ptr 800001 0])],[(1,.cells [.data (.str p.name),.data (.i p.latency),.data (.i p.tail),.data (.sl 3 (p.params.map Bd.cs)),.data (.sl 3 (p.states.map Bd.cs)),.data (.sl 4 (p.lines.map Ln.cs)),.data (.sl 2 (p.tables.map Tb.cs)),.data (.sl 8 (p.stmts.map Sm.cs))]),(2,.cells [.data (.i n)]),(3,.cells [.data (.i 0)]),(800001,.cells [.data (.i x0.x.kind),.data (.str x0.x.name),.data (.i x0.x.index),.data (.i x0.x.n),.data (.sl 5 (Ex.css x0.x.l))])],[(1000000,2),(1000001,1),(1000002,3)],[(1,.ptr 1000001 0),(2,.ptr 1000000 0),(3,.ptr 1000002 0)],λj=>[(1000000,.cells [.data (.i (TP p n x0.x j))]),(1000001,.cells [.data (.str p.name),.data (.i p.latency),.data (.i p.tail),.data (.sl 3 (p.params.map Bd.cs)),.data (.sl 3 (p.states.map Bd.cs)),.data (.sl 4 (p.lines.map Ln.cs)),.data (.sl 2 (p.tables.map Tb.cs)),.data (.sl 8 (p.stmts.map Sm.cs))]),(1000002,.cells [.data (.i 0)])],(aF x0.x).length,λj=>[((aF x0.x).getD j Ex.none).d],900002,none⟩,⟨?_,rfl,rfl,?_,?_,λj hj=>⟨rfl,rfl,?_⟩,λ_ _ e=>Ho e,⟨_,_,rfl,rfl,λRf Re hy hy2=>⟨1000000,[.ptr 1000001 0],[(1000001,.cells [.data (.i x0.x.kind),.data (.str x0.x.name),.data (.i x0.x.index),.data (.i x0.x.n),.data (.sl 5 (Ex.css x0.x.l))])],.data (.tuple []),[(1000001,.cells [.data (.i x0.x.kind),.data (.str x0.x.name),.data (.i x0.x.index),.data (.i x0.x.n),.data (.sl 5 (Ex.css x0.x.l))])],[(1000000,900002),(1000001,800001)],BV x0.x Rf (λj y hj=>JA (P:=λn d=>LCall Tryz.prog zM [.yld 1000000,.data d] [(1000000,.rnd (Rf n))] (.ret (.b true)) [(1000000,.rnd (Rf (n+1)))]) hy j y (List.getElem?_eq_some_iff.1 hj).1 hj),rfl,?_,rfl,rfl,?_⟩⟩⟩⟩)
  |(have hq:=z0g (n:=n) hb g hd0 hj (by assumption);clear hj;obtain⟨z,s,hz1,hz2,hz3,hz4⟩:=hq)
  |(have hz4:=z4w (p:=p) (n:=n) hj (by assumption);clear hj)
  |((with_reducible refine aG ?_ ?_ ?_ ?_ ?_);exact rfl;exact rfl;rotate_left;exact Wj hz1)
  |with_reducible exact trivial
  |with_reducible exact au hd0 ‹_›
  |with_reducible refine bn hd0 ?_
  |with_reducible refine aK hd0 ?_
  |with_reducible refine BrI.intro (λh=>?_) (λh=>?_)
  |((with_reducible refine aB.mk 0 ?_);refine⟨aJ (p.stmts) 18 (λ(n:(Int))=>[]) (λ(n:(Int))=>[(1,.cells [.data (.str p.name),.data (.i p.latency),.data (.i p.tail),.data (.sl 3 (p.params.map Bd.cs)),.data (.sl 3 (p.states.map Bd.cs)),.data (.sl 4 (p.lines.map Ln.cs)),.data (.sl 2 (p.tables.map Tb.cs)),.data (.sl 8 (p.stmts.map Sm.cs))]),(2,.cells [.data (.i n)]),(3,.cells [.data (.i 0)])]) [2,3,16,17,1] (λi0 r0 n=>z1q p=r0.foldl (z7h p) n),?_⟩;with_reducible refine ag (0) ?_ ?_ (λi0 (n:(Int)) hd0 hI0=>?_) (λi0 x0 r0 (n:(Int)) hd0 hl0 hI0=>?_))
  |(with_reducible refine ah hd0 (TP p n x0.x (aF x0.x).length) ?_ ?_)
  |((with_reducible refine ak ?_ ?_ ?_);rotate_left;(first |exact Eg p g (Wh hb) |exact z1a p z s g hz2 hz3))
  |((with_reducible refine fM [(1000000,800001)] (vN x0.x) ?_ ?_ ?_ ?_);rotate_left 0;exact rfl;(exact trivial);exact rfl)
  |((with_reducible refine aG ?_ ?_ ?_ ?_ ?_);exact rfl;exact rfl;rotate_left;(with_reducible exact aC hd0))
  |((with_reducible refine aO ?_ ?_);exact rfl)
  |((with_reducible refine ay ?_ ?_);kernel_rfl)
  |((with_reducible refine ai ?_);refine⟨[],rfl,?_,trivial⟩;conv=>whnf)
  |(with_reducible refine And.intro ?_ ?_)
  |exact @rfl AV _
  |exact @rfl (List AV) _
  |fail)
 all_goals first
  |(rfl)
  |((rw[Wi];exact hI0))
  |((exact congrArg (λz=>D.tuple [.i z,.i 0]) hI0.symm))
  |((exact congrArg (λz=>AV.data (D.i z)) hz4.symm))
  |skip
theorem wC(p:Pr)(g:iU p):PCall Tryz.prog 35 [p.d] (.ret (.tuple [.i (mX p).1,.i (mX p).2])):=by
 cases h:((aI p).2 != 0)with
 |true=>rw[mX,if_pos h];exact z1b p g h
 |false=>rw[mX,if_neg (by rw[h];decide)];exact z5t p _ g (kY (by simpa using h)).1
end Go.Proofs.YthpbakljheeabaaGreatDoor
namespace Go.Proofs.YthpbakljheeabaaGreatDoor
open Go.Fw Go.Fw.Ref15 Go.Fw.Rg Go.Fw.Tl
set_option maxRecDepth 10000
variable [af] {p : Pr}
theorem Xi(a b:D):sH Tryz.prog 58 [.ptr 1000000 0,.ptr 1000001 0] (some z5r) [(1000000,.cells [.data a]),(1000001,.cells [.data b])] [(1000000,.cells [.data (.i (-1))]),(1000001,.cells [.data (.i 0)])]:=by
 refine gY tok hmix Tryz.func58 rfl (by kernel_rfl) (by kernel_rfl) (by kernel_rfl) ?_
 repeat' ((try(conv=>whnf))<;>first
  |with_reducible exact trivial
  |(refine⟨([]:List (Nat×Nat)),?_⟩)
  |(refine⟨by kernel_rfl,?_⟩)
  |(refine⟨rfl,?_⟩)
  |(refine⟨?_,?_⟩)
  |fail)
theorem z1c(a b:D):sH Tryz.prog 58 [.ptr 1000000 0,.ptr 1000001 0] none [(1000000,.cells [.data a]),(1000001,.cells [.data b])] [(1000000,.cells [.data a]),(1000001,.cells [.data b])]:=by
 refine gY tok hmix Tryz.func58 rfl (by kernel_rfl) (by kernel_rfl) (by kernel_rfl) ?_
 repeat' ((try(conv=>whnf))<;>first
  |with_reducible exact trivial
  |(refine⟨([]:List (Nat×Nat)),?_⟩)
  |(refine⟨by kernel_rfl,?_⟩)
  |(refine⟨rfl,?_⟩)
  |(refine⟨?_,?_⟩)
  |fail)
theorem MQ{g:Bool}{ks:List KS}{l:List (Key×Int)}{k:Key}{v:Int}{c:Bool}(h:c=true):Block.map g ks (mput (.agg [.i k.1,.i k.2]) (.i v) (l.map kkD))=Block.map g ks ((if c then Tj k v l else l).map kkD):=by rw[Tn,if_pos h]
theorem MR{g:Bool}{ks:List KS}{l:List (Key×Int)}{k:Key}{v:Int}{c:Bool}(h:c=false):Block.map g ks (l.map kkD)=Block.map g ks ((if c then Tj k v l else l).map kkD):=by rw[if_neg (by rw[h];decide)]
theorem Um{i:Nat}{S:List (Key×Int)}(h:aV p=V4 [] i S):aV p=S:=h
theorem zi(h:p.stmts.length<=1073741824):IntKind.i64.wrap (((p.stmts.map Sm.cs).length:Int)-1)=(p.stmts.length:Int)-1:=by rw[List.length_map];exact bU (by omega) (by omega)
theorem OW{i:Nat}{S:List (Key×Int)}{s':AS}{v:Int}(hl:p.stmts.length<=67108864)(hS:aV p=V4 [] i S)(hA:Hm p (aV p) ⟨[],[]⟩ ((p.stmts.length:Int)-1) v s'):LCall Tryz.prog 57 [.data (.i (IntKind.i64.wrap (((p.stmts.map Sm.cs).length:Int)-1))),.ptr 1000001 0,.ptr 1000002 0,.ptr 1000003 0,.ptr 1000004 0] [(1000001,.cells [.map 1000005]),(1000002,.cells [.map 1000006]),(1000003,.cells [.data (.str p.name),.data (.i p.latency),.data (.i p.tail),.data (.sl 3 (p.params.map Bd.cs)),.data (.sl 3 (p.states.map Bd.cs)),.data (.sl 4 (p.lines.map Ln.cs)),.data (.sl 2 (p.tables.map Tb.cs)),.data (.sl 8 (p.stmts.map Sm.cs))]),(1000004,.cells [.fn 56 [.ptr 1000007 0,.ptr 1000008 0,.ptr 1000003 0]]),(1000005,.map false [.int .i64] []),(1000006,.map false [.int .i64] []),(1000007,.cells [.fn 57 [.ptr 1000001 0,.ptr 1000002 0,.ptr 1000003 0,.ptr 1000004 0]]),(1000008,.cells [.map 1000009]),(1000009,.map true [.int .i64,.int .i64] (S.map kkD))] (.ret (.data (.i v))) [(1000001,.cells [.map 1000005]),(1000002,.cells [.map 1000006]),(1000003,.cells [.data (.str p.name),.data (.i p.latency),.data (.i p.tail),.data (.sl 3 (p.params.map Bd.cs)),.data (.sl 3 (p.states.map Bd.cs)),.data (.sl 4 (p.lines.map Ln.cs)),.data (.sl 2 (p.tables.map Tb.cs)),.data (.sl 8 (p.stmts.map Sm.cs))]),(1000004,.cells [.fn 56 [.ptr 1000007 0,.ptr 1000008 0,.ptr 1000003 0]]),(1000005,.map false [.int .i64] (s'.opn.map ibD)),(1000006,.map false [.int .i64] (s'.ages.map iiD)),(1000007,.cells [.fn 57 [.ptr 1000001 0,.ptr 1000002 0,.ptr 1000003 0,.ptr 1000004 0]]),(1000008,.cells [.map 1000009]),(1000009,.map true [.int .i64,.int .i64] (S.map kkD))]:=by
 rw[Um hS]at hA;rw[zi (by omega)];exact hA
theorem JO{i:Nat}{S:List (Key×Int)}{s':AS}(hl:p.stmts.length<=67108864)(hS:aV p=V4 [] i S)(hA:zK p (aV p) ⟨[],[]⟩ ((p.stmts.length:Int)-1) s'):LCall Tryz.prog 57 [.data (.i (IntKind.i64.wrap (((p.stmts.map Sm.cs).length:Int)-1))),.ptr 1000001 0,.ptr 1000002 0,.ptr 1000003 0,.ptr 1000004 0] [(1000001,.cells [.map 1000005]),(1000002,.cells [.map 1000006]),(1000003,.cells [.data (.str p.name),.data (.i p.latency),.data (.i p.tail),.data (.sl 3 (p.params.map Bd.cs)),.data (.sl 3 (p.states.map Bd.cs)),.data (.sl 4 (p.lines.map Ln.cs)),.data (.sl 2 (p.tables.map Tb.cs)),.data (.sl 8 (p.stmts.map Sm.cs))]),(1000004,.cells [.fn 56 [.ptr 1000007 0,.ptr 1000008 0,.ptr 1000003 0]]),(1000005,.map false [.int .i64] []),(1000006,.map false [.int .i64] []),(1000007,.cells [.fn 57 [.ptr 1000001 0,.ptr 1000002 0,.ptr 1000003 0,.ptr 1000004 0]]),(1000008,.cells [.map 1000009]),(1000009,.map true [.int .i64,.int .i64] (S.map kkD))] (.pan (.data z5r)) [(1000001,.cells [.map 1000005]),(1000002,.cells [.map 1000006]),(1000003,.cells [.data (.str p.name),.data (.i p.latency),.data (.i p.tail),.data (.sl 3 (p.params.map Bd.cs)),.data (.sl 3 (p.states.map Bd.cs)),.data (.sl 4 (p.lines.map Ln.cs)),.data (.sl 2 (p.tables.map Tb.cs)),.data (.sl 8 (p.stmts.map Sm.cs))]),(1000004,.cells [.fn 56 [.ptr 1000007 0,.ptr 1000008 0,.ptr 1000003 0]]),(1000005,.map false [.int .i64] (s'.opn.map ibD)),(1000006,.map false [.int .i64] (s'.ages.map iiD)),(1000007,.cells [.fn 57 [.ptr 1000001 0,.ptr 1000002 0,.ptr 1000003 0,.ptr 1000004 0]]),(1000008,.cells [.map 1000009]),(1000009,.map true [.int .i64,.int .i64] (S.map kkD))]:=by
 rw[Um hS]at hA;rw[zi (by omega)];exact hA
theorem z1d(p:Pr)(g:iU p)(hb:((aI p).2 != 0)=true):PCall Tryz.prog 36 [p.d] (.ret (.tuple [.i 0,.i (aI p).2])):=by
 refine ae tok hmix ⟨[],[]⟩ Tryz.func36 rfl (by kernel_rfl) (by kernel_rfl) (by kernel_rfl) λhf=>?_
 clear hf
 repeat' ((try(conv=>whnf))<;>first
  |(exact Bool.noConfusion (hb.symm.trans h))
  |with_reducible refine BrI.intro (λh=>?_) (λh=>?_)
  |((with_reducible refine ak ?_ ?_ ?_);rotate_left;(exact vO p g))
  |((with_reducible refine ay ?_ ?_);kernel_rfl)
  |((with_reducible refine ai ?_);refine⟨[],rfl,?_,trivial⟩;conv=>whnf)
  |fail)
 all_goals first
  |skip
theorem z5u(p:Pr)(v:Int)(s':AS)(g:iU p)(hb:(aI p).2=0)(hA:Hm p (aV p) ⟨[],[]⟩ ((p.stmts.length:Int)-1) v s'):PCall Tryz.prog 36 [p.d] (.ret (.tuple [.i v,.i 0])):=by
 refine ae tok hmix ⟨[],[]⟩ Tryz.func36 rfl (by kernel_rfl) (by kernel_rfl) (by kernel_rfl) λhf=>?_
 have hs5:=g.sm.stmts
 have hl_b:p.stmts.length<=9223372036854775807:=by omega
 clear hf
 repeat' ((try(conv=>whnf))<;>first
  |((with_reducible refine BrI.ff_of ?_ ?_);exact rfl)
  |with_reducible exact trivial
  |with_reducible exact au hd0 ‹_›
  |with_reducible refine bn hd0 ?_
  |with_reducible refine aK hd0 ?_
  |with_reducible refine BrI.intro (λh=>?_) (λh=>?_)
  |((refine⟨_,_,_,[(1000000,2),(1000001,3)],z1c (.i v) (.i 0),rfl,⟨rfl,rfl,trivial⟩,?_,?_⟩);kernel_rfl)
  |(refine⟨([]:List (Nat×Nat)),rfl,?_,trivial⟩)
  |((with_reducible refine aB.mk 0 ?_);refine⟨aJ (p.stmts) 20 (λ(S:(List (Key×Int)))=>[]) (λ(S:(List (Key×Int)))=>[(1,.cells [.data (.str p.name),.data (.i p.latency),.data (.i p.tail),.data (.sl 3 (p.params.map Bd.cs)),.data (.sl 3 (p.states.map Bd.cs)),.data (.sl 4 (p.lines.map Ln.cs)),.data (.sl 2 (p.tables.map Tb.cs)),.data (.sl 8 (p.stmts.map Sm.cs))]),(2,.cells [.data (.i 0)]),(3,.cells [.data (.i 0)]),(4,.cells [.map 16]),(16,.map true [.int .i64,.int .i64] (S.map kkD))]) [1,2,3,4,18,19] (λi0 r0 S=>aV p=V4 r0 i0 S),?_⟩;with_reducible refine ag ([]) ?_ ?_ (λi0 (S:(List (Key×Int))) hd0 hI0=>?_) (λi0 x0 r0 (S:(List (Key×Int))) hd0 hl0 hI0=>?_))
  |(with_reducible refine ah hd0 ((if sets x0.kind then Tj (x0.kind,x0.index) (i0:Int) S else S)) ?_ ?_)
  |((with_reducible refine ak ?_ ?_ ?_);rotate_left;(exact Eg p g hb))
  |((with_reducible refine lent_step' [(1000001,8),(1000002,7),(1000003,1),(1000004,10),(1000005,42),(1000006,41),(1000007,9),(1000008,4),(1000009,16)] (OW g.sm.stmts hI0 hA) ?_ ?_ ?_ ?_);rotate_left 0;exact rfl;(exact⟨rfl,rfl,rfl,rfl,rfl,rfl,rfl,rfl,rfl,trivial⟩);exact rfl)
  |((with_reducible refine aG ?_ ?_ ?_ ?_ ?_);exact rfl;exact rfl;rotate_left;(with_reducible exact aC hd0))
  |((with_reducible refine aO ?_ ?_);exact rfl)
  |(with_reducible refine And.intro ?_ ?_)
  |exact @rfl AV _
  |exact @rfl Block _
  |fail)
 all_goals first
  |(rfl)
  |((exact hI0))
  |((exact MQ (k:=(x0.kind,x0.index)) (v:=(i0:Int)) (l:=S) (c:=sets x0.kind) h))
  |((exact MR (k:=(x0.kind,x0.index)) (v:=(i0:Int)) (l:=S) (c:=sets x0.kind) h))
  |skip
theorem z1e(p:Pr)(s':AS)(g:iU p)(hb:(aI p).2=0)(hA:zK p (aV p) ⟨[],[]⟩ ((p.stmts.length:Int)-1) s'):PCall Tryz.prog 36 [p.d] (.ret (.tuple [.i (-1),.i 0])):=by
 refine ae tok hmix ⟨[],[]⟩ Tryz.func36 rfl (by kernel_rfl) (by kernel_rfl) (by kernel_rfl) λhf=>?_
 have hs5:=g.sm.stmts
 have hl_b:p.stmts.length<=9223372036854775807:=by omega
 clear hf
 repeat' ((try(conv=>whnf))<;>first
  |((with_reducible refine BrI.ff_of ?_ ?_);exact rfl)
  |with_reducible exact trivial
  |with_reducible exact au hd0 ‹_›
  |with_reducible refine bn hd0 ?_
  |with_reducible refine aK hd0 ?_
  |with_reducible refine BrI.intro (λh=>?_) (λh=>?_)
  |((refine⟨_,_,_,[(1000000,2),(1000001,3)],Xi (.i 0) (.i 0),rfl,⟨rfl,rfl,trivial⟩,?_,?_⟩);kernel_rfl)
  |(refine⟨([]:List (Nat×Nat)),rfl,?_,trivial⟩)
  |((with_reducible refine aB.mk 0 ?_);refine⟨aJ (p.stmts) 20 (λ(S:(List (Key×Int)))=>[]) (λ(S:(List (Key×Int)))=>[(1,.cells [.data (.str p.name),.data (.i p.latency),.data (.i p.tail),.data (.sl 3 (p.params.map Bd.cs)),.data (.sl 3 (p.states.map Bd.cs)),.data (.sl 4 (p.lines.map Ln.cs)),.data (.sl 2 (p.tables.map Tb.cs)),.data (.sl 8 (p.stmts.map Sm.cs))]),(2,.cells [.data (.i 0)]),(3,.cells [.data (.i 0)]),(4,.cells [.map 16]),(16,.map true [.int .i64,.int .i64] (S.map kkD))]) [1,2,3,4,18,19] (λi0 r0 S=>aV p=V4 r0 i0 S),?_⟩;with_reducible refine ag ([]) ?_ ?_ (λi0 (S:(List (Key×Int))) hd0 hI0=>?_) (λi0 x0 r0 (S:(List (Key×Int))) hd0 hl0 hI0=>?_))
  |(with_reducible refine ah hd0 ((if sets x0.kind then Tj (x0.kind,x0.index) (i0:Int) S else S)) ?_ ?_)
  |((with_reducible refine ak ?_ ?_ ?_);rotate_left;(exact Eg p g hb))
  |((with_reducible refine lent_step' [(1000001,8),(1000002,7),(1000003,1),(1000004,10),(1000005,42),(1000006,41),(1000007,9),(1000008,4),(1000009,16)] (JO g.sm.stmts hI0 hA) ?_ ?_ ?_ ?_);rotate_left 0;exact rfl;(exact⟨rfl,rfl,rfl,rfl,rfl,rfl,rfl,rfl,rfl,trivial⟩);exact rfl)
  |((with_reducible refine aG ?_ ?_ ?_ ?_ ?_);exact rfl;exact rfl;rotate_left;(with_reducible exact aC hd0))
  |((with_reducible refine aO ?_ ?_);exact rfl)
  |(with_reducible refine And.intro ?_ ?_)
  |exact @rfl AV _
  |exact @rfl Block _
  |fail)
 all_goals first
  |(rfl)
  |((exact hI0))
  |((exact MQ (k:=(x0.kind,x0.index)) (v:=(i0:Int)) (l:=S) (c:=sets x0.kind) h))
  |((exact MR (k:=(x0.kind,x0.index)) (v:=(i0:Int)) (l:=S) (c:=sets x0.kind) h))
  |skip
theorem JP(p:Pr)(g:iU p):PCall Tryz.prog 36 [p.d] (.ret (.tuple [.i (vF p).1,.i (vF p).2])):=by
 cases h:((aI p).2 != 0)with
 |true=>rw[vF,if_pos h];exact z1d p g h
 |false=>
  rw[vF,if_neg (by rw[h];decide)]
  have hb:(aI p).2=0:=by simpa using h
  have hr:=xx (kY hb).2
  have hall:=Ef p (aV p) (p.stmts.length+1) ⟨[],[]⟩ ((p.stmts.length:Int)-1)
  rcases TQ (Z8 hr) (Z5 hr)with⟨v,s',e⟩ |⟨t,e⟩
  ·have:=z5u p v s' g hb (hall.1 v s' e)
   rw[ZZ,e];exact this
  ·have:=z1e p t g hb (hall.2 t e)
   rw[ZZ,e];exact this
theorem z8e{n m lat tail:Int}{b:Bool}(h1:decide (n>lat)=false)(h:(bif (0:Int) != 0 then true else bif tail != -1 then bif m == -1 then true else decide (m>tail)else false)=b):(if n>lat then(170:Int)else if(tail != -1&&(m == -1 || decide (m>tail)))=true then 171 else 0)=if b then 171 else 0:=by
 rw[if_neg (of_decide_eq_false h1)]
 have:(tail != -1&&(m == -1 || decide (m>tail)))=b:=by rw[<-h];cases tail != -1<;>cases m == -1<;>rfl
 rw[this]
theorem Un(p:Pr)(g:iU p)(hb:((aI p).2 != 0)=true)(h1:PCall Tryz.prog 35 [p.d] (.ret (.tuple [.i 0,.i (aI p).2]))):PCall Tryz.prog 14 [p.d] (.ret (.i (aI p).2)):=by
 refine ae tok hmix ⟨[],[]⟩ Tryz.func14 rfl (by kernel_rfl) (by kernel_rfl) (by kernel_rfl) λhf=>?_
 clear hf
 repeat' ((try(conv=>whnf))<;>first
  |(exact Bool.noConfusion (hb.symm.trans h))
  |with_reducible refine BrI.intro (λh=>?_) (λh=>?_)
  |((with_reducible refine ak ?_ ?_ ?_);rotate_left;(exact h1))
  |((with_reducible refine ai ?_);refine⟨[],rfl,?_,trivial⟩;conv=>whnf)
  |fail)
 all_goals first
  |skip
theorem Uo(p:Pr)(n m:Int)(g:iU p)(h1:PCall Tryz.prog 35 [p.d] (.ret (.tuple [.i n,.i 0])))(h2:PCall Tryz.prog 36 [p.d] (.ret (.tuple [.i m,.i 0]))):PCall Tryz.prog 14 [p.d] (.ret (.i (if n>p.latency then 170 else if(p.tail != -1&&(m == -1 || decide (m>p.tail)))=true then 171 else 0))):=by
 refine ae tok hmix ⟨[],[]⟩ Tryz.func14 rfl (by kernel_rfl) (by kernel_rfl) (by kernel_rfl) λhf=>?_
 clear hf
 repeat' ((try(conv=>whnf))<;>first
  |((with_reducible refine BrI.ff_of ?_ ?_);exact rfl)
  |with_reducible refine BrI.intro (λh=>?_) (λh=>?_)
  |((with_reducible refine ak ?_ ?_ ?_);rotate_left;(first |exact h1 |exact h2))
  |((with_reducible refine ai ?_);refine⟨[],rfl,?_,trivial⟩;conv=>whnf)
  |fail)
 all_goals first
  |((exact congrArg D.i (by rw[if_pos (of_decide_eq_true ‹_›)])))
  |((exact congrArg D.i (z8e ‹_› h).symm))
  |skip
theorem BX(p:Pr)(g:iU p):PCall Tryz.prog 14 [p.d] (.ret (.i (oM p))):=by
 cases h:((aI p).2 != 0)with
 |true=>
  rw[oM,if_pos h]
  have h1:=wC p g
  rw[mX,if_pos h]at h1
  exact Un p g h h1
 |false=>
  have hb:(aI p).2=0:=by simpa using h
  rw[oM,if_neg (by rw[h];decide)]
  have h1:=wC p g
  have h2:=JP p g
  rw[z7k hb]at h1
  rw[z7l hb]at h2
  exact Uo p (z1q p) (ZZ p) g h1 h2
end Go.Proofs.YthpbakljheeabaaGreatDoor
