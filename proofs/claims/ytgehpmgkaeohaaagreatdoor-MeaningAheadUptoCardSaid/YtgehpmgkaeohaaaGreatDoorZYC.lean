/- A part of the proof. -/
import Derived.Test.YtgehpmgkaeohaaaGreatDoorZXA
import Derived.Test.YtgehpmgkaeohaaaGreatDoorZYB_
import Derived.Test.YtgehpmgkaeohaaaGreatDoorZTB
set_option linter.all false
set_option maxHeartbeats 8000000
namespace Go.Proofs.YtgehpmgkaeohaaaGreatDoor
open Go.Fw Go.Fw.Rg Go.Fw.Nam
set_option maxRecDepth 10000
variable [ae]
theorem KN(p:Pr)(g:iE p):∃pd,PCall Tryz.prog 94 [p.d] (.ret (.tuple [pd,.i (aN p).2]))/\(((aN p).2 != 0)=true->pd = .val (.pointer none)\/pd = .ptr (fC p (ig p p.stmts [])))/\((aN p).2=0->pd = .ptr (fC p (aN p).1)):=by
 cases he:resE p != 0 with
 |true=>
  rw[qZ he]
  refine⟨.val (.pointer none),?_,λ_=>.inl rfl,λh=>?_⟩
  ·cases h2:(resolveC p).2 != 0 with
   |true=>rw[show resE p=(resolveC p).2 from by rw[resE,if_pos h2]];exact z1x p g h2
   |false=>
    cases h3:sJ p (resolveC p).1 with
    |true=>rw[resE,if_neg (by rw[h2];decide),h3]at he;exact absurd he (by decide)
    |false=>rw[show resE p=150 from by rw[resE,if_neg (by rw[h2];decide),h3];rfl];exact z1y p g h2 h3
  ·have h:resE p=0:=h
   rw[h]at he;exact absurd he (by decide)
 |false=>
  have hz:resE p=0:=by simpa using he
  have hr:=GR hz
  have hq:=Jy hz
  cases hs:bQ p p.stmts []with
  |ok F=>
   rw[qY hz hs]
   have hF:ig p p.stmts []=F:=z8x hs
   exact⟨.ptr (fC p F),z1z p F g (by rw[hq]) (by rw[hq]) hr.rng hr.wf hs hF,λh=>Bool.noConfusion (show false=true from h),λ_=>rfl⟩
  |error e=>
   rw[BL hz hs]
   refine⟨.ptr (fC p (ig p p.stmts [])),Ya p _ e g (by rw[hq]) (by rw[hq]) hr.rng hr.wf hs rfl,λ_=>.inr rfl,λh=>?_⟩
   have:=WE hs
   have h:e=0:=h
   rw[h]at this;exact absurd this (by decide)
theorem Og(p:Pr)(g:iE p):PCall Tryz.prog 91 [p.d] (.ret (.i (aN p).2)):=by
 obtain⟨pd,h1,h2,h3⟩:=KN p g
 exact check_any p pd _ h1
theorem DR(p:Pr)(x:Ex)(g:iE p)(hx:Ref15.nodes x<=1073741824):PCall Tryz.prog 49 [p.d,x.d] (.ret (zj8 (gz p x))):=by
 obtain⟨pd,h1,h2,h3⟩:=KN p g
 cases he:(aN p).2 != 0 with
 |true=>
  rw[z8w he]
  rcases h2 he with r |r
  ·subst r;exact zbr p x _ h1 he
  ·subst r;exact zbs p x _ _ h1 he
 |false=>
  have hz:(aN p).2=0:=by simpa using he
  have h3:=h3 hz;subst h3
  rw[hz]at h1
  have hb:=(mD hz).1
  cases hx2:GX p x with
  |false=>rw[WG hz hx2];exact z16 p x _ h1 hx2
  |true=>
   rw[WH hz hx2]
   have hf:=yj x p (aN p).1 hb.res.rng hb.ins g.hT hx (zef hb hx2)
   cases hm:dF p (aN p).1 x with
   |ok s=>rw[hm]at hf;exact zg6 p x _ s h1 hx2 hf
   |error e=>rw[hm]at hf;exact zbt p x _ e h1 hx2 hf
end Go.Proofs.YtgehpmgkaeohaaaGreatDoor
namespace Go.Proofs.YtgehpmgkaeohaaaGreatDoor
open Go.Fw Go.Fw.Rg Go.Fw.Nam Go.Fw.Tl
set_option maxRecDepth 10000
variable [ae]
theorem ziu{p:Pr}(h:((resolveC p).2 != 0)=true):(resolveC p).2=(aN p).2:=by
 have e:resE p=(resolveC p).2:=by rw[resE,if_pos h]
 rw[qZ (by rw[e];exact h),e]
theorem ziv{p:Pr}(h:((resolveC p).2 != 0)=false)(h2:(!sJ (resolveC p).1 p)=true):(150:Int)=(aN p).2:=by
 have h3:sJ p (resolveC p).1=false:=by
  cases q:sJ p (resolveC p).1 with
  |false=>rfl
  |true=>
   have e:=(iW _ _).1 q
   rw[(iW _ _).2 e.symm]at h2
   exact Bool.noConfusion h2
 have e:resE p=150:=by rw[resE,h,if_neg (by decide),if_neg (by rw[h3];decide)]
 rw[qZ (by rw[e];decide),e]
theorem yu(p:Pr)(g:iE p):PCall Tryz.prog 47 [p.d] (.ret (.i (aN p).2)):=by
 refine aj Tryz.func47 ?_
 repeat' ((try conv=>whnf)<;>first
  |refine BrI.intro (λh=>?_) (λh=>?_)
  |((refine ah ?_ ?_ ?_);rotate_left;(first |exact kQ _ _ |exact iZ p g.sm g.hn |exact Og p g))
  |(refine cO ?_;conv=>whnf)
  |fail)
 all_goals first
  |exact congrArg D.i (ziu h)
  |exact congrArg D.i (ziv ‹_› h)
theorem H8(p:Pr)(g:iE p)(h:(aN p).2=0):PCall Tryz.prog 47 [p.d] (.ret (.i 0)):=by
 have:=yu p g;rwa[h]at this
theorem zb1(p:Pr)(z:Ex)(s:Sp)(g:iE p)(h:gz p z = .ok s)(hz:Ref15.nodes z<=1073741824):PCall Tryz.prog 49 [p.d,z.d] (.ret (.tuple [.i s.1,.i s.2,.i 0])):=by
 have:=DR p z g hz;rw[h]at this;exact this
theorem zb2(p:Pr)(g:iE p)(hb:((aN p).2 != 0)=true):PCall Tryz.prog 24 [p.d] (.ret (.tuple [.i 0,.i (aN p).2])):=by
 refine aj Tryz.func24 ?_
 repeat' ((try conv=>whnf)<;>first
  |exact Bool.noConfusion (hb.symm.trans h)
  |refine BrI.intro (λh=>?_) (λh=>?_)
  |((refine ah ?_ ?_ ?_);rotate_left;exact yu p g)
  |refine eQ ?_
  |(refine cO ?_;conv=>whnf)
  |fail)
theorem zha(p:Pr)(F:List Sp)(g:iE p)(hb:BOk p F):PCall Tryz.prog 24 [p.d] (.ret (.tuple [.i (YH p),.i 0])):=by
 refine dh Tryz.func24 λhf=>?_
 have hs5:=g.sm.stmts
 have hl_b:p.stmts.length<=9223372036854775807:=by omega
 clear hf
 repeat' ((try conv=>whnf)<;>first
  |((refine BrI.ff_of ?_ ?_);exact rfl)
  |((refine lg.mk 25 ?_);refine⟨rfl,⟨[(1,.ptr 1 0),(2,.ptr 2 0),(3,.ptr 3 0),(16,.data (.sl 8 (p.stmts.map Sm.cs))),(17,.data (.i ((p.stmts.map Sm.cs).length:Nat))),(18,.data (.i (i0:Nat))),(24,.fn 92 [.ptr 800001 0])],[(1,.cells [.data (.str p.name),.data (.i p.latency),.data (.i p.tail),.data (.sl 3 (p.params.map Bd.cs)),.data (.sl 3 (p.states.map Bd.cs)),.data (.sl 4 (p.lines.map Ln.cs)),.data (.sl 2 (p.tables.map Tb.cs)),.data (.sl 8 (p.stmts.map Sm.cs))]),(2,.cells [.data (.i n)]),(3,.cells [.data (.i 0)]),(800001,.cells [.data (.i x0.x.kind),.data (.str x0.x.name),.data (.i x0.x.index),.data (.i x0.x.n),.data (.sl 5 (Ex.css x0.x.l))])],[(1000000,2),(1000001,1),(1000002,3)],[(1,.ptr 1000001 0),(2,.ptr 1000000 0),(3,.ptr 1000002 0)],λj=>[(1000000,.cells [.data (.i (Xi p n x0.x j))]),(1000001,.cells [.data (.str p.name),.data (.i p.latency),.data (.i p.tail),.data (.sl 3 (p.params.map Bd.cs)),.data (.sl 3 (p.states.map Bd.cs)),.data (.sl 4 (p.lines.map Ln.cs)),.data (.sl 2 (p.tables.map Tb.cs)),.data (.sl 8 (p.stmts.map Sm.cs))]),(1000002,.cells [.data (.i 0)])],(ax x0.x).length,λj=>[((ax x0.x).getD j Ex.none).d],900002,none⟩,⟨?_,rfl,rfl,?_,?_,λj hj=>⟨rfl,rfl,?_⟩,λ_ _ e=>KL e,⟨_,_,rfl,rfl,λRf Re hy hy2=>⟨1000000,[.ptr 1000001 0],[(1000001,.cells [.data (.i x0.x.kind),.data (.str x0.x.name),.data (.i x0.x.index),.data (.i x0.x.n),.data (.sl 5 (Ex.css x0.x.l))])],.data (.tuple []),[(1000001,.cells [.data (.i x0.x.kind),.data (.str x0.x.name),.data (.i x0.x.index),.data (.i x0.x.n),.data (.sl 5 (Ex.css x0.x.l))])],[(1000000,900002),(1000001,800001)],Fv x0.x Rf (λj y hj=>Nz (P:=λn d=>ak Tryz.prog yx [.yld 1000000,.data d] [(1000000,.rnd (Rf n))] (.ret (.b true)) [(1000000,.rnd (Rf (n+1)))]) hy j y (List.getElem?_eq_some_iff.1 hj).1 hj),rfl,?_,rfl,rfl,?_⟩⟩⟩⟩)
  |(have hq:=z9n (n:=n) hb g hd0 hj (by assumption);clear hj;obtain⟨z,s,hz1,hz2,hz3,hz4⟩:=hq)
  |(have hz4:=zes (p:=p) (n:=n) hj (by assumption);clear hj)
  |((refine aB ?_ ?_ ?_ ?_ ?_);exact rfl;exact rfl;rotate_left;exact z0h hz1)
  |exact trivial
  |exact ai hd0 ‹_›
  |refine bu hd0 ?_
  |refine aP hd0 ?_
  |refine BrI.intro (λh=>?_) (λh=>?_)
  |((refine au.mk 0 ?_);refine⟨aH (p.stmts) 18 (λ(n:(Int))=>[]) (λ(n:(Int))=>[(1,.cells [.data (.str p.name),.data (.i p.latency),.data (.i p.tail),.data (.sl 3 (p.params.map Bd.cs)),.data (.sl 3 (p.states.map Bd.cs)),.data (.sl 4 (p.lines.map Ln.cs)),.data (.sl 2 (p.tables.map Tb.cs)),.data (.sl 8 (p.stmts.map Sm.cs))]),(2,.cells [.data (.i n)]),(3,.cells [.data (.i 0)])]) [2,3,16,17,1] (λi0 r0 n=>YH p=r0.foldl (zcq p) n),?_⟩;refine af (0) ?_ ?_ (λi0 (n:(Int)) hd0 hI0=>?_) (λi0 x0 r0 (n:(Int)) hd0 hl0 hI0=>?_))
  |refine ag hd0 (Xi p n x0.x (ax x0.x).length) ?_ ?_
  |((refine ah ?_ ?_ ?_);rotate_left;(first |exact H8 p g (z0f hb) |exact zb1 p z s g hz2 hz3))
  |((refine fM [(1000000,800001)] (uF x0.x) ?_ ?_ ?_ ?_);rotate_left 0;exact rfl;exact trivial;exact rfl)
  |((refine aB ?_ ?_ ?_ ?_ ?_);exact rfl;exact rfl;rotate_left;exact ay hd0)
  |refine oK ?_
  |refine eQ ?_
  |(refine cO ?_;conv=>whnf)
  |refine And.intro ?_ ?_
  |exact @rfl AV _
  |exact @rfl (List AV) _
  |fail)
 all_goals first
  |rfl
  |(rw[z0g];exact hI0)
  |exact congrArg (λz=>D.tuple [.i z,.i 0]) hI0.symm
  |exact congrArg (λz=>AV.data (D.i z)) hz4.symm
theorem yO(p:Pr)(g:iE p):PCall Tryz.prog 24 [p.d] (.ret (.tuple [.i (oQ p).1,.i (oQ p).2])):=by
 cases h:((aN p).2 != 0)with
 |true=>rw[oQ,if_pos h];exact zb2 p g h
 |false=>rw[oQ,if_neg (by rw[h];decide)];exact zha p _ g (mD (by simpa using h)).1
end Go.Proofs.YtgehpmgkaeohaaaGreatDoor
namespace Go.Proofs.YtgehpmgkaeohaaaGreatDoor
open Go.Fw Go.Fw.Ref15 Go.Fw.Rg Go.Fw.Tl
set_option maxRecDepth 10000
variable [ae] {p : Pr}
theorem z2j(a b:D):yT Tryz.prog 85 [.ptr 1000000 0,.ptr 1000001 0] (some zg8) [(1000000,.cells [.data a]),(1000001,.cells [.data b])] [(1000000,.cells [.data (.i (-1))]),(1000001,.cells [.data (.i 0)])]:=by
 refine dS tok hmix Tryz.func85 rfl (by kernel_rfl) (by kernel_rfl) (by kernel_rfl) ?_
 repeat' ((try conv=>whnf)<;>first
  |exact trivial
  |refine⟨([]:List (Nat×Nat)),?_⟩
  |refine⟨by kernel_rfl,?_⟩
  |refine⟨rfl,?_⟩
  |refine⟨?_,?_⟩
  |fail)
theorem zb3(a b:D):yT Tryz.prog 85 [.ptr 1000000 0,.ptr 1000001 0] none [(1000000,.cells [.data a]),(1000001,.cells [.data b])] [(1000000,.cells [.data a]),(1000001,.cells [.data b])]:=by
 refine dS tok hmix Tryz.func85 rfl (by kernel_rfl) (by kernel_rfl) (by kernel_rfl) ?_
 repeat' ((try conv=>whnf)<;>first
  |exact trivial
  |refine⟨([]:List (Nat×Nat)),?_⟩
  |refine⟨by kernel_rfl,?_⟩
  |refine⟨rfl,?_⟩
  |refine⟨?_,?_⟩
  |fail)
theorem QU{g:Bool}{ks:List KS}{l:List (Key×Int)}{k:Key}{v:Int}{c:Bool}(h:c=true):Block.map g ks (mput (.agg [.i k.1,.i k.2]) (.i v) (l.map kkD))=Block.map g ks ((if c then YI k v l else l).map kkD):=by rw[WS,if_pos h]
theorem QV{g:Bool}{ks:List KS}{l:List (Key×Int)}{k:Key}{v:Int}{c:Bool}(h:c=false):Block.map g ks (l.map kkD)=Block.map g ks ((if c then YI k v l else l).map kkD):=by rw[if_neg (by rw[h];decide)]
theorem Yo{i:Nat}{S:List (Key×Int)}(h:aW p=z4d [] i S):aW p=S:=h
theorem BG(h:p.stmts.length<=1073741824):IntKind.i64.wrap (((p.stmts.map Sm.cs).length:Int)-1)=(p.stmts.length:Int)-1:=by rw[List.length_map];exact bM (by omega) (by omega)
theorem TV{i:Nat}{S:List (Key×Int)}{s':AS}{v:Int}(hl:p.stmts.length<=67108864)(hS:aW p=z4d [] i S)(hA:KJ p (aW p) ⟨[],[]⟩ ((p.stmts.length:Int)-1) v s'):ak Tryz.prog 84 [.data (.i (IntKind.i64.wrap (((p.stmts.map Sm.cs).length:Int)-1))),.ptr 1000001 0,.ptr 1000002 0,.ptr 1000003 0,.ptr 1000004 0] [(1000001,.cells [.map 1000005]),(1000002,.cells [.map 1000006]),(1000003,.cells [.data (.str p.name),.data (.i p.latency),.data (.i p.tail),.data (.sl 3 (p.params.map Bd.cs)),.data (.sl 3 (p.states.map Bd.cs)),.data (.sl 4 (p.lines.map Ln.cs)),.data (.sl 2 (p.tables.map Tb.cs)),.data (.sl 8 (p.stmts.map Sm.cs))]),(1000004,.cells [.fn 83 [.ptr 1000007 0,.ptr 1000008 0,.ptr 1000003 0]]),(1000005,.map false [.int .i64] []),(1000006,.map false [.int .i64] []),(1000007,.cells [.fn 84 [.ptr 1000001 0,.ptr 1000002 0,.ptr 1000003 0,.ptr 1000004 0]]),(1000008,.cells [.map 1000009]),(1000009,.map true [.int .i64,.int .i64] (S.map kkD))] (.ret (.data (.i v))) [(1000001,.cells [.map 1000005]),(1000002,.cells [.map 1000006]),(1000003,.cells [.data (.str p.name),.data (.i p.latency),.data (.i p.tail),.data (.sl 3 (p.params.map Bd.cs)),.data (.sl 3 (p.states.map Bd.cs)),.data (.sl 4 (p.lines.map Ln.cs)),.data (.sl 2 (p.tables.map Tb.cs)),.data (.sl 8 (p.stmts.map Sm.cs))]),(1000004,.cells [.fn 83 [.ptr 1000007 0,.ptr 1000008 0,.ptr 1000003 0]]),(1000005,.map false [.int .i64] (s'.opn.map ibD)),(1000006,.map false [.int .i64] (s'.ages.map iiD)),(1000007,.cells [.fn 84 [.ptr 1000001 0,.ptr 1000002 0,.ptr 1000003 0,.ptr 1000004 0]]),(1000008,.cells [.map 1000009]),(1000009,.map true [.int .i64,.int .i64] (S.map kkD))]:=by
 rw[Yo hS]at hA;rw[BG (by omega)];exact hA
theorem Oh{i:Nat}{S:List (Key×Int)}{s':AS}(hl:p.stmts.length<=67108864)(hS:aW p=z4d [] i S)(hA:CW p (aW p) ⟨[],[]⟩ ((p.stmts.length:Int)-1) s'):ak Tryz.prog 84 [.data (.i (IntKind.i64.wrap (((p.stmts.map Sm.cs).length:Int)-1))),.ptr 1000001 0,.ptr 1000002 0,.ptr 1000003 0,.ptr 1000004 0] [(1000001,.cells [.map 1000005]),(1000002,.cells [.map 1000006]),(1000003,.cells [.data (.str p.name),.data (.i p.latency),.data (.i p.tail),.data (.sl 3 (p.params.map Bd.cs)),.data (.sl 3 (p.states.map Bd.cs)),.data (.sl 4 (p.lines.map Ln.cs)),.data (.sl 2 (p.tables.map Tb.cs)),.data (.sl 8 (p.stmts.map Sm.cs))]),(1000004,.cells [.fn 83 [.ptr 1000007 0,.ptr 1000008 0,.ptr 1000003 0]]),(1000005,.map false [.int .i64] []),(1000006,.map false [.int .i64] []),(1000007,.cells [.fn 84 [.ptr 1000001 0,.ptr 1000002 0,.ptr 1000003 0,.ptr 1000004 0]]),(1000008,.cells [.map 1000009]),(1000009,.map true [.int .i64,.int .i64] (S.map kkD))] (.pan (.data zg8)) [(1000001,.cells [.map 1000005]),(1000002,.cells [.map 1000006]),(1000003,.cells [.data (.str p.name),.data (.i p.latency),.data (.i p.tail),.data (.sl 3 (p.params.map Bd.cs)),.data (.sl 3 (p.states.map Bd.cs)),.data (.sl 4 (p.lines.map Ln.cs)),.data (.sl 2 (p.tables.map Tb.cs)),.data (.sl 8 (p.stmts.map Sm.cs))]),(1000004,.cells [.fn 83 [.ptr 1000007 0,.ptr 1000008 0,.ptr 1000003 0]]),(1000005,.map false [.int .i64] (s'.opn.map ibD)),(1000006,.map false [.int .i64] (s'.ages.map iiD)),(1000007,.cells [.fn 84 [.ptr 1000001 0,.ptr 1000002 0,.ptr 1000003 0,.ptr 1000004 0]]),(1000008,.cells [.map 1000009]),(1000009,.map true [.int .i64,.int .i64] (S.map kkD))]:=by
 rw[Yo hS]at hA;rw[BG (by omega)];exact hA
theorem zb4(p:Pr)(g:iE p)(hb:((aN p).2 != 0)=true):PCall Tryz.prog 44 [p.d] (.ret (.tuple [.i 0,.i (aN p).2])):=by
 refine aj Tryz.func44 ?_
 repeat' ((try conv=>whnf)<;>first
  |exact Bool.noConfusion (hb.symm.trans h)
  |refine BrI.intro (λh=>?_) (λh=>?_)
  |((refine ah ?_ ?_ ?_);rotate_left;exact yu p g)
  |refine eQ ?_
  |(refine cO ?_;conv=>whnf)
  |fail)
theorem zhb(p:Pr)(v:Int)(s':AS)(g:iE p)(hb:(aN p).2=0)(hA:KJ p (aW p) ⟨[],[]⟩ ((p.stmts.length:Int)-1) v s'):PCall Tryz.prog 44 [p.d] (.ret (.tuple [.i v,.i 0])):=by
 refine dh Tryz.func44 λhf=>?_
 have hs5:=g.sm.stmts
 have hl_b:p.stmts.length<=9223372036854775807:=by omega
 clear hf
 repeat' ((try conv=>whnf)<;>first
  |((refine BrI.ff_of ?_ ?_);exact rfl)
  |exact trivial
  |exact ai hd0 ‹_›
  |refine bu hd0 ?_
  |refine aP hd0 ?_
  |refine BrI.intro (λh=>?_) (λh=>?_)
  |((refine⟨_,_,_,[(1000000,2),(1000001,3)],zb3 (.i v) (.i 0),rfl,⟨rfl,rfl,trivial⟩,?_,?_⟩);kernel_rfl)
  |refine⟨([]:List (Nat×Nat)),rfl,?_,trivial⟩
  |((refine au.mk 0 ?_);refine⟨aH (p.stmts) 20 (λ(S:(List (Key×Int)))=>[]) (λ(S:(List (Key×Int)))=>[(1,.cells [.data (.str p.name),.data (.i p.latency),.data (.i p.tail),.data (.sl 3 (p.params.map Bd.cs)),.data (.sl 3 (p.states.map Bd.cs)),.data (.sl 4 (p.lines.map Ln.cs)),.data (.sl 2 (p.tables.map Tb.cs)),.data (.sl 8 (p.stmts.map Sm.cs))]),(2,.cells [.data (.i 0)]),(3,.cells [.data (.i 0)]),(4,.cells [.map 16]),(16,.map true [.int .i64,.int .i64] (S.map kkD))]) [1,2,3,4,18,19] (λi0 r0 S=>aW p=z4d r0 i0 S),?_⟩;refine af ([]) ?_ ?_ (λi0 (S:(List (Key×Int))) hd0 hI0=>?_) (λi0 x0 r0 (S:(List (Key×Int))) hd0 hl0 hI0=>?_))
  |refine ag hd0 ((if sets x0.kind then YI (x0.kind,x0.index) (i0:Int) S else S)) ?_ ?_
  |((refine ah ?_ ?_ ?_);rotate_left;exact H8 p g hb)
  |((refine lent_step' [(1000001,8),(1000002,7),(1000003,1),(1000004,10),(1000005,42),(1000006,41),(1000007,9),(1000008,4),(1000009,16)] (TV g.sm.stmts hI0 hA) ?_ ?_ ?_ ?_);rotate_left 0;exact rfl;(exact⟨rfl,rfl,rfl,rfl,rfl,rfl,rfl,rfl,rfl,trivial⟩);exact rfl)
  |((refine aB ?_ ?_ ?_ ?_ ?_);exact rfl;exact rfl;rotate_left;exact ay hd0)
  |refine oK ?_
  |refine And.intro ?_ ?_
  |exact @rfl AV _
  |exact @rfl Block _
  |fail)
 all_goals first
  |rfl
  |exact hI0
  |exact QU (k:=(x0.kind,x0.index)) (v:=(i0:Int)) (l:=S) (c:=sets x0.kind) h
  |exact QV (k:=(x0.kind,x0.index)) (v:=(i0:Int)) (l:=S) (c:=sets x0.kind) h
theorem zb5(p:Pr)(s':AS)(g:iE p)(hb:(aN p).2=0)(hA:CW p (aW p) ⟨[],[]⟩ ((p.stmts.length:Int)-1) s'):PCall Tryz.prog 44 [p.d] (.ret (.tuple [.i (-1),.i 0])):=by
 refine dh Tryz.func44 λhf=>?_
 have hs5:=g.sm.stmts
 have hl_b:p.stmts.length<=9223372036854775807:=by omega
 clear hf
 repeat' ((try conv=>whnf)<;>first
  |((refine BrI.ff_of ?_ ?_);exact rfl)
  |exact trivial
  |exact ai hd0 ‹_›
  |refine bu hd0 ?_
  |refine aP hd0 ?_
  |refine BrI.intro (λh=>?_) (λh=>?_)
  |((refine qx ?_);(refine⟨_,_,_,[(1000000,2),(1000001,3)],z2j (.i 0) (.i 0),rfl,⟨rfl,rfl,trivial⟩,?_,?_⟩);kernel_rfl)
  |refine⟨([]:List (Nat×Nat)),rfl,?_,trivial⟩
  |((refine au.mk 0 ?_);refine⟨aH (p.stmts) 20 (λ(S:(List (Key×Int)))=>[]) (λ(S:(List (Key×Int)))=>[(1,.cells [.data (.str p.name),.data (.i p.latency),.data (.i p.tail),.data (.sl 3 (p.params.map Bd.cs)),.data (.sl 3 (p.states.map Bd.cs)),.data (.sl 4 (p.lines.map Ln.cs)),.data (.sl 2 (p.tables.map Tb.cs)),.data (.sl 8 (p.stmts.map Sm.cs))]),(2,.cells [.data (.i 0)]),(3,.cells [.data (.i 0)]),(4,.cells [.map 16]),(16,.map true [.int .i64,.int .i64] (S.map kkD))]) [1,2,3,4,18,19] (λi0 r0 S=>aW p=z4d r0 i0 S),?_⟩;refine af ([]) ?_ ?_ (λi0 (S:(List (Key×Int))) hd0 hI0=>?_) (λi0 x0 r0 (S:(List (Key×Int))) hd0 hl0 hI0=>?_))
  |refine ag hd0 ((if sets x0.kind then YI (x0.kind,x0.index) (i0:Int) S else S)) ?_ ?_
  |((refine ah ?_ ?_ ?_);rotate_left;exact H8 p g hb)
  |((refine lent_step' [(1000001,8),(1000002,7),(1000003,1),(1000004,10),(1000005,42),(1000006,41),(1000007,9),(1000008,4),(1000009,16)] (Oh g.sm.stmts hI0 hA) ?_ ?_ ?_ ?_);rotate_left 0;exact rfl;(exact⟨rfl,rfl,rfl,rfl,rfl,rfl,rfl,rfl,rfl,trivial⟩);exact rfl)
  |((refine aB ?_ ?_ ?_ ?_ ?_);exact rfl;exact rfl;rotate_left;exact ay hd0)
  |refine oK ?_
  |refine And.intro ?_ ?_
  |exact @rfl AV _
  |exact @rfl Block _
  |fail)
 all_goals first
  |rfl
  |exact hI0
  |exact QU (k:=(x0.kind,x0.index)) (v:=(i0:Int)) (l:=S) (c:=sets x0.kind) h
  |exact QV (k:=(x0.kind,x0.index)) (v:=(i0:Int)) (l:=S) (c:=sets x0.kind) h
theorem Oi(p:Pr)(g:iE p):PCall Tryz.prog 44 [p.d] (.ret (.tuple [.i (xO p).1,.i (xO p).2])):=by
 cases h:((aN p).2 != 0)with
 |true=>rw[xO,if_pos h];exact zb4 p g h
 |false=>
  rw[xO,if_neg (by rw[h];decide)]
  have hb:(aN p).2=0:=by simpa using h
  have hr:=GR (mD hb).2
  have hall:=H7 p (aW p) (p.stmts.length+1) ⟨[],[]⟩ ((p.stmts.length:Int)-1)
  rcases Xj (z9f hr) (z9d hr)with⟨v,s',e⟩ |⟨t,e⟩
  ·have:=zhb p v s' g hb (hall.1 v s' e)
   rw[z9b,e];exact this
  ·have:=zb5 p t g hb (hall.2 t e)
   rw[z9b,e];exact this
theorem ziw{n m lat tail:Int}{b:Bool}(h1:decide (n>lat)=false)(h:(bif (0:Int) != 0 then true else bif tail != -1 then bif m == -1 then true else decide (m>tail)else false)=b):(if n>lat then(170:Int)else if(tail != -1&&(m == -1 || decide (m>tail)))=true then 171 else 0)=if b then 171 else 0:=by
 rw[if_neg (of_decide_eq_false h1)]
 have:(tail != -1&&(m == -1 || decide (m>tail)))=b:=by rw[<-h];cases tail != -1<;>cases m == -1<;>rfl
 rw[this]
theorem Yp(p:Pr)(g:iE p)(hb:((aN p).2 != 0)=true)(h1:PCall Tryz.prog 24 [p.d] (.ret (.tuple [.i 0,.i (aN p).2]))):PCall Tryz.prog 16 [p.d] (.ret (.i (aN p).2)):=by
 refine aj Tryz.func16 ?_
 repeat' ((try conv=>whnf)<;>first
  |exact Bool.noConfusion (hb.symm.trans h)
  |refine BrI.intro (λh=>?_) (λh=>?_)
  |((refine ah ?_ ?_ ?_);rotate_left;exact h1)
  |(refine cO ?_;conv=>whnf)
  |fail)
theorem Yq(p:Pr)(n m:Int)(g:iE p)(h1:PCall Tryz.prog 24 [p.d] (.ret (.tuple [.i n,.i 0])))(h2:PCall Tryz.prog 44 [p.d] (.ret (.tuple [.i m,.i 0]))):PCall Tryz.prog 16 [p.d] (.ret (.i (if n>p.latency then 170 else if(p.tail != -1&&(m == -1 || decide (m>p.tail)))=true then 171 else 0))):=by
 refine aj Tryz.func16 ?_
 repeat' ((try conv=>whnf)<;>first
  |((refine BrI.ff_of ?_ ?_);exact rfl)
  |refine BrI.intro (λh=>?_) (λh=>?_)
  |((refine ah ?_ ?_ ?_);rotate_left;(first |exact h1 |exact h2))
  |(refine cO ?_;conv=>whnf)
  |fail)
 all_goals first
  |exact congrArg D.i (by rw[if_pos (of_decide_eq_true ‹_›)])
  |exact congrArg D.i (ziw ‹_› h).symm
theorem Fz(p:Pr)(g:iE p):PCall Tryz.prog 16 [p.d] (.ret (.i (jy p))):=by
 cases h:((aN p).2 != 0)with
 |true=>
  rw[jy,if_pos h]
  have h1:=yO p g
  rw[oQ,if_pos h]at h1
  exact Yp p g h h1
 |false=>
  have hb:(aN p).2=0:=by simpa using h
  rw[jy,if_neg (by rw[h];decide)]
  have h1:=yO p g
  have h2:=Oi p g
  rw[zia hb]at h1
  rw[zib hb]at h2
  exact Yq p (YH p) (z9b p) g h1 h2
end Go.Proofs.YtgehpmgkaeohaaaGreatDoor
