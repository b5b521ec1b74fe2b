/- Contracts: package ranges: Check and Interval, whole. -/
import Derived.Test.YthpbakljheeabaaGreatDoorZXA
import Derived.Test.YthpbakljheeabaaGreatDoorZYB
import Derived.Test.YthpbakljheeabaaGreatDoorZTB
set_option linter.unusedSectionVars false
set_option linter.unusedSimpArgs false
set_option linter.unusedVariables false
set_option maxHeartbeats 8000000
namespace Go.Proofs.YthpbakljheeabaaGreatDoor
open Go.Fw Go.Fw.Rg Go.Fw.Nam
set_option maxRecDepth 10000
variable [ah]
theorem Iu(p:Pr)(g:gq p):∃pd,PCall Tryz.prog 72 [p.d] (.ret (.tuple [pd,.i (aH p).2]))/\(((aH p).2 != 0)=true->pd = .val (.pointer none)\/pd = .ptr (fC p (gX p p.stmts [])))/\((aH p).2=0->pd = .ptr (fC p (aH p).1)):=by
 cases he:resE p != 0 with
 |true=>
  rw[qc he]
  refine⟨.val (.pointer none),?_,λ_=>.inl rfl,λh=>?_⟩
  ·cases h2:(resolveC p).2 != 0 with
   |true=>rw[show resE p=(resolveC p).2 from by rw[resE,if_pos h2]];exact XO p g h2
   |false=>
    cases h3:qO p (resolveC p).1 with
    |true=>rw[resE,if_neg (by rw[h2];decide),h3]at he;exact absurd he (by decide)
    |false=>rw[show resE p=150 from by rw[resE,if_neg (by rw[h2];decide),h3];rfl];exact XP p g h2 h3
  ·have h:resE p=0:=h
   rw[h]at he;exact absurd he (by decide)
 |false=>
  have hz:resE p=0:=by simpa using he
  have hr:=xZ hz
  have hq:=GL hz
  cases hs:bM p p.stmts []with
  |ok F=>
   rw[pY hz hs]
   have hF:gX p p.stmts []=F:=z0m hs
   exact⟨.ptr (fC p F),XQ p F g (by rw[hq]) (by rw[hq]) hr.rng hr.wf hs hF,λh=>Bool.noConfusion (show false=true from h),λ_=>rfl⟩
  |error e=>
   rw[zT hz hs]
   refine⟨.ptr (fC p (gX p p.stmts [])),U3 p _ e g (by rw[hq]) (by rw[hq]) hr.rng hr.wf hs rfl,λ_=>.inr rfl,λh=>?_⟩
   have:=Tn hs
   have h:e=0:=h
   rw[h]at this;exact absurd this (by decide)
theorem KE(p:Pr)(g:gq p):PCall Tryz.prog 69 [p.d] (.ret (.i (aH p).2)):=by
 obtain⟨pd,h1,h2,h3⟩:=Iu p g
 exact check_any p pd _ h1
theorem AZ(p:Pr)(x:Ex)(g:gq p)(hx:Ref15.nodes x<=1073741824):PCall Tryz.prog 55 [p.d,x.d] (.ret (z99 (gu p x))):=by
 obtain⟨pd,h1,h2,h3⟩:=Iu p g
 cases he:(aH p).2 != 0 with
 |true=>
  rw[z0l he]
  rcases h2 he with r |r
  ·subst r;exact z2e p x _ h1 he
  ·subst r;exact z2f p x _ _ h1 he
 |false=>
  have hz:(aH p).2=0:=by simpa using he
  have h3:=h3 hz;subst h3
  rw[hz]at h1
  have hb:=(lJ hz).1
  cases hx2:Eo p x with
  |false=>rw[Tt hz hx2];exact XU p x _ h1 hx2
  |true=>
   rw[Tu hz hx2]
   have hf:=wL x p (aH p).1 hb.res.rng hb.ins g.hT hx (z5b hb hx2)
   cases hm:dN p (aH p).1 x with
   |ok s=>rw[hm]at hf;exact z7d p x _ s h1 hx2 hf
   |error e=>rw[hm]at hf;exact z2g p x _ e h1 hx2 hf
end Go.Proofs.YthpbakljheeabaaGreatDoor
namespace Go.Proofs.YthpbakljheeabaaGreatDoor
open Go.Fw Go.Fw.Rg Go.Fw.Nam Go.Fw.Tl
set_option maxRecDepth 10000
variable [ah]
theorem z9p{p:Pr}(h:((resolveC p).2 != 0)=true):(resolveC p).2=(aH p).2:=by
 have e:resE p=(resolveC p).2:=by rw[resE,if_pos h]
 rw[qc (by rw[e];exact h),e]
theorem z9q{p:Pr}(h:((resolveC p).2 != 0)=false)(h2:(!qO (resolveC p).1 p)=true):(150:Int)=(aH p).2:=by
 have h3:qO p (resolveC p).1=false:=by
  cases q:qO p (resolveC p).1 with
  |false=>rfl
  |true=>
   have e:=(iO _ _).1 q
   rw[(iO _ _).2 e.symm]at h2
   exact Bool.noConfusion h2
 have e:resE p=150:=by rw[resE,h,if_neg (by decide),if_neg (by rw[h3];decide)]
 rw[qc (by rw[e];decide),e]
theorem wO(p:Pr)(g:gq p):PCall Tryz.prog 53 [p.d] (.ret (.i (aH p).2)):=by
 refine aJ Tryz.func53 ?_
 repeat' ((try(conv=>whnf))<;>first
  |refine BrI.intro (λh=>?_) (λh=>?_)
  |((refine ai ?_ ?_ ?_);rotate_left;(first |exact jP p g.sm g.hn |exact kE (resolveC p).1 p |exact KE p g))
  |(refine fA ?_;conv=>whnf)
  |fail)
 all_goals first
  |((exact congrArg D.i (z9p h)))
  |((exact congrArg D.i (z9q ‹_› h)))
  |skip
theorem EN(p:Pr)(g:gq p)(h:(aH p).2=0):PCall Tryz.prog 53 [p.d] (.ret (.i 0)):=by
 have:=wO p g;rwa[h]at this
theorem z2k(p:Pr)(z:Ex)(s:Sp)(g:gq p)(h:gu p z = .ok s)(hz:Ref15.nodes z<=1073741824):PCall Tryz.prog 55 [p.d,z.d] (.ret (.tuple [.i s.1,.i s.2,.i 0])):=by
 have:=AZ p z g hz;rw[h]at this;exact this
theorem z2l(p:Pr)(g:gq p)(hb:((aH p).2 != 0)=true):PCall Tryz.prog 35 [p.d] (.ret (.tuple [.i 0,.i (aH p).2])):=by
 refine aJ Tryz.func35 ?_
 repeat' ((try(conv=>whnf))<;>first
  |(exact Bool.noConfusion (hb.symm.trans h))
  |refine BrI.intro (λh=>?_) (λh=>?_)
  |((refine ai ?_ ?_ ?_);rotate_left;(exact wO p g))
  |((refine ak ?_ ?_);kernel_rfl)
  |(refine fA ?_;conv=>whnf)
  |fail)
 all_goals first
  |skip
theorem z7g(p:Pr)(F:List Sp)(g:gq p)(hb:BOk p F):PCall Tryz.prog 35 [p.d] (.ret (.tuple [.i (z3b p),.i 0])):=by
 refine dA Tryz.func35 λhf=>?_
 have hs5:=g.sm.stmts
 have hl_b:p.stmts.length<=9223372036854775807:=by omega
 clear hf
 repeat' ((try(conv=>whnf))<;>first
  |((refine BrI.ff_of ?_ ?_);exact rfl)
  |((refine kL.mk 25 ?_);refine⟨rfl,⟨[(1,.ptr 1 0),(2,.ptr 2 0),(3,.ptr 3 0),(16,.data (.sl 8 (p.stmts.map Sm.cs))),(17,.data (.i ((p.stmts.map Sm.cs).length:Nat))),(18,.data (.i (i0:Nat))),(24,.fn 70 [.ptr 800001 0])],[(1,.cells [.data (.str p.name),.data (.i p.latency),.data (.i p.tail),.data (.sl 3 (p.params.map Bd.cs)),.data (.sl 3 (p.states.map Bd.cs)),.data (.sl 4 (p.lines.map Ln.cs)),.data (.sl 2 (p.tables.map Tb.cs)),.data (.sl 8 (p.stmts.map Sm.cs))]),(2,.cells [.data (.i n)]),(3,.cells [.data (.i 0)]),(800001,.cells [.data (.i x0.x.kind),.data (.str x0.x.name),.data (.i x0.x.index),.data (.i x0.x.n),.data (.sl 5 (Ex.css x0.x.l))])],[(1000000,2),(1000001,1),(1000002,3)],[(1,.ptr 1000001 0),(2,.ptr 1000000 0),(3,.ptr 1000002 0)],λj=>[(1000000,.cells [.data (.i (UB p n x0.x j))]),(1000001,.cells [.data (.str p.name),.data (.i p.latency),.data (.i p.tail),.data (.sl 3 (p.params.map Bd.cs)),.data (.sl 3 (p.states.map Bd.cs)),.data (.sl 4 (p.lines.map Ln.cs)),.data (.sl 2 (p.tables.map Tb.cs)),.data (.sl 8 (p.stmts.map Sm.cs))]),(1000002,.cells [.data (.i 0)])],(aC x0.x).length,λj=>[((aC x0.x).getD j Ex.none).d],900002,none⟩,⟨?_,rfl,rfl,?_,?_,λj hj=>⟨rfl,rfl,?_⟩,λ_ _ e=>Ir e,⟨_,_,rfl,rfl,λRf Re hy hy2=>⟨1000000,[.ptr 1000001 0],[(1000001,.cells [.data (.i x0.x.kind),.data (.str x0.x.name),.data (.i x0.x.index),.data (.i x0.x.n),.data (.sl 5 (Ex.css x0.x.l))])],.data (.tuple []),[(1000001,.cells [.data (.i x0.x.kind),.data (.str x0.x.name),.data (.i x0.x.index),.data (.i x0.x.n),.data (.sl 5 (Ex.css x0.x.l))])],[(1000000,900002),(1000001,800001)],CZ x0.x Rf (λj y hj=>J5 (P:=λn d=>LCall Tryz.prog xn [.yld 1000000,.data d] [(1000000,.rnd (Rf n))] (.ret (.b true)) [(1000000,.rnd (Rf (n+1)))]) hy j y (List.getElem?_eq_some_iff.1 hj).1 hj),rfl,?_,rfl,rfl,?_⟩⟩⟩⟩)
  |(have hq:=z1j (n:=n) hb g hd0 hj (by assumption);clear hj;obtain⟨z,s,hz1,hz2,hz3,hz4⟩:=hq)
  |(have hz4:=z6h (p:=p) (n:=n) hj (by assumption);clear hj)
  |((refine ay ?_ ?_ ?_ ?_ ?_);exact rfl;exact rfl;rotate_left;exact Xd hz1)
  |exact trivial
  |exact aj hd0 ‹_›
  |refine bu hd0 ?_
  |refine aN hd0 ?_
  |refine BrI.intro (λh=>?_) (λh=>?_)
  |((refine au.mk 0 ?_);refine⟨aF (p.stmts) 18 (λ(n:(Int))=>[]) (λ(n:(Int))=>[(1,.cells [.data (.str p.name),.data (.i p.latency),.data (.i p.tail),.data (.sl 3 (p.params.map Bd.cs)),.data (.sl 3 (p.states.map Bd.cs)),.data (.sl 4 (p.lines.map Ln.cs)),.data (.sl 2 (p.tables.map Tb.cs)),.data (.sl 8 (p.stmts.map Sm.cs))]),(2,.cells [.data (.i n)]),(3,.cells [.data (.i 0)])]) [2,3,16,17,1] (λi0 r0 n=>z3b p=r0.foldl (z8x p) n),?_⟩;refine af (0) ?_ ?_ (λi0 (n:(Int)) hd0 hI0=>?_) (λi0 x0 r0 (n:(Int)) hd0 hl0 hI0=>?_))
  |(refine ag hd0 (UB p n x0.x (aC x0.x).length) ?_ ?_)
  |((refine ai ?_ ?_ ?_);rotate_left;(first |exact EN p g (Xb hb) |exact z2k p z s g hz2 hz3))
  |((refine gm [(1000000,800001)] (wM x0.x) ?_ ?_ ?_ ?_);rotate_left 0;exact rfl;(exact trivial);exact rfl)
  |((refine ay ?_ ?_ ?_ ?_ ?_);exact rfl;exact rfl;rotate_left;(exact ax hd0))
  |((refine aK ?_ ?_);exact rfl)
  |((refine ak ?_ ?_);kernel_rfl)
  |(refine fA ?_;conv=>whnf)
  |(refine And.intro ?_ ?_)
  |exact @rfl AV _
  |exact @rfl (List AV) _
  |fail)
 all_goals first
  |(rfl)
  |((rw[Xc];exact hI0))
  |((exact congrArg (λz=>D.tuple [.i z,.i 0]) hI0.symm))
  |((exact congrArg (λz=>AV.data (D.i z)) hz4.symm))
  |skip
theorem xm(p:Pr)(g:gq p):PCall Tryz.prog 35 [p.d] (.ret (.tuple [.i (nR p).1,.i (nR p).2])):=by
 cases h:((aH p).2 != 0)with
 |true=>rw[nR,if_pos h];exact z2l p g h
 |false=>rw[nR,if_neg (by rw[h];decide)];exact z7g p _ g (lJ (by simpa using h)).1
end Go.Proofs.YthpbakljheeabaaGreatDoor
namespace Go.Proofs.YthpbakljheeabaaGreatDoor
open Go.Fw Go.Fw.Ref15 Go.Fw.Rg Go.Fw.Tl
set_option maxRecDepth 10000
variable [ah] {p : Pr}
theorem XW(a b:D):nZ Tryz.prog 58 [.ptr 1000000 0,.ptr 1000001 0] (some z7e) [(1000000,.cells [.data a]),(1000001,.cells [.data b])] [(1000000,.cells [.data (.i (-1))]),(1000001,.cells [.data (.i 0)])]:=by
 refine iG tok hmix Tryz.func58 rfl (by kernel_rfl) (by kernel_rfl) (by kernel_rfl) ?_
 repeat' ((try(conv=>whnf))<;>first
  |exact trivial
  |(refine⟨([]:List (Nat×Nat)),?_⟩)
  |(refine⟨by kernel_rfl,?_⟩)
  |(refine⟨rfl,?_⟩)
  |(refine⟨?_,?_⟩)
  |fail)
theorem z2m(a b:D):nZ Tryz.prog 58 [.ptr 1000000 0,.ptr 1000001 0] none [(1000000,.cells [.data a]),(1000001,.cells [.data b])] [(1000000,.cells [.data a]),(1000001,.cells [.data b])]:=by
 refine iG tok hmix Tryz.func58 rfl (by kernel_rfl) (by kernel_rfl) (by kernel_rfl) ?_
 repeat' ((try(conv=>whnf))<;>first
  |exact trivial
  |(refine⟨([]:List (Nat×Nat)),?_⟩)
  |(refine⟨by kernel_rfl,?_⟩)
  |(refine⟨rfl,?_⟩)
  |(refine⟨?_,?_⟩)
  |fail)
theorem NJ{g:Bool}{ks:List KS}{l:List (Key×Int)}{k:Key}{v:Int}{c:Bool}(h:c=true):Block.map g ks (mput (.agg [.i k.1,.i k.2]) (.i v) (l.map kkD))=Block.map g ks ((if c then Uc k v l else l).map kkD):=by rw[Ue,if_pos h]
theorem NK{g:Bool}{ks:List KS}{l:List (Key×Int)}{k:Key}{v:Int}{c:Bool}(h:c=false):Block.map g ks (l.map kkD)=Block.map g ks ((if c then Uc k v l else l).map kkD):=by rw[if_neg (by rw[h];decide)]
theorem U6{i:Nat}{S:List (Key×Int)}(h:aX p=WV [] i S):aX p=S:=h
theorem zM(h:p.stmts.length<=1073741824):IntKind.i64.wrap (((p.stmts.map Sm.cs).length:Int)-1)=(p.stmts.length:Int)-1:=by rw[List.length_map];exact bJ (by omega) (by omega)
theorem PH{i:Nat}{S:List (Key×Int)}{s':AS}{v:Int}(hl:p.stmts.length<=67108864)(hS:aX p=WV [] i S)(hA:Iq p (aX p) ⟨[],[]⟩ ((p.stmts.length:Int)-1) v s'):LCall Tryz.prog 57 [.data (.i (IntKind.i64.wrap (((p.stmts.map Sm.cs).length:Int)-1))),.ptr 1000001 0,.ptr 1000002 0,.ptr 1000003 0,.ptr 1000004 0] [(1000001,.cells [.map 1000005]),(1000002,.cells [.map 1000006]),(1000003,.cells [.data (.str p.name),.data (.i p.latency),.data (.i p.tail),.data (.sl 3 (p.params.map Bd.cs)),.data (.sl 3 (p.states.map Bd.cs)),.data (.sl 4 (p.lines.map Ln.cs)),.data (.sl 2 (p.tables.map Tb.cs)),.data (.sl 8 (p.stmts.map Sm.cs))]),(1000004,.cells [.fn 56 [.ptr 1000007 0,.ptr 1000008 0,.ptr 1000003 0]]),(1000005,.map false [.int .i64] []),(1000006,.map false [.int .i64] []),(1000007,.cells [.fn 57 [.ptr 1000001 0,.ptr 1000002 0,.ptr 1000003 0,.ptr 1000004 0]]),(1000008,.cells [.map 1000009]),(1000009,.map true [.int .i64,.int .i64] (S.map kkD))] (.ret (.data (.i v))) [(1000001,.cells [.map 1000005]),(1000002,.cells [.map 1000006]),(1000003,.cells [.data (.str p.name),.data (.i p.latency),.data (.i p.tail),.data (.sl 3 (p.params.map Bd.cs)),.data (.sl 3 (p.states.map Bd.cs)),.data (.sl 4 (p.lines.map Ln.cs)),.data (.sl 2 (p.tables.map Tb.cs)),.data (.sl 8 (p.stmts.map Sm.cs))]),(1000004,.cells [.fn 56 [.ptr 1000007 0,.ptr 1000008 0,.ptr 1000003 0]]),(1000005,.map false [.int .i64] (s'.opn.map ibD)),(1000006,.map false [.int .i64] (s'.ages.map iiD)),(1000007,.cells [.fn 57 [.ptr 1000001 0,.ptr 1000002 0,.ptr 1000003 0,.ptr 1000004 0]]),(1000008,.cells [.map 1000009]),(1000009,.map true [.int .i64,.int .i64] (S.map kkD))]:=by
 rw[U6 hS]at hA;rw[zM (by omega)];exact hA
theorem KF{i:Nat}{S:List (Key×Int)}{s':AS}(hl:p.stmts.length<=67108864)(hS:aX p=WV [] i S)(hA:Ah p (aX p) ⟨[],[]⟩ ((p.stmts.length:Int)-1) s'):LCall Tryz.prog 57 [.data (.i (IntKind.i64.wrap (((p.stmts.map Sm.cs).length:Int)-1))),.ptr 1000001 0,.ptr 1000002 0,.ptr 1000003 0,.ptr 1000004 0] [(1000001,.cells [.map 1000005]),(1000002,.cells [.map 1000006]),(1000003,.cells [.data (.str p.name),.data (.i p.latency),.data (.i p.tail),.data (.sl 3 (p.params.map Bd.cs)),.data (.sl 3 (p.states.map Bd.cs)),.data (.sl 4 (p.lines.map Ln.cs)),.data (.sl 2 (p.tables.map Tb.cs)),.data (.sl 8 (p.stmts.map Sm.cs))]),(1000004,.cells [.fn 56 [.ptr 1000007 0,.ptr 1000008 0,.ptr 1000003 0]]),(1000005,.map false [.int .i64] []),(1000006,.map false [.int .i64] []),(1000007,.cells [.fn 57 [.ptr 1000001 0,.ptr 1000002 0,.ptr 1000003 0,.ptr 1000004 0]]),(1000008,.cells [.map 1000009]),(1000009,.map true [.int .i64,.int .i64] (S.map kkD))] (.pan (.data z7e)) [(1000001,.cells [.map 1000005]),(1000002,.cells [.map 1000006]),(1000003,.cells [.data (.str p.name),.data (.i p.latency),.data (.i p.tail),.data (.sl 3 (p.params.map Bd.cs)),.data (.sl 3 (p.states.map Bd.cs)),.data (.sl 4 (p.lines.map Ln.cs)),.data (.sl 2 (p.tables.map Tb.cs)),.data (.sl 8 (p.stmts.map Sm.cs))]),(1000004,.cells [.fn 56 [.ptr 1000007 0,.ptr 1000008 0,.ptr 1000003 0]]),(1000005,.map false [.int .i64] (s'.opn.map ibD)),(1000006,.map false [.int .i64] (s'.ages.map iiD)),(1000007,.cells [.fn 57 [.ptr 1000001 0,.ptr 1000002 0,.ptr 1000003 0,.ptr 1000004 0]]),(1000008,.cells [.map 1000009]),(1000009,.map true [.int .i64,.int .i64] (S.map kkD))]:=by
 rw[U6 hS]at hA;rw[zM (by omega)];exact hA
theorem z2o(p:Pr)(g:gq p)(hb:((aH p).2 != 0)=true):PCall Tryz.prog 36 [p.d] (.ret (.tuple [.i 0,.i (aH p).2])):=by
 refine aJ Tryz.func36 ?_
 repeat' ((try(conv=>whnf))<;>first
  |(exact Bool.noConfusion (hb.symm.trans h))
  |refine BrI.intro (λh=>?_) (λh=>?_)
  |((refine ai ?_ ?_ ?_);rotate_left;(exact wO p g))
  |((refine ak ?_ ?_);kernel_rfl)
  |(refine fA ?_;conv=>whnf)
  |fail)
 all_goals first
  |skip
theorem z7h(p:Pr)(v:Int)(s':AS)(g:gq p)(hb:(aH p).2=0)(hA:Iq p (aX p) ⟨[],[]⟩ ((p.stmts.length:Int)-1) v s'):PCall Tryz.prog 36 [p.d] (.ret (.tuple [.i v,.i 0])):=by
 refine dA Tryz.func36 λhf=>?_
 have hs5:=g.sm.stmts
 have hl_b:p.stmts.length<=9223372036854775807:=by omega
 clear hf
 repeat' ((try(conv=>whnf))<;>first
  |((refine BrI.ff_of ?_ ?_);exact rfl)
  |exact trivial
  |exact aj hd0 ‹_›
  |refine bu hd0 ?_
  |refine aN hd0 ?_
  |refine BrI.intro (λh=>?_) (λh=>?_)
  |((refine⟨_,_,_,[(1000000,2),(1000001,3)],z2m (.i v) (.i 0),rfl,⟨rfl,rfl,trivial⟩,?_,?_⟩);kernel_rfl)
  |(refine⟨([]:List (Nat×Nat)),rfl,?_,trivial⟩)
  |((refine au.mk 0 ?_);refine⟨aF (p.stmts) 20 (λ(S:(List (Key×Int)))=>[]) (λ(S:(List (Key×Int)))=>[(1,.cells [.data (.str p.name),.data (.i p.latency),.data (.i p.tail),.data (.sl 3 (p.params.map Bd.cs)),.data (.sl 3 (p.states.map Bd.cs)),.data (.sl 4 (p.lines.map Ln.cs)),.data (.sl 2 (p.tables.map Tb.cs)),.data (.sl 8 (p.stmts.map Sm.cs))]),(2,.cells [.data (.i 0)]),(3,.cells [.data (.i 0)]),(4,.cells [.map 16]),(16,.map true [.int .i64,.int .i64] (S.map kkD))]) [1,2,3,4,18,19] (λi0 r0 S=>aX p=WV r0 i0 S),?_⟩;refine af ([]) ?_ ?_ (λi0 (S:(List (Key×Int))) hd0 hI0=>?_) (λi0 x0 r0 (S:(List (Key×Int))) hd0 hl0 hI0=>?_))
  |(refine ag hd0 ((if sets x0.kind then Uc (x0.kind,x0.index) (i0:Int) S else S)) ?_ ?_)
  |((refine ai ?_ ?_ ?_);rotate_left;(exact EN p g hb))
  |((refine lent_step' [(1000001,8),(1000002,7),(1000003,1),(1000004,10),(1000005,42),(1000006,41),(1000007,9),(1000008,4),(1000009,16)] (PH g.sm.stmts hI0 hA) ?_ ?_ ?_ ?_);rotate_left 0;exact rfl;(exact⟨rfl,rfl,rfl,rfl,rfl,rfl,rfl,rfl,rfl,trivial⟩);exact rfl)
  |((refine ay ?_ ?_ ?_ ?_ ?_);exact rfl;exact rfl;rotate_left;(exact ax hd0))
  |((refine aK ?_ ?_);exact rfl)
  |(refine And.intro ?_ ?_)
  |exact @rfl AV _
  |exact @rfl Block _
  |fail)
 all_goals first
  |(rfl)
  |((exact hI0))
  |((exact NJ (k:=(x0.kind,x0.index)) (v:=(i0:Int)) (l:=S) (c:=sets x0.kind) h))
  |((exact NK (k:=(x0.kind,x0.index)) (v:=(i0:Int)) (l:=S) (c:=sets x0.kind) h))
  |skip
theorem z2p(p:Pr)(s':AS)(g:gq p)(hb:(aH p).2=0)(hA:Ah p (aX p) ⟨[],[]⟩ ((p.stmts.length:Int)-1) s'):PCall Tryz.prog 36 [p.d] (.ret (.tuple [.i (-1),.i 0])):=by
 refine dA Tryz.func36 λhf=>?_
 have hs5:=g.sm.stmts
 have hl_b:p.stmts.length<=9223372036854775807:=by omega
 clear hf
 repeat' ((try(conv=>whnf))<;>first
  |((refine BrI.ff_of ?_ ?_);exact rfl)
  |exact trivial
  |exact aj hd0 ‹_›
  |refine bu hd0 ?_
  |refine aN hd0 ?_
  |refine BrI.intro (λh=>?_) (λh=>?_)
  |((refine⟨_,_,_,[(1000000,2),(1000001,3)],XW (.i 0) (.i 0),rfl,⟨rfl,rfl,trivial⟩,?_,?_⟩);kernel_rfl)
  |(refine⟨([]:List (Nat×Nat)),rfl,?_,trivial⟩)
  |((refine au.mk 0 ?_);refine⟨aF (p.stmts) 20 (λ(S:(List (Key×Int)))=>[]) (λ(S:(List (Key×Int)))=>[(1,.cells [.data (.str p.name),.data (.i p.latency),.data (.i p.tail),.data (.sl 3 (p.params.map Bd.cs)),.data (.sl 3 (p.states.map Bd.cs)),.data (.sl 4 (p.lines.map Ln.cs)),.data (.sl 2 (p.tables.map Tb.cs)),.data (.sl 8 (p.stmts.map Sm.cs))]),(2,.cells [.data (.i 0)]),(3,.cells [.data (.i 0)]),(4,.cells [.map 16]),(16,.map true [.int .i64,.int .i64] (S.map kkD))]) [1,2,3,4,18,19] (λi0 r0 S=>aX p=WV r0 i0 S),?_⟩;refine af ([]) ?_ ?_ (λi0 (S:(List (Key×Int))) hd0 hI0=>?_) (λi0 x0 r0 (S:(List (Key×Int))) hd0 hl0 hI0=>?_))
  |(refine ag hd0 ((if sets x0.kind then Uc (x0.kind,x0.index) (i0:Int) S else S)) ?_ ?_)
  |((refine ai ?_ ?_ ?_);rotate_left;(exact EN p g hb))
  |((refine lent_step' [(1000001,8),(1000002,7),(1000003,1),(1000004,10),(1000005,42),(1000006,41),(1000007,9),(1000008,4),(1000009,16)] (KF g.sm.stmts hI0 hA) ?_ ?_ ?_ ?_);rotate_left 0;exact rfl;(exact⟨rfl,rfl,rfl,rfl,rfl,rfl,rfl,rfl,rfl,trivial⟩);exact rfl)
  |((refine ay ?_ ?_ ?_ ?_ ?_);exact rfl;exact rfl;rotate_left;(exact ax hd0))
  |((refine aK ?_ ?_);exact rfl)
  |(refine And.intro ?_ ?_)
  |exact @rfl AV _
  |exact @rfl Block _
  |fail)
 all_goals first
  |(rfl)
  |((exact hI0))
  |((exact NJ (k:=(x0.kind,x0.index)) (v:=(i0:Int)) (l:=S) (c:=sets x0.kind) h))
  |((exact NK (k:=(x0.kind,x0.index)) (v:=(i0:Int)) (l:=S) (c:=sets x0.kind) h))
  |skip
theorem KG(p:Pr)(g:gq p):PCall Tryz.prog 36 [p.d] (.ret (.tuple [.i (wz p).1,.i (wz p).2])):=by
 cases h:((aH p).2 != 0)with
 |true=>rw[wz,if_pos h];exact z2o p g h
 |false=>
  rw[wz,if_neg (by rw[h];decide)]
  have hb:(aH p).2=0:=by simpa using h
  have hr:=xZ (lJ hb).2
  have hall:=EM p (aX p) (p.stmts.length+1) ⟨[],[]⟩ ((p.stmts.length:Int)-1)
  rcases UC (z1c hr) (Um hr)with⟨v,s',e⟩ |⟨t,e⟩
  ·have:=z7h p v s' g hb (hall.1 v s' e)
   rw[z09,e];exact this
  ·have:=z2p p t g hb (hall.2 t e)
   rw[z09,e];exact this
theorem z9r{n m lat tail:Int}{b:Bool}(h1:decide (n>lat)=false)(h:(bif (0:Int) != 0 then true else bif tail != -1 then bif m == -1 then true else decide (m>tail)else false)=b):(if n>lat then(170:Int)else if(tail != -1&&(m == -1 || decide (m>tail)))=true then 171 else 0)=if b then 171 else 0:=by
 rw[if_neg (of_decide_eq_false h1)]
 have:(tail != -1&&(m == -1 || decide (m>tail)))=b:=by rw[<-h];cases tail != -1<;>cases m == -1<;>rfl
 rw[this]
theorem U7(p:Pr)(g:gq p)(hb:((aH p).2 != 0)=true)(h1:PCall Tryz.prog 35 [p.d] (.ret (.tuple [.i 0,.i (aH p).2]))):PCall Tryz.prog 14 [p.d] (.ret (.i (aH p).2)):=by
 refine aJ Tryz.func14 ?_
 repeat' ((try(conv=>whnf))<;>first
  |(exact Bool.noConfusion (hb.symm.trans h))
  |refine BrI.intro (λh=>?_) (λh=>?_)
  |((refine ai ?_ ?_ ?_);rotate_left;(exact h1))
  |(refine fA ?_;conv=>whnf)
  |fail)
 all_goals first
  |skip
theorem U8(p:Pr)(n m:Int)(g:gq p)(h1:PCall Tryz.prog 35 [p.d] (.ret (.tuple [.i n,.i 0])))(h2:PCall Tryz.prog 36 [p.d] (.ret (.tuple [.i m,.i 0]))):PCall Tryz.prog 14 [p.d] (.ret (.i (if n>p.latency then 170 else if(p.tail != -1&&(m == -1 || decide (m>p.tail)))=true then 171 else 0))):=by
 refine aJ Tryz.func14 ?_
 repeat' ((try(conv=>whnf))<;>first
  |((refine BrI.ff_of ?_ ?_);exact rfl)
  |refine BrI.intro (λh=>?_) (λh=>?_)
  |((refine ai ?_ ?_ ?_);rotate_left;(first |exact h1 |exact h2))
  |(refine fA ?_;conv=>whnf)
  |fail)
 all_goals first
  |((exact congrArg D.i (by rw[if_pos (of_decide_eq_true ‹_›)])))
  |((exact congrArg D.i (z9r ‹_› h).symm))
  |skip
theorem qm(p:Pr)(g:gq p):PCall Tryz.prog 14 [p.d] (.ret (.i (kZ p))):=by
 cases h:((aH p).2 != 0)with
 |true=>
  rw[kZ,if_pos h]
  have h1:=xm p g
  rw[nR,if_pos h]at h1
  exact U7 p g h h1
 |false=>
  have hb:(aH p).2=0:=by simpa using h
  rw[kZ,if_neg (by rw[h];decide)]
  have h1:=xm p g
  have h2:=KG p g
  rw[z8z hb]at h1
  rw[z81 hb]at h2
  exact U8 p (z3b p) (z09 p) g h1 h2
end Go.Proofs.YthpbakljheeabaaGreatDoor
