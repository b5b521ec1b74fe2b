/- Contracts: package ranges: Check and Interval, whole. -/
import Derived.Test.YthpbakljheeabaaGreatDoorZXA
import Derived.Test.YthpbakljheeabaaGreatDoorZYB
import Derived.Test.YthpbakljheeabaaGreatDoorZTB
set_option linter.unusedSectionVars false
set_option linter.unusedSimpArgs false
set_option linter.unusedVariables false
set_option maxHeartbeats 8000000
namespace Go.Proofs.YthpbakljheeabaaGreatDoor
open Go.Fw Go.Fw.Rg Go.Fw.Nam
set_option maxRecDepth 10000
variable [af]
theorem Hl(p:Pr)(g:iY p):∃pd,PCall Tryz.prog 72 [p.d] (.ret (.tuple [pd,.i (aJ p).2]))/\(((aJ p).2 != 0)=true->pd = .val (.pointer none)\/pd = .ptr (fC p (gI p p.stmts [])))/\((aJ p).2=0->pd = .ptr (fC p (aJ p).1)):=by
 cases he:resE p != 0 with
 |true=>
  rw[pF he]
  refine⟨.val (.pointer none),?_,λ_=>.inl rfl,λh=>?_⟩
  ·cases h2:(resolveC p).2 != 0 with
   |true=>rw[show resE p=(resolveC p).2 from by rw[resE,if_pos h2]];exact Xc p g h2
   |false=>
    cases h3:qx p (resolveC p).1 with
    |true=>rw[resE,if_neg (by rw[h2];decide),h3]at he;exact absurd he (by decide)
    |false=>rw[show resE p=150 from by rw[resE,if_neg (by rw[h2];decide),h3];rfl];exact Xd p g h2 h3
  ·have h:resE p=0:=h
   rw[h]at he;exact absurd he (by decide)
 |false=>
  have hz:resE p=0:=by simpa using he
  have hr:=xx hz
  have hq:=F5 hz
  cases hs:bK p p.stmts []with
  |ok F=>
   rw[pq hz hs]
   have hF:gI p p.stmts []=F:=ZI hs
   exact⟨.ptr (fC p F),Xe p F g (by rw[hq]) (by rw[hq]) hr.rng hr.wf hs hF,λh=>Bool.noConfusion (show false=true from h),λ_=>rfl⟩
  |error e=>
   rw[zo hz hs]
   refine⟨.ptr (fC p (gI p p.stmts [])),Ui p _ e g (by rw[hq]) (by rw[hq]) hr.rng hr.wf hs rfl,λ_=>.inr rfl,λh=>?_⟩
   have:=RQ hs
   have h:e=0:=h
   rw[h]at this;exact absurd this (by decide)
theorem JM(p:Pr)(g:iY p):PCall Tryz.prog 69 [p.d] (.ret (.i (aJ p).2)):=by
 obtain⟨pd,h1,h2,h3⟩:=Hl p g
 exact check_any p pd _ h1
theorem Ah(p:Pr)(x:Ex)(g:iY p)(hx:Ref15.nodes x<=1073741824):PCall Tryz.prog 55 [p.d,x.d] (.ret (z9v (fP p x))):=by
 obtain⟨pd,h1,h2,h3⟩:=Hl p g
 cases he:(aJ p).2 != 0 with
 |true=>
  rw[ZH he]
  rcases h2 he with r |r
  ·subst r;exact z09 p x _ h1 he
  ·subst r;exact z1a p x _ _ h1 he
 |false=>
  have hz:(aJ p).2=0:=by simpa using he
  have h3:=h3 hz;subst h3
  rw[hz]at h1
  have hb:=(lh hz).1
  cases hx2:DR p x with
  |false=>rw[RU hz hx2];exact Xh p x _ h1 hx2
  |true=>
   rw[RV hz hx2]
   have hf:=vM x p (aJ p).1 hb.res.rng hb.ins g.hT hx (z4b hb hx2)
   cases hm:dG p (aJ p).1 x with
   |ok s=>rw[hm]at hf;exact z6c p x _ s h1 hx2 hf
   |error e=>rw[hm]at hf;exact z1b p x _ e h1 hx2 hf
end Go.Proofs.YthpbakljheeabaaGreatDoor
namespace Go.Proofs.YthpbakljheeabaaGreatDoor
open Go.Fw Go.Fw.Rg Go.Fw.Nam Go.Fw.Tl
set_option maxRecDepth 10000
variable [af]
theorem z9d{p:Pr}(h:((resolveC p).2 != 0)=true):(resolveC p).2=(aJ p).2:=by
 have e:resE p=(resolveC p).2:=by rw[resE,if_pos h]
 rw[pF (by rw[e];exact h),e]
theorem z9e{p:Pr}(h:((resolveC p).2 != 0)=false)(h2:(!qx (resolveC p).1 p)=true):(150:Int)=(aJ p).2:=by
 have h3:qx p (resolveC p).1=false:=by
  cases q:qx p (resolveC p).1 with
  |false=>rfl
  |true=>
   have e:=(iD _ _).1 q
   rw[(iD _ _).2 e.symm]at h2
   exact Bool.noConfusion h2
 have e:resE p=150:=by rw[resE,h,if_neg (by decide),if_neg (by rw[h3];decide)]
 rw[pF (by rw[e];decide),e]
theorem vO(p:Pr)(g:iY p):PCall Tryz.prog 53 [p.d] (.ret (.i (aJ p).2)):=by
 refine ae tok hmix ⟨[],[]⟩ Tryz.func53 rfl (by kernel_rfl) (by kernel_rfl) (by kernel_rfl) λhf=>?_
 clear hf
 repeat' ((try(conv=>whnf))<;>first
  |refine BrI.intro (λh=>?_) (λh=>?_)
  |((refine ak ?_ ?_ ?_);rotate_left;(first |exact jB p g.sm g.hn |exact jT (resolveC p).1 p |exact JM p g))
  |((refine ai ?_);refine⟨[],rfl,?_,trivial⟩;conv=>whnf)
  |fail)
 all_goals first
  |((exact congrArg D.i (z9d h)))
  |((exact congrArg D.i (z9e ‹_› h)))
  |skip
theorem Ed(p:Pr)(g:iY p)(h:(aJ p).2=0):PCall Tryz.prog 53 [p.d] (.ret (.i 0)):=by
 have:=vO p g;rwa[h]at this
theorem z1f(p:Pr)(z:Ex)(s:Sp)(g:iY p)(h:fP p z = .ok s)(hz:Ref15.nodes z<=1073741824):PCall Tryz.prog 55 [p.d,z.d] (.ret (.tuple [.i s.1,.i s.2,.i 0])):=by
 have:=Ah p z g hz;rw[h]at this;exact this
theorem z1g(p:Pr)(g:iY p)(hb:((aJ p).2 != 0)=true):PCall Tryz.prog 35 [p.d] (.ret (.tuple [.i 0,.i (aJ p).2])):=by
 refine ae tok hmix ⟨[],[]⟩ Tryz.func35 rfl (by kernel_rfl) (by kernel_rfl) (by kernel_rfl) λhf=>?_
 clear hf
 repeat' ((try(conv=>whnf))<;>first
  |(exact Bool.noConfusion (hb.symm.trans h))
  |refine BrI.intro (λh=>?_) (λh=>?_)
  |((refine ak ?_ ?_ ?_);rotate_left;(exact vO p g))
  |((refine ay ?_ ?_);kernel_rfl)
  |((refine ai ?_);refine⟨[],rfl,?_,trivial⟩;conv=>whnf)
  |fail)
 all_goals first
  |skip
theorem z6f(p:Pr)(F:List Sp)(g:iY p)(hb:BOk p F):PCall Tryz.prog 35 [p.d] (.ret (.tuple [.i (z15 p),.i 0])):=by
 refine ae tok hmix ⟨[],[]⟩ Tryz.func35 rfl (by kernel_rfl) (by kernel_rfl) (by kernel_rfl) λhf=>?_
 have hs5:=g.sm.stmts
 have hl_b:p.stmts.length<=9223372036854775807:=by omega
 clear hf
 repeat' ((try(conv=>whnf))<;>first
  |((refine BrI.ff_of ?_ ?_);exact rfl)
  |((refine jZ.mk 25 ?_);refine⟨rfl,⟨[(1,.ptr 1 0),(2,.ptr 2 0),(3,.ptr 3 0),(16,.data (.sl 8 (p.stmts.map Sm.cs))),(17,.data (.i ((p.stmts.map Sm.cs).length:Nat))),(18,.data (.i (i0:Nat))),(24,.fn 70 [.ptr 800001 0])],[(1,.cells [.data (.str p.name),.data (.i p.latency),.data (.i p.tail),.data (.sl 3 (p.params.map Bd.cs)),.data (.sl 3 (p.states.map Bd.cs)),.data (.sl 4 (p.lines.map Ln.cs)),.data (.sl 2 (p.tables.map Tb.cs)),.data (.sl 8 (p.stmts.map Sm.cs))]),(2,.cells [.data (.i n)]),(3,.cells [.data (.i 0)]),(800001,.cells [.data (.i x0.x.kind),.data (.str x0.x.name),.data (.i x0.x.index),.data (.i x0.x.n),.data (.sl 5 (Ex.css x0.x.l))])],[(1000000,2),(1000001,1),(1000002,3)],[(1,.ptr 1000001 0),(2,.ptr 1000000 0),(3,.ptr 1000002 0)],λj=>[(1000000,.cells [.data (.i (TG p n x0.x j))]),(1000001,.cells [.data (.str p.name),.data (.i p.latency),.data (.i p.tail),.data (.sl 3 (p.params.map Bd.cs)),.data (.sl 3 (p.states.map Bd.cs)),.data (.sl 4 (p.lines.map Ln.cs)),.data (.sl 2 (p.tables.map Tb.cs)),.data (.sl 8 (p.stmts.map Sm.cs))]),(1000002,.cells [.data (.i 0)])],(aF x0.x).length,λj=>[((aF x0.x).getD j Ex.none).d],900002,none⟩,⟨?_,rfl,rfl,?_,?_,λj hj=>⟨rfl,rfl,?_⟩,λ_ _ e=>Hg e,⟨_,_,rfl,rfl,λRf Re hy hy2=>⟨1000000,[.ptr 1000001 0],[(1000001,.cells [.data (.i x0.x.kind),.data (.str x0.x.name),.data (.i x0.x.index),.data (.i x0.x.n),.data (.sl 5 (Ex.css x0.x.l))])],.data (.tuple []),[(1000001,.cells [.data (.i x0.x.kind),.data (.str x0.x.name),.data (.i x0.x.index),.data (.i x0.x.n),.data (.sl 5 (Ex.css x0.x.l))])],[(1000000,900002),(1000001,800001)],BU x0.x Rf (λj y hj=>Jz (P:=λn d=>LCall Tryz.prog zM [.yld 1000000,.data d] [(1000000,.rnd (Rf n))] (.ret (.b true)) [(1000000,.rnd (Rf (n+1)))]) hy j y (List.getElem?_eq_some_iff.1 hj).1 hj),rfl,?_,rfl,rfl,?_⟩⟩⟩⟩)
  |(have hq:=z0k (n:=n) hb g hd0 hj (by assumption);clear hj;obtain⟨z,s,hz1,hz2,hz3,hz4⟩:=hq)
  |(have hz4:=z5f (p:=p) (n:=n) hj (by assumption);clear hj)
  |((refine aG ?_ ?_ ?_ ?_ ?_);exact rfl;exact rfl;rotate_left;exact Wj hz1)
  |exact trivial
  |exact au hd0 ‹_›
  |refine bi hd0 ?_
  |refine aK hd0 ?_
  |refine BrI.intro (λh=>?_) (λh=>?_)
  |((refine aA.mk 0 ?_);refine⟨aI (p.stmts) 18 (λ(n:(Int))=>[]) (λ(n:(Int))=>[(1,.cells [.data (.str p.name),.data (.i p.latency),.data (.i p.tail),.data (.sl 3 (p.params.map Bd.cs)),.data (.sl 3 (p.states.map Bd.cs)),.data (.sl 4 (p.lines.map Ln.cs)),.data (.sl 2 (p.tables.map Tb.cs)),.data (.sl 8 (p.stmts.map Sm.cs))]),(2,.cells [.data (.i n)]),(3,.cells [.data (.i 0)])]) [2,3,16,17,1] (λi0 r0 n=>z15 p=r0.foldl (z8k p) n),?_⟩;refine ag (0) ?_ ?_ (λi0 (n:(Int)) hd0 hI0=>?_) (λi0 x0 r0 (n:(Int)) hd0 hl0 hI0=>?_))
  |(refine ah hd0 (TG p n x0.x (aF x0.x).length) ?_ ?_)
  |((refine ak ?_ ?_ ?_);rotate_left;(first |exact Ed p g (Wh hb) |exact z1f p z s g hz2 hz3))
  |((refine fM [(1000000,800001)] (vN x0.x) ?_ ?_ ?_ ?_);rotate_left 0;exact rfl;(exact trivial);exact rfl)
  |((refine aG ?_ ?_ ?_ ?_ ?_);exact rfl;exact rfl;rotate_left;(exact aC hd0))
  |((refine aN ?_ ?_);exact rfl)
  |((refine ay ?_ ?_);kernel_rfl)
  |((refine ai ?_);refine⟨[],rfl,?_,trivial⟩;conv=>whnf)
  |(refine And.intro ?_ ?_)
  |exact @rfl AV _
  |exact @rfl (List AV) _
  |fail)
 all_goals first
  |(rfl)
  |((rw[Wi];exact hI0))
  |((exact congrArg (λz=>D.tuple [.i z,.i 0]) hI0.symm))
  |((exact congrArg (λz=>AV.data (D.i z)) hz4.symm))
  |skip
theorem wC(p:Pr)(g:iY p):PCall Tryz.prog 35 [p.d] (.ret (.tuple [.i (ni p).1,.i (ni p).2])):=by
 cases h:((aJ p).2 != 0)with
 |true=>rw[ni,if_pos h];exact z1g p g h
 |false=>rw[ni,if_neg (by rw[h];decide)];exact z6f p _ g (lh (by simpa using h)).1
end Go.Proofs.YthpbakljheeabaaGreatDoor
namespace Go.Proofs.YthpbakljheeabaaGreatDoor
open Go.Fw Go.Fw.Ref15 Go.Fw.Rg Go.Fw.Tl
set_option maxRecDepth 10000
variable [af] {p : Pr}
theorem Xj(a b:D):sJ Tryz.prog 58 [.ptr 1000000 0,.ptr 1000001 0] (some z6d) [(1000000,.cells [.data a]),(1000001,.cells [.data b])] [(1000000,.cells [.data (.i (-1))]),(1000001,.cells [.data (.i 0)])]:=by
 refine gZ tok hmix Tryz.func58 rfl (by kernel_rfl) (by kernel_rfl) (by kernel_rfl) ?_
 repeat' ((try(conv=>whnf))<;>first
  |exact trivial
  |(refine⟨([]:List (Nat×Nat)),?_⟩)
  |(refine⟨by kernel_rfl,?_⟩)
  |(refine⟨rfl,?_⟩)
  |(refine⟨?_,?_⟩)
  |fail)
theorem z1h(a b:D):sJ Tryz.prog 58 [.ptr 1000000 0,.ptr 1000001 0] none [(1000000,.cells [.data a]),(1000001,.cells [.data b])] [(1000000,.cells [.data a]),(1000001,.cells [.data b])]:=by
 refine gZ tok hmix Tryz.func58 rfl (by kernel_rfl) (by kernel_rfl) (by kernel_rfl) ?_
 repeat' ((try(conv=>whnf))<;>first
  |exact trivial
  |(refine⟨([]:List (Nat×Nat)),?_⟩)
  |(refine⟨by kernel_rfl,?_⟩)
  |(refine⟨rfl,?_⟩)
  |(refine⟨?_,?_⟩)
  |fail)
theorem MP{g:Bool}{ks:List KS}{l:List (Key×Int)}{k:Key}{v:Int}{c:Bool}(h:c=true):Block.map g ks (mput (.agg [.i k.1,.i k.2]) (.i v) (l.map kkD))=Block.map g ks ((if c then SY k v l else l).map kkD):=by rw[Tc,if_pos h]
theorem MQ{g:Bool}{ks:List KS}{l:List (Key×Int)}{k:Key}{v:Int}{c:Bool}(h:c=false):Block.map g ks (l.map kkD)=Block.map g ks ((if c then SY k v l else l).map kkD):=by rw[if_neg (by rw[h];decide)]
theorem Ul{i:Nat}{S:List (Key×Int)}(h:aV p=V4 [] i S):aV p=S:=h
theorem zh(h:p.stmts.length<=1073741824):IntKind.i64.wrap (((p.stmts.map Sm.cs).length:Int)-1)=(p.stmts.length:Int)-1:=by rw[List.length_map];exact bH (by omega) (by omega)
theorem OX{i:Nat}{S:List (Key×Int)}{s':AS}{v:Int}(hl:p.stmts.length<=67108864)(hS:aV p=V4 [] i S)(hA:Hf p (aV p) ⟨[],[]⟩ ((p.stmts.length:Int)-1) v s'):LCall Tryz.prog 57 [.data (.i (IntKind.i64.wrap (((p.stmts.map Sm.cs).length:Int)-1))),.ptr 1000001 0,.ptr 1000002 0,.ptr 1000003 0,.ptr 1000004 0] [(1000001,.cells [.map 1000005]),(1000002,.cells [.map 1000006]),(1000003,.cells [.data (.str p.name),.data (.i p.latency),.data (.i p.tail),.data (.sl 3 (p.params.map Bd.cs)),.data (.sl 3 (p.states.map Bd.cs)),.data (.sl 4 (p.lines.map Ln.cs)),.data (.sl 2 (p.tables.map Tb.cs)),.data (.sl 8 (p.stmts.map Sm.cs))]),(1000004,.cells [.fn 56 [.ptr 1000007 0,.ptr 1000008 0,.ptr 1000003 0]]),(1000005,.map false [.int .i64] []),(1000006,.map false [.int .i64] []),(1000007,.cells [.fn 57 [.ptr 1000001 0,.ptr 1000002 0,.ptr 1000003 0,.ptr 1000004 0]]),(1000008,.cells [.map 1000009]),(1000009,.map true [.int .i64,.int .i64] (S.map kkD))] (.ret (.data (.i v))) [(1000001,.cells [.map 1000005]),(1000002,.cells [.map 1000006]),(1000003,.cells [.data (.str p.name),.data (.i p.latency),.data (.i p.tail),.data (.sl 3 (p.params.map Bd.cs)),.data (.sl 3 (p.states.map Bd.cs)),.data (.sl 4 (p.lines.map Ln.cs)),.data (.sl 2 (p.tables.map Tb.cs)),.data (.sl 8 (p.stmts.map Sm.cs))]),(1000004,.cells [.fn 56 [.ptr 1000007 0,.ptr 1000008 0,.ptr 1000003 0]]),(1000005,.map false [.int .i64] (s'.opn.map ibD)),(1000006,.map false [.int .i64] (s'.ages.map iiD)),(1000007,.cells [.fn 57 [.ptr 1000001 0,.ptr 1000002 0,.ptr 1000003 0,.ptr 1000004 0]]),(1000008,.cells [.map 1000009]),(1000009,.map true [.int .i64,.int .i64] (S.map kkD))]:=by
 rw[Ul hS]at hA;rw[zh (by omega)];exact hA
theorem JO{i:Nat}{S:List (Key×Int)}{s':AS}(hl:p.stmts.length<=67108864)(hS:aV p=V4 [] i S)(hA:zJ p (aV p) ⟨[],[]⟩ ((p.stmts.length:Int)-1) s'):LCall Tryz.prog 57 [.data (.i (IntKind.i64.wrap (((p.stmts.map Sm.cs).length:Int)-1))),.ptr 1000001 0,.ptr 1000002 0,.ptr 1000003 0,.ptr 1000004 0] [(1000001,.cells [.map 1000005]),(1000002,.cells [.map 1000006]),(1000003,.cells [.data (.str p.name),.data (.i p.latency),.data (.i p.tail),.data (.sl 3 (p.params.map Bd.cs)),.data (.sl 3 (p.states.map Bd.cs)),.data (.sl 4 (p.lines.map Ln.cs)),.data (.sl 2 (p.tables.map Tb.cs)),.data (.sl 8 (p.stmts.map Sm.cs))]),(1000004,.cells [.fn 56 [.ptr 1000007 0,.ptr 1000008 0,.ptr 1000003 0]]),(1000005,.map false [.int .i64] []),(1000006,.map false [.int .i64] []),(1000007,.cells [.fn 57 [.ptr 1000001 0,.ptr 1000002 0,.ptr 1000003 0,.ptr 1000004 0]]),(1000008,.cells [.map 1000009]),(1000009,.map true [.int .i64,.int .i64] (S.map kkD))] (.pan (.data z6d)) [(1000001,.cells [.map 1000005]),(1000002,.cells [.map 1000006]),(1000003,.cells [.data (.str p.name),.data (.i p.latency),.data (.i p.tail),.data (.sl 3 (p.params.map Bd.cs)),.data (.sl 3 (p.states.map Bd.cs)),.data (.sl 4 (p.lines.map Ln.cs)),.data (.sl 2 (p.tables.map Tb.cs)),.data (.sl 8 (p.stmts.map Sm.cs))]),(1000004,.cells [.fn 56 [.ptr 1000007 0,.ptr 1000008 0,.ptr 1000003 0]]),(1000005,.map false [.int .i64] (s'.opn.map ibD)),(1000006,.map false [.int .i64] (s'.ages.map iiD)),(1000007,.cells [.fn 57 [.ptr 1000001 0,.ptr 1000002 0,.ptr 1000003 0,.ptr 1000004 0]]),(1000008,.cells [.map 1000009]),(1000009,.map true [.int .i64,.int .i64] (S.map kkD))]:=by
 rw[Ul hS]at hA;rw[zh (by omega)];exact hA
theorem z1i(p:Pr)(g:iY p)(hb:((aJ p).2 != 0)=true):PCall Tryz.prog 36 [p.d] (.ret (.tuple [.i 0,.i (aJ p).2])):=by
 refine ae tok hmix ⟨[],[]⟩ Tryz.func36 rfl (by kernel_rfl) (by kernel_rfl) (by kernel_rfl) λhf=>?_
 clear hf
 repeat' ((try(conv=>whnf))<;>first
  |(exact Bool.noConfusion (hb.symm.trans h))
  |refine BrI.intro (λh=>?_) (λh=>?_)
  |((refine ak ?_ ?_ ?_);rotate_left;(exact vO p g))
  |((refine ay ?_ ?_);kernel_rfl)
  |((refine ai ?_);refine⟨[],rfl,?_,trivial⟩;conv=>whnf)
  |fail)
 all_goals first
  |skip
theorem z6g(p:Pr)(v:Int)(s':AS)(g:iY p)(hb:(aJ p).2=0)(hA:Hf p (aV p) ⟨[],[]⟩ ((p.stmts.length:Int)-1) v s'):PCall Tryz.prog 36 [p.d] (.ret (.tuple [.i v,.i 0])):=by
 refine ae tok hmix ⟨[],[]⟩ Tryz.func36 rfl (by kernel_rfl) (by kernel_rfl) (by kernel_rfl) λhf=>?_
 have hs5:=g.sm.stmts
 have hl_b:p.stmts.length<=9223372036854775807:=by omega
 clear hf
 repeat' ((try(conv=>whnf))<;>first
  |((refine BrI.ff_of ?_ ?_);exact rfl)
  |exact trivial
  |exact au hd0 ‹_›
  |refine bi hd0 ?_
  |refine aK hd0 ?_
  |refine BrI.intro (λh=>?_) (λh=>?_)
  |((refine⟨_,_,_,[(1000000,2),(1000001,3)],z1h (.i v) (.i 0),rfl,⟨rfl,rfl,trivial⟩,?_,?_⟩);kernel_rfl)
  |(refine⟨([]:List (Nat×Nat)),rfl,?_,trivial⟩)
  |((refine aA.mk 0 ?_);refine⟨aI (p.stmts) 20 (λ(S:(List (Key×Int)))=>[]) (λ(S:(List (Key×Int)))=>[(1,.cells [.data (.str p.name),.data (.i p.latency),.data (.i p.tail),.data (.sl 3 (p.params.map Bd.cs)),.data (.sl 3 (p.states.map Bd.cs)),.data (.sl 4 (p.lines.map Ln.cs)),.data (.sl 2 (p.tables.map Tb.cs)),.data (.sl 8 (p.stmts.map Sm.cs))]),(2,.cells [.data (.i 0)]),(3,.cells [.data (.i 0)]),(4,.cells [.map 16]),(16,.map true [.int .i64,.int .i64] (S.map kkD))]) [1,2,3,4,18,19] (λi0 r0 S=>aV p=V4 r0 i0 S),?_⟩;refine ag ([]) ?_ ?_ (λi0 (S:(List (Key×Int))) hd0 hI0=>?_) (λi0 x0 r0 (S:(List (Key×Int))) hd0 hl0 hI0=>?_))
  |(refine ah hd0 ((if sets x0.kind then SY (x0.kind,x0.index) (i0:Int) S else S)) ?_ ?_)
  |((refine ak ?_ ?_ ?_);rotate_left;(exact Ed p g hb))
  |((refine lent_step' [(1000001,8),(1000002,7),(1000003,1),(1000004,10),(1000005,42),(1000006,41),(1000007,9),(1000008,4),(1000009,16)] (OX g.sm.stmts hI0 hA) ?_ ?_ ?_ ?_);rotate_left 0;exact rfl;(exact⟨rfl,rfl,rfl,rfl,rfl,rfl,rfl,rfl,rfl,trivial⟩);exact rfl)
  |((refine aG ?_ ?_ ?_ ?_ ?_);exact rfl;exact rfl;rotate_left;(exact aC hd0))
  |((refine aN ?_ ?_);exact rfl)
  |(refine And.intro ?_ ?_)
  |exact @rfl AV _
  |exact @rfl Block _
  |fail)
 all_goals first
  |(rfl)
  |((exact hI0))
  |((exact MP (k:=(x0.kind,x0.index)) (v:=(i0:Int)) (l:=S) (c:=sets x0.kind) h))
  |((exact MQ (k:=(x0.kind,x0.index)) (v:=(i0:Int)) (l:=S) (c:=sets x0.kind) h))
  |skip
theorem z1j(p:Pr)(s':AS)(g:iY p)(hb:(aJ p).2=0)(hA:zJ p (aV p) ⟨[],[]⟩ ((p.stmts.length:Int)-1) s'):PCall Tryz.prog 36 [p.d] (.ret (.tuple [.i (-1),.i 0])):=by
 refine ae tok hmix ⟨[],[]⟩ Tryz.func36 rfl (by kernel_rfl) (by kernel_rfl) (by kernel_rfl) λhf=>?_
 have hs5:=g.sm.stmts
 have hl_b:p.stmts.length<=9223372036854775807:=by omega
 clear hf
 repeat' ((try(conv=>whnf))<;>first
  |((refine BrI.ff_of ?_ ?_);exact rfl)
  |exact trivial
  |exact au hd0 ‹_›
  |refine bi hd0 ?_
  |refine aK hd0 ?_
  |refine BrI.intro (λh=>?_) (λh=>?_)
  |((refine⟨_,_,_,[(1000000,2),(1000001,3)],Xj (.i 0) (.i 0),rfl,⟨rfl,rfl,trivial⟩,?_,?_⟩);kernel_rfl)
  |(refine⟨([]:List (Nat×Nat)),rfl,?_,trivial⟩)
  |((refine aA.mk 0 ?_);refine⟨aI (p.stmts) 20 (λ(S:(List (Key×Int)))=>[]) (λ(S:(List (Key×Int)))=>[(1,.cells [.data (.str p.name),.data (.i p.latency),.data (.i p.tail),.data (.sl 3 (p.params.map Bd.cs)),.data (.sl 3 (p.states.map Bd.cs)),.data (.sl 4 (p.lines.map Ln.cs)),.data (.sl 2 (p.tables.map Tb.cs)),.data (.sl 8 (p.stmts.map Sm.cs))]),(2,.cells [.data (.i 0)]),(3,.cells [.data (.i 0)]),(4,.cells [.map 16]),(16,.map true [.int .i64,.int .i64] (S.map kkD))]) [1,2,3,4,18,19] (λi0 r0 S=>aV p=V4 r0 i0 S),?_⟩;refine ag ([]) ?_ ?_ (λi0 (S:(List (Key×Int))) hd0 hI0=>?_) (λi0 x0 r0 (S:(List (Key×Int))) hd0 hl0 hI0=>?_))
  |(refine ah hd0 ((if sets x0.kind then SY (x0.kind,x0.index) (i0:Int) S else S)) ?_ ?_)
  |((refine ak ?_ ?_ ?_);rotate_left;(exact Ed p g hb))
  |((refine lent_step' [(1000001,8),(1000002,7),(1000003,1),(1000004,10),(1000005,42),(1000006,41),(1000007,9),(1000008,4),(1000009,16)] (JO g.sm.stmts hI0 hA) ?_ ?_ ?_ ?_);rotate_left 0;exact rfl;(exact⟨rfl,rfl,rfl,rfl,rfl,rfl,rfl,rfl,rfl,trivial⟩);exact rfl)
  |((refine aG ?_ ?_ ?_ ?_ ?_);exact rfl;exact rfl;rotate_left;(exact aC hd0))
  |((refine aN ?_ ?_);exact rfl)
  |(refine And.intro ?_ ?_)
  |exact @rfl AV _
  |exact @rfl Block _
  |fail)
 all_goals first
  |(rfl)
  |((exact hI0))
  |((exact MP (k:=(x0.kind,x0.index)) (v:=(i0:Int)) (l:=S) (c:=sets x0.kind) h))
  |((exact MQ (k:=(x0.kind,x0.index)) (v:=(i0:Int)) (l:=S) (c:=sets x0.kind) h))
  |skip
theorem JP(p:Pr)(g:iY p):PCall Tryz.prog 36 [p.d] (.ret (.tuple [.i (vF p).1,.i (vF p).2])):=by
 cases h:((aJ p).2 != 0)with
 |true=>rw[vF,if_pos h];exact z1i p g h
 |false=>
  rw[vF,if_neg (by rw[h];decide)]
  have hb:(aJ p).2=0:=by simpa using h
  have hr:=xx (lh hb).2
  have hall:=Ec p (aV p) (p.stmts.length+1) ⟨[],[]⟩ ((p.stmts.length:Int)-1)
  rcases TJ (z0c hr) (z0a hr)with⟨v,s',e⟩ |⟨t,e⟩
  ·have:=z6g p v s' g hb (hall.1 v s' e)
   rw[Z8,e];exact this
  ·have:=z1j p t g hb (hall.2 t e)
   rw[Z8,e];exact this
theorem z9f{n m lat tail:Int}{b:Bool}(h1:decide (n>lat)=false)(h:(bif (0:Int) != 0 then true else bif tail != -1 then bif m == -1 then true else decide (m>tail)else false)=b):(if n>lat then(170:Int)else if(tail != -1&&(m == -1 || decide (m>tail)))=true then 171 else 0)=if b then 171 else 0:=by
 rw[if_neg (of_decide_eq_false h1)]
 have:(tail != -1&&(m == -1 || decide (m>tail)))=b:=by rw[<-h];cases tail != -1<;>cases m == -1<;>rfl
 rw[this]
theorem Um(p:Pr)(g:iY p)(hb:((aJ p).2 != 0)=true)(h1:PCall Tryz.prog 35 [p.d] (.ret (.tuple [.i 0,.i (aJ p).2]))):PCall Tryz.prog 14 [p.d] (.ret (.i (aJ p).2)):=by
 refine ae tok hmix ⟨[],[]⟩ Tryz.func14 rfl (by kernel_rfl) (by kernel_rfl) (by kernel_rfl) λhf=>?_
 clear hf
 repeat' ((try(conv=>whnf))<;>first
  |(exact Bool.noConfusion (hb.symm.trans h))
  |refine BrI.intro (λh=>?_) (λh=>?_)
  |((refine ak ?_ ?_ ?_);rotate_left;(exact h1))
  |((refine ai ?_);refine⟨[],rfl,?_,trivial⟩;conv=>whnf)
  |fail)
 all_goals first
  |skip
theorem Un(p:Pr)(n m:Int)(g:iY p)(h1:PCall Tryz.prog 35 [p.d] (.ret (.tuple [.i n,.i 0])))(h2:PCall Tryz.prog 36 [p.d] (.ret (.tuple [.i m,.i 0]))):PCall Tryz.prog 14 [p.d] (.ret (.i (if n>p.latency then 170 else if(p.tail != -1&&(m == -1 || decide (m>p.tail)))=true then 171 else 0))):=by
 refine ae tok hmix ⟨[],[]⟩ Tryz.func14 rfl (by kernel_rfl) (by kernel_rfl) (by kernel_rfl) λhf=>?_
 clear hf
 repeat' ((try(conv=>whnf))<;>first
  |((refine BrI.ff_of ?_ ?_);exact rfl)
  |refine BrI.intro (λh=>?_) (λh=>?_)
  |((refine ak ?_ ?_ ?_);rotate_left;(first |exact h1 |exact h2))
  |((refine ai ?_);refine⟨[],rfl,?_,trivial⟩;conv=>whnf)
  |fail)
 all_goals first
  |((exact congrArg D.i (by rw[if_pos (of_decide_eq_true ‹_›)])))
  |((exact congrArg D.i (z9f ‹_› h).symm))
  |skip
theorem BV(p:Pr)(g:iY p):PCall Tryz.prog 14 [p.d] (.ret (.i (oN p))):=by
 cases h:((aJ p).2 != 0)with
 |true=>
  rw[oN,if_pos h]
  have h1:=wC p g
  rw[ni,if_pos h]at h1
  exact Um p g h h1
 |false=>
  have hb:(aJ p).2=0:=by simpa using h
  rw[oN,if_neg (by rw[h];decide)]
  have h1:=wC p g
  have h2:=JP p g
  rw[z8n hb]at h1
  rw[z8o hb]at h2
  exact Un p (z15 p) (Z8 p) g h1 h2
end Go.Proofs.YthpbakljheeabaaGreatDoor
