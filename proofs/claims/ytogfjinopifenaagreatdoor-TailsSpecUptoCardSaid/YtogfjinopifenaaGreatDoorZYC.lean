/- Contracts: package ranges: Check and Interval, whole (they stand ahead). -/
import Derived.Test.YtogfjinopifenaaGreatDoorZXB
import Derived.Test.YtogfjinopifenaaGreatDoorZYB
import Derived.Test.YtogfjinopifenaaGreatDoorZTB
set_option linter.unusedSectionVars false
set_option linter.unusedSimpArgs false
set_option linter.unusedVariables false
set_option maxHeartbeats 8000000
namespace Go.Proofs.YtogfjinopifenaaGreatDoor
open Go.Fw
end Go.Proofs.YtogfjinopifenaaGreatDoor
namespace Go.Proofs.YtogfjinopifenaaGreatDoor
open Go.Fw Go.Fw.Rg Go.Fw.Nam Go.Fw.Tl
set_option maxRecDepth 10000
variable [GlobInt]
theorem nO{p:Pr}(h:((resolveC p).2 != 0)=true):(resolveC p).2=(boundsR p).2:=by
 have e:resE p=(resolveC p).2:=by rw[resE,if_pos h]
 rw[boundsR_no (by rw[e];exact h),e]
theorem nR{p:Pr}(h:((resolveC p).2 != 0)=false)(h2:(!samePr (resolveC p).1 p)=true):(150:Int)=(boundsR p).2:=by
 have h3:samePr p (resolveC p).1=false:=by
  cases q:samePr p (resolveC p).1 with
  |false=>rfl
  |true=>
   have e:=(samePr_iff _ _).1 q
   rw[(samePr_iff _ _).2 e.symm]at h2
   exact Bool.noConfusion h2
 have e:resE p=150:=by rw[resE,h,if_neg (by decide),if_neg (by rw[h3];decide)]
 rw[boundsR_no (by rw[e];decide),e]
theorem bH(p:Pr)(g:GoodP p):PCall Tryz.prog 19 [p.d] (.ret (.i (boundsR p).2)):=by
 refine ae Tryz.func19 ?_
 repeat' ((try(conv=>whnf))<;>first
  |refine BrI.intro (λh=>?_) (λh=>?_)
  |((refine call_step ?_ ?_ ?_);rotate_left;(first |exact ay p g.sm g.hn |exact aB (resolveC p).1 p |exact ik p g))
  |(refine ah ?_;conv=>whnf)
  |fail)
 all_goals first
  |((exact congrArg D.i (nO h)))
  |((exact congrArg D.i (nR ‹_› h)))
  |skip
theorem eP(p:Pr)(g:GoodP p)(h:(boundsR p).2=0):PCall Tryz.prog 19 [p.d] (.ret (.i 0)):=by
 have:=bH p g;rwa[h]at this
theorem mi(p:Pr)(z:Ex)(s:Sp)(g:GoodP p)(h:intervalR p z = .ok s)(hz:Ref15.nodes z<=1073741824):PCall Tryz.prog 21 [p.d,z.d] (.ret (.tuple [.i s.1,.i s.2,.i 0])):=by
 have:=dH p z g hz;rw[h]at this;exact this
theorem mr(p:Pr)(g:GoodP p)(hb:((boundsR p).2 != 0)=true):PCall Tryz.prog 7 [p.d] (.ret (.tuple [.i 0,.i (boundsR p).2])):=by
 refine ae Tryz.func7 ?_
 repeat' ((try(conv=>whnf))<;>first
  |(exact Bool.noConfusion (hb.symm.trans h))
  |refine BrI.intro (λh=>?_) (λh=>?_)
  |((refine call_step ?_ ?_ ?_);rotate_left;(exact bH p g))
  |((refine chk_stepP ?_ ?_);kernel_rfl)
  |(refine ah ?_;conv=>whnf)
  |fail)
 all_goals first
  |skip
theorem nU(p:Pr)(F:List Sp)(g:GoodP p)(hb:BOk p F):PCall Tryz.prog 7 [p.d] (.ret (.tuple [.i (latM p),.i 0])):=by
 refine af Tryz.func7 λhf=>?_
 have hs5:=g.sm.stmts
 have hl_b:p.stmts.length<=9223372036854775807:=by omega
 clear hf
 repeat' ((try(conv=>whnf))<;>first
  |((refine BrI.ff_of ?_ ?_);exact rfl)
  |((refine RangeAt.mk 25 ?_);refine⟨rfl,⟨[(1,.ptr 1 0),(2,.ptr 2 0),(3,.ptr 3 0),(16,.data (.sl 8 (p.stmts.map Sm.cs))),(17,.data (.i ((p.stmts.map Sm.cs).length:Nat))),(18,.data (.i (i0:Nat))),(24,.fn 33 [.ptr 800001 0])],[(1,.cells [.data (.str p.name),.data (.i p.latency),.data (.i p.tail),.data (.sl 3 (p.params.map Bd.cs)),.data (.sl 3 (p.states.map Bd.cs)),.data (.sl 4 (p.lines.map Ln.cs)),.data (.sl 2 (p.tables.map Tb.cs)),.data (.sl 8 (p.stmts.map Sm.cs))]),(2,.cells [.data (.i n)]),(3,.cells [.data (.i 0)]),(800001,.cells [.data (.i x0.x.kind),.data (.str x0.x.name),.data (.i x0.x.index),.data (.i x0.x.n),.data (.sl 5 (Ex.css x0.x.l))])],[(1000000,2),(1000001,1),(1000002,3)],[(1,.ptr 1000001 0),(2,.ptr 1000000 0),(3,.ptr 1000002 0)],λj=>[(1000000,.cells [.data (.i (latT p n x0.x j))]),(1000001,.cells [.data (.str p.name),.data (.i p.latency),.data (.i p.tail),.data (.sl 3 (p.params.map Bd.cs)),.data (.sl 3 (p.states.map Bd.cs)),.data (.sl 4 (p.lines.map Ln.cs)),.data (.sl 2 (p.tables.map Tb.cs)),.data (.sl 8 (p.stmts.map Sm.cs))]),(1000002,.cells [.data (.i 0)])],(partsX x0.x).length,λj=>[((partsX x0.x).getD j Ex.none).d],900002,none⟩,⟨?_,rfl,rfl,?_,?_,λj hj=>⟨rfl,rfl,?_⟩,λ_ _ e=>none_some e,⟨_,_,rfl,rfl,λRf Re hy hy2=>⟨1000000,[.ptr 1000001 0],[(1000001,.cells [.data (.i x0.x.kind),.data (.str x0.x.name),.data (.i x0.x.index),.data (.i x0.x.n),.data (.sl 5 (Ex.css x0.x.l))])],.data (.tuple []),[(1000001,.cells [.data (.i x0.x.kind),.data (.str x0.x.name),.data (.i x0.x.index),.data (.i x0.x.n),.data (.sl 5 (Ex.css x0.x.l))])],[(1000000,900002),(1000001,800001)],dN x0.x Rf (λj y hj=>part_yl (P:=λn d=>LCall Tryz.prog yldF [.yld 1000000,.data d] [(1000000,.rnd (Rf n))] (.ret (.b true)) [(1000000,.rnd (Rf (n+1)))]) hy j y (List.getElem?_eq_some_iff.1 hj).1 hj),rfl,?_,rfl,rfl,?_⟩⟩⟩⟩)
  |(have hq:=look_at (n:=n) hb g hd0 hj (by assumption);clear hj;obtain⟨z,s,hz1,hz2,hz3,hz4⟩:=hq)
  |(have hz4:=lat_no (p:=p) (n:=n) hj (by assumption);clear hj)
  |((refine idx_step ?_ ?_ ?_ ?_ ?_);exact rfl;exact rfl;rotate_left;exact look_idx hz1)
  |exact trivial
  |exact idx_next hd0 ‹_›
  |refine br_nil hd0 ?_
  |refine br_cons hd0 ?_
  |refine BrI.intro (λh=>?_) (λh=>?_)
  |((refine LoopAt.mk 0 ?_);refine⟨rangeL (p.stmts) 18 (λ(n:(Int))=>[]) (λ(n:(Int))=>[(1,.cells [.data (.str p.name),.data (.i p.latency),.data (.i p.tail),.data (.sl 3 (p.params.map Bd.cs)),.data (.sl 3 (p.states.map Bd.cs)),.data (.sl 4 (p.lines.map Ln.cs)),.data (.sl 2 (p.tables.map Tb.cs)),.data (.sl 8 (p.stmts.map Sm.cs))]),(2,.cells [.data (.i n)]),(3,.cells [.data (.i 0)])]) [2,3,16,17,1] (λi0 r0 n=>latM p=r0.foldl (latS p) n),?_⟩;refine rangeL_rule (0) ?_ ?_ (λi0 (n:(Int)) hd0 hI0=>?_) (λi0 x0 r0 (n:(Int)) hd0 hl0 hI0=>?_))
  |(refine rangeL_next hd0 (latT p n x0.x (partsX x0.x).length) ?_ ?_)
  |((refine call_step ?_ ?_ ?_);rotate_left;(first |exact eP p g (bok_zero hb) |exact mi p z s g hz2 hz3))
  |((refine lent_step [(1000000,800001)] (aW x0.x) ?_ ?_ ?_ ?_);rotate_left 0;exact rfl;(exact trivial);exact rfl)
  |((refine idx_step ?_ ?_ ?_ ?_ ?_);exact rfl;exact rfl;rotate_left;(exact idx_drop hd0))
  |((refine len_step ?_ ?_);exact rfl)
  |((refine chk_stepP ?_ ?_);kernel_rfl)
  |(refine ah ?_;conv=>whnf)
  |(refine And.intro ?_ ?_)
  |exact @rfl AV _
  |exact @rfl (List AV) _
  |fail)
 all_goals first
  |(rfl)
  |((rw[latT_all];exact hI0))
  |((exact congrArg (λz=>D.tuple [.i z,.i 0]) hI0.symm))
  |((exact congrArg (λz=>AV.data (D.i z)) hz4.symm))
  |skip
theorem aI(p:Pr)(g:GoodP p):PCall Tryz.prog 7 [p.d] (.ret (.tuple [.i (latencyM p).1,.i (latencyM p).2])):=by
 cases h:((boundsR p).2 != 0)with
 |true=>rw[latencyM,if_pos h];exact mr p g h
 |false=>rw[latencyM,if_neg (by rw[h];decide)];exact nU p _ g (boundsR_zero (by simpa using h)).1
end Go.Proofs.YtogfjinopifenaaGreatDoor
namespace Go.Proofs.YtogfjinopifenaaGreatDoor
open Go.Fw Go.Fw.Ref15 Go.Fw.Rg Go.Fw.Tl
set_option maxRecDepth 10000
variable [GlobInt] {p : Pr}
theorem kX(a b:D):DCall Tryz.prog 26 [.ptr 1000000 0,.ptr 1000001 0] (some nM) [(1000000,.cells [.data a]),(1000001,.cells [.data b])] [(1000000,.cells [.data (.i (-1))]),(1000001,.cells [.data (.i 0)])]:=by
 refine dcall_of_vc tok hmix Tryz.func26 rfl (by kernel_rfl) (by kernel_rfl) (by kernel_rfl) ?_
 repeat' ((try(conv=>whnf))<;>first
  |exact trivial
  |(refine⟨([]:List (Nat×Nat)),?_⟩)
  |(refine⟨by kernel_rfl,?_⟩)
  |(refine⟨rfl,?_⟩)
  |(refine⟨?_,?_⟩)
  |fail)
theorem mD(a b:D):DCall Tryz.prog 26 [.ptr 1000000 0,.ptr 1000001 0] none [(1000000,.cells [.data a]),(1000001,.cells [.data b])] [(1000000,.cells [.data a]),(1000001,.cells [.data b])]:=by
 refine dcall_of_vc tok hmix Tryz.func26 rfl (by kernel_rfl) (by kernel_rfl) (by kernel_rfl) ?_
 repeat' ((try(conv=>whnf))<;>first
  |exact trivial
  |(refine⟨([]:List (Nat×Nat)),?_⟩)
  |(refine⟨by kernel_rfl,?_⟩)
  |(refine⟨rfl,?_⟩)
  |(refine⟨?_,?_⟩)
  |fail)
theorem iJ{g:Bool}{ks:List KS}{l:List (Key×Int)}{k:Key}{v:Int}{c:Bool}(h:c=true):Block.map g ks (mput (.agg [.i k.1,.i k.2]) (.i v) (l.map kkD))=Block.map g ks ((if c then putK k v l else l).map kkD):=by rw[mput_kk,if_pos h]
theorem iK{g:Bool}{ks:List KS}{l:List (Key×Int)}{k:Key}{v:Int}{c:Bool}(h:c=false):Block.map g ks (l.map kkD)=Block.map g ks ((if c then putK k v l else l).map kkD):=by rw[if_neg (by rw[h];decide)]
theorem jU{i:Nat}{S:List (Key×Int)}(h:settersM p=setL [] i S):settersM p=S:=h
theorem len_1(h:p.stmts.length<=1073741824):IntKind.i64.wrap (((p.stmts.map Sm.cs).length:Int)-1)=(p.stmts.length:Int)-1:=by rw[List.length_map];exact wrap_ok (by omega) (by omega)
theorem jr{i:Nat}{S:List (Key×Int)}{s':AS}{v:Int}(hl:p.stmts.length<=67108864)(hS:settersM p=setL [] i S)(hA:gB p (settersM p) ⟨[],[]⟩ ((p.stmts.length:Int)-1) v s'):LCall Tryz.prog 25 [.data (.i (IntKind.i64.wrap (((p.stmts.map Sm.cs).length:Int)-1))),.ptr 1000001 0,.ptr 1000002 0,.ptr 1000003 0,.ptr 1000004 0] [(1000001,.cells [.map 1000005]),(1000002,.cells [.map 1000006]),(1000003,.cells [.data (.str p.name),.data (.i p.latency),.data (.i p.tail),.data (.sl 3 (p.params.map Bd.cs)),.data (.sl 3 (p.states.map Bd.cs)),.data (.sl 4 (p.lines.map Ln.cs)),.data (.sl 2 (p.tables.map Tb.cs)),.data (.sl 8 (p.stmts.map Sm.cs))]),(1000004,.cells [.fn 24 [.ptr 1000007 0,.ptr 1000008 0,.ptr 1000003 0]]),(1000005,.map false [.int .i64] []),(1000006,.map false [.int .i64] []),(1000007,.cells [.fn 25 [.ptr 1000001 0,.ptr 1000002 0,.ptr 1000003 0,.ptr 1000004 0]]),(1000008,.cells [.map 1000009]),(1000009,.map true [.int .i64,.int .i64] (S.map kkD))] (.ret (.data (.i v))) [(1000001,.cells [.map 1000005]),(1000002,.cells [.map 1000006]),(1000003,.cells [.data (.str p.name),.data (.i p.latency),.data (.i p.tail),.data (.sl 3 (p.params.map Bd.cs)),.data (.sl 3 (p.states.map Bd.cs)),.data (.sl 4 (p.lines.map Ln.cs)),.data (.sl 2 (p.tables.map Tb.cs)),.data (.sl 8 (p.stmts.map Sm.cs))]),(1000004,.cells [.fn 24 [.ptr 1000007 0,.ptr 1000008 0,.ptr 1000003 0]]),(1000005,.map false [.int .i64] (s'.opn.map ibD)),(1000006,.map false [.int .i64] (s'.ages.map iiD)),(1000007,.cells [.fn 25 [.ptr 1000001 0,.ptr 1000002 0,.ptr 1000003 0,.ptr 1000004 0]]),(1000008,.cells [.map 1000009]),(1000009,.map true [.int .i64,.int .i64] (S.map kkD))]:=by
 rw[jU hS]at hA;rw[len_1 (by omega)];exact hA
theorem iw{i:Nat}{S:List (Key×Int)}{s':AS}(hl:p.stmts.length<=67108864)(hS:settersM p=setL [] i S)(hA:dA p (settersM p) ⟨[],[]⟩ ((p.stmts.length:Int)-1) s'):LCall Tryz.prog 25 [.data (.i (IntKind.i64.wrap (((p.stmts.map Sm.cs).length:Int)-1))),.ptr 1000001 0,.ptr 1000002 0,.ptr 1000003 0,.ptr 1000004 0] [(1000001,.cells [.map 1000005]),(1000002,.cells [.map 1000006]),(1000003,.cells [.data (.str p.name),.data (.i p.latency),.data (.i p.tail),.data (.sl 3 (p.params.map Bd.cs)),.data (.sl 3 (p.states.map Bd.cs)),.data (.sl 4 (p.lines.map Ln.cs)),.data (.sl 2 (p.tables.map Tb.cs)),.data (.sl 8 (p.stmts.map Sm.cs))]),(1000004,.cells [.fn 24 [.ptr 1000007 0,.ptr 1000008 0,.ptr 1000003 0]]),(1000005,.map false [.int .i64] []),(1000006,.map false [.int .i64] []),(1000007,.cells [.fn 25 [.ptr 1000001 0,.ptr 1000002 0,.ptr 1000003 0,.ptr 1000004 0]]),(1000008,.cells [.map 1000009]),(1000009,.map true [.int .i64,.int .i64] (S.map kkD))] (.pan (.data nM)) [(1000001,.cells [.map 1000005]),(1000002,.cells [.map 1000006]),(1000003,.cells [.data (.str p.name),.data (.i p.latency),.data (.i p.tail),.data (.sl 3 (p.params.map Bd.cs)),.data (.sl 3 (p.states.map Bd.cs)),.data (.sl 4 (p.lines.map Ln.cs)),.data (.sl 2 (p.tables.map Tb.cs)),.data (.sl 8 (p.stmts.map Sm.cs))]),(1000004,.cells [.fn 24 [.ptr 1000007 0,.ptr 1000008 0,.ptr 1000003 0]]),(1000005,.map false [.int .i64] (s'.opn.map ibD)),(1000006,.map false [.int .i64] (s'.ages.map iiD)),(1000007,.cells [.fn 25 [.ptr 1000001 0,.ptr 1000002 0,.ptr 1000003 0,.ptr 1000004 0]]),(1000008,.cells [.map 1000009]),(1000009,.map true [.int .i64,.int .i64] (S.map kkD))]:=by
 rw[jU hS]at hA;rw[len_1 (by omega)];exact hA
theorem mF(p:Pr)(g:GoodP p)(hb:((boundsR p).2 != 0)=true):PCall Tryz.prog 9 [p.d] (.ret (.tuple [.i 0,.i (boundsR p).2])):=by
 refine ae Tryz.func9 ?_
 repeat' ((try(conv=>whnf))<;>first
  |(exact Bool.noConfusion (hb.symm.trans h))
  |refine BrI.intro (λh=>?_) (λh=>?_)
  |((refine call_step ?_ ?_ ?_);rotate_left;(exact bH p g))
  |((refine chk_stepP ?_ ?_);kernel_rfl)
  |(refine ah ?_;conv=>whnf)
  |fail)
 all_goals first
  |skip
theorem nV(p:Pr)(v:Int)(s':AS)(g:GoodP p)(hb:(boundsR p).2=0)(hA:gB p (settersM p) ⟨[],[]⟩ ((p.stmts.length:Int)-1) v s'):PCall Tryz.prog 9 [p.d] (.ret (.tuple [.i v,.i 0])):=by
 refine af Tryz.func9 λhf=>?_
 have hs5:=g.sm.stmts
 have hl_b:p.stmts.length<=9223372036854775807:=by omega
 clear hf
 repeat' ((try(conv=>whnf))<;>first
  |((refine BrI.ff_of ?_ ?_);exact rfl)
  |exact trivial
  |exact idx_next hd0 ‹_›
  |refine br_nil hd0 ?_
  |refine br_cons hd0 ?_
  |refine BrI.intro (λh=>?_) (λh=>?_)
  |((refine⟨_,_,_,[(1000000,2),(1000001,3)],mD (.i v) (.i 0),rfl,⟨rfl,rfl,trivial⟩,?_,?_⟩);kernel_rfl)
  |(refine⟨([]:List (Nat×Nat)),rfl,?_,trivial⟩)
  |((refine LoopAt.mk 0 ?_);refine⟨rangeL (p.stmts) 20 (λ(S:(List (Key×Int)))=>[]) (λ(S:(List (Key×Int)))=>[(1,.cells [.data (.str p.name),.data (.i p.latency),.data (.i p.tail),.data (.sl 3 (p.params.map Bd.cs)),.data (.sl 3 (p.states.map Bd.cs)),.data (.sl 4 (p.lines.map Ln.cs)),.data (.sl 2 (p.tables.map Tb.cs)),.data (.sl 8 (p.stmts.map Sm.cs))]),(2,.cells [.data (.i 0)]),(3,.cells [.data (.i 0)]),(4,.cells [.map 16]),(16,.map true [.int .i64,.int .i64] (S.map kkD))]) [1,2,3,4,18,19] (λi0 r0 S=>settersM p=setL r0 i0 S),?_⟩;refine rangeL_rule ([]) ?_ ?_ (λi0 (S:(List (Key×Int))) hd0 hI0=>?_) (λi0 x0 r0 (S:(List (Key×Int))) hd0 hl0 hI0=>?_))
  |(refine rangeL_next hd0 ((if sets x0.kind then putK (x0.kind,x0.index) (i0:Int) S else S)) ?_ ?_)
  |((refine call_step ?_ ?_ ?_);rotate_left;(exact eP p g hb))
  |((refine lent_step' [(1000001,8),(1000002,7),(1000003,1),(1000004,10),(1000005,42),(1000006,41),(1000007,9),(1000008,4),(1000009,16)] (jr g.sm.stmts hI0 hA) ?_ ?_ ?_ ?_);rotate_left 0;exact rfl;(exact⟨rfl,rfl,rfl,rfl,rfl,rfl,rfl,rfl,rfl,trivial⟩);exact rfl)
  |((refine idx_step ?_ ?_ ?_ ?_ ?_);exact rfl;exact rfl;rotate_left;(exact idx_drop hd0))
  |((refine len_step ?_ ?_);exact rfl)
  |(refine And.intro ?_ ?_)
  |exact @rfl AV _
  |exact @rfl Block _
  |fail)
 all_goals first
  |(rfl)
  |((exact hI0))
  |((exact iJ (k:=(x0.kind,x0.index)) (v:=(i0:Int)) (l:=S) (c:=sets x0.kind) h))
  |((exact iK (k:=(x0.kind,x0.index)) (v:=(i0:Int)) (l:=S) (c:=sets x0.kind) h))
  |skip
theorem mG(p:Pr)(s':AS)(g:GoodP p)(hb:(boundsR p).2=0)(hA:dA p (settersM p) ⟨[],[]⟩ ((p.stmts.length:Int)-1) s'):PCall Tryz.prog 9 [p.d] (.ret (.tuple [.i (-1),.i 0])):=by
 refine af Tryz.func9 λhf=>?_
 have hs5:=g.sm.stmts
 have hl_b:p.stmts.length<=9223372036854775807:=by omega
 clear hf
 repeat' ((try(conv=>whnf))<;>first
  |((refine BrI.ff_of ?_ ?_);exact rfl)
  |exact trivial
  |exact idx_next hd0 ‹_›
  |refine br_nil hd0 ?_
  |refine br_cons hd0 ?_
  |refine BrI.intro (λh=>?_) (λh=>?_)
  |((refine dfrP_rt ?_);(refine⟨_,_,_,[(1000000,2),(1000001,3)],kX (.i 0) (.i 0),rfl,⟨rfl,rfl,trivial⟩,?_,?_⟩);kernel_rfl)
  |(refine⟨([]:List (Nat×Nat)),rfl,?_,trivial⟩)
  |((refine LoopAt.mk 0 ?_);refine⟨rangeL (p.stmts) 20 (λ(S:(List (Key×Int)))=>[]) (λ(S:(List (Key×Int)))=>[(1,.cells [.data (.str p.name),.data (.i p.latency),.data (.i p.tail),.data (.sl 3 (p.params.map Bd.cs)),.data (.sl 3 (p.states.map Bd.cs)),.data (.sl 4 (p.lines.map Ln.cs)),.data (.sl 2 (p.tables.map Tb.cs)),.data (.sl 8 (p.stmts.map Sm.cs))]),(2,.cells [.data (.i 0)]),(3,.cells [.data (.i 0)]),(4,.cells [.map 16]),(16,.map true [.int .i64,.int .i64] (S.map kkD))]) [1,2,3,4,18,19] (λi0 r0 S=>settersM p=setL r0 i0 S),?_⟩;refine rangeL_rule ([]) ?_ ?_ (λi0 (S:(List (Key×Int))) hd0 hI0=>?_) (λi0 x0 r0 (S:(List (Key×Int))) hd0 hl0 hI0=>?_))
  |(refine rangeL_next hd0 ((if sets x0.kind then putK (x0.kind,x0.index) (i0:Int) S else S)) ?_ ?_)
  |((refine call_step ?_ ?_ ?_);rotate_left;(exact eP p g hb))
  |((refine lent_step' [(1000001,8),(1000002,7),(1000003,1),(1000004,10),(1000005,42),(1000006,41),(1000007,9),(1000008,4),(1000009,16)] (iw g.sm.stmts hI0 hA) ?_ ?_ ?_ ?_);rotate_left 0;exact rfl;(exact⟨rfl,rfl,rfl,rfl,rfl,rfl,rfl,rfl,rfl,trivial⟩);exact rfl)
  |((refine idx_step ?_ ?_ ?_ ?_ ?_);exact rfl;exact rfl;rotate_left;(exact idx_drop hd0))
  |((refine len_step ?_ ?_);exact rfl)
  |(refine And.intro ?_ ?_)
  |exact @rfl AV _
  |exact @rfl Block _
  |fail)
 all_goals first
  |(rfl)
  |((exact hI0))
  |((exact iJ (k:=(x0.kind,x0.index)) (v:=(i0:Int)) (l:=S) (c:=sets x0.kind) h))
  |((exact iK (k:=(x0.kind,x0.index)) (v:=(i0:Int)) (l:=S) (c:=sets x0.kind) h))
  |skip
theorem aX(p:Pr)(g:GoodP p):PCall Tryz.prog 9 [p.d] (.ret (.tuple [.i (memoryM p).1,.i (memoryM p).2])):=by
 cases h:((boundsR p).2 != 0)with
 |true=>rw[memoryM,if_pos h];exact mF p g h
 |false=>
  rw[memoryM,if_neg (by rw[h];decide)]
  have hb:(boundsR p).2=0:=by simpa using h
  have hr:=resE_res (boundsR_zero hb).2
  have hall:=eH p (settersM p) (p.stmts.length+1) ⟨[],[]⟩ ((p.stmts.length:Int)-1)
  rcases mem_cases (good_ok hr) (res_pos hr)with⟨v,s',e⟩ |⟨t,e⟩
  ·have:=nV p v s' g hb (hall.1 v s' e)
   rw[memM,e];exact this
  ·have:=mG p t g hb (hall.2 t e)
   rw[memM,e];exact this
theorem nX{n m lat tail:Int}{b:Bool}(h1:decide (n>lat)=false)(h:(bif (0:Int) != 0 then true else bif tail != -1 then bif m == -1 then true else decide (m>tail)else false)=b):(if n>lat then(170:Int)else if(tail != -1&&(m == -1 || decide (m>tail)))=true then 171 else 0)=if b then 171 else 0:=by
 rw[if_neg (of_decide_eq_false h1)]
 have:(tail != -1&&(m == -1 || decide (m>tail)))=b:=by rw[<-h];cases tail != -1<;>cases m == -1<;>rfl
 rw[this]
theorem jV(p:Pr)(g:GoodP p)(hb:((boundsR p).2 != 0)=true)(h1:PCall Tryz.prog 7 [p.d] (.ret (.tuple [.i 0,.i (boundsR p).2]))):PCall Tryz.prog 11 [p.d] (.ret (.i (boundsR p).2)):=by
 refine ae Tryz.func11 ?_
 repeat' ((try(conv=>whnf))<;>first
  |(exact Bool.noConfusion (hb.symm.trans h))
  |refine BrI.intro (λh=>?_) (λh=>?_)
  |((refine call_step ?_ ?_ ?_);rotate_left;(exact h1))
  |(refine ah ?_;conv=>whnf)
  |fail)
 all_goals first
  |skip
theorem jW(p:Pr)(n m:Int)(g:GoodP p)(h1:PCall Tryz.prog 7 [p.d] (.ret (.tuple [.i n,.i 0])))(h2:PCall Tryz.prog 9 [p.d] (.ret (.tuple [.i m,.i 0]))):PCall Tryz.prog 11 [p.d] (.ret (.i (if n>p.latency then 170 else if(p.tail != -1&&(m == -1 || decide (m>p.tail)))=true then 171 else 0))):=by
 refine ae Tryz.func11 ?_
 repeat' ((try(conv=>whnf))<;>first
  |((refine BrI.ff_of ?_ ?_);exact rfl)
  |refine BrI.intro (λh=>?_) (λh=>?_)
  |((refine call_step ?_ ?_ ?_);rotate_left;(first |exact h1 |exact h2))
  |(refine ah ?_;conv=>whnf)
  |fail)
 all_goals first
  |((exact congrArg D.i (by rw[if_pos (of_decide_eq_true ‹_›)])))
  |((exact congrArg D.i (nX ‹_› h).symm))
  |skip
theorem dO(p:Pr)(g:GoodP p):PCall Tryz.prog 11 [p.d] (.ret (.i (checkM p))):=by
 cases h:((boundsR p).2 != 0)with
 |true=>
  rw[checkM,if_pos h]
  have h1:=aI p g
  rw[latencyM,if_pos h]at h1
  exact jV p g h h1
 |false=>
  have hb:(boundsR p).2=0:=by simpa using h
  rw[checkM,if_neg (by rw[h];decide)]
  have h1:=aI p g
  have h2:=aX p g
  rw[lat_1 hb]at h1
  rw[mem_1 hb]at h2
  exact jW p (latM p) (memM p) g h1 h2
end Go.Proofs.YtogfjinopifenaaGreatDoor
