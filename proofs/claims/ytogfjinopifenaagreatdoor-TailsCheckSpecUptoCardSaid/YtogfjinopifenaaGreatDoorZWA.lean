/- Contracts: the reference of package tails: valid, reach, Setter, by, uses. -/
import Derived.Test.YtogfjinopifenaaGreatDoorZTC
import Derived.Test.YtogfjinopifenaaGreatDoorZYD
set_option linter.unusedSectionVars false
set_option linter.unusedSimpArgs false
set_option linter.unusedVariables false
set_option maxHeartbeats 8000000
namespace Go.Proofs.YtogfjinopifenaaGreatDoor
open Go.Fw Go.Fw.Ref15 Go.Fw.Rg Go.Fw.Tl
set_option maxRecDepth 10000
variable [GlobInt]
theorem kZ(p:Pr)(k x:Int)(g:GoodP p):PCall Tryz.prog 82 [p.d,.i k,.i x] (.ret (.i (sttM k x p.stmts 0))):=by
 refine af Tryz.func82 λhf=>?_
 have hs5:=g.sm.stmts
 have hl_b:p.stmts.length<=9223372036854775807:=by omega
 clear hf
 repeat' ((try(conv=>whnf))<;>first
  |exact trivial
  |exact idx_next hd0 ‹_›
  |refine br_nil hd0 ?_
  |refine br_cons hd0 ?_
  |refine BrI.intro (λh=>?_) (λh=>?_)
  |((refine LoopAt.mk 0 ?_);refine⟨rangeL (p.stmts) 7 (λ(_:Unit)=>[]) (λ(_:Unit)=>[]) [1,2,3] (λi0 r0 _=>sttM k x p.stmts 0=sttM k x r0 i0),?_⟩;refine rangeL_rule () ?_ ?_ (λi0 (_:Unit) hd0 hI0=>?_) (λi0 x0 r0 (_:Unit) hd0 hl0 hI0=>?_))
  |(refine rangeL_next hd0 () ?_ ?_)
  |((refine idx_step ?_ ?_ ?_ ?_ ?_);exact rfl;exact rfl;rotate_left;(exact idx_drop hd0))
  |((refine guard_step ?_ ?_ (λhg=>?_) ?_);exact rfl)
  |((refine val_step ?_ ?_);exact rfl;exact rfl)
  |(refine ah ?_;conv=>whnf)
  |(refine And.intro ?_ ?_)
  |exact @rfl AV _
  |fail)
 all_goals first
  |(rfl)
  |((exact congrArg D.i (hI0.trans (stt_hit h)).symm))
  |((exact hI0.trans (stt_miss h)))
  |((exact congrArg D.i hI0.symm))
  |skip
theorem jZ(p:Pr)(x:Ex)(g:GoodP p):PCall Tryz.prog 45 [p.d,x.d] (.ret (.i (byM p x))):=by
 refine ae Tryz.func45 ?_
 repeat' ((try(conv=>whnf))<;>first
  |refine BrI.intro (λh=>?_) (λh=>?_)
  |((refine call_step ?_ ?_ ?_);rotate_left;(exact kZ _ _ _ (by assumption)))
  |(refine ah ?_;conv=>whnf)
  |fail)
 all_goals first
  |((exact congrArg D.i (by_5 h).symm))
  |((exact congrArg D.i (by_4 ‹_› h).symm))
  |((exact congrArg D.i (by_8 ‹_› ‹_› h).symm))
  |((exact congrArg D.i (by_n ‹_› ‹_› h).symm))
  |skip
theorem ku(p:Pr)(x:Ex)(at_:Int)(g:GoodP p)(hx:Ref15.nodes x<=1073741824):PCall Tryz.prog 44 [p.d,x.d,.i at_] (.ret (.b (usesM p at_ x))):=by
 revert hx;revert x;refine Ex.ind λx ih hx=>?_
 refine af Tryz.func44 λhf=>?_
 have hlen:=Ex.fits (hf x.d (by simp))
 have ih2:∀y∈x.l,PCall Tryz.prog 44 [p.d,y.d,.i at_] (.ret (.b (usesM p at_ y))):=λy hy=>ih y hy (by have:=nodes_mem hy;have:=Ref15.nodes_eq x;omega)
 clear hf
 repeat' ((try(conv=>whnf))<;>first
  |exact trivial
  |exact idx_next hd0 ‹_›
  |refine br_nil_e hd0 ?_
  |refine br_cons_e hd0 ?_
  |refine BrI.intro (λh=>?_) (λh=>?_)
  |((refine LoopAt.mk 0 ?_);refine⟨rangeL (x.l) 7 (λ(_:Unit)=>[]) (λ(_:Unit)=>[]) [2,3,4] (λi0 r0 _=>usesM p at_ x=usesL p at_ r0),?_⟩;refine rangeL_rule () ?_ ?_ (λi0 (_:Unit) hd0 hI0=>?_) (λi0 x0 r0 (_:Unit) hd0 hl0 hI0=>?_))
  |(refine rangeL_next hd0 () ?_ ?_)
  |((refine call_step ?_ ?_ ?_);rotate_left;(first |exact jZ _ _ (by assumption) |exact ih2 _ (drop_mem hd0)))
  |((refine idx_step ?_ ?_ ?_ ?_ ?_);exact rfl;exact rfl;rotate_left;(exact idx_drop_e hd0))
  |((refine len_step ?_ ?_);exact rfl)
  |((refine chk_stepP ?_ ?_);kernel_rfl)
  |(refine ah ?_;conv=>whnf)
  |(refine And.intro ?_ ?_)
  |exact @rfl AV _
  |fail)
 all_goals first
  |((exact congrArg D.b (uses_1 h).symm))
  |((exact uses_2 h))
  |((exact congrArg D.b (hI0.trans (uses_3 h)).symm))
  |((exact hI0.trans (uses_4 h)))
  |((exact congrArg D.b hI0.symm))
  |skip
end Go.Proofs.YtogfjinopifenaaGreatDoor
namespace Go.Proofs.YtogfjinopifenaaGreatDoor
open Go.Fw Go.Fw.Ref15 Go.Fw.Rg Go.Fw.Tl
set_option maxRecDepth 10000
variable [GlobInt] {rows : List (List D)} {p : Pr} {es : List (List D)} {W : Mat} {i : Nat} {v : Bool} {n : Nat}
theorem pR{i n:Nat}(h:rows=rowsOf i n W):Int.toNat ((i:Nat):Int)=rows.length:=by rw[h,rowsOf_len];rfl
theorem nZ(h:i<p.stmts.length):Int.toNat ((i:Nat):Int)<(p.stmts.map Sm.cs).length:=by rw[List.length_map];exact h
theorem pU(h:i<p.stmts.length):0<(p.stmts.map Sm.cs).length:=by rw[List.length_map];omega
theorem lg{d:D}:(List.replicate n [d]).take n=(List.replicate n d).map (λd=>[d]):=by simp
theorem iC(h:i<p.stmts.length):0<=((i:Nat):Int)/\((i:Nat):Int)<((p.stmts.map Sm.cs).length:Nat):=by rw[List.length_map];omega
theorem kw{i a:Nat}(h:i<p.stmts.length):0<=((i:Nat):Int)/\((i:Nat):Int)<((rowOf p.stmts.length W a).length:Nat):=by rw[rowOf_len];omega
theorem aN{c n:Nat}(h:rows=rowsOf c n W)(hi:i<c):rows[Int.toNat ((i:Nat):Int)]? = some (rowOf n W i):=by rw[h];exact rowsOf_get hi
theorem lH{a k:Nat}(h:k<n):Int.toNat ((k:Nat):Int)<(rowOf n W a).length:=by rw[rowOf_len];exact h
theorem bI{a k:Nat}(h:k<n):(rowOf n W a)[Int.toNat ((k:Nat):Int)]? = some (D.b (W a k)):=rowOf_get h
theorem mO{i k:Nat}{s:Sm}(h:p.stmts[i]? = some s):usesM p (k:Int) s.x=baseM p i k:=by rw[baseM,stmtX_at h]
theorem pV{n i:Nat}(h:rows=rowsOf i n (W1 p i 0))(m:Nat):Block.mat m (rows++[List.replicate n (D.b false)])=Block.mat m (rowsOf (i+1) n (W1 p i 0)):=by
 rw[h,rowsOf_snoc (row_rep λb _=>W1_new) λ_ _ _ _=>rfl]
theorem og(h:rows=rowsOf i p.stmts.length (W1 p i 0))(m:Nat):Block.mat m (rows++[List.replicate (p.stmts.map Sm.cs).length (D.b false)])=Block.mat m (rowsOf (i+1) p.stmts.length (W1 p i 0)):=by
 rw[List.length_map];exact pV h m
theorem pW{n i k m:Nat}(h:rows=rowsOf (i+1) n (W1 p i k))(hk:k<n)(hv:v=baseM p i k):Block.mat m (rows.set i ((rowOf n (W1 p i k) i).set k (D.b v)))=Block.mat m (rowsOf (i+1) n (W1 p i (k+1))):=by
 rw[h,rowsOf_set (V:=W1 p i (k+1)) (by omega) hk λa b ha _=>by rw[W1_set ha,hv]]
theorem pX{n m i k q:Nat}(h:rows=rowsOf n n (W4 p n m i k))(hi:i<n)(hk:k<n)(hv:v=bif W4 p n m i k i k then true else bif W4 p n m i k i m then W4 p n m i k m k else false):Block.mat q (rows.set i ((rowOf n (W4 p n m i k) i).set k (D.b v)))=Block.mat q (rowsOf n n (W4 p n m i (k+1))):=by
 rw[h,rowsOf_set (V:=W4 p n m i (k+1)) hi hk λa b _ _=>by rw[W4_set,hv]]
theorem oh{n i k m:Nat}(h:rows=rowsOf (i+1) n (W1 p i k))(hk:n<=k):Block.mat m rows=Block.mat m (rowsOf (i+1) n (W1 p (i+1) 0)):=by
 rw[h];exact congrArg _ (rowsOf_ext λ_ _ ha hb=>W1_row ha (Nat.lt_of_lt_of_le hb hk))
theorem oq{n i m:Nat}(h:rows=rowsOf i n (W1 p i 0))(h1:i<=n)(h2:n<=i):Block.mat m rows=Block.mat m (rowsOf n n (W4 p n 0 0 0)):=by
 obtain rfl:i=n:=by omega
 rw[h,W4_0];exact congrArg _ (rowsOf_ext λ_ _ ha _=>W1_all ha)
theorem ou{n m i k q:Nat}(h:rows=rowsOf n n (W4 p n m i k))(h1:k<=n)(h2:n<=k):Block.mat q rows=Block.mat q (rowsOf n n (W4 p n m (i+1) 0)):=by
 obtain rfl:k=n:=by omega
 rw[h,W4_i]
theorem oz{n m i q:Nat}(h:rows=rowsOf n n (W4 p n m i 0))(h1:i<=n)(h2:n<=i):Block.mat q rows=Block.mat q (rowsOf n n (W4 p n (m+1) 0 0)):=by
 obtain rfl:i=n:=by omega
 rw[h,W4_m]
theorem oC{m q:Nat}(h:rows=rowsOf p.stmts.length p.stmts.length (W4 p p.stmts.length m 0 0))(h1:m<=p.stmts.length)(h2:p.stmts.length<=m):Block.mat q rows=Block.mat q (rowsOf p.stmts.length p.stmts.length (reachW p)):=by
 obtain rfl:m=p.stmts.length:=by omega
 rw[h,W4_all]
theorem lI{O:Nat->Bool}(h:es=outOf n O)(hi:i<n):es[0+Int.toNat ((i:Nat):Int)]? = some [D.b (O i)]:=by rw[h,Nat.zero_add];exact outOf_get hi
theorem lh(p:Pr):Block.arr 0 1 (List.replicate (p.stmts.map Sm.cs).length [D.b false])=Block.arr 0 1 (outOf p.stmts.length (O5 p.stmts.length (reachW p) 0 0)):=by rw[List.length_map,out_rep _ (reachW p)]
theorem pY{n i k:Nat}(h:es=outOf n (O5 n W i k))(hv:v=bif O5 n W i k i then true else bif W i k then W k k else false):Block.arr 0 1 (es.set (0+i) [D.b v])=Block.arr 0 1 (outOf n (O5 n W i (k+1))):=by
 rw[h,Nat.zero_add,outOf_set (V:=O5 n W i (k+1)) λa _=>by rw[O5_k,hv]]
theorem qc{n i k:Nat}(h:es=outOf n (O5 n W i k))(h1:k<=n)(h2:n<=k)(hv:v=bif O5 n W i k i then true else W i i):Block.arr 0 1 (es.set (0+i) [D.b v])=Block.arr 0 1 (outOf n (O5 n W (i+1) 0)):=by
 obtain rfl:k=n:=by omega
 rw[h,Nat.zero_add,outOf_set (V:=O5 k W (i+1) 0) λa _=>by rw[O5_i,hv]]
theorem mP(h:es=outOf p.stmts.length (O5 p.stmts.length (reachW p) i 0))(h1:i<=p.stmts.length)(h2:p.stmts.length<=i):es=outOf p.stmts.length (overM p):=by
 obtain rfl:i=p.stmts.length:=by omega
 rw[h,O5_all];rfl
theorem mQ{i z:Nat}(hz:z=1)(h:es=outOf p.stmts.length (O5 p.stmts.length (reachW p) i 0))(h1:i<=p.stmts.length)(h2:p.stmts.length<=i) :
  ∃r,(0+Int.toNat (((p.stmts.map Sm.cs).length:Nat):Int)<=es.length/\r=(es.drop 0).take (Int.toNat (((p.stmts.map Sm.cs).length:Nat):Int)))/\(λd'=>d'=D.sl 1 (outOf p.stmts.length (overM p))) (D.sl z r):=by
 subst hz
 rw[mP h h1 h2,List.length_map,Int.toNat_natCast]
 exact⟨_,⟨by rw[outOf_len];omega,rfl⟩,by rw[List.drop_zero,List.take_of_length_le (by rw[outOf_len];omega)]⟩
theorem bP(p:Pr)(g:GoodP p):PCall Tryz.prog 27 [p.d] (.ret (.sl 1 (outOf p.stmts.length (overM p)))):=by
 refine af Tryz.func27 λhf=>?_
 have hs5:=g.hl
 have hl_b:p.stmts.length<=9223372036854775807:=by omega
 clear hf
 repeat' ((try(conv=>whnf))<;>first
  |(refine ChooseI.r 17 ?_)
  |(refine ChooseI.r 26 ?_)
  |(refine ChooseI.r 95 ?_)
  |exact trivial
  |exact idx_next hd12 ‹_›
  |exact idx_next hd10 ‹_›
  |exact idx_next hd8 ‹_›
  |exact idx_next hd6 ‹_›
  |exact idx_next hd4 ‹_›
  |exact idx_next hd2 ‹_›
  |exact idx_next hd0 ‹_›
  |refine br_nil hd12 ?_
  |refine br_nil hd10 ?_
  |refine br_nil hd8 ?_
  |refine br_nil hd6 ?_
  |refine br_nil hd4 ?_
  |refine br_nil hd2 ?_
  |refine br_nil hd0 ?_
  |refine br_cons hd12 ?_
  |refine br_cons hd10 ?_
  |refine br_cons hd8 ?_
  |refine br_cons hd6 ?_
  |refine br_cons hd4 ?_
  |refine br_cons hd2 ?_
  |refine br_cons hd0 ?_
  |((refine mk_step ?_ ?_ ?_ ?_ ?_);(exact Int.natCast_nonneg _);(exact Int.le_refl _);exact rfl;(rw[List.length_map];omega))
  |((refine absorb_step (List.replicate (p.stmts.map Sm.cs).length (D.b false)) ?_ ?_ ?_ ?_ ?_ ?_ ?_ ?_ ?_ ?_ ?_);exact rfl;exact rfl;exact rfl;exact rfl;exact rfl;exact pR hI0.1;exact nZ hl0;exact pU hl0;exact List.length_replicate;exact lg)
  |((refine mat_idx_step ?_ ?_ ?_ ?_);exact rfl;exact rfl;(first |exact iC hl6 |exact iC hl4 |exact iC hl0 |exact iC hl12 |exact iC hl10 |exact kw hl8 |exact kw hl4 |exact kw hl2 |exact kw hl12 |exact kw hl10))
  |(first |(refine mat_get_step _ _ (aN hI8.1 hl6) (bI hl8) ?_) |(refine mat_get_step _ _ (aN hI8.1 hl6) (bI hl4) ?_) |(refine mat_get_step _ _ (aN hI8.1 hl4) (bI hl8) ?_) |(refine mat_get_step _ _ (aN (W:=reachW p) rfl hl10) (bI hl12) ?_) |(refine mat_get_step _ _ (aN (W:=reachW p) rfl hl12) (bI hl12) ?_) |(refine mat_get_step _ _ (aN (W:=reachW p) rfl hl10) (bI hl10) ?_))
  |(first |(refine mat_row_step _ (aN hI8.1 hl6) ?_) |(refine mat_row_step _ (aN hI8.1 hl4) ?_) |(refine mat_row_step _ (aN hI2.1 (Nat.lt_succ_self i0)) ?_) |(refine mat_row_step _ (aN (W:=reachW p) rfl hl10) ?_) |(refine mat_row_step _ (aN (W:=reachW p) rfl hl12) ?_))
  |((refine mat_set_step _ ?_ ?_ ?_ (aN hI8.1 hl6) (lH hl8) ?_);exact rfl;exact rfl;exact rfl)
  |((refine mat_set_step _ ?_ ?_ ?_ (aN hI2.1 (Nat.lt_succ_self i0)) (lH hl2) ?_);exact rfl;exact rfl;exact rfl)
  |((refine own_idx_step ?_ ?_ ?_ ?_ ?_);exact rfl;exact rfl;exact rfl;(exact iC hl10))
  |((refine own_load_step ?_ ?_ ?_ ?_ ?_ ?_ ?_);exact rfl;exact rfl;rotate_left 2;(exact lI hI12.1 hl10);exact rfl)
  |((refine own_store_step ?_ ?_ ?_ ?_ ?_ ?_ ?_ ?_ ?_);exact rfl;exact rfl;exact rfl;exact rfl;exact ble_le rfl;exact rfl;rotate_left;(exact lI hI12.1 hl10))
  |((refine LoopAt.mk 0 ?_);refine⟨rangeL (p.stmts) 5 (λ(rows:(List (List D)))=>[]) (λ(rows:(List (List D)))=>[(1,.cells [.data (.str p.name),.data (.i p.latency),.data (.i p.tail),.data (.sl 3 (p.params.map Bd.cs)),.data (.sl 3 (p.states.map Bd.cs)),.data (.sl 4 (p.lines.map Ln.cs)),.data (.sl 2 (p.tables.map Tb.cs)),.data (.sl 8 (p.stmts.map Sm.cs))]),(17,.mat (p.stmts.map Sm.cs).length rows)]) [1,3,4] (λi0 r0 rows=>rows=rowsOf i0 p.stmts.length (W1 p i0 0)/\i0<=p.stmts.length),?_⟩;refine rangeL_rule ([]) ?_ ?_ (λi0 (rows:(List (List D))) hd0 hI0=>?_) (λi0 x0 r0 (rows:(List (List D))) hd0 hl0 hI0=>?_))
  |(refine rangeL_next hd0 (rowsOf (i0+1) p.stmts.length (W1 p (i0+1) 0)) ?_ ?_)
  |((refine LoopAt.mk 2 ?_);refine⟨rangeL (p.stmts) 6 (λ(rows2:(List (List D)))=>[]) (λ(rows2:(List (List D)))=>[(1,.cells [.data (.str p.name),.data (.i p.latency),.data (.i p.tail),.data (.sl 3 (p.params.map Bd.cs)),.data (.sl 3 (p.states.map Bd.cs)),.data (.sl 4 (p.lines.map Ln.cs)),.data (.sl 2 (p.tables.map Tb.cs)),.data (.sl 8 (p.stmts.map Sm.cs))]),(17,.mat (p.stmts.map Sm.cs).length rows2)]) [1,3,4,5] (λi2 r2 rows2=>rows2=rowsOf (i0+1) p.stmts.length (W1 p i0 i2)/\i2<=p.stmts.length),?_⟩;refine rangeL_rule (rowsOf (i0+1) p.stmts.length (W1 p i0 0)) ?_ ?_ (λi2 (rows2:(List (List D))) hd2 hI2=>?_) (λi2 x2 r2 (rows2:(List (List D))) hd2 hl2 hI2=>?_))
  |(refine rangeL_next hd2 (rowsOf (i0+1) p.stmts.length (W1 p i0 (i2+1))) ?_ ?_)
  |((refine LoopAt.mk 4 ?_);refine⟨rangeL (p.stmts) 7 (λ(rows4:(List (List D)))=>[]) (λ(rows4:(List (List D)))=>[(1,.cells [.data (.str p.name),.data (.i p.latency),.data (.i p.tail),.data (.sl 3 (p.params.map Bd.cs)),.data (.sl 3 (p.states.map Bd.cs)),.data (.sl 4 (p.lines.map Ln.cs)),.data (.sl 2 (p.tables.map Tb.cs)),.data (.sl 8 (p.stmts.map Sm.cs))]),(17,.mat (p.stmts.map Sm.cs).length rows4)]) [3,4] (λi4 r4 rows4=>rows4=rowsOf p.stmts.length p.stmts.length (W4 p p.stmts.length i4 0 0)/\i4<=p.stmts.length),?_⟩;refine rangeL_rule (rowsOf p.stmts.length p.stmts.length (W4 p p.stmts.length 0 0 0)) ?_ ?_ (λi4 (rows4:(List (List D))) hd4 hI4=>?_) (λi4 x4 r4 (rows4:(List (List D))) hd4 hl4 hI4=>?_))
  |(refine rangeL_next hd4 (rowsOf p.stmts.length p.stmts.length (W4 p p.stmts.length (i4+1) 0 0)) ?_ ?_)
  |((refine LoopAt.mk 6 ?_);refine⟨rangeL (p.stmts) 8 (λ(rows6:(List (List D)))=>[]) (λ(rows6:(List (List D)))=>[(1,.cells [.data (.str p.name),.data (.i p.latency),.data (.i p.tail),.data (.sl 3 (p.params.map Bd.cs)),.data (.sl 3 (p.states.map Bd.cs)),.data (.sl 4 (p.lines.map Ln.cs)),.data (.sl 2 (p.tables.map Tb.cs)),.data (.sl 8 (p.stmts.map Sm.cs))]),(17,.mat (p.stmts.map Sm.cs).length rows6)]) [3,4,7] (λi6 r6 rows6=>rows6=rowsOf p.stmts.length p.stmts.length (W4 p p.stmts.length i4 i6 0)/\i6<=p.stmts.length),?_⟩;refine rangeL_rule (rowsOf p.stmts.length p.stmts.length (W4 p p.stmts.length i4 0 0)) ?_ ?_ (λi6 (rows6:(List (List D))) hd6 hI6=>?_) (λi6 x6 r6 (rows6:(List (List D))) hd6 hl6 hI6=>?_))
  |(refine rangeL_next hd6 (rowsOf p.stmts.length p.stmts.length (W4 p p.stmts.length i4 (i6+1) 0)) ?_ ?_)
  |((refine LoopAt.mk 8 ?_);refine⟨rangeL (p.stmts) 9 (λ(rows8:(List (List D)))=>[]) (λ(rows8:(List (List D)))=>[(1,.cells [.data (.str p.name),.data (.i p.latency),.data (.i p.tail),.data (.sl 3 (p.params.map Bd.cs)),.data (.sl 3 (p.states.map Bd.cs)),.data (.sl 4 (p.lines.map Ln.cs)),.data (.sl 2 (p.tables.map Tb.cs)),.data (.sl 8 (p.stmts.map Sm.cs))]),(17,.mat (p.stmts.map Sm.cs).length rows8)]) [3,4,7,8] (λi8 r8 rows8=>rows8=rowsOf p.stmts.length p.stmts.length (W4 p p.stmts.length i4 i6 i8)/\i8<=p.stmts.length),?_⟩;refine rangeL_rule (rowsOf p.stmts.length p.stmts.length (W4 p p.stmts.length i4 i6 0)) ?_ ?_ (λi8 (rows8:(List (List D))) hd8 hI8=>?_) (λi8 x8 r8 (rows8:(List (List D))) hd8 hl8 hI8=>?_))
  |(refine rangeL_next hd8 (rowsOf p.stmts.length p.stmts.length (W4 p p.stmts.length i4 i6 (i8+1))) ?_ ?_)
  |((refine LoopAt.mk 10 ?_);refine⟨rangeL (p.stmts) 11 (λ(es:(List (List D)))=>[]) (λ(es:(List (List D)))=>[(1,.cells [.data (.str p.name),.data (.i p.latency),.data (.i p.tail),.data (.sl 3 (p.params.map Bd.cs)),.data (.sl 3 (p.states.map Bd.cs)),.data (.sl 4 (p.lines.map Ln.cs)),.data (.sl 2 (p.tables.map Tb.cs)),.data (.sl 8 (p.stmts.map Sm.cs))]),(17,.mat (p.stmts.map Sm.cs).length (rowsOf p.stmts.length p.stmts.length (reachW p))),(95,.arr 0 1 es)]) [3,4,10] (λi10 r10 es=>es=outOf p.stmts.length (O5 p.stmts.length (reachW p) i10 0)/\i10<=p.stmts.length),?_⟩;refine rangeL_rule (outOf p.stmts.length (O5 p.stmts.length (reachW p) 0 0)) ?_ ?_ (λi10 (es:(List (List D))) hd10 hI10=>?_) (λi10 x10 r10 (es:(List (List D))) hd10 hl10 hI10=>?_))
  |(refine rangeL_next hd10 (outOf p.stmts.length (O5 p.stmts.length (reachW p) (i10+1) 0)) ?_ ?_)
  |((refine LoopAt.mk 12 ?_);refine⟨rangeL (p.stmts) 12 (λ(es12:(List (List D)))=>[]) (λ(es12:(List (List D)))=>[(1,.cells [.data (.str p.name),.data (.i p.latency),.data (.i p.tail),.data (.sl 3 (p.params.map Bd.cs)),.data (.sl 3 (p.states.map Bd.cs)),.data (.sl 4 (p.lines.map Ln.cs)),.data (.sl 2 (p.tables.map Tb.cs)),.data (.sl 8 (p.stmts.map Sm.cs))]),(17,.mat (p.stmts.map Sm.cs).length (rowsOf p.stmts.length p.stmts.length (reachW p))),(95,.arr 0 1 es12)]) [3,4,10,11] (λi12 r12 es12=>es12=outOf p.stmts.length (O5 p.stmts.length (reachW p) i10 i12)/\i12<=p.stmts.length),?_⟩;refine rangeL_rule (outOf p.stmts.length (O5 p.stmts.length (reachW p) i10 0)) ?_ ?_ (λi12 (es12:(List (List D))) hd12 hI12=>?_) (λi12 x12 r12 (es12:(List (List D))) hd12 hl12 hI12=>?_))
  |(refine rangeL_next hd12 (outOf p.stmts.length (O5 p.stmts.length (reachW p) i10 (i12+1))) ?_ ?_)
  |((refine call_step ?_ ?_ ?_);rotate_left;(exact ku p _ _ g (g.hn _ (drop_mem hd0))))
  |((refine idx_step ?_ ?_ ?_ ?_ ?_);exact rfl;exact rfl;rotate_left;(exact idx_drop hd0))
  |((refine len_step ?_ ?_);exact rfl)
  |((refine guard_step ?_ ?_ (λhg=>?_) ?_);exact rfl)
  |((refine guard_stepT ?_ ?_ (λhg=>?_) ?_);exact rfl)
  |((refine val_step ?_ ?_);exact rfl;exact rfl)
  |((refine same_step ?_ ?_);exact rfl)
  |((refine chk_stepP ?_ ?_);kernel_rfl)
  |(refine ah ?_;conv=>whnf)
  |(refine And.intro ?_ ?_)
  |exact @rfl AV _
  |exact @rfl Block _
  |exact ble_le rfl
  |fail)
 all_goals first
  |((exact hl0))
  |((exact hl2))
  |((exact hl4))
  |((exact hl6))
  |((exact hl8))
  |((exact hl10))
  |((exact hl12))
  |(((conv=>whnf);exact og hI0.1 _))
  |((exact mQ rfl hI10.1 hI10.2 (drop_ge hd10)))
  |((exact pW hI2.1 hl2 (mO (drop_get hd0))))
  |((exact oh hI2.1 (drop_ge hd2)))
  |((exact oq hI0.1 hI0.2 (drop_ge hd0)))
  |((exact congrArg (Block.mat _) hI4.1))
  |((exact congrArg (Block.mat _) hI6.1))
  |((exact pX hI8.1 hl6 hl8 rfl))
  |((exact ou hI8.1 hI8.2 (drop_ge hd8)))
  |((exact oz hI6.1 hI6.2 (drop_ge hd6)))
  |((exact oC hI4.1 hI4.2 (drop_ge hd4)))
  |((exact lh p))
  |((exact congrArg (Block.arr 0 1) hI10.1))
  |((exact pY hI12.1 rfl))
  |((exact qc hI12.1 hI12.2 (drop_ge hd12) rfl))
  |(rfl)
  |skip
end Go.Proofs.YtogfjinopifenaaGreatDoor
namespace Go.Proofs.YtogfjinopifenaaGreatDoor
open Go.Fw Go.Fw.Ref15 Go.Fw.Rg Go.Fw.Tl
set_option maxRecDepth 10000
variable [GlobInt]
theorem kz(p:Pr)(L:List Int)(at_:Nat)(x:Ex)(g:GoodP p)(hB:AgB L)(hx:Ref15.nodes x<=1073741824)(hA:AgOk p L x):PCall Tryz.prog 28 [p.d,.i at_,x.d,.sl 1 (L.map aC)] (.ret (.i (agX p at_ (lA L) x))):=by
 revert hA hx;revert x;refine Ex.ind λx ih hx hA=>?_
 refine af Tryz.func28 λhf=>?_
 have hlen:=Ex.fits (hf x.d (by simp))
 have ih2:∀y∈x.l,PCall Tryz.prog 28 [p.d,.i at_,y.d,.sl 1 (L.map aC)] (.ret (.i (agX p at_ (lA L) y))):=λy hy=>ih y hy (by have:=nodes_mem hy;have:=Ref15.nodes_eq x;omega) (hA.part hy)
 clear hf
 repeat' ((try(conv=>whnf))<;>first
  |(exact(ag_tt (by assumption) (by assumption)).elim)
  |exact trivial
  |exact idx_next hd0 ‹_›
  |refine br_nil_e hd0 ?_
  |refine br_cons_e hd0 ?_
  |refine BrI.intro (λh=>?_) (λh=>?_)
  |((refine idx_int (f:=aC) (0:Int) ?_ ?_ (AgOk.at0 (by assumption)) hA.at1 ?_);exact rfl;exact rfl)
  |((refine idx_int (f:=Ln.cs) Rg.Ln.none ?_ ?_ (hA.li0 (by assumption)) (hA.li1 (by assumption)) ?_);exact rfl;exact rfl)
  |((refine LoopAt.mk 0 ?_);refine⟨rangeL (x.l) 11 (λ(most:(Int))=>[(9,.data (.val (.int .i64 most)))]) (λ(most:(Int))=>[]) [1,3,4,6] (λi0 r0 most=>agX p at_ (lA L) x=agL p at_ (lA L) r0 most),?_⟩;refine rangeL_rule ?_ ?_ ?_ (λi0 (most:(Int)) hd0 hI0=>?_) (λi0 x0 r0 (most:(Int)) hd0 hl0 hI0=>?_))
  |(refine rangeL_next hd0 (mm2 true most (agX p at_ (lA L) x0)) ?_ ?_)
  |((refine call_step ?_ ?_ ?_);rotate_left;(first |exact jZ _ _ (by assumption) |exact ih2 _ (drop_mem hd0)))
  |((refine idx_step ?_ ?_ ?_ ?_ ?_);exact rfl;exact rfl;rotate_left;(exact idx_drop_e hd0))
  |((refine len_step ?_ ?_);exact rfl)
  |((refine chk_stepP ?_ ?_);kernel_rfl)
  |(refine ah ?_;conv=>whnf)
  |(refine And.intro ?_ ?_)
  |exact @rfl AV _
  |fail)
 all_goals first
  |((rw[hI0,agL]))
  |((exact ag_n h))
  |((exact ag_ff (by assumption) (by assumption) h))
  |((exact ag_tf hB (by assumption) (by assumption) h))
  |((exact ag_ft hB hA (by assumption) (by assumption) h))
  |skip
theorem mV(p:Pr)(z:Ex)(s:Sp)(g:GoodP p)(h:intervalR p z = .ok s)(hz:Ref15.nodes z<=1073741824):PCall Tryz.prog 43 [p.d,z.d] (.ret (.tuple [.i s.1,.i s.2,.i 0])):=by
 have:=dI p z g hz;rw[h]at this;exact this
theorem lm(p:Pr)(x:Ex)(g:GoodP p)(hx:Ref15.nodes x<=1073741824)(hA:ChOk p x):PCall Tryz.prog 23 [p.d,x.d] (.ret (.i (rchX p x))):=by
 revert hA hx;revert x;refine Ex.ind λx ih hx hA=>?_
 refine af Tryz.func23 λhf=>?_
 have hlen:=Ex.fits (hf x.d (by simp))
 have ih2:∀y∈x.l,PCall Tryz.prog 23 [p.d,y.d] (.ret (.i (rchX p y))):=λy hy=>ih y hy (by have:=nodes_mem hy;have:=Ref15.nodes_eq x;omega) (hA.part hy)
 clear hf
 repeat' ((try(conv=>whnf))<;>first
  |(have hq:=hA.me (by assumption);have hk:looks x=true:=(by assumption);clear h;obtain⟨z,t,hz1,hz2,hz3⟩:=hq)
  |((refine idx_step ?_ ?_ ?_ ?_ ?_);exact rfl;exact rfl;rotate_left;exact look_idx hz1)
  |exact trivial
  |exact idx_next hd0 ‹_›
  |refine br_nil_e hd0 ?_
  |refine br_cons_e hd0 ?_
  |refine BrI.intro (λh=>?_) (λh=>?_)
  |((refine LoopAt.mk 0 ?_);refine⟨rangeL (x.l) 9 (λ(most:(Int))=>[(5,.data (.val (.int .i64 most)))]) (λ(most:(Int))=>[]) [2,3] (λi0 r0 most=>rchX p x=rchL p r0 most),?_⟩;refine rangeL_rule ?_ ?_ ?_ (λi0 (most:(Int)) hd0 hI0=>?_) (λi0 x0 r0 (most:(Int)) hd0 hl0 hI0=>?_))
  |(refine rangeL_next hd0 (mm2 true most (rchX p x0)) ?_ ?_)
  |((refine call_step ?_ ?_ ?_);rotate_left;(first |exact mV p z t g hz2 hz3 |exact ih2 _ (drop_mem hd0)))
  |((refine idx_step ?_ ?_ ?_ ?_ ?_);exact rfl;exact rfl;rotate_left;(exact idx_drop_e hd0))
  |((refine len_step ?_ ?_);exact rfl)
  |((refine chk_stepP ?_ ?_);kernel_rfl)
  |(refine ah ?_;conv=>whnf)
  |(refine And.intro ?_ ?_)
  |exact @rfl AV _
  |fail)
 all_goals first
  |((rw[hI0,rchL]))
  |((exact rc_no h))
  |((exact rc_yes hk hz1 hz2))
  |skip
end Go.Proofs.YtogfjinopifenaaGreatDoor
namespace Go.Proofs.YtogfjinopifenaaGreatDoor
open Go.Fw Go.Fw.Ref15 Go.Fw.Rg Go.Fw.Nam Go.Fw.Tl
set_option maxRecDepth 10000
variable [GlobInt] {es : List (List D)} {p : Pr} {r i : Nat}
theorem aZ(p:Pr)(g:GoodP p):PCall Tryz.prog 22 [p.d] (.ret (.i (boundsR p).2)):=by
 refine ae Tryz.func22 ?_
 repeat' ((try(conv=>whnf))<;>first
  |refine BrI.intro (λh=>?_) (λh=>?_)
  |((refine call_step ?_ ?_ ?_);rotate_left;(first |exact dw p g |exact iI p |exact iq p g))
  |(refine ah ?_;conv=>whnf)
  |fail)
 all_goals first
  |((exact congrArg D.i (nO h)))
  |((exact congrArg D.i (nR (by assumption) (by rw[samePr_comm];exact h))))
  |skip
theorem dB(p:Pr)(g:GoodP p)(h:(boundsR p).2=0):PCall Tryz.prog 22 [p.d] (.ret (.i 0)):=by
 have:=aZ p g;rwa[h]at this
theorem lq(p:Pr)(g:GoodP p)(hb:((boundsR p).2 != 0)=true):PCall Tryz.prog 8 [p.d] (.ret (.tuple [.i 0,.i (boundsR p).2])):=by
 refine ae Tryz.func8 ?_
 repeat' ((try(conv=>whnf))<;>first
  |(exact Bool.noConfusion (hb.symm.trans h))
  |refine BrI.intro (λh=>?_) (λh=>?_)
  |((refine call_step ?_ ?_ ?_);rotate_left;(exact aZ p g))
  |(refine ah ?_;conv=>whnf)
  |fail)
 all_goals first
  |skip
theorem mW(p:Pr)(F:List Sp)(g:GoodP p)(hb:BOk p F):PCall Tryz.prog 8 [p.d] (.ret (.tuple [.i (latR p),.i 0])):=by
 refine af Tryz.func8 λhf=>?_
 have hs5:=g.sm.stmts
 have hl_b:p.stmts.length<=9223372036854775807:=by omega
 clear hf
 repeat' ((try(conv=>whnf))<;>first
  |((refine BrI.ff_of ?_ ?_);exact rfl)
  |exact trivial
  |exact idx_next hd0 ‹_›
  |refine br_nil hd0 ?_
  |refine br_cons hd0 ?_
  |((refine LoopAt.mk 0 ?_);refine⟨rangeL (p.stmts) 6 (λ(most:(Int))=>[(5,.data (.val (.int .i64 most)))]) (λ(most:(Int))=>[]) [1] (λi0 r0 most=>latR p=r0.foldl (λn s=>mm2 true n (rchX p s.x)) most),?_⟩;refine rangeL_rule ?_ ?_ ?_ (λi0 (most:(Int)) hd0 hI0=>?_) (λi0 x0 r0 (most:(Int)) hd0 hl0 hI0=>?_))
  |(refine rangeL_next hd0 (mm2 true most (rchX p x0.x)) ?_ ?_)
  |((refine call_step ?_ ?_ ?_);rotate_left;(first |exact dB p g (bok_zero hb) |exact lm p x0.x g (g.hn _ (drop_mem hd0)) (ch_of hb g hd0)))
  |((refine idx_step ?_ ?_ ?_ ?_ ?_);exact rfl;exact rfl;rotate_left;(exact idx_drop hd0))
  |((refine len_step ?_ ?_);exact rfl)
  |((refine chk_stepP ?_ ?_);kernel_rfl)
  |(refine ah ?_;conv=>whnf)
  |(refine And.intro ?_ ?_)
  |exact @rfl AV _
  |fail)
 all_goals first
  |(rfl)
  |((exact hI0))
  |((exact congrArg (λz=>D.tuple [.i z,.i 0]) hI0.symm))
  |skip
theorem aO(p:Pr)(g:GoodP p):PCall Tryz.prog 8 [p.d] (.ret (.tuple [.i (latencyM p).1,.i (latencyM p).2])):=by
 cases h:((boundsR p).2 != 0)with
 |true=>rw[latencyM,if_pos h];exact lq p g h
 |false=>rw[latencyM,if_neg (by rw[h];decide),<-lat_ref];exact mW p _ g (boundsR_zero (by simpa using h)).1
theorem oD(hn:0<p.stmts.length)(hl:p.stmts.length<=1073741824):0<=IntKind.i64.wrap (((p.stmts.map Sm.cs).length:Int)-1)/\(outOf p.stmts.length (overM p))[(IntKind.i64.wrap (((p.stmts.map Sm.cs).length:Int)-1)).toNat]? = some [D.b (overM p (p.stmts.length-1))]:=by
 rw[len_1 hl,show(p.stmts.length:Int)-1=((p.stmts.length-1:Nat):Int)from by omega,Int.toNat_natCast]
 exact⟨by omega,outOf_get (by omega)⟩
theorem qG{i:Nat}(h:i<p.stmts.length):0<=(i:Int)/\(outOf p.stmts.length (overM p))[((i:Nat):Int).toNat]? = some [D.b (overM p i)]:=by
 rw[Int.toNat_natCast];exact⟨by omega,outOf_get h⟩
theorem oG(p:Pr):Block.arr 0 1 (List.replicate (p.stmts.map Sm.cs).length [D.i 0])=Block.arr 0 1 (agE p 0 0):=by rw[List.length_map,agE_0]
theorem oH(hn:0<p.stmts.length)(hl:p.stmts.length<=1073741824):0<=IntKind.i64.wrap (((p.stmts.map Sm.cs).length:Int)-1)/\IntKind.i64.wrap (((p.stmts.map Sm.cs).length:Int)-1)<((p.stmts.map Sm.cs).length:Nat):=by
 rw[len_1 hl,List.length_map];omega
theorem oI{r:Nat}(hn:0<p.stmts.length)(hl:p.stmts.length<=1073741824)(h:es=agE p r 0):es[0+(IntKind.i64.wrap (((p.stmts.map Sm.cs).length:Int)-1)).toNat]? = some [D.i (agF p r 0 (p.stmts.length-1))]:=by
 rw[h,len_1 hl,show(p.stmts.length:Int)-1=((p.stmts.length-1:Nat):Int)from by omega,Int.toNat_natCast,Nat.zero_add]
 exact agE_get (by omega)
theorem mX{s:Sm}{t:List Sm}(g:GoodP p)(hr:Res p)(hd:p.stmts.drop i=s::t)(hr4:r<=64)(h:es=agE p r i) :
  PCall Tryz.prog 28 [p.d,.i i,s.x.d,.sl 1 ((es.drop 0).take (Int.toNat (((p.stmts.map Sm.cs).length:Nat):Int)))] (.ret (.i (agX p i (lA (agS p r i)) (stmtX p i)))):=by
 have hs:=drop_get hd
 have hi:=(List.getElem?_eq_some_iff.1 hs).1
 have h64:=(lims hr).1.2.2.2.2
 rw[h,Int.toNat_natCast,List.length_map,agE_all rfl]
 have e:stmtX p i=s.x:=stmtX_at hs
 rw[e]
 exact kz p (agS p r i) i s.x g (agS_B hr hr4 (by omega)) (g.hn _ (List.mem_of_getElem? hs)) (e ▸ ag_okS hr hi)
theorem oJ(hr:Res p)(hi:i<p.stmts.length)(h:es=agE p r i)(ho:(!overM p i)=true):Block.arr 0 1 (es.set (0+Int.toNat ((i:Nat):Int)) [D.i (agX p i (lA (agS p r i)) (stmtX p i))])=Block.arr 0 1 (agE p r (i+1)):=by
 rw[h,Int.toNat_natCast,Nat.zero_add,agE_set hr hi (by simpa using ho)]
theorem mY(h:es=agE p r i)(ho:(!overM p i)=false):Block.arr 0 1 es=Block.arr 0 1 (agE p r (i+1)):=by
 rw[h,agE_keep (by simpa using ho)]
theorem qH(h:es=agE p r i)(h1:i<=p.stmts.length)(h2:p.stmts.length<=i):Block.arr 0 1 es=Block.arr 0 1 (agE p (r+1) 0):=by
 obtain rfl:i=p.stmts.length:=by omega
 rw[h,agE_n]
theorem qf(h:es=agE p r i)(hi:i<p.stmts.length):es[0+Int.toNat ((i:Nat):Int)]? = some [D.i (agF p r i i)]:=by
 rw[h,Int.toNat_natCast,Nat.zero_add];exact agE_get hi
theorem oK{r:Nat}(h1:r<=p.stmts.length)(h2:p.stmts.length<=r):agF p r 0 (p.stmts.length-1)=agesR p p.stmts.length (p.stmts.length-1):=by
 obtain rfl:r=p.stmts.length:=by omega
 rfl
theorem lu(p:Pr)(g:GoodP p)(hb:((boundsR p).2 != 0)=true):PCall Tryz.prog 10 [p.d] (.ret (.tuple [.i 0,.i (boundsR p).2])):=by
 refine ae Tryz.func10 ?_
 repeat' ((try(conv=>whnf))<;>first
  |(exact Bool.noConfusion (hb.symm.trans h))
  |refine BrI.intro (λh=>?_) (λh=>?_)
  |((refine call_step ?_ ?_ ?_);rotate_left;(exact aZ p g))
  |(refine ah ?_;conv=>whnf)
  |fail)
 all_goals first
  |skip
theorem kC(p:Pr)(g:GoodP p)(hb:(boundsR p).2=0)(hn:0<p.stmts.length)(ho:overM p (p.stmts.length-1)=true):PCall Tryz.prog 10 [p.d] (.ret (.tuple [.i (-1),.i 0])):=by
 refine af Tryz.func10 λhf=>?_
 have hs5:=g.hl
 clear hf
 repeat' ((try(conv=>whnf))<;>first
  |(exact Bool.noConfusion (ho.symm.trans h))
  |((refine BrI.ff_of ?_ ?_);exact rfl)
  |((refine idx_step ?_ ?_ ?_ ?_ ?_);exact rfl;exact rfl;rotate_left;exact oD hn hs5)
  |refine BrI.intro (λh=>?_) (λh=>?_)
  |((refine call_step ?_ ?_ ?_);rotate_left;(first |exact dB p g hb |exact bP p g))
  |(refine ah ?_;conv=>whnf)
  |fail)
 all_goals first
  |skip
theorem mZ(p:Pr)(g:GoodP p)(hb:(boundsR p).2=0)(hr:Res p)(hn:0<p.stmts.length)(ho:overM p (p.stmts.length-1)=false):PCall Tryz.prog 10 [p.d] (.ret (.tuple [.i (agesR p p.stmts.length (p.stmts.length-1)),.i 0])):=by
 refine af Tryz.func10 λhf=>?_
 have hs5:=g.hl
 have hl_b:p.stmts.length<=9223372036854775807:=by omega
 have h64:=(lims hr).1.2.2.2.2
 clear hf
 repeat' ((try(conv=>whnf))<;>first
  |(exact Bool.noConfusion (ho.symm.trans h))
  |((refine BrI.ff_of ?_ ?_);exact rfl)
  |(refine ChooseI.r 26 ?_)
  |((refine idx_step ?_ ?_ ?_ ?_ ?_);exact rfl;exact rfl;rotate_left;exact oD hn hs5)
  |((refine idx_step ?_ ?_ ?_ ?_ ?_);exact rfl;exact rfl;rotate_left;exact qG hl2)
  |exact trivial
  |exact idx_next hd2 ‹_›
  |exact idx_next hd0 ‹_›
  |refine br_nil hd2 ?_
  |refine br_nil hd0 ?_
  |refine br_cons hd2 ?_
  |refine br_cons hd0 ?_
  |refine BrI.intro (λh=>?_) (λh=>?_)
  |((refine own_store_step ?_ ?_ ?_ ?_ ?_ ?_ ?_ ?_ ?_);exact rfl;exact rfl;exact rfl;exact rfl;exact ble_le rfl;exact rfl;rotate_left;(exact qf hI2.1 hl2))
  |((refine mk_step ?_ ?_ ?_ ?_ ?_);(exact Int.natCast_nonneg _);(exact Int.le_refl _);exact rfl;(rw[List.length_map];omega))
  |((refine own_idx_step ?_ ?_ ?_ ?_ ?_);exact rfl;exact rfl;exact rfl;(first |exact iC hl2 |exact oH hn hs5))
  |((refine own_load_step ?_ ?_ ?_ ?_ ?_ ?_ ?_);exact rfl;exact rfl;rotate_left 2;(exact oI hn hs5 hI0.1);exact rfl)
  |((refine LoopAt.mk 0 ?_);refine⟨rangeL (p.stmts) 8 (λ(es:(List (List D)))=>[]) (λ(es:(List (List D)))=>[(1,.cells [.data (.str p.name),.data (.i p.latency),.data (.i p.tail),.data (.sl 3 (p.params.map Bd.cs)),.data (.sl 3 (p.states.map Bd.cs)),.data (.sl 4 (p.lines.map Ln.cs)),.data (.sl 2 (p.tables.map Tb.cs)),.data (.sl 8 (p.stmts.map Sm.cs))]),(26,.arr 0 1 es)]) [1,5,6,7] (λi0 r0 es=>es=agE p i0 0/\i0<=p.stmts.length),?_⟩;refine rangeL_rule (agE p 0 0) ?_ ?_ (λi0 (es:(List (List D))) hd0 hI0=>?_) (λi0 x0 r0 (es:(List (List D))) hd0 hl0 hI0=>?_))
  |(refine rangeL_next hd0 (agE p (i0+1) 0) ?_ ?_)
  |((refine LoopAt.mk 2 ?_);refine⟨rangeL (p.stmts) 9 (λ(es2:(List (List D)))=>[]) (λ(es2:(List (List D)))=>[(1,.cells [.data (.str p.name),.data (.i p.latency),.data (.i p.tail),.data (.sl 3 (p.params.map Bd.cs)),.data (.sl 3 (p.states.map Bd.cs)),.data (.sl 4 (p.lines.map Ln.cs)),.data (.sl 2 (p.tables.map Tb.cs)),.data (.sl 8 (p.stmts.map Sm.cs))]),(26,.arr 0 1 es2)]) [1,5,6,7,8] (λi2 r2 es2=>es2=agE p i0 i2/\i2<=p.stmts.length),?_⟩;refine rangeL_rule (agE p i0 0) ?_ ?_ (λi2 (es2:(List (List D))) hd2 hI2=>?_) (λi2 x2 r2 (es2:(List (List D))) hd2 hl2 hI2=>?_))
  |(refine rangeL_next hd2 (agE p i0 (i2+1)) ?_ ?_)
  |((refine call_step ?_ ?_ ?_);rotate_left;(first |exact dB p g hb |exact bP p g))
  |((refine flat_step ?_ ?_);exact rfl)
  |((refine read_step ?_ ?_ ?_);rotate_left;(exact mX g hr hd2 (Nat.le_trans (Nat.le_of_lt hl0) h64) hI2.1))
  |((refine idx_step ?_ ?_ ?_ ?_ ?_);exact rfl;exact rfl;rotate_left;(exact idx_drop hd2))
  |((refine len_step ?_ ?_);exact rfl)
  |((refine chk_stepP ?_ ?_);kernel_rfl)
  |(refine ah ?_;conv=>whnf)
  |(refine And.intro ?_ ?_)
  |exact @rfl AV _
  |exact ble_le rfl
  |fail)
 all_goals first
  |(rfl)
  |((rw[hI2.1,agE_len,Int.toNat_natCast,List.length_map];omega))
  |(((try(conv=>whnf));exact oG p))
  |(((try(conv=>whnf));exact congrArg (Block.arr 0 1) hI0.1))
  |(((try(conv=>whnf));exact oJ hr hl2 hI2.1 (by assumption)))
  |(((try(conv=>whnf));exact mY hI2.1 (by assumption)))
  |(((try(conv=>whnf));exact qH hI2.1 hI2.2 (drop_ge hd2)))
  |((exact congrArg (λz=>D.tuple [.i z,.i 0]) (oK hI0.2 (drop_ge hd0))))
  |((exact hl0))
  |((exact hl2))
  |skip
theorem bQ(p:Pr)(g:GoodP p):PCall Tryz.prog 10 [p.d] (.ret (.tuple [.i (memoryM p).1,.i (memoryM p).2])):=by
 cases h:((boundsR p).2 != 0)with
 |true=>rw[memoryM,if_pos h];exact lu p g h
 |false=>
  have hb:(boundsR p).2=0:=by simpa using h
  have hr:=resE_res (boundsR_zero hb).2
  have hn:=res_pos hr
  rw[memoryM,if_neg (by rw[h];decide),<-mem_ref hr,memR]
  cases ho:overM p (p.stmts.length-1)with
  |true=>exact kC p g hb hn ho
  |false=>exact mZ p g hb hr hn ho
theorem lw(p:Pr)(g:GoodP p)(hb:((boundsR p).2 != 0)=true)(h1:PCall Tryz.prog 8 [p.d] (.ret (.tuple [.i 0,.i (boundsR p).2]))):PCall Tryz.prog 12 [p.d] (.ret (.i (boundsR p).2)):=by
 refine ae Tryz.func12 ?_
 repeat' ((try(conv=>whnf))<;>first
  |(exact Bool.noConfusion (hb.symm.trans h))
  |refine BrI.intro (λh=>?_) (λh=>?_)
  |((refine call_step ?_ ?_ ?_);rotate_left;(exact h1))
  |(refine ah ?_;conv=>whnf)
  |fail)
 all_goals first
  |skip
theorem ng(p:Pr)(n m:Int)(g:GoodP p)(h1:PCall Tryz.prog 8 [p.d] (.ret (.tuple [.i n,.i 0])))(h2:PCall Tryz.prog 10 [p.d] (.ret (.tuple [.i m,.i 0]))):PCall Tryz.prog 12 [p.d] (.ret (.i (if n>p.latency then 170 else if(p.tail != -1&&(m == -1 || decide (m>p.tail)))=true then 171 else 0))):=by
 refine ae Tryz.func12 ?_
 repeat' ((try(conv=>whnf))<;>first
  |((refine BrI.ff_of ?_ ?_);exact rfl)
  |refine BrI.intro (λh=>?_) (λh=>?_)
  |((refine call_step ?_ ?_ ?_);rotate_left;(first |exact h1 |exact h2))
  |(refine ah ?_;conv=>whnf)
  |fail)
 all_goals first
  |((exact congrArg D.i (by rw[if_pos (of_decide_eq_true ‹_›)])))
  |((exact congrArg D.i (nX ‹_› h).symm))
  |skip
theorem eU(p:Pr)(g:GoodP p):PCall Tryz.prog 12 [p.d] (.ret (.i (checkM p))):=by
 cases h:((boundsR p).2 != 0)with
 |true=>
  rw[checkM,if_pos h]
  have h1:=aO p g
  rw[latencyM,if_pos h]at h1
  exact lw p g h h1
 |false=>
  have hb:(boundsR p).2=0:=by simpa using h
  rw[checkM,if_neg (by rw[h];decide)]
  have h1:=aO p g
  have h2:=bQ p g
  rw[lat_1 hb]at h1
  rw[mem_1 hb]at h2
  exact ng p (latM p) (memM p) g h1 h2
end Go.Proofs.YtogfjinopifenaaGreatDoor
namespace Go.Proofs.YtogfjinopifenaaGreatDoor
open Go.Fw Go.Fw.Ref15 Go.Fw.Rg Go.Fw.Tl
set_option maxRecDepth 10000
variable [GlobInt]
theorem jy(p:Pr)(g:GoodP p):PCall Tryz.prog 4 [p.d] (.ret (.b true)):=by
 refine ae Tryz.func4 ?_
 repeat' ((try(conv=>whnf))<;>first
  |(exact Bool.noConfusion (show false=true from h))
  |refine BrI.intro (λh=>?_) (λh=>?_)
  |((refine call_step ?_ ?_ ?_);rotate_left;(first |exact gI |exact dP p g |exact dO p g |exact eU p g))
  |((refine chk_stepP ?_ ?_);kernel_rfl)
  |(refine ah ?_;conv=>whnf)
  |fail)
 all_goals first
  |((exact congrArg D.b (beq_self_eq_true _)))
  |skip
end Go.Proofs.YtogfjinopifenaaGreatDoor
