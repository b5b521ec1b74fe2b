/- A part of the proof. -/
import Derived.Test.YtaipffoajgkljaaGreatDoorZQB
import Derived.Test.YtaipffoajgkljaaGreatDoorZLS4
import Derived.Test.YtaipffoajgkljaaGreatDoorZGC
import Derived.Test.YtaipffoajgkljaaGreatDoorZRX
set_option linter.all false
set_option maxHeartbeats 8000000
namespace Go.Proofs.YtaipffoajgkljaaGreatDoor
open Go.Fw Go.Fw.Ref15 Go.Fw.Rg Go.Fw.Tl Go.Fw.Lw
open Go.Fw.Mac hiding W
set_option maxRecDepth 10000
variable [af]
theorem xI(a b:List Int)(ha:a.length<=1073741824)(hb:b.length<=1073741824):PCall Tryz.prog 42 [ints a,ints b] (.ret (.b (Mac.sameI a b))):=by
 refine ay Tryz.func42 ?_
 repeat' ((try conv=>whnf)<;>first
  |exact trivial
  |exact aj hd0 ‹_›
  |((refine dB hd0 ?_ ?_);(assumption))
  |((refine bK hd0 ?_ ?_);(assumption))
  |refine BrI.intro (λh=>?_) (λh=>?_)
  |((refine ak.mk 0 ?_);have heq:a.length=b.length:=z3a (by simpa only [List.length_map]using h);have hz:(a.zip b).length=(a.map fF).length:=(by rw[List.length_map];exact dX heq);have hlen:(a.zip b).length<=9223372036854775807:=(by rw[hz,List.length_map];omega);refine⟨aB (a.zip b) 5 (λ(_:Unit)=>[]) (λ(_:Unit)=>[]) [0,1] (λi0 r0 _=>Mac.sameZ (a.zip b)=Mac.sameZ r0),?_⟩;refine ag () ?_ ?_ (λi0 (_:Unit) hd0 hI0=>?_) (λi0 x0 r0 (_:Unit) hd0 hl0 hI0=>?_))
  |refine ah hd0 () ?_ ?_
  |((refine au ?_ ?_ ?_ ?_ ?_);exact rfl;exact rfl;rotate_left;(first |exact gp hd0 |exact gq hd0))
  |refine fD ?_
  |(refine cO ?_;conv=>whnf)
  |refine And.intro ?_ ?_
  |exact @rfl AV _
  |fail)
 all_goals first
  |exact Mac.sameZ_next hI0 h
  |exact congrArg D.b (Mac.sameI_len (by simpa only [List.length_map]using h)).symm
  |exact congrArg D.b (Mac.sameI_no heq hI0 h).symm
  |exact congrArg D.b (Mac.sameI_yes heq hI0).symm
theorem yh(a b:Sta)(ha:a.Sm)(hb:b.Sm):PCall Tryz.prog 11 [a.d,b.d] (.ret (.b (Mac.sameSt a b))):=by
 refine dh Tryz.func11 λhf=>?_
 have h1:=ha.values;have h2:=hb.values;have h3:=ha.lines;have h4:=hb.lines;have h5:=ha.line;have h6:=hb.line
 clear hf
 repeat' ((try conv=>whnf)<;>first
  |exact trivial
  |exact aj hd0 ‹_›
  |((refine dB hd0 ?_ ?_);(assumption))
  |((refine bK hd0 ?_ ?_);(assumption))
  |refine BrI.intro (λh=>?_) (λh=>?_)
  |((refine ak.mk 0 ?_);have heq:=Mac.sameSt_len (by simpa only [List.length_map]using h);have hz:(a.lines.zip b.lines).length=(a.lines.map lnC).length:=(by rw[List.length_map];exact dX heq.2);have hlen:(a.lines.zip b.lines).length<=9223372036854775807:=(by rw[hz,List.length_map];omega);refine⟨aB (a.lines.zip b.lines) 5 (λ(_:Unit)=>[]) (λ(_:Unit)=>[]) [2,3] (λi0 r0 _=>Mac.sameL (a.lines.zip b.lines)=Mac.sameL r0),?_⟩;refine ag () ?_ ?_ (λi0 (_:Unit) hd0 hI0=>?_) (λi0 x0 r0 (_:Unit) hd0 hl0 hI0=>?_))
  |refine ah hd0 () ?_ ?_
  |((refine ai ?_ ?_ ?_);rotate_left;(first |exact xI a.values b.values (by omega) (by omega) |exact xI x0.1 x0.2 (by have:=h5 _ (List.of_mem_zip (aX hd0)).1;omega) (by have:=h6 _ (List.of_mem_zip (aX hd0)).2;omega)))
  |((refine au ?_ ?_ ?_ ?_ ?_);exact rfl;exact rfl;rotate_left;(first |exact gp hd0 |exact gq hd0))
  |refine fD ?_
  |(refine cO ?_;conv=>whnf)
  |refine And.intro ?_ ?_
  |exact @rfl AV _
  |fail)
 all_goals first
  |exact Mac.sameL_next hI0 h
  |exact congrArg D.b (Mac.sameSt_no (by simpa only [List.length_map]using h)).symm
  |exact congrArg D.b (Mac.sameSt_bad heq hI0 h).symm
  |exact congrArg D.b (Mac.sameSt_yes heq hI0).symm
theorem jg(l:Ins)  : PCall Tryz.prog 13 [.sl 2 (l.map jl)] (.ret (xH l).d):=by
 refine ay Tryz.func13 ?_
 repeat' ((try conv=>whnf)<;>first
  |(refine cO ?_;conv=>whnf)
  |fail)
 all_goals rfl
theorem SH(p:Pr):PCall Tryz.prog 41 [(z0p p).d,(z0p p).d] (.ret (.b true)):=by
 have:=CU (z0p p) (z0p p);rw[SC]at this;exact this
theorem SI(l:List Int)(h:l.length<=1073741824):PCall Tryz.prog 42 [ints l,ints l] (.ret (.b true)):=by
 have:=xI l l h h;rw[Mac.sameI_iff.2 rfl]at this;exact this
theorem GR(p:Pr)(g:gy p):PCall Tryz.prog 9 [(eF p).d,p.d] (.ret (.b true)):=by
 refine dh Tryz.func9 λhf=>?_
 have g1:=g.sm.tables
 have hlen:p.tables.length<=9223372036854775807:=by omega
 clear hf
 repeat' ((try conv=>whnf)<;>first
  |((refine Go.Fw.BrI.ff_of ?_ ?_);exact z9t p)
  |exact trivial
  |exact aj hd0 ‹_›
  |((refine dB hd0 ?_ ?_);(assumption))
  |((refine bK hd0 ?_ ?_);(assumption))
  |refine BrI.intro (λh=>?_) (λh=>?_)
  |((refine au ?_ ?_ ?_ ?_ ?_);exact rfl;exact rfl;rotate_left;(first |exact ax hd0 |exact z0r hd0))
  |((refine ak.mk 0 ?_);have hz:p.tables.length=((p.tables.map Tb.values).map lnC).length:=(by rw[List.length_map,List.length_map]);refine⟨aB (p.tables) 46 (λ(_:Unit)=>[]) (λ(_:Unit)=>[]) [2,3,45] (λi0 r0 _=>True),?_⟩;refine ag () ?_ ?_ (λi0 (_:Unit) hd0 hI0=>?_) (λi0 x0 r0 (_:Unit) hd0 hl0 hI0=>?_))
  |refine ah hd0 () ?_ ?_
  |((refine ai ?_ ?_ ?_);rotate_left;(first |exact SH p |exact SI x0.values (g.hT _ (aX hd0))))
  |refine fD ?_
  |(refine cO ?_;conv=>whnf)
  |refine And.intro ?_ ?_
  |exact @rfl AV _
  |fail)
 all_goals exact absurd h (by decide)
theorem z3i(l:Ins)(v:Int)(h:l.length<=268435456)(hv:okE (checkP (xH l))=v):PCall Tryz.prog 12 [(xH l).d] (.ret (.i v)):=by
 subst hv;exact BB (xH l) (z0s h)
theorem sk1:PCall Tryz.prog 12 [(xH [(1,1),(22,0)]).d] (.ret (.i 0)):=z3i _ 0 (by decide) (by kernel_rfl)
theorem sk2:PCall Tryz.prog 12 [(xH [(1,1)]).d] (.ret (.i 200)):=z3i _ 200 (by decide) (by kernel_rfl)
theorem sk3:PCall Tryz.prog 12 [(xH [(22,0)]).d] (.ret (.i 200)):=z3i _ 200 (by decide) (by kernel_rfl)
theorem sk4:PCall Tryz.prog 12 [(xH []).d] (.ret (.i 200)):=z3i _ 200 (by decide) (by kernel_rfl)
theorem sk5:PCall Tryz.prog 12 [(xH [(1,1),(22,0),(1,1),(22,0)]).d] (.ret (.i 200)):=z3i _ 200 (by decide) (by kernel_rfl)
theorem sk6:PCall Tryz.prog 12 [(xH [(1,1),(20,0),(22,0)]).d] (.ret (.i 200)):=z3i _ 200 (by decide) (by kernel_rfl)
theorem sk7:PCall Tryz.prog 12 [(xH [(1,1),(8,0),(22,0)]).d] (.ret (.i 0)):=z3i _ 0 (by decide) (by kernel_rfl)
theorem sk8:PCall Tryz.prog 12 [(xH [(1,1),(1,1),(17,0),(22,0)]).d] (.ret (.i 0)):=z3i _ 0 (by decide) (by kernel_rfl)
theorem zgt(p:Pr)(c:Cd)(e:Int)(g:gy p)(h:zf p=(c,e)):PCall Tryz.prog 7 [p.d] (.ret (.tuple [c.d,.i e])):=by
 have:=yg p g;rw[h]at this;exact this
theorem sc0:PCall Tryz.prog 7 [Pr.none.d] (.ret (.tuple [Xb.d,.i 150])):=zgt _ _ _ (VG ⟨by decide,by decide,by decide,by decide,by decide,by kernel_rfl,by kernel_rfl⟩) (by kernel_rfl)
theorem sc1:PCall Tryz.prog 7 [exP.d] (.ret (.tuple [exC.d,.i 0])):=zgt _ _ _ (VG ⟨by decide,by decide,by decide,by decide,by decide,by kernel_rfl,by kernel_rfl⟩) (by kernel_rfl)
theorem XG:exC.Sm:=⟨by decide,by decide,by decide,by decide,by decide,λt ht=>by cases ht⟩
theorem sm1:(⟨[5],[]⟩:Sta).Sm:=⟨by decide,by decide,λt ht=>by cases ht⟩
theorem se1:PCall Tryz.prog 12 [exC.d] (.ret (.i 0)):=by
 have:=BB exC XG;rw[show okE (checkP exC)=0 by kernel_rfl]at this;exact this
theorem se2:PCall Tryz.prog 8 [exC.d] (.ret (.i 0)):=by
 have:=BD exC XG;rw[show okE (Js exC)=0 by kernel_rfl]at this;exact this
theorem sp1:PCall Tryz.prog 10 [exC.d,ints [],ints [7],ints [0],(⟨[5],[]⟩:Sta).d] (.ret (.tuple [.i 16,(⟨[5],[]⟩:Sta).d])):=
 x9 exC [] [7] [0] ⟨[5],[]⟩ ⟨[5],[]⟩ 16 XG sm1 (by decide) (by kernel_rfl)
theorem ss1:PCall Tryz.prog 11 [(⟨[5],[]⟩:Sta).d,(⟨[5],[]⟩:Sta).d] (.ret (.b true)):=by
 have:=yh ⟨[5],[]⟩ ⟨[5],[]⟩ sm1 sm1;rw[Mac.sameSt_iff.2 rfl]at this;exact this
theorem EG   : PCall Tryz.prog 4 [] (.ret (.b true)):=by
 refine ay Tryz.func4 ?_
 repeat' ((try conv=>whnf)<;>first
  |((refine Go.Fw.BrI.ff_of ?_ ?_);kernel_rfl)
  |((refine gi_step ?_ ?_);kernel_rfl)
  |((refine ai ?_ ?_ ?_);rotate_left;(first |exact jg [(1,1),(22,0)] |exact jg [(1,1)] |exact jg [(22,0)] |exact jg [] |exact jg [(1,1),(22,0),(1,1),(22,0)] |exact jg [(1,1),(20,0),(22,0)] |exact jg [(1,1),(8,0),(22,0)] |exact jg [(1,1),(1,1),(17,0),(22,0)] |exact sk1 |exact sk2 |exact sk3 |exact sk4 |exact sk5 |exact sk6 |exact sk7 |exact sk8 |exact sc0 |exact sc1 |exact se1 |exact se2 |exact sp1 |exact ss1))
  |refine aW.l _ ?_
  |((refine aY ?_ ?_ (λhg=>?_) ?_);exact rfl)
  |((refine bY ?_ ?_);exact rfl;exact rfl)
  |(refine cO ?_;conv=>whnf)
  |fail)
 all_goals rfl
end Go.Proofs.YtaipffoajgkljaaGreatDoor
