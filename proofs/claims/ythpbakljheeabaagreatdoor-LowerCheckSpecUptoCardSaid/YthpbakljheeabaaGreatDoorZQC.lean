/- Contracts: the laws of lower: sizes, what is compared. -/
import Derived.Test.YthpbakljheeabaaGreatDoorZQB
import Derived.Test.YthpbakljheeabaaGreatDoorZLS4
import Derived.Test.YthpbakljheeabaaGreatDoorZGC
import Derived.Test.YthpbakljheeabaaGreatDoorZRX
set_option linter.unusedSectionVars false
set_option linter.unusedSimpArgs false
set_option linter.unusedVariables false
set_option maxHeartbeats 8000000
namespace Go.Proofs.YthpbakljheeabaaGreatDoor
open Go.Fw Go.Fw.Ref15 Go.Fw.Rg Go.Fw.Tl Go.Fw.Lw
open Go.Fw.Mac hiding W
set_option maxRecDepth 10000
variable [af]
theorem BZ(a b:List Int)(ha:a.length<=1073741824)(hb:b.length<=1073741824):PCall Tryz.prog 38 [ints a,ints b] (.ret (.b (Mac.sameI a b))):=by
 refine ae tok hmix ⟨[],[]⟩ Tryz.func38 rfl (by kernel_rfl) (by kernel_rfl) (by kernel_rfl) λhf=>?_
 clear hf
 repeat' ((try(conv=>whnf))<;>first
  |with_reducible exact trivial
  |with_reducible exact au hd0 ‹_›
  |((with_reducible refine eu hd0 ?_ ?_);(assumption))
  |((with_reducible refine dH hd0 ?_ ?_);(assumption))
  |with_reducible refine BrI.intro (λh=>?_) (λh=>?_)
  |((with_reducible refine aB.mk 0 ?_);have heq:a.length=b.length:=XP (by simpa only [List.length_map]using h);have hz:(a.zip b).length=(a.map dZ).length:=(by rw[List.length_map];exact iO heq);have hlen:(a.zip b).length<=9223372036854775807:=(by rw[hz,List.length_map];omega);refine⟨aJ (a.zip b) 5 (λ(_:Unit)=>[]) (λ(_:Unit)=>[]) [0,1] (λi0 r0 _=>Mac.sameZ (a.zip b)=Mac.sameZ r0),?_⟩;with_reducible refine ag () ?_ ?_ (λi0 (_:Unit) hd0 hI0=>?_) (λi0 x0 r0 (_:Unit) hd0 hl0 hI0=>?_))
  |(with_reducible refine ah hd0 () ?_ ?_)
  |((with_reducible refine aG ?_ ?_ ?_ ?_ ?_);exact rfl;exact rfl;rotate_left;(first |with_reducible exact kR hd0 |with_reducible exact kS hd0))
  |((with_reducible refine ay ?_ ?_);kernel_rfl)
  |((with_reducible refine ai ?_);refine⟨[],rfl,?_,trivial⟩;conv=>whnf)
  |(with_reducible refine And.intro ?_ ?_)
  |exact @rfl AV _
  |fail)
 all_goals first
  |((exact Mac.sameZ_next hI0 h))
  |((exact congrArg D.b (Mac.sameI_len (by simpa only [List.length_map]using h)).symm))
  |((exact congrArg D.b (Mac.sameI_no heq hI0 h).symm))
  |((exact congrArg D.b (Mac.sameI_yes heq hI0).symm))
  |skip
theorem Hu(a b:Sta)(ha:a.Sm)(hb:b.Sm):PCall Tryz.prog 18 [a.d,b.d] (.ret (.b (Mac.sameSt a b))):=by
 refine ae tok hmix ⟨[],[]⟩ Tryz.func18 rfl (by kernel_rfl) (by kernel_rfl) (by kernel_rfl) λhf=>?_
 have h1:=ha.values;have h2:=hb.values;have h3:=ha.lines;have h4:=hb.lines;have h5:=ha.line;have h6:=hb.line
 clear hf
 repeat' ((try(conv=>whnf))<;>first
  |with_reducible exact trivial
  |with_reducible exact au hd0 ‹_›
  |((with_reducible refine eu hd0 ?_ ?_);(assumption))
  |((with_reducible refine dH hd0 ?_ ?_);(assumption))
  |with_reducible refine BrI.intro (λh=>?_) (λh=>?_)
  |((with_reducible refine aB.mk 0 ?_);have heq:=Mac.sameSt_len (by simpa only [List.length_map]using h);have hz:(a.lines.zip b.lines).length=(a.lines.map lnC).length:=(by rw[List.length_map];exact iO heq.2);have hlen:(a.lines.zip b.lines).length<=9223372036854775807:=(by rw[hz,List.length_map];omega);refine⟨aJ (a.lines.zip b.lines) 5 (λ(_:Unit)=>[]) (λ(_:Unit)=>[]) [2,3] (λi0 r0 _=>Mac.sameL (a.lines.zip b.lines)=Mac.sameL r0),?_⟩;with_reducible refine ag () ?_ ?_ (λi0 (_:Unit) hd0 hI0=>?_) (λi0 x0 r0 (_:Unit) hd0 hl0 hI0=>?_))
  |(with_reducible refine ah hd0 () ?_ ?_)
  |((with_reducible refine ak ?_ ?_ ?_);rotate_left;(first |exact BZ a.values b.values (by omega) (by omega) |exact BZ x0.1 x0.2 (by have:=h5 _ (List.of_mem_zip (bH hd0)).1;omega) (by have:=h6 _ (List.of_mem_zip (bH hd0)).2;omega)))
  |((with_reducible refine aG ?_ ?_ ?_ ?_ ?_);exact rfl;exact rfl;rotate_left;(first |with_reducible exact kR hd0 |with_reducible exact kS hd0))
  |((with_reducible refine ay ?_ ?_);kernel_rfl)
  |((with_reducible refine ai ?_);refine⟨[],rfl,?_,trivial⟩;conv=>whnf)
  |(with_reducible refine And.intro ?_ ?_)
  |exact @rfl AV _
  |fail)
 all_goals first
  |((exact Mac.sameL_next hI0 h))
  |((exact congrArg D.b (Mac.sameSt_no (by simpa only [List.length_map]using h)).symm))
  |((exact congrArg D.b (Mac.sameSt_bad heq hI0 h).symm))
  |((exact congrArg D.b (Mac.sameSt_yes heq hI0).symm))
  |skip
theorem Us(c:Cd)(g:c.Sm):PCall Tryz.prog 9 [c.d] (.ret (.b (OY c))):=by
 refine ae tok hmix ⟨[],[]⟩ Tryz.func9 rfl (by kernel_rfl) (by kernel_rfl) (by kernel_rfl) λhf=>?_
 have g1:=g.tables
 have hlen:c.tables.length<=9223372036854775807:=by omega
 clear hf
 repeat' ((try(conv=>whnf))<;>first
  |with_reducible exact trivial
  |with_reducible exact au hd0 ‹_›
  |with_reducible refine Oa hd0 ?_
  |with_reducible refine IW hd0 ?_
  |with_reducible refine BrI.intro (λh=>?_) (λh=>?_)
  |((with_reducible refine aB.mk 0 ?_);refine⟨aJ (c.tables) 4 (λ(n:(Int))=>[(3,.data (.val (.int .i64 n)))]) (λ(n:(Int))=>[]) [1] (λi0 r0 n=>Xj c r0 n),?_⟩;with_reducible refine ag (z1r c) ?_ ?_ (λi0 (n:(Int)) hd0 hI0=>?_) (λi0 x0 r0 (n:(Int)) hd0 hl0 hI0=>?_))
  |(with_reducible refine ah hd0 ?_ ?_ ?_)
  |((with_reducible refine aG ?_ ?_ ?_ ?_ ?_);exact rfl;exact rfl;rotate_left;(with_reducible exact aC hd0))
  |((with_reducible refine ai ?_);refine⟨[],rfl,?_,trivial⟩;conv=>whnf)
  |(with_reducible refine And.intro ?_ ?_)
  |exact @rfl AV _
  |fail)
 all_goals first
  |((exact Ur g))
  |((exact hI0.next h (g.table _ (bH hd0))))
  |((exact congrArg D.b hI0.end_))
  |((exact congrArg D.b (hI0.stop h)))
  |((simp only[List.length_map];rfl))
  |skip
theorem iE(l:Ins)  : PCall Tryz.prog 16 [.sl 2 (l.map insC)] (.ret (vP l).d):=by
 refine ae tok hmix ⟨[],[]⟩ Tryz.func16 rfl (by kernel_rfl) (by kernel_rfl) (by kernel_rfl) λhf=>?_
 clear hf
 repeat' ((try(conv=>whnf))<;>first
  |((with_reducible refine ai ?_);refine⟨[],rfl,?_,trivial⟩;conv=>whnf)
  |fail)
 all_goals first
  |(rfl)
  |skip
theorem Yk(l:Ins)(v:Int)(h:l.length<=268435456)(hv:okE (ww (vP l))=v):PCall Tryz.prog 10 [(vP l).d] (.ret (.i v)):=by
 subst hv;exact qW (vP l) (Xk h)
theorem sk1:PCall Tryz.prog 10 [(vP [(1,1),(22,0)]).d] (.ret (.i 0)):=Yk _ 0 (by decide) (by kernel_rfl)
theorem sk2:PCall Tryz.prog 10 [(vP [(1,1)]).d] (.ret (.i 200)):=Yk _ 200 (by decide) (by kernel_rfl)
theorem sk3:PCall Tryz.prog 10 [(vP [(22,0)]).d] (.ret (.i 200)):=Yk _ 200 (by decide) (by kernel_rfl)
theorem sk4:PCall Tryz.prog 10 [(vP []).d] (.ret (.i 200)):=Yk _ 200 (by decide) (by kernel_rfl)
theorem sk5:PCall Tryz.prog 10 [(vP [(1,1),(22,0),(1,1),(22,0)]).d] (.ret (.i 200)):=Yk _ 200 (by decide) (by kernel_rfl)
theorem sk6:PCall Tryz.prog 10 [(vP [(1,1),(20,0),(22,0)]).d] (.ret (.i 200)):=Yk _ 200 (by decide) (by kernel_rfl)
theorem sk7:PCall Tryz.prog 10 [(vP [(1,1),(8,0),(22,0)]).d] (.ret (.i 0)):=Yk _ 0 (by decide) (by kernel_rfl)
theorem sk8:PCall Tryz.prog 10 [(vP [(1,1),(1,1),(17,0),(22,0)]).d] (.ret (.i 0)):=Yk _ 0 (by decide) (by kernel_rfl)
theorem z8l(p:Pr)(c:Cd)(e:Int)(g:iU p)(h:xC p=(c,e)):PCall Tryz.prog 13 [p.d] (.ret (.tuple [c.d,.i e])):=by
 have:=Ht p g;rw[h]at this;exact this
theorem sc0:PCall Tryz.prog 13 [Pr.none.d] (.ret (.tuple [TS.d,.i 150])):=z8l _ _ _ (RY ⟨by decide,by decide,by decide,by decide,by decide,by kernel_rfl,by kernel_rfl⟩) (by kernel_rfl)
theorem sc1:PCall Tryz.prog 13 [exP.d] (.ret (.tuple [exC.d,.i 0])):=z8l _ _ _ (RY ⟨by decide,by decide,by decide,by decide,by decide,by kernel_rfl,by kernel_rfl⟩) (by kernel_rfl)
theorem Ut:exC.Sm:=⟨by decide,by decide,by decide,by decide,by decide,λt ht=>by cases ht⟩
theorem sm1:(⟨[5],[]⟩:Sta).Sm:=⟨by decide,by decide,λt ht=>by cases ht⟩
theorem se1:PCall Tryz.prog 10 [exC.d] (.ret (.i 0)):=by
 have:=qW exC Ut;rw[show okE (ww exC)=0 by kernel_rfl]at this;exact this
theorem se2:PCall Tryz.prog 11 [exC.d] (.ret (.i 0)):=by
 have:=zy exC Ut;rw[show okE (Gl exC)=0 by kernel_rfl]at this;exact this
theorem sp1:PCall Tryz.prog 17 [exC.d,ints [],ints [7],ints [0],(⟨[5],[]⟩:Sta).d] (.ret (.tuple [.i 16,(⟨[5],[]⟩:Sta).d])):=
 GL exC [] [7] [0] ⟨[5],[]⟩ ⟨[5],[]⟩ 16 Ut sm1 (by decide) (by kernel_rfl)
theorem ss1:PCall Tryz.prog 18 [(⟨[5],[]⟩:Sta).d,(⟨[5],[]⟩:Sta).d] (.ret (.b true)):=by
 have:=Hu ⟨[5],[]⟩ ⟨[5],[]⟩ sm1 sm1;rw[Mac.sameSt_iff.2 rfl]at this;exact this
theorem OZ   : PCall Tryz.prog 8 [] (.ret (.b true)):=by
 refine ae tok hmix ⟨[],[]⟩ Tryz.func8 rfl (by kernel_rfl) (by kernel_rfl) (by kernel_rfl) λhf=>?_
 clear hf
 repeat' ((try(conv=>whnf))<;>first
  |((with_reducible refine Go.Fw.BrI.ff_of ?_ ?_);kernel_rfl)
  |((with_reducible refine gi_step ?_ ?_);kernel_rfl)
  |((with_reducible refine ak ?_ ?_ ?_);rotate_left;(first |exact iE [(1,1),(22,0)] |exact iE [(1,1)] |exact iE [(22,0)] |exact iE [] |exact iE [(1,1),(22,0),(1,1),(22,0)] |exact iE [(1,1),(20,0),(22,0)] |exact iE [(1,1),(8,0),(22,0)] |exact iE [(1,1),(1,1),(17,0),(22,0)] |exact sk1 |exact sk2 |exact sk3 |exact sk4 |exact sk5 |exact sk6 |exact sk7 |exact sk8 |exact sc0 |exact sc1 |exact se1 |exact se2 |exact sp1 |exact ss1))
  |(with_reducible refine aY.l _ ?_)
  |((with_reducible refine bJ ?_ ?_ (λhg=>?_) ?_);exact rfl)
  |((with_reducible refine dO ?_ ?_);with_reducible exact rfl;with_reducible exact rfl)
  |((with_reducible refine ai ?_);refine⟨[],rfl,?_,trivial⟩;conv=>whnf)
  |fail)
 all_goals first
  |(rfl)
  |skip
theorem Hw(c:Cd)(g:c.Sm):PCall Tryz.prog 11 [c.d] (.ret (.i (okE (ww c)))):=by
 have:=zy c g;rw[Mac.check_eq]at this;exact this
theorem z5v(c:Cd)(g:c.Sm):PCall Tryz.prog 3 [c.d] (.ret (.b true)):=by
 refine ae tok hmix ⟨[],[]⟩ Tryz.func3 rfl (by kernel_rfl) (by kernel_rfl) (by kernel_rfl) λhf=>?_
 clear hf
 repeat' ((try(conv=>whnf))<;>first
  |with_reducible refine BrI.intro (λh=>?_) (λh=>?_)
  |((with_reducible refine ak ?_ ?_ ?_);rotate_left;(first |exact OZ |exact Us c g |exact qW c g |exact Hw c g))
  |((with_reducible refine ay ?_ ?_);kernel_rfl)
  |((with_reducible refine ai ?_);refine⟨[],rfl,?_,trivial⟩;conv=>whnf)
  |fail)
 all_goals first
  |((exact absurd h (by decide)))
  |((exact congrArg D.b (beq_self_eq_true _)))
  |skip
section
variable (c : Cd) (l : Ins) (x : Int × Int) (g : c.Sm) (hc : c.instrs = l ++ [x]) (hfw : OY c = true) (hk : ww c = true)
include g hc hfw hk
end
end Go.Proofs.YthpbakljheeabaaGreatDoor
