/- Contracts: the laws of lower: sizes, what is compared. -/
import Derived.Test.YthpbakljheeabaaGreatDoorZQB
import Derived.Test.YthpbakljheeabaaGreatDoorZLS4
import Derived.Test.YthpbakljheeabaaGreatDoorZGC
import Derived.Test.YthpbakljheeabaaGreatDoorZRX
set_option linter.unusedSectionVars false
set_option linter.unusedSimpArgs false
set_option linter.unusedVariables false
set_option maxHeartbeats 8000000
namespace Go.Proofs.YthpbakljheeabaaGreatDoor
open Go.Fw Go.Fw.Ref15 Go.Fw.Rg Go.Fw.Tl Go.Fw.Lw
open Go.Fw.Mac hiding W
set_option maxRecDepth 10000
variable [af]
theorem Cm(a b:List Int)(ha:a.length<=1073741824)(hb:b.length<=1073741824):PCall Tryz.prog 38 [ints a,ints b] (.ret (.b (Mac.sameI a b))):=by
 refine ae tok hmix ⟨[],[]⟩ Tryz.func38 rfl (by kernel_rfl) (by kernel_rfl) (by kernel_rfl) λhf=>?_
 clear hf
 repeat' ((try(conv=>whnf))<;>first
  |exact trivial
  |exact au hd0 ‹_›
  |((refine dV hd0 ?_ ?_);(assumption))
  |((refine dE hd0 ?_ ?_);(assumption))
  |refine BrI.intro (λh=>?_) (λh=>?_)
  |((refine aB.mk 0 ?_);have heq:a.length=b.length:=Yh (by simpa only [List.length_map]using h);have hz:(a.zip b).length=(a.map eG).length:=(by rw[List.length_map];exact iV heq);have hlen:(a.zip b).length<=9223372036854775807:=(by rw[hz,List.length_map];omega);refine⟨aJ (a.zip b) 5 (λ(_:Unit)=>[]) (λ(_:Unit)=>[]) [0,1] (λi0 r0 _=>Mac.sameZ (a.zip b)=Mac.sameZ r0),?_⟩;refine ah () ?_ ?_ (λi0 (_:Unit) hd0 hI0=>?_) (λi0 x0 r0 (_:Unit) hd0 hl0 hI0=>?_))
  |(refine ai hd0 () ?_ ?_)
  |((refine aH ?_ ?_ ?_ ?_ ?_);exact rfl;exact rfl;rotate_left;(first |exact lh hd0 |exact lm hd0))
  |((refine az ?_ ?_);kernel_rfl)
  |((refine aj ?_);refine⟨[],rfl,?_,trivial⟩;conv=>whnf)
  |(refine And.intro ?_ ?_)
  |exact @rfl AV _
  |fail)
 all_goals first
  |((exact Mac.sameZ_next hI0 h))
  |((exact congrArg D.b (Mac.sameI_len (by simpa only [List.length_map]using h)).symm))
  |((exact congrArg D.b (Mac.sameI_no heq hI0 h).symm))
  |((exact congrArg D.b (Mac.sameI_yes heq hI0).symm))
  |skip
theorem Hz(a b:Sta)(ha:a.Sm)(hb:b.Sm):PCall Tryz.prog 18 [a.d,b.d] (.ret (.b (Mac.sameSt a b))):=by
 refine ae tok hmix ⟨[],[]⟩ Tryz.func18 rfl (by kernel_rfl) (by kernel_rfl) (by kernel_rfl) λhf=>?_
 have h1:=ha.values;have h2:=hb.values;have h3:=ha.lines;have h4:=hb.lines;have h5:=ha.line;have h6:=hb.line
 clear hf
 repeat' ((try(conv=>whnf))<;>first
  |exact trivial
  |exact au hd0 ‹_›
  |((refine dV hd0 ?_ ?_);(assumption))
  |((refine dE hd0 ?_ ?_);(assumption))
  |refine BrI.intro (λh=>?_) (λh=>?_)
  |((refine aB.mk 0 ?_);have heq:=Mac.sameSt_len (by simpa only [List.length_map]using h);have hz:(a.lines.zip b.lines).length=(a.lines.map lnC).length:=(by rw[List.length_map];exact iV heq.2);have hlen:(a.lines.zip b.lines).length<=9223372036854775807:=(by rw[hz,List.length_map];omega);refine⟨aJ (a.lines.zip b.lines) 5 (λ(_:Unit)=>[]) (λ(_:Unit)=>[]) [2,3] (λi0 r0 _=>Mac.sameL (a.lines.zip b.lines)=Mac.sameL r0),?_⟩;refine ah () ?_ ?_ (λi0 (_:Unit) hd0 hI0=>?_) (λi0 x0 r0 (_:Unit) hd0 hl0 hI0=>?_))
  |(refine ai hd0 () ?_ ?_)
  |((refine ax ?_ ?_ ?_);rotate_left;(first |exact Cm a.values b.values (by omega) (by omega) |exact Cm x0.1 x0.2 (by have:=h5 _ (List.of_mem_zip (bK hd0)).1;omega) (by have:=h6 _ (List.of_mem_zip (bK hd0)).2;omega)))
  |((refine aH ?_ ?_ ?_ ?_ ?_);exact rfl;exact rfl;rotate_left;(first |exact lh hd0 |exact lm hd0))
  |((refine az ?_ ?_);kernel_rfl)
  |((refine aj ?_);refine⟨[],rfl,?_,trivial⟩;conv=>whnf)
  |(refine And.intro ?_ ?_)
  |exact @rfl AV _
  |fail)
 all_goals first
  |((exact Mac.sameL_next hI0 h))
  |((exact congrArg D.b (Mac.sameSt_no (by simpa only [List.length_map]using h)).symm))
  |((exact congrArg D.b (Mac.sameSt_bad heq hI0 h).symm))
  |((exact congrArg D.b (Mac.sameSt_yes heq hI0).symm))
  |skip
theorem HY(c:Cd)(g:c.Sm):PCall Tryz.prog 9 [c.d] (.ret (.b (gQ c))):=by
 refine ae tok hmix ⟨[],[]⟩ Tryz.func9 rfl (by kernel_rfl) (by kernel_rfl) (by kernel_rfl) λhf=>?_
 have g1:=g.tables
 have hlen:c.tables.length<=9223372036854775807:=by omega
 clear hf
 repeat' ((try(conv=>whnf))<;>first
  |exact trivial
  |exact au hd0 ‹_›
  |refine Oq hd0 ?_
  |refine I5 hd0 ?_
  |refine BrI.intro (λh=>?_) (λh=>?_)
  |((refine aB.mk 0 ?_);refine⟨aJ (c.tables) 4 (λ(n:(Int))=>[(3,.data (.val (.int .i64 n)))]) (λ(n:(Int))=>[]) [1] (λi0 r0 n=>XF c r0 n),?_⟩;refine ah (z2a c) ?_ ?_ (λi0 (n:(Int)) hd0 hI0=>?_) (λi0 x0 r0 (n:(Int)) hd0 hl0 hI0=>?_))
  |(refine ai hd0 ?_ ?_ ?_)
  |((refine aH ?_ ?_ ?_ ?_ ?_);exact rfl;exact rfl;rotate_left;(exact aF hd0))
  |((refine aj ?_);refine⟨[],rfl,?_,trivial⟩;conv=>whnf)
  |(refine And.intro ?_ ?_)
  |exact @rfl AV _
  |fail)
 all_goals first
  |((exact UJ g))
  |((exact hI0.next h (g.table _ (bK hd0))))
  |((exact congrArg D.b hI0.end_))
  |((exact congrArg D.b (hI0.stop h)))
  |((simp only[List.length_map];rfl))
  |skip
theorem iJ(l:Ins)  : PCall Tryz.prog 16 [.sl 2 (l.map insC)] (.ret (wu l).d):=by
 refine ae tok hmix ⟨[],[]⟩ Tryz.func16 rfl (by kernel_rfl) (by kernel_rfl) (by kernel_rfl) λhf=>?_
 clear hf
 repeat' ((try(conv=>whnf))<;>first
  |((refine aj ?_);refine⟨[],rfl,?_,trivial⟩;conv=>whnf)
  |fail)
 all_goals first
  |(rfl)
  |skip
theorem YL(l:Ins)(v:Int)(h:l.length<=268435456)(hv:okE (checkP (wu l))=v):PCall Tryz.prog 10 [(wu l).d] (.ret (.i v)):=by
 subst hv;exact jm (wu l) (XG h)
theorem sk1:PCall Tryz.prog 10 [(wu [(1,1),(22,0)]).d] (.ret (.i 0)):=YL _ 0 (by decide) (by kernel_rfl)
theorem sk2:PCall Tryz.prog 10 [(wu [(1,1)]).d] (.ret (.i 200)):=YL _ 200 (by decide) (by kernel_rfl)
theorem sk3:PCall Tryz.prog 10 [(wu [(22,0)]).d] (.ret (.i 200)):=YL _ 200 (by decide) (by kernel_rfl)
theorem sk4:PCall Tryz.prog 10 [(wu []).d] (.ret (.i 200)):=YL _ 200 (by decide) (by kernel_rfl)
theorem sk5:PCall Tryz.prog 10 [(wu [(1,1),(22,0),(1,1),(22,0)]).d] (.ret (.i 200)):=YL _ 200 (by decide) (by kernel_rfl)
theorem sk6:PCall Tryz.prog 10 [(wu [(1,1),(20,0),(22,0)]).d] (.ret (.i 200)):=YL _ 200 (by decide) (by kernel_rfl)
theorem sk7:PCall Tryz.prog 10 [(wu [(1,1),(8,0),(22,0)]).d] (.ret (.i 0)):=YL _ 0 (by decide) (by kernel_rfl)
theorem sk8:PCall Tryz.prog 10 [(wu [(1,1),(1,1),(17,0),(22,0)]).d] (.ret (.i 0)):=YL _ 0 (by decide) (by kernel_rfl)
theorem zaa(p:Pr)(c:Cd)(e:Int)(g:jc p)(h:xP p=(c,e)):PCall Tryz.prog 13 [p.d] (.ret (.tuple [c.d,.i e])):=by
 have:=Hy p g;rw[h]at this;exact this
theorem sc0:PCall Tryz.prog 13 [Pr.none.d] (.ret (.tuple [Ue.d,.i 150])):=zaa _ _ _ (SL ⟨by decide,by decide,by decide,by decide,by decide,by kernel_rfl,by kernel_rfl⟩) (by kernel_rfl)
theorem sc1:PCall Tryz.prog 13 [exP.d] (.ret (.tuple [exC.d,.i 0])):=zaa _ _ _ (SL ⟨by decide,by decide,by decide,by decide,by decide,by kernel_rfl,by kernel_rfl⟩) (by kernel_rfl)
theorem UK:exC.Sm:=⟨by decide,by decide,by decide,by decide,by decide,λt ht=>by cases ht⟩
theorem sm1:(⟨[5],[]⟩:Sta).Sm:=⟨by decide,by decide,λt ht=>by cases ht⟩
theorem se1:PCall Tryz.prog 10 [exC.d] (.ret (.i 0)):=by
 have:=jm exC UK;rw[show okE (checkP exC)=0 by kernel_rfl]at this;exact this
theorem se2:PCall Tryz.prog 11 [exC.d] (.ret (.i 0)):=by
 have:=Jz exC UK;rw[show okE (S9 exC)=0 by kernel_rfl]at this;exact this
theorem sp1:PCall Tryz.prog 17 [exC.d,ints [],ints [7],ints [0],(⟨[5],[]⟩:Sta).d] (.ret (.tuple [.i 16,(⟨[5],[]⟩:Sta).d])):=
 GR exC [] [7] [0] ⟨[5],[]⟩ ⟨[5],[]⟩ 16 UK sm1 (by decide) (by kernel_rfl)
theorem ss1:PCall Tryz.prog 18 [(⟨[5],[]⟩:Sta).d,(⟨[5],[]⟩:Sta).d] (.ret (.b true)):=by
 have:=Hz ⟨[5],[]⟩ ⟨[5],[]⟩ sm1 sm1;rw[Mac.sameSt_iff.2 rfl]at this;exact this
theorem Pj   : PCall Tryz.prog 8 [] (.ret (.b true)):=by
 refine ae tok hmix ⟨[],[]⟩ Tryz.func8 rfl (by kernel_rfl) (by kernel_rfl) (by kernel_rfl) λhf=>?_
 clear hf
 repeat' ((try(conv=>whnf))<;>first
  |((refine Go.Fw.BrI.ff_of ?_ ?_);kernel_rfl)
  |((refine gi_step ?_ ?_);kernel_rfl)
  |((refine ax ?_ ?_ ?_);rotate_left;(first |exact iJ [(1,1),(22,0)] |exact iJ [(1,1)] |exact iJ [(22,0)] |exact iJ [] |exact iJ [(1,1),(22,0),(1,1),(22,0)] |exact iJ [(1,1),(20,0),(22,0)] |exact iJ [(1,1),(8,0),(22,0)] |exact iJ [(1,1),(1,1),(17,0),(22,0)] |exact sk1 |exact sk2 |exact sk3 |exact sk4 |exact sk5 |exact sk6 |exact sk7 |exact sk8 |exact sc0 |exact sc1 |exact se1 |exact se2 |exact sp1 |exact ss1))
  |(refine aZ.l _ ?_)
  |((refine bG ?_ ?_ (λhg=>?_) ?_);exact rfl)
  |((refine dJ ?_ ?_);exact rfl;exact rfl)
  |((refine aj ?_);refine⟨[],rfl,?_,trivial⟩;conv=>whnf)
  |fail)
 all_goals first
  |(rfl)
  |skip
section
variable (c : Cd) (l : Ins) (x : Int × Int) (g : c.Sm) (hc : c.instrs = l ++ [x]) (hfw : gQ c = true) (hk : checkP c = true)
include g hc hfw hk
end
end Go.Proofs.YthpbakljheeabaaGreatDoor
