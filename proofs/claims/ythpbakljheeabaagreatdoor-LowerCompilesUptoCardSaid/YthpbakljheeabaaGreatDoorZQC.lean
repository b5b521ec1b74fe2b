/- Contracts: the laws of lower: sizes, what is compared. -/
import Derived.Test.YthpbakljheeabaaGreatDoorZQB
import Derived.Test.YthpbakljheeabaaGreatDoorZLS4
import Derived.Test.YthpbakljheeabaaGreatDoorZGC
import Derived.Test.YthpbakljheeabaaGreatDoorZRX
set_option linter.unusedSectionVars false
set_option linter.unusedSimpArgs false
set_option linter.unusedVariables false
set_option maxHeartbeats 8000000
namespace Go.Proofs.YthpbakljheeabaaGreatDoor
open Go.Fw Go.Fw.Ref15 Go.Fw.Rg Go.Fw.Tl Go.Fw.Lw
open Go.Fw.Mac hiding W
set_option maxRecDepth 10000
variable [ah]
theorem wQ(a b:List Int)(ha:a.length<=1073741824)(hb:b.length<=1073741824):PCall Tryz.prog 38 [ints a,ints b] (.ret (.b (Mac.sameI a b))):=by
 refine aJ Tryz.func38 ?_
 repeat' ((try(conv=>whnf))<;>first
  |exact trivial
  |exact aj hd0 ‹_›
  |((refine dF hd0 ?_ ?_);(assumption))
  |((refine bV hd0 ?_ ?_);(assumption))
  |refine BrI.intro (λh=>?_) (λh=>?_)
  |((refine au.mk 0 ?_);have heq:a.length=b.length:=YC (by simpa only [List.length_map]using h);have hz:(a.zip b).length=(a.map eU).length:=(by rw[List.length_map];exact dR heq);have hlen:(a.zip b).length<=9223372036854775807:=(by rw[hz,List.length_map];omega);refine⟨aF (a.zip b) 5 (λ(_:Unit)=>[]) (λ(_:Unit)=>[]) [0,1] (λi0 r0 _=>Mac.sameZ (a.zip b)=Mac.sameZ r0),?_⟩;refine af () ?_ ?_ (λi0 (_:Unit) hd0 hI0=>?_) (λi0 x0 r0 (_:Unit) hd0 hl0 hI0=>?_))
  |(refine ag hd0 () ?_ ?_)
  |((refine ay ?_ ?_ ?_ ?_ ?_);exact rfl;exact rfl;rotate_left;(first |exact ig hd0 |exact ik hd0))
  |((refine ak ?_ ?_);kernel_rfl)
  |(refine fA ?_;conv=>whnf)
  |(refine And.intro ?_ ?_)
  |exact @rfl AV _
  |fail)
 all_goals first
  |((exact Mac.sameZ_next hI0 h))
  |((exact congrArg D.b (Mac.sameI_len (by simpa only [List.length_map]using h)).symm))
  |((exact congrArg D.b (Mac.sameI_no heq hI0 h).symm))
  |((exact congrArg D.b (Mac.sameI_yes heq hI0).symm))
  |skip
theorem Iy(a b:Sta)(ha:a.Sm)(hb:b.Sm):PCall Tryz.prog 18 [a.d,b.d] (.ret (.b (Mac.sameSt a b))):=by
 refine dA Tryz.func18 λhf=>?_
 have h1:=ha.values;have h2:=hb.values;have h3:=ha.lines;have h4:=hb.lines;have h5:=ha.line;have h6:=hb.line
 clear hf
 repeat' ((try(conv=>whnf))<;>first
  |exact trivial
  |exact aj hd0 ‹_›
  |((refine dF hd0 ?_ ?_);(assumption))
  |((refine bV hd0 ?_ ?_);(assumption))
  |refine BrI.intro (λh=>?_) (λh=>?_)
  |((refine au.mk 0 ?_);have heq:=Mac.sameSt_len (by simpa only [List.length_map]using h);have hz:(a.lines.zip b.lines).length=(a.lines.map lnC).length:=(by rw[List.length_map];exact dR heq.2);have hlen:(a.lines.zip b.lines).length<=9223372036854775807:=(by rw[hz,List.length_map];omega);refine⟨aF (a.lines.zip b.lines) 5 (λ(_:Unit)=>[]) (λ(_:Unit)=>[]) [2,3] (λi0 r0 _=>Mac.sameL (a.lines.zip b.lines)=Mac.sameL r0),?_⟩;refine af () ?_ ?_ (λi0 (_:Unit) hd0 hI0=>?_) (λi0 x0 r0 (_:Unit) hd0 hl0 hI0=>?_))
  |(refine ag hd0 () ?_ ?_)
  |((refine ai ?_ ?_ ?_);rotate_left;(first |exact wQ a.values b.values (by omega) (by omega) |exact wQ x0.1 x0.2 (by have:=h5 _ (List.of_mem_zip (bn hd0)).1;omega) (by have:=h6 _ (List.of_mem_zip (bn hd0)).2;omega)))
  |((refine ay ?_ ?_ ?_ ?_ ?_);exact rfl;exact rfl;rotate_left;(first |exact ig hd0 |exact ik hd0))
  |((refine ak ?_ ?_);kernel_rfl)
  |(refine fA ?_;conv=>whnf)
  |(refine And.intro ?_ ?_)
  |exact @rfl AV _
  |fail)
 all_goals first
  |((exact Mac.sameL_next hI0 h))
  |((exact congrArg D.b (Mac.sameSt_no (by simpa only [List.length_map]using h)).symm))
  |((exact congrArg D.b (Mac.sameSt_bad heq hI0 h).symm))
  |((exact congrArg D.b (Mac.sameSt_yes heq hI0).symm))
  |skip
theorem iQ(l:Ins)  : PCall Tryz.prog 16 [.sl 2 (l.map iT)] (.ret (wP l).d):=by
 refine aJ Tryz.func16 ?_
 repeat' ((try(conv=>whnf))<;>first
  |(refine fA ?_;conv=>whnf)
  |fail)
 all_goals first
  |(rfl)
  |skip
theorem PM(p:Pr):PCall Tryz.prog 37 [(XX p).d,(XX p).d] (.ret (.b true)):=by
 have:=A7 (XX p) (XX p);rw[PK]at this;exact this
theorem PN(l:List Int)(h:l.length<=1073741824):PCall Tryz.prog 38 [ints l,ints l] (.ret (.b true)):=by
 have:=wQ l l h h;rw[Mac.sameI_iff.2 rfl]at this;exact this
theorem EO(p:Pr)(g:gq p):PCall Tryz.prog 15 [(ji p).d,p.d] (.ret (.b true)):=by
 refine dA Tryz.func15 λhf=>?_
 have g1:=g.sm.tables
 have hlen:p.tables.length<=9223372036854775807:=by omega
 clear hf
 repeat' ((try(conv=>whnf))<;>first
  |((refine Go.Fw.BrI.ff_of ?_ ?_);exact z2q p)
  |exact trivial
  |exact aj hd0 ‹_›
  |((refine dF hd0 ?_ ?_);(assumption))
  |((refine bV hd0 ?_ ?_);(assumption))
  |refine BrI.intro (λh=>?_) (λh=>?_)
  |((refine ay ?_ ?_ ?_ ?_ ?_);exact rfl;exact rfl;rotate_left;(first |exact ax hd0 |exact XZ hd0))
  |((refine au.mk 0 ?_);have hz:p.tables.length=((p.tables.map Tb.values).map lnC).length:=(by rw[List.length_map,List.length_map]);refine⟨aF (p.tables) 46 (λ(_:Unit)=>[]) (λ(_:Unit)=>[]) [2,3,45] (λi0 r0 _=>True),?_⟩;refine af () ?_ ?_ (λi0 (_:Unit) hd0 hI0=>?_) (λi0 x0 r0 (_:Unit) hd0 hl0 hI0=>?_))
  |(refine ag hd0 () ?_ ?_)
  |((refine ai ?_ ?_ ?_);rotate_left;(first |exact PM p |exact PN x0.values (g.hT _ (bn hd0))))
  |((refine ak ?_ ?_);kernel_rfl)
  |(refine fA ?_;conv=>whnf)
  |(refine And.intro ?_ ?_)
  |exact @rfl AV _
  |fail)
 all_goals first
  |((exact absurd h (by decide)))
  |skip
theorem Y0(l:Ins)(v:Int)(h:l.length<=268435456)(hv:okE (checkP (wP l))=v):PCall Tryz.prog 10 [(wP l).d] (.ret (.i v)):=by
 subst hv;exact rV (wP l) (X0 h)
theorem sk1:PCall Tryz.prog 10 [(wP [(1,1),(22,0)]).d] (.ret (.i 0)):=Y0 _ 0 (by decide) (by kernel_rfl)
theorem sk2:PCall Tryz.prog 10 [(wP [(1,1)]).d] (.ret (.i 200)):=Y0 _ 200 (by decide) (by kernel_rfl)
theorem sk3:PCall Tryz.prog 10 [(wP [(22,0)]).d] (.ret (.i 200)):=Y0 _ 200 (by decide) (by kernel_rfl)
theorem sk4:PCall Tryz.prog 10 [(wP []).d] (.ret (.i 200)):=Y0 _ 200 (by decide) (by kernel_rfl)
theorem sk5:PCall Tryz.prog 10 [(wP [(1,1),(22,0),(1,1),(22,0)]).d] (.ret (.i 200)):=Y0 _ 200 (by decide) (by kernel_rfl)
theorem sk6:PCall Tryz.prog 10 [(wP [(1,1),(20,0),(22,0)]).d] (.ret (.i 200)):=Y0 _ 200 (by decide) (by kernel_rfl)
theorem sk7:PCall Tryz.prog 10 [(wP [(1,1),(8,0),(22,0)]).d] (.ret (.i 0)):=Y0 _ 0 (by decide) (by kernel_rfl)
theorem sk8:PCall Tryz.prog 10 [(wP [(1,1),(1,1),(17,0),(22,0)]).d] (.ret (.i 0)):=Y0 _ 0 (by decide) (by kernel_rfl)
theorem z97(p:Pr)(c:Cd)(e:Int)(g:gq p)(h:yg p=(c,e)):PCall Tryz.prog 13 [p.d] (.ret (.tuple [c.d,.i e])):=by
 have:=Iw p g;rw[h]at this;exact this
theorem sc0:PCall Tryz.prog 13 [Pr.none.d] (.ret (.tuple [UD.d,.i 150])):=z97 _ _ _ (Tv ⟨by decide,by decide,by decide,by decide,by decide,by kernel_rfl,by kernel_rfl⟩) (by kernel_rfl)
theorem sc1:PCall Tryz.prog 13 [exP.d] (.ret (.tuple [exC.d,.i 0])):=z97 _ _ _ (Tv ⟨by decide,by decide,by decide,by decide,by decide,by kernel_rfl,by kernel_rfl⟩) (by kernel_rfl)
theorem U9:exC.Sm:=⟨by decide,by decide,by decide,by decide,by decide,λt ht=>by cases ht⟩
theorem sm1:(⟨[5],[]⟩:Sta).Sm:=⟨by decide,by decide,λt ht=>by cases ht⟩
theorem se1:PCall Tryz.prog 10 [exC.d] (.ret (.i 0)):=by
 have:=rV exC U9;rw[show okE (checkP exC)=0 by kernel_rfl]at this;exact this
theorem se2:PCall Tryz.prog 11 [exC.d] (.ret (.i 0)):=by
 have:=zX exC U9;rw[show okE (GZ exC)=0 by kernel_rfl]at this;exact this
theorem sp1:PCall Tryz.prog 17 [exC.d,ints [],ints [7],ints [0],(⟨[5],[]⟩:Sta).d] (.ret (.tuple [.i 16,(⟨[5],[]⟩:Sta).d])):=
 HY exC [] [7] [0] ⟨[5],[]⟩ ⟨[5],[]⟩ 16 U9 sm1 (by decide) (by kernel_rfl)
theorem ss1:PCall Tryz.prog 18 [(⟨[5],[]⟩:Sta).d,(⟨[5],[]⟩:Sta).d] (.ret (.b true)):=by
 have:=Iy ⟨[5],[]⟩ ⟨[5],[]⟩ sm1 sm1;rw[Mac.sameSt_iff.2 rfl]at this;exact this
theorem Dc   : PCall Tryz.prog 8 [] (.ret (.b true)):=by
 refine aJ Tryz.func8 ?_
 repeat' ((try(conv=>whnf))<;>first
  |((refine Go.Fw.BrI.ff_of ?_ ?_);kernel_rfl)
  |((refine gi_step ?_ ?_);kernel_rfl)
  |((refine ai ?_ ?_ ?_);rotate_left;(first |exact iQ [(1,1),(22,0)] |exact iQ [(1,1)] |exact iQ [(22,0)] |exact iQ [] |exact iQ [(1,1),(22,0),(1,1),(22,0)] |exact iQ [(1,1),(20,0),(22,0)] |exact iQ [(1,1),(8,0),(22,0)] |exact iQ [(1,1),(1,1),(17,0),(22,0)] |exact sk1 |exact sk2 |exact sk3 |exact sk4 |exact sk5 |exact sk6 |exact sk7 |exact sk8 |exact sc0 |exact sc1 |exact se1 |exact se2 |exact sp1 |exact ss1))
  |(refine aZ.l _ ?_)
  |((refine bD ?_ ?_ (λhg=>?_) ?_);exact rfl)
  |((refine dK ?_ ?_);exact rfl;exact rfl)
  |(refine fA ?_;conv=>whnf)
  |fail)
 all_goals first
  |(rfl)
  |skip
theorem Iz(c:Cd)(g:c.Sm):PCall Tryz.prog 11 [c.d] (.ret (.i (okE (checkP c)))):=by
 have:=zX c g;rw[Mac.check_eq]at this;exact this
theorem X3(p:Pr)(g:gq p)(hb:(kZ p != 0)=true):PCall Tryz.prog 4 [p.d] (.ret (.b true)):=by
 refine aJ Tryz.func4 ?_
 repeat' ((try(conv=>whnf))<;>first
  |refine BrI.intro (λh=>?_) (λh=>?_)
  |((refine ai ?_ ?_ ?_);rotate_left;(first |exact Dc |exact NL p g.sm g.hn g.hT |exact Ai p g hb |exact qm p g))
  |(refine fA ?_;conv=>whnf)
  |fail)
 all_goals first
  |(rfl)
  |((exact absurd h (by decide)))
  |((exact Bool.noConfusion (hb.symm.trans h)))
  |((refine absurd h ?_;simp;done))
  |skip
theorem z7i(p:Pr)(g:(ji p).Sm)(h:Res p):PCall Tryz.prog 10 [(ji p).d] (.ret (.i 0)):=by
 have:=rV (ji p) g;rw[CS h]at this;exact this
theorem z2r(p:Pr)(g:(ji p).Sm)(h:Res p):PCall Tryz.prog 11 [(ji p).d] (.ret (.i 0)):=by
 have:=Iz (ji p) g;rw[CS h]at this;exact this
theorem z2s(p:Pr)(g:gq p)(hb:kZ p=0)(gc:(ji p).Sm):PCall Tryz.prog 4 [p.d] (.ret (.b true)):=by
 refine dA Tryz.func4 λhf=>?_
 have hck:PCall Tryz.prog 14 [p.d] (.ret (.i 0)):=by have:=qm p g;rw[hb]at this;exact this
 have hres:=J9 hb
 clear hf
 repeat' ((try(conv=>whnf))<;>first
  |refine BrI.intro (λh=>?_) (λh=>?_)
  |((refine ai ?_ ?_ ?_);rotate_left;(first |exact Dc |exact NL p g.sm g.hn g.hT |exact C9 p g hb |exact hck |exact z7i p gc hres |exact z2r p gc hres |exact EO p g))
  |((refine bD ?_ ?_ (λhg=>?_) ?_);exact rfl)
  |((refine dK ?_ ?_);exact rfl;exact rfl)
  |(refine fA ?_;conv=>whnf)
  |fail)
 all_goals first
  |(rfl)
  |((exact absurd h (by decide)))
  |skip
theorem IA(p:Pr)(g:gq p)(ht:∀t∈p.tables,t.values.length<=268435456):PCall Tryz.prog 4 [p.d] (.ret (.b true)):=by
 cases h:(kZ p != 0)with
 |true=>exact X3 p g h
 |false=>
  have hb:kZ p=0:=by simpa using h
  have h1:=g.sm.params;have h2:=g.sm.states
  exact z2s p g hb (XY g (J9 hb) ⟨by omega,by omega⟩ ht)
end Go.Proofs.YthpbakljheeabaaGreatDoor
