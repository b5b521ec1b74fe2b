/- Contracts: the laws of lower: sizes, what is compared. -/
import Derived.Test.YthpbakljheeabaaGreatDoorZQB
import Derived.Test.YthpbakljheeabaaGreatDoorZLS4
import Derived.Test.YthpbakljheeabaaGreatDoorZGC
import Derived.Test.YthpbakljheeabaaGreatDoorZRX
set_option linter.unusedSectionVars false
set_option linter.unusedSimpArgs false
set_option linter.unusedVariables false
set_option maxHeartbeats 8000000
namespace Go.Proofs.YthpbakljheeabaaGreatDoor
open Go.Fw Go.Fw.Ref15 Go.Fw.Rg Go.Fw.Tl Go.Fw.Lw
open Go.Fw.Mac hiding W
set_option maxRecDepth 10000
variable [af]
theorem BX(a b:List Int)(ha:a.length<=1073741824)(hb:b.length<=1073741824):PCall Tryz.prog 38 [ints a,ints b] (.ret (.b (Mac.sameI a b))):=by
 refine ae tok hmix ⟨[],[]⟩ Tryz.func38 rfl (by kernel_rfl) (by kernel_rfl) (by kernel_rfl) λhf=>?_
 clear hf
 repeat' ((try(conv=>whnf))<;>first
  |exact trivial
  |exact au hd0 ‹_›
  |((refine eu hd0 ?_ ?_);(assumption))
  |((refine dI hd0 ?_ ?_);(assumption))
  |refine BrI.intro (λh=>?_) (λh=>?_)
  |((refine aB.mk 0 ?_);have heq:a.length=b.length:=X7 (by simpa only [List.length_map]using h);have hz:(a.zip b).length=(a.map dZ).length:=(by rw[List.length_map];exact iQ heq);have hlen:(a.zip b).length<=9223372036854775807:=(by rw[hz,List.length_map];omega);refine⟨aI (a.zip b) 5 (λ(_:Unit)=>[]) (λ(_:Unit)=>[]) [0,1] (λi0 r0 _=>Mac.sameZ (a.zip b)=Mac.sameZ r0),?_⟩;refine ah () ?_ ?_ (λi0 (_:Unit) hd0 hI0=>?_) (λi0 x0 r0 (_:Unit) hd0 hl0 hI0=>?_))
  |(refine ai hd0 () ?_ ?_)
  |((refine aG ?_ ?_ ?_ ?_ ?_);exact rfl;exact rfl;rotate_left;(first |exact kS hd0 |exact kT hd0))
  |((refine ay ?_ ?_);kernel_rfl)
  |((refine ag ?_);refine⟨[],rfl,?_,trivial⟩;conv=>whnf)
  |(refine And.intro ?_ ?_)
  |exact @rfl AV _
  |fail)
 all_goals first
  |((exact Mac.sameZ_next hI0 h))
  |((exact congrArg D.b (Mac.sameI_len (by simpa only [List.length_map]using h)).symm))
  |((exact congrArg D.b (Mac.sameI_no heq hI0 h).symm))
  |((exact congrArg D.b (Mac.sameI_yes heq hI0).symm))
  |skip
theorem Hg(a b:Sta)(ha:a.Sm)(hb:b.Sm):PCall Tryz.prog 18 [a.d,b.d] (.ret (.b (Mac.sameSt a b))):=by
 refine ae tok hmix ⟨[],[]⟩ Tryz.func18 rfl (by kernel_rfl) (by kernel_rfl) (by kernel_rfl) λhf=>?_
 have h1:=ha.values;have h2:=hb.values;have h3:=ha.lines;have h4:=hb.lines;have h5:=ha.line;have h6:=hb.line
 clear hf
 repeat' ((try(conv=>whnf))<;>first
  |exact trivial
  |exact au hd0 ‹_›
  |((refine eu hd0 ?_ ?_);(assumption))
  |((refine dI hd0 ?_ ?_);(assumption))
  |refine BrI.intro (λh=>?_) (λh=>?_)
  |((refine aB.mk 0 ?_);have heq:=Mac.sameSt_len (by simpa only [List.length_map]using h);have hz:(a.lines.zip b.lines).length=(a.lines.map lnC).length:=(by rw[List.length_map];exact iQ heq.2);have hlen:(a.lines.zip b.lines).length<=9223372036854775807:=(by rw[hz,List.length_map];omega);refine⟨aI (a.lines.zip b.lines) 5 (λ(_:Unit)=>[]) (λ(_:Unit)=>[]) [2,3] (λi0 r0 _=>Mac.sameL (a.lines.zip b.lines)=Mac.sameL r0),?_⟩;refine ah () ?_ ?_ (λi0 (_:Unit) hd0 hI0=>?_) (λi0 x0 r0 (_:Unit) hd0 hl0 hI0=>?_))
  |(refine ai hd0 () ?_ ?_)
  |((refine ak ?_ ?_ ?_);rotate_left;(first |exact BX a.values b.values (by omega) (by omega) |exact BX x0.1 x0.2 (by have:=h5 _ (List.of_mem_zip (bJ hd0)).1;omega) (by have:=h6 _ (List.of_mem_zip (bJ hd0)).2;omega)))
  |((refine aG ?_ ?_ ?_ ?_ ?_);exact rfl;exact rfl;rotate_left;(first |exact kS hd0 |exact kT hd0))
  |((refine ay ?_ ?_);kernel_rfl)
  |((refine ag ?_);refine⟨[],rfl,?_,trivial⟩;conv=>whnf)
  |(refine And.intro ?_ ?_)
  |exact @rfl AV _
  |fail)
 all_goals first
  |((exact Mac.sameL_next hI0 h))
  |((exact congrArg D.b (Mac.sameSt_no (by simpa only [List.length_map]using h)).symm))
  |((exact congrArg D.b (Mac.sameSt_bad heq hI0 h).symm))
  |((exact congrArg D.b (Mac.sameSt_yes heq hI0).symm))
  |skip
theorem zK(c:Cd)(g:c.Sm):PCall Tryz.prog 9 [c.d] (.ret (.b (Aj c))):=by
 refine ae tok hmix ⟨[],[]⟩ Tryz.func9 rfl (by kernel_rfl) (by kernel_rfl) (by kernel_rfl) λhf=>?_
 have g1:=g.tables
 have hlen:c.tables.length<=9223372036854775807:=by omega
 clear hf
 repeat' ((try(conv=>whnf))<;>first
  |exact trivial
  |exact au hd0 ‹_›
  |refine NZ hd0 ?_
  |refine IM hd0 ?_
  |refine BrI.intro (λh=>?_) (λh=>?_)
  |((refine aB.mk 0 ?_);refine⟨aI (c.tables) 4 (λ(n:(Int))=>[(3,.data (.val (.int .i64 n)))]) (λ(n:(Int))=>[]) [1] (λi0 r0 n=>Xt c r0 n),?_⟩;refine ah (z1p c) ?_ ?_ (λi0 (n:(Int)) hd0 hI0=>?_) (λi0 x0 r0 (n:(Int)) hd0 hl0 hI0=>?_))
  |(refine ai hd0 ?_ ?_ ?_)
  |((refine aG ?_ ?_ ?_ ?_ ?_);exact rfl;exact rfl;rotate_left;(exact aC hd0))
  |((refine ag ?_);refine⟨[],rfl,?_,trivial⟩;conv=>whnf)
  |(refine And.intro ?_ ?_)
  |exact @rfl AV _
  |fail)
 all_goals first
  |((exact Uw g))
  |((exact hI0.next h (g.table _ (bJ hd0))))
  |((exact congrArg D.b hI0.end_))
  |((exact congrArg D.b (hI0.stop h)))
  |((simp only[List.length_map];rfl))
  |skip
theorem iF(l:Ins)  : PCall Tryz.prog 16 [.sl 2 (l.map insC)] (.ret (vN l).d):=by
 refine ae tok hmix ⟨[],[]⟩ Tryz.func16 rfl (by kernel_rfl) (by kernel_rfl) (by kernel_rfl) λhf=>?_
 clear hf
 repeat' ((try(conv=>whnf))<;>first
  |((refine ag ?_);refine⟨[],rfl,?_,trivial⟩;conv=>whnf)
  |fail)
 all_goals first
  |(rfl)
  |skip
theorem Yz(l:Ins)(v:Int)(h:l.length<=268435456)(hv:okE (checkP (vN l))=v):PCall Tryz.prog 10 [(vN l).d] (.ret (.i v)):=by
 subst hv;exact ig (vN l) (Xu h)
theorem sk1:PCall Tryz.prog 10 [(vN [(1,1),(22,0)]).d] (.ret (.i 0)):=Yz _ 0 (by decide) (by kernel_rfl)
theorem sk2:PCall Tryz.prog 10 [(vN [(1,1)]).d] (.ret (.i 200)):=Yz _ 200 (by decide) (by kernel_rfl)
theorem sk3:PCall Tryz.prog 10 [(vN [(22,0)]).d] (.ret (.i 200)):=Yz _ 200 (by decide) (by kernel_rfl)
theorem sk4:PCall Tryz.prog 10 [(vN []).d] (.ret (.i 200)):=Yz _ 200 (by decide) (by kernel_rfl)
theorem sk5:PCall Tryz.prog 10 [(vN [(1,1),(22,0),(1,1),(22,0)]).d] (.ret (.i 200)):=Yz _ 200 (by decide) (by kernel_rfl)
theorem sk6:PCall Tryz.prog 10 [(vN [(1,1),(20,0),(22,0)]).d] (.ret (.i 200)):=Yz _ 200 (by decide) (by kernel_rfl)
theorem sk7:PCall Tryz.prog 10 [(vN [(1,1),(8,0),(22,0)]).d] (.ret (.i 0)):=Yz _ 0 (by decide) (by kernel_rfl)
theorem sk8:PCall Tryz.prog 10 [(vN [(1,1),(1,1),(17,0),(22,0)]).d] (.ret (.i 0)):=Yz _ 0 (by decide) (by kernel_rfl)
theorem z8w(p:Pr)(c:Cd)(e:Int)(g:iW p)(h:xB p=(c,e)):PCall Tryz.prog 13 [p.d] (.ret (.tuple [c.d,.i e])):=by
 have:=Hf p g;rw[h]at this;exact this
theorem sc0:PCall Tryz.prog 13 [Pr.none.d] (.ret (.tuple [TP.d,.i 150])):=z8w _ _ _ (Sj ⟨by decide,by decide,by decide,by decide,by decide,by kernel_rfl,by kernel_rfl⟩) (by kernel_rfl)
theorem sc1:PCall Tryz.prog 13 [exP.d] (.ret (.tuple [exC.d,.i 0])):=z8w _ _ _ (Sj ⟨by decide,by decide,by decide,by decide,by decide,by kernel_rfl,by kernel_rfl⟩) (by kernel_rfl)
theorem UA:exC.Sm:=⟨by decide,by decide,by decide,by decide,by decide,λt ht=>by cases ht⟩
theorem sm1:(⟨[5],[]⟩:Sta).Sm:=⟨by decide,by decide,λt ht=>by cases ht⟩
theorem se1:PCall Tryz.prog 10 [exC.d] (.ret (.i 0)):=by
 have:=ig exC UA;rw[show okE (checkP exC)=0 by kernel_rfl]at this;exact this
theorem se2:PCall Tryz.prog 11 [exC.d] (.ret (.i 0)):=by
 have:=Jn exC UA;rw[show okE (SC exC)=0 by kernel_rfl]at this;exact this
theorem sp1:PCall Tryz.prog 17 [exC.d,ints [],ints [7],ints [0],(⟨[5],[]⟩:Sta).d] (.ret (.tuple [.i 16,(⟨[5],[]⟩:Sta).d])):=
 Gy exC [] [7] [0] ⟨[5],[]⟩ ⟨[5],[]⟩ 16 UA sm1 (by decide) (by kernel_rfl)
theorem ss1:PCall Tryz.prog 18 [(⟨[5],[]⟩:Sta).d,(⟨[5],[]⟩:Sta).d] (.ret (.b true)):=by
 have:=Hg ⟨[5],[]⟩ ⟨[5],[]⟩ sm1 sm1;rw[Mac.sameSt_iff.2 rfl]at this;exact this
theorem vO   : PCall Tryz.prog 8 [] (.ret (.b true)):=by
 refine ae tok hmix ⟨[],[]⟩ Tryz.func8 rfl (by kernel_rfl) (by kernel_rfl) (by kernel_rfl) λhf=>?_
 clear hf
 repeat' ((try(conv=>whnf))<;>first
  |((refine Go.Fw.BrI.ff_of ?_ ?_);kernel_rfl)
  |((refine gi_step ?_ ?_);kernel_rfl)
  |((refine ak ?_ ?_ ?_);rotate_left;(first |exact iF [(1,1),(22,0)] |exact iF [(1,1)] |exact iF [(22,0)] |exact iF [] |exact iF [(1,1),(22,0),(1,1),(22,0)] |exact iF [(1,1),(20,0),(22,0)] |exact iF [(1,1),(8,0),(22,0)] |exact iF [(1,1),(1,1),(17,0),(22,0)] |exact sk1 |exact sk2 |exact sk3 |exact sk4 |exact sk5 |exact sk6 |exact sk7 |exact sk8 |exact sc0 |exact sc1 |exact se1 |exact se2 |exact sp1 |exact ss1))
  |(refine aY.l _ ?_)
  |((refine bu ?_ ?_ (λhg=>?_) ?_);exact rfl)
  |((refine dB ?_ ?_);exact rfl;exact rfl)
  |((refine ag ?_);refine⟨[],rfl,?_,trivial⟩;conv=>whnf)
  |fail)
 all_goals first
  |(rfl)
  |skip
theorem z1s(b:Bool):(bif !b then true else((200:Int) != 0))=true:=by cases b<;>rfl
theorem z1t(c:Cd)(g:c.Sm)(hk:checkP c=false):PCall Tryz.prog 7 [c.d] (.ret (.b true)):=by
 refine ae tok hmix ⟨[],[]⟩ Tryz.func7 rfl (by kernel_rfl) (by kernel_rfl) (by kernel_rfl) λhf=>?_
 have hc:PCall Tryz.prog 10 [c.d] (.ret (.i 200)):=by have:=ig c g;rw[hk]at this;exact this
 clear hf
 repeat' ((try(conv=>whnf))<;>first
  |((refine Go.Fw.BrI.tt_of ?_ ?_);exact z1s _)
  |refine BrI.intro (λh=>?_) (λh=>?_)
  |((refine ak ?_ ?_ ?_);rotate_left;(first |exact vO |exact zK c g |exact hc))
  |((refine bu ?_ ?_ (λhg=>?_) ?_);exact rfl)
  |((refine dB ?_ ?_);exact rfl;exact rfl)
  |((refine ag ?_);refine⟨[],rfl,?_,trivial⟩;conv=>whnf)
  |fail)
 all_goals first
  |((exact absurd h (by decide)))
  |skip
theorem Xz(c:Cd)(g:c.Sm)(hk:checkP c=true)(hfw:Aj c=false):PCall Tryz.prog 7 [c.d] (.ret (.b true)):=by
 refine ae tok hmix ⟨[],[]⟩ Tryz.func7 rfl (by kernel_rfl) (by kernel_rfl) (by kernel_rfl) λhf=>?_
 have hff:PCall Tryz.prog 9 [c.d] (.ret (.b false)):=by have:=zK c g;rw[hfw]at this;exact this
 clear hf
 repeat' ((try(conv=>whnf))<;>first
  |((refine Go.Fw.BrI.tt_of ?_ ?_);exact rfl)
  |refine BrI.intro (λh=>?_) (λh=>?_)
  |((refine ak ?_ ?_ ?_);rotate_left;(first |exact vO |exact hff |exact ig c g))
  |((refine bu ?_ ?_ (λhg=>?_) ?_);exact rfl)
  |((refine dB ?_ ?_);exact rfl;exact rfl)
  |((refine ag ?_);refine⟨[],rfl,?_,trivial⟩;conv=>whnf)
  |fail)
 all_goals first
  |((exact absurd h (by decide)))
  |skip
section
variable (c : Cd) (l : Ins) (x : Int × Int) (g : c.Sm) (hc : c.instrs = l ++ [x]) (hfw : Aj c = true) (hk : checkP c = true)
include g hc hfw hk
theorem OW:PCall Tryz.prog 10 [.agg [.i c.latency,.i c.tail,.sl 3 (c.params.map Bd.cs),.sl 3 (c.states.map Bd.cs),.sl 4 (c.lines.map Ln.cs),.sl 1 (c.tables.map lnC),.i c.regs,.sl 2 (cut none (some (IntKind.i64.wrap ((((c.instrs.map insC).length:Nat):Int)-1))) (c.instrs.map insC))]] (.ret (.i 200)):=by
 have h1:=Ux g hfw
 rw[Xv g hc]
 have g':({ c with instrs:=l }:Cd).Sm:=⟨g.params,g.states,g.lines,g.tables,by have:=g.instrs;rw[hc]at this;simp only[List.length_append]at this;show l.length<=_;omega,g.table⟩
 have:=ig { c with instrs:=l } g'
 rw[WA hc hk (by omega) (by omega)]at this;exact this
theorem OX:PCall Tryz.prog 10 [.agg [.i c.latency,.i c.tail,.sl 3 (c.params.map Bd.cs),.sl 3 (c.states.map Bd.cs),.sl 4 (c.lines.map Ln.cs),.sl 1 (c.tables.map lnC),.i c.regs,.sl 2 ([]++c.instrs.map insC++[[.i x.1,.i x.2]])]] (.ret (.i 200)):=by
 have h1:=Ux g hfw
 rw[Xy]
 have g':({ c with instrs:=c.instrs++[x] }:Cd).Sm:=⟨g.params,g.states,g.lines,g.tables,by show(c.instrs++[x]).length<=_;rw[List.length_append];simp only[List.length_cons,List.length_nil];omega,g.table⟩
 have:=ig { c with instrs:=c.instrs++[x] } g'
 rw[WB hc hk (by omega) (by omega)]at this;exact this
end
theorem z1u(c:Cd)(l:Ins)(x:Int×Int)(g:c.Sm)(hc:c.instrs=l++[x])(hfw:Aj c=true)(hk:checkP c=true):PCall Tryz.prog 7 [c.d] (.ret (.b true)):=by
 refine ae tok hmix ⟨[],[]⟩ Tryz.func7 rfl (by kernel_rfl) (by kernel_rfl) (by kernel_rfl) λhf=>?_
 have hcc:PCall Tryz.prog 10 [c.d] (.ret (.i 0)):=by have:=ig c g;rw[hk]at this;exact this
 have hff:PCall Tryz.prog 9 [c.d] (.ret (.b true)):=by have:=zK c g;rw[hfw]at this;exact this
 have hin:=Ux g hfw
 clear hf
 repeat' ((try(conv=>whnf))<;>first
  |((refine Go.Fw.BrI.ff_of ?_ ?_);exact rfl)
  |refine BrI.intro (λh=>?_) (λh=>?_)
  |((refine aG ?_ ?_ ?_ ?_ ?_);exact rfl;exact rfl;rotate_left;exact Xw g hc)
  |((refine ak ?_ ?_ ?_);rotate_left;(first |exact vO |exact hff |exact hcc |exact OW c l x g hc hfw hk |exact OX c l x g hc hfw hk))
  |(refine aY.l _ ?_)
  |((refine aK ?_ ?_);exact rfl)
  |((refine app_step' ?_ ?_ ?_ ?_ ?_ ?_ ?_);exact rfl;exact rfl;exact rfl;exact rfl)
  |((refine bu ?_ ?_ (λhg=>?_) ?_);exact rfl)
  |((refine dB ?_ ?_);exact rfl;exact rfl)
  |((refine ay ?_ ?_);kernel_rfl)
  |((refine ag ?_);refine⟨[],rfl,?_,trivial⟩;conv=>whnf)
  |(refine And.intro ?_ ?_)
  |exact iP rfl
  |fail)
 all_goals first
  |(rfl)
  |((exact(Uz g hc).1))
  |((exact(Uz g hc).2))
  |((rw[List.length_map];omega))
  |((exact Xx hin))
  |((exact z1r hc h))
  |skip
theorem XA(c:Cd)(g:c.Sm):PCall Tryz.prog 7 [c.d] (.ret (.b true)):=by
 cases hk:checkP c with
 |false=>exact z1t c g hk
 |true=>
  cases hfw:Aj c with
  |false=>exact Xz c g hk hfw
  |true=>
   obtain⟨l,x,hc⟩:=z1q g hk
   exact z1u c l x g hc hfw hk
end Go.Proofs.YthpbakljheeabaaGreatDoor
