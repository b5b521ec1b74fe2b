/- Contracts: a code that is performed, by the specification: the instructions. -/
import Derived.Test.YthpbakljheeabaaGreatDoorZMX
import Derived.Test.YthpbakljheeabaaGreatDoorZGA
set_option linter.unusedSectionVars false
set_option linter.unusedSimpArgs false
set_option linter.unusedVariables false
set_option maxHeartbeats 8000000
namespace Go.Proofs.YthpbakljheeabaaGreatDoor
open Go.Fw Go.Fw.Lw
open Go.Fw.Mac hiding W
set_option maxRecDepth 10000
variable [af]
theorem Cc(n lo hi:Int)  : PCall Tryz.prog 41 [.i n,.i lo,.i hi] (.ret (.i (rF n lo hi))):=by
 refine ae tok hmix ⟨[],[]⟩ Tryz.func41 rfl (by kernel_rfl) (by kernel_rfl) (by kernel_rfl) λhf=>?_
 clear hf
 repeat' ((try(conv=>whnf))<;>first
  |refine BrI.intro (λh=>?_) (λh=>?_)
  |((refine aj ?_);refine⟨[],rfl,?_,trivial⟩;conv=>whnf)
  |fail)
 all_goals first
  |((simp only[rF, *,cond_true,cond_false];done))
  |skip
theorem OV(a b:Int)  : PCall Tryz.prog 63 [.i a,.i b] (.ret (.i (OU a b))):=by
 refine ae tok hmix ⟨[],[]⟩ Tryz.func63 rfl (by kernel_rfl) (by kernel_rfl) (by kernel_rfl) λhf=>?_
 clear hf
 repeat' ((try(conv=>whnf))<;>first
  |refine BrI.intro (λh=>?_) (λh=>?_)
  |((refine aj ?_);refine⟨[],rfl,?_,trivial⟩;conv=>whnf)
  |fail)
 all_goals first
  |((simp only[OU,W, *,cond_true,cond_false];done))
  |skip
theorem JK(a b:Int)(hb:-4611686018427387904<=b/\b<=4611686018427387904):PCall Tryz.prog 64 [.i a,.i b] (.ret (.i (GM a b))):=by
 refine ae tok hmix ⟨[],[]⟩ Tryz.func64 rfl (by kernel_rfl) (by kernel_rfl) (by kernel_rfl) λhf=>?_
 clear hf
 repeat' ((try(conv=>whnf))<;>first
  |refine BrI.intro (λh=>?_) (λh=>?_)
  |((refine aj ?_);refine⟨[],rfl,?_,trivial⟩;conv=>whnf)
  |(refine And.intro ?_ ?_)
  |fail)
 all_goals first
  |((exact z6t hb h))
  |((exact z6s ‹_›))
  |((refine congrArg D.i ?_;unfold GM;rw[h];rfl))
  |((refine congrArg D.i ?_;unfold GM z1l WY W;rw[‹(bif a==0 then true else b==0)=false›,cond_false,h];(first |rw[‹decide (a<0)=true›] |rw[‹decide (a<0)=false›]);(first |rw[‹decide (b<0)=true›] |rw[‹decide (b<0)=false›]);simp only[cond_true,cond_false];simp only[*,cond_true,cond_false];done))
  |skip
theorem OW(n d:Int)(hd:d≠0):PCall Tryz.prog 62 [.i n,.i d] (.ret (.i (WZ n d))):=by
 refine ae tok hmix ⟨[],[]⟩ Tryz.func62 rfl (by kernel_rfl) (by kernel_rfl) (by kernel_rfl) λhf=>?_
 clear hf
 repeat' ((try(conv=>whnf))<;>first
  |refine BrI.intro (λh=>?_) (λh=>?_)
  |((refine aj ?_);refine⟨[],rfl,?_,trivial⟩;conv=>whnf)
  |(refine And.intro ?_ ?_)
  |fail)
 all_goals first
  |((exact hd))
  |((simp only[WZ,W, *,cond_true,cond_false];done))
  |skip
theorem JL(n:Int)  : PCall Tryz.prog 61 [.i n] (.ret (.i (WY n))):=by
 refine ae tok hmix ⟨[],[]⟩ Tryz.func61 rfl (by kernel_rfl) (by kernel_rfl) (by kernel_rfl) λhf=>?_
 clear hf
 repeat' ((try(conv=>whnf))<;>first
  |refine BrI.intro (λh=>?_) (λh=>?_)
  |((refine aj ?_);refine⟨[],rfl,?_,trivial⟩;conv=>whnf)
  |fail)
 all_goals first
  |((simp only[WY,W, *,cond_true,cond_false];done))
  |skip
theorem JM(v:Int)  : PCall Tryz.prog 60 [.i v] (.ret (.i (Us v))):=by
 refine ae tok hmix ⟨[],[]⟩ Tryz.func60 rfl (by kernel_rfl) (by kernel_rfl) (by kernel_rfl) λhf=>?_
 clear hf
 repeat' ((try(conv=>whnf))<;>first
  |((refine aj ?_);refine⟨[],rfl,?_,trivial⟩;conv=>whnf)
  |fail)
 all_goals first
  |(rfl)
  |skip
theorem Xh(op a b r:Int)(hO:W9 op a b=some r):PCall Tryz.prog 40 [.i op,.i a,.i b] (.ret (.i r)):=by
 refine ae tok hmix ⟨[],[]⟩ Tryz.func40 rfl (by kernel_rfl) (by kernel_rfl) (by kernel_rfl) λhf=>?_
 clear hf
 repeat' ((try(conv=>whnf))<;>first
  |refine BrI.intro (λh=>?_) (λh=>?_)
  |((refine ax ?_ ?_ ?_);rotate_left;(first |exact OV _ _ |exact JK a b (YG hO ‹(op==13)=false› ‹(op==14)=false› ‹(op==17)=false› h).1))
  |((refine aj ?_);refine⟨[],rfl,?_,trivial⟩;conv=>whnf)
  |fail)
 all_goals first
  |((exact congrArg D.i (z6o hO h)))
  |((exact congrArg D.i (z6p hO ‹_› h)))
  |((exact congrArg D.i (z6q hO ‹_› ‹_› h)))
  |((exact congrArg D.i (z6r hO ‹_› ‹_› ‹_› h)))
  |((exact congrArg D.i (YG hO ‹_› ‹_› ‹_› h).2))
  |skip
theorem Xi(c:Cd)(inp sid:List Int)(s:Sta)(op a v r:Int)(hO:Pq c inp sid s op a v=some r):PCall Tryz.prog 39 [c.d,ints inp,ints sid,s.d,.agg (insC (op,a)),.i v] (.ret (.i r)):=by
 refine ae tok hmix ⟨[],[]⟩ Tryz.func39 rfl (by kernel_rfl) (by kernel_rfl) (by kernel_rfl) λhf=>?_
 clear hf
 repeat' ((try(conv=>whnf))<;>first
  |(have hz:=z6j hO ‹(op==8)=false› ‹(op==9)=false› h;obtain⟨l1,b1,e1,e2,e3⟩:=hz;clear h)
  |(have hz:=z6k hO ‹(op==8)=false› ‹(op==9)=false› ‹(op==10)=false› h;obtain⟨t1,e4,e5⟩:=hz;clear h)
  |refine BrI.intro (λh=>?_) (λh=>?_)
  |((refine aH ?_ ?_ ?_ ?_ ?_);exact rfl;exact rfl;rotate_left;(first |exact lX (f:=eG) (z9j hO h) |exact lX (f:=eG) (z9k hO ‹(op==8)=false› h) |exact lX (f:=lnC) e1 |exact lX (f:=Ln.cs) e2 |exact lX (f:=eG) e3 |exact lX (f:=lnC) e4 |exact lX (f:=eG) (show getI t1 (rF v 0 (IntKind.i64.wrap (((t1.map eG).length:Int)-1)))=some r by rw[List.length_map];exact e5)))
  |((refine ax ?_ ?_ ?_);rotate_left;(first |exact Cc _ _ _ |exact JM _ |exact JL _ |exact OW v a (YF hO ‹(op==8)=false› ‹(op==9)=false› ‹(op==10)=false› ‹(op==11)=false› ‹(op==12)=false› ‹(op==15)=false› h).1))
  |((refine az ?_ ?_);kernel_rfl)
  |((refine aj ?_);refine⟨[],rfl,?_,trivial⟩;conv=>whnf)
  |fail)
 all_goals first
  |((exact congrArg D.i (z6l hO ‹_› ‹_› ‹_› ‹_› h)))
  |((exact congrArg D.i (z6m hO ‹_› ‹_› ‹_› ‹_› ‹_› h)))
  |((exact congrArg D.i (z6n hO ‹_› ‹_› ‹_› ‹_› ‹_› ‹_› h)))
  |((exact congrArg D.i (YF hO ‹_› ‹_› ‹_› ‹_› ‹_› ‹_› h).2))
  |skip
theorem GR(c:Cd)(par inp sid:List Int)(s t:Sta)(v:Int)(g:c.Sm)(gs:s.Sm)(hr:0<=c.regs/\c.regs<=65536)(hO:Eg c par inp sid s=some (v,t)):PCall Tryz.prog 17 [c.d,ints par,ints inp,ints sid,s.d] (.ret (.tuple [.i v,t.d])):=by
 refine ae tok hmix ⟨[16,27,45],[]⟩ Tryz.func17 rfl (by kernel_rfl) (by kernel_rfl) (by kernel_rfl) λhf=>?_
 obtain⟨F,hrun,hlin,hv,ht⟩:=Xg hO
 subst hv
 have g1:=g.lines;have g2:=g.instrs;have g3:=gs.values
 have hlen:c.instrs.length<=9223372036854775807:=by omega
 have hlen2:c.lines.length<=9223372036854775807:=by omega
 clear hf
 repeat' ((try(conv=>whnf))<;>first
  |(refine aZ.r 29 ?_)
  |(refine aZ.r 32 ?_)
  |(refine aZ.r 33 ?_)
  |(refine aZ.r 40 ?_)
  |(refine aZ.r 44 ?_)
  |(have hq:=hI0.fin.symm;subst hq)
  |((refine aB.mk 16 ?_);refine⟨⟨Unit,λ_=>[(24,.data (ints (q.stack.drop (restN x0 q)))),(12,.own 29 ver 1 0 (restN x0 q)),(25,.data (.i 0))],λ_=>[],[1,2,3,5,9,11,13,14,15,16,17,18,19,20,21],λ_=>True,λ_=>0⟩,?_,λ_ _=>?_⟩)
  |((refine aB.mk 27 ?_);refine⟨⟨Unit,λ_=>[(25,.data (.i (zQ c inp sid s x0 q)))],λ_=>[],[1,2,3,5,9,11,12,13,14,15,16,17,18,19,21],λ_=>True,λ_=>0⟩,?_,λ_ _=>?_⟩)
  |((refine aB.mk 45 ?_);refine⟨⟨Unit,λ_=>[(25,.data (.i (xR c par inp sid s x0 q).1)),(17,.data (.i (xR c par inp sid s x0 q).2.out))],λ_=>[(32,.arr 0 1 (List.map eG (xR c par inp sid s x0 q).2.regs)),(33,.arr 1 1 (List.map eG (xR c par inp sid s x0 q).2.values)),(40,.arr 0 1 (List.map boolC (xR c par inp sid s x0 q).2.pushed)),(44,.arr 0 1 (List.map eG (xR c par inp sid s x0 q).2.last))],[1,2,3,5,9,11,12,13,14,15,16,18,21],λ_=>True,λ_=>0⟩,?_,λ_ _=>?_⟩)
  |(refine⟨(),trivial,?_⟩)
  |exact trivial
  |exact au hd4 ‹_›
  |exact au hd0 ‹_›
  |refine bu hd4 ?_
  |refine bu hd0 ?_
  |refine aN hd4 ?_
  |refine aN hd0 ?_
  |refine BrI.intro (λh=>?_) (λh=>?_)
  |((refine I7 ?_ ?_ ?_ ?_ ?_);(first |exact hr.1 |exact Int.natCast_nonneg _);(exact Int.le_refl _);exact rfl;(first |omega |(rw[List.length_map];omega)))
  |((refine aH ?_ ?_ ?_ ?_ ?_);exact rfl;exact rfl;rotate_left;(first |exact(hI0.a1 h) |exact(hI0.a2 ‹(tk x0==1)=false› h).1 |exact(hI0.a2 ‹(tk x0==1)=false› h).2.1 |exact(hI0.a4 ‹(tk x0==1)=false› ‹(tk x0==2)=false› ‹(tk x0==4)=true›).1.1 |exact(hI0.a4 ‹(tk x0==1)=false› ‹(tk x0==2)=false› ‹(tk x0==4)=true›).1.2.1 |exact(hI0.a4 ‹(tk x0==1)=false› ‹(tk x0==2)=false› ‹(tk x0==4)=true›).1.2.2.1 |exact(hI0.a4 ‹(tk x0==1)=false› ‹(tk x0==2)=false› ‹(tk x0==4)=true›).1.2.2.2 |exact(hI0.pe2 ‹(x0.1==1)=false› h).2.1 |exact hI4.1.old |exact aF hd0))
  |((refine jC ?_ ?_ ?_ ?_ ?_);exact rfl;exact rfl;exact rfl;(first |exact⟨(hI0.pe3 ‹(x0.1==1)=false› ‹(x0.1==2)=false› h).2.1.1,by have:=(hI0.pe3 ‹(x0.1==1)=false› ‹(x0.1==2)=false› h).2.2;have:=hI0.lv;simp only[List.length_map,Nat.zero_add];omega⟩ |exact⟨(hI0.pe4 ‹(x0.1==1)=false› ‹(x0.1==2)=false› ‹(x0.1==3)=false› h).2.1.1,by have:=(hI0.pe4 ‹(x0.1==1)=false› ‹(x0.1==2)=false› ‹(x0.1==3)=false› h).2.2;have:=hI0.lr;omega⟩ |exact⟨(hI0.pe5 ‹(x0.1==1)=false› ‹(x0.1==2)=false› ‹(x0.1==3)=false› ‹(x0.1==4)=false› h).2.1,by have:=(hI0.pe5 ‹(x0.1==1)=false› ‹(x0.1==2)=false› ‹(x0.1==3)=false› ‹(x0.1==4)=false› h).2.2;have:=hI0.lr;omega⟩ |exact⟨(hI0.pe6 ‹(x0.1==1)=false› ‹(x0.1==2)=false› ‹(x0.1==3)=false› ‹(x0.1==4)=false› ‹(x0.1==5)=false› h).2.1,by have:=(hI0.pe6 ‹(x0.1==1)=false› ‹(x0.1==2)=false› ‹(x0.1==3)=false› ‹(x0.1==4)=false› ‹(x0.1==5)=false› h).2.2;have:=hI0.lv;simp only[List.length_map,Nat.zero_add];omega⟩ |exact⟨(hI0.pe7 ‹(x0.1==1)=false› ‹(x0.1==2)=false› ‹(x0.1==3)=false› ‹(x0.1==4)=false› ‹(x0.1==5)=false› ‹(x0.1==6)=false› h).2.1,by have:=(hI0.pe7 ‹(x0.1==1)=false› ‹(x0.1==2)=false› ‹(x0.1==3)=false› ‹(x0.1==4)=false› ‹(x0.1==5)=false› ‹(x0.1==6)=false› h).2.2.1;have:=hI0.lp;simp only[List.length_map,Int.toNat_natCast];omega⟩ |exact⟨Int.natCast_nonneg _,by have:=hl4;simp only[List.length_map,Int.toNat_natCast];omega⟩))
  |((refine iY ?_ ?_ ?_ ?_ ?_ ?_ ?_);exact rfl;exact rfl;rotate_left 2;(first |exact Cb (f:=eG) (d:=0) (hI0.pe3 ‹(x0.1==1)=false› ‹(x0.1==2)=false› h).2.1.1 (hI0.pe3 ‹(x0.1==1)=false› ‹(x0.1==2)=false› h).2.2 |exact Cb (f:=eG) (d:=0) (hI0.pe4 ‹(x0.1==1)=false› ‹(x0.1==2)=false› ‹(x0.1==3)=false› h).2.1.1 (hI0.pe4 ‹(x0.1==1)=false› ‹(x0.1==2)=false› ‹(x0.1==3)=false› h).2.2 |exact hI4.1.push.1 |exact(hI4.1.yes h).1.1);exact rfl)
  |((refine gW ?_ ?_ ?_ ?_ ?_ ?_ ?_ ?_ ?_);exact rfl;exact rfl;exact rfl;exact rfl;exact iU rfl;exact rfl;rotate_left;(first |exact Cb (f:=eG) (d:=0) (hI0.pe5 ‹(x0.1==1)=false› ‹(x0.1==2)=false› ‹(x0.1==3)=false› ‹(x0.1==4)=false› h).2.1 (hI0.pe5 ‹(x0.1==1)=false› ‹(x0.1==2)=false› ‹(x0.1==3)=false› ‹(x0.1==4)=false› h).2.2 |exact Cb (f:=eG) (d:=0) (hI0.pe6 ‹(x0.1==1)=false› ‹(x0.1==2)=false› ‹(x0.1==3)=false› ‹(x0.1==4)=false› ‹(x0.1==5)=false› h).2.1 (hI0.pe6 ‹(x0.1==1)=false› ‹(x0.1==2)=false› ‹(x0.1==3)=false› ‹(x0.1==4)=false› ‹(x0.1==5)=false› h).2.2 |exact Cb (f:=boolC) (d:=false) (hI0.pe7 ‹(x0.1==1)=false› ‹(x0.1==2)=false› ‹(x0.1==3)=false› ‹(x0.1==4)=false› ‹(x0.1==5)=false› ‹(x0.1==6)=false› h).2.1 (hI0.pe7 ‹(x0.1==1)=false› ‹(x0.1==2)=false› ‹(x0.1==3)=false› ‹(x0.1==4)=false› ‹(x0.1==5)=false› ‹(x0.1==6)=false› h).2.2.1 |exact Cb (f:=eG) (d:=0) (hI0.pe7 ‹(x0.1==1)=false› ‹(x0.1==2)=false› ‹(x0.1==3)=false› ‹(x0.1==4)=false› ‹(x0.1==5)=false› ‹(x0.1==6)=false› h).2.1 (hI0.pe7 ‹(x0.1==1)=false› ‹(x0.1==2)=false› ‹(x0.1==3)=false› ‹(x0.1==4)=false› ‹(x0.1==5)=false› ‹(x0.1==6)=false› h).2.2.2))
  |((refine oO ?_ ?_ ?_ ?_ ?_ ?_ ?_ ?_);exact rfl;exact rfl;exact rfl;(first |(rw[List.length_map];have:=hI0.le;have:=hI0.rest.2.1;omega) |exact Nat.zero_le _);exact rfl;(first |exact Nat.zero_le _ |(have:=hI0.rest.2.1;have:=hI0.step.2.1;omega));(first |exact(by decide:1<=1073741824) |(rw[List.length_map];omega)))
  |(exact hI0.own_cut)
  |(exact hI0.args.symm)
  |(exact congrArg (λn=>AV.data (D.i n)) (hI0.a1v ‹(tk x0==1)=true› h))
  |(exact congrArg (λn=>AV.data (D.i n)) (hI0.a4t ‹(tk x0==1)=false› ‹(tk x0==2)=false› ‹(tk x0==4)=true› h))
  |(exact congrArg (λn=>AV.data (D.i n)) (hI0.a4f ‹(tk x0==1)=false› ‹(tk x0==2)=false› ‹(tk x0==4)=true› h))
  |(exact congrArg (λn=>AV.data (D.i n)) (hI0.a0 ‹(tk x0==1)=false› ‹(tk x0==2)=false› h))
  |(rw[hI0.pe1  h];first |done |exact rfl |exact nM |exact lH)
  |(rw[(hI0.pe2 ‹(x0.1==1)=false› h).1];first |done |exact rfl |exact nM |exact lH)
  |(rw[(hI0.pe3 ‹(x0.1==1)=false› ‹(x0.1==2)=false› h).1];first |done |exact rfl |exact nM |exact lH)
  |(rw[(hI0.pe4 ‹(x0.1==1)=false› ‹(x0.1==2)=false› ‹(x0.1==3)=false› h).1];first |done |exact rfl |exact nM |exact lH)
  |(rw[(hI0.pe5 ‹(x0.1==1)=false› ‹(x0.1==2)=false› ‹(x0.1==3)=false› ‹(x0.1==4)=false› h).1];first |done |exact rfl |exact nM |exact lH)
  |(rw[(hI0.pe6 ‹(x0.1==1)=false› ‹(x0.1==2)=false› ‹(x0.1==3)=false› ‹(x0.1==4)=false› ‹(x0.1==5)=false› h).1];first |done |exact rfl |exact nM |exact lH)
  |(rw[(hI0.pe7 ‹(x0.1==1)=false› ‹(x0.1==2)=false› ‹(x0.1==3)=false› ‹(x0.1==4)=false› ‹(x0.1==5)=false› ‹(x0.1==6)=false› h).1];first |done |exact rfl |exact nM |exact lH)
  |(rw[hI0.pe22 ‹(x0.1==1)=false› ‹(x0.1==2)=false› ‹(x0.1==3)=false› ‹(x0.1==4)=false› ‹(x0.1==5)=false› ‹(x0.1==6)=false› ‹(x0.1==7)=false› h];first |done |exact rfl |exact nM |exact lH)
  |(rw[hI0.pe0 ‹(x0.1==1)=false› ‹(x0.1==2)=false› ‹(x0.1==3)=false› ‹(x0.1==4)=false› ‹(x0.1==5)=false› ‹(x0.1==6)=false› ‹(x0.1==7)=false› ‹(x0.1==22)=false›];first |done |exact rfl)
  |(exact z9l h)
  |(exact z9m h)
  |(exact z9n h)
  |(exact z9o h)
  |(exact z1o _ _)
  |(exact Xc _ _ _)
  |(exact Uu _ _ _)
  |((refine aB.mk 0 ?_);refine⟨aJ (c.instrs) 18 (λ(q:(Nat)×(List Int)×(Nat)×(PQ))=>match q with |(ver,row,m,q)=>[(12,.own 29 ver 1 0 m),(17,.data (.i q.out))]) (λ(q:(Nat)×(List Int)×(Nat)×(PQ))=>match q with |(ver,row,m,q)=>[(29,.arr ver 1 (List.map eG row)),(32,.arr 0 1 (List.map eG q.regs)),(33,.arr 1 1 (List.map eG q.values)),(40,.arr 0 1 (List.map boolC q.pushed)),(44,.arr 0 1 (List.map eG q.last))]) [1,2,3,5,9,11,13,14,15,16] (λi0 r0 q=>match q with |(ver,row,m,q)=>PI c par inp sid s F r0 row m q),?_⟩;refine ah ((0),([]),(0),(BZ c s)) ?_ ?_ (λi0 ⟨ver,row,m,q⟩ hd0 hI0=>?_) (λi0 x0 r0 ⟨ver,row,m,q⟩ hd0 hl0 hI0=>?_))
  |(refine ai hd0 ((Xb x0 ver),(YH x0 row (restN x0 q) (xR c par inp sid s x0 q).1),(mN x0 (restN x0 q)),(Ut c par inp sid s x0 q)) ?_ ?_)
  |((refine aB.mk 4 ?_);refine⟨aJ (c.lines) 27 (λ(ls:(List (List Int)))=>[]) (λ(ls:(List (List Int)))=>[(26,.cells [.data (ints F.values),.gs 900004 1 (List.map lnC ls)]),(900004,.tok 1 (List.map lnC ls).length)]) [5,9,11,15,16,17,26] (λi4 r4 ls=>LI s F t.lines r4 i4 ls/\ls.length=i4),?_⟩;refine ah ([]) ?_ ?_ (λi4 (ls:(List (List Int))) hd4 hI4=>?_) (λi4 x4 r4 (ls:(List (List Int))) hd4 hl4 hI4=>?_))
  |(refine ai hd4 (ls++[Xe s F i4]) ?_ ?_)
  |((refine ax ?_ ?_ ?_);rotate_left;(first |exact zJ _ |exact Cc _ _ _ |exact Xi c inp sid s x0.1 x0.2 _ _ (hI0.a1o ‹(tk x0==1)=true› h) |exact Xh x0.1 _ _ _ (hI0.a2 ‹(tk x0==1)=false› h).2.2))
  |(refine aZ.l _ ?_)
  |((refine dY ?_ ?_ ?_ ?_ ?_ ?_)<;>exact rfl)
  |((refine eX ?_ ?_ ?_ ?_)<;>exact rfl)
  |((refine aP ?_ ?_);exact rfl)
  |((refine app_step' ?_ ?_ ?_ ?_ ?_ ?_ ?_);exact rfl;exact rfl;exact rfl;exact rfl)
  |((refine az ?_ ?_);kernel_rfl)
  |((refine aj ?_);refine⟨[],rfl,?_,trivial⟩;conv=>whnf)
  |(refine And.intro ?_ ?_)
  |((refine rq ?_ ?_ ?_);exact rfl;exact rfl;(first |skip))
  |((refine jf ?_ ?_);exact rfl;(first |skip))
  |exact @rfl AV _
  |exact @rfl Block _
  |exact iU rfl
  |fail)
 all_goals first
  |(rfl)
  |((exact Xd hrun))
  |((exact hI0.next))
  |((exact Xf hlin))
  |((exact hI0.rest.2.2.2.1))
  |((exact hI0.rest.2.2.2.2))
  |((exact hI0.len1))
  |((exact hI0.len2))
  |((simp only[List.length_map,Nat.zero_add];have:=hI0.lv;omega))
  |((rw[List.drop_zero,List.take_of_length_le (by simp only[List.length_map,Nat.zero_add];have:=hI0.lv;omega)]))
  |((rw[hI4.1.fin,<-ht];first |done |rfl))
  |((rw[List.length_map];have:=JJ gs hI4.1;omega))
  |((exact hI4.1.w1 gs h))
  |((exact hI4.1.w2 gs h))
  |((exact hI4.1.w3 gs h))
  |((exact hI4.1.ln1 gs h))
  |((exact hI4.1.ln0 h))
  |((exact hI4.1.step.2.2))
  |((rw[List.length_append,hI4.2];rfl))
  |skip
end Go.Proofs.YthpbakljheeabaaGreatDoor
