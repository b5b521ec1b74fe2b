/- Contracts: a code that is performed, by the specification: the instructions. -/
import Derived.Test.YthpbakljheeabaaGreatDoorZMX
import Derived.Test.YthpbakljheeabaaGreatDoorZGA
set_option linter.unusedSectionVars false
set_option linter.unusedSimpArgs false
set_option linter.unusedVariables false
set_option maxHeartbeats 8000000
namespace Go.Proofs.YthpbakljheeabaaGreatDoor
open Go.Fw Go.Fw.Lw
open Go.Fw.Mac hiding W
set_option maxRecDepth 10000
variable [ah]
theorem CW(n lo hi:Int)  : PCall Tryz.prog 41 [.i n,.i lo,.i hi] (.ret (.i (rY n lo hi))):=by
 refine aJ Tryz.func41 ?_
 repeat' ((try(conv=>whnf))<;>first
  |refine BrI.intro (λh=>?_) (λh=>?_)
  |(refine fA ?_;conv=>whnf)
  |fail)
 all_goals first
  |((simp only[rY, *,cond_true,cond_false];done))
  |skip
theorem Pg(a b:Int)  : PCall Tryz.prog 63 [.i a,.i b] (.ret (.i (O9 a b))):=by
 refine aJ Tryz.func63 ?_
 repeat' ((try(conv=>whnf))<;>first
  |refine BrI.intro (λh=>?_) (λh=>?_)
  |(refine fA ?_;conv=>whnf)
  |fail)
 all_goals first
  |((simp only[O9,W, *,cond_true,cond_false];done))
  |skip
theorem Kt(a b:Int)(hb:-4611686018427387904<=b/\b<=4611686018427387904):PCall Tryz.prog 64 [.i a,.i b] (.ret (.i (Hy a b))):=by
 refine aJ Tryz.func64 ?_
 repeat' ((try(conv=>whnf))<;>first
  |refine BrI.intro (λh=>?_) (λh=>?_)
  |(refine fA ?_;conv=>whnf)
  |(refine And.intro ?_ ?_)
  |fail)
 all_goals first
  |((exact z7a hb h))
  |((exact z6z ‹_›))
  |((refine congrArg D.i ?_;unfold Hy;rw[h];rfl))
  |((refine congrArg D.i ?_;unfold Hy z14 Xp W;rw[‹(bif a==0 then true else b==0)=false›,cond_false,h];(first |rw[‹decide (a<0)=true›] |rw[‹decide (a<0)=false›]);(first |rw[‹decide (b<0)=true›] |rw[‹decide (b<0)=false›]);simp only[cond_true,cond_false];simp only[*,cond_true,cond_false];done))
  |skip
theorem Ph(n d:Int)(hd:d≠0):PCall Tryz.prog 62 [.i n,.i d] (.ret (.i (Xq n d))):=by
 refine aJ Tryz.func62 ?_
 repeat' ((try(conv=>whnf))<;>first
  |refine BrI.intro (λh=>?_) (λh=>?_)
  |(refine fA ?_;conv=>whnf)
  |(refine And.intro ?_ ?_)
  |fail)
 all_goals first
  |((exact hd))
  |((simp only[Xq,W, *,cond_true,cond_false];done))
  |skip
theorem Ku(n:Int)  : PCall Tryz.prog 61 [.i n] (.ret (.i (Xp n))):=by
 refine aJ Tryz.func61 ?_
 repeat' ((try(conv=>whnf))<;>first
  |refine BrI.intro (λh=>?_) (λh=>?_)
  |(refine fA ?_;conv=>whnf)
  |fail)
 all_goals first
  |((simp only[Xp,W, *,cond_true,cond_false];done))
  |skip
theorem Kv(v:Int)  : PCall Tryz.prog 60 [.i v] (.ret (.i (UV v))):=by
 refine aJ Tryz.func60 ?_
 repeat' ((try(conv=>whnf))<;>first
  |(refine fA ?_;conv=>whnf)
  |fail)
 all_goals first
  |(rfl)
  |skip
theorem XA(op a b r:Int)(hO:Xr op a b=some r):PCall Tryz.prog 40 [.i op,.i a,.i b] (.ret (.i r)):=by
 refine aJ Tryz.func40 ?_
 repeat' ((try(conv=>whnf))<;>first
  |refine BrI.intro (λh=>?_) (λh=>?_)
  |((refine ai ?_ ?_ ?_);rotate_left;(first |exact Pg _ _ |exact Kt a b (YW hO ‹(op==13)=false› ‹(op==14)=false› ‹(op==17)=false› h).1))
  |(refine fA ?_;conv=>whnf)
  |fail)
 all_goals first
  |((exact congrArg D.i (z6v hO h)))
  |((exact congrArg D.i (z6w hO ‹_› h)))
  |((exact congrArg D.i (z6x hO ‹_› ‹_› h)))
  |((exact congrArg D.i (z6y hO ‹_› ‹_› ‹_› h)))
  |((exact congrArg D.i (YW hO ‹_› ‹_› ‹_› h).2))
  |skip
theorem XB(c:Cd)(inp sid:List Int)(s:Sta)(op a v r:Int)(hO:PT c inp sid s op a v=some r):PCall Tryz.prog 39 [c.d,ints inp,ints sid,s.d,.agg (iT (op,a)),.i v] (.ret (.i r)):=by
 refine aJ Tryz.func39 ?_
 repeat' ((try(conv=>whnf))<;>first
  |(have hz:=z6q hO ‹(op==8)=false› ‹(op==9)=false› h;obtain⟨l1,b1,e1,e2,e3⟩:=hz;clear h)
  |(have hz:=z6r hO ‹(op==8)=false› ‹(op==9)=false› ‹(op==10)=false› h;obtain⟨t1,e4,e5⟩:=hz;clear h)
  |refine BrI.intro (λh=>?_) (λh=>?_)
  |((refine ay ?_ ?_ ?_ ?_ ?_);exact rfl;exact rfl;rotate_left;(first |exact mi (f:=eU) (z9g hO h) |exact mi (f:=eU) (z9h hO ‹(op==8)=false› h) |exact mi (f:=lnC) e1 |exact mi (f:=Ln.cs) e2 |exact mi (f:=eU) e3 |exact mi (f:=lnC) e4 |exact mi (f:=eU) (show getI t1 (rY v 0 (IntKind.i64.wrap (((t1.map eU).length:Int)-1)))=some r by rw[List.length_map];exact e5)))
  |((refine ai ?_ ?_ ?_);rotate_left;(first |exact CW _ _ _ |exact Kv _ |exact Ku _ |exact Ph v a (YV hO ‹(op==8)=false› ‹(op==9)=false› ‹(op==10)=false› ‹(op==11)=false› ‹(op==12)=false› ‹(op==15)=false› h).1))
  |((refine ak ?_ ?_);kernel_rfl)
  |(refine fA ?_;conv=>whnf)
  |fail)
 all_goals first
  |((exact congrArg D.i (z6s hO ‹_› ‹_› ‹_› ‹_› h)))
  |((exact congrArg D.i (z6t hO ‹_› ‹_› ‹_› ‹_› ‹_› h)))
  |((exact congrArg D.i (z6u hO ‹_› ‹_› ‹_› ‹_› ‹_› ‹_› h)))
  |((exact congrArg D.i (YV hO ‹_› ‹_› ‹_› ‹_› ‹_› ‹_› h).2))
  |skip
theorem HY(c:Cd)(par inp sid:List Int)(s t:Sta)(v:Int)(g:c.Sm)(gs:s.Sm)(hr:0<=c.regs/\c.regs<=65536)(hO:EH c par inp sid s=some (v,t)):PCall Tryz.prog 17 [c.d,ints par,ints inp,ints sid,s.d] (.ret (.tuple [.i v,t.d])):=by
 refine iH tok hmix ⟨[16,27,45],[]⟩ Tryz.func17 rfl (by kernel_rfl) (by kernel_rfl) (by kernel_rfl) λhf=>?_
 obtain⟨F,hrun,hlin,hv,ht⟩:=Xz hO
 subst hv
 have g1:=g.lines;have g2:=g.instrs;have g3:=gs.values
 have hlen:c.instrs.length<=9223372036854775807:=by omega
 have hlen2:c.lines.length<=9223372036854775807:=by omega
 clear hf
 repeat' ((try(conv=>whnf))<;>first
  |(refine aZ.r 29 ?_)
  |(refine aZ.r 32 ?_)
  |(refine aZ.r 33 ?_)
  |(refine aZ.r 40 ?_)
  |(refine aZ.r 44 ?_)
  |(have hq:=hI0.fin.symm;subst hq)
  |((refine au.mk 16 ?_);refine⟨⟨Unit,λ_=>[(24,.data (ints (q.stack.drop (restN x0 q)))),(12,.own 29 ver 1 0 (restN x0 q)),(25,.data (.i 0))],λ_=>[],[1,2,3,5,9,11,13,14,15,16,17,18,19,20,21],λ_=>True,λ_=>0⟩,?_,λ_ _=>?_⟩)
  |((refine au.mk 27 ?_);refine⟨⟨Unit,λ_=>[(25,.data (.i (Ad c inp sid s x0 q)))],λ_=>[],[1,2,3,5,9,11,12,13,14,15,16,17,18,19,21],λ_=>True,λ_=>0⟩,?_,λ_ _=>?_⟩)
  |((refine au.mk 45 ?_);refine⟨⟨Unit,λ_=>[(25,.data (.i (yj c par inp sid s x0 q).1)),(17,.data (.i (yj c par inp sid s x0 q).2.out))],λ_=>[(32,.arr 0 1 (List.map eU (yj c par inp sid s x0 q).2.regs)),(33,.arr 1 1 (List.map eU (yj c par inp sid s x0 q).2.values)),(40,.arr 0 1 (List.map boolC (yj c par inp sid s x0 q).2.pushed)),(44,.arr 0 1 (List.map eU (yj c par inp sid s x0 q).2.last))],[1,2,3,5,9,11,12,13,14,15,16,18,21],λ_=>True,λ_=>0⟩,?_,λ_ _=>?_⟩)
  |(refine⟨(),trivial,?_⟩)
  |exact trivial
  |exact aj hd4 ‹_›
  |exact aj hd0 ‹_›
  |refine bu hd4 ?_
  |refine bu hd0 ?_
  |refine aN hd4 ?_
  |refine aN hd0 ?_
  |refine BrI.intro (λh=>?_) (λh=>?_)
  |((refine Js ?_ ?_ ?_ ?_ ?_);(first |exact hr.1 |exact Int.natCast_nonneg _);(exact Int.le_refl _);exact rfl;(first |omega |(rw[List.length_map];omega)))
  |((refine ay ?_ ?_ ?_ ?_ ?_);exact rfl;exact rfl;rotate_left;(first |exact(hI0.a1 h) |exact(hI0.a2 ‹(tk x0==1)=false› h).1 |exact(hI0.a2 ‹(tk x0==1)=false› h).2.1 |exact(hI0.a4 ‹(tk x0==1)=false› ‹(tk x0==2)=false› ‹(tk x0==4)=true›).1.1 |exact(hI0.a4 ‹(tk x0==1)=false› ‹(tk x0==2)=false› ‹(tk x0==4)=true›).1.2.1 |exact(hI0.a4 ‹(tk x0==1)=false› ‹(tk x0==2)=false› ‹(tk x0==4)=true›).1.2.2.1 |exact(hI0.a4 ‹(tk x0==1)=false› ‹(tk x0==2)=false› ‹(tk x0==4)=true›).1.2.2.2 |exact(hI0.pe2 ‹(x0.1==1)=false› h).2.1 |exact hI4.1.old |exact ax hd0))
  |((refine lG ?_ ?_ ?_ ?_ ?_);exact rfl;exact rfl;exact rfl;(first |exact⟨(hI0.pe3 ‹(x0.1==1)=false› ‹(x0.1==2)=false› h).2.1.1,by have:=(hI0.pe3 ‹(x0.1==1)=false› ‹(x0.1==2)=false› h).2.2;have:=hI0.lv;simp only[List.length_map,Nat.zero_add];omega⟩ |exact⟨(hI0.pe4 ‹(x0.1==1)=false› ‹(x0.1==2)=false› ‹(x0.1==3)=false› h).2.1.1,by have:=(hI0.pe4 ‹(x0.1==1)=false› ‹(x0.1==2)=false› ‹(x0.1==3)=false› h).2.2;have:=hI0.lr;omega⟩ |exact⟨(hI0.pe5 ‹(x0.1==1)=false› ‹(x0.1==2)=false› ‹(x0.1==3)=false› ‹(x0.1==4)=false› h).2.1,by have:=(hI0.pe5 ‹(x0.1==1)=false› ‹(x0.1==2)=false› ‹(x0.1==3)=false› ‹(x0.1==4)=false› h).2.2;have:=hI0.lr;omega⟩ |exact⟨(hI0.pe6 ‹(x0.1==1)=false› ‹(x0.1==2)=false› ‹(x0.1==3)=false› ‹(x0.1==4)=false› ‹(x0.1==5)=false› h).2.1,by have:=(hI0.pe6 ‹(x0.1==1)=false› ‹(x0.1==2)=false› ‹(x0.1==3)=false› ‹(x0.1==4)=false› ‹(x0.1==5)=false› h).2.2;have:=hI0.lv;simp only[List.length_map,Nat.zero_add];omega⟩ |exact⟨(hI0.pe7 ‹(x0.1==1)=false› ‹(x0.1==2)=false› ‹(x0.1==3)=false› ‹(x0.1==4)=false› ‹(x0.1==5)=false› ‹(x0.1==6)=false› h).2.1,by have:=(hI0.pe7 ‹(x0.1==1)=false› ‹(x0.1==2)=false› ‹(x0.1==3)=false› ‹(x0.1==4)=false› ‹(x0.1==5)=false› ‹(x0.1==6)=false› h).2.2.1;have:=hI0.lp;simp only[List.length_map,Int.toNat_natCast];omega⟩ |exact⟨Int.natCast_nonneg _,by have:=hl4;simp only[List.length_map,Int.toNat_natCast];omega⟩))
  |((refine kC ?_ ?_ ?_ ?_ ?_ ?_ ?_);exact rfl;exact rfl;rotate_left 2;(first |exact CV (f:=eU) (d:=0) (hI0.pe3 ‹(x0.1==1)=false› ‹(x0.1==2)=false› h).2.1.1 (hI0.pe3 ‹(x0.1==1)=false› ‹(x0.1==2)=false› h).2.2 |exact CV (f:=eU) (d:=0) (hI0.pe4 ‹(x0.1==1)=false› ‹(x0.1==2)=false› ‹(x0.1==3)=false› h).2.1.1 (hI0.pe4 ‹(x0.1==1)=false› ‹(x0.1==2)=false› ‹(x0.1==3)=false› h).2.2 |exact hI4.1.push.1 |exact(hI4.1.yes h).1.1);exact rfl)
  |((refine jC ?_ ?_ ?_ ?_ ?_ ?_ ?_ ?_ ?_);exact rfl;exact rfl;exact rfl;exact rfl;exact jm rfl;exact rfl;rotate_left;(first |exact CV (f:=eU) (d:=0) (hI0.pe5 ‹(x0.1==1)=false› ‹(x0.1==2)=false› ‹(x0.1==3)=false› ‹(x0.1==4)=false› h).2.1 (hI0.pe5 ‹(x0.1==1)=false› ‹(x0.1==2)=false› ‹(x0.1==3)=false› ‹(x0.1==4)=false› h).2.2 |exact CV (f:=eU) (d:=0) (hI0.pe6 ‹(x0.1==1)=false› ‹(x0.1==2)=false› ‹(x0.1==3)=false› ‹(x0.1==4)=false› ‹(x0.1==5)=false› h).2.1 (hI0.pe6 ‹(x0.1==1)=false› ‹(x0.1==2)=false› ‹(x0.1==3)=false› ‹(x0.1==4)=false› ‹(x0.1==5)=false› h).2.2 |exact CV (f:=boolC) (d:=false) (hI0.pe7 ‹(x0.1==1)=false› ‹(x0.1==2)=false› ‹(x0.1==3)=false› ‹(x0.1==4)=false› ‹(x0.1==5)=false› ‹(x0.1==6)=false› h).2.1 (hI0.pe7 ‹(x0.1==1)=false› ‹(x0.1==2)=false› ‹(x0.1==3)=false› ‹(x0.1==4)=false› ‹(x0.1==5)=false› ‹(x0.1==6)=false› h).2.2.1 |exact CV (f:=eU) (d:=0) (hI0.pe7 ‹(x0.1==1)=false› ‹(x0.1==2)=false› ‹(x0.1==3)=false› ‹(x0.1==4)=false› ‹(x0.1==5)=false› ‹(x0.1==6)=false› h).2.1 (hI0.pe7 ‹(x0.1==1)=false› ‹(x0.1==2)=false› ‹(x0.1==3)=false› ‹(x0.1==4)=false› ‹(x0.1==5)=false› ‹(x0.1==6)=false› h).2.2.2))
  |((refine wZ ?_ ?_ ?_ ?_ ?_ ?_ ?_ ?_);exact rfl;exact rfl;exact rfl;(first |(rw[List.length_map];have:=hI0.le;have:=hI0.rest.2.1;omega) |exact Nat.zero_le _);exact rfl;(first |exact Nat.zero_le _ |(have:=hI0.rest.2.1;have:=hI0.step.2.1;omega));(first |exact(by decide:1<=1073741824) |(rw[List.length_map];omega)))
  |(exact hI0.own_cut)
  |(exact hI0.args.symm)
  |(exact congrArg (λn=>AV.data (D.i n)) (hI0.a1v ‹(tk x0==1)=true› h))
  |(exact congrArg (λn=>AV.data (D.i n)) (hI0.a4t ‹(tk x0==1)=false› ‹(tk x0==2)=false› ‹(tk x0==4)=true› h))
  |(exact congrArg (λn=>AV.data (D.i n)) (hI0.a4f ‹(tk x0==1)=false› ‹(tk x0==2)=false› ‹(tk x0==4)=true› h))
  |(exact congrArg (λn=>AV.data (D.i n)) (hI0.a0 ‹(tk x0==1)=false› ‹(tk x0==2)=false› h))
  |(rw[hI0.pe1  h];first |done |exact rfl |exact nT |exact lM)
  |(rw[(hI0.pe2 ‹(x0.1==1)=false› h).1];first |done |exact rfl |exact nT |exact lM)
  |(rw[(hI0.pe3 ‹(x0.1==1)=false› ‹(x0.1==2)=false› h).1];first |done |exact rfl |exact nT |exact lM)
  |(rw[(hI0.pe4 ‹(x0.1==1)=false› ‹(x0.1==2)=false› ‹(x0.1==3)=false› h).1];first |done |exact rfl |exact nT |exact lM)
  |(rw[(hI0.pe5 ‹(x0.1==1)=false› ‹(x0.1==2)=false› ‹(x0.1==3)=false› ‹(x0.1==4)=false› h).1];first |done |exact rfl |exact nT |exact lM)
  |(rw[(hI0.pe6 ‹(x0.1==1)=false› ‹(x0.1==2)=false› ‹(x0.1==3)=false› ‹(x0.1==4)=false› ‹(x0.1==5)=false› h).1];first |done |exact rfl |exact nT |exact lM)
  |(rw[(hI0.pe7 ‹(x0.1==1)=false› ‹(x0.1==2)=false› ‹(x0.1==3)=false› ‹(x0.1==4)=false› ‹(x0.1==5)=false› ‹(x0.1==6)=false› h).1];first |done |exact rfl |exact nT |exact lM)
  |(rw[hI0.pe22 ‹(x0.1==1)=false› ‹(x0.1==2)=false› ‹(x0.1==3)=false› ‹(x0.1==4)=false› ‹(x0.1==5)=false› ‹(x0.1==6)=false› ‹(x0.1==7)=false› h];first |done |exact rfl |exact nT |exact lM)
  |(rw[hI0.pe0 ‹(x0.1==1)=false› ‹(x0.1==2)=false› ‹(x0.1==3)=false› ‹(x0.1==4)=false› ‹(x0.1==5)=false› ‹(x0.1==6)=false› ‹(x0.1==7)=false› ‹(x0.1==22)=false›];first |done |exact rfl)
  |(exact z9i h)
  |(exact z9j h)
  |(exact z9k h)
  |(exact z9l h)
  |(exact z16 _ _)
  |(exact Xv _ _ _)
  |(exact UX _ _ _)
  |((refine au.mk 0 ?_);refine⟨aF (c.instrs) 18 (λ(q:(Nat)×(List Int)×(Nat)×(PQ))=>match q with |(ver,row,m,q)=>[(12,.own 29 ver 1 0 m),(17,.data (.i q.out))]) (λ(q:(Nat)×(List Int)×(Nat)×(PQ))=>match q with |(ver,row,m,q)=>[(29,.arr ver 1 (List.map eU row)),(32,.arr 0 1 (List.map eU q.regs)),(33,.arr 1 1 (List.map eU q.values)),(40,.arr 0 1 (List.map boolC q.pushed)),(44,.arr 0 1 (List.map eU q.last))]) [1,2,3,5,9,11,13,14,15,16] (λi0 r0 q=>match q with |(ver,row,m,q)=>PI c par inp sid s F r0 row m q),?_⟩;refine af ((0),([]),(0),(CU c s)) ?_ ?_ (λi0 ⟨ver,row,m,q⟩ hd0 hI0=>?_) (λi0 x0 r0 ⟨ver,row,m,q⟩ hd0 hl0 hI0=>?_))
  |(refine ag hd0 ((Xu x0 ver),(YX x0 row (restN x0 q) (yj c par inp sid s x0 q).1),(mN x0 (restN x0 q)),(UW c par inp sid s x0 q)) ?_ ?_)
  |((refine au.mk 4 ?_);refine⟨aF (c.lines) 27 (λ(ls:(List (List Int)))=>[]) (λ(ls:(List (List Int)))=>[(26,.cells [.data (ints F.values),.gs 900004 1 (List.map lnC ls)]),(900004,.tok 1 (List.map lnC ls).length)]) [5,9,11,15,16,17,26] (λi4 r4 ls=>LI s F t.lines r4 i4 ls/\ls.length=i4),?_⟩;refine af ([]) ?_ ?_ (λi4 (ls:(List (List Int))) hd4 hI4=>?_) (λi4 x4 r4 (ls:(List (List Int))) hd4 hl4 hI4=>?_))
  |(refine ag hd4 (ls++[Xx s F i4]) ?_ ?_)
  |((refine ai ?_ ?_ ?_);rotate_left;(first |exact zW _ |exact CW _ _ _ |exact XB c inp sid s x0.1 x0.2 _ _ (hI0.a1o ‹(tk x0==1)=true› h) |exact XA x0.1 _ _ _ (hI0.a2 ‹(tk x0==1)=false› h).2.2))
  |(refine aZ.l _ ?_)
  |((refine eH ?_ ?_ ?_ ?_ ?_ ?_)<;>exact rfl)
  |((refine fE ?_ ?_ ?_ ?_)<;>exact rfl)
  |((refine aK ?_ ?_);exact rfl)
  |((refine app_step' ?_ ?_ ?_ ?_ ?_ ?_ ?_);exact rfl;exact rfl;exact rfl;exact rfl)
  |((refine ak ?_ ?_);kernel_rfl)
  |(refine fA ?_;conv=>whnf)
  |(refine And.intro ?_ ?_)
  |((refine rP ?_ ?_ ?_);exact rfl;exact rfl;(first |skip))
  |((refine jl ?_ ?_);exact rfl;(first |skip))
  |exact @rfl AV _
  |exact @rfl Block _
  |exact jm rfl
  |fail)
 all_goals first
  |(rfl)
  |((exact Xw hrun))
  |((exact hI0.next))
  |((exact Xy hlin))
  |((exact hI0.rest.2.2.2.1))
  |((exact hI0.rest.2.2.2.2))
  |((exact hI0.len1))
  |((exact hI0.len2))
  |((simp only[List.length_map,Nat.zero_add];have:=hI0.lv;omega))
  |((rw[List.drop_zero,List.take_of_length_le (by simp only[List.length_map,Nat.zero_add];have:=hI0.lv;omega)]))
  |((rw[hI4.1.fin,<-ht];first |done |rfl))
  |((rw[List.length_map];have:=Kr gs hI4.1;omega))
  |((exact hI4.1.w1 gs h))
  |((exact hI4.1.w2 gs h))
  |((exact hI4.1.w3 gs h))
  |((exact hI4.1.ln1 gs h))
  |((exact hI4.1.ln0 h))
  |((exact hI4.1.step.2.2))
  |((rw[List.length_append,hI4.2];rfl))
  |skip
end Go.Proofs.YthpbakljheeabaaGreatDoor
