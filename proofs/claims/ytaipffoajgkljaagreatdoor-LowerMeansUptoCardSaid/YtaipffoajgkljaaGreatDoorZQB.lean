/- A part of the proof. -/
import Derived.Test.YtaipffoajgkljaaGreatDoorZMX
import Derived.Test.YtaipffoajgkljaaGreatDoorZGA
set_option linter.all false
set_option maxHeartbeats 8000000
namespace Go.Proofs.YtaipffoajgkljaaGreatDoor
open Go.Fw Go.Fw.Lw
open Go.Fw.Mac hiding W
set_option maxRecDepth 10000
variable [af]
theorem Ez(n lo hi:Int)  : PCall Tryz.prog 45 [.i n,.i lo,.i hi] (.ret (.i (kK n lo hi))):=by
 refine ay Tryz.func45 ?_
 repeat' ((try conv=>whnf)<;>first
  |refine BrI.intro (λh=>?_) (λh=>?_)
  |(refine cO ?_;conv=>whnf)
  |fail)
 all_goals (simp only[kK, *,cond_true,cond_false];done)
theorem RI(a b:Int)  : PCall Tryz.prog 83 [.i a,.i b] (.ret (.i (yB a b))):=by
 refine ay Tryz.func83 ?_
 repeat' ((try conv=>whnf)<;>first
  |refine BrI.intro (λh=>?_) (λh=>?_)
  |(refine cO ?_;conv=>whnf)
  |fail)
 all_goals (simp only[yB,W, *,cond_true,cond_false];done)
theorem Nk(a b:Int)(hb:-4611686018427387904<=b/\b<=4611686018427387904):PCall Tryz.prog 84 [.i a,.i b] (.ret (.i (xZ a b))):=by
 refine ay Tryz.func84 ?_
 repeat' ((try conv=>whnf)<;>first
  |refine BrI.intro (λh=>?_) (λh=>?_)
  |(refine cO ?_;conv=>whnf)
  |refine And.intro ?_ ?_
  |fail)
 all_goals first
  |exact zd3 hb h
  |exact zd2 ‹_›
  |(refine congrArg D.i ?_;unfold xZ;rw[h];rfl)
  |(refine congrArg D.i ?_;unfold xZ Xq JG W;rw[‹(bif a==0 then true else b==0)=false›,cond_false,h];(first |rw[‹decide (a<0)=true›] |rw[‹decide (a<0)=false›]);(first |rw[‹decide (b<0)=true›] |rw[‹decide (b<0)=false›]);simp only[cond_true,cond_false];simp only[*,cond_true,cond_false];done)
theorem RJ(n d:Int)(hd:d≠0):PCall Tryz.prog 82 [.i n,.i d] (.ret (.i (Nh n d))):=by
 refine ay Tryz.func82 ?_
 repeat' ((try conv=>whnf)<;>first
  |refine BrI.intro (λh=>?_) (λh=>?_)
  |(refine cO ?_;conv=>whnf)
  |refine And.intro ?_ ?_
  |fail)
 all_goals first
  |exact hd
  |(simp only[Nh,W, *,cond_true,cond_false];done)
theorem Nl(n:Int)  : PCall Tryz.prog 81 [.i n] (.ret (.i (JG n))):=by
 refine ay Tryz.func81 ?_
 repeat' ((try conv=>whnf)<;>first
  |refine BrI.intro (λh=>?_) (λh=>?_)
  |(refine cO ?_;conv=>whnf)
  |fail)
 all_goals (simp only[JG,W, *,cond_true,cond_false];done)
theorem Np(v:Int)  : PCall Tryz.prog 80 [.i v] (.ret (.i (Xr v))):=by
 refine ay Tryz.func80 ?_
 repeat' ((try conv=>whnf)<;>first
  |(refine cO ?_;conv=>whnf)
  |fail)
 all_goals rfl
theorem ZZ(op a b r:Int)(hO:S9 op a b=some r):PCall Tryz.prog 44 [.i op,.i a,.i b] (.ret (.i r)):=by
 refine ay Tryz.func44 ?_
 repeat' ((try conv=>whnf)<;>first
  |refine BrI.intro (λh=>?_) (λh=>?_)
  |((refine ai ?_ ?_ ?_);rotate_left;(first |exact RI _ _ |exact Nk a b (z3e hO ‹(op==13)=false› ‹(op==14)=false› ‹(op==17)=false› h).1))
  |(refine cO ?_;conv=>whnf)
  |fail)
 all_goals first
  |exact congrArg D.i (zdy hO h)
  |exact congrArg D.i (zdz hO ‹_› h)
  |exact congrArg D.i (zd0 hO ‹_› ‹_› h)
  |exact congrArg D.i (zd1 hO ‹_› ‹_› ‹_› h)
  |exact congrArg D.i (z3e hO ‹_› ‹_› ‹_› h).2
theorem Z4(c:Cd)(inp sid:List Int)(s:Sta)(op a v r:Int)(hO:RH c inp sid s op a v=some r):PCall Tryz.prog 43 [c.d,ints inp,ints sid,s.d,.agg (jl (op,a)),.i v] (.ret (.i r)):=by
 refine ay Tryz.func43 ?_
 repeat' ((try conv=>whnf)<;>first
  |(have hz:=zdt hO ‹(op==8)=false› ‹(op==9)=false› h;obtain⟨l1,b1,e1,e2,e3⟩:=hz;clear h)
  |(have hz:=zdu hO ‹(op==8)=false› ‹(op==9)=false› ‹(op==10)=false› h;obtain⟨t1,e4,e5⟩:=hz;clear h)
  |refine BrI.intro (λh=>?_) (λh=>?_)
  |((refine au ?_ ?_ ?_ ?_ ?_);exact rfl;exact rfl;rotate_left;(first |exact uf (f:=fF) (zfw hO h) |exact uf (f:=fF) (zfx hO ‹(op==8)=false› h) |exact uf (f:=lnC) e1 |exact uf (f:=Ln.cs) e2 |exact uf (f:=fF) e3 |exact uf (f:=lnC) e4 |exact uf (f:=fF) (show getI t1 (kK v 0 (IntKind.i64.wrap (((t1.map fF).length:Int)-1)))=some r by rw[List.length_map];exact e5)))
  |((refine ai ?_ ?_ ?_);rotate_left;(first |exact Ez _ _ _ |exact Np _ |exact Nl _ |exact RJ v a (z3d hO ‹(op==8)=false› ‹(op==9)=false› ‹(op==10)=false› ‹(op==11)=false› ‹(op==12)=false› ‹(op==15)=false› h).1))
  |refine fD ?_
  |(refine cO ?_;conv=>whnf)
  |fail)
 all_goals first
  |exact congrArg D.i (zdv hO ‹_› ‹_› ‹_› ‹_› h)
  |exact congrArg D.i (zdw hO ‹_› ‹_› ‹_› ‹_› ‹_› h)
  |exact congrArg D.i (zdx hO ‹_› ‹_› ‹_› ‹_› ‹_› ‹_› h)
  |exact congrArg D.i (z3d hO ‹_› ‹_› ‹_› ‹_› ‹_› ‹_› h).2
theorem x9(c:Cd)(par inp sid:List Int)(s t:Sta)(v:Int)(g:c.Sm)(gs:s.Sm)(hr:0<=c.regs/\c.regs<=65536)(hO:vP c par inp sid s=some (v,t)):PCall Tryz.prog 10 [c.d,ints par,ints inp,ints sid,s.d] (.ret (.tuple [.i v,t.d])):=by
 refine gI tok hmix ⟨[16,27,45],[]⟩ Tryz.func10 rfl (by kernel_rfl) (by kernel_rfl) (by kernel_rfl) λhf=>?_
 obtain⟨F,hrun,hlin,hv,ht⟩:=ZY hO
 subst hv
 have g1:=g.lines;have g2:=g.instrs;have g3:=gs.values
 have hlen:c.instrs.length<=9223372036854775807:=by omega
 have hlen2:c.lines.length<=9223372036854775807:=by omega
 clear hf
 repeat' ((try conv=>whnf)<;>first
  |refine aW.r 29 ?_
  |refine aW.r 32 ?_
  |refine aW.r 33 ?_
  |refine aW.r 40 ?_
  |refine aW.r 44 ?_
  |(have hq:=hI0.fin.symm;subst hq)
  |((refine ak.mk 16 ?_);refine⟨⟨Unit,λ_=>[(24,.data (ints (q.stack.drop (restN x0 q)))),(12,.own 29 ver 1 0 (restN x0 q)),(25,.data (.i 0))],λ_=>[],[1,2,3,5,9,11,13,14,15,16,17,18,19,20,21],λ_=>True,λ_=>0⟩,?_,λ_ _=>?_⟩)
  |((refine ak.mk 27 ?_);refine⟨⟨Unit,λ_=>[(25,.data (.i (BF c inp sid s x0 q)))],λ_=>[],[1,2,3,5,9,11,12,13,14,15,16,17,18,19,21],λ_=>True,λ_=>0⟩,?_,λ_ _=>?_⟩)
  |((refine ak.mk 45 ?_);refine⟨⟨Unit,λ_=>[(25,.data (.i (zh c par inp sid s x0 q).1)),(17,.data (.i (zh c par inp sid s x0 q).2.out))],λ_=>[(32,.arr 0 1 (List.map fF (zh c par inp sid s x0 q).2.regs)),(33,.arr 1 1 (List.map fF (zh c par inp sid s x0 q).2.values)),(40,.arr 0 1 (List.map boolC (zh c par inp sid s x0 q).2.pushed)),(44,.arr 0 1 (List.map fF (zh c par inp sid s x0 q).2.last))],[1,2,3,5,9,11,12,13,14,15,16,18,21],λ_=>True,λ_=>0⟩,?_,λ_ _=>?_⟩)
  |refine⟨(),trivial,?_⟩
  |exact trivial
  |exact aj hd4 ‹_›
  |exact aj hd0 ‹_›
  |refine aZ hd4 ?_
  |refine aZ hd0 ?_
  |refine aK hd4 ?_
  |refine aK hd0 ?_
  |refine BrI.intro (λh=>?_) (λh=>?_)
  |refine Cb.l ?_
  |((refine LP ?_ ?_ ?_ ?_ ?_);(first |exact hr.1 |exact Int.natCast_nonneg _);exact Int.le_refl _;exact rfl;(first |omega |(rw[List.length_map];omega)))
  |((refine au ?_ ?_ ?_ ?_ ?_);exact rfl;exact rfl;rotate_left;(first |exact(hI0.a1 h) |exact(hI0.a2 ‹(tk x0==1)=false› h).1 |exact(hI0.a2 ‹(tk x0==1)=false› h).2.1 |exact(hI0.a4 ‹(tk x0==1)=false› ‹(tk x0==2)=false› ‹(tk x0==4)=true›).1.1 |exact(hI0.a4 ‹(tk x0==1)=false› ‹(tk x0==2)=false› ‹(tk x0==4)=true›).1.2.1 |exact(hI0.a4 ‹(tk x0==1)=false› ‹(tk x0==2)=false› ‹(tk x0==4)=true›).1.2.2.1 |exact(hI0.a4 ‹(tk x0==1)=false› ‹(tk x0==2)=false› ‹(tk x0==4)=true›).1.2.2.2 |exact(hI0.pe2 ‹(x0.1==1)=false› h).2.1 |exact hI4.1.old |exact ax hd0))
  |((refine jd ?_ ?_ ?_ ?_ ?_);exact rfl;exact rfl;exact rfl;(first |exact⟨(hI0.pe3 ‹(x0.1==1)=false› ‹(x0.1==2)=false› h).2.1.1,by have:=(hI0.pe3 ‹(x0.1==1)=false› ‹(x0.1==2)=false› h).2.2;have:=hI0.lv;simp only[List.length_map,Nat.zero_add];omega⟩ |exact⟨(hI0.pe4 ‹(x0.1==1)=false› ‹(x0.1==2)=false› ‹(x0.1==3)=false› h).2.1.1,by have:=(hI0.pe4 ‹(x0.1==1)=false› ‹(x0.1==2)=false› ‹(x0.1==3)=false› h).2.2;have:=hI0.lr;omega⟩ |exact⟨(hI0.pe5 ‹(x0.1==1)=false› ‹(x0.1==2)=false› ‹(x0.1==3)=false› ‹(x0.1==4)=false› h).2.1,by have:=(hI0.pe5 ‹(x0.1==1)=false› ‹(x0.1==2)=false› ‹(x0.1==3)=false› ‹(x0.1==4)=false› h).2.2;have:=hI0.lr;omega⟩ |exact⟨(hI0.pe6 ‹(x0.1==1)=false› ‹(x0.1==2)=false› ‹(x0.1==3)=false› ‹(x0.1==4)=false› ‹(x0.1==5)=false› h).2.1,by have:=(hI0.pe6 ‹(x0.1==1)=false› ‹(x0.1==2)=false› ‹(x0.1==3)=false› ‹(x0.1==4)=false› ‹(x0.1==5)=false› h).2.2;have:=hI0.lv;simp only[List.length_map,Nat.zero_add];omega⟩ |exact⟨(hI0.pe7 ‹(x0.1==1)=false› ‹(x0.1==2)=false› ‹(x0.1==3)=false› ‹(x0.1==4)=false› ‹(x0.1==5)=false› ‹(x0.1==6)=false› h).2.1,by have:=(hI0.pe7 ‹(x0.1==1)=false› ‹(x0.1==2)=false› ‹(x0.1==3)=false› ‹(x0.1==4)=false› ‹(x0.1==5)=false› ‹(x0.1==6)=false› h).2.2.1;have:=hI0.lp;simp only[List.length_map,Int.toNat_natCast];omega⟩ |exact⟨Int.natCast_nonneg _,by have:=hl4;simp only[List.length_map,Int.toNat_natCast];omega⟩))
  |((refine jC ?_ ?_ ?_ ?_ ?_ ?_ ?_);exact rfl;exact rfl;rotate_left 2;(first |exact Ey (f:=fF) (d:=0) (hI0.pe3 ‹(x0.1==1)=false› ‹(x0.1==2)=false› h).2.1.1 (hI0.pe3 ‹(x0.1==1)=false› ‹(x0.1==2)=false› h).2.2 |exact Ey (f:=fF) (d:=0) (hI0.pe4 ‹(x0.1==1)=false› ‹(x0.1==2)=false› ‹(x0.1==3)=false› h).2.1.1 (hI0.pe4 ‹(x0.1==1)=false› ‹(x0.1==2)=false› ‹(x0.1==3)=false› h).2.2 |exact hI4.1.push.1 |exact(hI4.1.yes h).1.1);exact rfl)
  |((refine fQ ?_ ?_ ?_ ?_ ?_ ?_ ?_ ?_ ?_);exact rfl;exact rfl;exact rfl;exact rfl;exact fA rfl;exact rfl;rotate_left;(first |exact Ey (f:=fF) (d:=0) (hI0.pe5 ‹(x0.1==1)=false› ‹(x0.1==2)=false› ‹(x0.1==3)=false› ‹(x0.1==4)=false› h).2.1 (hI0.pe5 ‹(x0.1==1)=false› ‹(x0.1==2)=false› ‹(x0.1==3)=false› ‹(x0.1==4)=false› h).2.2 |exact Ey (f:=fF) (d:=0) (hI0.pe6 ‹(x0.1==1)=false› ‹(x0.1==2)=false› ‹(x0.1==3)=false› ‹(x0.1==4)=false› ‹(x0.1==5)=false› h).2.1 (hI0.pe6 ‹(x0.1==1)=false› ‹(x0.1==2)=false› ‹(x0.1==3)=false› ‹(x0.1==4)=false› ‹(x0.1==5)=false› h).2.2 |exact Ey (f:=boolC) (d:=false) (hI0.pe7 ‹(x0.1==1)=false› ‹(x0.1==2)=false› ‹(x0.1==3)=false› ‹(x0.1==4)=false› ‹(x0.1==5)=false› ‹(x0.1==6)=false› h).2.1 (hI0.pe7 ‹(x0.1==1)=false› ‹(x0.1==2)=false› ‹(x0.1==3)=false› ‹(x0.1==4)=false› ‹(x0.1==5)=false› ‹(x0.1==6)=false› h).2.2.1 |exact Ey (f:=fF) (d:=0) (hI0.pe7 ‹(x0.1==1)=false› ‹(x0.1==2)=false› ‹(x0.1==3)=false› ‹(x0.1==4)=false› ‹(x0.1==5)=false› ‹(x0.1==6)=false› h).2.1 (hI0.pe7 ‹(x0.1==1)=false› ‹(x0.1==2)=false› ‹(x0.1==3)=false› ‹(x0.1==4)=false› ‹(x0.1==5)=false› ‹(x0.1==6)=false› h).2.2.2))
  |((refine mJ ?_ ?_ ?_ ?_ ?_ ?_ ?_ ?_);exact rfl;exact rfl;exact rfl;(first |(rw[List.length_map];have:=hI0.le;have:=hI0.rest.2.1;omega) |exact Nat.zero_le _);exact rfl;(first |exact Nat.zero_le _ |(have:=hI0.rest.2.1;have:=hI0.step.2.1;omega));(first |exact(by decide:1<=1073741824) |(rw[List.length_map];omega)))
  |exact hI0.own_cut
  |exact hI0.args.symm
  |exact congrArg (λn=>AV.data (D.i n)) (hI0.a1v ‹(tk x0==1)=true› h)
  |exact congrArg (λn=>AV.data (D.i n)) (hI0.a4t ‹(tk x0==1)=false› ‹(tk x0==2)=false› ‹(tk x0==4)=true› h)
  |exact congrArg (λn=>AV.data (D.i n)) (hI0.a4f ‹(tk x0==1)=false› ‹(tk x0==2)=false› ‹(tk x0==4)=true› h)
  |exact congrArg (λn=>AV.data (D.i n)) (hI0.a0 ‹(tk x0==1)=false› ‹(tk x0==2)=false› h)
  |(rw[hI0.pe1  h];first |done |exact rfl |exact o7 |exact mV)
  |(rw[(hI0.pe2 ‹(x0.1==1)=false› h).1];first |done |exact rfl |exact o7 |exact mV)
  |(rw[(hI0.pe3 ‹(x0.1==1)=false› ‹(x0.1==2)=false› h).1];first |done |exact rfl |exact o7 |exact mV)
  |(rw[(hI0.pe4 ‹(x0.1==1)=false› ‹(x0.1==2)=false› ‹(x0.1==3)=false› h).1];first |done |exact rfl |exact o7 |exact mV)
  |(rw[(hI0.pe5 ‹(x0.1==1)=false› ‹(x0.1==2)=false› ‹(x0.1==3)=false› ‹(x0.1==4)=false› h).1];first |done |exact rfl |exact o7 |exact mV)
  |(rw[(hI0.pe6 ‹(x0.1==1)=false› ‹(x0.1==2)=false› ‹(x0.1==3)=false› ‹(x0.1==4)=false› ‹(x0.1==5)=false› h).1];first |done |exact rfl |exact o7 |exact mV)
  |(rw[(hI0.pe7 ‹(x0.1==1)=false› ‹(x0.1==2)=false› ‹(x0.1==3)=false› ‹(x0.1==4)=false› ‹(x0.1==5)=false› ‹(x0.1==6)=false› h).1];first |done |exact rfl |exact o7 |exact mV)
  |(rw[hI0.pe22 ‹(x0.1==1)=false› ‹(x0.1==2)=false› ‹(x0.1==3)=false› ‹(x0.1==4)=false› ‹(x0.1==5)=false› ‹(x0.1==6)=false› ‹(x0.1==7)=false› h];first |done |exact rfl |exact o7 |exact mV)
  |(rw[hI0.pe0 ‹(x0.1==1)=false› ‹(x0.1==2)=false› ‹(x0.1==3)=false› ‹(x0.1==4)=false› ‹(x0.1==5)=false› ‹(x0.1==6)=false› ‹(x0.1==7)=false› ‹(x0.1==22)=false›];first |done |exact rfl)
  |exact zfy h
  |exact zfz h
  |exact zf0 h
  |exact zf1 h
  |exact z9c _ _
  |exact ZU _ _ _
  |exact Xu _ _ _
  |((refine ak.mk 0 ?_);refine⟨aB (c.instrs) 18 (λ(q:(Nat)×(List Int)×(Nat)×(PQ))=>match q with |(ver,row,m,q)=>[(12,.own 29 ver 1 0 m),(17,.data (.i q.out))]) (λ(q:(Nat)×(List Int)×(Nat)×(PQ))=>match q with |(ver,row,m,q)=>[(29,.arr ver 1 (List.map fF row)),(32,.arr 0 1 (List.map fF q.regs)),(33,.arr 1 1 (List.map fF q.values)),(40,.arr 0 1 (List.map boolC q.pushed)),(44,.arr 0 1 (List.map fF q.last))]) [1,2,3,5,9,11,13,14,15,16] (λi0 r0 q=>match q with |(ver,row,m,q)=>PI c par inp sid s F r0 row m q),?_⟩;refine ag ((0),([]),(0),(Ew c s)) ?_ ?_ (λi0 ⟨ver,row,m,q⟩ hd0 hI0=>?_) (λi0 x0 r0 ⟨ver,row,m,q⟩ hd0 hl0 hI0=>?_))
  |refine ah hd0 ((ZT x0 ver),(z3f x0 row (restN x0 q) (zh c par inp sid s x0 q).1),(mN x0 (restN x0 q)),(Xt c par inp sid s x0 q)) ?_ ?_
  |((refine ak.mk 4 ?_);refine⟨aB (c.lines) 27 (λ(ls:(List (List Int)))=>[]) (λ(ls:(List (List Int)))=>[(26,.cells [.data (ints F.values),.gs 900004 1 (List.map lnC ls)]),(900004,.tok 1 (List.map lnC ls).length)]) [5,9,11,15,16,17,26] (λi4 r4 ls=>LI s F t.lines r4 i4 ls/\ls.length=i4),?_⟩;refine ag ([]) ?_ ?_ (λi4 (ls:(List (List Int))) hd4 hI4=>?_) (λi4 x4 r4 (ls:(List (List Int))) hd4 hl4 hI4=>?_))
  |refine ah hd4 (ls++[ZW s F i4]) ?_ ?_
  |((refine ai ?_ ?_ ?_);rotate_left;(first |exact BC _ |exact Ez _ _ _ |exact Z4 c inp sid s x0.1 x0.2 _ _ (hI0.a1o ‹(tk x0==1)=true› h) |exact ZZ x0.1 _ _ _ (hI0.a2 ‹(tk x0==1)=false› h).2.2))
  |refine aW.l _ ?_
  |((refine dS ?_ ?_ ?_ ?_ ?_ ?_)<;>exact rfl)
  |((refine dL ?_ ?_ ?_ ?_)<;>exact rfl)
  |refine lY ?_
  |refine FB ?_ ?_ ?_
  |refine fD ?_
  |(refine cO ?_;conv=>whnf)
  |refine And.intro ?_ ?_
  |((refine qo ?_ ?_ ?_);exact rfl;exact rfl;(first |skip))
  |((refine iK ?_ ?_);exact rfl;(first |skip))
  |exact @rfl AV _
  |exact @rfl Block _
  |exact fA rfl
  |fail)
 all_goals first
  |rfl
  |exact ZV hrun
  |exact hI0.next
  |exact ZX hlin
  |exact hI0.rest.2.2.2.1
  |exact hI0.rest.2.2.2.2
  |exact hI0.len1
  |exact hI0.len2
  |(simp only[List.length_map,Nat.zero_add];have:=hI0.lv;omega)
  |rw[List.drop_zero,List.take_of_length_le (by simp only[List.length_map,Nat.zero_add];have:=hI0.lv;omega)]
  |(rw[hI4.1.fin,<-ht];first |done |rfl)
  |(rw[List.length_map];have:=Nj gs hI4.1;omega)
  |exact hI4.1.w1 gs h
  |exact hI4.1.w2 gs h
  |exact hI4.1.w3 gs h
  |exact hI4.1.ln1 gs h
  |exact hI4.1.ln0 h
  |exact hI4.1.step.2.2
  |(rw[List.length_append,hI4.2];rfl)
end Go.Proofs.YtaipffoajgkljaaGreatDoor
