/- A part of the proof. -/
import Derived.Test.YtgehpmgkaeohaaaGreatDoorZSX
set_option linter.all false
set_option maxHeartbeats 4000000
namespace Go.Proofs.YtgehpmgkaeohaaaGreatDoor
open Go.Fw Go.Fw.Lx
set_option maxRecDepth 10000
variable [ae]
theorem rF(c:UInt8)  : PCall Tryz.prog 131 [D.u8 c] (.ret (.i (cls c))):=by
 refine aj Tryz.func131 ?_
 repeat' ((try conv=>whnf)<;>first
  |with_reducible refine BrI.intro (λh=>?_) (λh=>?_)
  |((refine ah ?_ ?_ ?_);rotate_left;exact nz _ _)
  |(refine cO ?_;conv=>whnf))
 all_goals(try simp only[csmp]at *)
 all_goals (refine congrArg (λz=>D.val (Value.int IntKind.i64 z)) ?_;simp only[cls,Ref03.letter,Ref03.figure,if_true,if_false,Bool.false_eq_true,reduceIte, *];first |done |exact(if_pos (by assumption)).symm |exact(if_neg (ne_true_of_eq_false (by assumption))).symm)
theorem TF(s:Str)  : PCall Tryz.prog 103 [.str s] (.ret (.b (ui s))):=by
 refine aj Tryz.func103 ?_
 repeat' ((try conv=>whnf)<;>first
  |with_reducible exact trivial
  |with_reducible exact ai hd0 ‹_›
  |((refine eU hd0 ?_ ?_);exact rfl)
  |((refine dM hd0 ?_ ?_);exact rfl)
  |with_reducible refine BrI.intro (λh=>?_) (λh=>?_)
  |((refine Gj ?_ ?_ ?_);decide;(simp[mV]at hg;have:=List.length_pos_iff.2 hg.1;omega))
  |((with_reducible refine au.mk 0 ?_);have hlen:s.length<=9223372036854775807:=(by simp only[Bool.cond_true_left,Bool.or_eq_false_iff,decide_eq_false_iff_not]at h;omega);refine⟨aH (s) 20 (λ(_:Unit)=>[]) (λ(_:Unit)=>[]) [0,19] (λi0 r0 _=>ui s=r0.all Bo),?_⟩;refine af () ?_ ?_ (λi0 (_:Unit) hd0 hI0=>?_) (λi0 x0 r0 (_:Unit) hd0 hl0 hI0=>?_))
  |refine ag hd0 () ?_ ?_
  |((refine ah ?_ ?_ ?_);rotate_left;exact rF _)
  |refine VH hd0 ?_
  |((refine aK ?_ ?_ (λhg=>?_) ?_);rfl)
  |((refine aY ?_ ?_);with_reducible exact rfl;with_reducible exact rfl)
  |(refine cO ?_;conv=>whnf)
  |with_reducible refine And.intro ?_ ?_
  |exact @rfl AV _)
 all_goals(try simp only[csmp]at *)
 all_goals first
  |(rw[hI0];(try simp only[ui,Bo,Bool.not_true,Bool.not_false,Bool.and_true,Bool.true_and,Bool.and_false,Bool.false_and,Bool.or_true,Bool.true_or,Bool.or_false,Bool.false_or,if_true,if_false,reduceIte,Bool.false_eq_true,Bool.not_not,Bool.not_eq_true',beq_self_eq_true,List.all_cons,List.all_nil,List.any_cons,List.any_nil,List.length_map,bne,eq_self,Int.toNat_zero, *]);first |done |rfl)
  |(simp only[ui,Bo,Bool.not_true,Bool.not_false,Bool.and_true,Bool.true_and,Bool.and_false,Bool.false_and,Bool.or_true,Bool.true_or,Bool.or_false,Bool.false_or,if_true,if_false,reduceIte,Bool.false_eq_true,Bool.not_not,Bool.not_eq_true',beq_self_eq_true,List.all_cons,List.all_nil,List.any_cons,List.any_nil,List.length_map,bne,eq_self,Int.toNat_zero, *];done)
theorem TG(l:List Int)(v:Int)  : PCall Tryz.prog 245 [.sl 1 (l.map iC),.i v] (.ret (.i (idxFrom v l 0))):=by
 refine dh Tryz.func245 λhf=>?_
 have hlen:l.length<=9223372036854775807:=by simpa using(hf (.sl 1 (l.map iC)) (by simp)).sl.1
 clear hf
 repeat' ((try conv=>whnf)<;>first
  |exact trivial
  |exact ai hd0 ‹_›
  |refine bu hd0 ?_
  |refine aP hd0 ?_
  |refine BrI.intro (λh=>?_) (λh=>?_)
  |((refine au.mk 0 ?_);refine⟨aH (l) 8 (λ(_:Unit)=>[]) (λ(_:Unit)=>[]) [0,1,7] (λi0 r0 _=>idxFrom v l 0=idxFrom v r0 i0),?_⟩;refine af () ?_ ?_ (λi0 (_:Unit) hd0 hI0=>?_) (λi0 x0 r0 (_:Unit) hd0 hl0 hI0=>?_))
  |refine ag hd0 () ?_ ?_
  |((refine aB ?_ ?_ ?_ ?_ ?_);rfl;rfl;rotate_left;exact ay hd0)
  |(refine cO ?_;conv=>whnf)
  |refine And.intro ?_ ?_
  |exact @rfl AV _)
 all_goals first
  |(rw[hI0];(try simp only[idxFrom,Bool.not_true,Bool.not_false,Bool.and_true,Bool.true_and,Bool.and_false,Bool.false_and,Bool.or_true,Bool.true_or,Bool.or_false,Bool.false_or,if_true,if_false,reduceIte,Bool.false_eq_true,Bool.not_not,Bool.not_eq_true',beq_self_eq_true,List.all_cons,List.all_nil,List.any_cons,List.any_nil,List.length_map,bne,eq_self,Int.toNat_zero, *]);first |done |rfl)
  |simp_all[idxFrom]
theorem z18(l:List Int)(v:Int)  : PCall Tryz.prog 224 [.sl 1 (l.map iC),.i v] (.ret (.b (has l v))):=by
 refine aj Tryz.func224 ?_
 repeat' ((try conv=>whnf)<;>first
  |((refine ah ?_ ?_ ?_);rotate_left;exact TG _ _)
  |(refine cO ?_;conv=>whnf))
 all_goals rfl
theorem CP(t:Tk)  : PCall Tryz.prog 225 [t.d] (.ret (.b (valid t))):=by
 refine aj Tryz.func225 ?_
 repeat' ((try conv=>whnf)<;>first
  |with_reducible refine BrI.intro (λh=>?_) (λh=>?_)
  |((refine Gj ?_ ?_ ?_);decide;(simp[mV]at hg;omega))
  |((refine ah ?_ ?_ ?_);rotate_left;(first |exact TF _ |exact rF _))
  |((refine aK ?_ ?_ (λhg=>?_) ?_);rfl)
  |((refine aY ?_ ?_);with_reducible exact rfl;with_reducible exact rfl)
  |(refine cO ?_;conv=>whnf))
 all_goals(try simp only[csmp]at *)
 all_goals (simp only[valid,Bool.not_true,Bool.not_false,Bool.and_true,Bool.true_and,Bool.and_false,Bool.false_and,Bool.or_true,Bool.true_or,Bool.or_false,Bool.false_or,if_true,if_false,reduceIte,Bool.false_eq_true,Bool.not_not,Bool.not_eq_true',beq_self_eq_true,List.all_cons,List.all_nil,List.any_cons,List.any_nil,List.length_map,bne,eq_self,Int.toNat_zero, *];done)
theorem o8(ks:List Int)(src:Str)(a:Nat)(ts:List Tk)(ha:a<=src.length)(hs:src.length<=1073741824):PCall Tryz.prog 183 [.ptr [.str src,.i (a:Int),toks ts],.sl 1 (ks.map iC)] (.ret (.str (Lx.run ks src a))):=by
 refine aj Tryz.func183 ?_
 repeat' ((try conv=>whnf)<;>first
  |exact trivial
  |refine BrI.intro (λh=>?_) (λh=>?_)
  |refine z5b (zfp hg) ?_
  |((refine au.mk 0 ?_);refine⟨lG (λ(n:(Nat))=>[(5,.data (.val (.int .i64 (n:Nat))))]) (λ(n:(Nat))=>[]) [0,1] (λ(n:(Nat))=>zdu (λc=>has ks (cls c)) src a n) (λ(n:(Nat))=>src.length-n),?_⟩;refine eH (a) ?_ ?_ (λ(n:(Nat)) hI0=>?_))
  |refine dm (n+1) ?_ ?_ ?_
  |((refine ah ?_ ?_ ?_);rotate_left;(first |exact rF _ |exact z18 _ _))
  |((refine aK ?_ ?_ (λhg=>?_) ?_);rfl)
  |((refine aY ?_ ?_);rfl;rfl)
  |refine eQ ?_
  |(refine cO ?_;conv=>whnf)
  |refine And.intro ?_ ?_
  |exact @rfl AV _)
 all_goals first
  |exact SC ha
  |exact Pm (by have:=hI0.end_;omega)
  |(have:=z5c h;exact VJ hI0 (by omega) this.2)
  |(have:=(z5c h).1;omega)
  |(have:=hI0.le;have:=hI0.end_;omega)
  |(rw[zfq,Zx (Zw hI0 (by rcases zfo h with h |h;exact .inl (by omega);exact .inr ⟨by omega,h.2⟩))];rfl)
theorem N8(text:Str)(t:Tk)(src:Str)(a:Nat)(ts:List Tk)(hv:(!valid t)=false)(hts:ts.length<=1073741824)(ha:a+text.length<=1073741824):ak Tryz.prog 184 [.ptr 1000000 0,.data (.str text),.data t.d] [(1000000,.cells [.data (.str src),.data (.i (a:Int)),.gs 1000001 4 (ts.map Tk.cs)]),(1000001,.tok 4 (ts.map Tk.cs).length)] (.ret (.data (.tuple []))) [(1000000,.cells [.data (.str src),.data (.i ((a+text.length:Nat):Int)),.gs 1000001 4 ((ts++[at' t a]).map Tk.cs)]),(1000001,.tok 4 ((ts++[at' t a]).map Tk.cs).length)]:=by
 refine aT Tryz.func184 ?_
 repeat' ((try conv=>whnf)<;>first
  |with_reducible exact trivial
  |with_reducible refine BrI.intro (λh=>?_) (λh=>?_)
  |exact Bool.noConfusion (hv.symm.trans h)
  |((refine ah ?_ ?_ ?_);rotate_left;exact CP _)
  |((refine bg ?_);refine fin_step' [(1000000,1000000),(1000001,1000001)] rfl ?_ ?_)
  |refine aI.l _ ?_
  |refine wP ?_ ?_ ?_
  |refine eQ ?_
  |with_reducible refine And.intro ?_ ?_
  |((with_reducible refine gy ?_ ?_);rfl;(first |skip))
  |((with_reducible refine bP ?_);refine gZ ?_ ?_ ?_;rfl;rfl;(first |skip))
  |exact dQ rfl)
 all_goals(try simp only[csmp]at *)
 all_goals first
  |omega
  |(refine Eq.trans ?_ bC;rfl)
  |((conv=>whnf);(refine congrArg D.i (VI ?_));omega)
theorem QO(text:Str)(t:Tk)(src:Str)(a:Nat)(ts:List Tk)(hv:(!valid t)=true):ak Tryz.prog 184 [.ptr 1000000 0,.data (.str text),.data t.d] [(1000000,.cells [.data (.str src),.data (.i (a:Int)),.gs 1000001 4 (ts.map Tk.cs)]),(1000001,.tok 4 (ts.map Tk.cs).length)] (.pan (.iface 177 (.data (.i (a:Int))))) [(1000000,.cells [.data (.str src),.data (.i (a:Int)),.gs 1000001 4 (ts.map Tk.cs)]),(1000001,.tok 4 (ts.map Tk.cs).length)]:=by
 refine aT Tryz.func184 ?_
 repeat' ((try conv=>whnf)<;>first
  |exact trivial
  |refine BrI.intro (λh=>?_) (λh=>?_)
  |exact Bool.noConfusion (hv.symm.trans h)
  |((refine ah ?_ ?_ ?_);rotate_left;exact CP _)
  |((refine dB ?_);refine fin_step' [(1000000,1000000),(1000001,1000001)] rfl ?_ ?_)
  |refine And.intro ?_ ?_
  |((refine bP ?_);refine gZ ?_ ?_ ?_;rfl;rfl;(first |exact rfl |skip)))
theorem TJ(src:Str)(a:Nat)(ts:List Tk)  : ak Tryz.prog 135 [.ptr 1000000 0] [(1000000,.cells [.data (.str src),.data (.i (a:Int)),.gs 1000001 4 (ts.map Tk.cs)]),(1000001,.tok 4 (ts.map Tk.cs).length)] (.pan (.iface 177 (.data (.i (a:Int))))) [(1000000,.cells [.data (.str src),.data (.i (a:Int)),.gs 1000001 4 (ts.map Tk.cs)]),(1000001,.tok 4 (ts.map Tk.cs).length)]:=by
 refine aT Tryz.func135 ?_
 repeat' ((try conv=>whnf)<;>first
  |exact trivial
  |((refine dB ?_);refine fin_step' [(1000000,1000000),(1000001,1000001)] rfl ?_ ?_)
  |refine And.intro ?_ ?_
  |((refine bP ?_);refine gZ ?_ ?_ ?_;rfl;rfl;(first |exact rfl |skip)))
theorem TK(src:Str)(a:Nat)(ts:List Tk)(ha:a<=src.length)(hs:src.length<=1073741824):ak Tryz.prog 136 [.ptr 1000000 0] [(1000000,.cells [.data (.str src),.data (.i (a:Int)),.gs 1000001 4 (ts.map Tk.cs)]),(1000001,.tok 4 (ts.map Tk.cs).length)] (.ret (.data (.tuple []))) [(1000000,.cells [.data (.str src),.data (.i ((a+(Lx.run [1] src a).length:Nat):Int)),.gs 1000001 4 (ts.map Tk.cs)]),(1000001,.tok 4 (ts.map Tk.cs).length)]:=by
 refine aT Tryz.func136 ?_
 repeat' ((try conv=>whnf)<;>first
  |exact trivial
  |((refine dE ?_ ?_);rfl)
  |((refine dU ?_ ?_ ?_);rotate_left;(exact o8 [1] src a ts ha hs))
  |((refine bg ?_);refine fin_step' [(1000000,1000000),(1000001,1000001)] rfl ?_ ?_)
  |refine aI.l _ ?_
  |refine eQ ?_
  |refine And.intro ?_ ?_
  |((refine bP ?_);refine gZ ?_ ?_ ?_;rfl;rfl;(first |exact rfl |skip)))
 all_goals ((conv=>whnf);have:=uh (p:=λc=>has [1] (cls c)) ha;(refine congrArg D.i (VI ?_));simp only[Lx.run];omega)
theorem zbu(src:Str)(a:Nat)(ts:List Tk)(ha:a<=src.length)(hs:src.length<=1073741824)(hts:ts.length<=1073741824)(hv:(!valid ⟨1,Lx.run [2,3,5] src a,0,0⟩)=false):ak Tryz.prog 137 [.ptr 1000000 0] [(1000000,.cells [.data (.str src),.data (.i (a:Int)),.gs 1000001 4 (ts.map Tk.cs)]),(1000001,.tok 4 (ts.map Tk.cs).length)] (.ret (.data (.tuple []))) [(1000000,.cells [.data (.str src),.data (.i ((a+(Lx.run [2,3,5] src a).length:Nat):Int)),.gs 1000001 4 ((ts++[at' ⟨1,Lx.run [2,3,5] src a,0,0⟩ a]).map Tk.cs)]),(1000001,.tok 4 ((ts++[at' ⟨1,Lx.run [2,3,5] src a,0,0⟩ a]).map Tk.cs).length)]:=by
 have hin:=uh (p:=λc=>has [2,3,5] (cls c)) ha
 refine aT Tryz.func137 ?_
 repeat' ((try conv=>whnf)<;>first
  |exact trivial
  |((refine dE ?_ ?_);rfl)
  |((refine dU ?_ ?_ ?_);rotate_left;(exact o8 [2,3,5] src a ts ha hs))
  |((refine lent_step' [(1000000,1000000),(1000001,1000001)] (N8 (Lx.run [2,3,5] src a) ⟨1,Lx.run [2,3,5] src a,0,0⟩ src a ts hv hts (by simp only[Lx.run];omega)) ?_ ?_ ?_ ?_);rotate_left 0;rfl;(exact⟨rfl,rfl,trivial⟩);rfl)
  |((refine bg ?_);refine fin_step' [(1000000,1000000),(1000001,1000001)] rfl ?_ ?_)
  |refine aI.l _ ?_
  |refine And.intro ?_ ?_
  |((refine bP ?_);refine gZ ?_ ?_ ?_;rfl;rfl;(first |exact rfl |skip)))
theorem z19(src:Str)(a:Nat)(ts:List Tk)(ha:a<=src.length)(hs:src.length<=1073741824)(hv:(!valid ⟨1,Lx.run [2,3,5] src a,0,0⟩)=true):ak Tryz.prog 137 [.ptr 1000000 0] [(1000000,.cells [.data (.str src),.data (.i (a:Int)),.gs 1000001 4 (ts.map Tk.cs)]),(1000001,.tok 4 (ts.map Tk.cs).length)] (.pan (.iface 177 (.data (.i (a:Int))))) [(1000000,.cells [.data (.str src),.data (.i (a:Int)),.gs 1000001 4 (ts.map Tk.cs)]),(1000001,.tok 4 (ts.map Tk.cs).length)]:=by
 refine aT Tryz.func137 ?_
 repeat' ((try conv=>whnf)<;>first
  |exact trivial
  |((refine dE ?_ ?_);rfl)
  |((refine dU ?_ ?_ ?_);rotate_left;(exact o8 [2,3,5] src a ts ha hs))
  |((refine lent_step' [(1000000,1000000),(1000001,1000001)] (QO (Lx.run [2,3,5] src a) ⟨1,Lx.run [2,3,5] src a,0,0⟩ src a ts hv) ?_ ?_ ?_ ?_);rotate_left 0;rfl;(exact⟨rfl,rfl,trivial⟩);rfl)
  |((refine dB ?_);refine fin_step' [(1000000,1000000),(1000001,1000001)] rfl ?_ ?_)
  |refine aI.l _ ?_
  |refine And.intro ?_ ?_
  |exact @rfl Block _)
theorem Yc(src:Str)(a:Nat)(ts:List Tk)(v:Int)(ha:a<=src.length)(hs:src.length<=1073741824)(hts:ts.length<=1073741824)(hv:Lib.atoiAll (Lx.run [3] src a) = .ok v)(hi:(!(Lib.itoa v==(Lx.run [3] src a)))=false)(hw:(!valid ⟨2,[],v,0⟩)=false):ak Tryz.prog 138 [.ptr 1000000 0] [(1000000,.cells [.data (.str src),.data (.i (a:Int)),.gs 1000001 4 (ts.map Tk.cs)]),(1000001,.tok 4 (ts.map Tk.cs).length)] (.ret (.data (.tuple []))) [(1000000,.cells [.data (.str src),.data (.i ((a+(Lx.run [3] src a).length:Nat):Int)),.gs 1000001 4 ((ts++[at' ⟨2,[],v,0⟩ a]).map Tk.cs)]),(1000001,.tok 4 ((ts++[at' ⟨2,[],v,0⟩ a]).map Tk.cs).length)]:=by
 have hin:=uh (p:=λc=>has [3] (cls c)) ha
 have hsz:(Lx.run [3] src a).length<=9223372036854775806:=by simp only[Lx.run];omega
 refine aT Tryz.func138 ?_
 repeat' ((try conv=>whnf)<;>first
  |exact trivial
  |refine BrI.intro (λh=>?_) (λh=>?_)
  |((refine G8 ?_ ?_);rfl)
  |exact Bool.noConfusion (hi.symm.trans h)
  |((refine ah ?_ ?_ ?_);rotate_left;(first |exact BV v (jD hv).1 (jD hv).2 |exact NF _ v hsz hv))
  |((refine dE ?_ ?_);rfl)
  |((refine dU ?_ ?_ ?_);rotate_left;(exact o8 [3] src a ts ha hs))
  |((refine lent_step' [(1000000,1000000),(1000001,1000001)] (N8 (Lx.run [3] src a) ⟨2,[],v,0⟩ src a ts hw hts (by simp only[Lx.run];omega)) ?_ ?_ ?_ ?_);rotate_left 0;rfl;(exact⟨rfl,rfl,trivial⟩);rfl)
  |((refine bg ?_);refine fin_step' [(1000000,1000000),(1000001,1000001)] rfl ?_ ?_)
  |refine aI.l _ ?_
  |((refine aK ?_ ?_ (λhg=>?_) ?_);rfl)
  |((refine aY ?_ ?_);rfl;rfl)
  |refine And.intro ?_ ?_
  |((refine bP ?_);refine gZ ?_ ?_ ?_;rfl;rfl;(first |exact rfl |skip)))
theorem N9(src:Str)(a:Nat)(ts:List Tk)(v:Int)(ha:a<=src.length)(hs:src.length<=1073741824)(hv:Lib.atoiAll (Lx.run [3] src a) = .ok v)(hi:(!(Lib.itoa v==(Lx.run [3] src a)))=true):ak Tryz.prog 138 [.ptr 1000000 0] [(1000000,.cells [.data (.str src),.data (.i (a:Int)),.gs 1000001 4 (ts.map Tk.cs)]),(1000001,.tok 4 (ts.map Tk.cs).length)] (.pan (.iface 177 (.data (.i (a:Int))))) [(1000000,.cells [.data (.str src),.data (.i (a:Int)),.gs 1000001 4 (ts.map Tk.cs)]),(1000001,.tok 4 (ts.map Tk.cs).length)]:=by
 have hin:=uh (p:=λc=>has [3] (cls c)) ha
 have hsz:(Lx.run [3] src a).length<=9223372036854775806:=by simp only[Lx.run];omega
 refine aT Tryz.func138 ?_
 repeat' ((try conv=>whnf)<;>first
  |exact trivial
  |refine BrI.intro (λh=>?_) (λh=>?_)
  |((refine G8 ?_ ?_);rfl)
  |exact Bool.noConfusion (hi.symm.trans h)
  |((refine ah ?_ ?_ ?_);rotate_left;(first |exact BV v (jD hv).1 (jD hv).2 |exact NF _ v hsz hv))
  |((refine dE ?_ ?_);rfl)
  |((refine dU ?_ ?_ ?_);rotate_left;(exact o8 [3] src a ts ha hs))
  |((refine dB ?_);refine fin_step' [(1000000,1000000),(1000001,1000001)] rfl ?_ ?_)
  |refine aI.l _ ?_
  |((refine aK ?_ ?_ (λhg=>?_) ?_);rfl)
  |((refine aY ?_ ?_);rfl;rfl)
  |refine And.intro ?_ ?_
  |((refine bP ?_);refine gZ ?_ ?_ ?_;rfl;rfl;(first |exact rfl |skip)))
theorem Oa(src:Str)(a:Nat)(ts:List Tk)(v:Int)(ha:a<=src.length)(hs:src.length<=1073741824)(hv:Lib.atoiAll (Lx.run [3] src a) = .ok v)(hi:(!(Lib.itoa v==(Lx.run [3] src a)))=false)(hw:(!valid ⟨2,[],v,0⟩)=true):ak Tryz.prog 138 [.ptr 1000000 0] [(1000000,.cells [.data (.str src),.data (.i (a:Int)),.gs 1000001 4 (ts.map Tk.cs)]),(1000001,.tok 4 (ts.map Tk.cs).length)] (.pan (.iface 177 (.data (.i (a:Int))))) [(1000000,.cells [.data (.str src),.data (.i (a:Int)),.gs 1000001 4 (ts.map Tk.cs)]),(1000001,.tok 4 (ts.map Tk.cs).length)]:=by
 have hin:=uh (p:=λc=>has [3] (cls c)) ha
 have hsz:(Lx.run [3] src a).length<=9223372036854775806:=by simp only[Lx.run];omega
 refine aT Tryz.func138 ?_
 repeat' ((try conv=>whnf)<;>first
  |exact trivial
  |refine BrI.intro (λh=>?_) (λh=>?_)
  |((refine G8 ?_ ?_);rfl)
  |exact Bool.noConfusion (hi.symm.trans h)
  |((refine ah ?_ ?_ ?_);rotate_left;(first |exact BV v (jD hv).1 (jD hv).2 |exact NF _ v hsz hv))
  |((refine dE ?_ ?_);rfl)
  |((refine dU ?_ ?_ ?_);rotate_left;(exact o8 [3] src a ts ha hs))
  |((refine lent_step' [(1000000,1000000),(1000001,1000001)] (QO (Lx.run [3] src a) ⟨2,[],v,0⟩ src a ts hw) ?_ ?_ ?_ ?_);rotate_left 0;rfl;(exact⟨rfl,rfl,trivial⟩);rfl)
  |((refine dB ?_);refine fin_step' [(1000000,1000000),(1000001,1000001)] rfl ?_ ?_)
  |refine aI.l _ ?_
  |((refine aK ?_ ?_ (λhg=>?_) ?_);rfl)
  |((refine aY ?_ ?_);rfl;rfl)
  |refine And.intro ?_ ?_
  |exact @rfl Block _)
theorem Ob(src:Str)(a:Nat)(ts:List Tk)(ha:a<=src.length)(hs:src.length<=1073741824)(hv:Lib.atoiAll (Lx.run [3] src a) = .range):ak Tryz.prog 138 [.ptr 1000000 0] [(1000000,.cells [.data (.str src),.data (.i (a:Int)),.gs 1000001 4 (ts.map Tk.cs)]),(1000001,.tok 4 (ts.map Tk.cs).length)] (.pan (.iface 177 (.data (.i (a:Int))))) [(1000000,.cells [.data (.str src),.data (.i (a:Int)),.gs 1000001 4 (ts.map Tk.cs)]),(1000001,.tok 4 (ts.map Tk.cs).length)]:=by
 have hin:=uh (p:=λc=>has [3] (cls c)) ha
 have hsz:(Lx.run [3] src a).length<=281474976710656:=by simp only[Lx.run];omega
 refine aT Tryz.func138 ?_
 repeat' ((try conv=>whnf)<;>first
  |exact trivial
  |refine BrI.intro (λh=>?_) (λh=>?_)
  |exact Bool.noConfusion (h:true=false)
  |((refine aK ?_ (.data (.str [])) (λhg=>?_) ?_);rfl;exact Bool.noConfusion (hg:false=true))
  |((refine ah ?_ ?_ ?_);rotate_left;exact SY _ hsz hv)
  |((refine dE ?_ ?_);rfl)
  |((refine dU ?_ ?_ ?_);rotate_left;(exact o8 [3] src a ts ha hs))
  |((refine dB ?_);refine fin_step' [(1000000,1000000),(1000001,1000001)] rfl ?_ ?_)
  |refine aI.l _ ?_
  |refine And.intro ?_ ?_
  |((refine bP ?_);refine gZ ?_ ?_ ?_;rfl;rfl;(first |exact rfl |skip)))
theorem z2a(src:Str)(a:Nat)(ts:List Tk)(ha:a<=src.length)(hs:src.length<=1073741824)(hp:Lib.hasPrefix (src.drop a) [47,47]=true):ak Tryz.prog 139 [.ptr 1000000 0] [(1000000,.cells [.data (.str src),.data (.i (a:Int)),.gs 1000001 4 (ts.map Tk.cs)]),(1000001,.tok 4 (ts.map Tk.cs).length)] (.ret (.data (.tuple []))) [(1000000,.cells [.data (.str src),.data (.i ((a+cmt (src.drop a):Nat):Int)),.gs 1000001 4 (ts.map Tk.cs)]),(1000001,.tok 4 (ts.map Tk.cs).length)]:=by
 refine aT Tryz.func139 ?_
 repeat' ((try conv=>whnf)<;>first
  |exact trivial
  |refine BrI.intro (λh=>?_) (λh=>?_)
  |exact Bool.noConfusion (hp.symm.trans h)
  |((refine ah ?_ ?_ ?_);rotate_left;(first |exact BX _ _ |exact nz (src.drop a) 10))
  |((refine bg ?_);refine fin_step' [(1000000,1000000),(1000001,1000001)] rfl ?_ ?_)
  |refine eQ ?_
  |refine And.intro ?_ ?_
  |((refine bP ?_);refine gZ ?_ ?_ ?_;rfl;rfl;(first |exact rfl |skip)))
 all_goals first
  |((conv=>whnf);exact zac ha hs h)
  |((conv=>whnf);exact zad ha h)
  |omega
theorem zbv(src:Str)(a:Nat)(ts:List Tk)(ha:a<=src.length)(hs:src.length<=1073741824)(hts:ts.length<=1073741824)(hl:a<src.length)(hp:Lib.hasPrefix (src.drop a) [47,47]=false)(hw:(!valid ⟨3,(src.take (a+1)).drop a,0,0⟩)=false):ak Tryz.prog 139 [.ptr 1000000 0] [(1000000,.cells [.data (.str src),.data (.i (a:Int)),.gs 1000001 4 (ts.map Tk.cs)]),(1000001,.tok 4 (ts.map Tk.cs).length)] (.ret (.data (.tuple []))) [(1000000,.cells [.data (.str src),.data (.i ((a+((src.take (a+1)).drop a).length:Nat):Int)),.gs 1000001 4 ((ts++[at' ⟨3,(src.take (a+1)).drop a,0,0⟩ a]).map Tk.cs)]),(1000001,.tok 4 ((ts++[at' ⟨3,(src.take (a+1)).drop a,0,0⟩ a]).map Tk.cs).length)]:=by
 have e1:(src.drop a).take 1=(src.take (a+1)).drop a:=by rw[List.drop_take,Nat.add_sub_cancel_left]
 have e2:((src.take (a+1)).drop a).length=1:=by rw[<-e1];simp;omega
 refine aT Tryz.func139 ?_
 repeat' ((try conv=>whnf)<;>first
  |exact trivial
  |refine BrI.intro (λh=>?_) (λh=>?_)
  |exact Bool.noConfusion (hp.symm.trans h)
  |((refine S9 ?_);rw[zil (a:=a) (by omega)])
  |((refine ah ?_ ?_ ?_);rotate_left;exact BX _ _)
  |((refine lent_step' [(1000000,1000000),(1000001,1000001)] (N8 ((src.take (a+1)).drop a) ⟨3,(src.take (a+1)).drop a,0,0⟩ src a ts hw hts (by omega)) ?_ ?_ ?_ ?_);rotate_left 0;rfl;(exact⟨rfl,rfl,trivial⟩);rfl)
  |((refine bg ?_);refine fin_step' [(1000000,1000000),(1000001,1000001)] rfl ?_ ?_)
  |refine eQ ?_
  |refine And.intro ?_ ?_
  |((refine bP ?_);refine gZ ?_ ?_ ?_;rfl;rfl;(first |exact rfl |skip)))
 all_goals omega
theorem z2c(c0 c1 c2:AV)(v:Int):yT Tryz.prog 134 [.ptr 1000000 0,.ptr 1000001 0,.ptr 1000002 0] (some (.iface 177 (.i v))) [(1000000,.cells [c0]),(1000001,.cells [c1]),(1000002,.cells [c2])]
  [(1000000,.cells [.nilsl 4]),(1000001,.cells [.data (.i v)]),(1000002,.cells [.data (.i 30)])]:=by
 refine dS tok hmix Tryz.func134 rfl (by kernel_rfl) (by kernel_rfl) (by kernel_rfl) ?_
 repeat' ((try conv=>whnf)<;>first
  |exact trivial
  |((refine Zr ?_ ?_);kernel_rfl)
  |refine⟨([]:List (Nat×Nat)),?_⟩
  |refine⟨by kernel_rfl,?_⟩
  |refine⟨rfl,?_⟩
  |refine⟨?_,?_⟩)
theorem zbw(d1 d2:D)(es:List (List D)):yT Tryz.prog 134 [.ptr 1000000 0,.ptr 1000001 0,.ptr 1000002 0] none [(1000000,.cells [.gs 1000003 4 es]),(1000001,.cells [.data d1]),(1000002,.cells [.data d2]),(1000003,.tok 4 es.length)]
  [(1000000,.cells [.gs 1000003 4 es]),(1000001,.cells [.data d1]),(1000002,.cells [.data d2]),(1000003,.tok 4 es.length)]:=by
 refine dS tok hmix Tryz.func134 rfl (by kernel_rfl) (by kernel_rfl) (by kernel_rfl) ?_
 repeat' ((try conv=>whnf)<;>first
  |exact trivial
  |refine⟨([]:List (Nat×Nat)),?_⟩
  |refine⟨by kernel_rfl,?_⟩
  |refine⟨rfl,?_⟩
  |refine⟨?_,?_⟩)
end Go.Proofs.YtgehpmgkaeohaaaGreatDoor
namespace Go.Proofs.YtgehpmgkaeohaaaGreatDoor
open Go.Fw Go.Fw.Lx
open Go.Fw.Sy (CB)
set_option maxRecDepth 10000
variable [ae]
theorem z2d(src:Str)(hL:decide ((src.length:Int)>65536)=true):PCall Tryz.prog 109 [.str src] (.ret (.tuple [.sl 4 [],.i 0,.i 2])):=by
 refine aj Tryz.func109 ?_
 repeat' ((try conv=>whnf)<;>first
  |refine BrI.intro (λh=>?_) (λh=>?_)
  |exact Bool.noConfusion (hL.symm.trans h)
  |(refine cO ?_;conv=>whnf))
 all_goals rfl
theorem CQ(src:Str)(hL:decide ((src.length:Int)>65536)=false):PCall Tryz.prog 109 [.str src] (.ret (XD (lexR pStep src 0))):=by
 refine dh Tryz.func109 λhf=>?_
 have hs:src.length<=1073741824:=by have:=of_decide_eq_false hL;omega
 clear hf
 repeat' ((try conv=>whnf)<;>first
  |exact trivial
  |refine BrI.intro (λh=>?_) (λh=>?_)
  |exact Bool.noConfusion (hL.symm.trans h)
  |refine z5b (JR h) ?_
  |((refine z0w ?_);(have hts:=hI0.2.1);(have ha:=hI0.1);rcases z0y (JR h)with⟨hc,hk,e1⟩ |⟨hc,hv,hk,e2⟩ |⟨hc,hv2,e3⟩ |⟨v,hc,hv,hi,hw,hk,e4⟩ |⟨v,hc,hv,hi1,e5⟩ |⟨v,hc,hv,hi,hw1,e6⟩ |⟨hc,hv3,e7⟩ |⟨hc,hp,hk,hl,e8⟩ |⟨hc,hp1,hw,hk,e9⟩ |⟨hc,e10⟩ |⟨hc,e11⟩<;>rw[hc]<;>refine⟨rfl,⟨by decide,by decide⟩,?_⟩)
  |((refine CB ?_);(refine⟨_,_,_,[(1000000,2),(1000001,3),(1000002,4)],z2c (.nilsl 4) (.data (.i 0)) (.data (.i 0)) (a:Int),rfl,⟨rfl,rfl,rfl,trivial⟩,?_,?_⟩);kernel_rfl)
  |((refine⟨_,_,_,[(1000000,2),(1000001,3),(1000002,4),(1000003,700003)],zbw (.i 0) (.i 0) (ts.map Tk.cs),rfl,⟨rfl,rfl,rfl,rfl,trivial⟩,?_,?_⟩);kernel_rfl)
  |refine⟨([]:List (Nat×Nat)),rfl,?_,trivial⟩
  |((refine au.mk 0 ?_);refine⟨lG (λ(q:(Nat)×(List Tk))=>match q with |(a,ts)=>[]) (λ(q:(Nat)×(List Tk))=>match q with |(a,ts)=>[(15,.cells [.data (.str src),.data (.i (a:Int)),.gs 700003 4 (ts.map Tk.cs)]),(700003,.tok 4 (ts.map Tk.cs).length)]) [0,2,3,4,5,6,999999] (λ(q:(Nat)×(List Tk))=>match q with |(a,ts)=>a<=src.length/\ts.length<=a/\lexR pStep src 0=fin ts (lexR pStep (src.drop a) a)) (λ(q:(Nat)×(List Tk))=>match q with |(a,ts)=>src.length-a),?_⟩;refine eH ((0),([])) ?_ ?_ (λ⟨a,ts⟩ hI0=>?_))
  |refine dm (?_,?_) ?_ ?_ ?_
  |((refine ah ?_ ?_ ?_);rotate_left;exact rF _)
  |((refine lent_step' [(1000000,15),(1000001,700003)] (TK src a ts ha hs) ?_ ?_ ?_ ?_);rotate_left 0;rfl;(exact⟨rfl,rfl,trivial⟩);rfl)
  |((refine lent_step' [(1000000,15),(1000001,700003)] (zbu src a ts ha hs (by omega) hv) ?_ ?_ ?_ ?_);rotate_left 0;rfl;(exact⟨rfl,rfl,trivial⟩);rfl)
  |((refine lent_step' [(1000000,15),(1000001,700003)] (z19 src a ts ha hs hv2) ?_ ?_ ?_ ?_);rotate_left 0;rfl;(exact⟨rfl,rfl,trivial⟩);rfl)
  |((refine lent_step' [(1000000,15),(1000001,700003)] (Yc src a ts v ha hs (by omega) hv hi hw) ?_ ?_ ?_ ?_);rotate_left 0;rfl;(exact⟨rfl,rfl,trivial⟩);rfl)
  |((refine lent_step' [(1000000,15),(1000001,700003)] (N9 src a ts v ha hs hv hi1) ?_ ?_ ?_ ?_);rotate_left 0;rfl;(exact⟨rfl,rfl,trivial⟩);rfl)
  |((refine lent_step' [(1000000,15),(1000001,700003)] (Oa src a ts v ha hs hv hi hw1) ?_ ?_ ?_ ?_);rotate_left 0;rfl;(exact⟨rfl,rfl,trivial⟩);rfl)
  |((refine lent_step' [(1000000,15),(1000001,700003)] (Ob src a ts ha hs hv3) ?_ ?_ ?_ ?_);rotate_left 0;rfl;(exact⟨rfl,rfl,trivial⟩);rfl)
  |((refine lent_step' [(1000000,15),(1000001,700003)] (z2a src a ts ha hs hp) ?_ ?_ ?_ ?_);rotate_left 0;rfl;(exact⟨rfl,rfl,trivial⟩);rfl)
  |((refine lent_step' [(1000000,15),(1000001,700003)] (zbv src a ts ha hs (by omega) (JR (by assumption)) hp1 hw) ?_ ?_ ?_ ?_);rotate_left 0;rfl;(exact⟨rfl,rfl,trivial⟩);rfl)
  |((refine lent_step' [(1000000,15),(1000001,700003)] (TJ src a ts) ?_ ?_ ?_ ?_);rotate_left 0;rfl;(exact⟨rfl,rfl,trivial⟩);rfl)
  |((refine bY ?_ ?_ ?_ ?_ ?_ ?_)<;>exact rfl)
  |((refine di ?_ ?_ ?_ ?_)<;>exact rfl)
  |refine And.intro ?_ ?_
  |((refine mZ ?_ ?_ ?_);rfl;rfl;(first |exact rfl |skip))
  |exact @rfl AV _
  |exact dQ rfl)
 all_goals first
  |(rw[zae];rfl)
  |exact uh (p:=λc=>has _ (cls c)) ha
  |exact hl
  |(rw[hk];exact JR (by assumption))
  |(simp only[List.length_append,List.length_cons,List.length_nil];omega)
  |omega
  |(show src.length-(a+_)<src.length-a;have:=JR (by assumption);omega)
  |(rw[hI0.2.2,e1];done)
  |(rw[hI0.2.2,e8];done)
  |(rw[hI0.2.2,e2,fin_cons];done)
  |(rw[hI0.2.2,e4,fin_cons];done)
  |(rw[hI0.2.2,e9,fin_cons];done)
  |((conv=>whnf);first |exact zah hI0 (by assumption) |exact xW hI0 e3 |exact xW hI0 e5 |exact xW hI0 e6 |exact xW hI0 e7 |exact xW hI0 e10 |exact xW hI0 e11)
end Go.Proofs.YtgehpmgkaeohaaaGreatDoor
