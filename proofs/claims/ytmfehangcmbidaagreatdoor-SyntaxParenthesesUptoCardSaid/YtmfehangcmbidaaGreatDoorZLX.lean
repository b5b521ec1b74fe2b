/- Contracts: package lex: classes, names, the scanner's run and add. -/
import Derived.Test.YtmfehangcmbidaaGreatDoorZDS
set_option linter.unusedSectionVars false
set_option linter.unusedSimpArgs false
set_option linter.unusedVariables false
set_option maxHeartbeats 4000000
namespace Go.Proofs.YtmfehangcmbidaaGreatDoor
open Go.Fw Go.Fw.Lx
set_option maxRecDepth 10000
variable [ae]
theorem pq(c:UInt8)  : aB Tryz.prog 42 [D.u8 c] (.ret (.i (cls c))):=by
 refine ag tok hmix ⟨[],[]⟩ Tryz.func42 rfl (by kernel_rfl) (by kernel_rfl) (by kernel_rfl) λhf=>?_
 clear hf
 repeat' ((try(conv=>whnf))<;>first
  |with_reducible refine BrI.intro (λh=>?_) (λh=>?_)
  |((with_reducible refine ak ?_ ?_ ?_);rotate_left;(exact qy _ _))
  |((with_reducible refine ai ?_);refine⟨[],rfl,?_,trivial⟩;conv=>whnf)
  |fail)
 all_goals(try simp only[Bool.cond_true_left,Bool.cond_false_right,Bool.cond_false_left,Bool.cond_true_right,Bool.not_eq_true',Bool.not_eq_false',bne,Ex.css_len,List.length_map,Int.toNat_zero]at *)
 all_goals first
  |((refine congrArg (λz=>D.val (Value.int IntKind.i64 z)) ?_;simp only[cls,Ref03.letter,Ref03.figure,if_true,if_false,Bool.false_eq_true,reduceIte, *];first |done |exact(if_pos (by assumption)).symm |exact(if_neg (ne_true_of_eq_false (by assumption))).symm))
  |skip
theorem NC(s:Str)  : aB Tryz.prog 89 [.str s] (.ret (.b (EL s))):=by
 refine ag tok hmix ⟨[],[]⟩ Tryz.func89 rfl (by kernel_rfl) (by kernel_rfl) (by kernel_rfl) λhf=>?_
 clear hf
 repeat' ((try(conv=>whnf))<;>first
  |with_reducible exact trivial
  |with_reducible exact aT hd0 ‹_›
  |((with_reducible refine dS hd0 ?_ ?_);(exact rfl))
  |((with_reducible refine dw hd0 ?_ ?_);(exact rfl))
  |with_reducible refine BrI.intro (λh=>?_) (λh=>?_)
  |((with_reducible refine Ju ?_ ?_ ?_);decide;(simp[lX]at hg;have:=List.length_pos_iff.2 hg.1;omega))
  |((with_reducible refine aN.mk 0 ?_);have hlen:s.length<=9223372036854775807:=(by simp only[Bool.cond_true_left,Bool.or_eq_false_iff,decide_eq_false_iff_not]at h;omega);refine⟨bQ (s) 20 (λ(_:Unit)=>[]) (λ(_:Unit)=>[]) [0,19] (λi0 r0 _=>EL s=r0.all PZ),?_⟩;with_reducible refine ay () ?_ ?_ (λi0 (_:Unit) hd0 hI0=>?_) (λi0 x0 r0 (_:Unit) hd0 hl0 hI0=>?_))
  |(with_reducible refine au hd0 () ?_ ?_)
  |((with_reducible refine ak ?_ ?_ ?_);rotate_left;(exact pq _))
  |with_reducible refine XQ hd0 ?_
  |((with_reducible refine aQ ?_ ?_ (λhg=>?_) ?_);exact rfl)
  |((with_reducible refine bK ?_ ?_);with_reducible exact rfl;with_reducible exact rfl)
  |((with_reducible refine ai ?_);refine⟨[],rfl,?_,trivial⟩;conv=>whnf)
  |(with_reducible refine And.intro ?_ ?_)
  |exact @rfl AV _
  |fail)
 all_goals(try simp only[Bool.cond_true_left,Bool.cond_false_right,Bool.cond_false_left,Bool.cond_true_right,Bool.not_eq_true',Bool.not_eq_false',bne,Ex.css_len,List.length_map,Int.toNat_zero]at *)
 all_goals first
  |(rw[hI0];(try simp only[EL,PZ,Bool.not_true,Bool.not_false,Bool.and_true,Bool.true_and,Bool.and_false,Bool.false_and,Bool.or_true,Bool.true_or,Bool.or_false,Bool.false_or,if_true,if_false,reduceIte,Bool.false_eq_true,Bool.not_not,Bool.not_eq_true',beq_self_eq_true,List.all_cons,List.all_nil,List.any_cons,List.any_nil,List.length_map,bne,eq_self,Int.toNat_zero, *]);first |done |rfl)
  |(simp only[EL,PZ,Bool.not_true,Bool.not_false,Bool.and_true,Bool.true_and,Bool.and_false,Bool.false_and,Bool.or_true,Bool.true_or,Bool.or_false,Bool.false_or,if_true,if_false,reduceIte,Bool.false_eq_true,Bool.not_not,Bool.not_eq_true',beq_self_eq_true,List.all_cons,List.all_nil,List.any_cons,List.any_nil,List.length_map,bne,eq_self,Int.toNat_zero, *];done)
  |skip
theorem ND(l:List Int)(v:Int)  : aB Tryz.prog 144 [.sl 1 (l.map iC),.i v] (.ret (.i (idxFrom v l 0))):=by
 refine ag tok hmix ⟨[],[]⟩ Tryz.func144 rfl (by kernel_rfl) (by kernel_rfl) (by kernel_rfl) λhf=>?_
 have hlen:l.length<=9223372036854775807:=by simpa using(hf (.sl 1 (l.map iC)) (by simp)).sl.1
 clear hf
 repeat' ((try(conv=>whnf))<;>first
  |exact trivial
  |exact aT hd0 ‹_›
  |refine jm hd0 ?_
  |refine fH hd0 ?_
  |refine BrI.intro (λh=>?_) (λh=>?_)
  |((refine aN.mk 0 ?_);refine⟨bQ (l) 8 (λ(_:Unit)=>[]) (λ(_:Unit)=>[]) [0,1,7] (λi0 r0 _=>idxFrom v l 0=idxFrom v r0 i0),?_⟩;refine ay () ?_ ?_ (λi0 (_:Unit) hd0 hI0=>?_) (λi0 x0 r0 (_:Unit) hd0 hl0 hI0=>?_))
  |(refine au hd0 () ?_ ?_)
  |((refine bf ?_ ?_ ?_ ?_ ?_);exact rfl;exact rfl;rotate_left;(exact dF hd0))
  |((refine ai ?_);refine⟨[],rfl,?_,trivial⟩;conv=>whnf)
  |(refine And.intro ?_ ?_)
  |exact @rfl AV _
  |fail)
 all_goals first
  |(rw[hI0];(try simp only[idxFrom,Bool.not_true,Bool.not_false,Bool.and_true,Bool.true_and,Bool.and_false,Bool.false_and,Bool.or_true,Bool.true_or,Bool.or_false,Bool.false_or,if_true,if_false,reduceIte,Bool.false_eq_true,Bool.not_not,Bool.not_eq_true',beq_self_eq_true,List.all_cons,List.all_nil,List.any_cons,List.any_nil,List.length_map,bne,eq_self,Int.toNat_zero, *]);first |done |rfl)
  |(simp_all[idxFrom])
  |skip
theorem Vg(l:List Int)(v:Int)  : aB Tryz.prog 122 [.sl 1 (l.map iC),.i v] (.ret (.b (has l v))):=by
 refine ag tok hmix ⟨[],[]⟩ Tryz.func122 rfl (by kernel_rfl) (by kernel_rfl) (by kernel_rfl) λhf=>?_
 clear hf
 repeat' ((try(conv=>whnf))<;>first
  |((refine ak ?_ ?_ ?_);rotate_left;(exact ND _ _))
  |((refine ai ?_);refine⟨[],rfl,?_,trivial⟩;conv=>whnf)
  |fail)
 all_goals first
  |(rfl)
  |skip
theorem vN(t:Tk)  : aB Tryz.prog 43 [t.d] (.ret (.b (valid t))):=by
 refine ag tok hmix ⟨[],[]⟩ Tryz.func43 rfl (by kernel_rfl) (by kernel_rfl) (by kernel_rfl) λhf=>?_
 clear hf
 repeat' ((try(conv=>whnf))<;>first
  |with_reducible refine BrI.intro (λh=>?_) (λh=>?_)
  |((with_reducible refine Ju ?_ ?_ ?_);decide;(simp[lX]at hg;omega))
  |((with_reducible refine ak ?_ ?_ ?_);rotate_left;(first |exact NC _ |exact pq _))
  |((with_reducible refine aQ ?_ ?_ (λhg=>?_) ?_);exact rfl)
  |((with_reducible refine bK ?_ ?_);with_reducible exact rfl;with_reducible exact rfl)
  |((with_reducible refine ai ?_);refine⟨[],rfl,?_,trivial⟩;conv=>whnf)
  |fail)
 all_goals(try simp only[Bool.cond_true_left,Bool.cond_false_right,Bool.cond_false_left,Bool.cond_true_right,Bool.not_eq_true',Bool.not_eq_false',bne,Ex.css_len,List.length_map,Int.toNat_zero]at *)
 all_goals first
  |(simp only[valid,Bool.not_true,Bool.not_false,Bool.and_true,Bool.true_and,Bool.and_false,Bool.false_and,Bool.or_true,Bool.true_or,Bool.or_false,Bool.false_or,if_true,if_false,reduceIte,Bool.false_eq_true,Bool.not_not,Bool.not_eq_true',beq_self_eq_true,List.all_cons,List.all_nil,List.any_cons,List.any_nil,List.length_map,bne,eq_self,Int.toNat_zero, *];done)
  |skip
theorem mV(ks:List Int)(src:Str)(a:Nat)(ts:List Tk)(ha:a<=src.length)(hs:src.length<=1073741824):aB Tryz.prog 85 [.ptr [.str src,.i (a:Int),toks ts],.sl 1 (ks.map iC)] (.ret (.str (Lx.run ks src a))):=by
 refine ag tok hmix ⟨[],[]⟩ Tryz.func85 rfl (by kernel_rfl) (by kernel_rfl) (by kernel_rfl) λhf=>?_
 clear hf
 repeat' ((try(conv=>whnf))<;>first
  |exact trivial
  |refine BrI.intro (λh=>?_) (λh=>?_)
  |((refine Wp (z00 hg) ?_))
  |((refine aN.mk 0 ?_);refine⟨ik (λ(n:(Nat))=>[(5,.data (.val (.int .i64 (n:Nat))))]) (λ(n:(Nat))=>[]) [0,1] (λ(n:(Nat))=>z0x (λc=>has ks (cls c)) src a n) (λ(n:(Nat))=>src.length-n),?_⟩;refine bG (a) ?_ ?_ (λ(n:(Nat)) hI0=>?_))
  |(refine aX (n+1) ?_ ?_ ?_)
  |((refine ak ?_ ?_ ?_);rotate_left;(first |exact pq _ |exact Vg _ _))
  |((refine aQ ?_ ?_ (λhg=>?_) ?_);exact rfl)
  |((refine bK ?_ ?_);exact rfl;exact rfl)
  |((refine aH ?_ ?_);kernel_rfl)
  |((refine ai ?_);refine⟨[],rfl,?_,trivial⟩;conv=>whnf)
  |(refine And.intro ?_ ?_)
  |exact @rfl AV _
  |fail)
 all_goals first
  |((exact MB ha))
  |((exact xx (by have:=hI0.end_;omega)))
  |((have:=Wq h;exact PW hI0 (by omega) this.2))
  |((have:=(Wq h).1;omega))
  |((have:=hI0.le;have:=hI0.end_;omega))
  |((rw[z01,Uk (Uj hI0 (by rcases z0z h with h |h;exact .inl (by omega);exact .inr ⟨by omega,h.2⟩))];rfl))
  |skip
theorem Q9(text:Str)(t:Tk)(src:Str)(a:Nat)(ts:List Tk)(hv:(!valid t)=false)(hts:ts.length<=1073741824)(ha:a+text.length<=1073741824):aA Tryz.prog 86 [.ptr 1000000 0,.data (.str text),.data t.d] [(1000000,.cells [.data (.str src),.data (.i (a:Int)),.gs 1000001 4 (ts.map Tk.cs)]),(1000001,.tok 4 (ts.map Tk.cs).length)] (.ret (.data (.tuple []))) [(1000000,.cells [.data (.str src),.data (.i ((a+text.length:Nat):Int)),.gs 1000001 4 ((ts++[at' t a]).map Tk.cs)]),(1000001,.tok 4 ((ts++[at' t a]).map Tk.cs).length)]:=by
 refine ah tok hmix ⟨[],[]⟩ Tryz.func86 rfl (by kernel_rfl) (by kernel_rfl) (by kernel_rfl) λhf=>?_
 clear hf
 repeat' ((try(conv=>whnf))<;>first
  |with_reducible exact trivial
  |with_reducible refine BrI.intro (λh=>?_) (λh=>?_)
  |(exact Bool.noConfusion (hv.symm.trans h))
  |((with_reducible refine ak ?_ ?_ ?_);rotate_left;(exact vN _))
  |((with_reducible refine ai ?_);refine fin_step' [(1000000,1000000),(1000001,1000001)] rfl ?_ ?_)
  |(with_reducible refine aF.l _ ?_)
  |((with_reducible refine app_step' ?_ ?_ ?_ ?_ ?_ ?_ ?_);exact rfl;exact rfl;exact rfl;exact rfl)
  |((with_reducible refine aH ?_ ?_);kernel_rfl)
  |(with_reducible refine And.intro ?_ ?_)
  |((with_reducible refine gq ?_ ?_);exact rfl;(first |skip))
  |((with_reducible refine aJ ?_);refine dC ?_ ?_ ?_;exact rfl;exact rfl;(first |skip))
  |exact gu rfl
  |fail)
 all_goals(try simp only[Bool.cond_true_left,Bool.cond_false_right,Bool.cond_false_left,Bool.cond_true_right,Bool.not_eq_true',Bool.not_eq_false',bne,Ex.css_len,List.length_map,Int.toNat_zero]at *)
 all_goals first
  |omega
  |((refine Eq.trans ?_ dA;rfl))
  |(((conv=>whnf);(with_reducible refine congrArg D.i (PV ?_));omega))
  |skip
theorem add_bad(text:Str)(t:Tk)(src:Str)(a:Nat)(ts:List Tk)(hv:(!valid t)=true):aA Tryz.prog 86 [.ptr 1000000 0,.data (.str text),.data t.d] [(1000000,.cells [.data (.str src),.data (.i (a:Int)),.gs 1000001 4 (ts.map Tk.cs)]),(1000001,.tok 4 (ts.map Tk.cs).length)] (.pan (.iface 73 (.data (.i (a:Int))))) [(1000000,.cells [.data (.str src),.data (.i (a:Int)),.gs 1000001 4 (ts.map Tk.cs)]),(1000001,.tok 4 (ts.map Tk.cs).length)]:=by
 refine ah tok hmix ⟨[],[]⟩ Tryz.func86 rfl (by kernel_rfl) (by kernel_rfl) (by kernel_rfl) λhf=>?_
 clear hf
 repeat' ((try(conv=>whnf))<;>first
  |exact trivial
  |refine BrI.intro (λh=>?_) (λh=>?_)
  |(exact Bool.noConfusion (hv.symm.trans h))
  |((refine ak ?_ ?_ ?_);rotate_left;(exact vN _))
  |((refine iL ?_);refine fin_step' [(1000000,1000000),(1000001,1000001)] rfl ?_ ?_)
  |(refine And.intro ?_ ?_)
  |((refine aJ ?_);refine dC ?_ ?_ ?_;exact rfl;exact rfl;(first |exact rfl |skip))
  |fail)
theorem NE(src:Str)(a:Nat)(ts:List Tk)  : aA Tryz.prog 37 [.ptr 1000000 0] [(1000000,.cells [.data (.str src),.data (.i (a:Int)),.gs 1000001 4 (ts.map Tk.cs)]),(1000001,.tok 4 (ts.map Tk.cs).length)] (.pan (.iface 73 (.data (.i (a:Int))))) [(1000000,.cells [.data (.str src),.data (.i (a:Int)),.gs 1000001 4 (ts.map Tk.cs)]),(1000001,.tok 4 (ts.map Tk.cs).length)]:=by
 refine ah tok hmix ⟨[],[]⟩ Tryz.func37 rfl (by kernel_rfl) (by kernel_rfl) (by kernel_rfl) λhf=>?_
 clear hf
 repeat' ((try(conv=>whnf))<;>first
  |exact trivial
  |((refine iL ?_);refine fin_step' [(1000000,1000000),(1000001,1000001)] rfl ?_ ?_)
  |(refine And.intro ?_ ?_)
  |((refine aJ ?_);refine dC ?_ ?_ ?_;exact rfl;exact rfl;(first |exact rfl |skip))
  |fail)
theorem NF(src:Str)(a:Nat)(ts:List Tk)(ha:a<=src.length)(hs:src.length<=1073741824):aA Tryz.prog 38 [.ptr 1000000 0] [(1000000,.cells [.data (.str src),.data (.i (a:Int)),.gs 1000001 4 (ts.map Tk.cs)]),(1000001,.tok 4 (ts.map Tk.cs).length)] (.ret (.data (.tuple []))) [(1000000,.cells [.data (.str src),.data (.i ((a+(Lx.run [1] src a).length:Nat):Int)),.gs 1000001 4 (ts.map Tk.cs)]),(1000001,.tok 4 (ts.map Tk.cs).length)]:=by
 refine ah tok hmix ⟨[],[]⟩ Tryz.func38 rfl (by kernel_rfl) (by kernel_rfl) (by kernel_rfl) λhf=>?_
 clear hf
 repeat' ((try(conv=>whnf))<;>first
  |exact trivial
  |((refine dQ ?_ ?_);exact rfl)
  |((refine dP ?_ ?_ ?_);rotate_left;(exact mV [1] src a ts ha hs))
  |((refine ai ?_);refine fin_step' [(1000000,1000000),(1000001,1000001)] rfl ?_ ?_)
  |(refine aF.l _ ?_)
  |((refine aH ?_ ?_);kernel_rfl)
  |(refine And.intro ?_ ?_)
  |((refine aJ ?_);refine dC ?_ ?_ ?_;exact rfl;exact rfl;(first |exact rfl |skip))
  |fail)
 all_goals first
  |(((conv=>whnf);have:=rE (p:=λc=>has [1] (cls c)) ha;(refine congrArg D.i (PV ?_));simp only[Lx.run];omega))
  |skip
theorem Y6(src:Str)(a:Nat)(ts:List Tk)(ha:a<=src.length)(hs:src.length<=1073741824)(hts:ts.length<=1073741824)(hv:(!valid ⟨1,Lx.run [2,3,5] src a,0,0⟩)=false):aA Tryz.prog 39 [.ptr 1000000 0] [(1000000,.cells [.data (.str src),.data (.i (a:Int)),.gs 1000001 4 (ts.map Tk.cs)]),(1000001,.tok 4 (ts.map Tk.cs).length)] (.ret (.data (.tuple []))) [(1000000,.cells [.data (.str src),.data (.i ((a+(Lx.run [2,3,5] src a).length:Nat):Int)),.gs 1000001 4 ((ts++[at' ⟨1,Lx.run [2,3,5] src a,0,0⟩ a]).map Tk.cs)]),(1000001,.tok 4 ((ts++[at' ⟨1,Lx.run [2,3,5] src a,0,0⟩ a]).map Tk.cs).length)]:=by
 have hin:=rE (p:=λc=>has [2,3,5] (cls c)) ha
 refine ah tok hmix ⟨[],[]⟩ Tryz.func39 rfl (by kernel_rfl) (by kernel_rfl) (by kernel_rfl) λhf=>?_
 clear hf
 repeat' ((try(conv=>whnf))<;>first
  |exact trivial
  |((refine dQ ?_ ?_);exact rfl)
  |((refine dP ?_ ?_ ?_);rotate_left;(exact mV [2,3,5] src a ts ha hs))
  |((refine lent_step' [(1000000,1000000),(1000001,1000001)] (Q9 (Lx.run [2,3,5] src a) ⟨1,Lx.run [2,3,5] src a,0,0⟩ src a ts hv hts (by simp only[Lx.run];omega)) ?_ ?_ ?_ ?_);rotate_left 0;exact rfl;(exact⟨rfl,rfl,trivial⟩);exact rfl)
  |((refine ai ?_);refine fin_step' [(1000000,1000000),(1000001,1000001)] rfl ?_ ?_)
  |(refine aF.l _ ?_)
  |(refine And.intro ?_ ?_)
  |((refine aJ ?_);refine dC ?_ ?_ ?_;exact rfl;exact rfl;(first |exact rfl |skip))
  |fail)
 all_goals first
  |skip
theorem Vh(src:Str)(a:Nat)(ts:List Tk)(ha:a<=src.length)(hs:src.length<=1073741824)(hv:(!valid ⟨1,Lx.run [2,3,5] src a,0,0⟩)=true):aA Tryz.prog 39 [.ptr 1000000 0] [(1000000,.cells [.data (.str src),.data (.i (a:Int)),.gs 1000001 4 (ts.map Tk.cs)]),(1000001,.tok 4 (ts.map Tk.cs).length)] (.pan (.iface 73 (.data (.i (a:Int))))) [(1000000,.cells [.data (.str src),.data (.i (a:Int)),.gs 1000001 4 (ts.map Tk.cs)]),(1000001,.tok 4 (ts.map Tk.cs).length)]:=by
 refine ah tok hmix ⟨[],[]⟩ Tryz.func39 rfl (by kernel_rfl) (by kernel_rfl) (by kernel_rfl) λhf=>?_
 clear hf
 repeat' ((try(conv=>whnf))<;>first
  |exact trivial
  |((refine dQ ?_ ?_);exact rfl)
  |((refine dP ?_ ?_ ?_);rotate_left;(exact mV [2,3,5] src a ts ha hs))
  |((refine lent_step' [(1000000,1000000),(1000001,1000001)] (add_bad (Lx.run [2,3,5] src a) ⟨1,Lx.run [2,3,5] src a,0,0⟩ src a ts hv) ?_ ?_ ?_ ?_);rotate_left 0;exact rfl;(exact⟨rfl,rfl,trivial⟩);exact rfl)
  |((refine iL ?_);refine fin_step' [(1000000,1000000),(1000001,1000001)] rfl ?_ ?_)
  |(refine aF.l _ ?_)
  |(refine And.intro ?_ ?_)
  |exact @rfl Block _
  |fail)
 all_goals first
  |skip
theorem Rh(src:Str)(a:Nat)(ts:List Tk)(v:Int)(ha:a<=src.length)(hs:src.length<=1073741824)(hts:ts.length<=1073741824)(hv:Lib.atoiAll (Lx.run [3] src a) = .ok v)(hi:(!(Lib.itoa v==(Lx.run [3] src a)))=false)(hw:(!valid ⟨2,[],v,0⟩)=false):aA Tryz.prog 40 [.ptr 1000000 0] [(1000000,.cells [.data (.str src),.data (.i (a:Int)),.gs 1000001 4 (ts.map Tk.cs)]),(1000001,.tok 4 (ts.map Tk.cs).length)] (.ret (.data (.tuple []))) [(1000000,.cells [.data (.str src),.data (.i ((a+(Lx.run [3] src a).length:Nat):Int)),.gs 1000001 4 ((ts++[at' ⟨2,[],v,0⟩ a]).map Tk.cs)]),(1000001,.tok 4 ((ts++[at' ⟨2,[],v,0⟩ a]).map Tk.cs).length)]:=by
 have hin:=rE (p:=λc=>has [3] (cls c)) ha
 have hsz:(Lx.run [3] src a).length<=9223372036854775806:=by simp only[Lx.run];omega
 refine ah tok hmix ⟨[],[]⟩ Tryz.func40 rfl (by kernel_rfl) (by kernel_rfl) (by kernel_rfl) λhf=>?_
 clear hf
 repeat' ((try(conv=>whnf))<;>first
  |exact trivial
  |refine BrI.intro (λh=>?_) (λh=>?_)
  |((refine CG ?_ ?_);exact rfl)
  |(exact Bool.noConfusion (hi.symm.trans h))
  |((refine ak ?_ ?_ ?_);rotate_left;(first |exact tV v (ja hv).1 (ja hv).2 |exact Hf _ v hsz hv))
  |((refine dQ ?_ ?_);exact rfl)
  |((refine dP ?_ ?_ ?_);rotate_left;(exact mV [3] src a ts ha hs))
  |((refine lent_step' [(1000000,1000000),(1000001,1000001)] (Q9 (Lx.run [3] src a) ⟨2,[],v,0⟩ src a ts hw hts (by simp only[Lx.run];omega)) ?_ ?_ ?_ ?_);rotate_left 0;exact rfl;(exact⟨rfl,rfl,trivial⟩);exact rfl)
  |((refine ai ?_);refine fin_step' [(1000000,1000000),(1000001,1000001)] rfl ?_ ?_)
  |(refine aF.l _ ?_)
  |((refine aQ ?_ ?_ (λhg=>?_) ?_);exact rfl)
  |((refine bK ?_ ?_);exact rfl;exact rfl)
  |(refine And.intro ?_ ?_)
  |((refine aJ ?_);refine dC ?_ ?_ ?_;exact rfl;exact rfl;(first |exact rfl |skip))
  |fail)
 all_goals first
  |skip
theorem Ik(src:Str)(a:Nat)(ts:List Tk)(v:Int)(ha:a<=src.length)(hs:src.length<=1073741824)(hv:Lib.atoiAll (Lx.run [3] src a) = .ok v)(hi:(!(Lib.itoa v==(Lx.run [3] src a)))=true):aA Tryz.prog 40 [.ptr 1000000 0] [(1000000,.cells [.data (.str src),.data (.i (a:Int)),.gs 1000001 4 (ts.map Tk.cs)]),(1000001,.tok 4 (ts.map Tk.cs).length)] (.pan (.iface 73 (.data (.i (a:Int))))) [(1000000,.cells [.data (.str src),.data (.i (a:Int)),.gs 1000001 4 (ts.map Tk.cs)]),(1000001,.tok 4 (ts.map Tk.cs).length)]:=by
 have hin:=rE (p:=λc=>has [3] (cls c)) ha
 have hsz:(Lx.run [3] src a).length<=9223372036854775806:=by simp only[Lx.run];omega
 refine ah tok hmix ⟨[],[]⟩ Tryz.func40 rfl (by kernel_rfl) (by kernel_rfl) (by kernel_rfl) λhf=>?_
 clear hf
 repeat' ((try(conv=>whnf))<;>first
  |exact trivial
  |refine BrI.intro (λh=>?_) (λh=>?_)
  |((refine CG ?_ ?_);exact rfl)
  |(exact Bool.noConfusion (hi.symm.trans h))
  |((refine ak ?_ ?_ ?_);rotate_left;(first |exact tV v (ja hv).1 (ja hv).2 |exact Hf _ v hsz hv))
  |((refine dQ ?_ ?_);exact rfl)
  |((refine dP ?_ ?_ ?_);rotate_left;(exact mV [3] src a ts ha hs))
  |((refine iL ?_);refine fin_step' [(1000000,1000000),(1000001,1000001)] rfl ?_ ?_)
  |(refine aF.l _ ?_)
  |((refine aQ ?_ ?_ (λhg=>?_) ?_);exact rfl)
  |((refine bK ?_ ?_);exact rfl;exact rfl)
  |(refine And.intro ?_ ?_)
  |((refine aJ ?_);refine dC ?_ ?_ ?_;exact rfl;exact rfl;(first |exact rfl |skip))
  |fail)
 all_goals first
  |skip
theorem Il(src:Str)(a:Nat)(ts:List Tk)(v:Int)(ha:a<=src.length)(hs:src.length<=1073741824)(hv:Lib.atoiAll (Lx.run [3] src a) = .ok v)(hi:(!(Lib.itoa v==(Lx.run [3] src a)))=false)(hw:(!valid ⟨2,[],v,0⟩)=true):aA Tryz.prog 40 [.ptr 1000000 0] [(1000000,.cells [.data (.str src),.data (.i (a:Int)),.gs 1000001 4 (ts.map Tk.cs)]),(1000001,.tok 4 (ts.map Tk.cs).length)] (.pan (.iface 73 (.data (.i (a:Int))))) [(1000000,.cells [.data (.str src),.data (.i (a:Int)),.gs 1000001 4 (ts.map Tk.cs)]),(1000001,.tok 4 (ts.map Tk.cs).length)]:=by
 have hin:=rE (p:=λc=>has [3] (cls c)) ha
 have hsz:(Lx.run [3] src a).length<=9223372036854775806:=by simp only[Lx.run];omega
 refine ah tok hmix ⟨[],[]⟩ Tryz.func40 rfl (by kernel_rfl) (by kernel_rfl) (by kernel_rfl) λhf=>?_
 clear hf
 repeat' ((try(conv=>whnf))<;>first
  |exact trivial
  |refine BrI.intro (λh=>?_) (λh=>?_)
  |((refine CG ?_ ?_);exact rfl)
  |(exact Bool.noConfusion (hi.symm.trans h))
  |((refine ak ?_ ?_ ?_);rotate_left;(first |exact tV v (ja hv).1 (ja hv).2 |exact Hf _ v hsz hv))
  |((refine dQ ?_ ?_);exact rfl)
  |((refine dP ?_ ?_ ?_);rotate_left;(exact mV [3] src a ts ha hs))
  |((refine lent_step' [(1000000,1000000),(1000001,1000001)] (add_bad (Lx.run [3] src a) ⟨2,[],v,0⟩ src a ts hw) ?_ ?_ ?_ ?_);rotate_left 0;exact rfl;(exact⟨rfl,rfl,trivial⟩);exact rfl)
  |((refine iL ?_);refine fin_step' [(1000000,1000000),(1000001,1000001)] rfl ?_ ?_)
  |(refine aF.l _ ?_)
  |((refine aQ ?_ ?_ (λhg=>?_) ?_);exact rfl)
  |((refine bK ?_ ?_);exact rfl;exact rfl)
  |(refine And.intro ?_ ?_)
  |exact @rfl Block _
  |fail)
 all_goals first
  |skip
theorem Io(src:Str)(a:Nat)(ts:List Tk)(ha:a<=src.length)(hs:src.length<=1073741824)(hv:Lib.atoiAll (Lx.run [3] src a) = .range):aA Tryz.prog 40 [.ptr 1000000 0] [(1000000,.cells [.data (.str src),.data (.i (a:Int)),.gs 1000001 4 (ts.map Tk.cs)]),(1000001,.tok 4 (ts.map Tk.cs).length)] (.pan (.iface 73 (.data (.i (a:Int))))) [(1000000,.cells [.data (.str src),.data (.i (a:Int)),.gs 1000001 4 (ts.map Tk.cs)]),(1000001,.tok 4 (ts.map Tk.cs).length)]:=by
 have hin:=rE (p:=λc=>has [3] (cls c)) ha
 have hsz:(Lx.run [3] src a).length<=281474976710656:=by simp only[Lx.run];omega
 refine ah tok hmix ⟨[],[]⟩ Tryz.func40 rfl (by kernel_rfl) (by kernel_rfl) (by kernel_rfl) λhf=>?_
 clear hf
 repeat' ((try(conv=>whnf))<;>first
  |exact trivial
  |refine BrI.intro (λh=>?_) (λh=>?_)
  |(exact Bool.noConfusion (h:true=false))
  |((refine aQ ?_ (.data (.str [])) (λhg=>?_) ?_);exact rfl;exact Bool.noConfusion (hg:false=true))
  |((refine ak ?_ ?_ ?_);rotate_left;(exact MC _ hsz hv))
  |((refine dQ ?_ ?_);exact rfl)
  |((refine dP ?_ ?_ ?_);rotate_left;(exact mV [3] src a ts ha hs))
  |((refine iL ?_);refine fin_step' [(1000000,1000000),(1000001,1000001)] rfl ?_ ?_)
  |(refine aF.l _ ?_)
  |(refine And.intro ?_ ?_)
  |((refine aJ ?_);refine dC ?_ ?_ ?_;exact rfl;exact rfl;(first |exact rfl |skip))
  |fail)
theorem Vj(src:Str)(a:Nat)(ts:List Tk)(ha:a<=src.length)(hs:src.length<=1073741824)(hp:Lib.hasPrefix (src.drop a) [47,47]=true):aA Tryz.prog 41 [.ptr 1000000 0] [(1000000,.cells [.data (.str src),.data (.i (a:Int)),.gs 1000001 4 (ts.map Tk.cs)]),(1000001,.tok 4 (ts.map Tk.cs).length)] (.ret (.data (.tuple []))) [(1000000,.cells [.data (.str src),.data (.i ((a+cmt (src.drop a):Nat):Int)),.gs 1000001 4 (ts.map Tk.cs)]),(1000001,.tok 4 (ts.map Tk.cs).length)]:=by
 refine ah tok hmix ⟨[],[]⟩ Tryz.func41 rfl (by kernel_rfl) (by kernel_rfl) (by kernel_rfl) λhf=>?_
 clear hf
 repeat' ((try(conv=>whnf))<;>first
  |exact trivial
  |refine BrI.intro (λh=>?_) (λh=>?_)
  |(exact Bool.noConfusion (hp.symm.trans h))
  |((refine ak ?_ ?_ ?_);rotate_left;(first |exact yX _ _ |exact qy (src.drop a) 10))
  |((refine ai ?_);refine fin_step' [(1000000,1000000),(1000001,1000001)] rfl ?_ ?_)
  |((refine aH ?_ ?_);kernel_rfl)
  |(refine And.intro ?_ ?_)
  |((refine aJ ?_);refine dC ?_ ?_ ?_;exact rfl;exact rfl;(first |exact rfl |skip))
  |fail)
 all_goals first
  |(((conv=>whnf);exact XT ha hs h))
  |(((conv=>whnf);exact XU ha h))
  |(omega)
  |skip
theorem Y7(src:Str)(a:Nat)(ts:List Tk)(ha:a<=src.length)(hs:src.length<=1073741824)(hts:ts.length<=1073741824)(hl:a<src.length)(hp:Lib.hasPrefix (src.drop a) [47,47]=false)(hw:(!valid ⟨3,(src.take (a+1)).drop a,0,0⟩)=false):aA Tryz.prog 41 [.ptr 1000000 0] [(1000000,.cells [.data (.str src),.data (.i (a:Int)),.gs 1000001 4 (ts.map Tk.cs)]),(1000001,.tok 4 (ts.map Tk.cs).length)] (.ret (.data (.tuple []))) [(1000000,.cells [.data (.str src),.data (.i ((a+((src.take (a+1)).drop a).length:Nat):Int)),.gs 1000001 4 ((ts++[at' ⟨3,(src.take (a+1)).drop a,0,0⟩ a]).map Tk.cs)]),(1000001,.tok 4 ((ts++[at' ⟨3,(src.take (a+1)).drop a,0,0⟩ a]).map Tk.cs).length)]:=by
 have e1:(src.drop a).take 1=(src.take (a+1)).drop a:=by rw[List.drop_take,Nat.add_sub_cancel_left]
 have e2:((src.take (a+1)).drop a).length=1:=by rw[<-e1];simp;omega
 refine ah tok hmix ⟨[],[]⟩ Tryz.func41 rfl (by kernel_rfl) (by kernel_rfl) (by kernel_rfl) λhf=>?_
 clear hf
 repeat' ((try(conv=>whnf))<;>first
  |exact trivial
  |refine BrI.intro (λh=>?_) (λh=>?_)
  |(exact Bool.noConfusion (hp.symm.trans h))
  |((refine MF ?_);rw[z5d (a:=a) (by omega)])
  |((refine ak ?_ ?_ ?_);rotate_left;(exact yX _ _))
  |((refine lent_step' [(1000000,1000000),(1000001,1000001)] (Q9 ((src.take (a+1)).drop a) ⟨3,(src.take (a+1)).drop a,0,0⟩ src a ts hw hts (by omega)) ?_ ?_ ?_ ?_);rotate_left 0;exact rfl;(exact⟨rfl,rfl,trivial⟩);exact rfl)
  |((refine ai ?_);refine fin_step' [(1000000,1000000),(1000001,1000001)] rfl ?_ ?_)
  |((refine aH ?_ ?_);kernel_rfl)
  |(refine And.intro ?_ ?_)
  |((refine aJ ?_);refine dC ?_ ?_ ?_;exact rfl;exact rfl;(first |exact rfl |skip))
  |fail)
 all_goals first
  |(omega)
  |skip
theorem Vk(c0 c1 c2:AV)(v:Int):O0 Tryz.prog 36 [.ptr 1000000 0,.ptr 1000001 0,.ptr 1000002 0] (some (.iface 73 (.i v))) [(1000000,.cells [c0]),(1000001,.cells [c1]),(1000002,.cells [c2])]
  [(1000000,.cells [.nilsl 4]),(1000001,.cells [.data (.i v)]),(1000002,.cells [.data (.i 30)])]:=by
 refine lV tok hmix Tryz.func36 rfl (by kernel_rfl) (by kernel_rfl) (by kernel_rfl) ?_
 repeat' ((try(conv=>whnf))<;>first
  |exact trivial
  |((refine xw ?_ ?_);kernel_rfl)
  |(refine⟨([]:List (Nat×Nat)),?_⟩)
  |(refine⟨by kernel_rfl,?_⟩)
  |(refine⟨rfl,?_⟩)
  |(refine⟨?_,?_⟩)
  |fail)
theorem Y8(d1 d2:D)(es:List (List D)):O0 Tryz.prog 36 [.ptr 1000000 0,.ptr 1000001 0,.ptr 1000002 0] none [(1000000,.cells [.gs 1000003 4 es]),(1000001,.cells [.data d1]),(1000002,.cells [.data d2]),(1000003,.tok 4 es.length)]
  [(1000000,.cells [.gs 1000003 4 es]),(1000001,.cells [.data d1]),(1000002,.cells [.data d2]),(1000003,.tok 4 es.length)]:=by
 refine lV tok hmix Tryz.func36 rfl (by kernel_rfl) (by kernel_rfl) (by kernel_rfl) ?_
 repeat' ((try(conv=>whnf))<;>first
  |exact trivial
  |(refine⟨([]:List (Nat×Nat)),?_⟩)
  |(refine⟨by kernel_rfl,?_⟩)
  |(refine⟨rfl,?_⟩)
  |(refine⟨?_,?_⟩)
  |fail)
end Go.Proofs.YtmfehangcmbidaaGreatDoor
namespace Go.Proofs.YtmfehangcmbidaaGreatDoor
open Go.Fw Go.Fw.Lx
open Go.Fw.Sy (zg)
set_option maxRecDepth 10000
variable [ae]
theorem Kq(src:Str)(hL:decide ((src.length:Int)>65536)=true):aB Tryz.prog 15 [.str src] (.ret (.tuple [.sl 4 [],.i 0,.i 2])):=by
 refine ag tok hmix ⟨[],[]⟩ Tryz.func15 rfl (by kernel_rfl) (by kernel_rfl) (by kernel_rfl) λhf=>?_
 clear hf
 repeat' ((try(conv=>whnf))<;>first
  |refine BrI.intro (λh=>?_) (λh=>?_)
  |(exact Bool.noConfusion (hL.symm.trans h))
  |((refine ai ?_);refine⟨[],rfl,?_,trivial⟩;conv=>whnf)
  |fail)
 all_goals first
  |(rfl)
  |skip
theorem oC(src:Str)(hL:decide ((src.length:Int)>65536)=false):aB Tryz.prog 15 [.str src] (.ret (P5 (gz pStep src 0))):=by
 refine ag tok hmix ⟨[],[]⟩ Tryz.func15 rfl (by kernel_rfl) (by kernel_rfl) (by kernel_rfl) λhf=>?_
 have hs:src.length<=1073741824:=by have:=of_decide_eq_false hL;omega
 clear hf
 repeat' ((try(conv=>whnf))<;>first
  |exact trivial
  |refine BrI.intro (λh=>?_) (λh=>?_)
  |(exact Bool.noConfusion (hL.symm.trans h))
  |((refine Wp (EM h) ?_))
  |((refine Ul ?_);(have hts:=hI0.2.1);(have ha:=hI0.1);rcases Ur (EM h)with⟨hc,hk,e1⟩ |⟨hc,hv,hk,e2⟩ |⟨hc,hv2,e3⟩ |⟨v,hc,hv,hi,hw,hk,e4⟩ |⟨v,hc,hv,hi1,e5⟩ |⟨v,hc,hv,hi,hw1,e6⟩ |⟨hc,hv3,e7⟩ |⟨hc,hp,hk,hl,e8⟩ |⟨hc,hp1,hw,hk,e9⟩ |⟨hc,e10⟩ |⟨hc,e11⟩<;>rw[hc]<;>refine⟨rfl,⟨by decide,by decide⟩,?_⟩)
  |((refine zg ?_);(refine⟨_,_,_,[(1000000,2),(1000001,3),(1000002,4)],Vk (.nilsl 4) (.data (.i 0)) (.data (.i 0)) (a:Int),rfl,⟨rfl,rfl,rfl,trivial⟩,?_,?_⟩);kernel_rfl)
  |((refine⟨_,_,_,[(1000000,2),(1000001,3),(1000002,4),(1000003,700003)],Y8 (.i 0) (.i 0) (ts.map Tk.cs),rfl,⟨rfl,rfl,rfl,rfl,trivial⟩,?_,?_⟩);kernel_rfl)
  |(refine⟨([]:List (Nat×Nat)),rfl,?_,trivial⟩)
  |((refine aN.mk 0 ?_);refine⟨ik (λ(q:(Nat)×(List Tk))=>match q with |(a,ts)=>[]) (λ(q:(Nat)×(List Tk))=>match q with |(a,ts)=>[(15,.cells [.data (.str src),.data (.i (a:Int)),.gs 700003 4 (ts.map Tk.cs)]),(700003,.tok 4 (ts.map Tk.cs).length)]) [0,2,3,4,5,6,999999] (λ(q:(Nat)×(List Tk))=>match q with |(a,ts)=>a<=src.length/\ts.length<=a/\gz pStep src 0=fin ts (gz pStep (src.drop a) a)) (λ(q:(Nat)×(List Tk))=>match q with |(a,ts)=>src.length-a),?_⟩;refine bG ((0),([])) ?_ ?_ (λ⟨a,ts⟩ hI0=>?_))
  |(refine aX (?_,?_) ?_ ?_ ?_)
  |((refine ak ?_ ?_ ?_);rotate_left;(exact pq _))
  |((refine lent_step' [(1000000,15),(1000001,700003)] (NF src a ts ha hs) ?_ ?_ ?_ ?_);rotate_left 0;exact rfl;(exact⟨rfl,rfl,trivial⟩);exact rfl)
  |((refine lent_step' [(1000000,15),(1000001,700003)] (Y6 src a ts ha hs (by omega) hv) ?_ ?_ ?_ ?_);rotate_left 0;exact rfl;(exact⟨rfl,rfl,trivial⟩);exact rfl)
  |((refine lent_step' [(1000000,15),(1000001,700003)] (Vh src a ts ha hs hv2) ?_ ?_ ?_ ?_);rotate_left 0;exact rfl;(exact⟨rfl,rfl,trivial⟩);exact rfl)
  |((refine lent_step' [(1000000,15),(1000001,700003)] (Rh src a ts v ha hs (by omega) hv hi hw) ?_ ?_ ?_ ?_);rotate_left 0;exact rfl;(exact⟨rfl,rfl,trivial⟩);exact rfl)
  |((refine lent_step' [(1000000,15),(1000001,700003)] (Ik src a ts v ha hs hv hi1) ?_ ?_ ?_ ?_);rotate_left 0;exact rfl;(exact⟨rfl,rfl,trivial⟩);exact rfl)
  |((refine lent_step' [(1000000,15),(1000001,700003)] (Il src a ts v ha hs hv hi hw1) ?_ ?_ ?_ ?_);rotate_left 0;exact rfl;(exact⟨rfl,rfl,trivial⟩);exact rfl)
  |((refine lent_step' [(1000000,15),(1000001,700003)] (Io src a ts ha hs hv3) ?_ ?_ ?_ ?_);rotate_left 0;exact rfl;(exact⟨rfl,rfl,trivial⟩);exact rfl)
  |((refine lent_step' [(1000000,15),(1000001,700003)] (Vj src a ts ha hs hp) ?_ ?_ ?_ ?_);rotate_left 0;exact rfl;(exact⟨rfl,rfl,trivial⟩);exact rfl)
  |((refine lent_step' [(1000000,15),(1000001,700003)] (Y7 src a ts ha hs (by omega) (EM (by assumption)) hp1 hw) ?_ ?_ ?_ ?_);rotate_left 0;exact rfl;(exact⟨rfl,rfl,trivial⟩);exact rfl)
  |((refine lent_step' [(1000000,15),(1000001,700003)] (NE src a ts) ?_ ?_ ?_ ?_);rotate_left 0;exact rfl;(exact⟨rfl,rfl,trivial⟩);exact rfl)
  |((refine dD ?_ ?_ ?_ ?_ ?_ ?_)<;>exact rfl)
  |((refine dO ?_ ?_ ?_ ?_)<;>exact rfl)
  |(refine And.intro ?_ ?_)
  |((refine vw ?_ ?_ ?_);exact rfl;exact rfl;(first |exact rfl |skip))
  |exact @rfl AV _
  |exact gu rfl
  |fail)
 all_goals first
  |((rw[XV];rfl))
  |((exact rE (p:=λc=>has _ (cls c)) ha))
  |((exact hl))
  |((rw[hk];exact EM (by assumption)))
  |((simp only[List.length_append,List.length_cons,List.length_nil];omega))
  |(omega)
  |((show src.length-(a+_)<src.length-a;have:=EM (by assumption);omega))
  |((rw[hI0.2.2,e1];done))
  |((rw[hI0.2.2,e8];done))
  |((rw[hI0.2.2,e2,CO];done))
  |((rw[hI0.2.2,e4,CO];done))
  |((rw[hI0.2.2,e9,CO];done))
  |(((conv=>whnf);first |exact XW hI0 (by assumption) |exact vC hI0 e3 |exact vC hI0 e5 |exact vC hI0 e6 |exact vC hI0 e7 |exact vC hI0 e10 |exact vC hI0 e11))
  |skip
end Go.Proofs.YtmfehangcmbidaaGreatDoor
namespace Go.Proofs.YtmfehangcmbidaaGreatDoor
open Go.Fw Go.Fw.Lx
set_option maxRecDepth 10000
variable [ae]
theorem kG(l:List Tk)(hl:l.length<=1073741824)(hj:(Lib.join (l.map word) [32]).length<=140737488355328):aB Tryz.prog 16 [toks l] (.ret (EN l)):=by
 refine ag tok hmix ⟨[11],[]⟩ Tryz.func16 rfl (by kernel_rfl) (by kernel_rfl) (by kernel_rfl) λhf=>?_
 have hlen:l.length<=9223372036854775807:=by omega
 clear hf
 repeat' ((try(conv=>whnf))<;>first
  |(refine aF.r 9 ?_)
  |exact trivial
  |exact aT hd0 ‹_›
  |refine jm hd0 ?_
  |refine fH hd0 ?_
  |refine BrI.intro (λh=>?_) (λh=>?_)
  |((refine XR ?_ ?_ ?_ ?_ ?_);exact Int.natCast_nonneg _;exact Int.le_refl _;exact rfl;(rw[List.length_map];omega))
  |((refine ww ?_ ?_ ?_ ?_ ?_);exact rfl;exact rfl;exact rfl)
  |((refine qx ?_ ?_ ?_ ?_ ?_ ?_ ?_ ?_ ?_);exact rfl;exact rfl;exact rfl;exact rfl;exact gu rfl;exact rfl;rotate_left;exact Us ⟨hI0.1,hI0.2.1⟩)
  |((refine aN.mk 11 ?_);refine⟨⟨Unit,λ_=>[(4,.data (.sl 1 ((l.map word).map ve)))],λ_=>[],[],λ_=>l.all valid=true,λ_=>0⟩,?_,λ_ hA=>?_⟩)
  |(refine⟨(),?_,?_⟩)
  |((refine aN.mk 0 ?_);refine⟨bQ (l) 12 (λ(q:(List Str)×(List Tk))=>match q with |(ws,rs)=>[(4,.own 9 0 1 0 (((l.map Tk.cs).length:Int)).toNat)]) (λ(q:(List Str)×(List Tk))=>match q with |(ws,rs)=>[(9,.arr 0 1 (ws.map ve++rs.map tZ))]) [4,10,11] (λi0 r0 q=>match q with |(ws,rs)=>rs=r0/\ws.length=i0/\l.all valid=r0.all valid/\ws++r0.map word=l.map word),?_⟩;refine ay (([]),(l)) ?_ ?_ (λi0 ⟨ws,rs⟩ hd0 hI0=>?_) (λi0 x0 r0 ⟨ws,rs⟩ hd0 hl0 hI0=>?_))
  |(refine au hd0 ((ws++[word x0]),(r0)) ?_ ?_)
  |((refine ak ?_ ?_ ?_);rotate_left;(first |exact vN _ |(refine tV _ (valid_num' ?_ ?_).1 (valid_num' ?_ ?_).2<;>assumption) |exact PY (l.map word) [32] (by rw[List.length_map];exact hl) hj))
  |((refine bf ?_ ?_ ?_ ?_ ?_);exact rfl;exact rfl;rotate_left;(exact dF hd0))
  |((refine bZ ?_ ?_);exact rfl)
  |((refine ai ?_);refine⟨[],rfl,?_,trivial⟩;conv=>whnf)
  |(refine And.intro ?_ ?_)
  |exact @rfl AV _
  |fail)
 all_goals first
  |(rfl)
  |((rw[EN,if_pos (show l.all valid=true from hA)];try rfl))
  |((exact Int.natCast_nonneg _))
  |((rw[Int.toNat_natCast,List.length_map];exact Int.ofNat_lt.2 hl0))
  |((exact hI0.2.2.1))
  |((exact(Jv hI0.1 hI0.2.2.2).1))
  |((exact(Jv hI0.1 hI0.2.2.2).2))
  |((exact Uu hI0.2.2.1 h))
  |(((conv=>whnf);exact congrArg (Block.arr 0 1) (MG l)))
  |((refine congrArg (Block.arr 0 1) (word_set' ⟨hI0.1,hI0.2.1⟩ ?_);simp only[word,h,if_true,if_false,Bool.false_eq_true,reduceIte];done))
  |((rw[List.length_append,hI0.2.1];rfl))
  |((have hv:(!valid x0)=false:=(by assumption);rw[hI0.2.2.1,List.all_cons,(by simpa using hv:valid x0=true),Bool.true_and]))
  |((rw[<-hI0.2.2.2,List.map_cons,List.append_assoc];rfl))
  |skip
end Go.Proofs.YtmfehangcmbidaaGreatDoor
