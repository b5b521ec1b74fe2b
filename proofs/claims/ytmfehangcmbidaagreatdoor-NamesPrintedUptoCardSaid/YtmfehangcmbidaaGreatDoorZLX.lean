/- Contracts: package lex: classes, names, the scanner's run and add. -/
import Derived.Test.YtmfehangcmbidaaGreatDoorZDS
set_option linter.unusedSectionVars false
set_option linter.unusedSimpArgs false
set_option linter.unusedVariables false
set_option maxHeartbeats 4000000
namespace Go.Proofs.YtmfehangcmbidaaGreatDoor
open Go.Fw Go.Fw.Lx
set_option maxRecDepth 10000
variable [ae]
theorem qO(c:UInt8)  : aj Tryz.prog 42 [D.u8 c] (.ret (.i (cls c))):=by
 refine bV Tryz.func42 ?_
 repeat' ((try(conv=>whnf))<;>first
  |with_reducible refine BrI.intro (λh=>?_) (λh=>?_)
  |((with_reducible refine ai ?_ ?_ ?_);rotate_left;(exact l9 _ _))
  |((with_reducible refine aC ?_);refine⟨[],rfl,?_,trivial⟩;conv=>whnf)
  |fail)
 all_goals(try simp only[csimp]at *)
 all_goals first
  |((refine congrArg (λz=>D.val (Value.int IntKind.i64 z)) ?_;simp only[cls,Ref03.letter,Ref03.figure,if_true,if_false,Bool.false_eq_true,reduceIte, *];first |done |exact(if_pos (by assumption)).symm |exact(if_neg (ne_true_of_eq_false (by assumption))).symm))
  |skip
theorem PZ(s:Str)  : aj Tryz.prog 89 [.str s] (.ret (.b (uV s))):=by
 refine bV Tryz.func89 ?_
 repeat' ((try(conv=>whnf))<;>first
  |with_reducible exact trivial
  |with_reducible exact ah hd0 ‹_›
  |((with_reducible refine dC hd0 ?_ ?_);(exact rfl))
  |((with_reducible refine bT hd0 ?_ ?_);(exact rfl))
  |with_reducible refine BrI.intro (λh=>?_) (λh=>?_)
  |((with_reducible refine Ei ?_ ?_ ?_);decide;(simp[lY]at hg;have:=List.length_pos_iff.2 hg.1;omega))
  |((with_reducible refine ak.mk 0 ?_);have hlen:s.length<=9223372036854775807:=(by simp only[Bool.cond_true_left,Bool.or_eq_false_iff,decide_eq_false_iff_not]at h;omega);refine⟨aF (s) 20 (λ(_:Unit)=>[]) (λ(_:Unit)=>[]) [0,19] (λi0 r0 _=>uV s=r0.all BC),?_⟩;with_reducible refine ag () ?_ ?_ (λi0 (_:Unit) hd0 hI0=>?_) (λi0 x0 r0 (_:Unit) hd0 hl0 hI0=>?_))
  |(with_reducible refine af hd0 () ?_ ?_)
  |((with_reducible refine ai ?_ ?_ ?_);rotate_left;(exact qO _))
  |with_reducible refine SL hd0 ?_
  |((with_reducible refine aP ?_ ?_ (λhg=>?_) ?_);exact rfl)
  |((with_reducible refine bH ?_ ?_);with_reducible exact rfl;with_reducible exact rfl)
  |((with_reducible refine aC ?_);refine⟨[],rfl,?_,trivial⟩;conv=>whnf)
  |(with_reducible refine And.intro ?_ ?_)
  |exact @rfl AV _
  |fail)
 all_goals(try simp only[csimp]at *)
 all_goals first
  |(rw[hI0];(try simp only[uV,BC,Bool.not_true,Bool.not_false,Bool.and_true,Bool.true_and,Bool.and_false,Bool.false_and,Bool.or_true,Bool.true_or,Bool.or_false,Bool.false_or,if_true,if_false,reduceIte,Bool.false_eq_true,Bool.not_not,Bool.not_eq_true',beq_self_eq_true,List.all_cons,List.all_nil,List.any_cons,List.any_nil,List.length_map,bne,eq_self,Int.toNat_zero, *]);first |done |rfl)
  |(simp only[uV,BC,Bool.not_true,Bool.not_false,Bool.and_true,Bool.true_and,Bool.and_false,Bool.false_and,Bool.or_true,Bool.true_or,Bool.or_false,Bool.false_or,if_true,if_false,reduceIte,Bool.false_eq_true,Bool.not_not,Bool.not_eq_true',beq_self_eq_true,List.all_cons,List.all_nil,List.any_cons,List.any_nil,List.length_map,bne,eq_self,Int.toNat_zero, *];done)
  |skip
theorem P5(l:List Int)(v:Int)  : aj Tryz.prog 144 [.sl 1 (l.map iC),.i v] (.ret (.i (idxFrom v l 0))):=by
 refine dM Tryz.func144 λhf=>?_
 have hlen:l.length<=9223372036854775807:=by simpa using(hf (.sl 1 (l.map iC)) (by simp)).sl.1
 clear hf
 repeat' ((try(conv=>whnf))<;>first
  |exact trivial
  |exact ah hd0 ‹_›
  |refine bz hd0 ?_
  |refine aS hd0 ?_
  |refine BrI.intro (λh=>?_) (λh=>?_)
  |((refine ak.mk 0 ?_);refine⟨aF (l) 8 (λ(_:Unit)=>[]) (λ(_:Unit)=>[]) [0,1,7] (λi0 r0 _=>idxFrom v l 0=idxFrom v r0 i0),?_⟩;refine ag () ?_ ?_ (λi0 (_:Unit) hd0 hI0=>?_) (λi0 x0 r0 (_:Unit) hd0 hl0 hI0=>?_))
  |(refine af hd0 () ?_ ?_)
  |((refine aJ ?_ ?_ ?_ ?_ ?_);exact rfl;exact rfl;rotate_left;(exact aA hd0))
  |(refine qo ?_;conv=>whnf)
  |(refine And.intro ?_ ?_)
  |exact @rfl AV _
  |fail)
 all_goals first
  |(rw[hI0];(try simp only[idxFrom,Bool.not_true,Bool.not_false,Bool.and_true,Bool.true_and,Bool.and_false,Bool.false_and,Bool.or_true,Bool.true_or,Bool.or_false,Bool.false_or,if_true,if_false,reduceIte,Bool.false_eq_true,Bool.not_not,Bool.not_eq_true',beq_self_eq_true,List.all_cons,List.all_nil,List.any_cons,List.any_nil,List.length_map,bne,eq_self,Int.toNat_zero, *]);first |done |rfl)
  |(simp_all[idxFrom])
  |skip
theorem Xw(l:List Int)(v:Int)  : aj Tryz.prog 122 [.sl 1 (l.map iC),.i v] (.ret (.b (has l v))):=by
 refine bV Tryz.func122 ?_
 repeat' ((try(conv=>whnf))<;>first
  |((refine ai ?_ ?_ ?_);rotate_left;(exact P5 _ _))
  |(refine qo ?_;conv=>whnf)
  |fail)
 all_goals first
  |(rfl)
  |skip
theorem xE(t:Tk)  : aj Tryz.prog 43 [t.d] (.ret (.b (valid t))):=by
 refine bV Tryz.func43 ?_
 repeat' ((try(conv=>whnf))<;>first
  |with_reducible refine BrI.intro (λh=>?_) (λh=>?_)
  |((with_reducible refine Ei ?_ ?_ ?_);decide;(simp[lY]at hg;omega))
  |((with_reducible refine ai ?_ ?_ ?_);rotate_left;(first |exact PZ _ |exact qO _))
  |((with_reducible refine aP ?_ ?_ (λhg=>?_) ?_);exact rfl)
  |((with_reducible refine bH ?_ ?_);with_reducible exact rfl;with_reducible exact rfl)
  |((with_reducible refine aC ?_);refine⟨[],rfl,?_,trivial⟩;conv=>whnf)
  |fail)
 all_goals(try simp only[csimp]at *)
 all_goals first
  |(simp only[valid,Bool.not_true,Bool.not_false,Bool.and_true,Bool.true_and,Bool.and_false,Bool.false_and,Bool.or_true,Bool.true_or,Bool.or_false,Bool.false_or,if_true,if_false,reduceIte,Bool.false_eq_true,Bool.not_not,Bool.not_eq_true',beq_self_eq_true,List.all_cons,List.all_nil,List.any_cons,List.any_nil,List.length_map,bne,eq_self,Int.toNat_zero, *];done)
  |skip
theorem nY(ks:List Int)(src:Str)(a:Nat)(ts:List Tk)(ha:a<=src.length)(hs:src.length<=1073741824):aj Tryz.prog 85 [.ptr [.str src,.i (a:Int),toks ts],.sl 1 (ks.map iC)] (.ret (.str (Lx.run ks src a))):=by
 refine bV Tryz.func85 ?_
 repeat' ((try(conv=>whnf))<;>first
  |exact trivial
  |refine BrI.intro (λh=>?_) (λh=>?_)
  |((refine XZ (z2z hg) ?_))
  |((refine ak.mk 0 ?_);refine⟨jI (λ(n:(Nat))=>[(5,.data (.val (.int .i64 (n:Nat))))]) (λ(n:(Nat))=>[]) [0,1] (λ(n:(Nat))=>z2w (λc=>has ks (cls c)) src a n) (λ(n:(Nat))=>src.length-n),?_⟩;refine dD (a) ?_ ?_ (λ(n:(Nat)) hI0=>?_))
  |(refine bD (n+1) ?_ ?_ ?_)
  |((refine ai ?_ ?_ ?_);rotate_left;(first |exact qO _ |exact Xw _ _))
  |((refine aP ?_ ?_ (λhg=>?_) ?_);exact rfl)
  |((refine bH ?_ ?_);exact rfl;exact rfl)
  |((refine aH ?_ ?_);kernel_rfl)
  |(refine qo ?_;conv=>whnf)
  |(refine And.intro ?_ ?_)
  |exact @rfl AV _
  |fail)
 all_goals first
  |((exact OU ha))
  |((exact LY (by have:=hI0.end_;omega)))
  |((have:=X0 h;exact SQ hI0 (by omega) this.2))
  |((have:=(X0 h).1;omega))
  |((have:=hI0.le;have:=hI0.end_;omega))
  |((rw[z3a,VZ (VY hI0 (by rcases z2y h with h |h;exact .inl (by omega);exact .inr ⟨by omega,h.2⟩))];rfl))
  |skip
theorem U1(text:Str)(t:Tk)(src:Str)(a:Nat)(ts:List Tk)(hv:(!valid t)=false)(hts:ts.length<=1073741824)(ha:a+text.length<=1073741824):ax Tryz.prog 86 [.ptr 1000000 0,.data (.str text),.data t.d] [(1000000,.cells [.data (.str src),.data (.i (a:Int)),.gs 1000001 4 (ts.map Tk.cs)]),(1000001,.tok 4 (ts.map Tk.cs).length)] (.ret (.data (.tuple []))) [(1000000,.cells [.data (.str src),.data (.i ((a+text.length:Nat):Int)),.gs 1000001 4 ((ts++[at' t a]).map Tk.cs)]),(1000001,.tok 4 ((ts++[at' t a]).map Tk.cs).length)]:=by
 refine bg Tryz.func86 ?_
 repeat' ((try(conv=>whnf))<;>first
  |with_reducible exact trivial
  |with_reducible refine BrI.intro (λh=>?_) (λh=>?_)
  |(exact Bool.noConfusion (hv.symm.trans h))
  |((with_reducible refine ai ?_ ?_ ?_);rotate_left;(exact xE _))
  |((with_reducible refine aC ?_);refine fin_step' [(1000000,1000000),(1000001,1000001)] rfl ?_ ?_)
  |(with_reducible refine aB.l _ ?_)
  |((with_reducible refine app_step' ?_ ?_ ?_ ?_ ?_ ?_ ?_);exact rfl;exact rfl;exact rfl;exact rfl)
  |((with_reducible refine aH ?_ ?_);kernel_rfl)
  |(with_reducible refine And.intro ?_ ?_)
  |((with_reducible refine fH ?_ ?_);exact rfl;(first |skip))
  |((with_reducible refine aO ?_);refine dN ?_ ?_ ?_;exact rfl;exact rfl;(first |skip))
  |exact eX rfl
  |fail)
 all_goals(try simp only[csimp]at *)
 all_goals first
  |omega
  |((refine Eq.trans ?_ dO;rfl))
  |(((conv=>whnf);(with_reducible refine congrArg D.i (SN ?_));omega))
  |skip
theorem add_bad(text:Str)(t:Tk)(src:Str)(a:Nat)(ts:List Tk)(hv:(!valid t)=true):ax Tryz.prog 86 [.ptr 1000000 0,.data (.str text),.data t.d] [(1000000,.cells [.data (.str src),.data (.i (a:Int)),.gs 1000001 4 (ts.map Tk.cs)]),(1000001,.tok 4 (ts.map Tk.cs).length)] (.pan (.iface 73 (.data (.i (a:Int))))) [(1000000,.cells [.data (.str src),.data (.i (a:Int)),.gs 1000001 4 (ts.map Tk.cs)]),(1000001,.tok 4 (ts.map Tk.cs).length)]:=by
 refine bg Tryz.func86 ?_
 repeat' ((try(conv=>whnf))<;>first
  |exact trivial
  |refine BrI.intro (λh=>?_) (λh=>?_)
  |(exact Bool.noConfusion (hv.symm.trans h))
  |((refine ai ?_ ?_ ?_);rotate_left;(exact xE _))
  |((refine fJ ?_);refine fin_step' [(1000000,1000000),(1000001,1000001)] rfl ?_ ?_)
  |(refine And.intro ?_ ?_)
  |((refine aO ?_);refine dN ?_ ?_ ?_;exact rfl;exact rfl;(first |exact rfl |skip))
  |fail)
theorem P6(src:Str)(a:Nat)(ts:List Tk)  : ax Tryz.prog 37 [.ptr 1000000 0] [(1000000,.cells [.data (.str src),.data (.i (a:Int)),.gs 1000001 4 (ts.map Tk.cs)]),(1000001,.tok 4 (ts.map Tk.cs).length)] (.pan (.iface 73 (.data (.i (a:Int))))) [(1000000,.cells [.data (.str src),.data (.i (a:Int)),.gs 1000001 4 (ts.map Tk.cs)]),(1000001,.tok 4 (ts.map Tk.cs).length)]:=by
 refine bg Tryz.func37 ?_
 repeat' ((try(conv=>whnf))<;>first
  |exact trivial
  |((refine fJ ?_);refine fin_step' [(1000000,1000000),(1000001,1000001)] rfl ?_ ?_)
  |(refine And.intro ?_ ?_)
  |((refine aO ?_);refine dN ?_ ?_ ?_;exact rfl;exact rfl;(first |exact rfl |skip))
  |fail)
theorem P7(src:Str)(a:Nat)(ts:List Tk)(ha:a<=src.length)(hs:src.length<=1073741824):ax Tryz.prog 38 [.ptr 1000000 0] [(1000000,.cells [.data (.str src),.data (.i (a:Int)),.gs 1000001 4 (ts.map Tk.cs)]),(1000001,.tok 4 (ts.map Tk.cs).length)] (.ret (.data (.tuple []))) [(1000000,.cells [.data (.str src),.data (.i ((a+(Lx.run [1] src a).length:Nat):Int)),.gs 1000001 4 (ts.map Tk.cs)]),(1000001,.tok 4 (ts.map Tk.cs).length)]:=by
 refine bg Tryz.func38 ?_
 repeat' ((try(conv=>whnf))<;>first
  |exact trivial
  |((refine ed ?_ ?_);exact rfl)
  |((refine dZ ?_ ?_ ?_);rotate_left;(exact nY [1] src a ts ha hs))
  |((refine aC ?_);refine fin_step' [(1000000,1000000),(1000001,1000001)] rfl ?_ ?_)
  |(refine aB.l _ ?_)
  |((refine aH ?_ ?_);kernel_rfl)
  |(refine And.intro ?_ ?_)
  |((refine aO ?_);refine dN ?_ ?_ ?_;exact rfl;exact rfl;(first |exact rfl |skip))
  |fail)
 all_goals first
  |(((conv=>whnf);have:=tC (p:=λc=>has [1] (cls c)) ha;(refine congrArg D.i (SN ?_));simp only[Lx.run];omega))
  |skip
theorem z1h(src:Str)(a:Nat)(ts:List Tk)(ha:a<=src.length)(hs:src.length<=1073741824)(hts:ts.length<=1073741824)(hv:(!valid ⟨1,Lx.run [2,3,5] src a,0,0⟩)=false):ax Tryz.prog 39 [.ptr 1000000 0] [(1000000,.cells [.data (.str src),.data (.i (a:Int)),.gs 1000001 4 (ts.map Tk.cs)]),(1000001,.tok 4 (ts.map Tk.cs).length)] (.ret (.data (.tuple []))) [(1000000,.cells [.data (.str src),.data (.i ((a+(Lx.run [2,3,5] src a).length:Nat):Int)),.gs 1000001 4 ((ts++[at' ⟨1,Lx.run [2,3,5] src a,0,0⟩ a]).map Tk.cs)]),(1000001,.tok 4 ((ts++[at' ⟨1,Lx.run [2,3,5] src a,0,0⟩ a]).map Tk.cs).length)]:=by
 have hin:=tC (p:=λc=>has [2,3,5] (cls c)) ha
 refine bg Tryz.func39 ?_
 repeat' ((try(conv=>whnf))<;>first
  |exact trivial
  |((refine ed ?_ ?_);exact rfl)
  |((refine dZ ?_ ?_ ?_);rotate_left;(exact nY [2,3,5] src a ts ha hs))
  |((refine lent_step' [(1000000,1000000),(1000001,1000001)] (U1 (Lx.run [2,3,5] src a) ⟨1,Lx.run [2,3,5] src a,0,0⟩ src a ts hv hts (by simp only[Lx.run];omega)) ?_ ?_ ?_ ?_);rotate_left 0;exact rfl;(exact⟨rfl,rfl,trivial⟩);exact rfl)
  |((refine aC ?_);refine fin_step' [(1000000,1000000),(1000001,1000001)] rfl ?_ ?_)
  |(refine aB.l _ ?_)
  |(refine And.intro ?_ ?_)
  |((refine aO ?_);refine dN ?_ ?_ ?_;exact rfl;exact rfl;(first |exact rfl |skip))
  |fail)
 all_goals first
  |skip
theorem Xx(src:Str)(a:Nat)(ts:List Tk)(ha:a<=src.length)(hs:src.length<=1073741824)(hv:(!valid ⟨1,Lx.run [2,3,5] src a,0,0⟩)=true):ax Tryz.prog 39 [.ptr 1000000 0] [(1000000,.cells [.data (.str src),.data (.i (a:Int)),.gs 1000001 4 (ts.map Tk.cs)]),(1000001,.tok 4 (ts.map Tk.cs).length)] (.pan (.iface 73 (.data (.i (a:Int))))) [(1000000,.cells [.data (.str src),.data (.i (a:Int)),.gs 1000001 4 (ts.map Tk.cs)]),(1000001,.tok 4 (ts.map Tk.cs).length)]:=by
 refine bg Tryz.func39 ?_
 repeat' ((try(conv=>whnf))<;>first
  |exact trivial
  |((refine ed ?_ ?_);exact rfl)
  |((refine dZ ?_ ?_ ?_);rotate_left;(exact nY [2,3,5] src a ts ha hs))
  |((refine lent_step' [(1000000,1000000),(1000001,1000001)] (add_bad (Lx.run [2,3,5] src a) ⟨1,Lx.run [2,3,5] src a,0,0⟩ src a ts hv) ?_ ?_ ?_ ?_);rotate_left 0;exact rfl;(exact⟨rfl,rfl,trivial⟩);exact rfl)
  |((refine fJ ?_);refine fin_step' [(1000000,1000000),(1000001,1000001)] rfl ?_ ?_)
  |(refine aB.l _ ?_)
  |(refine And.intro ?_ ?_)
  |exact @rfl Block _
  |fail)
 all_goals first
  |skip
theorem U2(src:Str)(a:Nat)(ts:List Tk)(v:Int)(ha:a<=src.length)(hs:src.length<=1073741824)(hts:ts.length<=1073741824)(hv:Lib.atoiAll (Lx.run [3] src a) = .ok v)(hi:(!(Lib.itoa v==(Lx.run [3] src a)))=false)(hw:(!valid ⟨2,[],v,0⟩)=false):ax Tryz.prog 40 [.ptr 1000000 0] [(1000000,.cells [.data (.str src),.data (.i (a:Int)),.gs 1000001 4 (ts.map Tk.cs)]),(1000001,.tok 4 (ts.map Tk.cs).length)] (.ret (.data (.tuple []))) [(1000000,.cells [.data (.str src),.data (.i ((a+(Lx.run [3] src a).length:Nat):Int)),.gs 1000001 4 ((ts++[at' ⟨2,[],v,0⟩ a]).map Tk.cs)]),(1000001,.tok 4 ((ts++[at' ⟨2,[],v,0⟩ a]).map Tk.cs).length)]:=by
 have hin:=tC (p:=λc=>has [3] (cls c)) ha
 have hsz:(Lx.run [3] src a).length<=9223372036854775806:=by simp only[Lx.run];omega
 refine bg Tryz.func40 ?_
 repeat' ((try(conv=>whnf))<;>first
  |exact trivial
  |refine BrI.intro (λh=>?_) (λh=>?_)
  |((refine Ej ?_ ?_);exact rfl)
  |(exact Bool.noConfusion (hi.symm.trans h))
  |((refine ai ?_ ?_ ?_);rotate_left;(first |exact uU v (jr hv).1 (jr hv).2 |exact JC _ v hsz hv))
  |((refine ed ?_ ?_);exact rfl)
  |((refine dZ ?_ ?_ ?_);rotate_left;(exact nY [3] src a ts ha hs))
  |((refine lent_step' [(1000000,1000000),(1000001,1000001)] (U1 (Lx.run [3] src a) ⟨2,[],v,0⟩ src a ts hw hts (by simp only[Lx.run];omega)) ?_ ?_ ?_ ?_);rotate_left 0;exact rfl;(exact⟨rfl,rfl,trivial⟩);exact rfl)
  |((refine aC ?_);refine fin_step' [(1000000,1000000),(1000001,1000001)] rfl ?_ ?_)
  |(refine aB.l _ ?_)
  |((refine aP ?_ ?_ (λhg=>?_) ?_);exact rfl)
  |((refine bH ?_ ?_);exact rfl;exact rfl)
  |(refine And.intro ?_ ?_)
  |((refine aO ?_);refine dN ?_ ?_ ?_;exact rfl;exact rfl;(first |exact rfl |skip))
  |fail)
 all_goals first
  |skip
theorem Ku(src:Str)(a:Nat)(ts:List Tk)(v:Int)(ha:a<=src.length)(hs:src.length<=1073741824)(hv:Lib.atoiAll (Lx.run [3] src a) = .ok v)(hi:(!(Lib.itoa v==(Lx.run [3] src a)))=true):ax Tryz.prog 40 [.ptr 1000000 0] [(1000000,.cells [.data (.str src),.data (.i (a:Int)),.gs 1000001 4 (ts.map Tk.cs)]),(1000001,.tok 4 (ts.map Tk.cs).length)] (.pan (.iface 73 (.data (.i (a:Int))))) [(1000000,.cells [.data (.str src),.data (.i (a:Int)),.gs 1000001 4 (ts.map Tk.cs)]),(1000001,.tok 4 (ts.map Tk.cs).length)]:=by
 have hin:=tC (p:=λc=>has [3] (cls c)) ha
 have hsz:(Lx.run [3] src a).length<=9223372036854775806:=by simp only[Lx.run];omega
 refine bg Tryz.func40 ?_
 repeat' ((try(conv=>whnf))<;>first
  |exact trivial
  |refine BrI.intro (λh=>?_) (λh=>?_)
  |((refine Ej ?_ ?_);exact rfl)
  |(exact Bool.noConfusion (hi.symm.trans h))
  |((refine ai ?_ ?_ ?_);rotate_left;(first |exact uU v (jr hv).1 (jr hv).2 |exact JC _ v hsz hv))
  |((refine ed ?_ ?_);exact rfl)
  |((refine dZ ?_ ?_ ?_);rotate_left;(exact nY [3] src a ts ha hs))
  |((refine fJ ?_);refine fin_step' [(1000000,1000000),(1000001,1000001)] rfl ?_ ?_)
  |(refine aB.l _ ?_)
  |((refine aP ?_ ?_ (λhg=>?_) ?_);exact rfl)
  |((refine bH ?_ ?_);exact rfl;exact rfl)
  |(refine And.intro ?_ ?_)
  |((refine aO ?_);refine dN ?_ ?_ ?_;exact rfl;exact rfl;(first |exact rfl |skip))
  |fail)
 all_goals first
  |skip
theorem Kv(src:Str)(a:Nat)(ts:List Tk)(v:Int)(ha:a<=src.length)(hs:src.length<=1073741824)(hv:Lib.atoiAll (Lx.run [3] src a) = .ok v)(hi:(!(Lib.itoa v==(Lx.run [3] src a)))=false)(hw:(!valid ⟨2,[],v,0⟩)=true):ax Tryz.prog 40 [.ptr 1000000 0] [(1000000,.cells [.data (.str src),.data (.i (a:Int)),.gs 1000001 4 (ts.map Tk.cs)]),(1000001,.tok 4 (ts.map Tk.cs).length)] (.pan (.iface 73 (.data (.i (a:Int))))) [(1000000,.cells [.data (.str src),.data (.i (a:Int)),.gs 1000001 4 (ts.map Tk.cs)]),(1000001,.tok 4 (ts.map Tk.cs).length)]:=by
 have hin:=tC (p:=λc=>has [3] (cls c)) ha
 have hsz:(Lx.run [3] src a).length<=9223372036854775806:=by simp only[Lx.run];omega
 refine bg Tryz.func40 ?_
 repeat' ((try(conv=>whnf))<;>first
  |exact trivial
  |refine BrI.intro (λh=>?_) (λh=>?_)
  |((refine Ej ?_ ?_);exact rfl)
  |(exact Bool.noConfusion (hi.symm.trans h))
  |((refine ai ?_ ?_ ?_);rotate_left;(first |exact uU v (jr hv).1 (jr hv).2 |exact JC _ v hsz hv))
  |((refine ed ?_ ?_);exact rfl)
  |((refine dZ ?_ ?_ ?_);rotate_left;(exact nY [3] src a ts ha hs))
  |((refine lent_step' [(1000000,1000000),(1000001,1000001)] (add_bad (Lx.run [3] src a) ⟨2,[],v,0⟩ src a ts hw) ?_ ?_ ?_ ?_);rotate_left 0;exact rfl;(exact⟨rfl,rfl,trivial⟩);exact rfl)
  |((refine fJ ?_);refine fin_step' [(1000000,1000000),(1000001,1000001)] rfl ?_ ?_)
  |(refine aB.l _ ?_)
  |((refine aP ?_ ?_ (λhg=>?_) ?_);exact rfl)
  |((refine bH ?_ ?_);exact rfl;exact rfl)
  |(refine And.intro ?_ ?_)
  |exact @rfl Block _
  |fail)
 all_goals first
  |skip
theorem Kw(src:Str)(a:Nat)(ts:List Tk)(ha:a<=src.length)(hs:src.length<=1073741824)(hv:Lib.atoiAll (Lx.run [3] src a) = .range):ax Tryz.prog 40 [.ptr 1000000 0] [(1000000,.cells [.data (.str src),.data (.i (a:Int)),.gs 1000001 4 (ts.map Tk.cs)]),(1000001,.tok 4 (ts.map Tk.cs).length)] (.pan (.iface 73 (.data (.i (a:Int))))) [(1000000,.cells [.data (.str src),.data (.i (a:Int)),.gs 1000001 4 (ts.map Tk.cs)]),(1000001,.tok 4 (ts.map Tk.cs).length)]:=by
 have hin:=tC (p:=λc=>has [3] (cls c)) ha
 have hsz:(Lx.run [3] src a).length<=281474976710656:=by simp only[Lx.run];omega
 refine bg Tryz.func40 ?_
 repeat' ((try(conv=>whnf))<;>first
  |exact trivial
  |refine BrI.intro (λh=>?_) (λh=>?_)
  |(exact Bool.noConfusion (h:true=false))
  |((refine aP ?_ (.data (.str [])) (λhg=>?_) ?_);exact rfl;exact Bool.noConfusion (hg:false=true))
  |((refine ai ?_ ?_ ?_);rotate_left;(exact OV _ hsz hv))
  |((refine ed ?_ ?_);exact rfl)
  |((refine dZ ?_ ?_ ?_);rotate_left;(exact nY [3] src a ts ha hs))
  |((refine fJ ?_);refine fin_step' [(1000000,1000000),(1000001,1000001)] rfl ?_ ?_)
  |(refine aB.l _ ?_)
  |(refine And.intro ?_ ?_)
  |((refine aO ?_);refine dN ?_ ?_ ?_;exact rfl;exact rfl;(first |exact rfl |skip))
  |fail)
theorem Xy(src:Str)(a:Nat)(ts:List Tk)(ha:a<=src.length)(hs:src.length<=1073741824)(hp:Lib.hasPrefix (src.drop a) [47,47]=true):ax Tryz.prog 41 [.ptr 1000000 0] [(1000000,.cells [.data (.str src),.data (.i (a:Int)),.gs 1000001 4 (ts.map Tk.cs)]),(1000001,.tok 4 (ts.map Tk.cs).length)] (.ret (.data (.tuple []))) [(1000000,.cells [.data (.str src),.data (.i ((a+cmt (src.drop a):Nat):Int)),.gs 1000001 4 (ts.map Tk.cs)]),(1000001,.tok 4 (ts.map Tk.cs).length)]:=by
 refine bg Tryz.func41 ?_
 repeat' ((try(conv=>whnf))<;>first
  |exact trivial
  |refine BrI.intro (λh=>?_) (λh=>?_)
  |(exact Bool.noConfusion (hp.symm.trans h))
  |((refine ai ?_ ?_ ?_);rotate_left;(first |exact zZ _ _ |exact l9 (src.drop a) 10))
  |((refine aC ?_);refine fin_step' [(1000000,1000000),(1000001,1000001)] rfl ?_ ?_)
  |((refine aH ?_ ?_);kernel_rfl)
  |(refine And.intro ?_ ?_)
  |((refine aO ?_);refine dN ?_ ?_ ?_;exact rfl;exact rfl;(first |exact rfl |skip))
  |fail)
 all_goals first
  |(((conv=>whnf);exact Zi ha hs h))
  |(((conv=>whnf);exact Zj ha h))
  |(omega)
  |skip
theorem z1i(src:Str)(a:Nat)(ts:List Tk)(ha:a<=src.length)(hs:src.length<=1073741824)(hts:ts.length<=1073741824)(hl:a<src.length)(hp:Lib.hasPrefix (src.drop a) [47,47]=false)(hw:(!valid ⟨3,(src.take (a+1)).drop a,0,0⟩)=false):ax Tryz.prog 41 [.ptr 1000000 0] [(1000000,.cells [.data (.str src),.data (.i (a:Int)),.gs 1000001 4 (ts.map Tk.cs)]),(1000001,.tok 4 (ts.map Tk.cs).length)] (.ret (.data (.tuple []))) [(1000000,.cells [.data (.str src),.data (.i ((a+((src.take (a+1)).drop a).length:Nat):Int)),.gs 1000001 4 ((ts++[at' ⟨3,(src.take (a+1)).drop a,0,0⟩ a]).map Tk.cs)]),(1000001,.tok 4 ((ts++[at' ⟨3,(src.take (a+1)).drop a,0,0⟩ a]).map Tk.cs).length)]:=by
 have e1:(src.drop a).take 1=(src.take (a+1)).drop a:=by rw[List.drop_take,Nat.add_sub_cancel_left]
 have e2:((src.take (a+1)).drop a).length=1:=by rw[<-e1];simp;omega
 refine bg Tryz.func41 ?_
 repeat' ((try(conv=>whnf))<;>first
  |exact trivial
  |refine BrI.intro (λh=>?_) (λh=>?_)
  |(exact Bool.noConfusion (hp.symm.trans h))
  |((refine OW ?_);rw[z6y (a:=a) (by omega)])
  |((refine ai ?_ ?_ ?_);rotate_left;(exact zZ _ _))
  |((refine lent_step' [(1000000,1000000),(1000001,1000001)] (U1 ((src.take (a+1)).drop a) ⟨3,(src.take (a+1)).drop a,0,0⟩ src a ts hw hts (by omega)) ?_ ?_ ?_ ?_);rotate_left 0;exact rfl;(exact⟨rfl,rfl,trivial⟩);exact rfl)
  |((refine aC ?_);refine fin_step' [(1000000,1000000),(1000001,1000001)] rfl ?_ ?_)
  |((refine aH ?_ ?_);kernel_rfl)
  |(refine And.intro ?_ ?_)
  |((refine aO ?_);refine dN ?_ ?_ ?_;exact rfl;exact rfl;(first |exact rfl |skip))
  |fail)
 all_goals first
  |(omega)
  |skip
theorem Xz(c0 c1 c2:AV)(v:Int):Gp Tryz.prog 36 [.ptr 1000000 0,.ptr 1000001 0,.ptr 1000002 0] (some (.iface 73 (.i v))) [(1000000,.cells [c0]),(1000001,.cells [c1]),(1000002,.cells [c2])]
  [(1000000,.cells [.nilsl 4]),(1000001,.cells [.data (.i v)]),(1000002,.cells [.data (.i 30)])]:=by
 refine iJ tok hmix Tryz.func36 rfl (by kernel_rfl) (by kernel_rfl) (by kernel_rfl) ?_
 repeat' ((try(conv=>whnf))<;>first
  |exact trivial
  |((refine VW ?_ ?_);kernel_rfl)
  |(refine⟨([]:List (Nat×Nat)),?_⟩)
  |(refine⟨by kernel_rfl,?_⟩)
  |(refine⟨rfl,?_⟩)
  |(refine⟨?_,?_⟩)
  |fail)
theorem z1j(d1 d2:D)(es:List (List D)):Gp Tryz.prog 36 [.ptr 1000000 0,.ptr 1000001 0,.ptr 1000002 0] none [(1000000,.cells [.gs 1000003 4 es]),(1000001,.cells [.data d1]),(1000002,.cells [.data d2]),(1000003,.tok 4 es.length)]
  [(1000000,.cells [.gs 1000003 4 es]),(1000001,.cells [.data d1]),(1000002,.cells [.data d2]),(1000003,.tok 4 es.length)]:=by
 refine iJ tok hmix Tryz.func36 rfl (by kernel_rfl) (by kernel_rfl) (by kernel_rfl) ?_
 repeat' ((try(conv=>whnf))<;>first
  |exact trivial
  |(refine⟨([]:List (Nat×Nat)),?_⟩)
  |(refine⟨by kernel_rfl,?_⟩)
  |(refine⟨rfl,?_⟩)
  |(refine⟨?_,?_⟩)
  |fail)
end Go.Proofs.YtmfehangcmbidaaGreatDoor
namespace Go.Proofs.YtmfehangcmbidaaGreatDoor
open Go.Fw Go.Fw.Lx
open Go.Fw.Sy (fK)
set_option maxRecDepth 10000
variable [ae]
theorem XA(src:Str)(hL:decide ((src.length:Int)>65536)=true):aj Tryz.prog 15 [.str src] (.ret (.tuple [.sl 4 [],.i 0,.i 2])):=by
 refine bV Tryz.func15 ?_
 repeat' ((try(conv=>whnf))<;>first
  |refine BrI.intro (λh=>?_) (λh=>?_)
  |(exact Bool.noConfusion (hL.symm.trans h))
  |(refine qo ?_;conv=>whnf)
  |fail)
 all_goals first
  |(rfl)
  |skip
theorem Ba(src:Str)(hL:decide ((src.length:Int)>65536)=false):aj Tryz.prog 15 [.str src] (.ret (SX (jl pStep src 0))):=by
 refine dM Tryz.func15 λhf=>?_
 have hs:src.length<=1073741824:=by have:=of_decide_eq_false hL;omega
 clear hf
 repeat' ((try(conv=>whnf))<;>first
  |exact trivial
  |refine BrI.intro (λh=>?_) (λh=>?_)
  |(exact Bool.noConfusion (hL.symm.trans h))
  |((refine XZ (GU h) ?_))
  |((refine V3 ?_);(have hts:=hI0.2.1);(have ha:=hI0.1);rcases V7 (GU h)with⟨hc,hk,e1⟩ |⟨hc,hv,hk,e2⟩ |⟨hc,hv2,e3⟩ |⟨v,hc,hv,hi,hw,hk,e4⟩ |⟨v,hc,hv,hi1,e5⟩ |⟨v,hc,hv,hi,hw1,e6⟩ |⟨hc,hv3,e7⟩ |⟨hc,hp,hk,hl,e8⟩ |⟨hc,hp1,hw,hk,e9⟩ |⟨hc,e10⟩ |⟨hc,e11⟩<;>rw[hc]<;>refine⟨rfl,⟨by decide,by decide⟩,?_⟩)
  |((refine fK ?_);(refine⟨_,_,_,[(1000000,2),(1000001,3),(1000002,4)],Xz (.nilsl 4) (.data (.i 0)) (.data (.i 0)) (a:Int),rfl,⟨rfl,rfl,rfl,trivial⟩,?_,?_⟩);kernel_rfl)
  |((refine⟨_,_,_,[(1000000,2),(1000001,3),(1000002,4),(1000003,700003)],z1j (.i 0) (.i 0) (ts.map Tk.cs),rfl,⟨rfl,rfl,rfl,rfl,trivial⟩,?_,?_⟩);kernel_rfl)
  |(refine⟨([]:List (Nat×Nat)),rfl,?_,trivial⟩)
  |((refine ak.mk 0 ?_);refine⟨jI (λ(q:(Nat)×(List Tk))=>match q with |(a,ts)=>[]) (λ(q:(Nat)×(List Tk))=>match q with |(a,ts)=>[(15,.cells [.data (.str src),.data (.i (a:Int)),.gs 700003 4 (ts.map Tk.cs)]),(700003,.tok 4 (ts.map Tk.cs).length)]) [0,2,3,4,5,6,999999] (λ(q:(Nat)×(List Tk))=>match q with |(a,ts)=>a<=src.length/\ts.length<=a/\jl pStep src 0=fin ts (jl pStep (src.drop a) a)) (λ(q:(Nat)×(List Tk))=>match q with |(a,ts)=>src.length-a),?_⟩;refine dD ((0),([])) ?_ ?_ (λ⟨a,ts⟩ hI0=>?_))
  |(refine bD (?_,?_) ?_ ?_ ?_)
  |((refine ai ?_ ?_ ?_);rotate_left;(exact qO _))
  |((refine lent_step' [(1000000,15),(1000001,700003)] (P7 src a ts ha hs) ?_ ?_ ?_ ?_);rotate_left 0;exact rfl;(exact⟨rfl,rfl,trivial⟩);exact rfl)
  |((refine lent_step' [(1000000,15),(1000001,700003)] (z1h src a ts ha hs (by omega) hv) ?_ ?_ ?_ ?_);rotate_left 0;exact rfl;(exact⟨rfl,rfl,trivial⟩);exact rfl)
  |((refine lent_step' [(1000000,15),(1000001,700003)] (Xx src a ts ha hs hv2) ?_ ?_ ?_ ?_);rotate_left 0;exact rfl;(exact⟨rfl,rfl,trivial⟩);exact rfl)
  |((refine lent_step' [(1000000,15),(1000001,700003)] (U2 src a ts v ha hs (by omega) hv hi hw) ?_ ?_ ?_ ?_);rotate_left 0;exact rfl;(exact⟨rfl,rfl,trivial⟩);exact rfl)
  |((refine lent_step' [(1000000,15),(1000001,700003)] (Ku src a ts v ha hs hv hi1) ?_ ?_ ?_ ?_);rotate_left 0;exact rfl;(exact⟨rfl,rfl,trivial⟩);exact rfl)
  |((refine lent_step' [(1000000,15),(1000001,700003)] (Kv src a ts v ha hs hv hi hw1) ?_ ?_ ?_ ?_);rotate_left 0;exact rfl;(exact⟨rfl,rfl,trivial⟩);exact rfl)
  |((refine lent_step' [(1000000,15),(1000001,700003)] (Kw src a ts ha hs hv3) ?_ ?_ ?_ ?_);rotate_left 0;exact rfl;(exact⟨rfl,rfl,trivial⟩);exact rfl)
  |((refine lent_step' [(1000000,15),(1000001,700003)] (Xy src a ts ha hs hp) ?_ ?_ ?_ ?_);rotate_left 0;exact rfl;(exact⟨rfl,rfl,trivial⟩);exact rfl)
  |((refine lent_step' [(1000000,15),(1000001,700003)] (z1i src a ts ha hs (by omega) (GU (by assumption)) hp1 hw) ?_ ?_ ?_ ?_);rotate_left 0;exact rfl;(exact⟨rfl,rfl,trivial⟩);exact rfl)
  |((refine lent_step' [(1000000,15),(1000001,700003)] (P6 src a ts) ?_ ?_ ?_ ?_);rotate_left 0;exact rfl;(exact⟨rfl,rfl,trivial⟩);exact rfl)
  |((refine bW ?_ ?_ ?_ ?_ ?_ ?_)<;>exact rfl)
  |((refine dm ?_ ?_ ?_ ?_)<;>exact rfl)
  |(refine And.intro ?_ ?_)
  |((refine oD ?_ ?_ ?_);exact rfl;exact rfl;(first |exact rfl |skip))
  |exact @rfl AV _
  |exact eX rfl
  |fail)
 all_goals first
  |((rw[Zk];rfl))
  |((exact tC (p:=λc=>has _ (cls c)) ha))
  |((exact hl))
  |((rw[hk];exact GU (by assumption)))
  |((simp only[List.length_append,List.length_cons,List.length_nil];omega))
  |(omega)
  |((show src.length-(a+_)<src.length-a;have:=GU (by assumption);omega))
  |((rw[hI0.2.2,e1];done))
  |((rw[hI0.2.2,e8];done))
  |((rw[hI0.2.2,e2,fin_cons];done))
  |((rw[hI0.2.2,e4,fin_cons];done))
  |((rw[hI0.2.2,e9,fin_cons];done))
  |(((conv=>whnf);first |exact Zl hI0 (by assumption) |exact wZ hI0 e3 |exact wZ hI0 e5 |exact wZ hI0 e6 |exact wZ hI0 e7 |exact wZ hI0 e10 |exact wZ hI0 e11))
  |skip
end Go.Proofs.YtmfehangcmbidaaGreatDoor
namespace Go.Proofs.YtmfehangcmbidaaGreatDoor
open Go.Fw Go.Fw.Lx
set_option maxRecDepth 10000
variable [ae]
theorem vO(l:List Tk)(hl:l.length<=1073741824)(hj:(Lib.join (l.map word) [32]).length<=140737488355328):aj Tryz.prog 16 [toks l] (.ret (GV l)):=by
 refine nJ tok hmix ⟨[11],[]⟩ Tryz.func16 rfl (by kernel_rfl) (by kernel_rfl) (by kernel_rfl) λhf=>?_
 have hlen:l.length<=9223372036854775807:=by omega
 clear hf
 repeat' ((try(conv=>whnf))<;>first
  |(refine aB.r 9 ?_)
  |exact trivial
  |exact ah hd0 ‹_›
  |refine bz hd0 ?_
  |refine aS hd0 ?_
  |refine BrI.intro (λh=>?_) (λh=>?_)
  |((refine Zh ?_ ?_ ?_ ?_ ?_);exact Int.natCast_nonneg _;exact Int.le_refl _;exact rfl;(rw[List.length_map];omega))
  |((refine xR ?_ ?_ ?_ ?_ ?_);exact rfl;exact rfl;exact rfl)
  |((refine rO ?_ ?_ ?_ ?_ ?_ ?_ ?_ ?_ ?_);exact rfl;exact rfl;exact rfl;exact rfl;exact eX rfl;exact rfl;rotate_left;exact V8 ⟨hI0.1,hI0.2.1⟩)
  |((refine ak.mk 11 ?_);refine⟨⟨Unit,λ_=>[(4,.data (.sl 1 ((l.map word).map ui)))],λ_=>[],[],λ_=>l.all valid=true,λ_=>0⟩,?_,λ_ hA=>?_⟩)
  |(refine⟨(),?_,?_⟩)
  |((refine ak.mk 0 ?_);refine⟨aF (l) 12 (λ(q:(List Str)×(List Tk))=>match q with |(ws,rs)=>[(4,.own 9 0 1 0 (((l.map Tk.cs).length:Int)).toNat)]) (λ(q:(List Str)×(List Tk))=>match q with |(ws,rs)=>[(9,.arr 0 1 (ws.map ui++rs.map uZ))]) [4,10,11] (λi0 r0 q=>match q with |(ws,rs)=>rs=r0/\ws.length=i0/\l.all valid=r0.all valid/\ws++r0.map word=l.map word),?_⟩;refine ag (([]),(l)) ?_ ?_ (λi0 ⟨ws,rs⟩ hd0 hI0=>?_) (λi0 x0 r0 ⟨ws,rs⟩ hd0 hl0 hI0=>?_))
  |(refine af hd0 ((ws++[word x0]),(r0)) ?_ ?_)
  |((refine ai ?_ ?_ ?_);rotate_left;(first |exact xE _ |(refine uU _ (valid_num' ?_ ?_).1 (valid_num' ?_ ?_).2<;>assumption) |exact SV (l.map word) [32] (by rw[List.length_map];exact hl) hj))
  |((refine aJ ?_ ?_ ?_ ?_ ?_);exact rfl;exact rfl;rotate_left;(exact aA hd0))
  |((refine aV ?_ ?_);exact rfl)
  |(refine qo ?_;conv=>whnf)
  |(refine And.intro ?_ ?_)
  |exact @rfl AV _
  |fail)
 all_goals first
  |(rfl)
  |((rw[GV,if_pos (show l.all valid=true from hA)];try rfl))
  |((exact Int.natCast_nonneg _))
  |((rw[Int.toNat_natCast,List.length_map];exact Int.ofNat_lt.2 hl0))
  |((exact hI0.2.2.1))
  |((exact(LZ hI0.1 hI0.2.2.2).1))
  |((exact(LZ hI0.1 hI0.2.2.2).2))
  |((exact We hI0.2.2.1 h))
  |(((conv=>whnf);exact congrArg (Block.arr 0 1) (OX l)))
  |((refine congrArg (Block.arr 0 1) (word_set' ⟨hI0.1,hI0.2.1⟩ ?_);simp only[word,h,if_true,if_false,Bool.false_eq_true,reduceIte];done))
  |((rw[List.length_append,hI0.2.1];rfl))
  |((have hv:(!valid x0)=false:=(by assumption);rw[hI0.2.2.1,List.all_cons,(by simpa using hv:valid x0=true),Bool.true_and]))
  |((rw[<-hI0.2.2.2,List.map_cons,List.append_assoc];rfl))
  |skip
end Go.Proofs.YtmfehangcmbidaaGreatDoor
