/- Contracts: package syntax: Parse, Print. -/
import Derived.Test.YtmfehangcmbidaaGreatDoorZXB
import Derived.Test.YtmfehangcmbidaaGreatDoorZXC
import Derived.Test.YtmfehangcmbidaaGreatDoorZXD
import Derived.Test.YtmfehangcmbidaaGreatDoorZLX
set_option linter.unusedSectionVars false
set_option linter.unusedSimpArgs false
set_option linter.unusedVariables false
set_option maxHeartbeats 8000000
namespace Go.Proofs.YtmfehangcmbidaaGreatDoor
open Go.Fw Go.Fw.Lx Go.Fw.Sy
set_option maxRecDepth 10000
variable [ae]
theorem OY(s:Sy.Str)(hL:decide ((s.length:Int)>65536)=true):aA Tryz.prog 10 [.str s] (.ret (.tuple [.sl 8 [],.i 0,.i 2])):=by
 refine af tok hmix ⟨[],[]⟩ Tryz.func10 rfl (by kernel_rfl) (by kernel_rfl) (by kernel_rfl) λhf=>?_
 clear hf
 repeat' ((try(conv=>whnf))<;>first
  |((refine kX ?_ ?_);exact rfl)
  |((refine ax ?_ ?_ ?_);rotate_left;(exact Wv s hL))
  |((refine ai ?_);refine⟨[],rfl,?_,trivial⟩;conv=>whnf)
  |fail)
 all_goals first
  |(rfl)
  |skip
theorem TA(s:Sy.Str)(a:Nat)(hL:decide ((s.length:Int)>65536)=false)(hl:iE pStep s 0 = .error a):aA Tryz.prog 10 [.str s] (.ret (.tuple [.sl 8 [],.i (a:Nat),.i 30])):=by
 refine af tok hmix ⟨[],[]⟩ Tryz.func10 rfl (by kernel_rfl) (by kernel_rfl) (by kernel_rfl) λhf=>?_
 have hq:=Ag s hL;rw[hl]at hq
 clear hf
 repeat' ((try(conv=>whnf))<;>first
  |((refine kX ?_ ?_);exact rfl)
  |((refine ax ?_ ?_ ?_);rotate_left;(exact hq))
  |((refine ai ?_);refine⟨[],rfl,?_,trivial⟩;conv=>whnf)
  |fail)
 all_goals first
  |(rfl)
  |skip
theorem Wx(s:Sy.Str)(l:List Tk)(hL:decide ((s.length:Int)>65536)=false)(hl:iE pStep s 0 = .ok l)(hn:l.length<=1073741823)(hR:(readM l).1=none):aA Tryz.prog 10 [.str s] (.ret (.tuple [.sl 8 [],.i (at' (s.length:Int) (readM l).2),.i 140])):=by
 refine af tok hmix ⟨[],[]⟩ Tryz.func10 rfl (by kernel_rfl) (by kernel_rfl) (by kernel_rfl) λhf=>?_
 have hq:=Ag s hL;rw[hl]at hq
 have hr:=pz l (s.length:Int) hn;rw[wR hR]at hr
 clear hf
 repeat' ((try(conv=>whnf))<;>first
  |((refine lQ ?_ ?_);exact rfl)
  |((refine ax ?_ ?_ ?_);rotate_left;(first |exact hq |exact hr))
  |((refine ai ?_);refine⟨[],rfl,?_,trivial⟩;conv=>whnf)
  |fail)
 all_goals first
  |skip
theorem Wy(s:Sy.Str)(l:List Tk)(ps:List Pr)(hL:decide ((s.length:Int)>65536)=false)(hl:iE pStep s 0 = .ok l)(hn:l.length<=1073741823)(hR:(readM l).1=some ps):aA Tryz.prog 10 [.str s] (.ret (.tuple [prs ps,.i 0,.i 0])):=by
 refine af tok hmix ⟨[],[]⟩ Tryz.func10 rfl (by kernel_rfl) (by kernel_rfl) (by kernel_rfl) λhf=>?_
 have hq:=Ag s hL;rw[hl]at hq
 have hr:=pz l (s.length:Int) hn;rw[qm hR]at hr
 clear hf
 repeat' ((try(conv=>whnf))<;>first
  |((refine lQ ?_ ?_);exact rfl)
  |((refine ax ?_ ?_ ?_);rotate_left;(first |exact hq |exact hr))
  |((refine ai ?_);refine⟨[],rfl,?_,trivial⟩;conv=>whnf)
  |fail)
 all_goals first
  |skip
theorem CO(s:Sy.Str)(hn:∀l,iE pStep s 0 = .ok l->l.length<=1073741823):aA Tryz.prog 10 [.str s] (.ret (gU s)):=by
 unfold gU
 cases hL:decide ((s.length:Int)>65536)with
 |true=>exact OY s hL
 |false=>
  cases hl:iE pStep s 0 with
  |error a=>exact TA s a hL hl
  |ok l=>
   cases hR:(readM l).1 with
   |none=>simp only[wR hR];exact Wx s l hL hl (hn l hl) hR
   |some ps=>simp only[qm hR];exact Wy s l ps hL hl (hn l hl) hR
theorem TB(l:List Pr)(hn:(allT l).length<=1073741823)(hj:(textS (allT l)).length<=140737488355328)(hv:(allT l).all valid=false):aA Tryz.prog 11 [prs l] (.ret (zZ)):=by
 refine af tok hmix ⟨[],[]⟩ Tryz.func11 rfl (by kernel_rfl) (by kernel_rfl) (by kernel_rfl) λhf=>?_
 have hlen:l.length<=9223372036854775807:=by simpa using(hf (prs l) (by simp)).sl.1
 have hq:=uY (allT l) (by omega) hj;rw[V6 hv]at hq
 clear hf
 repeat' ((try(conv=>whnf))<;>first
  |((refine kX ?_ ?_);exact rfl)
  |((refine aZ (fB x0) (dh x0.d) (λts h=>qx x0 ts h) ?_);refine⟨_,_,_,rfl,rfl,rfl,rfl,rfl,LJ hI0 hn,?_⟩)
  |((obtain rfl:=LK hI0);clear hI0)
  |exact trivial
  |exact aK hd0 ‹_›
  |refine gX hd0 ?_
  |refine eH hd0 ?_
  |((refine aN.mk 0 ?_);refine⟨bn (l) 14 (λ(ts:(List Tk))=>[]) (λ(ts:(List Tk))=>[(11,.cells [.gs 900011 4 (ts.map Tk.cs)]),(900011,.tok 4 (ts.map Tk.cs).length)]) [0,4,12,13] (λi0 r0 ts=>WrI l r0 ts),?_⟩;refine au ([]) ?_ ?_ (λi0 (ts:(List Tk)) hd0 hI0=>?_) (λi0 x0 r0 (ts:(List Tk)) hd0 hl0 hI0=>?_))
  |(refine ak hd0 (ts++fB x0) ?_ ?_)
  |((refine ax ?_ ?_ ?_);rotate_left;(exact hq))
  |((refine dO ?_ ?_ ?_ ?_ ?_ ?_)<;>exact rfl)
  |((refine eG ?_ ?_ ?_ ?_)<;>exact rfl)
  |((refine aU ?_ ?_ ?_ ?_ ?_);exact rfl;exact rfl;rotate_left;(exact cO hd0))
  |((refine bg ?_ ?_);exact rfl)
  |((refine ai ?_);refine⟨[],rfl,?_,trivial⟩;conv=>whnf)
  |(refine And.intro ?_ ?_)
  |exact @rfl AV _
  |fail)
 all_goals first
  |(rfl)
  |((exact yu l))
  |((exact Ej hI0))
  |skip
theorem OZ(l:List Pr)(hn:(allT l).length<=1073741823)(hj:(textS (allT l)).length<=140737488355328)(hv:(allT l).all valid=true)(hR:(readM (allT l)).1=none):aA Tryz.prog 11 [prs l] (.ret (zZ)):=by
 refine af tok hmix ⟨[],[]⟩ Tryz.func11 rfl (by kernel_rfl) (by kernel_rfl) (by kernel_rfl) λhf=>?_
 have hlen:l.length<=9223372036854775807:=by simpa using(hf (prs l) (by simp)).sl.1
 have hq:=uY (allT l) (by omega) hj;rw[Aa hv]at hq
 have hr:=pz (allT l) 0 hn;rw[wR hR]at hr
 clear hf
 repeat' ((try(conv=>whnf))<;>first
  |((refine kX ?_ ?_);exact rfl)
  |((refine lQ ?_ ?_);exact rfl)
  |((refine wF (.data (.b false)) ?_ ?_ ?_);exact rfl;exact rfl)
  |((refine aZ (fB x0) (dh x0.d) (λts h=>qx x0 ts h) ?_);refine⟨_,_,_,rfl,rfl,rfl,rfl,rfl,LJ hI0 hn,?_⟩)
  |((obtain rfl:=LK hI0);clear hI0)
  |exact trivial
  |exact aK hd0 ‹_›
  |refine gX hd0 ?_
  |refine eH hd0 ?_
  |((refine aN.mk 0 ?_);refine⟨bn (l) 14 (λ(ts:(List Tk))=>[]) (λ(ts:(List Tk))=>[(11,.cells [.gs 900011 4 (ts.map Tk.cs)]),(900011,.tok 4 (ts.map Tk.cs).length)]) [0,4,12,13] (λi0 r0 ts=>WrI l r0 ts),?_⟩;refine au ([]) ?_ ?_ (λi0 (ts:(List Tk)) hd0 hI0=>?_) (λi0 x0 r0 (ts:(List Tk)) hd0 hl0 hI0=>?_))
  |(refine ak hd0 (ts++fB x0) ?_ ?_)
  |((refine ax ?_ ?_ ?_);rotate_left;(first |exact hq |exact hr))
  |((refine dO ?_ ?_ ?_ ?_ ?_ ?_)<;>exact rfl)
  |((refine eG ?_ ?_ ?_ ?_)<;>exact rfl)
  |((refine aU ?_ ?_ ?_ ?_ ?_);exact rfl;exact rfl;rotate_left;(exact cO hd0))
  |((refine bg ?_ ?_);exact rfl)
  |((refine ai ?_);refine⟨[],rfl,?_,trivial⟩;conv=>whnf)
  |(refine And.intro ?_ ?_)
  |exact @rfl AV _
  |fail)
 all_goals first
  |(rfl)
  |((exact yu l))
  |((exact Ej hI0))
  |skip
theorem O0(l:List Pr)(ps:List Pr)(hn:(allT l).length<=1073741823)(hj:(textS (allT l)).length<=140737488355328)(hs:∀p∈l,p.stmts.length<=1073741823)(hx:∀p∈l,∀s∈p.stmts,Ref15.nodes s.x<=1073741824)(hv:(allT l).all valid=true)(hR:(readM (allT l)).1=some ps)(hE:Jc ps l=false):aA Tryz.prog 11 [prs l] (.ret (zZ)):=by
 refine af tok hmix ⟨[],[]⟩ Tryz.func11 rfl (by kernel_rfl) (by kernel_rfl) (by kernel_rfl) λhf=>?_
 have hlen:l.length<=9223372036854775807:=by simpa using(hf (prs l) (by simp)).sl.1
 have hq:=uY (allT l) (by omega) hj;rw[Aa hv]at hq
 have hr:=pz (allT l) 0 hn;rw[qm hR]at hr
 have he:=CJ ps l hs hx;rw[show lenE (λq=>dV q.1 (dE q.2)) ps l=false from hE]at he
 clear hf
 repeat' ((try(conv=>whnf))<;>first
  |((refine kX ?_ ?_);exact rfl)
  |((refine lQ ?_ ?_);exact rfl)
  |((refine aZ (fB x0) (dh x0.d) (λts h=>qx x0 ts h) ?_);refine⟨_,_,_,rfl,rfl,rfl,rfl,rfl,LJ hI0 hn,?_⟩)
  |((obtain rfl:=LK hI0);clear hI0)
  |exact trivial
  |exact aK hd0 ‹_›
  |refine gX hd0 ?_
  |refine eH hd0 ?_
  |((refine aN.mk 0 ?_);refine⟨bn (l) 14 (λ(ts:(List Tk))=>[]) (λ(ts:(List Tk))=>[(11,.cells [.gs 900011 4 (ts.map Tk.cs)]),(900011,.tok 4 (ts.map Tk.cs).length)]) [0,4,12,13] (λi0 r0 ts=>WrI l r0 ts),?_⟩;refine au ([]) ?_ ?_ (λi0 (ts:(List Tk)) hd0 hI0=>?_) (λi0 x0 r0 (ts:(List Tk)) hd0 hl0 hI0=>?_))
  |(refine ak hd0 (ts++fB x0) ?_ ?_)
  |((refine ax ?_ ?_ ?_);rotate_left;(first |exact hq |exact hr |exact he))
  |((refine dO ?_ ?_ ?_ ?_ ?_ ?_)<;>exact rfl)
  |((refine eG ?_ ?_ ?_ ?_)<;>exact rfl)
  |((refine aU ?_ ?_ ?_ ?_ ?_);exact rfl;exact rfl;rotate_left;(exact cO hd0))
  |((refine bg ?_ ?_);exact rfl)
  |((refine aT ?_ ?_ (λhg=>?_) ?_);exact rfl)
  |((refine bQ ?_ ?_);exact rfl;exact rfl)
  |((refine ai ?_);refine⟨[],rfl,?_,trivial⟩;conv=>whnf)
  |(refine And.intro ?_ ?_)
  |exact @rfl AV _
  |fail)
 all_goals first
  |(rfl)
  |((exact yu l))
  |((exact Ej hI0))
  |skip
theorem WA(l:List Pr)(ps:List Pr)(hn:(allT l).length<=1073741823)(hj:(textS (allT l)).length<=140737488355328)(hs:∀p∈l,p.stmts.length<=1073741823)(hx:∀p∈l,∀s∈p.stmts,Ref15.nodes s.x<=1073741824)(hv:(allT l).all valid=true)(hR:(readM (allT l)).1=some ps)(hE:Jc ps l=true):aA Tryz.prog 11 [prs l] (.ret (.tuple [.str (textS (allT l)),.i 0])):=by
 refine af tok hmix ⟨[],[]⟩ Tryz.func11 rfl (by kernel_rfl) (by kernel_rfl) (by kernel_rfl) λhf=>?_
 have hlen:l.length<=9223372036854775807:=by simpa using(hf (prs l) (by simp)).sl.1
 have hq:=uY (allT l) (by omega) hj;rw[Aa hv]at hq
 have hr:=pz (allT l) 0 hn;rw[qm hR]at hr
 have he:=CJ ps l hs hx;rw[show lenE (λq=>dV q.1 (dE q.2)) ps l=true from hE]at he
 clear hf
 repeat' ((try(conv=>whnf))<;>first
  |((refine lQ ?_ ?_);exact rfl)
  |((refine aZ (fB x0) (dh x0.d) (λts h=>qx x0 ts h) ?_);refine⟨_,_,_,rfl,rfl,rfl,rfl,rfl,LJ hI0 hn,?_⟩)
  |((obtain rfl:=LK hI0);clear hI0)
  |exact trivial
  |exact aK hd0 ‹_›
  |refine gX hd0 ?_
  |refine eH hd0 ?_
  |((refine aN.mk 0 ?_);refine⟨bn (l) 14 (λ(ts:(List Tk))=>[]) (λ(ts:(List Tk))=>[(11,.cells [.gs 900011 4 (ts.map Tk.cs)]),(900011,.tok 4 (ts.map Tk.cs).length)]) [0,4,12,13] (λi0 r0 ts=>WrI l r0 ts),?_⟩;refine au ([]) ?_ ?_ (λi0 (ts:(List Tk)) hd0 hI0=>?_) (λi0 x0 r0 (ts:(List Tk)) hd0 hl0 hI0=>?_))
  |(refine ak hd0 (ts++fB x0) ?_ ?_)
  |((refine ax ?_ ?_ ?_);rotate_left;(first |exact hq |exact hr |exact he))
  |((refine dO ?_ ?_ ?_ ?_ ?_ ?_)<;>exact rfl)
  |((refine eG ?_ ?_ ?_ ?_)<;>exact rfl)
  |((refine aU ?_ ?_ ?_ ?_ ?_);exact rfl;exact rfl;rotate_left;(exact cO hd0))
  |((refine bg ?_ ?_);exact rfl)
  |((refine aT ?_ ?_ (λhg=>?_) ?_);exact rfl)
  |((refine bQ ?_ ?_);exact rfl;exact rfl)
  |((refine ai ?_);refine⟨[],rfl,?_,trivial⟩;conv=>whnf)
  |(refine And.intro ?_ ?_)
  |exact @rfl AV _
  |fail)
 all_goals first
  |((exact yu l))
  |((exact Ej hI0))
  |skip
theorem CP(l:List Pr)(hn:(allT l).length<=1073741823)(hj:(textS (allT l)).length<=140737488355328)(hs:∀p∈l,p.stmts.length<=1073741823)(hx:∀p∈l,∀s∈p.stmts,Ref15.nodes s.x<=1073741824):aA Tryz.prog 11 [prs l] (.ret (jU l)):=by
 unfold jU
 cases hv:(allT l).all valid with
 |false=>exact TB l hn hj hv
 |true=>
  cases hR:(readM (allT l)).1 with
  |none=>exact OZ l hn hj hv hR
  |some ps=>
   cases hE:Jc ps l with
   |true=>simp only[hE];exact WA l ps hn hj hs hx hv hR hE
   |false=>simp only[hE];exact O0 l ps hn hj hs hx hv hR hE
theorem yw(s:Sy.Str)(r:D)(h:Nat.ble s.length 1000=true)(e:gU s=r):aA Tryz.prog 10 [.str s] (.ret r):=by
 have:=CO s (Ya (by have:=Nat.le_of_ble_eq_true h;omega));rw[e]at this;exact this
theorem LZ(l:List Pr)(r:D)(h1:Nat.ble (allT l).length 1000=true)(h2:Nat.ble (textS (allT l)).length 1000=true)(hs:l.all (λp=>Nat.ble p.stmts.length 1000&&p.stmts.all λs=>Nat.ble (Ref15.nodes s.x) 1000)=true)(e:jU l=r):aA Tryz.prog 11 [prs l] (.ret r):=by
 have h:=CP l (by have:=Nat.le_of_ble_eq_true h1;omega) (by have:=Nat.le_of_ble_eq_true h2;omega) (λp hp=>by have:=List.all_eq_true.1 hs p hp;simp only[Bool.and_eq_true]at this;have:=Nat.le_of_ble_eq_true this.1;omega) (λp hp s hx=>by have:=List.all_eq_true.1 hs p hp;simp only[Bool.and_eq_true]at this;have:=Nat.le_of_ble_eq_true (List.all_eq_true.1 this.2 s hx);omega)
 rw[e]at h;exact h
theorem TC(n:Int)  : aA Tryz.prog 26 [.i n] (.ret (SL n).d):=by
 refine af tok hmix ⟨[],[]⟩ Tryz.func26 rfl (by kernel_rfl) (by kernel_rfl) (by kernel_rfl) λhf=>?_
 clear hf
 repeat' ((try(conv=>whnf))<;>first
  |((refine ai ?_);refine⟨[],rfl,?_,trivial⟩;conv=>whnf)
  |fail)
 all_goals first
  |(rfl)
  |skip
theorem TD(s:Sy.Str)  : aA Tryz.prog 25 [.str s] (.ret (Cc s).d):=by
 refine af tok hmix ⟨[],[]⟩ Tryz.func25 rfl (by kernel_rfl) (by kernel_rfl) (by kernel_rfl) λhf=>?_
 clear hf
 repeat' ((try(conv=>whnf))<;>first
  |((refine ai ?_);refine⟨[],rfl,?_,trivial⟩;conv=>whnf)
  |fail)
 all_goals first
  |(rfl)
  |skip
theorem GU(k:Int)(x y:Ex)  : aA Tryz.prog 24 [.i k,x.d,y.d] (.ret (ex2 k x y).d):=by
 refine af tok hmix ⟨[],[]⟩ Tryz.func24 rfl (by kernel_rfl) (by kernel_rfl) (by kernel_rfl) λhf=>?_
 clear hf
 repeat' ((try(conv=>whnf))<;>first
  |(refine aG.l _ ?_)
  |((refine ai ?_);refine⟨[],rfl,?_,trivial⟩;conv=>whnf)
  |fail)
 all_goals first
  |((exact z9n k x y))
  |skip
theorem mf   : aA Tryz.prog 9 [] (.ret (.b true)):=by
 refine af tok hmix ⟨[],[]⟩ Tryz.func9 rfl (by kernel_rfl) (by kernel_rfl) (by kernel_rfl) λhf=>?_
 clear hf
 repeat' ((try(conv=>whnf))<;>first
  |((refine Lx.gi_step ?_ ?_);kernel_rfl)
  |((refine ax ?_ ?_ ?_);rotate_left;(first |exact TD _ |exact TC _ |exact GU _ _ _ |exact yw [] _ (by kernel_rfl) z0q |exact yw z6c _ (by kernel_rfl) at_in |exact yw SN _ (by kernel_rfl) z0r |exact yw z6d _ (by kernel_rfl) z9m |exact LZ [SQ] _ (by kernel_rfl) (by kernel_rfl) (by kernel_rfl) z0s |exact LZ [LP] _ (by kernel_rfl) (by kernel_rfl) (by kernel_rfl) SS |exact GU 17 (ex2 16 (Cc [97]) (Cc [98])) (ex1 14 (SL 2)) |exact fG [LM] [LM] |exact wU LP LP |exact wU LM SQ))
  |(refine aG.l _ ?_)
  |((refine aT ?_ ?_ (λhg=>?_) ?_);exact rfl)
  |((refine bQ ?_ ?_);exact rfl;exact rfl)
  |((refine aI ?_ ?_);kernel_rfl)
  |((refine ai ?_);refine⟨[],rfl,?_,trivial⟩;conv=>whnf)
  |fail)
 all_goals first
  |(kernel_rfl)
  |skip
end Go.Proofs.YtmfehangcmbidaaGreatDoor
