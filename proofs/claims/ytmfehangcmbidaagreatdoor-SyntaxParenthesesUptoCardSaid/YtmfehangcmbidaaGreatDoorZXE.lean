/- Contracts: package syntax: Parse, Print. -/
import Derived.Test.YtmfehangcmbidaaGreatDoorZXB
import Derived.Test.YtmfehangcmbidaaGreatDoorZXC
import Derived.Test.YtmfehangcmbidaaGreatDoorZXD
import Derived.Test.YtmfehangcmbidaaGreatDoorZLX
set_option linter.unusedSectionVars false
set_option linter.unusedSimpArgs false
set_option linter.unusedVariables false
set_option maxHeartbeats 8000000
namespace Go.Proofs.YtmfehangcmbidaaGreatDoor
open Go.Fw Go.Fw.Lx Go.Fw.Sy
set_option maxRecDepth 10000
variable [ae]
theorem NG(s:Sy.Str)(hL:decide ((s.length:Int)>65536)=true):aB Tryz.prog 10 [.str s] (.ret (.tuple [.sl 8 [],.i 0,.i 2])):=by
 refine ag tok hmix ⟨[],[]⟩ Tryz.func10 rfl (by kernel_rfl) (by kernel_rfl) (by kernel_rfl) λhf=>?_
 clear hf
 repeat' ((try(conv=>whnf))<;>first
  |((refine mO ?_ ?_);exact rfl)
  |((refine ak ?_ ?_ ?_);rotate_left;(exact Kq s hL))
  |((refine ai ?_);refine⟨[],rfl,?_,trivial⟩;conv=>whnf)
  |fail)
 all_goals first
  |(rfl)
  |skip
theorem Ri(s:Sy.Str)(a:Nat)(hL:decide ((s.length:Int)>65536)=false)(hl:gz pStep s 0 = .error a):aB Tryz.prog 10 [.str s] (.ret (.tuple [.sl 8 [],.i (a:Nat),.i 30])):=by
 refine ag tok hmix ⟨[],[]⟩ Tryz.func10 rfl (by kernel_rfl) (by kernel_rfl) (by kernel_rfl) λhf=>?_
 have hq:=oC s hL;rw[hl]at hq
 clear hf
 repeat' ((try(conv=>whnf))<;>first
  |((refine mO ?_ ?_);exact rfl)
  |((refine ak ?_ ?_ ?_);rotate_left;(exact hq))
  |((refine ai ?_);refine⟨[],rfl,?_,trivial⟩;conv=>whnf)
  |fail)
 all_goals first
  |(rfl)
  |skip
theorem Vl(s:Sy.Str)(l:List Tk)(hL:decide ((s.length:Int)>65536)=false)(hl:gz pStep s 0 = .ok l)(hn:l.length<=1073741823)(hR:(iU l).1=none):aB Tryz.prog 10 [.str s] (.ret (.tuple [.sl 8 [],.i (at' (s.length:Int) (iU l).2),.i 140])):=by
 refine ag tok hmix ⟨[],[]⟩ Tryz.func10 rfl (by kernel_rfl) (by kernel_rfl) (by kernel_rfl) λhf=>?_
 have hq:=oC s hL;rw[hl]at hq
 have hr:=ou l (s.length:Int) hn;rw[vJ hR]at hr
 clear hf
 repeat' ((try(conv=>whnf))<;>first
  |((refine nC ?_ ?_);exact rfl)
  |((refine ak ?_ ?_ ?_);rotate_left;(first |exact hq |exact hr))
  |((refine ai ?_);refine⟨[],rfl,?_,trivial⟩;conv=>whnf)
  |fail)
 all_goals first
  |skip
theorem Vm(s:Sy.Str)(l:List Tk)(ps:List Pr)(hL:decide ((s.length:Int)>65536)=false)(hl:gz pStep s 0 = .ok l)(hn:l.length<=1073741823)(hR:(iU l).1=some ps):aB Tryz.prog 10 [.str s] (.ret (.tuple [prs ps,.i 0,.i 0])):=by
 refine ag tok hmix ⟨[],[]⟩ Tryz.func10 rfl (by kernel_rfl) (by kernel_rfl) (by kernel_rfl) λhf=>?_
 have hq:=oC s hL;rw[hl]at hq
 have hr:=ou l (s.length:Int) hn;rw[oV hR]at hr
 clear hf
 repeat' ((try(conv=>whnf))<;>first
  |((refine nC ?_ ?_);exact rfl)
  |((refine ak ?_ ?_ ?_);rotate_left;(first |exact hq |exact hr))
  |((refine ai ?_);refine⟨[],rfl,?_,trivial⟩;conv=>whnf)
  |fail)
 all_goals first
  |skip
theorem Bz(s:Sy.Str)(hn:∀l,gz pStep s 0 = .ok l->l.length<=1073741823):aB Tryz.prog 10 [.str s] (.ret (iw s)):=by
 unfold iw
 cases hL:decide ((s.length:Int)>65536)with
 |true=>exact NG s hL
 |false=>
  cases hl:gz pStep s 0 with
  |error a=>exact Ri s a hL hl
  |ok l=>
   cases hR:(iU l).1 with
   |none=>simp only[vJ hR];exact Vl s l hL hl (hn l hl) hR
   |some ps=>simp only[oV hR];exact Vm s l ps hL hl (hn l hl) hR
theorem Rj(l:List Pr)(hn:(allT l).length<=1073741823)(hj:(textS (allT l)).length<=140737488355328)(hv:(allT l).all valid=false):aB Tryz.prog 11 [prs l] (.ret (Bc)):=by
 refine ag tok hmix ⟨[],[]⟩ Tryz.func11 rfl (by kernel_rfl) (by kernel_rfl) (by kernel_rfl) λhf=>?_
 have hlen:l.length<=9223372036854775807:=by simpa using(hf (prs l) (by simp)).sl.1
 have hq:=kG (allT l) (by omega) hj;rw[U5 hv]at hq
 clear hf
 repeat' ((try(conv=>whnf))<;>first
  |((refine mO ?_ ?_);exact rfl)
  |((refine aY (iV x0) (bY x0.d) (λts h=>pg x0 ts h) ?_);refine⟨_,_,_,rfl,rfl,rfl,rfl,rfl,JY hI0 hn,?_⟩)
  |((obtain rfl:=JZ hI0);clear hI0)
  |exact trivial
  |exact aT hd0 ‹_›
  |refine jm hd0 ?_
  |refine fH hd0 ?_
  |((refine aN.mk 0 ?_);refine⟨bQ (l) 14 (λ(ts:(List Tk))=>[]) (λ(ts:(List Tk))=>[(11,.cells [.gs 900011 4 (ts.map Tk.cs)]),(900011,.tok 4 (ts.map Tk.cs).length)]) [0,4,12,13] (λi0 r0 ts=>WrI l r0 ts),?_⟩;refine ay ([]) ?_ ?_ (λi0 (ts:(List Tk)) hd0 hI0=>?_) (λi0 x0 r0 (ts:(List Tk)) hd0 hl0 hI0=>?_))
  |(refine au hd0 (ts++iV x0) ?_ ?_)
  |((refine ak ?_ ?_ ?_);rotate_left;(exact hq))
  |((refine dD ?_ ?_ ?_ ?_ ?_ ?_)<;>exact rfl)
  |((refine dO ?_ ?_ ?_ ?_)<;>exact rfl)
  |((refine bf ?_ ?_ ?_ ?_ ?_);exact rfl;exact rfl;rotate_left;(exact dF hd0))
  |((refine bZ ?_ ?_);exact rfl)
  |((refine ai ?_);refine⟨[],rfl,?_,trivial⟩;conv=>whnf)
  |(refine And.intro ?_ ?_)
  |exact @rfl AV _
  |fail)
 all_goals first
  |(rfl)
  |((exact xC l))
  |((exact Dl hI0))
  |skip
theorem NH(l:List Pr)(hn:(allT l).length<=1073741823)(hj:(textS (allT l)).length<=140737488355328)(hv:(allT l).all valid=true)(hR:(iU (allT l)).1=none):aB Tryz.prog 11 [prs l] (.ret (Bc)):=by
 refine ag tok hmix ⟨[],[]⟩ Tryz.func11 rfl (by kernel_rfl) (by kernel_rfl) (by kernel_rfl) λhf=>?_
 have hlen:l.length<=9223372036854775807:=by simpa using(hf (prs l) (by simp)).sl.1
 have hq:=kG (allT l) (by omega) hj;rw[uu hv]at hq
 have hr:=ou (allT l) 0 hn;rw[vJ hR]at hr
 clear hf
 repeat' ((try(conv=>whnf))<;>first
  |((refine mO ?_ ?_);exact rfl)
  |((refine nC ?_ ?_);exact rfl)
  |((refine vk (.data (.b false)) ?_ ?_ ?_);exact rfl;exact rfl)
  |((refine aY (iV x0) (bY x0.d) (λts h=>pg x0 ts h) ?_);refine⟨_,_,_,rfl,rfl,rfl,rfl,rfl,JY hI0 hn,?_⟩)
  |((obtain rfl:=JZ hI0);clear hI0)
  |exact trivial
  |exact aT hd0 ‹_›
  |refine jm hd0 ?_
  |refine fH hd0 ?_
  |((refine aN.mk 0 ?_);refine⟨bQ (l) 14 (λ(ts:(List Tk))=>[]) (λ(ts:(List Tk))=>[(11,.cells [.gs 900011 4 (ts.map Tk.cs)]),(900011,.tok 4 (ts.map Tk.cs).length)]) [0,4,12,13] (λi0 r0 ts=>WrI l r0 ts),?_⟩;refine ay ([]) ?_ ?_ (λi0 (ts:(List Tk)) hd0 hI0=>?_) (λi0 x0 r0 (ts:(List Tk)) hd0 hl0 hI0=>?_))
  |(refine au hd0 (ts++iV x0) ?_ ?_)
  |((refine ak ?_ ?_ ?_);rotate_left;(first |exact hq |exact hr))
  |((refine dD ?_ ?_ ?_ ?_ ?_ ?_)<;>exact rfl)
  |((refine dO ?_ ?_ ?_ ?_)<;>exact rfl)
  |((refine bf ?_ ?_ ?_ ?_ ?_);exact rfl;exact rfl;rotate_left;(exact dF hd0))
  |((refine bZ ?_ ?_);exact rfl)
  |((refine ai ?_);refine⟨[],rfl,?_,trivial⟩;conv=>whnf)
  |(refine And.intro ?_ ?_)
  |exact @rfl AV _
  |fail)
 all_goals first
  |(rfl)
  |((exact xC l))
  |((exact Dl hI0))
  |skip
theorem NI(l:List Pr)(ps:List Pr)(hn:(allT l).length<=1073741823)(hj:(textS (allT l)).length<=140737488355328)(hs:∀p∈l,p.stmts.length<=1073741823)(hx:∀p∈l,∀s∈p.stmts,Ref15.nodes s.x<=1073741824)(hv:(allT l).all valid=true)(hR:(iU (allT l)).1=some ps)(hE:U4 ps l=false):aB Tryz.prog 11 [prs l] (.ret (Bc)):=by
 refine ag tok hmix ⟨[],[]⟩ Tryz.func11 rfl (by kernel_rfl) (by kernel_rfl) (by kernel_rfl) λhf=>?_
 have hlen:l.length<=9223372036854775807:=by simpa using(hf (prs l) (by simp)).sl.1
 have hq:=kG (allT l) (by omega) hj;rw[uu hv]at hq
 have hr:=ou (allT l) 0 hn;rw[oV hR]at hr
 have he:=Bv ps l hs hx;rw[show lenE (λq=>fK q.1 (EU q.2)) ps l=false from hE]at he
 clear hf
 repeat' ((try(conv=>whnf))<;>first
  |((refine mO ?_ ?_);exact rfl)
  |((refine nC ?_ ?_);exact rfl)
  |((refine aY (iV x0) (bY x0.d) (λts h=>pg x0 ts h) ?_);refine⟨_,_,_,rfl,rfl,rfl,rfl,rfl,JY hI0 hn,?_⟩)
  |((obtain rfl:=JZ hI0);clear hI0)
  |exact trivial
  |exact aT hd0 ‹_›
  |refine jm hd0 ?_
  |refine fH hd0 ?_
  |((refine aN.mk 0 ?_);refine⟨bQ (l) 14 (λ(ts:(List Tk))=>[]) (λ(ts:(List Tk))=>[(11,.cells [.gs 900011 4 (ts.map Tk.cs)]),(900011,.tok 4 (ts.map Tk.cs).length)]) [0,4,12,13] (λi0 r0 ts=>WrI l r0 ts),?_⟩;refine ay ([]) ?_ ?_ (λi0 (ts:(List Tk)) hd0 hI0=>?_) (λi0 x0 r0 (ts:(List Tk)) hd0 hl0 hI0=>?_))
  |(refine au hd0 (ts++iV x0) ?_ ?_)
  |((refine ak ?_ ?_ ?_);rotate_left;(first |exact hq |exact hr |exact he))
  |((refine dD ?_ ?_ ?_ ?_ ?_ ?_)<;>exact rfl)
  |((refine dO ?_ ?_ ?_ ?_)<;>exact rfl)
  |((refine bf ?_ ?_ ?_ ?_ ?_);exact rfl;exact rfl;rotate_left;(exact dF hd0))
  |((refine bZ ?_ ?_);exact rfl)
  |((refine aQ ?_ ?_ (λhg=>?_) ?_);exact rfl)
  |((refine bK ?_ ?_);exact rfl;exact rfl)
  |((refine ai ?_);refine⟨[],rfl,?_,trivial⟩;conv=>whnf)
  |(refine And.intro ?_ ?_)
  |exact @rfl AV _
  |fail)
 all_goals first
  |(rfl)
  |((exact xC l))
  |((exact Dl hI0))
  |skip
theorem Vo(l:List Pr)(ps:List Pr)(hn:(allT l).length<=1073741823)(hj:(textS (allT l)).length<=140737488355328)(hs:∀p∈l,p.stmts.length<=1073741823)(hx:∀p∈l,∀s∈p.stmts,Ref15.nodes s.x<=1073741824)(hv:(allT l).all valid=true)(hR:(iU (allT l)).1=some ps)(hE:U4 ps l=true):aB Tryz.prog 11 [prs l] (.ret (.tuple [.str (textS (allT l)),.i 0])):=by
 refine ag tok hmix ⟨[],[]⟩ Tryz.func11 rfl (by kernel_rfl) (by kernel_rfl) (by kernel_rfl) λhf=>?_
 have hlen:l.length<=9223372036854775807:=by simpa using(hf (prs l) (by simp)).sl.1
 have hq:=kG (allT l) (by omega) hj;rw[uu hv]at hq
 have hr:=ou (allT l) 0 hn;rw[oV hR]at hr
 have he:=Bv ps l hs hx;rw[show lenE (λq=>fK q.1 (EU q.2)) ps l=true from hE]at he
 clear hf
 repeat' ((try(conv=>whnf))<;>first
  |((refine nC ?_ ?_);exact rfl)
  |((refine aY (iV x0) (bY x0.d) (λts h=>pg x0 ts h) ?_);refine⟨_,_,_,rfl,rfl,rfl,rfl,rfl,JY hI0 hn,?_⟩)
  |((obtain rfl:=JZ hI0);clear hI0)
  |exact trivial
  |exact aT hd0 ‹_›
  |refine jm hd0 ?_
  |refine fH hd0 ?_
  |((refine aN.mk 0 ?_);refine⟨bQ (l) 14 (λ(ts:(List Tk))=>[]) (λ(ts:(List Tk))=>[(11,.cells [.gs 900011 4 (ts.map Tk.cs)]),(900011,.tok 4 (ts.map Tk.cs).length)]) [0,4,12,13] (λi0 r0 ts=>WrI l r0 ts),?_⟩;refine ay ([]) ?_ ?_ (λi0 (ts:(List Tk)) hd0 hI0=>?_) (λi0 x0 r0 (ts:(List Tk)) hd0 hl0 hI0=>?_))
  |(refine au hd0 (ts++iV x0) ?_ ?_)
  |((refine ak ?_ ?_ ?_);rotate_left;(first |exact hq |exact hr |exact he))
  |((refine dD ?_ ?_ ?_ ?_ ?_ ?_)<;>exact rfl)
  |((refine dO ?_ ?_ ?_ ?_)<;>exact rfl)
  |((refine bf ?_ ?_ ?_ ?_ ?_);exact rfl;exact rfl;rotate_left;(exact dF hd0))
  |((refine bZ ?_ ?_);exact rfl)
  |((refine aQ ?_ ?_ (λhg=>?_) ?_);exact rfl)
  |((refine bK ?_ ?_);exact rfl;exact rfl)
  |((refine ai ?_);refine⟨[],rfl,?_,trivial⟩;conv=>whnf)
  |(refine And.intro ?_ ?_)
  |exact @rfl AV _
  |fail)
 all_goals first
  |((exact xC l))
  |((exact Dl hI0))
  |skip
theorem NJ(l:List Pr)(hn:(allT l).length<=1073741823)(hj:(textS (allT l)).length<=140737488355328)(hs:∀p∈l,p.stmts.length<=1073741823)(hx:∀p∈l,∀s∈p.stmts,Ref15.nodes s.x<=1073741824):aB Tryz.prog 11 [prs l] (.ret (Fh l)):=by
 unfold Fh
 cases hv:(allT l).all valid with
 |false=>exact Rj l hn hj hv
 |true=>
  cases hR:(iU (allT l)).1 with
  |none=>exact NH l hn hj hv hR
  |some ps=>
   cases hE:U4 ps l with
   |true=>simp only[hE];exact Vo l ps hn hj hs hx hv hR hE
   |false=>simp only[hE];exact NI l ps hn hj hs hx hv hR hE
theorem xE(s:Sy.Str)(r:D)(h:Nat.ble s.length 1000=true)(e:iw s=r):aB Tryz.prog 10 [.str s] (.ret r):=by
 have:=Bz s (WR (by have:=Nat.le_of_ble_eq_true h;omega));rw[e]at this;exact this
theorem Kr(l:List Pr)(r:D)(h1:Nat.ble (allT l).length 1000=true)(h2:Nat.ble (textS (allT l)).length 1000=true)(hs:l.all (λp=>Nat.ble p.stmts.length 1000&&p.stmts.all λs=>Nat.ble (Ref15.nodes s.x) 1000)=true)(e:Fh l=r):aB Tryz.prog 11 [prs l] (.ret r):=by
 have h:=NJ l (by have:=Nat.le_of_ble_eq_true h1;omega) (by have:=Nat.le_of_ble_eq_true h2;omega) (λp hp=>by have:=List.all_eq_true.1 hs p hp;simp only[Bool.and_eq_true]at this;have:=Nat.le_of_ble_eq_true this.1;omega) (λp hp s hx=>by have:=List.all_eq_true.1 hs p hp;simp only[Bool.and_eq_true]at this;have:=Nat.le_of_ble_eq_true (List.all_eq_true.1 this.2 s hx);omega)
 rw[e]at h;exact h
theorem Rk(n:Int)  : aB Tryz.prog 26 [.i n] (.ret (QM n).d):=by
 refine ag tok hmix ⟨[],[]⟩ Tryz.func26 rfl (by kernel_rfl) (by kernel_rfl) (by kernel_rfl) λhf=>?_
 clear hf
 repeat' ((try(conv=>whnf))<;>first
  |((refine ai ?_);refine⟨[],rfl,?_,trivial⟩;conv=>whnf)
  |fail)
 all_goals first
  |(rfl)
  |skip
theorem Rl(s:Sy.Str)  : aB Tryz.prog 25 [.str s] (.ret (Be s).d):=by
 refine ag tok hmix ⟨[],[]⟩ Tryz.func25 rfl (by kernel_rfl) (by kernel_rfl) (by kernel_rfl) λhf=>?_
 clear hf
 repeat' ((try(conv=>whnf))<;>first
  |((refine ai ?_);refine⟨[],rfl,?_,trivial⟩;conv=>whnf)
  |fail)
 all_goals first
  |(rfl)
  |skip
theorem FH(k:Int)(x y:Ex)  : aB Tryz.prog 24 [.i k,x.d,y.d] (.ret (ex2 k x y).d):=by
 refine ag tok hmix ⟨[],[]⟩ Tryz.func24 rfl (by kernel_rfl) (by kernel_rfl) (by kernel_rfl) λhf=>?_
 clear hf
 repeat' ((try(conv=>whnf))<;>first
  |(refine aF.l _ ?_)
  |((refine ai ?_);refine⟨[],rfl,?_,trivial⟩;conv=>whnf)
  |fail)
 all_goals first
  |((exact z6i k x y))
  |skip
theorem FK   : aB Tryz.prog 9 [] (.ret (.b true)):=by
 refine ag tok hmix ⟨[],[]⟩ Tryz.func9 rfl (by kernel_rfl) (by kernel_rfl) (by kernel_rfl) λhf=>?_
 clear hf
 repeat' ((try(conv=>whnf))<;>first
  |((refine Lx.gi_step ?_ ?_);kernel_rfl)
  |((refine ak ?_ ?_ ?_);rotate_left;(first |exact Rl _ |exact Rk _ |exact FH _ _ _ |exact xE [] _ (by kernel_rfl) Y1 |exact xE z2z _ (by kernel_rfl) at_in |exact xE QN _ (by kernel_rfl) Y2 |exact xE z3a _ (by kernel_rfl) z6h |exact Kr [QO] _ (by kernel_rfl) (by kernel_rfl) (by kernel_rfl) Y3 |exact Kr [J4] _ (by kernel_rfl) (by kernel_rfl) (by kernel_rfl) QR |exact FH 17 (ex2 16 (Be [97]) (Be [98])) (ex1 14 (QM 2)) |exact mQ [J3] [J3] |exact vM J4 J4 |exact vM J3 QO))
  |(refine aF.l _ ?_)
  |((refine aQ ?_ ?_ (λhg=>?_) ?_);exact rfl)
  |((refine bK ?_ ?_);exact rfl;exact rfl)
  |((refine aH ?_ ?_);kernel_rfl)
  |((refine ai ?_);refine⟨[],rfl,?_,trivial⟩;conv=>whnf)
  |fail)
 all_goals first
  |(kernel_rfl)
  |skip
end Go.Proofs.YtmfehangcmbidaaGreatDoor
