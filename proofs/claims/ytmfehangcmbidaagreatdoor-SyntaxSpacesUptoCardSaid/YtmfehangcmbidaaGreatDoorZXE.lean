/- Contracts: package syntax: Parse, Print. -/
import Derived.Test.YtmfehangcmbidaaGreatDoorZXB
import Derived.Test.YtmfehangcmbidaaGreatDoorZXC
import Derived.Test.YtmfehangcmbidaaGreatDoorZXD
import Derived.Test.YtmfehangcmbidaaGreatDoorZLX
set_option linter.unusedSectionVars false
set_option linter.unusedSimpArgs false
set_option linter.unusedVariables false
set_option maxHeartbeats 8000000
namespace Go.Proofs.YtmfehangcmbidaaGreatDoor
open Go.Fw Go.Fw.Lx Go.Fw.Sy
set_option maxRecDepth 10000
variable [ae]
theorem Og(s:Sy.Str)(hL:decide ((s.length:Int)>65536)=true):aj Tryz.prog 10 [.str s] (.ret (.tuple [.sl 8 [],.i 0,.i 2])):=by
 refine af tok hmix ⟨[],[]⟩ Tryz.func10 rfl (by kernel_rfl) (by kernel_rfl) (by kernel_rfl) λhf=>?_
 clear hf
 repeat' ((try(conv=>whnf))<;>first
  |((refine mg ?_ ?_);exact rfl)
  |((refine ai ?_ ?_ ?_);rotate_left;(exact KR s hL))
  |((refine ah ?_);refine⟨[],rfl,?_,trivial⟩;conv=>whnf)
  |fail)
 all_goals first
  |(rfl)
  |skip
theorem Si(s:Sy.Str)(a:Nat)(hL:decide ((s.length:Int)>65536)=false)(hl:eX pStep s 0 = .error a):aj Tryz.prog 10 [.str s] (.ret (.tuple [.sl 8 [],.i (a:Nat),.i 30])):=by
 refine af tok hmix ⟨[],[]⟩ Tryz.func10 rfl (by kernel_rfl) (by kernel_rfl) (by kernel_rfl) λhf=>?_
 have hq:=oh s hL;rw[hl]at hq
 clear hf
 repeat' ((try(conv=>whnf))<;>first
  |((refine mg ?_ ?_);exact rfl)
  |((refine ai ?_ ?_ ?_);rotate_left;(exact hq))
  |((refine ah ?_);refine⟨[],rfl,?_,trivial⟩;conv=>whnf)
  |fail)
 all_goals first
  |(rfl)
  |skip
theorem VF(s:Sy.Str)(l:List Tk)(hL:decide ((s.length:Int)>65536)=false)(hl:eX pStep s 0 = .ok l)(hn:l.length<=1073741823)(hR:(bQ l).1=none):aj Tryz.prog 10 [.str s] (.ret (.tuple [.sl 8 [],.i (at' (s.length:Int) (bQ l).2),.i 140])):=by
 refine af tok hmix ⟨[],[]⟩ Tryz.func10 rfl (by kernel_rfl) (by kernel_rfl) (by kernel_rfl) λhf=>?_
 have hq:=oh s hL;rw[hl]at hq
 have hr:=nZ l (s.length:Int) hn;rw[vJ hR]at hr
 clear hf
 repeat' ((try(conv=>whnf))<;>first
  |((refine mX ?_ ?_);exact rfl)
  |((refine ai ?_ ?_ ?_);rotate_left;(first |exact hq |exact hr))
  |((refine ah ?_);refine⟨[],rfl,?_,trivial⟩;conv=>whnf)
  |fail)
 all_goals first
  |skip
theorem VG(s:Sy.Str)(l:List Tk)(ps:List Pr)(hL:decide ((s.length:Int)>65536)=false)(hl:eX pStep s 0 = .ok l)(hn:l.length<=1073741823)(hR:(bQ l).1=some ps):aj Tryz.prog 10 [.str s] (.ret (.tuple [prs ps,.i 0,.i 0])):=by
 refine af tok hmix ⟨[],[]⟩ Tryz.func10 rfl (by kernel_rfl) (by kernel_rfl) (by kernel_rfl) λhf=>?_
 have hq:=oh s hL;rw[hl]at hq
 have hr:=nZ l (s.length:Int) hn;rw[oP hR]at hr
 clear hf
 repeat' ((try(conv=>whnf))<;>first
  |((refine mX ?_ ?_);exact rfl)
  |((refine ai ?_ ?_ ?_);rotate_left;(first |exact hq |exact hr))
  |((refine ah ?_);refine⟨[],rfl,?_,trivial⟩;conv=>whnf)
  |fail)
 all_goals first
  |skip
theorem Bz(s:Sy.Str)(hn:∀l,eX pStep s 0 = .ok l->l.length<=1073741823):aj Tryz.prog 10 [.str s] (.ret (gY s)):=by
 unfold gY
 cases hL:decide ((s.length:Int)>65536)with
 |true=>exact Og s hL
 |false=>
  cases hl:eX pStep s 0 with
  |error a=>exact Si s a hL hl
  |ok l=>
   cases hR:(bQ l).1 with
   |none=>simp only[vJ hR];exact VF s l hL hl (hn l hl) hR
   |some ps=>simp only[oP hR];exact VG s l ps hL hl (hn l hl) hR
theorem Sj(l:List Pr)(hn:(allT l).length<=1073741823)(hj:(textS (allT l)).length<=140737488355328)(hv:(allT l).all valid=false):aj Tryz.prog 11 [prs l] (.ret (Bc)):=by
 refine af tok hmix ⟨[],[]⟩ Tryz.func11 rfl (by kernel_rfl) (by kernel_rfl) (by kernel_rfl) λhf=>?_
 have hlen:l.length<=9223372036854775807:=by simpa using(hf (prs l) (by simp)).sl.1
 have hq:=oq (allT l) (by omega) hj;rw[Vq hv]at hq
 clear hf
 repeat' ((try(conv=>whnf))<;>first
  |((refine mg ?_ ?_);exact rfl)
  |((refine aV (iM x0) (bZ x0.d) (λts h=>oW x0 ts h) ?_);refine⟨_,_,_,rfl,rfl,rfl,rfl,rfl,KG hI0 hn,?_⟩)
  |((obtain rfl:=KH hI0);clear hI0)
  |exact trivial
  |exact aO hd0 ‹_›
  |refine iO hd0 ?_
  |refine fC hd0 ?_
  |((refine aN.mk 0 ?_);refine⟨bI (l) 14 (λ(ts:(List Tk))=>[]) (λ(ts:(List Tk))=>[(11,.cells [.gs 900011 4 (ts.map Tk.cs)]),(900011,.tok 4 (ts.map Tk.cs).length)]) [0,4,12,13] (λi0 r0 ts=>WrI l r0 ts),?_⟩;refine au ([]) ?_ ?_ (λi0 (ts:(List Tk)) hd0 hI0=>?_) (λi0 x0 r0 (ts:(List Tk)) hd0 hl0 hI0=>?_))
  |(refine ak hd0 (ts++iM x0) ?_ ?_)
  |((refine ai ?_ ?_ ?_);rotate_left;(exact hq))
  |((refine di ?_ ?_ ?_ ?_ ?_ ?_)<;>exact rfl)
  |((refine dF ?_ ?_ ?_ ?_)<;>exact rfl)
  |((refine aW ?_ ?_ ?_ ?_ ?_);exact rfl;exact rfl;rotate_left;(exact dI hd0))
  |((refine bW ?_ ?_);exact rfl)
  |((refine ah ?_);refine⟨[],rfl,?_,trivial⟩;conv=>whnf)
  |(refine And.intro ?_ ?_)
  |exact @rfl AV _
  |fail)
 all_goals first
  |(rfl)
  |((exact xq l))
  |((exact Dt hI0))
  |skip
theorem Oh(l:List Pr)(hn:(allT l).length<=1073741823)(hj:(textS (allT l)).length<=140737488355328)(hv:(allT l).all valid=true)(hR:(bQ (allT l)).1=none):aj Tryz.prog 11 [prs l] (.ret (Bc)):=by
 refine af tok hmix ⟨[],[]⟩ Tryz.func11 rfl (by kernel_rfl) (by kernel_rfl) (by kernel_rfl) λhf=>?_
 have hlen:l.length<=9223372036854775807:=by simpa using(hf (prs l) (by simp)).sl.1
 have hq:=oq (allT l) (by omega) hj;rw[ui hv]at hq
 have hr:=nZ (allT l) 0 hn;rw[vJ hR]at hr
 clear hf
 repeat' ((try(conv=>whnf))<;>first
  |((refine mg ?_ ?_);exact rfl)
  |((refine mX ?_ ?_);exact rfl)
  |((refine uZ (.data (.b false)) ?_ ?_ ?_);exact rfl;exact rfl)
  |((refine aV (iM x0) (bZ x0.d) (λts h=>oW x0 ts h) ?_);refine⟨_,_,_,rfl,rfl,rfl,rfl,rfl,KG hI0 hn,?_⟩)
  |((obtain rfl:=KH hI0);clear hI0)
  |exact trivial
  |exact aO hd0 ‹_›
  |refine iO hd0 ?_
  |refine fC hd0 ?_
  |((refine aN.mk 0 ?_);refine⟨bI (l) 14 (λ(ts:(List Tk))=>[]) (λ(ts:(List Tk))=>[(11,.cells [.gs 900011 4 (ts.map Tk.cs)]),(900011,.tok 4 (ts.map Tk.cs).length)]) [0,4,12,13] (λi0 r0 ts=>WrI l r0 ts),?_⟩;refine au ([]) ?_ ?_ (λi0 (ts:(List Tk)) hd0 hI0=>?_) (λi0 x0 r0 (ts:(List Tk)) hd0 hl0 hI0=>?_))
  |(refine ak hd0 (ts++iM x0) ?_ ?_)
  |((refine ai ?_ ?_ ?_);rotate_left;(first |exact hq |exact hr))
  |((refine di ?_ ?_ ?_ ?_ ?_ ?_)<;>exact rfl)
  |((refine dF ?_ ?_ ?_ ?_)<;>exact rfl)
  |((refine aW ?_ ?_ ?_ ?_ ?_);exact rfl;exact rfl;rotate_left;(exact dI hd0))
  |((refine bW ?_ ?_);exact rfl)
  |((refine ah ?_);refine⟨[],rfl,?_,trivial⟩;conv=>whnf)
  |(refine And.intro ?_ ?_)
  |exact @rfl AV _
  |fail)
 all_goals first
  |(rfl)
  |((exact xq l))
  |((exact Dt hI0))
  |skip
theorem Oi(l:List Pr)(ps:List Pr)(hn:(allT l).length<=1073741823)(hj:(textS (allT l)).length<=140737488355328)(hs:∀p∈l,p.stmts.length<=1073741823)(hx:∀p∈l,∀s∈p.stmts,Ref15.nodes s.x<=1073741824)(hv:(allT l).all valid=true)(hR:(bQ (allT l)).1=some ps)(hE:Vp ps l=false):aj Tryz.prog 11 [prs l] (.ret (Bc)):=by
 refine af tok hmix ⟨[],[]⟩ Tryz.func11 rfl (by kernel_rfl) (by kernel_rfl) (by kernel_rfl) λhf=>?_
 have hlen:l.length<=9223372036854775807:=by simpa using(hf (prs l) (by simp)).sl.1
 have hq:=oq (allT l) (by omega) hj;rw[ui hv]at hq
 have hr:=nZ (allT l) 0 hn;rw[oP hR]at hr
 have he:=Bv ps l hs hx;rw[show lenE (λq=>fO q.1 (Fq q.2)) ps l=false from hE]at he
 clear hf
 repeat' ((try(conv=>whnf))<;>first
  |((refine mg ?_ ?_);exact rfl)
  |((refine mX ?_ ?_);exact rfl)
  |((refine aV (iM x0) (bZ x0.d) (λts h=>oW x0 ts h) ?_);refine⟨_,_,_,rfl,rfl,rfl,rfl,rfl,KG hI0 hn,?_⟩)
  |((obtain rfl:=KH hI0);clear hI0)
  |exact trivial
  |exact aO hd0 ‹_›
  |refine iO hd0 ?_
  |refine fC hd0 ?_
  |((refine aN.mk 0 ?_);refine⟨bI (l) 14 (λ(ts:(List Tk))=>[]) (λ(ts:(List Tk))=>[(11,.cells [.gs 900011 4 (ts.map Tk.cs)]),(900011,.tok 4 (ts.map Tk.cs).length)]) [0,4,12,13] (λi0 r0 ts=>WrI l r0 ts),?_⟩;refine au ([]) ?_ ?_ (λi0 (ts:(List Tk)) hd0 hI0=>?_) (λi0 x0 r0 (ts:(List Tk)) hd0 hl0 hI0=>?_))
  |(refine ak hd0 (ts++iM x0) ?_ ?_)
  |((refine ai ?_ ?_ ?_);rotate_left;(first |exact hq |exact hr |exact he))
  |((refine di ?_ ?_ ?_ ?_ ?_ ?_)<;>exact rfl)
  |((refine dF ?_ ?_ ?_ ?_)<;>exact rfl)
  |((refine aW ?_ ?_ ?_ ?_ ?_);exact rfl;exact rfl;rotate_left;(exact dI hd0))
  |((refine bW ?_ ?_);exact rfl)
  |((refine aJ ?_ ?_ (λhg=>?_) ?_);exact rfl)
  |((refine aX ?_ ?_);exact rfl;exact rfl)
  |((refine ah ?_);refine⟨[],rfl,?_,trivial⟩;conv=>whnf)
  |(refine And.intro ?_ ?_)
  |exact @rfl AV _
  |fail)
 all_goals first
  |(rfl)
  |((exact xq l))
  |((exact Dt hI0))
  |skip
theorem VH(l:List Pr)(ps:List Pr)(hn:(allT l).length<=1073741823)(hj:(textS (allT l)).length<=140737488355328)(hs:∀p∈l,p.stmts.length<=1073741823)(hx:∀p∈l,∀s∈p.stmts,Ref15.nodes s.x<=1073741824)(hv:(allT l).all valid=true)(hR:(bQ (allT l)).1=some ps)(hE:Vp ps l=true):aj Tryz.prog 11 [prs l] (.ret (.tuple [.str (textS (allT l)),.i 0])):=by
 refine af tok hmix ⟨[],[]⟩ Tryz.func11 rfl (by kernel_rfl) (by kernel_rfl) (by kernel_rfl) λhf=>?_
 have hlen:l.length<=9223372036854775807:=by simpa using(hf (prs l) (by simp)).sl.1
 have hq:=oq (allT l) (by omega) hj;rw[ui hv]at hq
 have hr:=nZ (allT l) 0 hn;rw[oP hR]at hr
 have he:=Bv ps l hs hx;rw[show lenE (λq=>fO q.1 (Fq q.2)) ps l=true from hE]at he
 clear hf
 repeat' ((try(conv=>whnf))<;>first
  |((refine mX ?_ ?_);exact rfl)
  |((refine aV (iM x0) (bZ x0.d) (λts h=>oW x0 ts h) ?_);refine⟨_,_,_,rfl,rfl,rfl,rfl,rfl,KG hI0 hn,?_⟩)
  |((obtain rfl:=KH hI0);clear hI0)
  |exact trivial
  |exact aO hd0 ‹_›
  |refine iO hd0 ?_
  |refine fC hd0 ?_
  |((refine aN.mk 0 ?_);refine⟨bI (l) 14 (λ(ts:(List Tk))=>[]) (λ(ts:(List Tk))=>[(11,.cells [.gs 900011 4 (ts.map Tk.cs)]),(900011,.tok 4 (ts.map Tk.cs).length)]) [0,4,12,13] (λi0 r0 ts=>WrI l r0 ts),?_⟩;refine au ([]) ?_ ?_ (λi0 (ts:(List Tk)) hd0 hI0=>?_) (λi0 x0 r0 (ts:(List Tk)) hd0 hl0 hI0=>?_))
  |(refine ak hd0 (ts++iM x0) ?_ ?_)
  |((refine ai ?_ ?_ ?_);rotate_left;(first |exact hq |exact hr |exact he))
  |((refine di ?_ ?_ ?_ ?_ ?_ ?_)<;>exact rfl)
  |((refine dF ?_ ?_ ?_ ?_)<;>exact rfl)
  |((refine aW ?_ ?_ ?_ ?_ ?_);exact rfl;exact rfl;rotate_left;(exact dI hd0))
  |((refine bW ?_ ?_);exact rfl)
  |((refine aJ ?_ ?_ (λhg=>?_) ?_);exact rfl)
  |((refine aX ?_ ?_);exact rfl;exact rfl)
  |((refine ah ?_);refine⟨[],rfl,?_,trivial⟩;conv=>whnf)
  |(refine And.intro ?_ ?_)
  |exact @rfl AV _
  |fail)
 all_goals first
  |((exact xq l))
  |((exact Dt hI0))
  |skip
theorem Oj(l:List Pr)(hn:(allT l).length<=1073741823)(hj:(textS (allT l)).length<=140737488355328)(hs:∀p∈l,p.stmts.length<=1073741823)(hx:∀p∈l,∀s∈p.stmts,Ref15.nodes s.x<=1073741824):aj Tryz.prog 11 [prs l] (.ret (FP l)):=by
 unfold FP
 cases hv:(allT l).all valid with
 |false=>exact Sj l hn hj hv
 |true=>
  cases hR:(bQ (allT l)).1 with
  |none=>exact Oh l hn hj hv hR
  |some ps=>
   cases hE:Vp ps l with
   |true=>simp only[hE];exact VH l ps hn hj hs hx hv hR hE
   |false=>simp only[hE];exact Oi l ps hn hj hs hx hv hR hE
theorem xu(s:Sy.Str)(r:D)(h:Nat.ble s.length 1000=true)(e:gY s=r):aj Tryz.prog 10 [.str s] (.ret r):=by
 have:=Bz s (WS (by have:=Nat.le_of_ble_eq_true h;omega));rw[e]at this;exact this
theorem KT(l:List Pr)(r:D)(h1:Nat.ble (allT l).length 1000=true)(h2:Nat.ble (textS (allT l)).length 1000=true)(hs:l.all (λp=>Nat.ble p.stmts.length 1000&&p.stmts.all λs=>Nat.ble (Ref15.nodes s.x) 1000)=true)(e:FP l=r):aj Tryz.prog 11 [prs l] (.ret r):=by
 have h:=Oj l (by have:=Nat.le_of_ble_eq_true h1;omega) (by have:=Nat.le_of_ble_eq_true h2;omega) (λp hp=>by have:=List.all_eq_true.1 hs p hp;simp only[Bool.and_eq_true]at this;have:=Nat.le_of_ble_eq_true this.1;omega) (λp hp s hx=>by have:=List.all_eq_true.1 hs p hp;simp only[Bool.and_eq_true]at this;have:=Nat.le_of_ble_eq_true (List.all_eq_true.1 this.2 s hx);omega)
 rw[e]at h;exact h
theorem Sl(n:Int)  : aj Tryz.prog 26 [.i n] (.ret (Rt n).d):=by
 refine af tok hmix ⟨[],[]⟩ Tryz.func26 rfl (by kernel_rfl) (by kernel_rfl) (by kernel_rfl) λhf=>?_
 clear hf
 repeat' ((try(conv=>whnf))<;>first
  |((refine ah ?_);refine⟨[],rfl,?_,trivial⟩;conv=>whnf)
  |fail)
 all_goals first
  |(rfl)
  |skip
theorem Sr(s:Sy.Str)  : aj Tryz.prog 25 [.str s] (.ret (Be s).d):=by
 refine af tok hmix ⟨[],[]⟩ Tryz.func25 rfl (by kernel_rfl) (by kernel_rfl) (by kernel_rfl) λhf=>?_
 clear hf
 repeat' ((try(conv=>whnf))<;>first
  |((refine ah ?_);refine⟨[],rfl,?_,trivial⟩;conv=>whnf)
  |fail)
 all_goals first
  |(rfl)
  |skip
theorem F5(k:Int)(x y:Ex)  : aj Tryz.prog 24 [.i k,x.d,y.d] (.ret (ex2 k x y).d):=by
 refine af tok hmix ⟨[],[]⟩ Tryz.func24 rfl (by kernel_rfl) (by kernel_rfl) (by kernel_rfl) λhf=>?_
 clear hf
 repeat' ((try(conv=>whnf))<;>first
  |(refine aB.l _ ?_)
  |((refine ah ?_);refine⟨[],rfl,?_,trivial⟩;conv=>whnf)
  |fail)
 all_goals first
  |((exact z4f k x y))
  |skip
theorem iK   : aj Tryz.prog 9 [] (.ret (.b true)):=by
 refine af tok hmix ⟨[],[]⟩ Tryz.func9 rfl (by kernel_rfl) (by kernel_rfl) (by kernel_rfl) λhf=>?_
 clear hf
 repeat' ((try(conv=>whnf))<;>first
  |((refine Lx.gi_step ?_ ?_);kernel_rfl)
  |((refine ai ?_ ?_ ?_);rotate_left;(first |exact Sr _ |exact Sl _ |exact F5 _ _ _ |exact xu [] _ (by kernel_rfl) YV |exact xu z1x _ (by kernel_rfl) at_in |exact xu Ru _ (by kernel_rfl) YW |exact xu z1y _ (by kernel_rfl) z4e |exact KT [Rw] _ (by kernel_rfl) (by kernel_rfl) (by kernel_rfl) YX |exact KT [KJ] _ (by kernel_rfl) (by kernel_rfl) (by kernel_rfl) Rx |exact F5 17 (ex2 16 (Be [97]) (Be [98])) (ex1 14 (Rt 2)) |exact eP [KI] [KI] |exact vK KJ KJ |exact vK KI Rw))
  |(refine aB.l _ ?_)
  |((refine aJ ?_ ?_ (λhg=>?_) ?_);exact rfl)
  |((refine aX ?_ ?_);exact rfl;exact rfl)
  |((refine aF ?_ ?_);kernel_rfl)
  |((refine ah ?_);refine⟨[],rfl,?_,trivial⟩;conv=>whnf)
  |fail)
 all_goals first
  |(kernel_rfl)
  |skip
end Go.Proofs.YtmfehangcmbidaaGreatDoor
