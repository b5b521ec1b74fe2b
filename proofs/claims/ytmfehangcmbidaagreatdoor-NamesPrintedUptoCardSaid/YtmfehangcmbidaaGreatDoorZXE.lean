/- Contracts: package syntax: Parse, Print. -/
import Derived.Test.YtmfehangcmbidaaGreatDoorZXB
import Derived.Test.YtmfehangcmbidaaGreatDoorZXC
import Derived.Test.YtmfehangcmbidaaGreatDoorZXD
import Derived.Test.YtmfehangcmbidaaGreatDoorZLX
set_option linter.unusedSectionVars false
set_option linter.unusedSimpArgs false
set_option linter.unusedVariables false
set_option maxHeartbeats 400000
namespace Go.Proofs.YtmfehangcmbidaaGreatDoor
open Go.Fw Go.Fw.Lx Go.Fw.Sy
set_option maxRecDepth 10000
variable [ae]
theorem DF(s:Sy.Str)(hL:decide ((s.length:Int)>65536)=true):aj Tryz.prog 10 [.str s] (.ret (.tuple [.sl 8 [],.i 0,.i 2])):=by
 refine bV Tryz.func10 ?_
 repeat' ((try(conv=>whnf))<;>first
  |((refine nU ?_ ?_);exact rfl)
  |((refine ai ?_ ?_ ?_);rotate_left;(exact XA s hL))
  |(refine qo ?_;conv=>whnf)
  |fail)
 all_goals first
  |(rfl)
  |skip
theorem U3(s:Sy.Str)(a:Nat)(hL:decide ((s.length:Int)>65536)=false)(hl:jl pStep s 0 = .error a):aj Tryz.prog 10 [.str s] (.ret (.tuple [.sl 8 [],.i (a:Nat),.i 30])):=by
 refine dM Tryz.func10 λhf=>?_
 have hq:=Ba s hL;rw[hl]at hq
 clear hf
 repeat' ((try(conv=>whnf))<;>first
  |((refine nU ?_ ?_);exact rfl)
  |((refine ai ?_ ?_ ?_);rotate_left;(exact hq))
  |(refine qo ?_;conv=>whnf)
  |fail)
 all_goals first
  |(rfl)
  |skip
theorem XB(s:Sy.Str)(l:List Tk)(hL:decide ((s.length:Int)>65536)=false)(hl:jl pStep s 0 = .ok l)(hn:l.length<=1073741823)(hR:(jV l).1=none):aj Tryz.prog 10 [.str s] (.ret (.tuple [.sl 8 [],.i (at' (s.length:Int) (jV l).2),.i 140])):=by
 refine dM Tryz.func10 λhf=>?_
 have hq:=Ba s hL;rw[hl]at hq
 have hr:=pY l (s.length:Int) hn;rw[xw hR]at hr
 clear hf
 repeat' ((try(conv=>whnf))<;>first
  |((refine mP ?_ ?_);exact rfl)
  |((refine ai ?_ ?_ ?_);rotate_left;(first |exact hq |exact hr))
  |(refine qo ?_;conv=>whnf)
  |fail)
 all_goals first
  |skip
theorem XC(s:Sy.Str)(l:List Tk)(ps:List Pr)(hL:decide ((s.length:Int)>65536)=false)(hl:jl pStep s 0 = .ok l)(hn:l.length<=1073741823)(hR:(jV l).1=some ps):aj Tryz.prog 10 [.str s] (.ret (.tuple [prs ps,.i 0,.i 0])):=by
 refine dM Tryz.func10 λhf=>?_
 have hq:=Ba s hL;rw[hl]at hq
 have hr:=pY l (s.length:Int) hn;rw[qE hR]at hr
 clear hf
 repeat' ((try(conv=>whnf))<;>first
  |((refine mP ?_ ?_);exact rfl)
  |((refine ai ?_ ?_ ?_);rotate_left;(first |exact hq |exact hr))
  |(refine qo ?_;conv=>whnf)
  |fail)
 all_goals first
  |skip
theorem P8(s:Sy.Str)(hn:∀l,jl pStep s 0 = .ok l->l.length<=1073741823):aj Tryz.prog 10 [.str s] (.ret (xX s)):=by
 unfold xX
 cases hL:decide ((s.length:Int)>65536)with
 |true=>exact DF s hL
 |false=>
  cases hl:jl pStep s 0 with
  |error a=>exact U3 s a hL hl
  |ok l=>
   cases hR:(jV l).1 with
   |none=>simp only[xw hR];exact XB s l hL hl (hn l hl) hR
   |some ps=>simp only[qE hR];exact XC s l ps hL hl (hn l hl) hR
theorem U4(l:List Pr)(hn:(allT l).length<=1073741823)(hj:(textS (allT l)).length<=140737488355328)(hv:(allT l).all valid=false):aj Tryz.prog 11 [prs l] (.ret (Au)):=by
 refine dM Tryz.func11 λhf=>?_
 have hlen:l.length<=9223372036854775807:=by simpa using(hf (prs l) (by simp)).sl.1
 have hq:=vO (allT l) (by omega) hj;rw[WR hv]at hq
 clear hf
 repeat' ((try(conv=>whnf))<;>first
  |((refine nU ?_ ?_);exact rfl)
  |((refine bf (gW x0) (cZ x0.d) (λts h=>qN x0 ts h) ?_);refine⟨_,_,_,rfl,rfl,rfl,rfl,rfl,MZ hI0 hn,?_⟩)
  |((obtain rfl:=Na hI0);clear hI0)
  |exact trivial
  |exact ah hd0 ‹_›
  |refine bz hd0 ?_
  |refine aS hd0 ?_
  |((refine ak.mk 0 ?_);refine⟨aF (l) 14 (λ(ts:(List Tk))=>[]) (λ(ts:(List Tk))=>[(11,.cells [.gs 900011 4 (ts.map Tk.cs)]),(900011,.tok 4 (ts.map Tk.cs).length)]) [0,4,12,13] (λi0 r0 ts=>WrI l r0 ts),?_⟩;refine ag ([]) ?_ ?_ (λi0 (ts:(List Tk)) hd0 hI0=>?_) (λi0 x0 r0 (ts:(List Tk)) hd0 hl0 hI0=>?_))
  |(refine af hd0 (ts++gW x0) ?_ ?_)
  |((refine ai ?_ ?_ ?_);rotate_left;(exact hq))
  |((refine bW ?_ ?_ ?_ ?_ ?_ ?_)<;>exact rfl)
  |((refine dm ?_ ?_ ?_ ?_)<;>exact rfl)
  |((refine aJ ?_ ?_ ?_ ?_ ?_);exact rfl;exact rfl;rotate_left;(exact aA hd0))
  |((refine aV ?_ ?_);exact rfl)
  |(refine qo ?_;conv=>whnf)
  |(refine And.intro ?_ ?_)
  |exact @rfl AV _
  |fail)
 all_goals first
  |(rfl)
  |((exact yQ l))
  |((exact EI hI0))
  |skip
theorem P9(l:List Pr)(hn:(allT l).length<=1073741823)(hj:(textS (allT l)).length<=140737488355328)(hv:(allT l).all valid=true)(hR:(jV (allT l)).1=none):aj Tryz.prog 11 [prs l] (.ret (Au)):=by
 refine dM Tryz.func11 λhf=>?_
 have hlen:l.length<=9223372036854775807:=by simpa using(hf (prs l) (by simp)).sl.1
 have hq:=vO (allT l) (by omega) hj;rw[Aw hv]at hq
 have hr:=pY (allT l) 0 hn;rw[xw hR]at hr
 clear hf
 repeat' ((try(conv=>whnf))<;>first
  |((refine nU ?_ ?_);exact rfl)
  |((refine mP ?_ ?_);exact rfl)
  |((refine wW (.data (.b false)) ?_ ?_ ?_);exact rfl;exact rfl)
  |((refine bf (gW x0) (cZ x0.d) (λts h=>qN x0 ts h) ?_);refine⟨_,_,_,rfl,rfl,rfl,rfl,rfl,MZ hI0 hn,?_⟩)
  |((obtain rfl:=Na hI0);clear hI0)
  |exact trivial
  |exact ah hd0 ‹_›
  |refine bz hd0 ?_
  |refine aS hd0 ?_
  |((refine ak.mk 0 ?_);refine⟨aF (l) 14 (λ(ts:(List Tk))=>[]) (λ(ts:(List Tk))=>[(11,.cells [.gs 900011 4 (ts.map Tk.cs)]),(900011,.tok 4 (ts.map Tk.cs).length)]) [0,4,12,13] (λi0 r0 ts=>WrI l r0 ts),?_⟩;refine ag ([]) ?_ ?_ (λi0 (ts:(List Tk)) hd0 hI0=>?_) (λi0 x0 r0 (ts:(List Tk)) hd0 hl0 hI0=>?_))
  |(refine af hd0 (ts++gW x0) ?_ ?_)
  |((refine ai ?_ ?_ ?_);rotate_left;(first |exact hq |exact hr))
  |((refine bW ?_ ?_ ?_ ?_ ?_ ?_)<;>exact rfl)
  |((refine dm ?_ ?_ ?_ ?_)<;>exact rfl)
  |((refine aJ ?_ ?_ ?_ ?_ ?_);exact rfl;exact rfl;rotate_left;(exact aA hd0))
  |((refine aV ?_ ?_);exact rfl)
  |(refine qo ?_;conv=>whnf)
  |(refine And.intro ?_ ?_)
  |exact @rfl AV _
  |fail)
 all_goals first
  |(rfl)
  |((exact yQ l))
  |((exact EI hI0))
  |skip
theorem Qa(l:List Pr)(ps:List Pr)(hn:(allT l).length<=1073741823)(hj:(textS (allT l)).length<=140737488355328)(hs:∀p∈l,p.stmts.length<=1073741823)(hx:∀p∈l,∀s∈p.stmts,Ref15.nodes s.x<=1073741824)(hv:(allT l).all valid=true)(hR:(jV (allT l)).1=some ps)(hE:JP ps l=false):aj Tryz.prog 11 [prs l] (.ret (Au)):=by
 refine dM Tryz.func11 λhf=>?_
 have hlen:l.length<=9223372036854775807:=by simpa using(hf (prs l) (by simp)).sl.1
 have hq:=vO (allT l) (by omega) hj;rw[Aw hv]at hq
 have hr:=pY (allT l) 0 hn;rw[qE hR]at hr
 have he:=DD ps l hs hx;rw[show lenE (λq=>lS q.1 (bareP q.2)) ps l=false from hE]at he
 clear hf
 repeat' ((try(conv=>whnf))<;>first
  |((refine nU ?_ ?_);exact rfl)
  |((refine mP ?_ ?_);exact rfl)
  |((refine bf (gW x0) (cZ x0.d) (λts h=>qN x0 ts h) ?_);refine⟨_,_,_,rfl,rfl,rfl,rfl,rfl,MZ hI0 hn,?_⟩)
  |((obtain rfl:=Na hI0);clear hI0)
  |exact trivial
  |exact ah hd0 ‹_›
  |refine bz hd0 ?_
  |refine aS hd0 ?_
  |((refine ak.mk 0 ?_);refine⟨aF (l) 14 (λ(ts:(List Tk))=>[]) (λ(ts:(List Tk))=>[(11,.cells [.gs 900011 4 (ts.map Tk.cs)]),(900011,.tok 4 (ts.map Tk.cs).length)]) [0,4,12,13] (λi0 r0 ts=>WrI l r0 ts),?_⟩;refine ag ([]) ?_ ?_ (λi0 (ts:(List Tk)) hd0 hI0=>?_) (λi0 x0 r0 (ts:(List Tk)) hd0 hl0 hI0=>?_))
  |(refine af hd0 (ts++gW x0) ?_ ?_)
  |((refine ai ?_ ?_ ?_);rotate_left;(first |exact hq |exact hr |exact he))
  |((refine bW ?_ ?_ ?_ ?_ ?_ ?_)<;>exact rfl)
  |((refine dm ?_ ?_ ?_ ?_)<;>exact rfl)
  |((refine aJ ?_ ?_ ?_ ?_ ?_);exact rfl;exact rfl;rotate_left;(exact aA hd0))
  |((refine aV ?_ ?_);exact rfl)
  |((refine aP ?_ ?_ (λhg=>?_) ?_);exact rfl)
  |((refine bH ?_ ?_);exact rfl;exact rfl)
  |(refine qo ?_;conv=>whnf)
  |(refine And.intro ?_ ?_)
  |exact @rfl AV _
  |fail)
 all_goals first
  |(rfl)
  |((exact yQ l))
  |((exact EI hI0))
  |skip
theorem XD(l:List Pr)(ps:List Pr)(hn:(allT l).length<=1073741823)(hj:(textS (allT l)).length<=140737488355328)(hs:∀p∈l,p.stmts.length<=1073741823)(hx:∀p∈l,∀s∈p.stmts,Ref15.nodes s.x<=1073741824)(hv:(allT l).all valid=true)(hR:(jV (allT l)).1=some ps)(hE:JP ps l=true):aj Tryz.prog 11 [prs l] (.ret (.tuple [.str (textS (allT l)),.i 0])):=by
 refine dM Tryz.func11 λhf=>?_
 have hlen:l.length<=9223372036854775807:=by simpa using(hf (prs l) (by simp)).sl.1
 have hq:=vO (allT l) (by omega) hj;rw[Aw hv]at hq
 have hr:=pY (allT l) 0 hn;rw[qE hR]at hr
 have he:=DD ps l hs hx;rw[show lenE (λq=>lS q.1 (bareP q.2)) ps l=true from hE]at he
 clear hf
 repeat' ((try(conv=>whnf))<;>first
  |((refine mP ?_ ?_);exact rfl)
  |((refine bf (gW x0) (cZ x0.d) (λts h=>qN x0 ts h) ?_);refine⟨_,_,_,rfl,rfl,rfl,rfl,rfl,MZ hI0 hn,?_⟩)
  |((obtain rfl:=Na hI0);clear hI0)
  |exact trivial
  |exact ah hd0 ‹_›
  |refine bz hd0 ?_
  |refine aS hd0 ?_
  |((refine ak.mk 0 ?_);refine⟨aF (l) 14 (λ(ts:(List Tk))=>[]) (λ(ts:(List Tk))=>[(11,.cells [.gs 900011 4 (ts.map Tk.cs)]),(900011,.tok 4 (ts.map Tk.cs).length)]) [0,4,12,13] (λi0 r0 ts=>WrI l r0 ts),?_⟩;refine ag ([]) ?_ ?_ (λi0 (ts:(List Tk)) hd0 hI0=>?_) (λi0 x0 r0 (ts:(List Tk)) hd0 hl0 hI0=>?_))
  |(refine af hd0 (ts++gW x0) ?_ ?_)
  |((refine ai ?_ ?_ ?_);rotate_left;(first |exact hq |exact hr |exact he))
  |((refine bW ?_ ?_ ?_ ?_ ?_ ?_)<;>exact rfl)
  |((refine dm ?_ ?_ ?_ ?_)<;>exact rfl)
  |((refine aJ ?_ ?_ ?_ ?_ ?_);exact rfl;exact rfl;rotate_left;(exact aA hd0))
  |((refine aV ?_ ?_);exact rfl)
  |((refine aP ?_ ?_ (λhg=>?_) ?_);exact rfl)
  |((refine bH ?_ ?_);exact rfl;exact rfl)
  |(refine qo ?_;conv=>whnf)
  |(refine And.intro ?_ ?_)
  |exact @rfl AV _
  |fail)
 all_goals first
  |((exact yQ l))
  |((exact EI hI0))
  |skip
theorem Qb(l:List Pr)(hn:(allT l).length<=1073741823)(hj:(textS (allT l)).length<=140737488355328)(hs:∀p∈l,p.stmts.length<=1073741823)(hx:∀p∈l,∀s∈p.stmts,Ref15.nodes s.x<=1073741824):aj Tryz.prog 11 [prs l] (.ret (pW l)):=by
 unfold pW
 cases hv:(allT l).all valid with
 |false=>exact U4 l hn hj hv
 |true=>
  cases hR:(jV (allT l)).1 with
  |none=>exact P9 l hn hj hv hR
  |some ps=>
   cases hE:JP ps l with
   |true=>simp only[hE];exact XD l ps hn hj hs hx hv hR hE
   |false=>simp only[hE];exact Qa l ps hn hj hs hx hv hR hE
end Go.Proofs.YtmfehangcmbidaaGreatDoor
