/- SyntaxChange, in plain words. -/
import Derived.Test.YtmfehangcmbidaaGreatDoorZSD9
set_option linter.unusedSectionVars false
set_option linter.unusedSimpArgs false
set_option linter.unusedVariables false
namespace Go.Fw.Sy
open Go.Fw Go.Fw.Lx
variable [ae] {l : List Tk} {j : Nat}
theorem uq(p q:List Tk):∃z,textS (p++q)=textS p++z:=by
 cases p with
 |nil=>exact⟨textS q,by simp[textS,Lib.join_nil]⟩
 |cons x p=>
  refine⟨Lib.joinTail [32] (q.map word),?_⟩
  simp only[textS,List.cons_append,List.map_cons,List.map_append,Lib.join_cons,Lib.joinTail,List.flatten_append,List.append_assoc]
theorem BD(x:Tk)(q:List Tk):(textS (x::q)).length<=(word x).length+1+(textS q).length:=by
 cases q with
 |nil=>simp only[textS,List.map_cons,List.map_nil,Lib.join_one,Lib.join_nil,List.length_nil];omega
 |cons y r=>
  simp only[textS,List.map_cons,Lib.join_cons,Lib.joinTail,List.map_cons,List.flatten_cons,List.length_append,List.length_cons,List.length_nil];omega
theorem Ll:∀(m:List Tk) (a k:Nat) (t:Tk),(place a (pairs m))[k]? = some t->((a+(textS (m.take k)).length:Nat):Int)<=t.pos
 | [],a,k,t,h=>by simp[pairs,place]at h
 | [x],a,0,t,h=>by
  simp only[pairs,place,List.getElem?_cons_zero,Option.some.injEq]at h
  subst h
  simp[textS,Lib.join_nil,Lx.at']
 | [x],a,k+1,t,h=>by simp[pairs,place]at h
 |x::y::r,a,0,t,h=>by
  simp only[pairs,place,List.getElem?_cons_zero,Option.some.injEq]at h
  subst h
  simp[textS,Lib.join_nil,Lx.at']
 |x::y::r,a,k+1,t,h=>by
  simp only[pairs,place,List.getElem?_cons_succ]at h
  have h1:=Ll (y::r) _ k t h
  have h2:=BD x ((y::r).take k)
  rw[List.take_succ_cons]
  simp only[List.length_cons,List.length_nil]at h1
  omega
theorem st_at(t:Tk)(a:Nat):st (Lx.at' t a)=st t:=rfl
theorem zx:∀(l:List (Tk×Str)) (a:Nat),Sim (l.map Prod.fst) (place a l)
 | [],_=>rfl
 |(t,g)::l,a=>by
  have:=zx l (a+(word t).length+g.length)
  unfold Sim at this ⊢
  simp only[List.map_cons,place,this,st_at]
theorem Lm{m:List Tk}(h:m.all valid=true):eX pStep (textS m) 0 = .ok (place 0 (pairs m))/\Sim m (place 0 (pairs m)):=by
 refine⟨?_,?_⟩
 ·rw[kT]
  show lexS (Lib.join (m.map word) [32]) 0=_
  rw[<-Fe];exact Ie _ _ (J4 m h)
 ·have:=zx (pairs m) 0
  rw[Fa]at this;exact this
theorem Y8(p q:List Tk):Lib.hasPrefix (textS (p++q)) (textS p)=true:=by
 obtain⟨z,hz⟩:=uq p q
 rw[hz,Lib.hasPrefix,List.isPrefixOf_iff_prefix]
 exact List.prefix_append _ _
theorem Ou{l m r:List Tk}{x:List Pr}(h:(bQ l).1=some x)(hi:l.take j=m.take j)(hv:m.all valid=true)(hr:bQ (place 0 (pairs m))=(none,r)):((textS (m.take j)).length:Int)<=at' ((textS m).length:Int) r:=by
 obtain⟨hl,hs⟩:=Lm hv
 have h1:=Lc hs
 rw[hr]at h1
 obtain⟨e1,e2⟩:=h1
 cases e:bQ m with
 |mk o r0=>
  rw[e]at e1 e2
  simp only at e1 e2
  subst e1
  have h3:=I4 h hi e
  have h4:=hs.len
  have h5:=e2.len
  obtain⟨c,hc,-⟩:=ul.act hr
  have h6:c.length=m.length-r0.length:=by
   have:=congrArg List.length hc
   rw[List.length_append]at this;omega
  have h7:(textS (m.take j)).length<=(textS (m.take c.length)).length:=by
   obtain⟨z,hz⟩:=uq ((m.take c.length).take j) ((m.take c.length).drop j)
   rw[List.take_append_drop,List.take_take,Nat.min_eq_left (by omega)]at hz
   rw[hz,List.length_append];omega
  cases r with
  |nil=>
   simp only[at']
   obtain⟨z,hz⟩:=uq (m.take c.length) (m.drop c.length)
   rw[List.take_append_drop]at hz
   have:=congrArg List.length hz
   rw[List.length_append]at this
   omega
  |cons t r=>
   have h8:(place 0 (pairs m))[c.length]? = some t:=by rw[hc];simp
   have:=Ll m 0 c.length t h8
   simp only[at']
   omega
theorem Y9{t:Tk}(h:l.all valid=true)(ht:valid t=true):(l.set j t).all valid=true:=by
 rw[List.all_eq_true]at h ⊢
 intro x hx
 rcases List.mem_or_eq_of_mem_set hx with h1 |rfl
 ·exact h x h1
 ·exact ht
theorem VT(h:l.all valid=true):(l.take j).all valid=true:=by
 rw[List.all_eq_true]at h ⊢
 exact λx hx=>h x (List.mem_of_mem_take hx)
theorem VU:(textS l).length<=(l.map λt=>(word t).length+1).sum:=by
 induction l with
 |nil=>simp[textS,Lib.join_nil]
 |cons x r ih=>
  have:=BD x r
  simp only[List.map_cons,List.sum_cons];omega
theorem Tc(f:Tk->Nat):∀(l:List Tk) (j:Nat) (t:Tk),((l.set j t).map f).sum<=(l.map f).sum+f t
 | [],_,_=>by simp
 |x::r,0,t=>by simp only[List.set_cons_zero,List.map_cons,List.sum_cons];omega
 |x::r,j+1,t=>by
  have:=Tc f r j t
  simp only[List.set_cons_succ,List.map_cons,List.sum_cons];omega
theorem Td:∀l:List Tk,(l.map λt=>(word t).length+1).sum=XY l+l.length
 | []=>rfl
 |x::r=>by
  have:=Td r
  simp only[XY,List.map_cons,List.sum_cons,List.length_cons]at this ⊢;omega
theorem Ov(m:List Tk)(j:Nat):(textS (m.take j)).length<=(textS m).length:=by
 obtain⟨z,hz⟩:=uq (m.take j) (m.drop j)
 rw[List.take_append_drop]at hz
 have:=congrArg List.length hz
 rw[List.length_append]at this;omega
theorem BF{t:Tk}(h:valid t=true):t.text.length<=32:=by
 unfold valid at h
 split at h
 ·simp only[CJ,Bool.and_eq_true,Bool.not_eq_true',Bool.or_eq_false_iff,decide_eq_false_iff_not]at h
  have:=h.1.1.1.2;omega
 ·split at h
  ·simp only[Bool.and_eq_true,beq_iff_eq]at h
   rw[h.1.1];simp
  ·split at h
   ·simp only[Bool.and_eq_true,beq_iff_eq]at h
    have:=h.1.1;omega
   ·cases h
theorem Za{s:Str}{t:Tk}(hl:eX pStep s 0 = .ok l)(hs:s.length<=2000)(ht:valid t=true):(textS (l.set j t)).length<=5000:=by
 rw[kT]at hl
 have h1:=nX _ s 0 l (Nat.le_refl _) hl
 have h2:=VU (l:=l.set j t)
 have h3:=Tc (λt=>(word t).length+1) l j t
 have h4:=Td l
 have h5:=AY (yT ht).2
 have h6:=BF ht
 omega
end Go.Fw.Sy
