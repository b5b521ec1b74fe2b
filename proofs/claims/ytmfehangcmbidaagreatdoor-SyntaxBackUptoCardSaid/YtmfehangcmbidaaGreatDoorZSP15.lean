/- SyntaxBack: what is written is read: declarations. -/
import Derived.Test.YtmfehangcmbidaaGreatDoorZSP14
set_option linter.unusedSectionVars false
set_option linter.unusedSimpArgs false
set_option linter.unusedVariables false
namespace Go.Fw.Sy
open Go.Fw Go.Fw.Lx
variable [ae]
def kY(n:Int):Prop:=-2147483648<=n/\n<=2147483648
theorem Ez{n:Int}(h:kY n)(hn:n<0):dQ n = [sg sMinus,nu (-n)]:=by
 unfold dQ;rw[if_pos hn,gW (by have:=h.1;omega) (by have:=h.1;omega),Int.zero_sub]
theorem MB{n:Int}(h:kY n)(l:List Tk):intM (dQ n++l)=(some n,l):=by
 obtain⟨h1,h2⟩:=h
 rcases Int.lt_or_le n 0 with hn |hn
 ·rw[Ez ⟨h1,h2⟩ hn]
  show intM (sg sMinus::nu (-n)::l)=_
  unfold intM
  rw[if_pos (by rw[dC];rfl),List.drop_one,List.tail_cons,CW ⟨by omega,by omega⟩,mi,gW (by omega) (by omega)]
  simp
 ·rw[kC ⟨hn,h2⟩]
  show intM (nu n::l)=_
  unfold intM
  rw[if_neg (by rw[Ye];exact Bool.noConfusion)]
  exact CW ⟨hn,h2⟩ l
theorem WZ{l r:List Tk}{n:Int}(h:Val l)(e:intM l=(some n,r)):kY n:=by
 unfold intM at e
 split at e
 ·obtain⟨m,l1,h1,e⟩:=ah e
  have hm:=Js h.drop h1
  simp only[Prod.mk.injEq,Option.some.injEq]at e
  obtain⟨rfl,_⟩:=e
  rw[gW (by have:=hm.2;omega) (by have:=hm.1;omega)]
  exact⟨by have:=hm.2;omega,by have:=hm.1;omega⟩
 ·have:=Js h e
  exact⟨by have:=this.1;omega,this.2⟩
theorem G9{lo hi:Int}(h1:kY lo)(h2:kY hi)(l:List Tk):kM (wd wFrom::(dQ lo++(wd wTo::(dQ hi++l))))=(some (lo,hi),l):=by
 unfold kM
 rw[pJ];simp only[mi]
 rw[MB h1];simp only[mi,pJ]
 rw[MB h2];rfl
structure W9(b:Bd):Prop where
 n:CV b.name
 lo:kY b.lo
 hi:kY b.hi
structure z7z(b:Ln):Prop where
 n:CV b.name
 s:qU b.size
 lo:kY b.lo
 hi:kY b.hi
structure z8a(t:Tb):Prop where
 n:CV t.name
 ne:t.values ≠ []
 v:∀x∈t.values,kY x
structure Yg(s:Sm):Prop where
 k:(s.kind=1\/s.kind=2\/s.kind=3)/\CV s.name\/s.kind=4/\s.name = []
 i:s.index=0
 x:G 63 s.x
structure EC(p:Pr):Prop where
 n:CV p.name
 lat:qU p.latency
 tl:p.tail = -1\/qU p.tail
 params:∀b∈p.params,W9 b
 states:∀b∈p.states,W9 b
 lines:∀b∈p.lines,z7z b
 tables:∀b∈p.tables,z8a b
 stmts:∀b∈p.stmts,Yg b
theorem MC{b:Bd}(h:W9 b)(l:List Tk):oV (wd b.name::(bV b.lo b.hi++l))=(some b,sg sSemi::l):=by
 unfold oV bV
 rw[wW h.n];simp only[mi,List.cons_append,List.append_assoc,List.nil_append]
 rw[G9 h.lo h.hi];rfl
theorem MF:∀(vs:List Int) (acc:List Int) (i n:Nat) (l:List Tk),(∀x∈vs,kY x)->isT sComma l=false->0<i->(kw i vs++l).length<=n->listL n acc (kw i vs++l)=(some (acc++vs),l)
 | [],acc,i,n,l,_,hl,_,_=>by
  cases n with
  |zero=>simp[kw,listL]
  |succ n=>rw[kw,List.nil_append,Ai,if_neg (by rw[hl];exact Bool.noConfusion),List.append_nil]
 |v::vs,acc,i,n,l,hv,hl,hi,hn=>by
  rw[kw,if_pos hi]at hn ⊢
  simp only[List.cons_append,List.nil_append,List.append_assoc,List.length_cons]at hn ⊢
  obtain⟨n,rfl⟩:∃m,n=m+1:=⟨n-1,by omega⟩
  rw[Ai,if_pos (by rw[dC];rfl),List.drop_one,List.tail_cons,MB (hv v (by simp)),mi,MF vs _ (i+1) n l (λx hx=>hv x (by simp[hx])) hl (by omega) (by rw[List.length_append]at hn;omega)]
  simp
theorem z1d{vs:List Int}(hne:vs ≠ [])(hv:∀x∈vs,kY x)(l:List Tk):zM (kw 0 vs++sg sSemi::l)=(some vs,sg sSemi::l):=by
 cases vs with
 |nil=>exact absurd rfl hne
 |cons v vs=>
  unfold zM
  rw[kw,if_neg (Nat.lt_irrefl 0)]
  simp only[List.nil_append,List.append_assoc]
  rw[MB (hv v (by simp)),mi,MF vs [v] 1 _ (sg sSemi::l) (λx hx=>hv x (by simp[hx])) (by rw[dC];decide) (by decide) (Nat.le_refl _)]
  rfl
end Go.Fw.Sy
