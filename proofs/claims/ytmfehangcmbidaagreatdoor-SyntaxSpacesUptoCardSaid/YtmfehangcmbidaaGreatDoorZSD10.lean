/- SyntaxSpaces: what may stand between two tokens. -/
import Derived.Test.YtmfehangcmbidaaGreatDoorZSP7
import Derived.Test.YtmfehangcmbidaaGreatDoorZLD17
set_option linter.unusedSectionVars false
set_option linter.unusedSimpArgs false
set_option linter.unusedVariables false
namespace Go.Fw.Sy
open Go.Fw Go.Fw.Lx
variable [ae]
def gpL:List Str:=[[32],[10,9],[32,47,47,32,123,32,55,10],[13,32,32],[32,47,47,10]]
def gpN(ts:Str)(i:Nat):Nat:=if i<ts.length then(ts.getD i 0).toNat % 5 else 0
def gp(ts:Str)(i:Nat):Str:=gpL.getD (gpN ts i) []
theorem Tf(ts:Str)(i:Nat):gpN ts i<5:=by unfold gpN;split<;>omega
theorem z4h{c:UInt8}:(IntKind.i64.wrap (c.toNat:Int)).tmod 5=((c.toNat % 5:Nat):Int):=by
 have:=c.toNat_lt
 rw[iR (n:=(c.toNat:Int)) (by omega) (by omega),Int.tmod_eq_emod_of_nonneg (by omega)]
 omega
theorem Ti(ts:Str)(i:Nat):(gp ts i).length<=8:=by
 unfold gp
 have:=Tf ts i
 generalize gpN ts i=k at this
 match k,this with
 | 0,_=>decide
 | 1,_=>decide
 | 2,_=>decide
 | 3,_=>decide
 | 4,_=>decide
theorem Tj(ts:Str)(i:Nat):Gap (gp ts i)/\∃c r,gp ts i=c::r/\cls c=1:=by
 unfold gp
 have:=Tf ts i
 generalize gpN ts i=k at this
 match k,this with
 | 0,_=>rw[show gpL.getD 0 [] = [32]from rfl];exact⟨qh zL,_,_,rfl,zL⟩
 | 1,_=>rw[show gpL.getD 1 [] = [10]++[9]from rfl];exact⟨yS (qh E5) (qh z5j),_,_,rfl,E5⟩
 | 2,_=>rw[show gpL.getD 2 [] = [32]++(47::47::[32,123,32,55]++[10])from rfl];exact⟨yS (qh zL) (QN (by decide)),_,_,rfl,zL⟩
 | 3,_=>rw[show gpL.getD 3 [] = [13]++([32]++[32])from rfl];exact⟨yS (qh z2h) (yS (qh zL) (qh zL)),_,_,rfl,z2h⟩
 | 4,_=>rw[show gpL.getD 4 [] = [32]++(47::47::[]++[10])from rfl];exact⟨yS (qh zL) (QN (by simp)),_,_,rfl,zL⟩
def spr(ts:Str):Nat->List Tk->Str
 |_,[]=>[]
 |i,t::r=>gp ts i++(word t++spr ts (i+1) r)
def VV(ts:Str):Nat->List Tk->List (Tk×Str)
 |_,[]=>[]
 |_,[t]=>[(t,[10])]
 |i,t::u::r=>(t,gp ts (i+1))::VV ts (i+1) (u::r)
theorem Lp(ts:Str):∀(l:List Tk) (i:Nat),(VV ts i l).map Prod.fst=l
 | [],_=>rfl
 | [t],_=>rfl
 |t::u::r,i=>by simp only[VV,List.map_cons,Lp ts (u::r) (i+1)]
theorem Lr(ts:Str):∀(t:Tk) (r:List Tk) (i:Nat),spr ts i (t::r)++[10]=gp ts i++ren (VV ts i (t::r))
 |t,[],i=>by simp[spr,VV,ren]
 |t,u::r,i=>by
  have:=Lr ts u r (i+1)
  rw[spr]
  simp only[List.append_assoc]
  rw[this]
  simp[VV,ren]
theorem Tm(ts:Str):∀(l:List Tk) (i:Nat),l.all valid=true->UU (VV ts i l)
 | [],_,_=>trivial
 | [t],_,h=>⟨by simpa using h,qh E5,.inr ⟨10,[],rfl,E5⟩,trivial⟩
 |t::u::r,i,h=>by
  simp only[List.all_cons,Bool.and_eq_true]at h
  exact⟨h.1,(Tj ts (i+1)).1,.inr (Tj ts (i+1)).2,Tm ts (u::r) (i+1) (by simp only[List.all_cons,Bool.and_eq_true];exact h.2)⟩
theorem Zb(ts:Str){l:List Tk}(h:l.all valid=true):∃m,eX pStep (spr ts 0 l++[10]) 0 = .ok m/\Sim l m:=by
 cases l with
 |nil=>exact⟨[],by rw[kT];exact CW E5,rfl⟩
 |cons t r=>
  refine⟨place (gp ts 0).length (VV ts 0 (t::r)),?_,?_⟩
  ·rw[kT,Lr,(Tj ts 0).1,Nat.zero_add];exact Ie _ _ (Tm ts _ 0 h)
  ·have:=zx (VV ts 0 (t::r)) (gp ts 0).length
   rw[Lp]at this;exact this
structure Zl(l:List Tk)(ts:Str)(i:Nat)(r:List Tk)(s:Str):Prop where
 e:s++spr ts i r=spr ts 0 l
 n:s.length+70 * r.length<=70 * l.length
 v:r.all valid=true
variable {i : Nat} {ts : Str} {t : Tk}
theorem Oy{l:List Tk}(h:l.all valid=true):Zl l ts 0 l []:=⟨rfl,by simp,h⟩
theorem DJ(h:valid t=true):(word t).length<=53:=by
 have h5:=AY (yT h).2
 have h6:=BF h
 omega
theorem zA{l r:List Tk}{ts s:Str}(h:Zl l ts i (t::r) s):valid t=true:=by
 have:=h.v;simp only[List.all_cons,Bool.and_eq_true]at this;exact this.1
theorem Tn{l r:List Tk}{ts s:Str}(h:Zl l ts i (t::r) s):Zl l ts (i+1) r (s++(gp ts i++word t)):=by
 have h1:=Ti ts i
 have h2:=DJ (zA h)
 have h3:=h.n
 refine⟨by rw[<-h.e];simp[spr],?_,by have:=h.v;simp only[List.all_cons,Bool.and_eq_true]at this;exact this.2⟩
 simp only[List.length_append,List.length_cons]at h3 ⊢;omega
theorem VW{l:List Tk}{ts s:Str}(h:Zl l ts i [] s):s=spr ts 0 l:=by rw[<-h.e];simp[spr]
theorem z2j{es:List D}{n:Int}{q:D->Prop}(he:es=gpL.map D.str)(hn:n=(gpN ts i:Nat))(h:q (.str (gp ts i))):∃c,(0<=n/\es[n.toNat]? = some c)/\q c:=by
 subst he hn
 refine⟨_,⟨by omega,?_⟩,h⟩
 rw[Int.toNat_natCast,List.getElem?_map]
 unfold gp
 have:=Tf ts i
 rw[List.getElem?_eq_getElem (show gpN ts i<gpL.length from this),List.getD_eq_getElem?_getD,List.getElem?_eq_getElem (show gpN ts i<gpL.length from this)];rfl
theorem Zc(h:decide ((i:Int)<((ts.map λc=>[D.u8 c]).length:Int))=true):(IntKind.i64.wrap ((ts.getD i 0).toNat:Int)).tmod 5=(gpN ts i:Nat):=by
 have h:=of_decide_eq_true h
 rw[List.length_map]at h
 rw[z4h,gpN,if_pos (by omega)]
theorem z2k(h:decide ((i:Int)<((ts.map λc=>[D.u8 c]).length:Int))=false):(0:Int)=(gpN ts i:Nat):=by
 have h:=of_decide_eq_false h
 rw[List.length_map]at h
 rw[gpN,if_neg (by omega)];rfl
theorem Tq(h:valid t=true):[t].all valid=true:=by simp[h]
theorem Tt(ts:Str):∀(l:List Tk) (i:Nat),(spr ts i l).length<=XY l+8 * l.length
 | [],_=>by simp[spr]
 |t::r,i=>by
  have h1:=Tt ts r (i+1)
  have h2:=Ti ts i
  simp only[spr,List.length_append,List.length_cons,XY,List.map_cons,List.sum_cons]at h1 ⊢
  omega
end Go.Fw.Sy
