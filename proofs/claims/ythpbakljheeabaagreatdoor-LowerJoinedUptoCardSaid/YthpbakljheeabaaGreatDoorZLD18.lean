/- Package lower in plain words: the rounds of the law Joined. -/
import Derived.Test.YthpbakljheeabaaGreatDoorZGA
set_option linter.unusedSectionVars false
set_option linter.unusedSimpArgs false
set_option linter.unusedVariables false
namespace Go.Fw.Lw
open Go.Fw
variable [af] {c d : Mac.Cd} {i : Nat}
def jL(c d:Mac.Cd):Ins:=c.instrs++d.instrs
def jnM(c d:Mac.Cd):Ins:=c.instrs.map (MW c.regs)++d.instrs
def jst(c d:Mac.Cd)(i:Nat):Ins:=(jnM c d).take i++(jL c d).drop i
theorem wQ:(jnM c d).length=(jL c d).length:=by simp[jnM,jL]
theorem YM(h:i<(jL c d).length):(jst c d i)[i]? = (jL c d)[i]?:=by
 have hl:((jnM c d).take i).length=i:=by rw[List.length_take,wQ];omega
 rw[jst,List.getElem?_append_right (by omega),hl,Nat.sub_self,List.getElem?_drop,Nat.add_zero]
theorem z7b{i k:Nat}(h:i<=(jL c d).length)(hk:k<i):(jst c d i)[k]? = (jnM c d)[k]?:=by
 have hl:((jnM c d).take i).length=i:=by rw[List.length_take,wQ];omega
 rw[jst,List.getElem?_append_left (by omega),List.getElem?_take_of_lt hk]
theorem z2c{x:Int×Int}(h:(jL c d)[i]? = some x)(hi:i<c.instrs.length):(jnM c d)[i]? = some (MW c.regs x):=by
 rw[jL,List.getElem?_append_left hi]at h
 rw[jnM,List.getElem?_append_left (by rw[List.length_map];exact hi),List.getElem?_map,h];rfl
theorem z7c{x:Int×Int}(h:(jL c d)[i]? = some x)(hi:¬i<c.instrs.length):(jnM c d)[i]? = some x:=by
 rw[jL,List.getElem?_append_right (by omega)]at h
 rw[jnM,List.getElem?_append_right (by rw[List.length_map];omega),List.length_map,h]
theorem UL{y:Int×Int}(h:(jnM c d)[i]? = some y):(jst c d i).set i y=jst c d (i+1):=by
 have hi:i<(jnM c d).length:=by
  rcases Nat.lt_or_ge i (jnM c d).length with q |q
  ·exact q
  ·rw[List.getElem?_eq_none q]at h;exact nomatch h
 have hj:i<(jL c d).length:=by rw[<-wQ];exact hi
 have hl:((jnM c d).take i).length=i:=by rw[List.length_take];omega
 rw[jst,List.set_append_right _ _ (by omega),hl,Nat.sub_self,List.drop_eq_getElem_cons hj,List.set_cons_zero,jst,List.take_add_one,h]
 simp
theorem Nk{x:Int×Int}(h:(jnM c d)[i]? = some x)(hx:(jL c d)[i]? = some x):jst c d i=jst c d (i+1):=by
 have hi:i<(jL c d).length:=by
  rcases Nat.lt_or_ge i (jL c d).length with q |q
  ·exact q
  ·rw[List.getElem?_eq_none q]at hx;exact nomatch hx
 rw[<-UL h]
 refine List.ext_getElem? λn=>?_
 rw[List.getElem?_set]
 split
 ·rename_i e;subst e;split
  ·exact(YM hi).trans hx
  ·rename_i q;exact List.getElem?_eq_none (by omega)
 ·rfl
theorem z7d{x:Int×Int}(hx:(jL c d)[i]? = some x)(hi:i<c.instrs.length)(h:x.1=22):(jst c d i).set i (5,c.regs)=jst c d (i+1):=UL ((z2c hx hi).trans (by rw[BX h]))
theorem z7e{x:Int×Int}(hx:(jL c d)[i]? = some x)(h:¬(i<c.instrs.length/\x.1=22)):jst c d i=jst c d (i+1):=by
 by_cases hi:i<c.instrs.length
 ·exact Nk ((z2c hx hi).trans (by rw[OO (λe=>h ⟨hi,e⟩)])) hx
 ·exact Nk (z7c hx hi) hx
def twB(x y:Int×Int):Bool:=x.1==7&&y.1==7&&y.2==x.2
def twP(l:Ins)(x:Int×Int):Bool:=l.any (twB x)
def agM(l:Ins):Bool:=!decide (eu l).Nodup
theorem H5(x:Int×Int):∀l:Ins,eu (l++[x])=eu l++(if x.1==7 then [x.2]else [])
 | []=>by simp[eu]
 |y::l=>by
  rw[List.cons_append,eu,eu,H5 x l];split<;>simp
theorem YN(x:Int×Int)(h:x.1=7):∀l:Ins,twP l x=true↔x.2∈eu l
 | []=>by simp[twP,eu]
 |y::l=>by
  have ih:=YN x h l
  rw[eu,twP,List.any_cons,Bool.or_eq_true]
  change (twB x y=true\/twP l x=true)↔_
  rw[ih]
  by_cases hy:y.1=7
  ·simp[twB,h,hy];exact⟨λq=>q.imp Eq.symm id,λq=>q.imp Eq.symm id⟩
  ·simp[twB,h,hy]
theorem zaw(x:Int×Int)(h:¬x.1=7)(l:Ins):twP l x=false:=by
 rw[twP,List.any_eq_false];intro y _;simp[twB,h]
theorem z2d(l:Ins)(x:Int×Int):agM (l++[x])=(agM l || twP l x):=by
 rw[agM,agM,H5]
 by_cases h:x.1=7
 ·have:=YN x h l
  rw[if_pos (by simpa using h)]
  cases ht:twP l x with
  |true=>
   rw[ht]at this
   have hm:=this.1 rfl
   have:¬(eu l++[x.2]).Nodup:=by
    rw[List.nodup_append];intro⟨_,_,q⟩;exact q _ hm _ (by simp) rfl
   simp[this]
  |false=>
   rw[ht]at this
   have hm:¬x.2∈eu l:=λq=>nomatch this.2 q
   have:(eu l++[x.2]).Nodup↔(eu l).Nodup:=by
    rw[List.nodup_append]
    exact⟨λq=>q.1,λq=>⟨q,by simp,λa ha b hb e=>hm (by simp at hb;rw[<-hb,<-e];exact ha)⟩⟩
   simp[this]
 ·rw[if_neg (by simpa using h),zaw x h];simp
theorem z2e(l:Ins)(x y:Int×Int):twP (l++[y]) x=(twP l x || twB x y):=by simp[twP]
theorem z9v{k:Nat}{x y z:Int×Int}(hy:(jnM c d)[k]? = some y)(hz:(jL c d)[k]? = some z):twB x y=twB x z:=by
 by_cases hk:k<c.instrs.length
 ·have e:=Option.some.inj (hy.symm.trans (z2c hz hk))
  by_cases h:z.1=22
  ·rw[e,BX h];simp[twB,h]
  ·rw[e,OO h]
 ·rw[Option.some.inj (hy.symm.trans (z7c hz hk))]
theorem take_snoc{l:Ins}{x:Int×Int}(h:l[i]? = some x):l.take (i+1)=l.take i++[x]:=by
 rw[List.take_add_one,h];rfl
end Go.Fw.Lw
