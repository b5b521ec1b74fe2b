/- Package lower in plain words: what the law Joined decides. -/
import Derived.Test.YthpbakljheeabaaGreatDoorZLD18
import Derived.Test.YthpbakljheeabaaGreatDoorZGC
set_option linter.unusedSectionVars false
set_option linter.unusedSimpArgs false
set_option linter.unusedVariables false
namespace Go.Fw.Lw
open Go.Fw
variable [af]
def jd(c d:Mac.Cd):Mac.Cd:={ c with regs:=d.regs,instrs:=d.instrs }
def jM(c d:Mac.Cd):Int:=mm2 true (IntKind.i64.wrap (c.regs+1)) d.regs
def XH(c d:Mac.Cd):Mac.Cd:={ c with regs:=jM c d,instrs:=jL c d }
def Pm(c d:Mac.Cd):Mac.Cd:={ c with regs:=jM c d,instrs:=jnM c d }
section
variable {c d : Mac.Cd}
theorem z2f(h:(bif (bif !gQ c then true else !gQ d)then true else decide (c.regs>1000))=false):gQ c=true/\gQ d=true/\c.regs<=1000:=by
 cases h1:gQ c<;>cases h2:gQ d<;>rw[h1,h2]at h
 ·exact nomatch h
 ·exact nomatch h
 ·exact nomatch h
 ·have h:decide (c.regs>1000)=false:=h
  exact⟨rfl,rfl,Int.not_lt.1 (of_decide_eq_false h)⟩
theorem zax{a b:Bool}(h:(bif Mac.okE a != 0 then true else Mac.okE b != 0)=false):a=true/\b=true:=by
 cases a<;>cases b
 ·exact absurd h (by decide)
 ·exact absurd h (by decide)
 ·exact absurd h (by decide)
 ·exact⟨rfl,rfl⟩
theorem JZ(g:c.Sm)(gd:d.Sm)(h:gQ c=true/\gQ d=true/\c.regs<=1000):c.lines.length<5000/\c.instrs.length<5000/\d.instrs.length<5000/\(jL c d).length<10000:=by
 have h1:=YK g h.1
 have h2:=YK gd h.2.1
 rw[jL,List.length_append];omega
theorem z9w(g:c.Sm)(gd:d.Sm)(h:gQ c=true/\gQ d=true/\c.regs<=1000):(XH c d).Sm:=
 ⟨g.params,g.states,g.lines,g.tables,by have:=JZ g gd h;show(jL c d).length<=_;omega,g.table⟩
theorem z9x(g:c.Sm)(gd:d.Sm)(h:gQ c=true/\gQ d=true/\c.regs<=1000):(Pm c d).Sm:=
 ⟨g.params,g.states,g.lines,g.tables,by have:=JZ g gd h;show(jnM c d).length<=_;rw[wQ];omega,g.table⟩
theorem z7f(g:c.Sm)(gd:d.Sm)(h:gQ c=true/\gQ d=true/\c.regs<=1000)(k:Mac.checkP c=true/\Mac.checkP (jd c d)=true):Mac.checkP (XH c d)=false:=by
 have hl:=JZ g gd h
 exact WP (c:=c) (d:=jd c d) (b:=XH c d) rfl ((vU (mJ k.1) (by omega) (by omega)).1 k.1).out ((vU (mJ k.2) (by show c.lines.length<=_;omega) (by show d.instrs.length<=_;omega)).1 k.2).out (by show c.lines.length<=_;omega) (by show(jL c d).length<=_;omega)
theorem z9y(g:c.Sm)(gd:d.Sm)(h:gQ c=true/\gQ d=true/\c.regs<=1000)(k:Mac.checkP c=true/\Mac.checkP (jd c d)=true):Mac.checkP (Pm c d) = !agM (jL c d):=by
 have hl:=JZ g gd h
 have rc:=(uu (uw (mJ k.1)).2.2.2).2.2.2.1
 have hw:IntKind.i64.wrap (c.regs+1)=c.regs+1:=bI (by omega) (by omega)
 have hm:jM c d=if d.regs>c.regs+1 then d.regs else c.regs+1:=by rw[jM,hw];rfl
 have:=z08 (c:=c) (d:=jd c d) (b:=Pm c d) k.1 k.2 (by omega) (by omega) (by show(d.instrs.length:Int)<=_;omega) h.2.2 ⟨rfl,rfl,rfl,rfl⟩ (by show c.regs+1<=jM c d/\d.regs<=jM c d/\(jM c d=c.regs+1\/jM c d=d.regs);rw[hm];split<;>omega) rfl
 have e:eu (c.instrs++(jd c d).instrs)=eu (jL c d):=rfl
 rw[e]at this
 rw[agM,Bool.not_not]
 cases hb:Mac.checkP (Pm c d)with
 |true=>exact(decide_eq_true (this.1 hb)).symm
 |false=>exact(decide_eq_false (λq=>by rw[this.2 q]at hb;exact nomatch hb)).symm
theorem z2g{es:Ins}{ag:Bool}{i:Nat}(hd:(jL c d).drop i = [])(h:es=jst c d i/\ag=agM ((jL c d).take i)):es=jnM c d/\ag=agM (jL c d):=by
 have hi:(jL c d).length<=i:=List.drop_eq_nil_iff.1 hd
 rw[jst,hd,List.append_nil,List.take_of_length_le (by rw[wQ];exact hi),List.take_of_length_le hi]at h;exact h
theorem z7g:0+(jL c d).length<=((jnM c d).map Mac.insC).length:=by rw[List.length_map,wQ,Nat.zero_add];exact Nat.le_refl _
theorem z7h:0+(jL c d).length<=((jL c d).map Mac.insC).length:=by rw[List.length_map,Nat.zero_add];exact Nat.le_refl _
theorem XI{i:Nat}{x:Int×Int}{r:Ins}(hd:(jL c d).drop i=x::r):0<=((i:Nat):Int)/\((i:Nat):Int)<(((jL c d).length:Nat):Int):=by
 have:i<(jL c d).length:=by
  rcases Nat.lt_or_ge i (jL c d).length with q |q
  ·exact q
  ·rw[List.drop_eq_nil_iff.2 q]at hd;exact nomatch hd
 omega
theorem XJ{i k:Nat}{x:Int×Int}{r:Ins}(hd:((jL c d).take i).drop k=x::r):k<i/\k<(jL c d).length/\(jL c d)[k]? = some x:=by
 have hk:k<((jL c d).take i).length:=by
  rcases Nat.lt_or_ge k ((jL c d).take i).length with q |q
  ·exact q
  ·rw[List.drop_eq_nil_iff.2 q]at hd;exact nomatch hd
 have h2:=gX hd
 rw[List.length_take]at hk
 rw[List.getElem?_take_of_lt (by omega)]at h2
 exact⟨by omega,by omega,h2⟩
theorem z7i{i k:Nat}{x:Int×Int}{r:Ins}(hd:((jL c d).take i).drop k=x::r):0<=((k:Nat):Int)/\((k:Nat):Int)<(((jL c d).length:Nat):Int):=by
 have:=XJ hd;omega
theorem zab{es:Ins}{i:Nat}{x:Int×Int}{r:Ins}(hd:(jL c d).drop i=x::r)(h:es=jst c d i):(es.map Mac.insC)[0+((i:Nat):Int).toNat]? = some (Mac.insC x):=by
 have:=XI hd
 rw[Nat.zero_add,Int.toNat_natCast,List.getElem?_map,h,YM (by omega),gX hd];rfl
def jy(c d:Mac.Cd)(k:Nat):Int×Int:=(jnM c d).getD k (0,0)
theorem z7j{k:Nat}(h:k<(jL c d).length):(jnM c d)[k]? = some (jy c d k):=by
 have h:k<(jnM c d).length:=by rw[wQ];exact h
 rw[jy,List.getD_eq_getElem?_getD,List.getElem?_eq_getElem h];rfl
theorem zay{i k:Nat}{x z:Int×Int}{r q:Ins}(hd:((jL c d).take i).drop k=x::r)(h0:(jL c d).drop i=z::q):((jst c d (i+1)).map Mac.insC)[0+((k:Nat):Int).toNat]? = some (Mac.insC (jy c d k)):=by
 have h:=XJ hd
 have:=XI h0
 rw[Nat.zero_add,Int.toNat_natCast,List.getElem?_map,z7b (by omega) (by omega),z7j h.2.1];rfl
theorem z7k{i k:Nat}{z:Int×Int}{q:Ins}(hd:((jL c d).take i).drop k = [])(h0:(jL c d).drop i=z::q):¬(decide (((k:Nat):Int)<((i:Nat):Int))=true):=by
 intro h;have h:=of_decide_eq_true h
 have:=XI h0
 have hk:=List.drop_eq_nil_iff.1 hd
 rw[List.length_take]at hk;omega
theorem z7l{i k:Nat}{x:Int×Int}{r:Ins}(hd:((jL c d).take i).drop k=x::r):¬(decide (((k:Nat):Int)<((i:Nat):Int))=false):=by
 intro h;have h:=of_decide_eq_false h
 have:=XJ hd;omega
theorem z9z{es:Ins}{i v:Nat}{x:Int×Int}{r:Ins}(hd:(jL c d).drop i=x::r)(he:es=jst c d i)(h:(bif decide (((i:Nat):Int)<(((c.instrs.map Mac.insC).length:Nat):Int))then x.1==22 else false)=true):Block.arr v 2 ((es.map Mac.insC).set (0+((i:Nat):Int).toNat) [D.i 5,D.i c.regs])=Block.arr v 2 ((jst c d (i+1)).map Mac.insC):=by
 rw[Bool.cond_false_right,Bool.and_eq_true,List.length_map]at h
 have h1:=of_decide_eq_true h.1
 rw[Nat.zero_add,Int.toNat_natCast,he,<-z7d (gX hd) (by omega) (eq_of_beq h.2),List.map_set]
theorem z90{es:Ins}{i v:Nat}{x:Int×Int}{r:Ins}(hd:(jL c d).drop i=x::r)(he:es=jst c d i)(h:(bif decide (((i:Nat):Int)<(((c.instrs.map Mac.insC).length:Nat):Int))then x.1==22 else false)=false):Block.arr v 2 (es.map Mac.insC)=Block.arr v 2 ((jst c d (i+1)).map Mac.insC):=by
 rw[he,<-z7e (gX hd) (λq=>?_)]
 rw[List.length_map,decide_eq_true (by omega:((i:Nat):Int)<((c.instrs.length:Nat):Int)),q.2]at h
 exact nomatch h
theorem z2h{ag aq:Bool}{i k:Nat}{x:Int×Int}{r:Ins}(hd:(jL c d).drop i=x::r)(h2:((jL c d).take i).drop k = [])(h:ag=agM ((jL c d).take i))(hq:aq=(ag || twP (((jL c d).take i).take k) x)):aq=agM ((jL c d).take (i+1)):=by
 rw[take_snoc (gX hd),z2d,hq,h,List.take_of_length_le (List.drop_eq_nil_iff.1 h2)]
theorem z2i{ag aq:Bool}{i k:Nat}{x y:Int×Int}{r:Ins}(hd:((jL c d).take i).drop k=y::r)(hq:aq=(ag || twP (((jL c d).take i).take k) x)):(bif aq then true else bif (bif x.1==7 then(jy c d k).1==7 else false)then(jy c d k).2==x.2 else false)=(ag || twP (((jL c d).take i).take (k+1)) x):=by
 have h:=XJ hd
 rw[take_snoc (gX hd),z2e,<-z9v (z7j h.2.1) h.2.2,hq,twB]
 cases ag<;>cases twP (((jL c d).take i).take k) x<;>cases (x.1==7)<;>cases ((jy c d k).1==7)<;>rfl
theorem z7m:AV.own 59 2 2 0 (0+(c.instrs.map Mac.insC).length+(d.instrs.map Mac.insC).length)=AV.own 59 2 2 0 (jL c d).length:=by
 rw[jL,List.length_append,List.length_map,List.length_map,Nat.zero_add]
theorem z7n:Block.arr 2 2 ((([]:List (List D)).take 0++c.instrs.map Mac.insC).take (0+(c.instrs.map Mac.insC).length)++d.instrs.map Mac.insC)=Block.arr 2 2 ((jL c d).map Mac.insC):=by
 rw[List.take_zero,List.nil_append,List.take_of_length_le (by omega),jL,List.map_append]
theorem zaz{a b:Bool}(h:a = !b):((Mac.okE a==0) == !b)=true:=by subst h;cases b<;>rfl
end
end Go.Fw.Lw
