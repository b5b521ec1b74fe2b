/- The law SyntaxChange. -/
import Derived.Test.YtmfehangcmbidaaGreatDoorZSS19
import Derived.Test.YtmfehangcmbidaaGreatDoorZSP7
set_option linter.unusedSectionVars false
set_option linter.unusedSimpArgs false
set_option linter.unusedVariables false
namespace Go.Proofs.YtmfehangcmbidaaGreatDoor
open Go.Fw Go.Fw.Lx Go.Fw.Sy
set_option maxRecDepth 10000
variable [ae]
theorem Gj(s:Sy.Str):∃l p e,aj Tryz.prog 15 [.str s] (.ret (.tuple [toks l,.i p,.i e]))/\((e != 0)=false->decide ((s.length:Int)>65536)=false/\eX pStep s 0 = .ok l/\p=0):=by
 cases hL:decide ((s.length:Int)>65536)with
 |true=>exact⟨[],0,2,KR s hL,λh=>Bool.noConfusion h⟩
 |false=>
  cases hl:eX pStep s 0 with
  |error a=>have:=oh s hL;rw[hl]at this;exact⟨[],(a:Nat),30,this,λh=>Bool.noConfusion h⟩
  |ok l=>have:=oh s hL;rw[hl]at this;exact⟨l,0,0,this,λ_=>⟨rfl,rfl,rfl⟩⟩
theorem I8{l:List Tk}(hv:l.all valid=true)(hl:l.length<=1073741824)(hj:(textS l).length<=140737488355328):aj Tryz.prog 16 [toks l] (.ret (.tuple [.str (textS l),.i 0])):=by
 have:=oq l hl hj;rw[ui hv]at this;exact this
theorem zy{src:Sy.Str}{l:List Tk}{e f:Int}{other:Tk}(h:(f != 0)=true):vO src l e f other=true:=by
 simp only[vO,nY,h,Bool.or_true,Bool.true_or]
theorem Ox(src:Sy.Str)(n:Int)(other:Tk)(hs:src.length<=1048576):aj Tryz.prog 6 [.str src,.i n,other.d] (.ret (.b true)):=by
 have hs':src.length<=1073741823:=by omega
 obtain⟨l,p,e,qL,hL⟩:=Gj src
 cases z2c src with
 |long h e2=>exact kK src n other l [] p e _ _ (zy rfl) qL (bD hs' e2)
 |lex i h hl e2=>exact kK src n other l [] p e _ _ (zy rfl) qL (bD hs' e2)
 |bad l1 r h hl hr e2=>exact kK src n other l [] p e _ _ (zy rfl) qL (bD hs' e2)
 |ok l1 r x h hl1 hr e2=>
 cases hE:vO src l e 0 other with
 |true=>exact kK src n other l x p e _ _ hE qL (bD hs' e2)
 |false=>
  have hE2:=hE
  simp only[vO,nY,Bool.or_eq_false_iff,decide_eq_false_iff_not,List.length_map,bne_eq_false_iff_eq,beq_eq_false_iff_ne,Bool.not_eq_false']at hE2
  obtain⟨⟨⟨⟨⟨c1,c2⟩,c3⟩,c4⟩,c5⟩,c6⟩:=hE2
  subst c2
  obtain⟨hb,hl,rfl⟩:=hL rfl
  obtain rfl:l=l1:=by rw[hl]at hl1;injection hl1
  have hn:l.length<=1048576:=by omega
  have hp:0<l.length:=by omega
  obtain⟨j,hj,hJ⟩:=Y7 (n:=n) hp hn
  rw[<-List.length_map (f:=Tk.cs)]at hJ
  have hv:=(FQ hl).2
  rw[valid_eq]at c6
  have hm:=Y9 (j:=j) hv c6
  obtain⟨hlm,hsm⟩:=Lm hm
  have hlen:=Za (j:=j) hl (by omega) c6
  have hi:l.take j=(l.set j other).take j:=by rw[List.take_set_of_le (Nat.le_refl _)]
  have ht:=Ov (l.set j other) j
  have hml:(l.set j other).length<=1073741824:=by rw[List.length_set];omega
  have qS:=I8 hm hml (by omega)
  have qB:=I8 (VT (j:=j) hm) (by rw[List.length_take];omega) (by omega)
  have hpre:Lib.hasPrefix (textS (l.set j other)) (textS ((l.set j other).take j))=true:=by
   have:=Y8 ((l.set j other).take j) ((l.set j other).drop j)
   rwa[List.take_append_drop]at this
  have hz:(textS (l.set j other)).length<=1073741823:=by omega
  cases z2c (textS (l.set j other))with
  |long h2 e3=>exact absurd (of_decide_eq_true h2) (by omega)
  |lex i h2 hl2 e3=>rw[hlm]at hl2;cases hl2
  |ok l2 r2 y h2 hl2 hr2 e3=>exact Gi src n other l x y j _ _ 0 0 hE qL (bD hs' e2) hJ hj hn qS qB (bD hz e3) hpre rfl
  |bad l2 r2 h2 hl2 hr2 e3=>
   have e4:place 0 (pairs (l.set j other))=l2:=by rw[hlm]at hl2;injection hl2
   have hr3:=hr2
   rw[<-e4]at hr3
   have hge:=Ou (by rw[hr]) hi hm hr3
   have hle:=(Lh hl2 hr2).2
   exact Gi src n other l x [] j _ _ _ _ hE qL (bD hs' e2) hJ hj hn qS qB (bD hz e3) hpre (by simp only[S9];rw[decide_eq_true hge,decide_eq_true hle];rfl)
end Go.Proofs.YtmfehangcmbidaaGreatDoor
