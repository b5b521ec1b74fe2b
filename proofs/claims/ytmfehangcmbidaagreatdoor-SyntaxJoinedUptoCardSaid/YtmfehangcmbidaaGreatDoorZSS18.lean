/- The law SyntaxJoined. -/
import Derived.Test.YtmfehangcmbidaaGreatDoorZSS17
import Derived.Test.YtmfehangcmbidaaGreatDoorZDP
set_option linter.unusedSectionVars false
set_option linter.unusedSimpArgs false
set_option linter.unusedVariables false
namespace Go.Proofs.YtmfehangcmbidaaGreatDoor
open Go.Fw Go.Fw.Lx Go.Fw.Sy
set_option maxRecDepth 10000
variable [ae]
theorem Oq(a b:Sy.Str)(ha:a.length<=1048576)(hb:b.length<=1048576):aj Tryz.prog 5 [.str a,.str b] (.ret (.b true)):=by
 cases hE:Ol a b with
 |true=>exact IX a b hE
 |false=>
  have hE2:=hE
  simp only[Ol,nY,Bool.or_eq_false_iff,decide_eq_false_iff_not]at hE2
  have hz:(a++[10]++b).length=a.length+1+b.length:=by simp only[List.length_append,List.length_cons,List.length_nil]
  have b3:decide (((a++[10]++b).length:Int)>65536)=false:=decide_eq_false (by rw[hz];omega)
  have ha':a.length<=1073741823:=by omega
  have hb':b.length<=1073741823:=by omega
  have hz':(a++[10]++b).length<=1073741823:=by omega
  obtain⟨r,j,f,hq⟩:=I5 b
  cases z2c a with
  |long h e=>exact absurd (of_decide_eq_true h) (by omega)
  |lex i h hl e=>exact BA a b _ _ r j f hE (bD ha' e) rfl (bD hb' hq)
  |bad l r1 h hl hr e=>exact BA a b _ _ r j f hE (bD ha' e) rfl (bD hb' hq)
  |ok l r1 x h hl hr e=>
   cases z2c b with
   |long h2 e2=>exact absurd (of_decide_eq_true h2) (by omega)
   |lex k h2 hl2 e2=>
    exact BB a b x _ _ _ ha hb hE (bD ha' e) (bD hb' e2) (bD hz' (Gh b3 (QO hl hl2))) rfl (WV ha hb (Int.natCast_nonneg _) (by have:=z0c hl2;omega) (by omega))
   |bad l2 r2 h2 hl2 hr2 e2=>
    have hm:bQ (l++l2.map (moved (a.length+1)))=(none,r2.map (moved (a.length+1))):=by
     rw[La _ _ l x r1 (Nat.le_refl _) hr,Ld (f:=moved (a.length+1)) (λ_=>rfl),hr2];rfl
    have hp:=Lh hl2 hr2
    exact BB a b x _ _ _ ha hb hE (bD ha' e) (bD hb' e2) (bD hz' (um b3 (Lx.joined_ok hl hl2) hm)) rfl (WV ha hb hp.1 hp.2 VS)
   |ok l2 r2 y h2 hl2 hr2 e2=>
    have hm:bQ (l++l2.map (moved (a.length+1)))=(some (x++y),r2.map (moved (a.length+1))):=by
     rw[La _ _ l x r1 (Nat.le_refl _) hr,Ld (f:=moved (a.length+1)) (λ_=>rfl),hr2];rfl
    have h1:=Lj hr
    have h2:=Lj hr2
    have h3:=(FQ hl).1
    have h4:=(FQ hl2).1
    exact joined_ok a b x y ha hb (by omega) (by omega) hE (bD ha' e) (bD hb' e2) (bD hz' (pg b3 (Lx.joined_ok hl hl2) hm))
end Go.Proofs.YtmfehangcmbidaaGreatDoor
