/- SyntaxBack: what is written is read: all expressions. -/
import Derived.Test.YtmfehangcmbidaaGreatDoorZSP13
set_option linter.unusedSectionVars false
set_option linter.unusedSimpArgs false
set_option linter.unusedVariables false
namespace Go.Fw.Sy
open Go.Fw Go.Fw.Lx
variable [ae]
section
variable {k : Nat} {x : Ex}
theorem Rd1.of3(hx:level x.kind=3)(hu:∀l,bH k (aj x++l)=(some x,l))(hi:∀l,isT wIf (aj x++l)=false):Rd1 k x:=
 ⟨λ_=>hu,λh=>by omega,λh=>by omega,λh=>by omega,λ_=>hi⟩
theorem Rd1.of2(hx:level x.kind=2)(hp:∀l,gm (bH k) (aj x++l)=goP (bH k) x l)(hi:∀l,isT wIf (aj x++l)=false):Rd1 k x:=
 ⟨λh=>by omega,λ_=>hp,λh=>by omega,λh=>by omega,λ_=>hi⟩
theorem Rd1.of1(hx:level x.kind=1)(hs:∀l,St2 l->sumM (bH k) (aj x++l)=goS (bH k) x l)(hi:∀l,isT wIf (aj x++l)=false):Rd1 k x:=
 ⟨λh=>by omega,λh=>by omega,λ_=>hs,λh=>by omega,λ_=>hi⟩
theorem Rd1.of0(hx:level x.kind=0)(he:∀l,St1 l->jd (bH k) (aj x++l)=(some x,l)):Rd1 k x:=
 ⟨λh=>by omega,λh=>by omega,λh=>by omega,λ_=>he,λh=>by omega⟩
end
theorem G8{u:PM Ex}(hu:Loc u)(l:List Tk){n m:Nat}(hn:l.length<=n)(hm:l.length<=m):exprF u (n+1) l=exprF u (m+1) l:=by
 obtain⟨o,r,c,hc,h⟩:=GX hu l.length l (Nat.le_refl _)
 subst hc
 exact(h n c r rfl rfl hn).trans (h m c r rfl rfl hm).symm
theorem Yf(l:List Tk):St1 (sg sLt::l):=⟨⟨by rw[dC];decide,by rw[dC];decide⟩,by rw[dC];decide,by rw[dC];decide⟩
theorem Me(l:List Tk):St1 (wd wThen::l):=⟨⟨by rw[jK];decide,by rw[jK];decide⟩,by rw[jK];decide,by rw[jK];decide⟩
theorem WW(l:List Tk):St1 (wd wElse::l):=⟨⟨by rw[jK];decide,by rw[jK];decide⟩,by rw[jK];decide,by rw[jK];decide⟩
theorem WX(l:List Tk):St2 (sg sPlus::l):=⟨by rw[dC];decide,by rw[dC];decide⟩
theorem Ua(l:List Tk):St2 (sg sMinus::l):=⟨by rw[dC];decide,by rw[dC];decide⟩
theorem mi{α β:Type}(x:α)(l:List Tk)(f:α->PM β):bnd (some x,l) f=f x l:=rfl
theorem Ub{s:Str}(h:CV s)(l:List Tk):isT wIf ([wd s]++l)=false:=by
 have h1:=h.1
 show isT wIf (wd s::l)=false
 rw[jK]
 cases e:s==wIf with
 |false=>rfl
 |true=>
  rw[beq_iff_eq]at e
  subst e
  revert h1;decide
theorem z6r{k:Nat}{f:Int}{x:Ex}(hf:f=6\/f=7\/f=10\/f=13)(h:Rd1 k x):Rd1 (k+1) (.mk f [] 0 0 [x]):=by
 have key:∀w:Str,aj (.mk f [] 0 0 [x])=wd w::sg sPar::(aj x++[sg sKet])->level f=3->words.contains w=true->(w==sMinus)=false->(w==sPar)=false->(w==wIf)=false->look w kW=some (f,((1:Nat):Int),false)->Rd1 (k+1) (.mk f [] 0 0 [x]):=by
  intro w hb h3 h4 h5 h6 h7 h8
  refine Rd1.of3 h3 (λl=>?_) (λl=>?_)
  ·rw[hb];simp only[List.cons_append,List.append_assoc,List.nil_append];exact Ey h4 h5 h6 h8 (WU h)
  ·rw[hb,List.cons_append,jK,h7]
 rcases hf with rfl |rfl |rfl |rfl
 ·exact key wIn (by simp[aj,dL,gZ,forms,lY,zN,kW,qg]) rfl (by decide) (by decide) (by decide) (by decide) rfl
 ·exact key VF (by simp[aj,dL,gZ,forms,lY,zN,kW,qg]) rfl (by decide) (by decide) (by decide) (by decide) rfl
 ·exact key z7t (by simp[aj,dL,gZ,forms,lY,zN,kW,qg]) rfl (by decide) (by decide) (by decide) (by decide) rfl
 ·exact key z7w (by simp[aj,dL,gZ,forms,lY,zN,kW,qg]) rfl (by decide) (by decide) (by decide) (by decide) rfl
theorem WY{k:Nat}{f:Int}{s:Str}{x:Ex}(hf:f=8\/f=9)(hs:CV s)(h:Rd1 k x):Rd1 (k+1) (.mk f s 0 0 [x]):=by
 have key:∀w:Str,aj (.mk f s 0 0 [x])=wd w::sg sPar::wd s::sg sComma::(aj x++[sg sKet])->level f=3->words.contains w=true->(w==sMinus)=false->(w==sPar)=false->(w==wIf)=false->look w kW=some (f,((1:Nat):Int),true)->Rd1 (k+1) (.mk f s 0 0 [x]):=by
  intro w hb h3 h4 h5 h6 h7 h8
  refine Rd1.of3 h3 (λl=>?_) (λl=>?_)
  ·rw[hb];simp only[List.cons_append,List.append_assoc,List.nil_append];exact Ey h4 h5 h6 h8 (O5 hs h)
  ·rw[hb,List.cons_append,jK,h7]
 rcases hf with rfl |rfl
 ·exact key z7s (by simp[aj,dL,gZ,forms,lY,zN,kW,qg]) rfl (by decide) (by decide) (by decide) (by decide) rfl
 ·exact key VG (by simp[aj,dL,gZ,forms,lY,zN,kW,qg]) rfl (by decide) (by decide) (by decide) (by decide) rfl
theorem z6s{k:Nat}{f:Int}{x y:Ex}(hf:f=11\/f=12)(h:Rd1 k x)(h':Rd1 k y):Rd1 (k+1) (.mk f [] 0 0 [x,y]):=by
 have key:∀w:Str,aj (.mk f [] 0 0 [x,y])=wd w::sg sPar::(aj x++sg sComma::(aj y++[sg sKet]))->level f=3->words.contains w=true->(w==sMinus)=false->(w==sPar)=false->(w==wIf)=false->look w kW=some (f,((2:Nat):Int),false)->Rd1 (k+1) (.mk f [] 0 0 [x,y]):=by
  intro w hb h3 h4 h5 h6 h7 h8
  refine Rd1.of3 h3 (λl=>?_) (λl=>?_)
  ·rw[hb];simp only[List.cons_append,List.append_assoc,List.nil_append];exact Ey h4 h5 h6 h8 (WV h h')
  ·rw[hb,List.cons_append,jK,h7]
 rcases hf with rfl |rfl
 ·exact key z7u (by simp[aj,dL,gZ,forms,lY,zN,kW,qg]) rfl (by decide) (by decide) (by decide) (by decide) rfl
 ·exact key z7v (by simp[aj,dL,gZ,forms,lY,zN,kW,qg]) rfl (by decide) (by decide) (by decide) (by decide) rfl
theorem z9q{k:Nat}{a b c d:Ex}(ha:Rd2 k 1 a)(hb:Rd2 k 1 b)(hc:Rd1 k c)(hd:Rd1 k d):Rd1 k (.mk 19 [] 0 0 [a,b,c,d]):=by
 refine Rd1.of0 rfl λl hl=>?_
 rw[zah,kS,kS]
 simp only[List.cons_append,List.append_assoc]
 have hu:=jw k
 have e1:sumM (bH k) (aW a 1++sg sLt::(aW b 1++wd wThen::(aj c++wd wElse::(aj d++l))))=(some a,sg sLt::(aW b 1++wd wThen::(aj c++wd wElse::(aj d++l)))):=(ha.s rfl _ (Yf _).toSt2).trans (Ak (Yf _) _)
 have e2:sumM (bH k) (aW b 1++wd wThen::(aj c++wd wElse::(aj d++l)))=(some b,wd wThen::(aj c++wd wElse::(aj d++l))):=(hb.s rfl _ (Me _).toSt2).trans (Ak (Me _) _)
 have e3:∀n,(aj c++wd wElse::(aj d++l)).length<=n->exprF (bH k) (n+1) (aj c++wd wElse::(aj d++l))=(some c,wd wElse::(aj d++l)):=λn hn=>(G8 hu _ hn (Nat.le_refl _)).trans (hc.expr _ (WW _))
 have e4:∀n,(aj d++l).length<=n->exprF (bH k) (n+1) (aj d++l)=(some d,l):=λn hn=>(G8 hu _ hn (Nat.le_refl _)).trans (hd.expr _ hl)
 unfold jd
 rw[tC,if_pos (by rw[jK];rfl),List.drop_one,List.tail_cons,e1]
 simp only[mi,iK]
 rw[e2]
 simp only[mi,pJ]
 rw[List.length_cons,e3 _ (by simp only[List.length_append,List.length_cons];omega)]
 simp only[mi,pJ]
 rw[e4 _ (by simp only[List.length_append,List.length_cons];omega)]
 rfl
mutual
theorem G.rd:∀{k:Nat} {x:Ex},G k x->Rd1 k x
 |k,_,.num h=>Rd1.of3 rfl (λl=>by rw[z07,kC h];exact WS h k l) (λl=>by rw[z07,kC h];exact Ye _ _ _)
 |k,_,.name h=>Rd1.of3 rfl (λl=>by rw[TU];exact TW h k l) (λl=>by rw[TU];exact Ub h l)
 |_,_,.neg h=>Rd1.of3 rfl (λl=>by rw[z08];exact WT (h.rd2.u rfl l)) (λl=>by rw[z08];exact(dC _ _ _).trans (by decide))
 |_,_,.one hf h=>z6r hf h.rd
 |_,_,.named hf hs h=>WY hf hs h.rd
 |_,_,.two hf h h2=>z6s hf h.rd h2.rd
 | k,_,.mul h h2=>Rd1.of2 rfl (λl=>by
   rw[z09,List.append_assoc,List.cons_append,h.rd2.p rfl];exact z02 (jw k) (h2.rd2.u rfl l)) (λl=>by rw[z09,List.append_assoc];exact h.rd2.i (by decide) _)
 | k,_,.div h hn h0=>Rd1.of2 rfl (λl=>by
   rw[z1a,kC hn,List.append_assoc,h.rd2.p rfl];exact z03 (jw k) hn h0) (λl=>by rw[z1a,List.append_assoc];exact h.rd2.i (by decide) _)
 | k,_,.add h h2=>Rd1.of1 rfl (λl hl=>by
   rw[z1b,List.append_assoc,List.cons_append,h.rd2.s rfl _ (WX _)];exact z04 (jw k) ((h2.rd2.p rfl l).trans (qI hl _))) (λl=>by rw[z1b,List.append_assoc];exact h.rd2.i (by decide) _)
 | k,_,.sub h h2=>Rd1.of1 rfl (λl hl=>by
   rw[z1c,List.append_assoc,List.cons_append,h.rd2.s rfl _ (Ua _)];exact z05 (jw k) ((h2.rd2.p rfl l).trans (qI hl _))) (λl=>by rw[z1c,List.append_assoc];exact h.rd2.i (by decide) _)
 |_,_,.ife a b c d=>z9q a.rd2 b.rd2 c.rd d.rd
theorem F.rd2:∀{k:Nat} {v:Int} {x:Ex},F k v x->Rd2 k v x
 |_,_,_,.bare hv h=>WR hv h.rd
 |_,_,_,.par hv h=>z06 hv h.rd
end
end Go.Fw.Sy
