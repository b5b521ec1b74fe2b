/- SyntaxBack: what is written are tokens; what is read can be written. -/
import Derived.Test.YtmfehangcmbidaaGreatDoorZSP18
import Derived.Test.YtmfehangcmbidaaGreatDoorZSP7
set_option linter.unusedSectionVars false
set_option linter.unusedSimpArgs false
set_option linter.unusedVariables false
namespace Go.Fw.Sy
open Go.Fw Go.Fw.Lx
variable [ae]
theorem Val.nil:Val []:=λt h=>by simp at h
theorem Val.cons{t:Tk}{l:List Tk}(ht:valid t=true)(h:Val l):Val (t::l):=λx hx=>by
 rcases List.mem_cons.1 hx with rfl |hx
 ·exact ht
 ·exact h x hx
theorem Val.and{a b:List Tk}(ha:Val a)(hb:Val b):Val (a++b):=λx hx=>by
 rcases List.mem_append.1 hx with hx |hx
 ·exact ha x hx
 ·exact hb x hx
theorem Val.flat{α:Type}{g:α->List Tk}{l:List α}(h:∀x∈l,Val (g x)):Val (l.flatMap g):=λt ht=>by
 obtain⟨x,hx,hy⟩:=List.mem_flatMap.1 ht
 exact h x hx t hy
theorem Val.all{l:List Tk}(h:Val l):l.all valid=true:=List.all_eq_true.2 h
theorem Uy{s:Str}(h:CV s):valid (wd s)=true:=by
 unfold valid;rw[if_pos (by rfl),h.2];rfl
theorem z8b{n:Int}(h:qU n):valid (nu n)=true:=by
 unfold valid
 rw[if_neg (show ¬((2:Int)==1)=true by decide),if_pos (by rfl)]
 simp only[Bool.and_eq_true,decide_eq_true_eq]
 exact⟨⟨rfl,h.1⟩,by have:=h.2;omega⟩
theorem pM{n:Int}(h:kY n):Val (dQ n):=by
 rcases Int.lt_or_le n 0 with hn |hn
 ·rw[Ez h hn]
  exact .cons rfl (.cons (z8b ⟨by omega,by have:=h.1;omega⟩) .nil)
 ·rw[kC ⟨hn,h.2⟩];exact .cons (z8b ⟨hn,h.2⟩) .nil
theorem num_int{n:Int}(h:qU n):kY n:=⟨by have:=h.1;omega,h.2⟩
theorem z9r{f:Int}{x:Ex}(hf:f=6\/f=7\/f=10\/f=13):∃w,valid (wd w)=true/\aj (.mk f [] 0 0 [x])=wd w::sg sPar::(aj x++[sg sKet]):=by
 rcases hf with rfl |rfl |rfl |rfl
 ·exact⟨wIn,rfl,by simp[aj,dL,gZ,forms,lY,zN,kW,qg]⟩
 ·exact⟨VF,rfl,by simp[aj,dL,gZ,forms,lY,zN,kW,qg]⟩
 ·exact⟨z7t,rfl,by simp[aj,dL,gZ,forms,lY,zN,kW,qg]⟩
 ·exact⟨z7w,rfl,by simp[aj,dL,gZ,forms,lY,zN,kW,qg]⟩
theorem z1u{f:Int}{s:Str}{x:Ex}(hf:f=8\/f=9):∃w,valid (wd w)=true/\aj (.mk f s 0 0 [x])=wd w::sg sPar::wd s::sg sComma::(aj x++[sg sKet]):=by
 rcases hf with rfl |rfl
 ·exact⟨z7s,rfl,by simp[aj,dL,gZ,forms,lY,zN,kW,qg]⟩
 ·exact⟨VG,rfl,by simp[aj,dL,gZ,forms,lY,zN,kW,qg]⟩
theorem z9s{f:Int}{x y:Ex}(hf:f=11\/f=12):∃w,valid (wd w)=true/\aj (.mk f [] 0 0 [x,y])=wd w::sg sPar::(aj x++sg sComma::(aj y++[sg sKet])):=by
 rcases hf with rfl |rfl
 ·exact⟨z7u,rfl,by simp[aj,dL,gZ,forms,lY,zN,kW,qg]⟩
 ·exact⟨z7v,rfl,by simp[aj,dL,gZ,forms,lY,zN,kW,qg]⟩
mutual
theorem G.val:∀{k:Nat} {x:Ex},G k x->Val (aj x)
 |_,_,.num h=>by rw[z07];exact pM (num_int h)
 |_,_,.name h=>by rw[TU];exact .cons (Uy h) .nil
 |_,_,.neg h=>by rw[z08];exact .cons rfl h.val2
 |_,_,.one hf h=>by
  obtain⟨w,hw,e⟩:=z9r (x:=_) hf
  rw[e];exact .cons hw (.cons rfl (h.val.and (.cons rfl .nil)))
 |_,_,.named hf hs h=>by
  obtain⟨w,hw,e⟩:=z1u (s:=_) (x:=_) hf
  rw[e];exact .cons hw (.cons rfl (.cons (Uy hs) (.cons rfl (h.val.and (.cons rfl .nil)))))
 |_,_,.two hf h h2=>by
  obtain⟨w,hw,e⟩:=z9s (x:=_) (y:=_) hf
  rw[e];exact .cons hw (.cons rfl (h.val.and (.cons rfl (h2.val.and (.cons rfl .nil)))))
 |_,_,.mul h h2=>by rw[z09];exact h.val2.and (.cons rfl h2.val2)
 |_,_,.div h hn h0=>by rw[z1a];exact h.val2.and (.cons rfl (pM (num_int hn)))
 |_,_,.add h h2=>by rw[z1b];exact h.val2.and (.cons rfl h2.val2)
 |_,_,.sub h h2=>by rw[z1c];exact h.val2.and (.cons rfl h2.val2)
 |_,_,.ife a b c d=>by
  rw[zah,kS,kS]
  exact .cons rfl (a.val2.and (.cons rfl (b.val2.and (.cons rfl (c.val.and (.cons rfl d.val))))))
theorem F.val2:∀{k:Nat} {v:Int} {x:Ex},F k v x->Val (aW x v)
 |_,_,_,.bare hv h=>by rw[Ef (decide_eq_false (by omega))];exact h.val
 |_,_,_,.par hv h=>by rw[qj (decide_eq_true hv)];exact .cons rfl (h.val.and (.cons rfl .nil))
end
theorem CX{lo hi:Int}(h1:kY lo)(h2:kY hi):Val (bV lo hi):=
 .cons rfl ((pM h1).and (.cons rfl ((pM h2).and (.cons rfl .nil))))
theorem Yj{w:Str}{b:Bd}(hw:valid (wd w)=true)(h:W9 b):Val (bdT w b):=.cons hw (.cons (Uy h.n) (CX h.lo h.hi))
theorem z6z{b:Ln}(h:z7z b):Val (lnT b):=.cons rfl (.cons (Uy h.n) ((pM (num_int h.s)).and (CX h.lo h.hi)))
theorem MM:∀(i:Nat) (vs:List Int),(∀x∈vs,kY x)->Val (kw i vs)
 |_,[],_=>.nil
 |i,v::vs,h=>by
  rw[kw]
  refine Val.and ?_ ((pM (h v (by simp))).and (MM (i+1) vs λx hx=>h x (by simp[hx])))
  split
  ·exact .cons rfl .nil
  ·exact .nil
theorem z7a{t:Tb}(h:z8a t):Val (tbT t):=.cons rfl (.cons (Uy h.n) (.cons rfl ((MM 0 _ h.v).and (.cons rfl .nil))))
theorem Xi{s:Sm}(h:Yg s):Val (fA s):=by
 unfold fA
 rw[kS]
 refine Val.and ?_ (h.x.val.and (.cons rfl .nil))
 rcases h.k with⟨hk,hn⟩ |⟨hk,hn⟩
 ·repeat' split
  ·exact .cons rfl (.cons (Uy hn) (.cons rfl .nil))
  ·exact .cons rfl (.cons (Uy hn) (.cons rfl .nil))
  ·exact .cons rfl (.cons (Uy hn) (.cons rfl .nil))
  ·exact .cons rfl .nil
 ·rw[hk];exact .cons rfl .nil
theorem Xj{p:Pr}(h:EC p):Val (fB p):=by
 unfold fB
 refine Val.cons rfl (.cons (Uy h.n) (.cons rfl ((pM (num_int h.lat)).and (.cons rfl (Val.and ?_ (.cons rfl (Val.and ?_ (Val.and ?_ (Val.and ?_ (Val.and ?_ (Val.and ?_ (.cons rfl .nil))))))))))))
 ·rcases h.tl with h |h
  ·rw[h];exact .cons rfl .nil
  ·split
   ·exact .cons rfl .nil
   ·exact pM (num_int h)
 ·exact .flat λb hb=>Yj rfl (h.params b hb)
 ·exact .flat λb hb=>Yj rfl (h.states b hb)
 ·exact .flat λb hb=>z6z (h.lines b hb)
 ·exact .flat λb hb=>z7a (h.tables b hb)
 ·exact .flat λb hb=>Xi (h.stmts b hb)
theorem z1v{ps:List Pr}(h:∀p∈ps,EC p):Val (allT ps):=.flat λp hp=>Xj (h p hp)
theorem map_id'{α:Type}{f:α->α}:∀{l:List α},(∀x∈l,f x=x)->l.map f=l
 | [],_=>rfl
 |x::l,h=>by rw[List.map_cons,h x (by simp),map_id' λy hy=>h y (by simp[hy])]
theorem Yg.bare{s:Sm}(h:Yg s):uO s=s:=by
 have hx:=h.x.bare
 have hi:=h.i
 obtain⟨a,b,c,d⟩:=s
 simp only at hx hi
 simp only[uO,hx,hi]
theorem EC.bare{p:Pr}(h:EC p):dE p=p:=by
 have:=map_id' λs hs=>(h.stmts s hs).bare
 obtain⟨a,b,c,d,e,f,g,i⟩:=p
 simp only at this
 simp only[dE,this]
theorem EF(l m:List Pr):Jc l m=true↔l=m.map dE:=by
 have:=nH (f:=λq=>dV q.1 q.2) (λx y=>Cb x y) l (m.map dE)
 rw[<-this]
 have e:∀(l m:List Pr),(l.zip m).all (λq=>dV q.1 (dE q.2))=(l.zip (m.map dE)).all (λq=>dV q.1 q.2):=by
  intro l
  induction l with
  |nil=>intro m;rfl
  |cons x l ih=>
   intro m
   cases m with
   |nil=>rfl
   |cons y m=>simp only[List.map_cons,List.zip_cons_cons,List.all_cons,ih]
 simp only[Jc,lenE,List.length_map,e]
theorem O8{ps:List Pr}(h:∀p∈ps,EC p):jU ps = .tuple [.str (textS (allT ps)),.i 0]:=by
 unfold jU
 rw[(z1v h).all,if_pos rfl,Ug ps h]
 simp only
 rw[if_pos ((EF ps ps).2 (map_id' λp hp=>(h p hp).bare).symm)]
theorem O9(k:Int):dL (if k==3 || k==4 || k==5 then 2 else k)=dL k/\lY (if k==3 || k==4 || k==5 then 2 else k)=lY k/\((if k==3 || k==4 || k==5 then 2 else k)==(1:Int))=(k==1):=by
 cases h:k==3 || k==4 || k==5 with
 |false=>exact⟨rfl,rfl,rfl⟩
 |true=>
  simp only[Bool.or_eq_true,beq_iff_eq]at h
  rcases h with(rfl |rfl) |rfl<;>exact⟨rfl,rfl,rfl⟩
theorem Pg(x:Ex):level (gp x).kind=level x.kind:=by
 obtain⟨k,nm,i,n,l⟩:=x
 rw[gp]
 show level (if k==3 || k==4 || k==5 then 2 else k)=level k
 cases h:k==3 || k==4 || k==5 with
 |false=>rfl
 |true=>
  simp only[Bool.or_eq_true,beq_iff_eq]at h
  rcases h with(rfl |rfl) |rfl<;>rfl
mutual
theorem wY:∀x:Ex,aj (gp x)=aj x
 | .mk k nm i n l=>by
  obtain⟨h1,h2,h3⟩:=O9 k
  rw[gp,aj,aj,h1,h2,h3]
  cases dL k with
  |some f=>simp only;rw[Hf l]
  |none=>
   simp only
   cases lY k with
   |some f=>simp only;rw[Hg l]
   |none=>rfl
theorem Hf:∀(l:List Ex) (hs:List Str) (lv:List Int),opsT (jh l) hs lv=opsT l hs lv
 | [],hs,lv=>by rw[jh]
 |x::l,[],lv=>by rw[jh,opsT,opsT]
 |x::l,h::hs,lv=>by rw[jh,opsT,opsT,Pg,wY x,Hf l]
theorem Hg:∀(l:List Ex) (m i:Nat),qg (jh l) m i=qg l m i
 | [],m,i=>by rw[jh]
 |x::l,0,i=>by rw[jh,qg,qg]
 |x::l,m+1,i=>by rw[jh,qg,qg,wY x,Hg l]
end
theorem Uh(s:Sm):fA (uO s)=fA s:=by
 unfold fA;rw[kS,kS];simp only[uO,wY]
theorem MN{α β γ:Type}{f:α->β}{g:β->List γ}{h:α->List γ}(e:∀x,g (f x)=h x)(l:List α):(l.map f).flatMap g=l.flatMap h:=by
 induction l with
 |nil=>rfl
 |cons x l ih=>rw[List.map_cons,List.flatMap_cons,List.flatMap_cons,ih,e]
theorem Ui(p:Pr):fB (dE p)=fB p:=by
 unfold fB;simp only[dE];rw[MN Uh]
theorem Xk(l:List Pr):allT (l.map dE)=allT l:=MN Ui l
mutual
theorem CY:∀x:Ex,gp (gp x)=gp x
 | .mk k nm i n l=>by
  rw[gp,gp,CZ l]
  congr 1
  cases h:k==3 || k==4 || k==5 with
  |false=>rw[if_neg (c:=false=true) Bool.noConfusion,h];rfl
  |true=>rfl
theorem CZ:∀l:List Ex,jh (jh l)=jh l
 | []=>rfl
 |x::l=>by rw[jh,jh,CY x,CZ l]
end
theorem Ph(p:Pr):dE (dE p)=dE p:=by
 simp only[dE,List.map_map,Function.comp_def,uO,CY]
theorem Jz(l:List Pr):jU l=zZ\/(jU l = .tuple [.str (textS (allT l)),.i 0]/\Val (allT l)/\(readM (allT l)).1=some (l.map dE)):=by
 unfold jU
 cases h1:(allT l).all valid with
 |false=>exact .inl rfl
 |true=>
  rw[if_pos rfl]
  cases h2:(readM (allT l)).1 with
  |none=>exact .inl rfl
  |some ps=>
   simp only
   cases h3:Jc ps l with
   |false=>exact .inl rfl
   |true=>
    refine .inr ⟨rfl,List.all_eq_true.1 h1,?_⟩
    rw[(EF ps l).1 h3]
theorem JA{l:List Pr}(hv:Val (allT l))(hr:(readM (allT l)).1=some (l.map dE)):jU (l.map dE) = .tuple [.str (textS (allT l)),.i 0]:=by
 unfold jU
 rw[Xk,hv.all,if_pos rfl,hr]
 simp only
 rw[if_pos]
 rw[EF,List.map_map]
 exact(List.map_congr_left λp _=>(Ph p)).symm
theorem JB{l:List Pr}(hv:Val (allT l))(hr:(readM (allT l)).1=some (l.map dE))(hb:decide (((textS (allT l)).length:Int)>65536)=false):gU (textS (allT l)) = .tuple [prs (l.map dE),.i 0,.i 0]:=by
 obtain⟨h1,h2⟩:=WN hv.all
 obtain⟨h3,h4⟩:=WM h2
 cases hX:readM (place 0 (pairs (allT l)))with
 |mk o r=>
  rw[hX,hr]at h3
  obtain rfl:=h3
  exact CS hb h1 hX
end Go.Fw.Sy
