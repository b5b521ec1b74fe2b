/- Package syntax: a parser looks at the tokens it takes, and at the one ahead; places do not matter. -/
import Derived.Test.YtmfehangcmbidaaGreatDoorZDS
set_option linter.unusedSectionVars false
set_option linter.unusedSimpArgs false
set_option linter.unusedVariables false
namespace Go.Fw.Sy
open Go.Fw Go.Fw.Lx
def st(t:Tk):Tk:=⟨t.kind,t.text,t.n,0⟩
def Sim(l m:List Tk):Prop:=l.map st=m.map st
def hdS(l m:List Tk):Prop:=l.head?.map st=m.head?.map st
theorem Sim.nil{c:List Tk}(h:Sim [] c):c = []:=by cases c<;>simp[Sim]at h ⊢
theorem Sim.cons{t:Tk}{c e:List Tk}(h:Sim (t::c) e):∃t' d,e=t'::d/\st t=st t'/\Sim c d:=by
 cases e with
 |nil=>simp[Sim]at h
 |cons t' d=>simp only[Sim,List.map_cons,List.cons.injEq]at h;exact⟨t',d,rfl,h.1,h.2⟩
theorem Sim.app{c d e:List Tk}(h:Sim (c++d) e):∃c' d',e=c'++d'/\Sim c c'/\Sim d d':=by
 have h:e.map st=c.map st++d.map st:=by rw[<-List.map_append];exact h.symm
 obtain⟨c',d',rfl,h1,h2⟩:=List.map_eq_append_iff.1 h
 exact⟨c',d',rfl,h1.symm,h2.symm⟩
theorem Sim.len{c d:List Tk}(h:Sim c d):c.length=d.length:=by simpa[Sim]using congrArg List.length h
theorem hdS.rfl'(c:List Tk):hdS c c:=rfl
theorem jy{d d' r r':List Tk}(h:Sim d d')(hr:hdS r r'):hdS (d++r) (d'++r'):=by
 cases d with
 |nil=>rw[h.nil];exact hr
 |cons t c=>obtain⟨t',e,rfl,h1,_⟩:=h.cons;simpa[hdS]using h1
structure HdE(l m:List Tk):Prop where
 e:l.isEmpty=m.isEmpty
 k:(hd l).kind=(hd m).kind
 t:(hd l).text=(hd m).text
 n:(hd l).n=(hd m).n
theorem hdS.e{l m:List Tk}(h:hdS l m):HdE l m:=by
 cases l with
 |nil=>cases m with
  |nil=>exact⟨rfl,rfl,rfl,rfl⟩
  |cons t r=>simp[hdS]at h
 |cons t r=>cases m with
  |nil=>simp[hdS]at h
  |cons u v=>
   simp only[hdS,List.head?_cons,Option.map_some,Option.some.injEq,st,Tk.mk.injEq]at h
   exact⟨rfl,h.1,h.2.1,h.2.2.1⟩
theorem gI{s:Str}{l m:List Tk}(h:hdS l m):isT s l=isT s m:=by simp only[isT,h.e.e,h.e.k,h.e.t]
theorem Su{l m:List Tk}(h:hdS l m):Gv l=Gv m:=by simp only[Gv,h.e.e,h.e.k,h.e.t]
theorem xw{l m:List Tk}(h:hdS l m):eG l=eG m:=by simp only[eG,h.e.e,h.e.k,h.e.n]
def Act{β:Type}(M:List Tk->β×List Tk)(l:List Tk)(o:β)(r:List Tk):Prop:=∃c,l=c++r/\∀c' r',Sim c c'->hdS r r'->M (c'++r')=(o,r')
def Loc{β:Type}(M:List Tk->β×List Tk):Prop:=∀l,Act M l (M l).1 (M l).2
section
variable {α β γ : Type} {l r r2 : List Tk}
theorem Act.run{M:List Tk->β×List Tk}{o:β}(h:Act M l o r):M l=(o,r):=by
 obtain⟨c,rfl,h⟩:=h;exact h c r rfl rfl
theorem Act.self{M:List Tk->β×List Tk}{o:β}(h:Act M l o r):Act M l (M l).1 (M l).2:=by rw[h.run];exact h
theorem Loc.act{M:List Tk->β×List Tk}{o:β}(h:Loc M)(e:M l=(o,r)):Act M l o r:=by have:=h l;rw[e]at this;exact this
theorem Loc.of{M:List Tk->β×List Tk}(h:∀l,∃N:List Tk->β×List Tk,Act N l (N l).1 (N l).2/\∀m,hdS l m->M m=N m):Loc M:=by
 intro l
 obtain⟨N,⟨c,hc,hN⟩,hM⟩:=h l
 have e:=hM l rfl
 rw[e]
 refine⟨c,hc,λc' r' h1 h2=>?_⟩
 rw[hM _ (by have:=jy h1 h2;rw[<-hc]at this;exact this)]
 exact hN c' r' h1 h2
theorem Act.drop{A:List Tk->β×List Tk}{t:Tk}{o:β}(h:Act A l o r):Act (λl=>A (l.drop 1)) (t::l) o r:=by
 obtain⟨c,rfl,h⟩:=h
 refine⟨t::c,rfl,λc' r' h1 h2=>?_⟩
 obtain⟨t',d,rfl,_,h3⟩:=h1.cons
 exact h d r' h3 h2
theorem Act.pure(o:β):Act (λl=>(o,l)) l o l:=⟨[],rfl,λc' r' h1 _=>by rw[h1.nil];rfl⟩
theorem Loc.pure(o:β):Loc (λl=>(o,l)):=λ_=>Act.pure o
theorem Act.tok(f:List Tk->β)(hf:∀l m,hdS l m->f l=f m){t:Tk}:Act (λl=>(f l,l.drop 1)) (t::l) (f (t::l)) l:=
 ⟨[t],rfl,λc' r' h1 _=>by
  obtain⟨t',d,rfl,h2,h3⟩:=h1.cons
  cases h3.nil
  rw[hf (t::l) ([t']++r') (by simpa[hdS]using h2)];rfl⟩
theorem Act.bndS{M:PM α}{f:α->PM γ}{x:α}{o:Option γ}(h:Act M l (some x) r)(h2:Act (f x) r o r2):Act (λl=>bnd (M l) f) l o r2:=by
 obtain⟨c,rfl,h⟩:=h
 obtain⟨d,rfl,h2⟩:=h2
 refine⟨c++d,(List.append_assoc _ _ _).symm,λe r' h3 h4=>?_⟩
 obtain⟨c',d',rfl,h5,h6⟩:=h3.app
 show bnd (M (c'++d'++r')) f=_
 rw[List.append_assoc,h c' (d'++r') h5 (jy h6 h4)]
 exact h2 d' r' h6 h4
theorem Act.bndN{M:PM α}{f:α->PM γ}(h:Act M l none r):Act (λl=>bnd (M l) f) l none r:=by
 obtain⟨c,rfl,h⟩:=h
 refine⟨c,rfl,λc' r' h1 h2=>?_⟩
 show bnd (M (c'++r')) f=_
 rw[h c' r' h1 h2];rfl
theorem Loc.bnd{M:PM α}{f:α->PM γ}(hM:Loc M)(hf:∀x,Loc (f x)):Loc (λl=>bnd (M l) f):=by
 intro l
 cases e:M l with
 |mk o r=>
  cases o with
  |none=>exact(hM.act e).bndN.self
  |some x=>exact((hM.act e).bndS ((hf x).act (l:=r) rfl)).self
theorem Loc.ite{P:List Tk->Bool}{A B:List Tk->β×List Tk}(hP:∀l m,hdS l m->P l=P m)(hA:Loc A)(hB:Loc B):Loc (λl=>if P l then A l else B l):=by
 refine Loc.of λl=>?_
 cases h:P l with
 |true=>exact⟨A,hA l,λm hm=>if_pos ((hP l m hm).symm.trans h)⟩
 |false=>exact⟨B,hB l,λm hm=>if_neg (by rw[<-hP l m hm,h];exact Bool.noConfusion)⟩
theorem Loc.iteD{P:List Tk->Bool}{A B:List Tk->β×List Tk}(hP:∀l m,hdS l m->P l=P m)(hne:∀l,P l=true->l.isEmpty=false)(hA:Loc A)(hB:Loc B):Loc (λl=>if P l then A (l.drop 1)else B l):=by
 refine Loc.of λl=>?_
 cases h:P l with
 |true=>
  refine⟨λl=>A (l.drop 1),?_,λm hm=>if_pos ((hP l m hm).symm.trans h)⟩
  cases l with
  |nil=>exact absurd (hne [] h) (by simp)
  |cons t l=>exact(hA l).drop
 |false=>exact⟨B,hB l,λm hm=>if_neg (by rw[<-hP l m hm,h];exact Bool.noConfusion)⟩
theorem Loc.iteT{P:List Tk->Bool}{f:List Tk->β}{B:List Tk->β×List Tk}(hP:∀l m,hdS l m->P l=P m)(hne:∀l,P l=true->l.isEmpty=false)(hf:∀l m,hdS l m->f l=f m)(hB:Loc B):Loc (λl=>if P l then(f l,l.drop 1)else B l):=by
 refine Loc.of λl=>?_
 cases h:P l with
 |true=>
  refine⟨λl=>(f l,l.drop 1),?_,λm hm=>if_pos ((hP l m hm).symm.trans h)⟩
  cases l with
  |nil=>exact absurd (hne [] h) (by simp)
  |cons t l=>exact Act.tok f hf
 |false=>exact⟨B,hB l,λm hm=>if_neg (by rw[<-hP l m hm,h];exact Bool.noConfusion)⟩
end
theorem F6{s:Str}(l:List Tk)(h:isT s l=true):l.isEmpty=false:=by cases l<;>simp[isT]at h ⊢
theorem SA(l:List Tk)(h:Gv l=true):l.isEmpty=false:=by cases l<;>simp[Gv]at h ⊢
theorem KU(l:List Tk)(h:eG l=true):l.isEmpty=false:=by cases l<;>simp[eG]at h ⊢
theorem bP(s:Str):Loc (aC s):=Loc.iteT (P:=isT s) (f:=λ_=>some ()) (λ_ _=>gI) F6 (λ_ _ _=>rfl) (Loc.pure none)
theorem mD:Loc jg:=Loc.iteT (P:=Gv) (f:=λl=>some (hd l).text) (λ_ _=>Su) SA (λ_ _ h=>by rw[h.e.t]) (Loc.pure none)
theorem rD:Loc mV:=Loc.iteT (P:=eG) (f:=λl=>some (hd l).n) (λ_ _=>xw) KU (λ_ _ h=>by rw[h.e.n]) (Loc.pure none)
theorem Dz:Loc Gw:=Loc.iteD (P:=isT dZ) (A:=λl=>bnd (mV l) λn r=>(some (IntKind.i64.wrap (0-n)),r)) (B:=mV) (λ_ _=>gI) F6 (rD.bnd λ_=>Loc.pure _) rD
def dJ{β:Type}(b:Nat)(M:Nat->List Tk->β×List Tk)(l:List Tk)(o:β)(r:List Tk):Prop:=
 ∃c,l=c++r/\∀m c' r',Sim c c'->hdS r r'->(c'++r').length<=m+b->M m (c'++r')=(o,r')
theorem hdS.nil{r:List Tk}(h:hdS r []):r = []:=by cases r<;>simp[hdS]at h ⊢
theorem Sim.nil'{c:List Tk}(h:Sim c []):c = []:=by cases c<;>simp[Sim]at h ⊢
section
variable {α β γ : Type} {l r r2 : List Tk} {b : Nat}
theorem Act.g{M:List Tk->β×List Tk}{o:β}(h:Act M l o r):dJ b (λ_=>M) l o r:=by
 obtain⟨c,e,h⟩:=h;exact⟨c,e,λ_ c' r' h1 h2 _=>h c' r' h1 h2⟩
theorem dJ.act{M:Nat->List Tk->β×List Tk}{o:β}(h:dJ 0 M l o r):Act (λl=>M l.length l) l o r:=by
 obtain⟨c,e,h⟩:=h;exact⟨c,e,λc' r' h1 h2=>h _ c' r' h1 h2 (Nat.le_refl _)⟩
theorem dJ.le{M:Nat->List Tk->β×List Tk}{o:β}(h:dJ b M l o r):r.length<=l.length:=by
 obtain⟨c,rfl,_⟩:=h;simp
theorem Act.le{M:List Tk->β×List Tk}{o:β}(h:Act M l o r):r.length<=l.length:=by
 obtain⟨c,rfl,_⟩:=h;simp
theorem dJ.drop{A:Nat->List Tk->β×List Tk}{t:Tk}{o:β}(h:dJ b A l o r):dJ (b+1) (λm l=>A m (l.drop 1)) (t::l) o r:=by
 obtain⟨c,rfl,h⟩:=h
 refine⟨t::c,rfl,λm c' r' h1 h2 hn=>?_⟩
 obtain⟨t',d,rfl,_,h3⟩:=h1.cons
 exact h m d r' h3 h2 (by simp only[List.cons_append,List.length_cons]at hn;omega)
theorem dJ.bndS{M:Nat->PM α}{f:Nat->α->PM γ}{x:α}{o:Option γ}(h:dJ b M l (some x) r)(h2:dJ b (λm=>f m x) r o r2):dJ b (λm l=>bnd (M m l) (f m)) l o r2:=by
 obtain⟨c,rfl,h⟩:=h
 obtain⟨d,rfl,h2⟩:=h2
 refine⟨c++d,(List.append_assoc _ _ _).symm,λm e r' h3 h4 hn=>?_⟩
 obtain⟨c',d',rfl,h5,h6⟩:=h3.app
 show bnd (M m (c'++d'++r')) (f m)=_
 rw[List.append_assoc]at hn ⊢
 rw[h m c' (d'++r') h5 (jy h6 h4) hn]
 exact h2 m d' r' h6 h4 (by rw[List.length_append]at hn;omega)
theorem dJ.bndN{M:Nat->PM α}{f:Nat->α->PM γ}(h:dJ b M l none r):dJ b (λm l=>bnd (M m l) (f m)) l none r:=by
 obtain⟨c,rfl,h⟩:=h
 refine⟨c,rfl,λm c' r' h1 h2 hn=>?_⟩
 show bnd (M m (c'++r')) (f m)=_
 rw[h m c' r' h1 h2 hn];rfl
theorem dJ.succ{M N:Nat->List Tk->β×List Tk}{o:β}(h:dJ 1 N l o r)(hM:∀m l',hdS l l'->M (m+1) l'=N m l')(h0:l = []->M 0 []=(o,[])):dJ 0 M l o r:=by
 obtain⟨c,rfl,h⟩:=h
 refine⟨c,rfl,λm c' r' h1 h2 hn=>?_⟩
 cases m with
 |zero=>
  have:(c'++r') = []:=List.length_eq_zero_iff.1 (by omega)
  obtain⟨rfl,rfl⟩:=List.append_eq_nil_iff.1 this
  rw[h1.nil']at h0
  rw[h2.nil]at h0
  exact h0 rfl
 |succ m=>rw[hM m _ (jy h1 h2)];exact h m c' r' h1 h2 (by omega)
theorem dJ.bnd{M:PM α}{f:Nat->α->PM γ}(hM:Loc M)(hf:∀x r,r.length<=l.length->∃o r2,dJ b (λm=>f m x) r o r2):∃o r2,dJ b (λm l=>bnd (M l) (f m)) l o r2:=by
 cases e:M l with
 |mk o r=>
  cases o with
  |none=>exact⟨_,_,((hM.act e).g).bndN⟩
  |some x=>
   obtain⟨o,r2,h⟩:=hf x r (hM.act e).le
   exact⟨o,r2,dJ.bndS (M:=λ_=>M) (hM.act e).g h⟩
end
theorem mF{s:Str}{l:List Tk}(h:isT s l=true):∃t r,l=t::r:=by
 cases l with
 |nil=>exact absurd (F6 [] h) (by simp)
 |cons t r=>exact⟨t,r,rfl⟩
theorem SB{l m:List Tk}(h:hdS l m):(eG l&&(hd l).n==0)=(eG m&&(hd m).n==0):=by rw[xw h,h.e.n]
def divM(k:Int->PM Ex):PM Ex:=λl=>if eG l&&(hd l).n==0 then(none,l)else bnd (mV l) k
theorem IY(u:PM Ex)(n:Nat)(x:Ex)(l:List Tk):prodL u (n+1) x l=if isT lm l then bnd (u (l.drop 1)) λy=>prodL u n (ex2 17 x y)
  else if isT jT l then divM (λk=>prodL u n (.mk 18 [] 0 k [x])) (l.drop 1)else(some x,l):=rfl
theorem SC(u:PM Ex)(n:Nat)(x:Ex)(l:List Tk):sumL u (n+1) x l=if isT mQ l then bnd (kz u (l.drop 1)) λy=>sumL u n (ex2 15 x y)
  else if isT dZ l then bnd (kz u (l.drop 1)) λy=>sumL u n (ex2 16 x y)else(some x,l):=rfl
theorem SE{u:PM Ex}(hu:Loc u):∀(n:Nat) (l:List Tk) (x:Ex),l.length<=n->∃o r,dJ 0 (λm=>prodL u m x) l o r:=by
 intro n
 induction n with
 |zero=>
  intro l x hn
  have:l = []:=List.length_eq_zero_iff.1 (by omega)
  subst this
  exact⟨some x,[],dJ.succ (N:=λ_ l=>(some x,l)) (Act.pure (some x)).g (λm l' h=>by
   have:l' = []:=by cases l'<;>simp[hdS]at h ⊢
   subst this;rfl) (λ_=>rfl)⟩
 |succ n ih=>
  intro l x hn
  cases h1:isT lm l with
  |true=>
   obtain⟨t,l1,rfl⟩:=mF h1
   obtain⟨o,r2,h⟩:=dJ.bnd (b:=0) (l:=l1) (f:=λm y=>prodL u m (ex2 17 x y)) hu (λy r hr=>ih r _ (by simp only[List.length_cons]at hn;omega))
   exact⟨o,r2,h.drop.succ (λm l' hl=>by rw[IY,if_pos ((gI hl).symm.trans h1)]) (λh=>by cases h)⟩
  |false=>
   cases h2:isT jT l with
   |true=>
    obtain⟨t,l1,rfl⟩:=mF h2
    have key:∃o r2,dJ 0 (λm l=>divM (λk=>prodL u m (.mk 18 [] 0 k [x])) l) l1 o r2:=by
     cases h3:eG l1&&(hd l1).n==0 with
     |true=>
      refine⟨none,l1,[],rfl,λm c' r' h4 h5 _=>?_⟩
      rw[h4.nil]
      show divM _ r'=_
      rw[divM,if_pos ((SB h5).symm.trans h3)]
     |false=>
      obtain⟨o,r2,h⟩:=dJ.bnd (b:=0) (l:=l1) (f:=λm k=>prodL u m (.mk 18 [] 0 k [x])) rD (λy r hr=>ih r _ (by simp only[List.length_cons]at hn;omega))
      obtain⟨c,rfl,h⟩:=h
      refine⟨o,r2,c,rfl,λm c' r' h4 h5 h6=>?_⟩
      show divM _ (c'++r')=_
      rw[divM,if_neg (by rw[<-SB (jy h4 h5),h3];exact Bool.noConfusion)]
      exact h m c' r' h4 h5 h6
    obtain⟨o,r2,h⟩:=key
    exact⟨o,r2,h.drop.succ (λm l' hl=>by rw[IY,if_neg (by rw[<-gI hl,h1];exact Bool.noConfusion),if_pos ((gI hl).symm.trans h2)]) (λh=>by cases h)⟩
   |false=>
    exact⟨some x,l,dJ.succ (N:=λ_ l=>(some x,l)) (Act.pure (some x)).g (λm l' hl=>by rw[IY,if_neg (by rw[<-gI hl,h1];exact Bool.noConfusion),if_neg (by rw[<-gI hl,h2];exact Bool.noConfusion)]) (λh=>by subst h;rfl)⟩
theorem o7{β:Type}{M:Nat->List Tk->β×List Tk}(h:∀l,∃o r,dJ 0 M l o r):Loc (λl=>M l.length l):=λl=>by
 obtain⟨o,r,h⟩:=h l
 exact h.act.self
theorem DC{u:PM Ex}(hu:Loc u):Loc (kz u):=hu.bnd λx=>o7 λl=>SE hu l.length l x (Nat.le_refl _)
theorem VI{u:PM Ex}(hu:Loc u):∀(n:Nat) (l:List Tk) (x:Ex),l.length<=n->∃o r,dJ 0 (λm=>sumL u m x) l o r:=by
 intro n
 induction n with
 |zero=>
  intro l x hn
  have:l = []:=List.length_eq_zero_iff.1 (by omega)
  subst this
  exact⟨some x,[],dJ.succ (N:=λ_ l=>(some x,l)) (Act.pure (some x)).g (λm l' h=>by
   have:l' = []:=by cases l'<;>simp[hdS]at h ⊢
   subst this;rfl) (λ_=>rfl)⟩
 |succ n ih=>
  intro l x hn
  cases h1:isT mQ l with
  |true=>
   obtain⟨t,l1,rfl⟩:=mF h1
   obtain⟨o,r2,h⟩:=dJ.bnd (b:=0) (l:=l1) (f:=λm y=>sumL u m (ex2 15 x y)) (DC hu) (λy r hr=>ih r _ (by simp only[List.length_cons]at hn;omega))
   exact⟨o,r2,h.drop.succ (λm l' hl=>by rw[SC,if_pos ((gI hl).symm.trans h1)]) (λh=>by cases h)⟩
  |false=>
   cases h2:isT dZ l with
   |true=>
    obtain⟨t,l1,rfl⟩:=mF h2
    obtain⟨o,r2,h⟩:=dJ.bnd (b:=0) (l:=l1) (f:=λm y=>sumL u m (ex2 16 x y)) (DC hu) (λy r hr=>ih r _ (by simp only[List.length_cons]at hn;omega))
    exact⟨o,r2,h.drop.succ (λm l' hl=>by rw[SC,if_neg (by rw[<-gI hl,h1];exact Bool.noConfusion),if_pos ((gI hl).symm.trans h2)]) (λh=>by cases h)⟩
   |false=>
    exact⟨some x,l,dJ.succ (N:=λ_ l=>(some x,l)) (Act.pure (some x)).g (λm l' hl=>by rw[SC,if_neg (by rw[<-gI hl,h1];exact Bool.noConfusion),if_neg (by rw[<-gI hl,h2];exact Bool.noConfusion)]) (λh=>by subst h;rfl)⟩
theorem DD{u:PM Ex}(hu:Loc u):Loc (sumM u):=(DC hu).bnd λx=>o7 λl=>VI hu l.length l x (Nat.le_refl _)
section
variable {α β γ : Type} {l r r2 : List Tk} {b : Nat}
theorem dJ.bnd'{M:Nat->PM α}{f:Nat->α->PM γ}(hM:∃o r,dJ b M l o r)(hf:∀x r,r.length<=l.length->∃o r2,dJ b (λm=>f m x) r o r2):∃o r2,dJ b (λm l=>Sy.bnd (M m l) (f m)) l o r2:=by
 obtain⟨o,r,h⟩:=hM
 cases o with
 |none=>exact⟨_,_,h.bndN⟩
 |some x=>
  obtain⟨o,r2,h2⟩:=hf x r h.le
  exact⟨o,r2,h.bndS h2⟩
theorem Loc.g{M:List Tk->β×List Tk}(h:Loc M)(l:List Tk):∃o r,dJ b (λ_=>M) l o r:=⟨_,_,(h l).g⟩
end
theorem IZ(u:PM Ex)(n:Nat)(l:List Tk):exprF u (n+1) l=if isT wIf l then
   bnd (sumM u (l.drop 1)) λa l=>bnd (aC sLt l) λ_ l=>bnd (sumM u l) λb l=>bnd (aC ku l) λ_ l=>
    bnd (exprF u n l) λc l=>bnd (aC kw l) λ_ l=>bnd (exprF u n l) λd l=>(some (.mk 19 [] 0 0 [a,b,c,d]),l)
  else sumM u l:=rfl
theorem SG{u:PM Ex}(hu:Loc u):∀(n:Nat) (l:List Tk),l.length<=n->∃o r,dJ 0 (λm=>exprF u (m+1)) l o r:=by
 intro n
 induction n with
 |zero=>
  intro l hn
  have:l = []:=List.length_eq_zero_iff.1 (by omega)
  subst this
  obtain⟨o,r,h⟩:=(DD hu).g (b:=1) []
  have hr:=h.le
  have:r = []:=List.length_eq_zero_iff.1 (by simpa using hr)
  subst this
  refine⟨o,[],h.succ (λm l' hl=>?_) (λ_=>?_)⟩
  ·rw[IZ,if_neg (by rw[<-gI hl];exact Bool.noConfusion)]
  ·obtain⟨c,hc,h⟩:=h
   rw[show c = []by simpa using hc.symm]at h
   exact h 0 [] [] rfl rfl (Nat.zero_le _)
 |succ n ih=>
  intro l hn
  cases h1:isT wIf l with
  |false=>
   obtain⟨o,r,c,hc,h⟩:=(DD hu).g (b:=0) l
   refine⟨o,r,c,hc,λm c' r' h2 h3 h4=>?_⟩
   show exprF u (m+1) (c'++r')=_
   rw[IZ,if_neg (by rw[<-gI (show hdS l (c'++r')by rw[hc];exact jy h2 h3),h1];exact Bool.noConfusion)]
   exact h m c' r' h2 h3 h4
  |true=>
   obtain⟨t,l1,rfl⟩:=mF h1
   have key:∃o r,dJ 0 (λm l=>bnd (sumM u l) λa l=>bnd (aC sLt l) λ_ l=>bnd (sumM u l) λb l=>bnd (aC ku l) λ_ l=>
    bnd (exprF u (m+1) l) λc l=>bnd (aC kw l) λ_ l=>bnd (exprF u (m+1) l) λd l=>((some (Ex.mk 19 [] 0 0 [a,b,c,d]):Option Ex),l)) l1 o r:=by
    have hl:l1.length<=n:=by simp only[List.length_cons]at hn;omega
    refine dJ.bnd' ((DD hu).g l1) λa r1 e1=>?_
    refine dJ.bnd' ((bP sLt).g r1) λ_ r2 e2=>?_
    refine dJ.bnd' ((DD hu).g r2) λb r3 e3=>?_
    refine dJ.bnd' ((bP ku).g r3) λ_ r4 e4=>?_
    refine dJ.bnd' (ih r4 (by omega)) λc r5 e5=>?_
    refine dJ.bnd' ((bP kw).g r5) λ_ r6 e6=>?_
    refine dJ.bnd' (ih r6 (by omega)) λd r7 e7=>?_
    exact⟨_,_,(Act.pure _).g⟩
   obtain⟨o,r2,h⟩:=key
   exact⟨o,r2,h.drop.succ (λm l' hl=>by rw[IZ,if_pos ((gI hl).symm.trans h1)]) (λh=>by cases h)⟩
theorem DF{u:PM Ex}(hu:Loc u):Loc (rf u):=o7 (M:=λm=>exprF u (m+1)) λl=>SG hu l.length l (Nat.le_refl _)
theorem VJ{u:PM Ex}(hu:Loc u):∀(n i:Nat) (acc:List Ex),Loc (Nu u n i acc):=by
 intro n
 induction n with
 |zero=>exact λi acc=>Loc.pure _
 |succ n ih=>
  intro i acc
  refine Loc.bnd (M:=λl=>if 0<i then aC aS l else(some (),l)) ?_ λ_=>(DF hu).bnd λx=>ih _ _
  by_cases h:0<i
  ·simp only[h,if_true];exact bP _
  ·simp only[h,if_false];exact Loc.pure _
theorem VK{u:PM Ex}(hu:Loc u)(k:Int)(n:Nat)(nm:Bool):Loc (mW u k n nm):=by
 refine(bP mO).bnd λ_=>Loc.bnd (M:=λl=>if nm then bnd (jg l) λs l=>bnd (aC aS l) λ_ l=>(some s,l)else(some [],l)) ?_ λs=>(VJ hu n 0 []).bnd λxs=>(bP tN).bnd λ_=>Loc.pure _
 cases nm with
 |true=>exact mD.bnd λs=>(bP aS).bnd λ_=>Loc.pure _
 |false=>exact Loc.pure _
theorem Y3{l:List Tk}(h:((hd l).kind==1)=true):∃t r,l=t::r:=by
 cases l with
 |nil=>exact Bool.noConfusion (show false=true from h)
 |cons t r=>exact⟨t,r,rfl⟩
theorem F7{u:Option (PM Ex)}(hu:∀v,u=some v->Loc v):Loc (wJ u):=by
 refine Loc.iteT (P:=eG) (f:=λl=>some (Ex.mk 1 [] 0 (hd l).n [])) (λ_ _=>xw) KU (λ_ _ h=>by rw[h.e.n]) ?_
 refine Loc.iteT (P:=Gv) (f:=λl=>some (Ex.mk 2 (hd l).text 0 0 [])) (λ_ _=>Su) SA (λ_ _ h=>by rw[h.e.t]) ?_
 cases u with
 |none=>exact Loc.pure none
 |some u=>
  have hu:=hu u rfl
  refine Loc.iteD (P:=isT dZ) (A:=λl=>bnd (u l) λx l=>(some (ex1 14 x),l)) (λ_ _=>gI) F6 (hu.bnd λx=>Loc.pure _) ?_
  refine Loc.iteD (P:=isT mO) (A:=λl=>bnd (rf u l) λx l=>bnd (aC tN l) λ_ l=>(some x,l)) (λ_ _=>gI) F6 ((DF hu).bnd λx=>(bP tN).bnd λ_=>Loc.pure _) ?_
  refine Loc.of λl=>?_
  cases h:look (hd l).text CY with
  |none=>exact⟨λl=>(none,l),Act.pure none,λm hm=>by rw[<-hm.e.t,h]⟩
  |some f=>
   cases h1:(hd l).kind==1 with
   |false=>exact⟨λl=>(none,l),Act.pure none,λm hm=>by rw[<-hm.e.t,h];show(if(hd m).kind==1 then _ else _)=_;rw[<-hm.e.k,h1];rfl⟩
   |true=>
    obtain⟨t,l1,rfl⟩:=Y3 h1
    exact⟨λl=>mW u f.1 f.2.1.toNat f.2.2 (l.drop 1),((VK hu _ _ _) l1).drop,λm hm=>by rw[<-hm.e.t,h];show(if(hd m).kind==1 then _ else _)=_;rw[<-hm.e.k,h1];rfl⟩
theorem KW:∀k,Loc (Ik k)
 | 0=>F7 λ_ h=>by cases h
 |k+1=>F7 λv h=>by cases h;exact KW k
theorem BC:Loc rq:=(bP Ns).bnd λ_=>Dz.bnd λlo=>(bP wTo).bnd λ_=>Dz.bnd λhi=>Loc.pure _
theorem F8:Loc yU:=mD.bnd λs=>BC.bnd λb=>Loc.pure _
def tr(x:Bool×Pr×List Tk):(Bool×Pr)×List Tk:=((x.1,x.2.1),x.2.2)
def OD(f:IM):Prop:=∀p,Loc (λl=>tr (f p l))
section
variable {α γ : Type} {l r r2 : List Tk} {b : Nat}
theorem dJ.itS{M:Nat->PM α}{p:Pr}{f:Nat->α->List Tk->Bool×Pr×List Tk}{x:α}{o:Bool×Pr}(h:dJ b M l (some x) r)(h2:dJ b (λm l=>tr (f m x l)) r o r2):dJ b (λm l=>tr (itB p (M m l) (f m))) l o r2:=by
 obtain⟨c,rfl,h⟩:=h
 obtain⟨d,rfl,h2⟩:=h2
 refine⟨c++d,(List.append_assoc _ _ _).symm,λm e r' h3 h4 hn=>?_⟩
 obtain⟨c',d',rfl,h5,h6⟩:=h3.app
 show tr (itB p (M m (c'++d'++r')) (f m))=_
 rw[List.append_assoc]at hn ⊢
 rw[h m c' (d'++r') h5 (jy h6 h4) hn]
 exact h2 m d' r' h6 h4 (by rw[List.length_append]at hn;omega)
theorem dJ.itN{M:Nat->PM α}{p:Pr}{f:Nat->α->List Tk->Bool×Pr×List Tk}(h:dJ b M l none r):dJ b (λm l=>tr (itB p (M m l) (f m))) l (false,p) r:=by
 obtain⟨c,rfl,h⟩:=h
 refine⟨c,rfl,λm c' r' h1 h2 hn=>?_⟩
 show tr (itB p (M m (c'++r')) (f m))=_
 rw[h m c' r' h1 h2 hn];rfl
theorem dJ.it{M:Nat->PM α}{p:Pr}{f:Nat->α->List Tk->Bool×Pr×List Tk}(hM:∃o r,dJ b M l o r)(hf:∀x r,r.length<=l.length->∃o r2,dJ b (λm l=>tr (f m x l)) r o r2):∃o r2,dJ b (λm l=>tr (itB p (M m l) (f m))) l o r2:=by
 obtain⟨o,r,h⟩:=hM
 cases o with
 |none=>exact⟨_,_,h.itN⟩
 |some x=>
  obtain⟨o,r2,h2⟩:=hf x r h.le
  exact⟨o,r2,h.itS h2⟩
theorem Y4{β:Type}{M:List Tk->β×List Tk}(h:∀l,∃o r,dJ 0 (λ_=>M) l o r):Loc M:=λl=>by
 obtain⟨o,r,h⟩:=h l
 exact(h.act).self
theorem Loc.it{M:PM α}{p:Pr}{f:α->List Tk->Bool×Pr×List Tk}(hM:Loc M)(hf:∀x,Loc (λl=>tr (f x l))):Loc (λl=>tr (itB p (M l) f)):=
 Y4 λl=>dJ.it (f:=λ_=>f) (hM.g l) λx r _=>(hf x).g r
end
theorem zq(b:Bool)(q:Pr):Loc (λl=>tr (b,q,l)):=Loc.pure (b,q)
theorem SH:OD yV:=λ_=>F8.it λ_=>zq _ _
theorem SI:OD yX:=λ_=>F8.it λ_=>zq _ _
theorem VL:OD Il:=λ_=>mD.it λ_=>rD.it λ_=>BC.it λ_=>zq _ _
theorem SK(n:Nat)(acc:List Int)(l:List Tk):listL (n+1) acc l=if isT aS l then bnd (Gw (l.drop 1)) λv l=>listL n (acc++[v]) l else(some acc,l):=rfl
theorem SL:∀(n:Nat) (l:List Tk) (acc:List Int),l.length<=n->∃o r,dJ 0 (λm=>listL m acc) l o r:=by
 intro n
 induction n with
 |zero=>
  intro l x hn
  have:l = []:=List.length_eq_zero_iff.1 (by omega)
  subst this
  exact⟨some x,[],dJ.succ (N:=λ_ l=>(some x,l)) (Act.pure (some x)).g (λm l' h=>by
   have:l' = []:=by cases l'<;>simp[hdS]at h ⊢
   subst this;rfl) (λ_=>rfl)⟩
 |succ n ih=>
  intro l x hn
  cases h1:isT aS l with
  |true=>
   obtain⟨t,l1,rfl⟩:=mF h1
   obtain⟨o,r2,h⟩:=dJ.bnd (b:=0) (l:=l1) (f:=λm y=>listL m (x++[y])) Dz (λy r hr=>ih r _ (by simp only[List.length_cons]at hn;omega))
   exact⟨o,r2,h.drop.succ (λm l' hl=>by rw[SK,if_pos ((gI hl).symm.trans h1)]) (λh=>by cases h)⟩
  |false=>
   exact⟨some x,l,dJ.succ (N:=λ_ l=>(some x,l)) (Act.pure (some x)).g (λm l' hl=>by rw[SK,if_neg (by rw[<-gI hl,h1];exact Bool.noConfusion)]) (λh=>by subst h;rfl)⟩
theorem VM:Loc Fj:=Dz.bnd λx=>o7 (M:=λm=>listL m [x]) λl=>SL l.length l [x] (Nat.le_refl _)
theorem SN:OD yY:=λ_=>mD.it λ_=>(bP sEq).it λ_=>VM.it λ_=>zq _ _
theorem VN(k:Int):OD (kU k):=λp=>by
 refine Loc.it (M:=λl=>if k != 4 then bnd (jg l) λs l=>bnd (aC sEq l) λ_ l=>(some s,l)else(some [],l)) ?_ λs=>(DF (KW 63)).it λx=>zq _ _
 by_cases h:(k != 4)=true
 ·simp only[h,if_true];exact mD.bnd λs=>(bP sEq).bnd λ_=>Loc.pure _
 ·simp only[h,if_false];exact Loc.pure _
theorem VO{t:List (Str×IM)}(ht:∀e∈t,OD e.2){s:Str}{f:IM}(h:find s t=some f):OD f:=by
 induction t with
 |nil=>cases h
 |cons e r ih=>
  obtain⟨w,g⟩:=e
  simp only[find]at h
  split at h
  ·cases h;exact ht (w,f) (List.mem_cons_self ..)
  ·exact ih (λe he=>ht e (by simp[he])) h
theorem F9:∀e∈decls,OD e.2:=by
 intro e he
 simp only[decls,List.mem_cons,List.not_mem_nil,or_false]at he
 rcases he with rfl |rfl |rfl |rfl
 ·exact SH
 ·exact SI
 ·exact VL
 ·exact SN
theorem Gf:∀e∈stmts,OD e.2:=by
 intro e he
 simp only[stmts,List.mem_cons,List.not_mem_nil,or_false]at he
 rcases he with rfl |rfl |rfl |rfl<;>exact VN _
def seqI(x:Bool×Pr×List Tk)(g:Pr->List Tk->Bool×Pr×List Tk):Bool×Pr×List Tk:=match x with
 |(false,p,l)=>(false,p,l)
 |(true,p,l)=>g p l
def seqP{α:Type}(x:Bool×Pr×List Tk)(g:Pr->PM α):Option α×List Tk:=match x with
 |(false,_,l)=>(none,l)
 |(true,p,l)=>g p l
section
variable {α γ : Type} {l r r2 : List Tk} {b : Nat}
theorem KX{x:Bool×Pr×List Tk}{o:Bool×Pr}{r:List Tk}(h:tr x=(o,r)):x=(o.1,o.2,r):=by
 obtain⟨a,p,l⟩:=x
 simp only[tr,Prod.mk.injEq]at h
 obtain⟨rfl,rfl⟩:=h
 rfl
theorem dJ.seqI{M:Nat->List Tk->Bool×Pr×List Tk}{g:Nat->Pr->List Tk->Bool×Pr×List Tk}(hM:∃o r,dJ b (λm l=>tr (M m l)) l o r)(hg:∀p r,r.length<=l.length->∃o r2,dJ b (λm l=>tr (g m p l)) r o r2):∃o r2,dJ b (λm l=>tr (Sy.seqI (M m l) (g m))) l o r2:=by
 obtain⟨⟨a,p⟩,r,h⟩:=hM
 cases a with
 |false=>
  obtain⟨c,rfl,h⟩:=h
  refine⟨(false,p),r,c,rfl,λm c' r' h1 h2 hn=>?_⟩
  show tr (Sy.seqI (M m (c'++r')) (g m))=_
  rw[KX (h m c' r' h1 h2 hn)];rfl
 |true=>
  obtain⟨o,r2,h2⟩:=hg p r h.le
  obtain⟨c,rfl,h⟩:=h
  obtain⟨d,rfl,h2⟩:=h2
  refine⟨o,r2,c++d,(List.append_assoc _ _ _).symm,λm e r' h3 h4 hn=>?_⟩
  obtain⟨c',d',rfl,h5,h6⟩:=h3.app
  show tr (Sy.seqI (M m (c'++d'++r')) (g m))=_
  rw[List.append_assoc]at hn ⊢
  rw[KX (h m c' (d'++r') h5 (jy h6 h4) hn)]
  exact h2 m d' r' h6 h4 (by rw[List.length_append]at hn;omega)
theorem dJ.seqP{M:Nat->List Tk->Bool×Pr×List Tk}{g:Nat->Pr->PM γ}(hM:∃o r,dJ b (λm l=>tr (M m l)) l o r)(hg:∀p r,r.length<=l.length->∃o r2,dJ b (λm=>g m p) r o r2):∃o r2,dJ b (λm l=>Sy.seqP (M m l) (g m)) l o r2:=by
 obtain⟨⟨a,p⟩,r,h⟩:=hM
 cases a with
 |false=>
  obtain⟨c,rfl,h⟩:=h
  refine⟨none,r,c,rfl,λm c' r' h1 h2 hn=>?_⟩
  show Sy.seqP (M m (c'++r')) (g m)=_
  rw[KX (h m c' r' h1 h2 hn)];rfl
 |true=>
  obtain⟨o,r2,h2⟩:=hg p r h.le
  obtain⟨c,rfl,h⟩:=h
  obtain⟨d,rfl,h2⟩:=h2
  refine⟨o,r2,c++d,(List.append_assoc _ _ _).symm,λm e r' h3 h4 hn=>?_⟩
  obtain⟨c',d',rfl,h5,h6⟩:=h3.app
  show Sy.seqP (M m (c'++d'++r')) (g m)=_
  rw[List.append_assoc]at hn ⊢
  rw[KX (h m c' (d'++r') h5 (jy h6 h4) hn)]
  exact h2 m d' r' h6 h4 (by rw[List.length_append]at hn;omega)
end
theorem xx(t:List (Str×IM))(n:Nat)(p:Pr)(l:List Tk):fF t (n+1) p l=if l.isEmpty then(true,p,l)else match find (hd l).text t with
  |none=>(true,p,l)
  |some f=>if isT (hd l).text l then seqI (f p (l.drop 1)) λp l=>itB p (aC dS l) λ_ l=>fF t n p l else(true,p,l):=rfl
theorem WU{l:List Tk}(h:hdS [] l):l = []:=by cases l<;>simp[hdS]at h ⊢
theorem Om{t:List (Str×IM)}(ht:∀e∈t,OD e.2):∀(n:Nat) (l:List Tk) (p:Pr),l.length<=n->∃o r,dJ 0 (λm l=>tr (fF t m p l)) l o r:=by
 intro n
 have hz:∀p:Pr,∃o r,dJ 0 (λm l=>tr (fF t m p l)) [] o r:=λp=>
  ⟨(true,p),[],dJ.succ (N:=λ_ l=>((true,p),l)) (Act.pure (true,p)).g (λm l' h=>by
    cases WU h
    show tr (fF t (m+1) p [])=_
    rw[xx];rfl) (λ_=>rfl)⟩
 induction n with
 |zero=>
  intro l p hn
  rw[show l = []from List.length_eq_zero_iff.1 (by omega)]
  exact hz p
 |succ n ih=>
  intro l p hn
  cases l with
  |nil=>exact hz p
  |cons t0 l1=>
   have stop:(∀m l',hdS (t0::l1) l'->tr (fF t (m+1) p l')=((true,p),l'))->∃o r,dJ 0 (λm l=>tr (fF t m p l)) (t0::l1) o r:=λh=>
    ⟨(true,p),t0::l1,dJ.succ (N:=λ_ l=>((true,p),l)) (Act.pure (true,p)).g h (λh=>by cases h)⟩
   cases h1:find t0.text t with
   |none=>
    refine stop λm l' hl=>?_
    rw[xx,<-hl.e.t,show(hd (t0::l1)).text=t0.text from rfl,h1]
    split<;>rfl
   |some f=>
    cases h2:isT t0.text (t0::l1)with
    |false=>
     refine stop λm l' hl=>?_
     rw[xx,<-hl.e.t,show(hd (t0::l1)).text=t0.text from rfl,h1]
     show tr (if l'.isEmpty=true then _ else if isT t0.text l'=true then _ else _)=_
     rw[<-gI hl,h2]
     split<;>rfl
    |true=>
     have key:∃o r,dJ 0 (λm l=>tr (seqI (f p l) λp l=>itB p (aC dS l) λ_ l=>fF t m p l)) l1 o r:=by
      refine dJ.seqI (M:=λ_=>f p) (g:=λm p l=>itB p (aC dS l) λ_ l=>fF t m p l) ((VO ht h1 p).g l1) λp1 r1 e1=>?_
      refine dJ.it (M:=λ_=>aC dS) (f:=λm _ l=>fF t m p1 l) ((bP dS).g r1) λ_ r2 e2=>?_
      exact ih r2 p1 (by simp only[List.length_cons]at hn;omega)
     obtain⟨o,r2,h⟩:=key
     refine⟨o,r2,h.drop.succ (λm l' hl=>?_) (λh=>by cases h)⟩
     show tr (fF t (m+1) p l')=_
     rw[xx,<-hl.e.t,show(hd (t0::l1)).text=t0.text from rfl,h1,<-hl.e.e]
     show tr (if isT t0.text l'=true then _ else _)=_
     rw[<-gI hl,h2];rfl
theorem uj{t:List (Str×IM)}(ht:∀e∈t,OD e.2):OD (dD t):=λp=>o7 (M:=λm l=>tr (fF t m p l)) λl=>Om ht l.length l p (Nat.le_refl _)
theorem Y5(l:List Tk):jr l=bnd (aC wProcessor l) λ_ l=>bnd (jg l) λs l=>bnd (aC cO l) λ_ l=>bnd (mV l) λa l=>
 bnd (aC wTail l) λ_ l=>bnd (if eG l then mV l else bnd (aC dR l) λ_ l=>(some (-1),l)) λt l=>bnd (aC sBra l) λ_ l=>
  seqP (dD decls ⟨s,a,t,[],[],[],[],[]⟩ l) λp l=>seqP (dD stmts p l) λp l=>bnd (aC xk l) λ_ l=>(some p,l):=rfl
theorem KY:Loc (λl=>if eG l then mV l else bnd (aC dR l) λ_ l=>(some (-1),l)):=
 Loc.ite (λ_ _=>xw) rD ((bP dR).bnd λ_=>Loc.pure _)
theorem KZ:Loc jr:=by
 have h:Loc (λl=>bnd (aC wProcessor l) λ_ l=>bnd (jg l) λs l=>bnd (aC cO l) λ_ l=>bnd (mV l) λa l=>
  bnd (aC wTail l) λ_ l=>bnd (if eG l then mV l else bnd (aC dR l) λ_ l=>(some (-1),l)) λt l=>bnd (aC sBra l) λ_ l=>
  seqP (dD decls ⟨s,a,t,[],[],[],[],[]⟩ l) λp l=>seqP (dD stmts p l) λp l=>bnd (aC xk l) λ_ l=>(some p,l)):=by
  refine(bP _).bnd λ_=>mD.bnd λs=>(bP _).bnd λ_=>rD.bnd λa=>(bP _).bnd λ_=>KY.bnd λt=>(bP _).bnd λ_=>?_
  refine Y4 λl=>?_
  refine dJ.seqP (M:=λ_ l=>dD decls ⟨s,a,t,[],[],[],[],[]⟩ l) (g:=λ_ p l=>seqP (dD stmts p l) λp l=>bnd (aC xk l) λ_ l=>(some p,l)) ((uj F9 _).g l) λp1 r1 _=>?_
  refine dJ.seqP (M:=λ_ l=>dD stmts p1 l) (g:=λ_ p l=>bnd (aC xk l) λ_ l=>(some p,l)) ((uj Gf _).g r1) λp2 r2 _=>?_
  exact((bP xk).bnd λ_=>Loc.pure _).g r2
 exact h
end Go.Fw.Sy
namespace Go.Fw.Sy
open Go.Fw Go.Fw.Lx
variable [ae]
section
variable {α β γ : Type}
theorem SQ(m:Option α×List Tk)(f:α->PM β)(g:β->PM γ):bnd (bnd m f) g=bnd m λx l=>bnd (f x l) g:=by
 obtain⟨o,l⟩:=m;cases o<;>rfl
theorem Oo(x:Bool×Pr×List Tk)(f:Pr->PM β)(g:β->PM γ):bnd (seqP x f) g=seqP x λp l=>bnd (f p l) g:=by
 obtain⟨b,p,l⟩:=x;cases b<;>rfl
end
def Y6:PM Pr:=λl=>bnd (aC wProcessor l) λ_ l=>bnd (jg l) λs l=>bnd (aC cO l) λ_ l=>bnd (mV l) λa l=>
 bnd (aC wTail l) λ_ l=>bnd (if eG l then mV l else bnd (aC dR l) λ_ l=>(some (-1),l)) λt l=>bnd (aC sBra l) λ_ l=>
  seqP (dD decls ⟨s,a,t,[],[],[],[],[]⟩ l) λp l=>seqP (dD stmts p l) λp l=>(some p,l)
theorem SS(l:List Tk):jr l=bnd (Y6 l) λp l=>bnd (aC xk l) λ_ l=>(some p,l):=by
 rw[Y5];unfold Y6;simp only[SQ,Oo];rfl
theorem SV:Loc Y6:=by
 have h:Loc (λl=>bnd (aC wProcessor l) λ_ l=>bnd (jg l) λs l=>bnd (aC cO l) λ_ l=>bnd (mV l) λa l=>
  bnd (aC wTail l) λ_ l=>bnd (if eG l then mV l else bnd (aC dR l) λ_ l=>(some (-1),l)) λt l=>bnd (aC sBra l) λ_ l=>
  seqP (dD decls ⟨s,a,t,[],[],[],[],[]⟩ l) λp l=>seqP (dD stmts p l) λp l=>(some p,l)):=by
  refine(bP _).bnd λ_=>mD.bnd λs=>(bP _).bnd λ_=>rD.bnd λa=>(bP _).bnd λ_=>KY.bnd λt=>(bP _).bnd λ_=>?_
  refine Y4 λl=>?_
  refine dJ.seqP (M:=λ_ l=>dD decls ⟨s,a,t,[],[],[],[],[]⟩ l) (g:=λ_ p l=>seqP (dD stmts p l) λp l=>(some p,l)) ((uj F9 _).g l) λp1 r1 _=>?_
  refine dJ.seqP (M:=λ_ l=>dD stmts p1 l) (g:=λ_ p l=>(some p,l)) ((uj Gf _).g r1) λp2 r2 _=>?_
  exact(Loc.pure _).g r2
 exact h
theorem SX{l m:List Tk}(h:l ≠ []):hdS l (l++m):=by
 cases l with
 |nil=>exact absurd rfl h
 |cons t r=>rfl
theorem VP{l r:List Tk}{p:Pr}(m:List Tk)(h:jr l=(some p,r)):jr (l++m)=(some p,r++m):=by
 rw[SS]at h
 obtain⟨q,l1,h1,h⟩:=iI h
 obtain⟨_,l2,h2,h⟩:=iI h
 obtain⟨hT,rfl⟩:=lw h2
 cases h
 obtain⟨t,r,rfl⟩:=mF hT
 obtain⟨c,rfl,ha⟩:=SV.act h1
 rw[SS,List.append_assoc,ha c _ rfl (SX (by simp))]
 show bnd (aC xk (t::(r++m))) _=_
 have hT':isT xk (t::(r++m))=true:=hT
 rw[aC,if_pos hT'];rfl
def TB(ps:List Pr)(x:Option (List Pr)×List Tk):Option (List Pr)×List Tk:=(x.1.map (ps ++ ·),x.2)
theorem ou(n:Nat)(ps:List Pr):readF n ps []=(some ps,[]):=by cases n<;>rfl
theorem DI(n:Nat)(ps:List Pr)(t:Tk)(l:List Tk):readF (n+1) ps (t::l)=bnd (jr (t::l)) λp l=>readF n (ps++[p]) l:=rfl
theorem VQ:∀(k n:Nat) (ps:List Pr) (l:List Tk),l.length<=k->l.length<=n->readF n ps l=TB ps (bQ l):=by
 intro k
 induction k with
 |zero=>
  intro n ps l hk _
  have:l = []:=List.length_eq_zero_iff.1 (by omega)
  subst this
  rw[ou,bQ,ou];simp[TB]
 |succ k ih=>
  intro n ps l hk hn
  cases l with
  |nil=>rw[ou,bQ,ou];simp[TB]
  |cons t l=>
   obtain⟨n,rfl⟩:∃m,n=m+1:=⟨n-1,by simp only[List.length_cons]at hn;omega⟩
   rw[DI,bQ,List.length_cons,DI]
   cases e:jr (t::l)with
   |mk o r=>
    cases o with
    |none=>rfl
    |some p=>
     have hr:=vI e
     simp only[List.length_cons]at hr hk hn
     show readF n (ps++[p]) r=TB ps (readF l.length ([]++[p]) r)
     rw[ih _ _ r (by omega) (by omega),ih _ _ r (by omega) (by omega)]
     simp only[TB,Option.map_map,List.nil_append]
     congr 1
     cases (bQ r).1<;>simp
theorem Gg{t:Tk}{l r:List Tk}(h:jr (t::l)=(none,r)):bQ (t::l)=(none,r):=by
 rw[bQ,List.length_cons,DI,h];rfl
theorem vN{t:Tk}{l r:List Tk}{p:Pr}(h:jr (t::l)=(some p,r)):bQ (t::l)=TB [p] (bQ r):=by
 rw[bQ,List.length_cons,DI,h]
 have hr:=vI h
 simp only[List.length_cons]at hr
 exact VQ _ _ _ r (Nat.le_refl _) (by omega)
theorem uk:bQ []=(some [],[]):=rfl
theorem La(m:List Tk):∀(n:Nat) (l:List Tk) (x:List Pr) (r:List Tk),l.length<=n->bQ l=(some x,r)->bQ (l++m)=TB x (bQ m):=by
 intro n
 induction n with
 |zero=>
  intro l x r hn h
  have:l = []:=List.length_eq_zero_iff.1 (by omega)
  subst this
  rw[uk]at h;cases h
  simp[TB]
 |succ n ih=>
  intro l x r hn h
  cases l with
  |nil=>rw[uk]at h;cases h;simp[TB]
  |cons t l=>
   cases e:jr (t::l)with
   |mk o r1=>
    cases o with
    |none=>rw[Gg e]at h;cases h
    |some p=>
     rw[vN e]at h
     have e2:=VP m e
     rw[List.cons_append]at e2 ⊢
     rw[vN e2]
     cases e3:bQ r1 with
     |mk o2 r2=>
      rw[e3]at h
      cases o2 with
      |none=>cases h
      |some y=>
       have hr:=vI e
       simp only[List.length_cons]at hr hn
       rw[ih r1 y r2 (by omega) e3]
       cases h
       simp only[TB,Option.map_map]
       congr 1
theorem dJ.bnd1{α γ:Type}{l r r2:List Tk}{M:PM α}{f:Nat->α->PM γ}{x:α}{o:Option γ}(h:Act M l (some x) r)(hr:r.length<l.length)(h2:dJ 0 (λm=>f m x) r o r2):dJ 1 (λm l=>Sy.bnd (M l) (f m)) l o r2:=by
 obtain⟨c,rfl,h⟩:=h
 obtain⟨d,rfl,h2⟩:=h2
 refine⟨c++d,(List.append_assoc _ _ _).symm,λm e r' h3 h4 hn=>?_⟩
 obtain⟨c',d',rfl,h5,h6⟩:=h3.app
 show Sy.bnd (M (c'++d'++r')) (f m)=_
 rw[List.append_assoc]at hn ⊢
 rw[h c' (d'++r') h5 (jy h6 h4)]
 have:=h5.len
 exact h2 m d' r' h6 h4 (by simp only[List.length_append]at hn hr ⊢;omega)
theorem VR:∀(n:Nat) (l:List Tk) (ps:List Pr),l.length<=n->∃o r,dJ 0 (λm=>readF m ps) l o r:=by
 intro n
 have hz:∀ps:List Pr,∃o r,dJ 0 (λm=>readF m ps) [] o r:=λps=>
  ⟨some ps,[],[],rfl,λm c' r' h1 h2 _=>by rw[h1.nil,WU h2];exact ou m ps⟩
 induction n with
 |zero=>intro l ps hn;rw[show l = []from List.length_eq_zero_iff.1 (by omega)];exact hz ps
 |succ n ih=>
  intro l ps hn
  cases l with
  |nil=>exact hz ps
  |cons t l=>
   have hs:∀m l',hdS (t::l) l'->readF (m+1) ps l'=bnd (jr l') λp l=>readF m (ps++[p]) l:=λm l' h=>by
    cases l' with
    |nil=>simp[hdS]at h
    |cons t' l'=>rfl
   cases e:jr (t::l)with
   |mk o r=>
    cases o with
    |none=>exact⟨none,r,dJ.succ (N:=λm l=>bnd (jr l) λp l=>readF m (ps++[p]) l) (dJ.bndN (M:=λ_=>jr) (KZ.act e).g) hs (λh=>by cases h)⟩
    |some p=>
     have hr:=vI e
     obtain⟨o,r2,h⟩:=ih r (ps++[p]) (by simp only[List.length_cons]at hr hn;omega)
     exact⟨o,r2,(dJ.bnd1 (f:=λm p l=>readF m (ps++[p]) l) (KZ.act e) hr h).succ hs (λh=>by cases h)⟩
theorem ul:Loc bQ:=o7 (M:=λm=>readF m []) λl=>VR l.length l [] (Nat.le_refl _)
theorem Lc{l m:List Tk}(h:Sim l m):(bQ m).1=(bQ l).1/\Sim (bQ l).2 (bQ m).2:=by
 obtain⟨c,hc,ha⟩:=ul l
 rw[hc]at h
 obtain⟨c',r',rfl,h1,h2⟩:=h.app
 have:=ha c' r' h1 (by simpa using jy h2 (hdS.rfl' []))
 rw[this]
 exact⟨rfl,h2⟩
theorem I4{l m r:List Tk}{x:List Pr}{i:Nat}(h:(bQ l).1=some x)(hi:l.take i=m.take i)(hm:bQ m=(none,r)):m.length-r.length>=i:=by
 obtain⟨c,hc,ha⟩:=ul.act hm
 subst hc
 rw[List.length_append,Nat.add_sub_cancel]
 rcases Nat.lt_or_ge c.length i with hlt |hge
 ·exfalso
  have h1:l.take c.length=c:=by
   have:=congrArg (List.take c.length) hi
   rw[List.take_take,List.take_take,Nat.min_eq_left (by omega)]at this
   rw[this,List.take_left]
  have h2:hdS r (l.drop c.length):=by
   have h3:(l.take i).drop c.length=((c++r).take i).drop c.length:=congrArg (List.drop c.length) hi
   rw[List.drop_take,List.drop_take,List.drop_left]at h3
   have h4:i-c.length=(i-c.length-1)+1:=by omega
   have h5:((l.drop c.length).take (i-c.length)).head? = (r.take (i-c.length)).head?:=by rw[h3]
   rw[h4,List.head?_take,List.head?_take]at h5
   simp only[Nat.add_eq_zero_iff,Nat.one_ne_zero,and_false,if_false]at h5
   unfold hdS;rw[h5]
  have:=ha c (l.drop c.length) rfl h2
  have e:l=c++l.drop c.length:=by conv=>{ lhs;rw[<-List.take_append_drop c.length l,h1] }
  rw[<-e]at this
  rw[this]at h;cases h
 ·exact hge
theorem Ld{f:Tk->Tk}(hf:∀t,st (f t)=st t)(l:List Tk):bQ (l.map f)=((bQ l).1,(bQ l).2.map f):=by
 have hs:∀c:List Tk,Sim c (c.map f):=λc=>by
  unfold Sim;rw[List.map_map];exact List.map_congr_left λt _=>(hf t).symm
 obtain⟨c,hc,ha⟩:=ul l
 have:=ha (c.map f) ((bQ l).2.map f) (hs c) (by simpa using jy (hs (bQ l).2) (hdS.rfl' []))
 rw[<-List.map_append,<-hc]at this
 exact this
inductive z5i(s:Str):Prop where
 |long (h:decide ((s.length:Int)>65536)=true) (e:gY s = .tuple [.sl 8 [],.i 0,.i 2])
 |lex (i:Nat) (h:decide ((s.length:Int)>65536)=false) (hl:eX pStep s 0 = .error i) (e:gY s = .tuple [.sl 8 [],.i (i:Nat),.i 30])
 |bad (l r:List Tk) (h:decide ((s.length:Int)>65536)=false) (hl:eX pStep s 0 = .ok l) (hr:bQ l=(none,r)) (e:gY s = .tuple [.sl 8 [],.i (at' (s.length:Int) r),.i 140])
 |ok (l r:List Tk) (x:List Pr) (h:decide ((s.length:Int)>65536)=false) (hl:eX pStep s 0 = .ok l) (hr:bQ l=(some x,r)) (e:gY s = .tuple [prs x,.i 0,.i 0])
variable {l r : List Tk} {s : Str}
theorem Gh{i:Nat}(h:decide ((s.length:Int)>65536)=false)(hl:eX pStep s 0 = .error i):gY s = .tuple [.sl 8 [],.i (i:Nat),.i 30]:=by
 unfold gY;rw[h,hl];rfl
theorem um(h:decide ((s.length:Int)>65536)=false)(hl:eX pStep s 0 = .ok l)(hr:bQ l=(none,r)):gY s = .tuple [.sl 8 [],.i (at' (s.length:Int) r),.i 140]:=by
 unfold gY;rw[h,hl];show readD _ (bQ l)=_;rw[hr];rfl
theorem pg{x:List Pr}(h:decide ((s.length:Int)>65536)=false)(hl:eX pStep s 0 = .ok l)(hr:bQ l=(some x,r)):gY s = .tuple [prs x,.i 0,.i 0]:=by
 unfold gY;rw[h,hl];show readD _ (bQ l)=_;rw[hr];rfl
theorem z2c(s:Str):z5i s:=by
 cases h:decide ((s.length:Int)>65536)with
 |true=>exact .long h (by unfold gY;rw[h];rfl)
 |false=>
  cases hl:eX pStep s 0 with
  |error i=>exact .lex i h hl (Gh h hl)
  |ok l=>
   cases hr:bQ l with
   |mk o r=>
    cases o with
    |none=>exact .bad l r h hl hr (um h hl hr)
    |some x=>exact .ok l r x h hl hr (pg h hl hr)
theorem I5(s:Str):∃r j f,gY s = .tuple [prs r,.i j,.i f]:=by
 cases z2c s with
 |long h e=>exact⟨[],_,_,e⟩
 |lex i h hl e=>exact⟨[],_,_,e⟩
 |bad l r h hl hr e=>exact⟨[],_,_,e⟩
 |ok l r x h hl hr e=>exact⟨x,_,_,e⟩
theorem Lh{o:Option (List Pr)}(hl:eX pStep s 0 = .ok l)(hr:bQ l=(o,r)):0<=at' (s.length:Int) r/\at' (s.length:Int) r<=s.length:=by
 obtain⟨c,hc,-⟩:=ul.act hr
 cases r with
 |nil=>simp only[at'];omega
 |cons t r=>
  have:=z0d hl t (by rw[hc];simp)
  simp only[at'];omega
theorem VS{a b:Str}{r:List Tk}:at' ((a++[10]++b).length:Int) (r.map (moved (a.length+1)))=at' (b.length:Int) r+((a.length+1:Nat):Int):=by
 cases r with
 |nil=>simp only[at',List.map_nil,List.length_append,List.length_cons,List.length_nil];omega
 |cons t r=>rfl
theorem WV{a:Str}{j k:Int}{n:Nat}(ha:a.length<=1048576)(hn:n<=1048576)(h0:0<=j)(h1:j<=n)(hk:k=j+((a.length+1:Nat):Int)):(k==IntKind.i64.wrap (IntKind.i64.wrap (j+(a.length:Int))+1))=true:=by
 rw[iR (n:=j+(a.length:Int)) (by omega) (by omega),iR (by omega) (by omega),hk]
 simp only[beq_iff_eq];omega
theorem Lj{x:List Pr}(h:bQ l=(some x,r)):x.length<=l.length:=by
 have:∀(n:Nat) (l r:List Tk) (x:List Pr),l.length<=n->bQ l=(some x,r)->x.length<=l.length:=by
  intro n
  induction n with
  |zero=>
   intro l r x hn h
   have:l = []:=List.length_eq_zero_iff.1 (by omega)
   subst this
   rw[uk]at h;cases h;simp
  |succ n ih=>
   intro l r x hn h
   cases l with
   |nil=>rw[uk]at h;cases h;simp
   |cons t l=>
    cases e:jr (t::l)with
    |mk o r1=>
     cases o with
     |none=>rw[Gg e]at h;cases h
     |some p=>
      rw[vN e]at h
      cases e3:bQ r1 with
      |mk o2 r2=>
       rw[e3]at h
       cases o2 with
       |none=>cases h
       |some y=>
        have hr:=vI e
        simp only[List.length_cons]at hr hn
        have:=ih r1 r2 y (by omega) e3
        cases h
        simp only[List.length_append,List.length_cons,List.length_nil];omega
 exact this _ l r x (Nat.le_refl _) h
end Go.Fw.Sy
