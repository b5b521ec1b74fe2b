/- Package syntax: a parser looks at the tokens it takes, and at the one ahead; places do not matter. -/
import Derived.Test.YtmfehangcmbidaaGreatDoorZDS
set_option linter.unusedSectionVars false
set_option linter.unusedSimpArgs false
set_option linter.unusedVariables false
namespace Go.Fw.Sy
open Go.Fw Go.Fw.Lx
def st(t:Tk):Tk:=⟨t.kind,t.text,t.n,0⟩
def Sim(l m:List Tk):Prop:=l.map st=m.map st
def hdS(l m:List Tk):Prop:=l.head?.map st=m.head?.map st
theorem Sim.nil{c:List Tk}(h:Sim [] c):c = []:=by cases c<;>simp[Sim]at h ⊢
theorem Sim.cons{t:Tk}{c e:List Tk}(h:Sim (t::c) e):∃t' d,e=t'::d/\st t=st t'/\Sim c d:=by
 cases e with
 |nil=>simp[Sim]at h
 |cons t' d=>simp only[Sim,List.map_cons,List.cons.injEq]at h;exact⟨t',d,rfl,h.1,h.2⟩
theorem Sim.app{c d e:List Tk}(h:Sim (c++d) e):∃c' d',e=c'++d'/\Sim c c'/\Sim d d':=by
 have h:e.map st=c.map st++d.map st:=by rw[<-List.map_append];exact h.symm
 obtain⟨c',d',rfl,h1,h2⟩:=List.map_eq_append_iff.1 h
 exact⟨c',d',rfl,h1.symm,h2.symm⟩
theorem Sim.len{c d:List Tk}(h:Sim c d):c.length=d.length:=by simpa[Sim]using congrArg List.length h
theorem hdS.rfl'(c:List Tk):hdS c c:=rfl
theorem lg{d d' r r':List Tk}(h:Sim d d')(hr:hdS r r'):hdS (d++r) (d'++r'):=by
 cases d with
 |nil=>rw[h.nil];exact hr
 |cons t c=>obtain⟨t',e,rfl,h1,_⟩:=h.cons;simpa[hdS]using h1
structure HdE(l m:List Tk):Prop where
 e:l.isEmpty=m.isEmpty
 k:(hd l).kind=(hd m).kind
 t:(hd l).text=(hd m).text
 n:(hd l).n=(hd m).n
theorem hdS.e{l m:List Tk}(h:hdS l m):HdE l m:=by
 cases l with
 |nil=>cases m with
  |nil=>exact⟨rfl,rfl,rfl,rfl⟩
  |cons t r=>simp[hdS]at h
 |cons t r=>cases m with
  |nil=>simp[hdS]at h
  |cons u v=>
   simp only[hdS,List.head?_cons,Option.map_some,Option.some.injEq,st,Tk.mk.injEq]at h
   exact⟨rfl,h.1,h.2.1,h.2.2.1⟩
theorem iw{s:Str}{l m:List Tk}(h:hdS l m):isT s l=isT s m:=by simp only[isT,h.e.e,h.e.k,h.e.t]
theorem TY{l m:List Tk}(h:hdS l m):IQ l=IQ m:=by simp only[IQ,h.e.e,h.e.k,h.e.t]
theorem yR{l m:List Tk}(h:hdS l m):fZ l=fZ m:=by simp only[fZ,h.e.e,h.e.k,h.e.n]
def Act{β:Type}(M:List Tk->β×List Tk)(l:List Tk)(o:β)(r:List Tk):Prop:=∃c,l=c++r/\∀c' r',Sim c c'->hdS r r'->M (c'++r')=(o,r')
def Loc{β:Type}(M:List Tk->β×List Tk):Prop:=∀l,Act M l (M l).1 (M l).2
section
variable {α β γ : Type} {l r r2 : List Tk}
theorem Act.run{M:List Tk->β×List Tk}{o:β}(h:Act M l o r):M l=(o,r):=by
 obtain⟨c,rfl,h⟩:=h;exact h c r rfl rfl
theorem Act.self{M:List Tk->β×List Tk}{o:β}(h:Act M l o r):Act M l (M l).1 (M l).2:=by rw[h.run];exact h
theorem Loc.act{M:List Tk->β×List Tk}{o:β}(h:Loc M)(e:M l=(o,r)):Act M l o r:=by have:=h l;rw[e]at this;exact this
theorem Loc.of{M:List Tk->β×List Tk}(h:∀l,∃N:List Tk->β×List Tk,Act N l (N l).1 (N l).2/\∀m,hdS l m->M m=N m):Loc M:=by
 intro l
 obtain⟨N,⟨c,hc,hN⟩,hM⟩:=h l
 have e:=hM l rfl
 rw[e]
 refine⟨c,hc,λc' r' h1 h2=>?_⟩
 rw[hM _ (by have:=lg h1 h2;rw[<-hc]at this;exact this)]
 exact hN c' r' h1 h2
theorem Act.drop{A:List Tk->β×List Tk}{t:Tk}{o:β}(h:Act A l o r):Act (λl=>A (l.drop 1)) (t::l) o r:=by
 obtain⟨c,rfl,h⟩:=h
 refine⟨t::c,rfl,λc' r' h1 h2=>?_⟩
 obtain⟨t',d,rfl,_,h3⟩:=h1.cons
 exact h d r' h3 h2
theorem Act.pure(o:β):Act (λl=>(o,l)) l o l:=⟨[],rfl,λc' r' h1 _=>by rw[h1.nil];rfl⟩
theorem Loc.pure(o:β):Loc (λl=>(o,l)):=λ_=>Act.pure o
theorem Act.tok(f:List Tk->β)(hf:∀l m,hdS l m->f l=f m){t:Tk}:Act (λl=>(f l,l.drop 1)) (t::l) (f (t::l)) l:=
 ⟨[t],rfl,λc' r' h1 _=>by
  obtain⟨t',d,rfl,h2,h3⟩:=h1.cons
  cases h3.nil
  rw[hf (t::l) ([t']++r') (by simpa[hdS]using h2)];rfl⟩
theorem Act.bndS{M:PM α}{f:α->PM γ}{x:α}{o:Option γ}(h:Act M l (some x) r)(h2:Act (f x) r o r2):Act (λl=>bnd (M l) f) l o r2:=by
 obtain⟨c,rfl,h⟩:=h
 obtain⟨d,rfl,h2⟩:=h2
 refine⟨c++d,(List.append_assoc _ _ _).symm,λe r' h3 h4=>?_⟩
 obtain⟨c',d',rfl,h5,h6⟩:=h3.app
 show bnd (M (c'++d'++r')) f=_
 rw[List.append_assoc,h c' (d'++r') h5 (lg h6 h4)]
 exact h2 d' r' h6 h4
theorem Act.bndN{M:PM α}{f:α->PM γ}(h:Act M l none r):Act (λl=>bnd (M l) f) l none r:=by
 obtain⟨c,rfl,h⟩:=h
 refine⟨c,rfl,λc' r' h1 h2=>?_⟩
 show bnd (M (c'++r')) f=_
 rw[h c' r' h1 h2];rfl
theorem Loc.bnd{M:PM α}{f:α->PM γ}(hM:Loc M)(hf:∀x,Loc (f x)):Loc (λl=>bnd (M l) f):=by
 intro l
 cases e:M l with
 |mk o r=>
  cases o with
  |none=>exact(hM.act e).bndN.self
  |some x=>exact((hM.act e).bndS ((hf x).act (l:=r) rfl)).self
theorem Loc.ite{P:List Tk->Bool}{A B:List Tk->β×List Tk}(hP:∀l m,hdS l m->P l=P m)(hA:Loc A)(hB:Loc B):Loc (λl=>if P l then A l else B l):=by
 refine Loc.of λl=>?_
 cases h:P l with
 |true=>exact⟨A,hA l,λm hm=>if_pos ((hP l m hm).symm.trans h)⟩
 |false=>exact⟨B,hB l,λm hm=>if_neg (by rw[<-hP l m hm,h];exact Bool.noConfusion)⟩
theorem Loc.iteD{P:List Tk->Bool}{A B:List Tk->β×List Tk}(hP:∀l m,hdS l m->P l=P m)(hne:∀l,P l=true->l.isEmpty=false)(hA:Loc A)(hB:Loc B):Loc (λl=>if P l then A (l.drop 1)else B l):=by
 refine Loc.of λl=>?_
 cases h:P l with
 |true=>
  refine⟨λl=>A (l.drop 1),?_,λm hm=>if_pos ((hP l m hm).symm.trans h)⟩
  cases l with
  |nil=>exact absurd (hne [] h) (by simp)
  |cons t l=>exact(hA l).drop
 |false=>exact⟨B,hB l,λm hm=>if_neg (by rw[<-hP l m hm,h];exact Bool.noConfusion)⟩
theorem Loc.iteT{P:List Tk->Bool}{f:List Tk->β}{B:List Tk->β×List Tk}(hP:∀l m,hdS l m->P l=P m)(hne:∀l,P l=true->l.isEmpty=false)(hf:∀l m,hdS l m->f l=f m)(hB:Loc B):Loc (λl=>if P l then(f l,l.drop 1)else B l):=by
 refine Loc.of λl=>?_
 cases h:P l with
 |true=>
  refine⟨λl=>(f l,l.drop 1),?_,λm hm=>if_pos ((hP l m hm).symm.trans h)⟩
  cases l with
  |nil=>exact absurd (hne [] h) (by simp)
  |cons t l=>exact Act.tok f hf
 |false=>exact⟨B,hB l,λm hm=>if_neg (by rw[<-hP l m hm,h];exact Bool.noConfusion)⟩
end
theorem Hu{s:Str}(l:List Tk)(h:isT s l=true):l.isEmpty=false:=by cases l<;>simp[isT]at h ⊢
theorem TZ(l:List Tk)(h:IQ l=true):l.isEmpty=false:=by cases l<;>simp[IQ]at h ⊢
theorem Nc(l:List Tk)(h:fZ l=true):l.isEmpty=false:=by cases l<;>simp[fZ]at h ⊢
theorem dH(s:Str):Loc (aN s):=Loc.iteT (P:=isT s) (f:=λ_=>some ()) (λ_ _=>iw) Hu (λ_ _ _=>rfl) (Loc.pure none)
theorem qG:Loc kU:=Loc.iteT (P:=IQ) (f:=λl=>some (hd l).text) (λ_ _=>TY) TZ (λ_ _ h=>by rw[h.e.t]) (Loc.pure none)
theorem xx:Loc tK:=Loc.iteT (P:=fZ) (f:=λl=>some (hd l).n) (λ_ _=>yR) Nc (λ_ _ h=>by rw[h.e.n]) (Loc.pure none)
theorem EJ:Loc IR:=Loc.iteD (P:=isT fA) (A:=λl=>bnd (tK l) λn r=>(some (IntKind.i64.wrap (0-n)),r)) (B:=tK) (λ_ _=>iw) Hu (xx.bnd λ_=>Loc.pure _) xx
def dS{β:Type}(b:Nat)(M:Nat->List Tk->β×List Tk)(l:List Tk)(o:β)(r:List Tk):Prop:=
 ∃c,l=c++r/\∀m c' r',Sim c c'->hdS r r'->(c'++r').length<=m+b->M m (c'++r')=(o,r')
theorem hdS.nil{r:List Tk}(h:hdS r []):r = []:=by cases r<;>simp[hdS]at h ⊢
theorem Sim.nil'{c:List Tk}(h:Sim c []):c = []:=by cases c<;>simp[Sim]at h ⊢
section
variable {α β γ : Type} {l r r2 : List Tk} {b : Nat}
theorem Act.g{M:List Tk->β×List Tk}{o:β}(h:Act M l o r):dS b (λ_=>M) l o r:=by
 obtain⟨c,e,h⟩:=h;exact⟨c,e,λ_ c' r' h1 h2 _=>h c' r' h1 h2⟩
theorem dS.act{M:Nat->List Tk->β×List Tk}{o:β}(h:dS 0 M l o r):Act (λl=>M l.length l) l o r:=by
 obtain⟨c,e,h⟩:=h;exact⟨c,e,λc' r' h1 h2=>h _ c' r' h1 h2 (Nat.le_refl _)⟩
theorem dS.le{M:Nat->List Tk->β×List Tk}{o:β}(h:dS b M l o r):r.length<=l.length:=by
 obtain⟨c,rfl,_⟩:=h;simp
theorem Act.le{M:List Tk->β×List Tk}{o:β}(h:Act M l o r):r.length<=l.length:=by
 obtain⟨c,rfl,_⟩:=h;simp
theorem dS.drop{A:Nat->List Tk->β×List Tk}{t:Tk}{o:β}(h:dS b A l o r):dS (b+1) (λm l=>A m (l.drop 1)) (t::l) o r:=by
 obtain⟨c,rfl,h⟩:=h
 refine⟨t::c,rfl,λm c' r' h1 h2 hn=>?_⟩
 obtain⟨t',d,rfl,_,h3⟩:=h1.cons
 exact h m d r' h3 h2 (by simp only[List.cons_append,List.length_cons]at hn;omega)
theorem dS.bndS{M:Nat->PM α}{f:Nat->α->PM γ}{x:α}{o:Option γ}(h:dS b M l (some x) r)(h2:dS b (λm=>f m x) r o r2):dS b (λm l=>bnd (M m l) (f m)) l o r2:=by
 obtain⟨c,rfl,h⟩:=h
 obtain⟨d,rfl,h2⟩:=h2
 refine⟨c++d,(List.append_assoc _ _ _).symm,λm e r' h3 h4 hn=>?_⟩
 obtain⟨c',d',rfl,h5,h6⟩:=h3.app
 show bnd (M m (c'++d'++r')) (f m)=_
 rw[List.append_assoc]at hn ⊢
 rw[h m c' (d'++r') h5 (lg h6 h4) hn]
 exact h2 m d' r' h6 h4 (by rw[List.length_append]at hn;omega)
theorem dS.bndN{M:Nat->PM α}{f:Nat->α->PM γ}(h:dS b M l none r):dS b (λm l=>bnd (M m l) (f m)) l none r:=by
 obtain⟨c,rfl,h⟩:=h
 refine⟨c,rfl,λm c' r' h1 h2 hn=>?_⟩
 show bnd (M m (c'++r')) (f m)=_
 rw[h m c' r' h1 h2 hn];rfl
theorem dS.succ{M N:Nat->List Tk->β×List Tk}{o:β}(h:dS 1 N l o r)(hM:∀m l',hdS l l'->M (m+1) l'=N m l')(h0:l = []->M 0 []=(o,[])):dS 0 M l o r:=by
 obtain⟨c,rfl,h⟩:=h
 refine⟨c,rfl,λm c' r' h1 h2 hn=>?_⟩
 cases m with
 |zero=>
  have:(c'++r') = []:=List.length_eq_zero_iff.1 (by omega)
  obtain⟨rfl,rfl⟩:=List.append_eq_nil_iff.1 this
  rw[h1.nil']at h0
  rw[h2.nil]at h0
  exact h0 rfl
 |succ m=>rw[hM m _ (lg h1 h2)];exact h m c' r' h1 h2 (by omega)
theorem dS.bnd{M:PM α}{f:Nat->α->PM γ}(hM:Loc M)(hf:∀x r,r.length<=l.length->∃o r2,dS b (λm=>f m x) r o r2):∃o r2,dS b (λm l=>bnd (M l) (f m)) l o r2:=by
 cases e:M l with
 |mk o r=>
  cases o with
  |none=>exact⟨_,_,((hM.act e).g).bndN⟩
  |some x=>
   obtain⟨o,r2,h⟩:=hf x r (hM.act e).le
   exact⟨o,r2,dS.bndS (M:=λ_=>M) (hM.act e).g h⟩
end
theorem qH{s:Str}{l:List Tk}(h:isT s l=true):∃t r,l=t::r:=by
 cases l with
 |nil=>exact absurd (Hu [] h) (by simp)
 |cons t r=>exact⟨t,r,rfl⟩
theorem Ua{l m:List Tk}(h:hdS l m):(fZ l&&(hd l).n==0)=(fZ m&&(hd m).n==0):=by rw[yR h,h.e.n]
def divM(k:Int->PM Ex):PM Ex:=λl=>if fZ l&&(hd l).n==0 then(none,l)else bnd (tK l) k
theorem JQ(u:PM Ex)(n:Nat)(x:Ex)(l:List Tk):prodL u (n+1) x l=if isT mO l then bnd (u (l.drop 1)) λy=>prodL u n (ex2 17 x y)
  else if isT kT l then divM (λk=>prodL u n (.mk 18 [] 0 k [x])) (l.drop 1)else(some x,l):=rfl
theorem Ub(u:PM Ex)(n:Nat)(x:Ex)(l:List Tk):sumL u (n+1) x l=if isT oG l then bnd (lC u (l.drop 1)) λy=>sumL u n (ex2 15 x y)
  else if isT fA l then bnd (lC u (l.drop 1)) λy=>sumL u n (ex2 16 x y)else(some x,l):=rfl
theorem Uc{u:PM Ex}(hu:Loc u):∀(n:Nat) (l:List Tk) (x:Ex),l.length<=n->∃o r,dS 0 (λm=>prodL u m x) l o r:=by
 intro n
 induction n with
 |zero=>
  intro l x hn
  have:l = []:=List.length_eq_zero_iff.1 (by omega)
  subst this
  exact⟨some x,[],dS.succ (N:=λ_ l=>(some x,l)) (Act.pure (some x)).g (λm l' h=>by
   have:l' = []:=by cases l'<;>simp[hdS]at h ⊢
   subst this;rfl) (λ_=>rfl)⟩
 |succ n ih=>
  intro l x hn
  cases h1:isT mO l with
  |true=>
   obtain⟨t,l1,rfl⟩:=qH h1
   obtain⟨o,r2,h⟩:=dS.bnd (b:=0) (l:=l1) (f:=λm y=>prodL u m (ex2 17 x y)) hu (λy r hr=>ih r _ (by simp only[List.length_cons]at hn;omega))
   exact⟨o,r2,h.drop.succ (λm l' hl=>by rw[JQ,if_pos ((iw hl).symm.trans h1)]) (λh=>by cases h)⟩
  |false=>
   cases h2:isT kT l with
   |true=>
    obtain⟨t,l1,rfl⟩:=qH h2
    have key:∃o r2,dS 0 (λm l=>divM (λk=>prodL u m (.mk 18 [] 0 k [x])) l) l1 o r2:=by
     cases h3:fZ l1&&(hd l1).n==0 with
     |true=>
      refine⟨none,l1,[],rfl,λm c' r' h4 h5 _=>?_⟩
      rw[h4.nil]
      show divM _ r'=_
      rw[divM,if_pos ((Ua h5).symm.trans h3)]
     |false=>
      obtain⟨o,r2,h⟩:=dS.bnd (b:=0) (l:=l1) (f:=λm k=>prodL u m (.mk 18 [] 0 k [x])) xx (λy r hr=>ih r _ (by simp only[List.length_cons]at hn;omega))
      obtain⟨c,rfl,h⟩:=h
      refine⟨o,r2,c,rfl,λm c' r' h4 h5 h6=>?_⟩
      show divM _ (c'++r')=_
      rw[divM,if_neg (by rw[<-Ua (lg h4 h5),h3];exact Bool.noConfusion)]
      exact h m c' r' h4 h5 h6
    obtain⟨o,r2,h⟩:=key
    exact⟨o,r2,h.drop.succ (λm l' hl=>by rw[JQ,if_neg (by rw[<-iw hl,h1];exact Bool.noConfusion),if_pos ((iw hl).symm.trans h2)]) (λh=>by cases h)⟩
   |false=>
    exact⟨some x,l,dS.succ (N:=λ_ l=>(some x,l)) (Act.pure (some x)).g (λm l' hl=>by rw[JQ,if_neg (by rw[<-iw hl,h1];exact Bool.noConfusion),if_neg (by rw[<-iw hl,h2];exact Bool.noConfusion)]) (λh=>by subst h;rfl)⟩
theorem qI{β:Type}{M:Nat->List Tk->β×List Tk}(h:∀l,∃o r,dS 0 M l o r):Loc (λl=>M l.length l):=λl=>by
 obtain⟨o,r,h⟩:=h l
 exact h.act.self
theorem EK{u:PM Ex}(hu:Loc u):Loc (lC u):=hu.bnd λx=>qI λl=>Uc hu l.length l x (Nat.le_refl _)
theorem WS{u:PM Ex}(hu:Loc u):∀(n:Nat) (l:List Tk) (x:Ex),l.length<=n->∃o r,dS 0 (λm=>sumL u m x) l o r:=by
 intro n
 induction n with
 |zero=>
  intro l x hn
  have:l = []:=List.length_eq_zero_iff.1 (by omega)
  subst this
  exact⟨some x,[],dS.succ (N:=λ_ l=>(some x,l)) (Act.pure (some x)).g (λm l' h=>by
   have:l' = []:=by cases l'<;>simp[hdS]at h ⊢
   subst this;rfl) (λ_=>rfl)⟩
 |succ n ih=>
  intro l x hn
  cases h1:isT oG l with
  |true=>
   obtain⟨t,l1,rfl⟩:=qH h1
   obtain⟨o,r2,h⟩:=dS.bnd (b:=0) (l:=l1) (f:=λm y=>sumL u m (ex2 15 x y)) (EK hu) (λy r hr=>ih r _ (by simp only[List.length_cons]at hn;omega))
   exact⟨o,r2,h.drop.succ (λm l' hl=>by rw[Ub,if_pos ((iw hl).symm.trans h1)]) (λh=>by cases h)⟩
  |false=>
   cases h2:isT fA l with
   |true=>
    obtain⟨t,l1,rfl⟩:=qH h2
    obtain⟨o,r2,h⟩:=dS.bnd (b:=0) (l:=l1) (f:=λm y=>sumL u m (ex2 16 x y)) (EK hu) (λy r hr=>ih r _ (by simp only[List.length_cons]at hn;omega))
    exact⟨o,r2,h.drop.succ (λm l' hl=>by rw[Ub,if_neg (by rw[<-iw hl,h1];exact Bool.noConfusion),if_pos ((iw hl).symm.trans h2)]) (λh=>by cases h)⟩
   |false=>
    exact⟨some x,l,dS.succ (N:=λ_ l=>(some x,l)) (Act.pure (some x)).g (λm l' hl=>by rw[Ub,if_neg (by rw[<-iw hl,h1];exact Bool.noConfusion),if_neg (by rw[<-iw hl,h2];exact Bool.noConfusion)]) (λh=>by subst h;rfl)⟩
theorem EL{u:PM Ex}(hu:Loc u):Loc (sumM u):=(EK hu).bnd λx=>qI λl=>WS hu l.length l x (Nat.le_refl _)
section
variable {α β γ : Type} {l r r2 : List Tk} {b : Nat}
theorem dS.bnd'{M:Nat->PM α}{f:Nat->α->PM γ}(hM:∃o r,dS b M l o r)(hf:∀x r,r.length<=l.length->∃o r2,dS b (λm=>f m x) r o r2):∃o r2,dS b (λm l=>Sy.bnd (M m l) (f m)) l o r2:=by
 obtain⟨o,r,h⟩:=hM
 cases o with
 |none=>exact⟨_,_,h.bndN⟩
 |some x=>
  obtain⟨o,r2,h2⟩:=hf x r h.le
  exact⟨o,r2,h.bndS h2⟩
theorem Loc.g{M:List Tk->β×List Tk}(h:Loc M)(l:List Tk):∃o r,dS b (λ_=>M) l o r:=⟨_,_,(h l).g⟩
end
theorem JR(u:PM Ex)(n:Nat)(l:List Tk):exprF u (n+1) l=if isT wIf l then
   bnd (sumM u (l.drop 1)) λa l=>bnd (aN sLt l) λ_ l=>bnd (sumM u l) λb l=>bnd (aN lq l) λ_ l=>
    bnd (exprF u n l) λc l=>bnd (aN lu l) λ_ l=>bnd (exprF u n l) λd l=>(some (.mk 19 [] 0 0 [a,b,c,d]),l)
  else sumM u l:=rfl
theorem Ud{u:PM Ex}(hu:Loc u):∀(n:Nat) (l:List Tk),l.length<=n->∃o r,dS 0 (λm=>exprF u (m+1)) l o r:=by
 intro n
 induction n with
 |zero=>
  intro l hn
  have:l = []:=List.length_eq_zero_iff.1 (by omega)
  subst this
  obtain⟨o,r,h⟩:=(EL hu).g (b:=1) []
  have hr:=h.le
  have:r = []:=List.length_eq_zero_iff.1 (by simpa using hr)
  subst this
  refine⟨o,[],h.succ (λm l' hl=>?_) (λ_=>?_)⟩
  ·rw[JR,if_neg (by rw[<-iw hl];exact Bool.noConfusion)]
  ·obtain⟨c,hc,h⟩:=h
   rw[show c = []by simpa using hc.symm]at h
   exact h 0 [] [] rfl rfl (Nat.zero_le _)
 |succ n ih=>
  intro l hn
  cases h1:isT wIf l with
  |false=>
   obtain⟨o,r,c,hc,h⟩:=(EL hu).g (b:=0) l
   refine⟨o,r,c,hc,λm c' r' h2 h3 h4=>?_⟩
   show exprF u (m+1) (c'++r')=_
   rw[JR,if_neg (by rw[<-iw (show hdS l (c'++r')by rw[hc];exact lg h2 h3),h1];exact Bool.noConfusion)]
   exact h m c' r' h2 h3 h4
  |true=>
   obtain⟨t,l1,rfl⟩:=qH h1
   have key:∃o r,dS 0 (λm l=>bnd (sumM u l) λa l=>bnd (aN sLt l) λ_ l=>bnd (sumM u l) λb l=>bnd (aN lq l) λ_ l=>
    bnd (exprF u (m+1) l) λc l=>bnd (aN lu l) λ_ l=>bnd (exprF u (m+1) l) λd l=>((some (Ex.mk 19 [] 0 0 [a,b,c,d]):Option Ex),l)) l1 o r:=by
    have hl:l1.length<=n:=by simp only[List.length_cons]at hn;omega
    refine dS.bnd' ((EL hu).g l1) λa r1 e1=>?_
    refine dS.bnd' ((dH sLt).g r1) λ_ r2 e2=>?_
    refine dS.bnd' ((EL hu).g r2) λb r3 e3=>?_
    refine dS.bnd' ((dH lq).g r3) λ_ r4 e4=>?_
    refine dS.bnd' (ih r4 (by omega)) λc r5 e5=>?_
    refine dS.bnd' ((dH lu).g r5) λ_ r6 e6=>?_
    refine dS.bnd' (ih r6 (by omega)) λd r7 e7=>?_
    exact⟨_,_,(Act.pure _).g⟩
   obtain⟨o,r2,h⟩:=key
   exact⟨o,r2,h.drop.succ (λm l' hl=>by rw[JR,if_pos ((iw hl).symm.trans h1)]) (λh=>by cases h)⟩
theorem EM{u:PM Ex}(hu:Loc u):Loc (tN u):=qI (M:=λm=>exprF u (m+1)) λl=>Ud hu l.length l (Nat.le_refl _)
theorem WT{u:PM Ex}(hu:Loc u):∀(n i:Nat) (acc:List Ex),Loc (O3 u n i acc):=by
 intro n
 induction n with
 |zero=>exact λi acc=>Loc.pure _
 |succ n ih=>
  intro i acc
  refine Loc.bnd (M:=λl=>if 0<i then aN aU l else(some (),l)) ?_ λ_=>(EM hu).bnd λx=>ih _ _
  by_cases h:0<i
  ·simp only[h,if_true];exact dH _
  ·simp only[h,if_false];exact Loc.pure _
theorem WU{u:PM Ex}(hu:Loc u)(k:Int)(n:Nat)(nm:Bool):Loc (oH u k n nm):=by
 refine(dH nN).bnd λ_=>Loc.bnd (M:=λl=>if nm then bnd (kU l) λs l=>bnd (aN aU l) λ_ l=>(some s,l)else(some [],l)) ?_ λs=>(WT hu n 0 []).bnd λxs=>(dH uj).bnd λ_=>Loc.pure _
 cases nm with
 |true=>exact qG.bnd λs=>(dH aU).bnd λ_=>Loc.pure _
 |false=>exact Loc.pure _
theorem z0v{l:List Tk}(h:((hd l).kind==1)=true):∃t r,l=t::r:=by
 cases l with
 |nil=>exact Bool.noConfusion (show false=true from h)
 |cons t r=>exact⟨t,r,rfl⟩
theorem Hw{u:Option (PM Ex)}(hu:∀v,u=some v->Loc v):Loc (yt u):=by
 refine Loc.iteT (P:=fZ) (f:=λl=>some (Ex.mk 1 [] 0 (hd l).n [])) (λ_ _=>yR) Nc (λ_ _ h=>by rw[h.e.n]) ?_
 refine Loc.iteT (P:=IQ) (f:=λl=>some (Ex.mk 2 (hd l).text 0 0 [])) (λ_ _=>TY) TZ (λ_ _ h=>by rw[h.e.t]) ?_
 cases u with
 |none=>exact Loc.pure none
 |some u=>
  have hu:=hu u rfl
  refine Loc.iteD (P:=isT fA) (A:=λl=>bnd (u l) λx l=>(some (ex1 14 x),l)) (λ_ _=>iw) Hu (hu.bnd λx=>Loc.pure _) ?_
  refine Loc.iteD (P:=isT nN) (A:=λl=>bnd (tN u l) λx l=>bnd (aN uj l) λ_ l=>(some x,l)) (λ_ _=>iw) Hu ((EM hu).bnd λx=>(dH uj).bnd λ_=>Loc.pure _) ?_
  refine Loc.of λl=>?_
  cases h:look (hd l).text Dc with
  |none=>exact⟨λl=>(none,l),Act.pure none,λm hm=>by rw[<-hm.e.t,h]⟩
  |some f=>
   cases h1:(hd l).kind==1 with
   |false=>exact⟨λl=>(none,l),Act.pure none,λm hm=>by rw[<-hm.e.t,h];show(if(hd m).kind==1 then _ else _)=_;rw[<-hm.e.k,h1];rfl⟩
   |true=>
    obtain⟨t,l1,rfl⟩:=z0v h1
    exact⟨λl=>oH u f.1 f.2.1.toNat f.2.2 (l.drop 1),((WU hu _ _ _) l1).drop,λm hm=>by rw[<-hm.e.t,h];show(if(hd m).kind==1 then _ else _)=_;rw[<-hm.e.k,h1];rfl⟩
theorem Nh:∀k,Loc (JG k)
 | 0=>Hw λ_ h=>by cases h
 |k+1=>Hw λv h=>by cases h;exact Nh k
theorem Dl:Loc tV:=(dH O1).bnd λ_=>EJ.bnd λlo=>(dH wTo).bnd λ_=>EJ.bnd λhi=>Loc.pure _
theorem Hy:Loc Ad:=qG.bnd λs=>Dl.bnd λb=>Loc.pure _
def tr(x:Bool×Pr×List Tk):(Bool×Pr)×List Tk:=((x.1,x.2.1),x.2.2)
def Qm(f:IM):Prop:=∀p,Loc (λl=>tr (f p l))
section
variable {α γ : Type} {l r r2 : List Tk} {b : Nat}
theorem dS.itS{M:Nat->PM α}{p:Pr}{f:Nat->α->List Tk->Bool×Pr×List Tk}{x:α}{o:Bool×Pr}(h:dS b M l (some x) r)(h2:dS b (λm l=>tr (f m x l)) r o r2):dS b (λm l=>tr (itB p (M m l) (f m))) l o r2:=by
 obtain⟨c,rfl,h⟩:=h
 obtain⟨d,rfl,h2⟩:=h2
 refine⟨c++d,(List.append_assoc _ _ _).symm,λm e r' h3 h4 hn=>?_⟩
 obtain⟨c',d',rfl,h5,h6⟩:=h3.app
 show tr (itB p (M m (c'++d'++r')) (f m))=_
 rw[List.append_assoc]at hn ⊢
 rw[h m c' (d'++r') h5 (lg h6 h4) hn]
 exact h2 m d' r' h6 h4 (by rw[List.length_append]at hn;omega)
theorem dS.itN{M:Nat->PM α}{p:Pr}{f:Nat->α->List Tk->Bool×Pr×List Tk}(h:dS b M l none r):dS b (λm l=>tr (itB p (M m l) (f m))) l (false,p) r:=by
 obtain⟨c,rfl,h⟩:=h
 refine⟨c,rfl,λm c' r' h1 h2 hn=>?_⟩
 show tr (itB p (M m (c'++r')) (f m))=_
 rw[h m c' r' h1 h2 hn];rfl
theorem dS.it{M:Nat->PM α}{p:Pr}{f:Nat->α->List Tk->Bool×Pr×List Tk}(hM:∃o r,dS b M l o r)(hf:∀x r,r.length<=l.length->∃o r2,dS b (λm l=>tr (f m x l)) r o r2):∃o r2,dS b (λm l=>tr (itB p (M m l) (f m))) l o r2:=by
 obtain⟨o,r,h⟩:=hM
 cases o with
 |none=>exact⟨_,_,h.itN⟩
 |some x=>
  obtain⟨o,r2,h2⟩:=hf x r h.le
  exact⟨o,r2,h.itS h2⟩
theorem z5l{β:Type}{M:List Tk->β×List Tk}(h:∀l,∃o r,dS 0 (λ_=>M) l o r):Loc M:=λl=>by
 obtain⟨o,r,h⟩:=h l
 exact(h.act).self
theorem Loc.it{M:PM α}{p:Pr}{f:α->List Tk->Bool×Pr×List Tk}(hM:Loc M)(hf:∀x,Loc (λl=>tr (f x l))):Loc (λl=>tr (itB p (M l) f)):=
 z5l λl=>dS.it (f:=λ_=>f) (hM.g l) λx r _=>(hf x).g r
end
theorem Az(b:Bool)(q:Pr):Loc (λl=>tr (b,q,l)):=Loc.pure (b,q)
theorem Ue:Qm Ae:=λ_=>Hy.it λ_=>Az _ _
theorem Uf:Qm Af:=λ_=>Hy.it λ_=>Az _ _
theorem WV:Qm JH:=λ_=>qG.it λ_=>xx.it λ_=>Dl.it λ_=>Az _ _
theorem Ug(n:Nat)(acc:List Int)(l:List Tk):listL (n+1) acc l=if isT aU l then bnd (IR (l.drop 1)) λv l=>listL n (acc++[v]) l else(some acc,l):=rfl
theorem Uh:∀(n:Nat) (l:List Tk) (acc:List Int),l.length<=n->∃o r,dS 0 (λm=>listL m acc) l o r:=by
 intro n
 induction n with
 |zero=>
  intro l x hn
  have:l = []:=List.length_eq_zero_iff.1 (by omega)
  subst this
  exact⟨some x,[],dS.succ (N:=λ_ l=>(some x,l)) (Act.pure (some x)).g (λm l' h=>by
   have:l' = []:=by cases l'<;>simp[hdS]at h ⊢
   subst this;rfl) (λ_=>rfl)⟩
 |succ n ih=>
  intro l x hn
  cases h1:isT aU l with
  |true=>
   obtain⟨t,l1,rfl⟩:=qH h1
   obtain⟨o,r2,h⟩:=dS.bnd (b:=0) (l:=l1) (f:=λm y=>listL m (x++[y])) EJ (λy r hr=>ih r _ (by simp only[List.length_cons]at hn;omega))
   exact⟨o,r2,h.drop.succ (λm l' hl=>by rw[Ug,if_pos ((iw hl).symm.trans h1)]) (λh=>by cases h)⟩
  |false=>
   exact⟨some x,l,dS.succ (N:=λ_ l=>(some x,l)) (Act.pure (some x)).g (λm l' hl=>by rw[Ug,if_neg (by rw[<-iw hl,h1];exact Bool.noConfusion)]) (λh=>by subst h;rfl)⟩
theorem WW:Loc G7:=EJ.bnd λx=>qI (M:=λm=>listL m [x]) λl=>Uh l.length l [x] (Nat.le_refl _)
theorem Ui:Qm Ag:=λ_=>qG.it λ_=>(dH sEq).it λ_=>WW.it λ_=>Az _ _
theorem WX(k:Int):Qm (mf k):=λp=>by
 refine Loc.it (M:=λl=>if k != 4 then bnd (kU l) λs l=>bnd (aN sEq l) λ_ l=>(some s,l)else(some [],l)) ?_ λs=>(EM (Nh 63)).it λx=>Az _ _
 by_cases h:(k != 4)=true
 ·simp only[h,if_true];exact qG.bnd λs=>(dH sEq).bnd λ_=>Loc.pure _
 ·simp only[h,if_false];exact Loc.pure _
theorem WY{t:List (Str×IM)}(ht:∀e∈t,Qm e.2){s:Str}{f:IM}(h:find s t=some f):Qm f:=by
 induction t with
 |nil=>cases h
 |cons e r ih=>
  obtain⟨w,g⟩:=e
  simp only[find]at h
  split at h
  ·cases h;exact ht (w,f) (List.mem_cons_self ..)
  ·exact ih (λe he=>ht e (by simp[he])) h
theorem Uj:∀e∈decls,Qm e.2:=by
 intro e he
 simp only[decls,List.mem_cons,List.not_mem_nil,or_false]at he
 rcases he with rfl |rfl |rfl |rfl
 ·exact Ue
 ·exact Uf
 ·exact WV
 ·exact Ui
theorem Uk:∀e∈stmts,Qm e.2:=by
 intro e he
 simp only[stmts,List.mem_cons,List.not_mem_nil,or_false]at he
 rcases he with rfl |rfl |rfl |rfl<;>exact WX _
def seqI(x:Bool×Pr×List Tk)(g:Pr->List Tk->Bool×Pr×List Tk):Bool×Pr×List Tk:=match x with
 |(false,p,l)=>(false,p,l)
 |(true,p,l)=>g p l
def seqP{α:Type}(x:Bool×Pr×List Tk)(g:Pr->PM α):Option α×List Tk:=match x with
 |(false,_,l)=>(none,l)
 |(true,p,l)=>g p l
section
variable {α γ : Type} {l r r2 : List Tk} {b : Nat}
theorem Nj{x:Bool×Pr×List Tk}{o:Bool×Pr}{r:List Tk}(h:tr x=(o,r)):x=(o.1,o.2,r):=by
 obtain⟨a,p,l⟩:=x
 simp only[tr,Prod.mk.injEq]at h
 obtain⟨rfl,rfl⟩:=h
 rfl
theorem dS.seqI{M:Nat->List Tk->Bool×Pr×List Tk}{g:Nat->Pr->List Tk->Bool×Pr×List Tk}(hM:∃o r,dS b (λm l=>tr (M m l)) l o r)(hg:∀p r,r.length<=l.length->∃o r2,dS b (λm l=>tr (g m p l)) r o r2):∃o r2,dS b (λm l=>tr (Sy.seqI (M m l) (g m))) l o r2:=by
 obtain⟨⟨a,p⟩,r,h⟩:=hM
 cases a with
 |false=>
  obtain⟨c,rfl,h⟩:=h
  refine⟨(false,p),r,c,rfl,λm c' r' h1 h2 hn=>?_⟩
  show tr (Sy.seqI (M m (c'++r')) (g m))=_
  rw[Nj (h m c' r' h1 h2 hn)];rfl
 |true=>
  obtain⟨o,r2,h2⟩:=hg p r h.le
  obtain⟨c,rfl,h⟩:=h
  obtain⟨d,rfl,h2⟩:=h2
  refine⟨o,r2,c++d,(List.append_assoc _ _ _).symm,λm e r' h3 h4 hn=>?_⟩
  obtain⟨c',d',rfl,h5,h6⟩:=h3.app
  show tr (Sy.seqI (M m (c'++d'++r')) (g m))=_
  rw[List.append_assoc]at hn ⊢
  rw[Nj (h m c' (d'++r') h5 (lg h6 h4) hn)]
  exact h2 m d' r' h6 h4 (by rw[List.length_append]at hn;omega)
theorem dS.seqP{M:Nat->List Tk->Bool×Pr×List Tk}{g:Nat->Pr->PM γ}(hM:∃o r,dS b (λm l=>tr (M m l)) l o r)(hg:∀p r,r.length<=l.length->∃o r2,dS b (λm=>g m p) r o r2):∃o r2,dS b (λm l=>Sy.seqP (M m l) (g m)) l o r2:=by
 obtain⟨⟨a,p⟩,r,h⟩:=hM
 cases a with
 |false=>
  obtain⟨c,rfl,h⟩:=h
  refine⟨none,r,c,rfl,λm c' r' h1 h2 hn=>?_⟩
  show Sy.seqP (M m (c'++r')) (g m)=_
  rw[Nj (h m c' r' h1 h2 hn)];rfl
 |true=>
  obtain⟨o,r2,h2⟩:=hg p r h.le
  obtain⟨c,rfl,h⟩:=h
  obtain⟨d,rfl,h2⟩:=h2
  refine⟨o,r2,c++d,(List.append_assoc _ _ _).symm,λm e r' h3 h4 hn=>?_⟩
  obtain⟨c',d',rfl,h5,h6⟩:=h3.app
  show Sy.seqP (M m (c'++d'++r')) (g m)=_
  rw[List.append_assoc]at hn ⊢
  rw[Nj (h m c' (d'++r') h5 (lg h6 h4) hn)]
  exact h2 m d' r' h6 h4 (by rw[List.length_append]at hn;omega)
end
theorem yS(t:List (Str×IM))(n:Nat)(p:Pr)(l:List Tk):fV t (n+1) p l=if l.isEmpty then(true,p,l)else match find (hd l).text t with
  |none=>(true,p,l)
  |some f=>if isT (hd l).text l then seqI (f p (l.drop 1)) λp l=>itB p (aN eu l) λ_ l=>fV t n p l else(true,p,l):=rfl
theorem Yl{l:List Tk}(h:hdS [] l):l = []:=by cases l<;>simp[hdS]at h ⊢
theorem O9{t:List (Str×IM)}(ht:∀e∈t,Qm e.2):∀(n:Nat) (l:List Tk) (p:Pr),l.length<=n->∃o r,dS 0 (λm l=>tr (fV t m p l)) l o r:=by
 intro n
 have hz:∀p:Pr,∃o r,dS 0 (λm l=>tr (fV t m p l)) [] o r:=λp=>
  ⟨(true,p),[],dS.succ (N:=λ_ l=>((true,p),l)) (Act.pure (true,p)).g (λm l' h=>by
    cases Yl h
    show tr (fV t (m+1) p [])=_
    rw[yS];rfl) (λ_=>rfl)⟩
 induction n with
 |zero=>
  intro l p hn
  rw[show l = []from List.length_eq_zero_iff.1 (by omega)]
  exact hz p
 |succ n ih=>
  intro l p hn
  cases l with
  |nil=>exact hz p
  |cons t0 l1=>
   have stop:(∀m l',hdS (t0::l1) l'->tr (fV t (m+1) p l')=((true,p),l'))->∃o r,dS 0 (λm l=>tr (fV t m p l)) (t0::l1) o r:=λh=>
    ⟨(true,p),t0::l1,dS.succ (N:=λ_ l=>((true,p),l)) (Act.pure (true,p)).g h (λh=>by cases h)⟩
   cases h1:find t0.text t with
   |none=>
    refine stop λm l' hl=>?_
    rw[yS,<-hl.e.t,show(hd (t0::l1)).text=t0.text from rfl,h1]
    split<;>rfl
   |some f=>
    cases h2:isT t0.text (t0::l1)with
    |false=>
     refine stop λm l' hl=>?_
     rw[yS,<-hl.e.t,show(hd (t0::l1)).text=t0.text from rfl,h1]
     show tr (if l'.isEmpty=true then _ else if isT t0.text l'=true then _ else _)=_
     rw[<-iw hl,h2]
     split<;>rfl
    |true=>
     have key:∃o r,dS 0 (λm l=>tr (seqI (f p l) λp l=>itB p (aN eu l) λ_ l=>fV t m p l)) l1 o r:=by
      refine dS.seqI (M:=λ_=>f p) (g:=λm p l=>itB p (aN eu l) λ_ l=>fV t m p l) ((WY ht h1 p).g l1) λp1 r1 e1=>?_
      refine dS.it (M:=λ_=>aN eu) (f:=λm _ l=>fV t m p1 l) ((dH eu).g r1) λ_ r2 e2=>?_
      exact ih r2 p1 (by simp only[List.length_cons]at hn;omega)
     obtain⟨o,r2,h⟩:=key
     refine⟨o,r2,h.drop.succ (λm l' hl=>?_) (λh=>by cases h)⟩
     show tr (fV t (m+1) p l')=_
     rw[yS,<-hl.e.t,show(hd (t0::l1)).text=t0.text from rfl,h1,<-hl.e.e]
     show tr (if isT t0.text l'=true then _ else _)=_
     rw[<-iw hl,h2];rfl
theorem Hz{t:List (Str×IM)}(ht:∀e∈t,Qm e.2):Qm (gy t):=λp=>qI (M:=λm l=>tr (fV t m p l)) λl=>O9 ht l.length l p (Nat.le_refl _)
theorem WZ:Loc (λl=>if fZ l then tK l else bnd (aN fC l) λ_ l=>(some (-1),l)):=
 Loc.ite (λ_ _=>yR) xx ((dH fC).bnd λ_=>Loc.pure _)
theorem Nk:Loc kV:=by
 have h:Loc (λl=>bnd (aN wProcessor l) λ_ l=>bnd (kU l) λs l=>bnd (aN dP l) λ_ l=>bnd (tK l) λa l=>
  bnd (aN wTail l) λ_ l=>bnd (if fZ l then tK l else bnd (aN fC l) λ_ l=>(some (-1),l)) λt l=>bnd (aN sBra l) λ_ l=>
  seqP (gy decls ⟨s,a,t,[],[],[],[],[]⟩ l) λp l=>seqP (gy stmts p l) λp l=>bnd (aN C9 l) λ_ l=>(some p,l)):=by
  refine(dH _).bnd λ_=>qG.bnd λs=>(dH _).bnd λ_=>xx.bnd λa=>(dH _).bnd λ_=>WZ.bnd λt=>(dH _).bnd λ_=>?_
  refine z5l λl=>?_
  refine dS.seqP (M:=λ_ l=>gy decls ⟨s,a,t,[],[],[],[],[]⟩ l) (g:=λ_ p l=>seqP (gy stmts p l) λp l=>bnd (aN C9 l) λ_ l=>(some p,l)) ((Hz Uj _).g l) λp1 r1 _=>?_
  refine dS.seqP (M:=λ_ l=>gy stmts p1 l) (g:=λ_ p l=>bnd (aN C9 l) λ_ l=>(some p,l)) ((Hz Uk _).g r1) λp2 r2 _=>?_
  exact((dH C9).bnd λ_=>Loc.pure _).g r2
 exact h
end Go.Fw.Sy
namespace Go.Fw.Sy
open Go.Fw Go.Fw.Lx
variable [ae]
section
variable {α β γ : Type}
end
theorem Ul(n:Nat)(ps:List Pr):vg n ps []=(some ps,[]):=by cases n<;>rfl
theorem dS.bnd1{α γ:Type}{l r r2:List Tk}{M:PM α}{f:Nat->α->PM γ}{x:α}{o:Option γ}(h:Act M l (some x) r)(hr:r.length<l.length)(h2:dS 0 (λm=>f m x) r o r2):dS 1 (λm l=>Sy.bnd (M l) (f m)) l o r2:=by
 obtain⟨c,rfl,h⟩:=h
 obtain⟨d,rfl,h2⟩:=h2
 refine⟨c++d,(List.append_assoc _ _ _).symm,λm e r' h3 h4 hn=>?_⟩
 obtain⟨c',d',rfl,h5,h6⟩:=h3.app
 show Sy.bnd (M (c'++d'++r')) (f m)=_
 rw[List.append_assoc]at hn ⊢
 rw[h c' (d'++r') h5 (lg h6 h4)]
 have:=h5.len
 exact h2 m d' r' h6 h4 (by simp only[List.length_append]at hn hr ⊢;omega)
theorem W9:∀(n:Nat) (l:List Tk) (ps:List Pr),l.length<=n->∃o r,dS 0 (λm=>vg m ps) l o r:=by
 intro n
 have hz:∀ps:List Pr,∃o r,dS 0 (λm=>vg m ps) [] o r:=λps=>
  ⟨some ps,[],[],rfl,λm c' r' h1 h2 _=>by rw[h1.nil,Yl h2];exact Ul m ps⟩
 induction n with
 |zero=>intro l ps hn;rw[show l = []from List.length_eq_zero_iff.1 (by omega)];exact hz ps
 |succ n ih=>
  intro l ps hn
  cases l with
  |nil=>exact hz ps
  |cons t l=>
   have hs:∀m l',hdS (t::l) l'->vg (m+1) ps l'=bnd (kV l') λp l=>vg m (ps++[p]) l:=λm l' h=>by
    cases l' with
    |nil=>simp[hdS]at h
    |cons t' l'=>rfl
   cases e:kV (t::l)with
   |mk o r=>
    cases o with
    |none=>exact⟨none,r,dS.succ (N:=λm l=>bnd (kV l) λp l=>vg m (ps++[p]) l) (dS.bndN (M:=λ_=>kV) (Nk.act e).g) hs (λh=>by cases h)⟩
    |some p=>
     have hr:=TM e
     obtain⟨o,r2,h⟩:=ih r (ps++[p]) (by simp only[List.length_cons]at hr hn;omega)
     exact⟨o,r2,(dS.bnd1 (f:=λm p l=>vg m (ps++[p]) l) (Nk.act e) hr h).succ hs (λh=>by cases h)⟩
theorem Xa:Loc jV:=qI (M:=λm=>vg m []) λl=>W9 l.length l [] (Nat.le_refl _)
theorem Xb{l m:List Tk}(h:Sim l m):(jV m).1=(jV l).1/\Sim (jV l).2 (jV m).2:=by
 obtain⟨c,hc,ha⟩:=Xa l
 rw[hc]at h
 obtain⟨c',r',rfl,h1,h2⟩:=h.app
 have:=ha c' r' h1 (by simpa using lg h2 (hdS.rfl' []))
 rw[this]
 exact⟨rfl,h2⟩
theorem Pg{s:Str}{l r:List Tk}{x:List Pr}(h:decide ((s.length:Int)>65536)=false)(hl:jl pStep s 0 = .ok l)(hr:jV l=(some x,r)):xX s = .tuple [prs x,.i 0,.i 0]:=by
 unfold xX;rw[h,hl];show readD _ (jV l)=_;rw[hr];rfl
end Go.Fw.Sy
