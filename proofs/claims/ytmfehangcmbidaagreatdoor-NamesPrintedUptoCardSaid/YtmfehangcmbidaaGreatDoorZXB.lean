/- Contracts: package syntax: units. -/
import Derived.Test.YtmfehangcmbidaaGreatDoorZXA
set_option linter.unusedSectionVars false
set_option linter.unusedSimpArgs false
set_option linter.unusedVariables false
set_option maxHeartbeats 400000
namespace Go.Proofs.YtmfehangcmbidaaGreatDoor
open Go.Fw Go.Fw.Lx Go.Fw.Sy
set_option maxRecDepth 10000
variable [ae]
theorem qK(l:List Tk)(e d:Int)(p:Option D)(thr:Bool)(hp:thr=true\/p=none):lK Tryz.prog 182 [.ptr 1000000 0] p thr [(1000000,.cells [.ptr 1000001 0]),(1000001,pB l e d)] [(1000000,.cells [.ptr 1000001 0]),(1000001,pB l e (IntKind.i64.wrap (d-1)))]:=by
 refine Gs tok hmix Tryz.func182 rfl (by kernel_rfl) (by kernel_rfl) (by kernel_rfl) hp ?_
 repeat' ((try(conv=>whnf))<;>first
  |exact trivial
  |(refine⟨([]:List (Nat×Nat)),?_⟩)
  |(refine⟨by kernel_rfl,?_⟩)
  |(refine⟨rfl,?_⟩)
  |(refine⟨?_,?_⟩)
  |fail)
theorem BH   : ax Tryz.prog 143 [] [] (.ret (.map 1000000)) [(1000000,.map false [.str] (Dc.map U8))]:=by
 refine bg Tryz.func143 ?_
 repeat' ((try(conv=>whnf))<;>first
  |exact trivial
  |((refine aC ?_);refine fin_step' [(1000000,1)] rfl ?_ ?_)
  |(refine And.intro ?_ ?_)
  |exact @rfl AV _
  |exact @rfl Block _
  |fail)
 all_goals first
  |(rfl)
  |skip
theorem UO(e d:Int)(l:List Tk)(o:Option (Ex))(l':List Tk)(hd0:0<=d)(hd1:d<=63)(hdp:d=63)(hM:yt none l=(o,l')):ax Tryz.prog 181 [.ptr 1000000 0] [(1000000,pB l e d)] (jZ 119 Ex.d e o l') [(1000000,pB l' e d)]:=by
 refine bg Tryz.func181 ?_
 repeat' ((try(conv=>whnf))<;>first
  |((refine nU ?_ ?_);exact rfl)
  |((refine mP ?_ ?_);exact rfl)
  |((refine BD (λs l=>iD s l e (IntKind.i64.wrap (d+1))) ?_);refine⟨_,_,_,rfl,rfl,rfl,λhT _=>?_,λhT=>?_⟩)
  |((refine Hf (λl=>jO l e d) ?_);refine⟨_,_,rfl,rfl,rfl,?_⟩)
  |((refine Hf (λl=>jO l e (IntKind.i64.wrap (d+1))) ?_);refine⟨_,_,rfl,rfl,rfl,?_⟩)
  |((refine TC (d:=(IntKind.i64.wrap (d+1))) fZ (λl=>(hd l).n) TA (λl=>iM l e (IntKind.i64.wrap (d+1))) ?_);refine⟨_,_,rfl,rfl,rfl,λ_=>?_,λhN=>absurd (h.symm.trans hN) Bool.noConfusion⟩)
  |((refine TC (d:=(IntKind.i64.wrap (d+1))) IQ (λl=>(hd l).text) TB (λl=>jP l e (IntKind.i64.wrap (d+1))) ?_);refine⟨_,_,rfl,rfl,rfl,λ_=>?_,λhN=>absurd (h.symm.trans hN) Bool.noConfusion⟩)
  |(exact absurd h (ZO hdp))
  |((refine JL ?_);(try simp only[Bool.not_true,Bool.not_false,cond_true,cond_false,bne,Bool.not_eq_true',Bool.not_eq_false']at *);(simp only[yt,bnd,aN,reduceIte,Bool.false_eq_true, *]at hM);(obtain⟨rfl,rfl⟩:=fE hM);refine⟨_,_,_,[(1000000,1),(1000001,1000000)],qK _ _ _ none false (.inr rfl),rfl,⟨rfl,rfl,trivial⟩,rfl,?_⟩;(conv=>whnf);refine fin_step' [(1000000,1000000)] rfl ?_ ?_)
  |((refine bi ?_);(have hE:=ML hM h);(obtain⟨rfl,rfl⟩:=hE);refine aT ?_;refine fin_step' [(1000000,1000000)] rfl ?_ ?_)
  |((refine MM ?_);(try simp only[Bool.not_true,Bool.not_false,cond_true,cond_false,bne,Bool.not_eq_true',Bool.not_eq_false']at *);(simp only[yt,bnd,aN,reduceIte,Bool.false_eq_true, *]at hM);(obtain⟨rfl,rfl⟩:=fE hM);(refine IK.pan rfl rfl ?_);refine⟨_,_,_,[(1000000,1),(1000001,1000000)],qK _ _ _ _ true (.inl rfl),rfl,⟨rfl,rfl,trivial⟩,rfl,?_⟩;(refine fJ ?_);refine fin_step' [(1000000,1000000)] rfl ?_ ?_)
  |exact trivial
  |refine BrI.intro (λh=>?_) (λh=>?_)
  |((refine ed ?_ ?_);exact rfl)
  |((refine dZ ?_ ?_ ?_);rotate_left;(first |exact jh _ _ _ |exact uf _ _ _))
  |(refine And.intro ?_ ?_)
  |fail)
 all_goals first
  |(rfl)
  |((exact congrArg D.i (Hg hd0 hd1)))
  |skip
theorem UQ(u:PM Ex)(e d:Int)(l:List Tk)(o:Option (Ex))(l':List Tk)(hd0:0<=d)(hd1:d<=63)(hdp:d<63)(hu:(∀l o l',u l=(o,l')->ax Tryz.prog 181 [.ptr 1000000 0] [(1000000,pB l e (IntKind.i64.wrap (d+1)))] (jZ 119 Ex.d e o l') [(1000000,pB l' e (IntKind.i64.wrap (d+1)))]))(hE:(∀l o l',(tN u) l=(o,l')->ax Tryz.prog 161 [.ptr 1000000 0] [(1000000,pB l e (IntKind.i64.wrap (d+1)))] (jZ 119 Ex.d e o l') [(1000000,pB l' e (IntKind.i64.wrap (d+1)))]))(hA:∀(k n:Int) (b:Bool),0<=n->n<=2->(∀l o l',oH u k n.toNat b l=(o,l')->ax Tryz.prog 183 [.ptr 1000000 0,.data (.i k),.data (.i n),.data (.b b)] [(1000000,pB l e (IntKind.i64.wrap (d+1)))] (jZ 119 Ex.d e o l') [(1000000,pB l' e (IntKind.i64.wrap (d+1)))]))(hM:yt (some u) l=(o,l')):ax Tryz.prog 181 [.ptr 1000000 0] [(1000000,pB l e d)] (jZ 119 Ex.d e o l') [(1000000,pB l' e d)]:=by
 refine bg Tryz.func181 ?_
 repeat' ((try(conv=>whnf))<;>first
  |((refine nU ?_ ?_);exact rfl)
  |((refine mP ?_ ?_);exact rfl)
  |((refine BD (λs l=>iD s l e (IntKind.i64.wrap (d+1))) ?_);refine⟨_,_,_,rfl,rfl,rfl,λhT _=>?_,λhT=>?_⟩)
  |((refine BF (λs l=>iE s l e (IntKind.i64.wrap (d+1))) ?_);refine⟨_,_,_,_,rfl,rfl,rfl,rfl,rfl,λhW _=>?_,λhW=>?_⟩)
  |((refine Hf (λl=>jO l e d) ?_);refine⟨_,_,rfl,rfl,rfl,?_⟩)
  |((refine Hf (λl=>jO l e (IntKind.i64.wrap (d+1))) ?_);refine⟨_,_,rfl,rfl,rfl,?_⟩)
  |((refine TC (d:=(IntKind.i64.wrap (d+1))) fZ (λl=>(hd l).n) TA (λl=>iM l e (IntKind.i64.wrap (d+1))) ?_);refine⟨_,_,rfl,rfl,rfl,λ_=>?_,λhN=>absurd (h.symm.trans hN) Bool.noConfusion⟩)
  |((refine TC (d:=(IntKind.i64.wrap (d+1))) IQ (λl=>(hd l).text) TB (λl=>jP l e (IntKind.i64.wrap (d+1))) ?_);refine⟨_,_,rfl,rfl,rfl,λ_=>?_,λhN=>absurd (h.symm.trans hN) Bool.noConfusion⟩)
  |((refine kG (d:=(IntKind.i64.wrap (d+1))) [] (λl=>hu l) ?_);refine⟨_,_,rfl,rfl,rfl,λx l1 h_x=>?_,λl1 h_x=>?_⟩)
  |((refine kG (d:=(IntKind.i64.wrap (d+1))) [] (λl=>hE l) ?_);refine⟨_,_,rfl,rfl,rfl,λx l1 h_x=>?_,λl1 h_x=>?_⟩)
  |((refine lentP' (d:=(IntKind.i64.wrap (d+1))) (z3t (.i f.1) (.i f.2.1) (.b f.2.2)) (λl o l' h=>hA f.1 f.2.1 f.2.2 (Yf he).1 (Yf he).2 l o l' h) ?_);refine⟨_,_,l.drop 1,rfl,rfl,Wv,rfl,λx l1 h_x=>?_,λl1 h_x=>?_⟩)
  |(exact absurd h (WC hd0 hdp))
  |((refine JL ?_);(try simp only[Bool.not_true,Bool.not_false,cond_true,cond_false,bne,Bool.not_eq_true',Bool.not_eq_false']at *);(simp only[yt,bnd,aN,reduceIte,Bool.false_eq_true, *]at hM);(obtain⟨rfl,rfl⟩:=fE hM);refine⟨_,_,_,[(1000000,1),(1000001,1000000)],qK _ _ _ none false (.inr rfl),rfl,⟨rfl,rfl,trivial⟩,rfl,?_⟩;(conv=>whnf);refine fin_step' [(1000000,1000000)] rfl ?_ ?_)
  |((refine bi ?_);(have hE:=ML hM h);(obtain⟨rfl,rfl⟩:=hE);refine aT ?_;refine fin_step' [(1000000,1000000)] rfl ?_ ?_)
  |((refine MM ?_);(try simp only[Bool.not_true,Bool.not_false,cond_true,cond_false,bne,Bool.not_eq_true',Bool.not_eq_false']at *);(simp only[yt,bnd,aN,reduceIte,Bool.false_eq_true, *]at hM);(obtain⟨rfl,rfl⟩:=fE hM);(refine IK.pan rfl rfl ?_);refine⟨_,_,_,[(1000000,1),(1000001,1000000)],qK _ _ _ _ true (.inl rfl),rfl,⟨rfl,rfl,trivial⟩,rfl,?_⟩;(refine fJ ?_);refine fin_step' [(1000000,1000000)] rfl ?_ ?_)
  |exact trivial
  |refine BrI.intro (λh=>?_) (λh=>?_)
  |(refine MK Dc (λf he=>?_) (λhe=>?_))
  |((refine rQ ?_ ?_ ?_ ?_);exact⟨rfl,rfl⟩;exact rfl;(exact emp_len' ‹(((l.map Tk.cs).length:Int)==0)=false›))
  |((refine qA ?_ ?_ ?_);exact⟨rfl,rfl⟩;exact z6o (emp_len' ‹(((l.map Tk.cs).length:Int)==0)=false›))
  |((refine ed ?_ ?_);exact rfl)
  |((refine dZ ?_ ?_ ?_);rotate_left;(first |exact jh _ _ _ |exact uf _ _ _))
  |((refine iq [(1000000,800000)] (BH) ?_ ?_ ?_ ?_);rotate_left 0;exact rfl;(exact trivial);exact rfl)
  |(refine aB.l _ ?_)
  |((refine aP ?_ ?_ (λhg=>?_) ?_);exact rfl)
  |((refine bH ?_ ?_);exact rfl;exact rfl)
  |((refine aH ?_ ?_);kernel_rfl)
  |(refine And.intro ?_ ?_)
  |fail)
 all_goals first
  |(rfl)
  |((exact congrArg D.i (Hg hd0 hd1)))
  |((exact WB))
  |skip
end Go.Proofs.YtmfehangcmbidaaGreatDoor
namespace Go.Proofs.YtmfehangcmbidaaGreatDoor
open Go.Fw Go.Fw.Lx Go.Fw.Sy
set_option maxRecDepth 10000
variable [ae] {u : PM Ex} {e d : Int}
theorem PE(hu:∀l o l',u l=(o,l')->ax Tryz.prog 181 [.ptr 1000000 0] [(1000000,pB l e d)] (jZ 119 Ex.d e o l') [(1000000,pB l' e d)])(hs:Sh u):∀l o l',(lC u) l=(o,l')->ax Tryz.prog 180 [.ptr 1000000 0] [(1000000,pB l e d)] (jZ 119 Ex.d e o l') [(1000000,pB l' e d)]:=λl o l' h=>Ig u e d l o l' hu hs h
theorem z6e(hu:∀l o l',u l=(o,l')->ax Tryz.prog 181 [.ptr 1000000 0] [(1000000,pB l e d)] (jZ 119 Ex.d e o l') [(1000000,pB l' e d)])(hs:Sh u):∀l o l',(sumM u) l=(o,l')->ax Tryz.prog 174 [.ptr 1000000 0] [(1000000,pB l e d)] (jZ 119 Ex.d e o l') [(1000000,pB l' e d)]:=λl o l' h=>Xp u e d l o l' (PE hu hs) hs h
theorem EW(hu:∀l o l',u l=(o,l')->ax Tryz.prog 181 [.ptr 1000000 0] [(1000000,pB l e d)] (jZ 119 Ex.d e o l') [(1000000,pB l' e d)])(hs:Sh u):∀l o l',(tN u) l=(o,l')->ax Tryz.prog 161 [.ptr 1000000 0] [(1000000,pB l e d)] (jZ 119 Ex.d e o l') [(1000000,pB l' e d)]:=λl o l' h=>Pz u e d (l.length+1) l o l' (z6e hu hs) hs (Nat.lt_succ_self _) h
theorem Eh(hu:∀l o l',u l=(o,l')->ax Tryz.prog 181 [.ptr 1000000 0] [(1000000,pB l e d)] (jZ 119 Ex.d e o l') [(1000000,pB l' e d)])(hs:Sh u)(k n:Int)(b:Bool)(h0:0<=n)(h2:n<=2):∀l o l',oH u k n.toNat b l=(o,l')->ax Tryz.prog 183 [.ptr 1000000 0,.data (.i k),.data (.i n),.data (.b b)] [(1000000,pB l e d)] (jZ 119 Ex.d e o l') [(1000000,pB l' e d)]:=by
 intro l o l' h
 have hn:((n.toNat:Nat):Int)=n:=Int.toNat_of_nonneg h0
 cases b with
 |false=>have:=PD u e d k n.toNat l o l' (EW hu hs) hs (by omega) h;rwa[hn]at this
 |true=>have:=UN u e d k n.toNat l o l' (EW hu hs) hs (by omega) h;rwa[hn]at this
theorem Ih(e:Int):∀(k:Nat) (d:Int),0<=d->d+k=63->∀l o l',(JG k) l=(o,l')->ax Tryz.prog 181 [.ptr 1000000 0] [(1000000,pB l e d)] (jZ 119 Ex.d e o l') [(1000000,pB l' e d)]
 | 0,d,h0,hk,l,o,l',h=>UO e d l o l' h0 (by omega) (by omega) h
 |k+1,d,h0,hk,l,o,l',h=>by
  have hd:IntKind.i64.wrap (d+1)=d+1:=ZN h0 (by omega)
  have ih:=Ih e k (IntKind.i64.wrap (d+1)) (by omega) (by omega)
  exact UQ (JG k) e d l o l' h0 (by omega) (by omega) ih (EW ih (Ak k)) (λk n b h0 h2=>Eh ih (Ak _) k n b h0 h2) h
theorem UR(e:Int):∀l o l',(tN (JG 63)) l=(o,l')->ax Tryz.prog 161 [.ptr 1000000 0] [(1000000,pB l e 0)] (jZ 119 Ex.d e o l') [(1000000,pB l' e 0)]:=EW (Ih e 63 0 (by omega) (by omega)) (Ak 63)
theorem AY(l:List Tk)(e d:Int)(o:Option (Int×Int))(l':List Tk)(hM:tV l=(o,l')):ax Tryz.prog 137 [.ptr 1000000 0] [(1000000,pB l e d)] (jZ 119 (λb:Int×Int=>.tuple [.i b.1,.i b.2]) e o l') [(1000000,pB l' e d)]:=by
 refine bg Tryz.func137 ?_
 repeat' ((try(conv=>whnf))<;>first
  |((refine BF (λs l=>iE s l e d) ?_);refine⟨_,_,_,_,rfl,rfl,rfl,rfl,rfl,λhW _=>?_,λhW=>?_⟩)
  |((refine kG (d:=d) [] (λl=>x9 l e d) ?_);refine⟨_,_,rfl,rfl,rfl,λn l1 h_n=>?_,λl1 h_n=>?_⟩)
  |((refine jv ?_);(try simp only[Bool.not_true,Bool.not_false,cond_true,cond_false,bne,Bool.not_eq_true',Bool.not_eq_false']at *);(simp only[tV,bnd,aN,reduceIte,Bool.false_eq_true, *]at hM);(obtain⟨rfl,rfl⟩:=fE hM);refine gV ?_;(conv=>whnf);refine fin_step' [(1000000,1000000)] rfl ?_ ?_)
  |((refine bi ?_);(try simp only[Bool.not_true,Bool.not_false,cond_true,cond_false,bne,Bool.not_eq_true',Bool.not_eq_false']at *);(simp only[tV,bnd,aN,reduceIte,Bool.false_eq_true, *]at hM);(obtain⟨rfl,rfl⟩:=fE hM);refine aT ?_;refine fin_step' [(1000000,1000000)] rfl ?_ ?_)
  |exact trivial
  |(refine aB.l _ ?_)
  |(refine And.intro ?_ ?_)
  |fail)
 all_goals first
  |skip
theorem Dt(l:List Tk)(e d:Int)(o:Option (Bd))(l':List Tk)(hM:Ad l=(o,l')):ax Tryz.prog 136 [.ptr 1000000 0] [(1000000,pB l e d)] (jZ 119 (λb:Bd=>.agg b.cs) e o l') [(1000000,pB l' e d)]:=by
 refine bg Tryz.func136 ?_
 repeat' ((try(conv=>whnf))<;>first
  |((refine kG (d:=d) [] (λl=>jP l e d) ?_);refine⟨_,_,rfl,rfl,rfl,λs l1 h_s=>?_,λl1 h_s=>?_⟩)
  |((refine kG (d:=d) [] (λl=>AY l e d) ?_);refine⟨_,_,rfl,rfl,rfl,λb l2 h_b=>?_,λl2 h_b=>?_⟩)
  |((refine jv ?_);(try simp only[Bool.not_true,Bool.not_false,cond_true,cond_false,bne,Bool.not_eq_true',Bool.not_eq_false']at *);(simp only[Ad,bnd,reduceIte,Bool.false_eq_true, *]at hM);(obtain⟨rfl,rfl⟩:=fE hM);refine gV ?_;(conv=>whnf);refine fin_step' [(1000000,1000000)] rfl ?_ ?_)
  |((refine bi ?_);(try simp only[Bool.not_true,Bool.not_false,cond_true,cond_false,bne,Bool.not_eq_true',Bool.not_eq_false']at *);(simp only[Ad,bnd,reduceIte,Bool.false_eq_true, *]at hM);(obtain⟨rfl,rfl⟩:=fE hM);refine aT ?_;refine fin_step' [(1000000,1000000)] rfl ?_ ?_)
  |exact trivial
  |(refine And.intro ?_ ?_)
  |fail)
 all_goals first
  |skip
theorem UT(l:List Tk)(e d:Int)(o:Option (List Int))(l':List Tk)(hl:l.length<=1073741823)(hM:G7 l=(o,l')):ax Tryz.prog 138 [.ptr 1000000 0,.fn 139 []] [(1000000,pB l e d)] (jZ 119 (λl:List Int=>ints l) e o l') [(1000000,pB l' e d)]:=by
 refine bg Tryz.func138 ?_
 repeat' ((try(conv=>whnf))<;>first
  |((refine nU ?_ ?_);exact rfl)
  |((refine mP ?_ ?_);exact rfl)
  |((refine BD (λs l=>iD s l e d) ?_);refine⟨_,_,_,rfl,rfl,rfl,λhT _=>?_,λhT=>?_⟩)
  |((refine kG (d:=d) [] (λl=>x9 l e d) ?_);refine⟨_,_,rfl,rfl,rfl,λv l2 h_v=>?_,λl2 h_v=>?_⟩)
  |(refine bD (n-1,vs++[v],l2) ?_ (z4b hI0 ‹isT aU l1=true› h_v) (ZR hI0 ‹isT aU l1=true›))
  |((refine bi ?_);(have hE:=ZP hM h_v);(obtain⟨rfl,rfl⟩:=hE);refine aT ?_;refine fin_step' [(1000000,1000000)] rfl ?_ ?_)
  |((refine bi ?_);(have hE:=ZQ hI0 ‹isT aU l1=true› h_v);(obtain⟨rfl,rfl⟩:=hE);refine aT ?_;refine fin_step' [(1000000,1000000)] rfl ?_ ?_)
  |((refine jv ?_);(have hE:=z4a hI0 ‹isT aU l1=false›);(obtain⟨rfl,rfl⟩:=hE);refine gV ?_;(conv=>whnf);refine fin_step' [(1000000,1000000)] rfl ?_ ?_)
  |exact trivial
  |((refine ak.mk 0 ?_);refine⟨jI (λ(q:(Nat)×(List Int)×(List Tk))=>match q with |(n,vs,l1)=>[(5,.gs 9 1 (vs.map U7))]) (λ(q:(Nat)×(List Int)×(List Tk))=>match q with |(n,vs,l1)=>[(1000000,pB l1 e d),(9,.tok 1 (vs.map U7).length)]) [0,1] (λ(q:(Nat)×(List Int)×(List Tk))=>match q with |(n,vs,l1)=>LsI (o,l') n vs l1) (λ(q:(Nat)×(List Int)×(List Tk))=>match q with |(n,vs,l1)=>n),?_⟩;refine dD ((l2.length),([v]),(l2)) ?_ ?_ (λ⟨n,vs,l1⟩ hI0=>?_))
  |(refine aB.l _ ?_)
  |((refine app_step' ?_ ?_ ?_ ?_ ?_ ?_ ?_);exact rfl;exact rfl;exact rfl;exact rfl)
  |(refine And.intro ?_ ?_)
  |((refine oD ?_ ?_ ?_);exact rfl;exact rfl;(first |exact dO |exact rfl |skip))
  |((refine fH ?_ ?_);exact rfl;(first |exact dO |skip))
  |exact @rfl AV _
  |exact @rfl Block _
  |exact eX rfl
  |fail)
 all_goals first
  |((exact z3z hl hM h_v))
  |((exact WE hI0))
  |skip
theorem Du(e:Int)(l:List Tk)(p:Pr)(ok:Bool)(p':Pr)(l':List Tk)(hz:Sz p l)(hM:Ae p l=(ok,p',l')):ax Tryz.prog 113 [.ptr 1000000 0,.ptr 1000001 0] [(1000000,pB l e 0),(1000001,xB p),(1000002,.tok 3 (p.params.map Bd.cs).length),(1000003,.tok 3 (p.states.map Bd.cs).length),(1000004,.tok 4 (p.lines.map Ln.cs).length),(1000005,.tok 2 (p.tables.map Tb.cs).length),(1000006,.tok 8 (p.stmts.map Sm.cs).length)] (Hl 119 e ok l') [(1000000,pB l' e 0),(1000001,xB p'),(1000002,.tok 3 (p'.params.map Bd.cs).length),(1000003,.tok 3 (p'.states.map Bd.cs).length),(1000004,.tok 4 (p'.lines.map Ln.cs).length),(1000005,.tok 2 (p'.tables.map Tb.cs).length),(1000006,.tok 8 (p'.stmts.map Sm.cs).length)]:=by
 refine bg Tryz.func113 ?_
 repeat' ((try(conv=>whnf))<;>first
  |((refine iP _ _ _ [true,true,true,true,true] ?_ ?_ ?_);exact rfl;kernel_rfl)
  |((refine quiet_step ?_ ?_);kernel_rfl)
  |((refine kG (d:=0) [] (λl=>Dt l e 0) ?_);refine⟨_,_,rfl,rfl,rfl,λb l1 h_b=>?_,λl1 h_b=>?_⟩)
  |((refine tX ?_);(try simp only[Bool.not_true,Bool.not_false,cond_true,cond_false,bne,Bool.not_eq_true',Bool.not_eq_false']at *);(simp only[Ae,itB,reduceIte,Bool.false_eq_true, *]at hM);(obtain⟨rfl,rfl,rfl⟩:=jK hM);refine kY ?_;(conv=>whnf);refine fin_step' [(1000000,1000000),(1000001,1000001),(1000002,1000002),(1000003,1000003),(1000004,1000004),(1000005,1000005),(1000006,1000006)] rfl ?_ ?_)
  |((refine xq ?_);(try simp only[Bool.not_true,Bool.not_false,cond_true,cond_false,bne,Bool.not_eq_true',Bool.not_eq_false']at *);(simp only[Ae,itB,reduceIte,Bool.false_eq_true, *]at hM);(obtain⟨rfl,rfl,rfl⟩:=jK hM);refine mQ ?_;refine fin_step' [(1000000,1000000),(1000001,1000001),(1000002,1000002),(1000003,1000003),(1000004,1000004),(1000005,1000005),(1000006,1000006)] rfl ?_ ?_)
  |exact trivial
  |(refine aB.l _ ?_)
  |((refine app_step' ?_ ?_ ?_ ?_ ?_ ?_ ?_);exact rfl;exact rfl;exact rfl;exact rfl)
  |((refine aH ?_ ?_);kernel_rfl)
  |((refine je ?_ ?_);kernel_rfl)
  |(refine And.intro ?_ ?_)
  |((refine fH ?_ ?_);exact rfl;(first |exact dO |skip))
  |((refine aO ?_);refine dN ?_ ?_ ?_;exact rfl;exact rfl;(first |exact rfl |skip))
  |exact eX rfl
  |fail)
 all_goals first
  |((exact kZ rfl))
  |((rw[List.length_map];first |(have:=hz.a;omega) |(have:=hz.b;omega) |(have:=hz.c;omega) |(have:=hz.d;omega) |(have:=hz.e;omega)))
  |skip
theorem Dv(e:Int)(l:List Tk)(p:Pr)(ok:Bool)(p':Pr)(l':List Tk)(hz:Sz p l)(hM:Af p l=(ok,p',l')):ax Tryz.prog 114 [.ptr 1000000 0,.ptr 1000001 0] [(1000000,pB l e 0),(1000001,xB p),(1000002,.tok 3 (p.params.map Bd.cs).length),(1000003,.tok 3 (p.states.map Bd.cs).length),(1000004,.tok 4 (p.lines.map Ln.cs).length),(1000005,.tok 2 (p.tables.map Tb.cs).length),(1000006,.tok 8 (p.stmts.map Sm.cs).length)] (Hl 119 e ok l') [(1000000,pB l' e 0),(1000001,xB p'),(1000002,.tok 3 (p'.params.map Bd.cs).length),(1000003,.tok 3 (p'.states.map Bd.cs).length),(1000004,.tok 4 (p'.lines.map Ln.cs).length),(1000005,.tok 2 (p'.tables.map Tb.cs).length),(1000006,.tok 8 (p'.stmts.map Sm.cs).length)]:=by
 refine bg Tryz.func114 ?_
 repeat' ((try(conv=>whnf))<;>first
  |((refine iP _ _ _ [true,true,true,true,true] ?_ ?_ ?_);exact rfl;kernel_rfl)
  |((refine quiet_step ?_ ?_);kernel_rfl)
  |((refine kG (d:=0) [] (λl=>Dt l e 0) ?_);refine⟨_,_,rfl,rfl,rfl,λb l1 h_b=>?_,λl1 h_b=>?_⟩)
  |((refine tX ?_);(try simp only[Bool.not_true,Bool.not_false,cond_true,cond_false,bne,Bool.not_eq_true',Bool.not_eq_false']at *);(simp only[Af,itB,reduceIte,Bool.false_eq_true, *]at hM);(obtain⟨rfl,rfl,rfl⟩:=jK hM);refine kY ?_;(conv=>whnf);refine fin_step' [(1000000,1000000),(1000001,1000001),(1000002,1000002),(1000003,1000003),(1000004,1000004),(1000005,1000005),(1000006,1000006)] rfl ?_ ?_)
  |((refine xq ?_);(try simp only[Bool.not_true,Bool.not_false,cond_true,cond_false,bne,Bool.not_eq_true',Bool.not_eq_false']at *);(simp only[Af,itB,reduceIte,Bool.false_eq_true, *]at hM);(obtain⟨rfl,rfl,rfl⟩:=jK hM);refine mQ ?_;refine fin_step' [(1000000,1000000),(1000001,1000001),(1000002,1000002),(1000003,1000003),(1000004,1000004),(1000005,1000005),(1000006,1000006)] rfl ?_ ?_)
  |exact trivial
  |(refine aB.l _ ?_)
  |((refine app_step' ?_ ?_ ?_ ?_ ?_ ?_ ?_);exact rfl;exact rfl;exact rfl;exact rfl)
  |((refine aH ?_ ?_);kernel_rfl)
  |((refine je ?_ ?_);kernel_rfl)
  |(refine And.intro ?_ ?_)
  |((refine fH ?_ ?_);exact rfl;(first |exact dO |skip))
  |((refine aO ?_);refine dN ?_ ?_ ?_;exact rfl;exact rfl;(first |exact rfl |skip))
  |exact eX rfl
  |fail)
 all_goals first
  |((exact kZ rfl))
  |((rw[List.length_map];first |(have:=hz.a;omega) |(have:=hz.b;omega) |(have:=hz.c;omega) |(have:=hz.d;omega) |(have:=hz.e;omega)))
  |skip
theorem Ii(e:Int)(l:List Tk)(p:Pr)(ok:Bool)(p':Pr)(l':List Tk)(hz:Sz p l)(hM:JH p l=(ok,p',l')):ax Tryz.prog 115 [.ptr 1000000 0,.ptr 1000001 0] [(1000000,pB l e 0),(1000001,xB p),(1000002,.tok 3 (p.params.map Bd.cs).length),(1000003,.tok 3 (p.states.map Bd.cs).length),(1000004,.tok 4 (p.lines.map Ln.cs).length),(1000005,.tok 2 (p.tables.map Tb.cs).length),(1000006,.tok 8 (p.stmts.map Sm.cs).length)] (Hl 119 e ok l') [(1000000,pB l' e 0),(1000001,xB p'),(1000002,.tok 3 (p'.params.map Bd.cs).length),(1000003,.tok 3 (p'.states.map Bd.cs).length),(1000004,.tok 4 (p'.lines.map Ln.cs).length),(1000005,.tok 2 (p'.tables.map Tb.cs).length),(1000006,.tok 8 (p'.stmts.map Sm.cs).length)]:=by
 refine bg Tryz.func115 ?_
 repeat' ((try(conv=>whnf))<;>first
  |((refine kG (d:=0) [] (λl=>jP l e 0) ?_);refine⟨_,_,rfl,rfl,rfl,λs1 l1 h_s1=>?_,λl1 h_s1=>?_⟩)
  |((refine kG (d:=0) [] (λl=>iM l e 0) ?_);refine⟨_,_,rfl,rfl,rfl,λn l2 h_n=>?_,λl2 h_n=>?_⟩)
  |((refine kG (d:=0) [] (λl=>AY l e 0) ?_);refine⟨_,_,rfl,rfl,rfl,λb l3 h_b=>?_,λl3 h_b=>?_⟩)
  |((refine tX ?_);(try simp only[Bool.not_true,Bool.not_false,cond_true,cond_false,bne,Bool.not_eq_true',Bool.not_eq_false']at *);(simp only[JH,itB,reduceIte,Bool.false_eq_true, *]at hM);(obtain⟨rfl,rfl,rfl⟩:=jK hM);refine kY ?_;(conv=>whnf);refine fin_step' [(1000000,1000000),(1000001,1000001),(1000002,1000002),(1000003,1000003),(1000004,1000004),(1000005,1000005),(1000006,1000006)] rfl ?_ ?_)
  |((refine xq ?_);(try simp only[Bool.not_true,Bool.not_false,cond_true,cond_false,bne,Bool.not_eq_true',Bool.not_eq_false']at *);(simp only[JH,itB,reduceIte,Bool.false_eq_true, *]at hM);(obtain⟨rfl,rfl,rfl⟩:=jK hM);refine mQ ?_;refine fin_step' [(1000000,1000000),(1000001,1000001),(1000002,1000002),(1000003,1000003),(1000004,1000004),(1000005,1000005),(1000006,1000006)] rfl ?_ ?_)
  |exact trivial
  |(refine aB.l _ ?_)
  |((refine app_step' ?_ ?_ ?_ ?_ ?_ ?_ ?_);exact rfl;exact rfl;exact rfl;exact rfl)
  |((refine aH ?_ ?_);kernel_rfl)
  |(refine And.intro ?_ ?_)
  |((refine fH ?_ ?_);exact rfl;(first |skip))
  |((refine aO ?_);refine dN ?_ ?_ ?_;exact rfl;exact rfl;(first |exact rfl |skip))
  |exact eX rfl
  |fail)
 all_goals first
  |((exact kZ rfl))
  |((rw[List.length_map];first |(have:=hz.a;omega) |(have:=hz.b;omega) |(have:=hz.c;omega) |(have:=hz.d;omega) |(have:=hz.e;omega)))
  |skip
theorem Dw(e:Int)(l:List Tk)(p:Pr)(ok:Bool)(p':Pr)(l':List Tk)(hz:Sz p l)(hM:Ag p l=(ok,p',l')):ax Tryz.prog 116 [.ptr 1000000 0,.ptr 1000001 0] [(1000000,pB l e 0),(1000001,xB p),(1000002,.tok 3 (p.params.map Bd.cs).length),(1000003,.tok 3 (p.states.map Bd.cs).length),(1000004,.tok 4 (p.lines.map Ln.cs).length),(1000005,.tok 2 (p.tables.map Tb.cs).length),(1000006,.tok 8 (p.stmts.map Sm.cs).length)] (Hl 119 e ok l') [(1000000,pB l' e 0),(1000001,xB p'),(1000002,.tok 3 (p'.params.map Bd.cs).length),(1000003,.tok 3 (p'.states.map Bd.cs).length),(1000004,.tok 4 (p'.lines.map Ln.cs).length),(1000005,.tok 2 (p'.tables.map Tb.cs).length),(1000006,.tok 8 (p'.stmts.map Sm.cs).length)]:=by
 refine bg Tryz.func116 ?_
 repeat' ((try(conv=>whnf))<;>first
  |((refine kG (d:=0) [] (λl=>jP l e 0) ?_);refine⟨_,_,rfl,rfl,rfl,λs1 l1 h_s1=>?_,λl1 h_s1=>?_⟩)
  |((refine BF (λs l=>iE s l e 0) ?_);refine⟨_,_,_,_,rfl,rfl,rfl,rfl,rfl,λhW _=>?_,λhW=>?_⟩)
  |((refine z3w (d:=0) (z3x 139) (λl=>l.length<=1073741823) (λl o l' hl h=>UT l e 0 o l' hl h) ?_);refine⟨_,_,rfl,rfl,rfl,by(have:=nR _ _ _ h_s1;have:=hz.a;simp only[List.length_drop];omega),λvs l3 h_vs=>?_,λl3 h_vs=>?_⟩)
  |((refine tX ?_);(try simp only[Bool.not_true,Bool.not_false,cond_true,cond_false,bne,Bool.not_eq_true',Bool.not_eq_false']at *);(simp only[Ag,itB,aN,reduceIte,Bool.false_eq_true, *]at hM);(obtain⟨rfl,rfl,rfl⟩:=jK hM);refine kY ?_;(conv=>whnf);refine fin_step' [(1000000,1000000),(1000001,1000001),(1000002,1000002),(1000003,1000003),(1000004,1000004),(1000005,1000005),(1000006,1000006)] rfl ?_ ?_)
  |((refine xq ?_);(try simp only[Bool.not_true,Bool.not_false,cond_true,cond_false,bne,Bool.not_eq_true',Bool.not_eq_false']at *);(simp only[Ag,itB,aN,reduceIte,Bool.false_eq_true, *]at hM);(obtain⟨rfl,rfl,rfl⟩:=jK hM);refine mQ ?_;refine fin_step' [(1000000,1000000),(1000001,1000001),(1000002,1000002),(1000003,1000003),(1000004,1000004),(1000005,1000005),(1000006,1000006)] rfl ?_ ?_)
  |exact trivial
  |(refine aB.l _ ?_)
  |((refine app_step' ?_ ?_ ?_ ?_ ?_ ?_ ?_);exact rfl;exact rfl;exact rfl;exact rfl)
  |((refine aH ?_ ?_);kernel_rfl)
  |(refine And.intro ?_ ?_)
  |((refine fH ?_ ?_);exact rfl;(first |skip))
  |((refine aO ?_);refine dN ?_ ?_ ?_;exact rfl;exact rfl;(first |exact rfl |skip))
  |exact eX rfl
  |fail)
 all_goals first
  |((exact kZ rfl))
  |((rw[List.length_map];first |(have:=hz.a;omega) |(have:=hz.b;omega) |(have:=hz.c;omega) |(have:=hz.d;omega) |(have:=hz.e;omega)))
  |skip
theorem jQ(e:Int)(k:Int)(l:List Tk)(p:Pr)(ok:Bool)(p':Pr)(l':List Tk)(hz:Sz p l)(hM:mf k p l=(ok,p',l')):ax Tryz.prog 140 [.ptr 1000000 0,.ptr 1000001 0,.data (.i k)] [(1000000,pB l e 0),(1000001,xB p),(1000002,.tok 3 (p.params.map Bd.cs).length),(1000003,.tok 3 (p.states.map Bd.cs).length),(1000004,.tok 4 (p.lines.map Ln.cs).length),(1000005,.tok 2 (p.tables.map Tb.cs).length),(1000006,.tok 8 (p.stmts.map Sm.cs).length)] (Hl 119 e ok l') [(1000000,pB l' e 0),(1000001,xB p'),(1000002,.tok 3 (p'.params.map Bd.cs).length),(1000003,.tok 3 (p'.states.map Bd.cs).length),(1000004,.tok 4 (p'.lines.map Ln.cs).length),(1000005,.tok 2 (p'.tables.map Tb.cs).length),(1000006,.tok 8 (p'.stmts.map Sm.cs).length)]:=by
 refine bg Tryz.func140 ?_
 repeat' ((try(conv=>whnf))<;>first
  |((refine kG (d:=0) [] (λl=>jP l e 0) ?_);refine⟨_,_,rfl,rfl,rfl,λs1 l1 h_s1=>?_,λl1 h_s1=>?_⟩)
  |((refine BF (λs l=>iE s l e 0) ?_);refine⟨_,_,_,_,rfl,rfl,rfl,rfl,rfl,λhW _=>?_,λhW=>?_⟩)
  |((refine kG (d:=0) [] (λl=>UR e l) ?_);refine⟨_,_,rfl,rfl,rfl,λx l3 h_x=>?_,λl3 h_x=>?_⟩)
  |((refine tX ?_);(try simp only[Bool.not_true,Bool.not_false,cond_true,cond_false,bne,Bool.not_eq_true',Bool.not_eq_false']at *);(simp only[mf,itB,bnd,aN,bne,Bool.not_false,Bool.not_true,reduceIte,Bool.false_eq_true, *]at hM);(obtain⟨rfl,rfl,rfl⟩:=jK hM);refine kY ?_;(conv=>whnf);refine fin_step' [(1000000,1000000),(1000001,1000001),(1000002,1000002),(1000003,1000003),(1000004,1000004),(1000005,1000005),(1000006,1000006)] rfl ?_ ?_)
  |((refine xq ?_);(try simp only[Bool.not_true,Bool.not_false,cond_true,cond_false,bne,Bool.not_eq_true',Bool.not_eq_false']at *);(simp only[mf,itB,bnd,aN,bne,Bool.not_false,Bool.not_true,reduceIte,Bool.false_eq_true, *]at hM);(obtain⟨rfl,rfl,rfl⟩:=jK hM);refine mQ ?_;refine fin_step' [(1000000,1000000),(1000001,1000001),(1000002,1000002),(1000003,1000003),(1000004,1000004),(1000005,1000005),(1000006,1000006)] rfl ?_ ?_)
  |exact trivial
  |refine BrI.intro (λh=>?_) (λh=>?_)
  |(refine aB.l _ ?_)
  |((refine app_step' ?_ ?_ ?_ ?_ ?_ ?_ ?_);exact rfl;exact rfl;exact rfl;exact rfl)
  |((refine aH ?_ ?_);kernel_rfl)
  |(refine And.intro ?_ ?_)
  |((refine fH ?_ ?_);exact rfl;(first |skip))
  |((refine aO ?_);refine dN ?_ ?_ ?_;exact rfl;exact rfl;(first |exact rfl |skip))
  |exact eX rfl
  |fail)
 all_goals first
  |((exact kZ rfl))
  |((rw[List.length_map];first |(have:=hz.a;omega) |(have:=hz.b;omega) |(have:=hz.c;omega) |(have:=hz.d;omega) |(have:=hz.e;omega)))
  |skip
theorem NJ(e:Int)(l:List Tk)(p:Pr)(ok:Bool)(p':Pr)(l':List Tk)(hz:Sz p l)(hM:(mf 1) p l=(ok,p',l')):ax Tryz.prog 117 [.ptr 1000000 0,.ptr 1000001 0] [(1000000,pB l e 0),(1000001,xB p),(1000002,.tok 3 (p.params.map Bd.cs).length),(1000003,.tok 3 (p.states.map Bd.cs).length),(1000004,.tok 4 (p.lines.map Ln.cs).length),(1000005,.tok 2 (p.tables.map Tb.cs).length),(1000006,.tok 8 (p.stmts.map Sm.cs).length)] (Hl 119 e ok l') [(1000000,pB l' e 0),(1000001,xB p'),(1000002,.tok 3 (p'.params.map Bd.cs).length),(1000003,.tok 3 (p'.states.map Bd.cs).length),(1000004,.tok 4 (p'.lines.map Ln.cs).length),(1000005,.tok 2 (p'.tables.map Tb.cs).length),(1000006,.tok 8 (p'.stmts.map Sm.cs).length)]:=by
 refine bg Tryz.func117 ?_
 repeat' ((try(conv=>whnf))<;>first
  |((refine vC 140 (mf 1 p l) (λp1 l1=>⟨λhR=>?_,λhR=>?_⟩));(refine lent_step' [(1000000,1000000),(1000001,1000001),(1000002,1000002),(1000003,1000003),(1000004,1000004),(1000005,1000005),(1000006,1000006)] (jQ e 1 l p true p1 l1 hz hR) rfl ⟨rfl,rfl,rfl,rfl,rfl,rfl,rfl,trivial⟩ rfl ?_);rotate_left;(refine lent_step' [(1000000,1000000),(1000001,1000001),(1000002,1000002),(1000003,1000003),(1000004,1000004),(1000005,1000005),(1000006,1000006)] (jQ e 1 l p false p1 l1 hz hR) rfl ⟨rfl,rfl,rfl,rfl,rfl,rfl,rfl,trivial⟩ rfl ?_))
  |((refine tX ?_);(try simp only[Bool.not_true,Bool.not_false,cond_true,cond_false,bne,Bool.not_eq_true',Bool.not_eq_false']at *);(simp only[hR,reduceIte,Bool.false_eq_true, *]at hM);(obtain⟨rfl,rfl,rfl⟩:=jK hM);refine kY ?_;(conv=>whnf);refine fin_step' [(1000000,1000000),(1000001,1000001),(1000002,1000002),(1000003,1000003),(1000004,1000004),(1000005,1000005),(1000006,1000006)] rfl ?_ ?_)
  |((refine xq ?_);(try simp only[Bool.not_true,Bool.not_false,cond_true,cond_false,bne,Bool.not_eq_true',Bool.not_eq_false']at *);(simp only[hR,reduceIte,Bool.false_eq_true, *]at hM);(obtain⟨rfl,rfl,rfl⟩:=jK hM);refine mQ ?_;refine fin_step' [(1000000,1000000),(1000001,1000001),(1000002,1000002),(1000003,1000003),(1000004,1000004),(1000005,1000005),(1000006,1000006)] rfl ?_ ?_)
  |exact trivial
  |(refine And.intro ?_ ?_)
  |((refine aO ?_);refine dN ?_ ?_ ?_;exact rfl;exact rfl;(first |exact rfl |skip))
  |exact @rfl Block _
  |fail)
 all_goals first
  |skip
theorem NK(e:Int)(l:List Tk)(p:Pr)(ok:Bool)(p':Pr)(l':List Tk)(hz:Sz p l)(hM:(mf 2) p l=(ok,p',l')):ax Tryz.prog 118 [.ptr 1000000 0,.ptr 1000001 0] [(1000000,pB l e 0),(1000001,xB p),(1000002,.tok 3 (p.params.map Bd.cs).length),(1000003,.tok 3 (p.states.map Bd.cs).length),(1000004,.tok 4 (p.lines.map Ln.cs).length),(1000005,.tok 2 (p.tables.map Tb.cs).length),(1000006,.tok 8 (p.stmts.map Sm.cs).length)] (Hl 119 e ok l') [(1000000,pB l' e 0),(1000001,xB p'),(1000002,.tok 3 (p'.params.map Bd.cs).length),(1000003,.tok 3 (p'.states.map Bd.cs).length),(1000004,.tok 4 (p'.lines.map Ln.cs).length),(1000005,.tok 2 (p'.tables.map Tb.cs).length),(1000006,.tok 8 (p'.stmts.map Sm.cs).length)]:=by
 refine bg Tryz.func118 ?_
 repeat' ((try(conv=>whnf))<;>first
  |((refine vC 140 (mf 2 p l) (λp1 l1=>⟨λhR=>?_,λhR=>?_⟩));(refine lent_step' [(1000000,1000000),(1000001,1000001),(1000002,1000002),(1000003,1000003),(1000004,1000004),(1000005,1000005),(1000006,1000006)] (jQ e 2 l p true p1 l1 hz hR) rfl ⟨rfl,rfl,rfl,rfl,rfl,rfl,rfl,trivial⟩ rfl ?_);rotate_left;(refine lent_step' [(1000000,1000000),(1000001,1000001),(1000002,1000002),(1000003,1000003),(1000004,1000004),(1000005,1000005),(1000006,1000006)] (jQ e 2 l p false p1 l1 hz hR) rfl ⟨rfl,rfl,rfl,rfl,rfl,rfl,rfl,trivial⟩ rfl ?_))
  |((refine tX ?_);(try simp only[Bool.not_true,Bool.not_false,cond_true,cond_false,bne,Bool.not_eq_true',Bool.not_eq_false']at *);(simp only[hR,reduceIte,Bool.false_eq_true, *]at hM);(obtain⟨rfl,rfl,rfl⟩:=jK hM);refine kY ?_;(conv=>whnf);refine fin_step' [(1000000,1000000),(1000001,1000001),(1000002,1000002),(1000003,1000003),(1000004,1000004),(1000005,1000005),(1000006,1000006)] rfl ?_ ?_)
  |((refine xq ?_);(try simp only[Bool.not_true,Bool.not_false,cond_true,cond_false,bne,Bool.not_eq_true',Bool.not_eq_false']at *);(simp only[hR,reduceIte,Bool.false_eq_true, *]at hM);(obtain⟨rfl,rfl,rfl⟩:=jK hM);refine mQ ?_;refine fin_step' [(1000000,1000000),(1000001,1000001),(1000002,1000002),(1000003,1000003),(1000004,1000004),(1000005,1000005),(1000006,1000006)] rfl ?_ ?_)
  |exact trivial
  |(refine And.intro ?_ ?_)
  |((refine aO ?_);refine dN ?_ ?_ ?_;exact rfl;exact rfl;(first |exact rfl |skip))
  |exact @rfl Block _
  |fail)
 all_goals first
  |skip
theorem Ij(e:Int)(l:List Tk)(p:Pr)(ok:Bool)(p':Pr)(l':List Tk)(hz:Sz p l)(hM:(mf 3) p l=(ok,p',l')):ax Tryz.prog 119 [.ptr 1000000 0,.ptr 1000001 0] [(1000000,pB l e 0),(1000001,xB p),(1000002,.tok 3 (p.params.map Bd.cs).length),(1000003,.tok 3 (p.states.map Bd.cs).length),(1000004,.tok 4 (p.lines.map Ln.cs).length),(1000005,.tok 2 (p.tables.map Tb.cs).length),(1000006,.tok 8 (p.stmts.map Sm.cs).length)] (Hl 119 e ok l') [(1000000,pB l' e 0),(1000001,xB p'),(1000002,.tok 3 (p'.params.map Bd.cs).length),(1000003,.tok 3 (p'.states.map Bd.cs).length),(1000004,.tok 4 (p'.lines.map Ln.cs).length),(1000005,.tok 2 (p'.tables.map Tb.cs).length),(1000006,.tok 8 (p'.stmts.map Sm.cs).length)]:=by
 refine bg Tryz.func119 ?_
 repeat' ((try(conv=>whnf))<;>first
  |((refine vC 140 (mf 3 p l) (λp1 l1=>⟨λhR=>?_,λhR=>?_⟩));(refine lent_step' [(1000000,1000000),(1000001,1000001),(1000002,1000002),(1000003,1000003),(1000004,1000004),(1000005,1000005),(1000006,1000006)] (jQ e 3 l p true p1 l1 hz hR) rfl ⟨rfl,rfl,rfl,rfl,rfl,rfl,rfl,trivial⟩ rfl ?_);rotate_left;(refine lent_step' [(1000000,1000000),(1000001,1000001),(1000002,1000002),(1000003,1000003),(1000004,1000004),(1000005,1000005),(1000006,1000006)] (jQ e 3 l p false p1 l1 hz hR) rfl ⟨rfl,rfl,rfl,rfl,rfl,rfl,rfl,trivial⟩ rfl ?_))
  |((refine tX ?_);(try simp only[Bool.not_true,Bool.not_false,cond_true,cond_false,bne,Bool.not_eq_true',Bool.not_eq_false']at *);(simp only[hR,reduceIte,Bool.false_eq_true, *]at hM);(obtain⟨rfl,rfl,rfl⟩:=jK hM);refine kY ?_;(conv=>whnf);refine fin_step' [(1000000,1000000),(1000001,1000001),(1000002,1000002),(1000003,1000003),(1000004,1000004),(1000005,1000005),(1000006,1000006)] rfl ?_ ?_)
  |((refine xq ?_);(try simp only[Bool.not_true,Bool.not_false,cond_true,cond_false,bne,Bool.not_eq_true',Bool.not_eq_false']at *);(simp only[hR,reduceIte,Bool.false_eq_true, *]at hM);(obtain⟨rfl,rfl,rfl⟩:=jK hM);refine mQ ?_;refine fin_step' [(1000000,1000000),(1000001,1000001),(1000002,1000002),(1000003,1000003),(1000004,1000004),(1000005,1000005),(1000006,1000006)] rfl ?_ ?_)
  |exact trivial
  |(refine And.intro ?_ ?_)
  |((refine aO ?_);refine dN ?_ ?_ ?_;exact rfl;exact rfl;(first |exact rfl |skip))
  |exact @rfl Block _
  |fail)
 all_goals first
  |skip
theorem NL(e:Int)(l:List Tk)(p:Pr)(ok:Bool)(p':Pr)(l':List Tk)(hz:Sz p l)(hM:(mf 4) p l=(ok,p',l')):ax Tryz.prog 120 [.ptr 1000000 0,.ptr 1000001 0] [(1000000,pB l e 0),(1000001,xB p),(1000002,.tok 3 (p.params.map Bd.cs).length),(1000003,.tok 3 (p.states.map Bd.cs).length),(1000004,.tok 4 (p.lines.map Ln.cs).length),(1000005,.tok 2 (p.tables.map Tb.cs).length),(1000006,.tok 8 (p.stmts.map Sm.cs).length)] (Hl 119 e ok l') [(1000000,pB l' e 0),(1000001,xB p'),(1000002,.tok 3 (p'.params.map Bd.cs).length),(1000003,.tok 3 (p'.states.map Bd.cs).length),(1000004,.tok 4 (p'.lines.map Ln.cs).length),(1000005,.tok 2 (p'.tables.map Tb.cs).length),(1000006,.tok 8 (p'.stmts.map Sm.cs).length)]:=by
 refine bg Tryz.func120 ?_
 repeat' ((try(conv=>whnf))<;>first
  |((refine vC 140 (mf 4 p l) (λp1 l1=>⟨λhR=>?_,λhR=>?_⟩));(refine lent_step' [(1000000,1000000),(1000001,1000001),(1000002,1000002),(1000003,1000003),(1000004,1000004),(1000005,1000005),(1000006,1000006)] (jQ e 4 l p true p1 l1 hz hR) rfl ⟨rfl,rfl,rfl,rfl,rfl,rfl,rfl,trivial⟩ rfl ?_);rotate_left;(refine lent_step' [(1000000,1000000),(1000001,1000001),(1000002,1000002),(1000003,1000003),(1000004,1000004),(1000005,1000005),(1000006,1000006)] (jQ e 4 l p false p1 l1 hz hR) rfl ⟨rfl,rfl,rfl,rfl,rfl,rfl,rfl,trivial⟩ rfl ?_))
  |((refine tX ?_);(try simp only[Bool.not_true,Bool.not_false,cond_true,cond_false,bne,Bool.not_eq_true',Bool.not_eq_false']at *);(simp only[hR,reduceIte,Bool.false_eq_true, *]at hM);(obtain⟨rfl,rfl,rfl⟩:=jK hM);refine kY ?_;(conv=>whnf);refine fin_step' [(1000000,1000000),(1000001,1000001),(1000002,1000002),(1000003,1000003),(1000004,1000004),(1000005,1000005),(1000006,1000006)] rfl ?_ ?_)
  |((refine xq ?_);(try simp only[Bool.not_true,Bool.not_false,cond_true,cond_false,bne,Bool.not_eq_true',Bool.not_eq_false']at *);(simp only[hR,reduceIte,Bool.false_eq_true, *]at hM);(obtain⟨rfl,rfl,rfl⟩:=jK hM);refine mQ ?_;refine fin_step' [(1000000,1000000),(1000001,1000001),(1000002,1000002),(1000003,1000003),(1000004,1000004),(1000005,1000005),(1000006,1000006)] rfl ?_ ?_)
  |exact trivial
  |(refine And.intro ?_ ?_)
  |((refine aO ?_);refine dN ?_ ?_ ?_;exact rfl;exact rfl;(first |exact rfl |skip))
  |exact @rfl Block _
  |fail)
 all_goals first
  |skip
end Go.Proofs.YtmfehangcmbidaaGreatDoor
namespace Go.Proofs.YtmfehangcmbidaaGreatDoor
open Go.Fw Go.Fw.Lx Go.Fw.Sy
set_option maxRecDepth 10000
variable [ae]
theorem AZ(e:Int)(l:List Tk)(p:Pr)(ok:Bool)(p':Pr)(l':List Tk)(hz:Sz p l)(hM:gy decls p l=(ok,p',l')):ax Tryz.prog 112 [.ptr 1000000 0,.ptr 1000001 0,.map 1000007] [(1000000,pB l e 0),(1000001,xB p),(1000002,.tok 3 (p.params.map Bd.cs).length),(1000003,.tok 3 (p.states.map Bd.cs).length),(1000004,.tok 4 (p.lines.map Ln.cs).length),(1000005,.tok 2 (p.tables.map Tb.cs).length),(1000006,.tok 8 (p.stmts.map Sm.cs).length),(1000007,.map false [.str] [(.str rP,.fn 113 []),(.str pU,.fn 114 []),(.str G6,.fn 115 []),(.str xW,.fn 116 [])])] (Hl 119 e ok l') [(1000000,pB l' e 0),(1000001,xB p'),(1000002,.tok 3 (p'.params.map Bd.cs).length),(1000003,.tok 3 (p'.states.map Bd.cs).length),(1000004,.tok 4 (p'.lines.map Ln.cs).length),(1000005,.tok 2 (p'.tables.map Tb.cs).length),(1000006,.tok 8 (p'.stmts.map Sm.cs).length),(1000007,.map false [.str] [(.str rP,.fn 113 []),(.str pU,.fn 114 []),(.str G6,.fn 115 []),(.str xW,.fn 116 [])])]:=by
 refine bg Tryz.func112 ?_
 repeat' ((try(conv=>whnf))<;>first
  |((refine wW (.data (.val (.bool false))) ?_ ?_ ?_);exact rfl;exact rfl)
  |((refine GM ?_ ?_);exact rfl)
  |((refine nU ?_ ?_);exact rfl)
  |((refine mP ?_ ?_);exact rfl)
  |((refine BD (λs l=>iD s l e 0) ?_);refine⟨_,_,_,rfl,rfl,rfl,λhT _=>?_,λhT=>?_⟩)
  |((refine BF (λs l=>iE s l e 0) ?_);refine⟨_,_,_,_,rfl,rfl,rfl,rfl,rfl,λhW _=>?_,λhW=>?_⟩)
  |((refine vC 113 (Ae p (l1.drop 1)) (λp1 l2=>⟨λhR=>?_,λhR=>?_⟩));(refine lent_step' [(1000000,1000000),(1000001,1000001),(1000002,1000002),(1000003,1000003),(1000004,1000004),(1000005,1000005),(1000006,1000006)] (Du e (l1.drop 1) p true p1 l2 (hI0.sz.le (by simp)) hR) rfl ⟨rfl,rfl,rfl,rfl,rfl,rfl,rfl,trivial⟩ rfl ?_);rotate_left;(refine lent_step' [(1000000,1000000),(1000001,1000001),(1000002,1000002),(1000003,1000003),(1000004,1000004),(1000005,1000005),(1000006,1000006)] (Du e (l1.drop 1) p false p1 l2 (hI0.sz.le (by simp)) hR) rfl ⟨rfl,rfl,rfl,rfl,rfl,rfl,rfl,trivial⟩ rfl ?_))
  |((refine vC 114 (Af p (l1.drop 1)) (λp1 l2=>⟨λhR=>?_,λhR=>?_⟩));(refine lent_step' [(1000000,1000000),(1000001,1000001),(1000002,1000002),(1000003,1000003),(1000004,1000004),(1000005,1000005),(1000006,1000006)] (Dv e (l1.drop 1) p true p1 l2 (hI0.sz.le (by simp)) hR) rfl ⟨rfl,rfl,rfl,rfl,rfl,rfl,rfl,trivial⟩ rfl ?_);rotate_left;(refine lent_step' [(1000000,1000000),(1000001,1000001),(1000002,1000002),(1000003,1000003),(1000004,1000004),(1000005,1000005),(1000006,1000006)] (Dv e (l1.drop 1) p false p1 l2 (hI0.sz.le (by simp)) hR) rfl ⟨rfl,rfl,rfl,rfl,rfl,rfl,rfl,trivial⟩ rfl ?_))
  |((refine vC 115 (JH p (l1.drop 1)) (λp1 l2=>⟨λhR=>?_,λhR=>?_⟩));(refine lent_step' [(1000000,1000000),(1000001,1000001),(1000002,1000002),(1000003,1000003),(1000004,1000004),(1000005,1000005),(1000006,1000006)] (Ii e (l1.drop 1) p true p1 l2 (hI0.sz.le (by simp)) hR) rfl ⟨rfl,rfl,rfl,rfl,rfl,rfl,rfl,trivial⟩ rfl ?_);rotate_left;(refine lent_step' [(1000000,1000000),(1000001,1000001),(1000002,1000002),(1000003,1000003),(1000004,1000004),(1000005,1000005),(1000006,1000006)] (Ii e (l1.drop 1) p false p1 l2 (hI0.sz.le (by simp)) hR) rfl ⟨rfl,rfl,rfl,rfl,rfl,rfl,rfl,trivial⟩ rfl ?_))
  |((refine vC 116 (Ag p (l1.drop 1)) (λp1 l2=>⟨λhR=>?_,λhR=>?_⟩));(refine lent_step' [(1000000,1000000),(1000001,1000001),(1000002,1000002),(1000003,1000003),(1000004,1000004),(1000005,1000005),(1000006,1000006)] (Dw e (l1.drop 1) p true p1 l2 (hI0.sz.le (by simp)) hR) rfl ⟨rfl,rfl,rfl,rfl,rfl,rfl,rfl,trivial⟩ rfl ?_);rotate_left;(refine lent_step' [(1000000,1000000),(1000001,1000001),(1000002,1000002),(1000003,1000003),(1000004,1000004),(1000005,1000005),(1000006,1000006)] (Dw e (l1.drop 1) p false p1 l2 (hI0.sz.le (by simp)) hR) rfl ⟨rfl,rfl,rfl,rfl,rfl,rfl,rfl,trivial⟩ rfl ?_))
  |(refine bD (n-1,p1,l2.drop 1) ?_ (z9j hI0 ‹isT (hd l1).text l1=true› (by simp only[find,decls, *,reduceIte,Bool.false_eq_true]) hR (by first |exact Ez hR |exact EC hR |exact JM hR |exact ED hR |exact xu hR) ‹isT eu l2=true›) (z4e hI0 ‹isT (hd l1).text l1=true›))
  |((refine xq ?_);(have hE:=z4c hI0 ‹isT (hd l1).text l1=true› (by simp only[find,decls, *,reduceIte,Bool.false_eq_true]) hR);(obtain⟨rfl,rfl,rfl⟩:=hE);refine mQ ?_;refine fin_step' [(1000000,1000000),(1000001,1000001),(1000002,1000002),(1000003,1000003),(1000004,1000004),(1000005,1000005),(1000006,1000006),(1000007,1000007)] rfl ?_ ?_)
  |((refine xq ?_);(have hE:=z4d hI0 ‹isT (hd l1).text l1=true› (by simp only[find,decls, *,reduceIte,Bool.false_eq_true]) hR ‹isT eu l2=false›);(obtain⟨rfl,rfl,rfl⟩:=hE);refine mQ ?_;refine fin_step' [(1000000,1000000),(1000001,1000001),(1000002,1000002),(1000003,1000003),(1000004,1000004),(1000005,1000005),(1000006,1000006),(1000007,1000007)] rfl ?_ ?_)
  |((refine tX ?_);(have hE:=z4f hI0 ‹decide (((l1.map Tk.cs).length:Int)>0)=false›);(obtain⟨rfl,rfl,rfl⟩:=hE);refine kY ?_;(conv=>whnf);refine fin_step' [(1000000,1000000),(1000001,1000001),(1000002,1000002),(1000003,1000003),(1000004,1000004),(1000005,1000005),(1000006,1000006),(1000007,1000007)] rfl ?_ ?_)
  |((refine tX ?_);(have hE:=z4h hI0 ‹isT (hd l1).text l1=false›);(obtain⟨rfl,rfl,rfl⟩:=hE);refine kY ?_;(conv=>whnf);refine fin_step' [(1000000,1000000),(1000001,1000001),(1000002,1000002),(1000003,1000003),(1000004,1000004),(1000005,1000005),(1000006,1000006),(1000007,1000007)] rfl ?_ ?_)
  |((refine tX ?_);(have hE:=z4g hI0 (by simp only[find,decls, *,reduceIte,Bool.false_eq_true]));(obtain⟨rfl,rfl,rfl⟩:=hE);refine kY ?_;(conv=>whnf);refine fin_step' [(1000000,1000000),(1000001,1000001),(1000002,1000002),(1000003,1000003),(1000004,1000004),(1000005,1000005),(1000006,1000006),(1000007,1000007)] rfl ?_ ?_)
  |exact trivial
  |refine BrI.intro (λh=>?_) (λh=>?_)
  |((refine rQ ?_ ?_ ?_ ?_);exact⟨rfl,rfl⟩;exact rfl;exact MN ‹decide (((l1.map Tk.cs).length:Int)>0)=true›)
  |(refine z9i (λh1=>?_) (λh0 h1=>?_) (λh0 h00 h1=>?_) (λh0 h00 h000 h1=>?_) (λh0 h00 h000 h0000=>?_))
  |((refine ak.mk 0 ?_);refine⟨jI (λ(q:(Nat)×(Pr)×(List Tk))=>match q with |(n,p,l1)=>[]) (λ(q:(Nat)×(Pr)×(List Tk))=>match q with |(n,p,l1)=>[(1000000,pB l1 e 0),(1000001,xB p),(1000002,.tok 3 (p.params.map Bd.cs).length),(1000003,.tok 3 (p.states.map Bd.cs).length),(1000004,.tok 4 (p.lines.map Ln.cs).length),(1000005,.tok 2 (p.tables.map Tb.cs).length),(1000006,.tok 8 (p.stmts.map Sm.cs).length)]) [0,1,2] (λ(q:(Nat)×(Pr)×(List Tk))=>match q with |(n,p,l1)=>ItI decls (ok,p',l') n p l1) (λ(q:(Nat)×(Pr)×(List Tk))=>match q with |(n,p,l1)=>n),?_⟩;refine dD ((l.length),(p),(l)) ?_ ?_ (λ⟨n,p,l1⟩ hI0=>?_))
  |(refine aB.l _ ?_)
  |(refine And.intro ?_ ?_)
  |((refine oD ?_ ?_ ?_);exact rfl;exact rfl;(first |exact rfl |skip))
  |((refine aO ?_);refine dN ?_ ?_ ?_;exact rfl;exact rfl;(first |exact rfl |skip))
  |exact @rfl AV _
  |exact @rfl Block _
  |fail)
 all_goals first
  |(rfl)
  |((exact ItI.start hz hM))
  |skip
theorem A7(e:Int)(l:List Tk)(p:Pr)(ok:Bool)(p':Pr)(l':List Tk)(hz:Sz p l)(hM:gy stmts p l=(ok,p',l')):ax Tryz.prog 112 [.ptr 1000000 0,.ptr 1000001 0,.map 1000007] [(1000000,pB l e 0),(1000001,xB p),(1000002,.tok 3 (p.params.map Bd.cs).length),(1000003,.tok 3 (p.states.map Bd.cs).length),(1000004,.tok 4 (p.lines.map Ln.cs).length),(1000005,.tok 2 (p.tables.map Tb.cs).length),(1000006,.tok 8 (p.stmts.map Sm.cs).length),(1000007,.map false [.str] [(.str Zx,.fn 117 []),(.str Zy,.fn 118 []),(.str JF,.fn 119 []),(.str Zz,.fn 120 [])])] (Hl 119 e ok l') [(1000000,pB l' e 0),(1000001,xB p'),(1000002,.tok 3 (p'.params.map Bd.cs).length),(1000003,.tok 3 (p'.states.map Bd.cs).length),(1000004,.tok 4 (p'.lines.map Ln.cs).length),(1000005,.tok 2 (p'.tables.map Tb.cs).length),(1000006,.tok 8 (p'.stmts.map Sm.cs).length),(1000007,.map false [.str] [(.str Zx,.fn 117 []),(.str Zy,.fn 118 []),(.str JF,.fn 119 []),(.str Zz,.fn 120 [])])]:=by
 refine bg Tryz.func112 ?_
 repeat' ((try(conv=>whnf))<;>first
  |((refine wW (.data (.val (.bool false))) ?_ ?_ ?_);exact rfl;exact rfl)
  |((refine GM ?_ ?_);exact rfl)
  |((refine nU ?_ ?_);exact rfl)
  |((refine mP ?_ ?_);exact rfl)
  |((refine BD (λs l=>iD s l e 0) ?_);refine⟨_,_,_,rfl,rfl,rfl,λhT _=>?_,λhT=>?_⟩)
  |((refine BF (λs l=>iE s l e 0) ?_);refine⟨_,_,_,_,rfl,rfl,rfl,rfl,rfl,λhW _=>?_,λhW=>?_⟩)
  |((refine vC 117 (mf 1 p (l1.drop 1)) (λp1 l2=>⟨λhR=>?_,λhR=>?_⟩));(refine lent_step' [(1000000,1000000),(1000001,1000001),(1000002,1000002),(1000003,1000003),(1000004,1000004),(1000005,1000005),(1000006,1000006)] (NJ e (l1.drop 1) p true p1 l2 (hI0.sz.le (by simp)) hR) rfl ⟨rfl,rfl,rfl,rfl,rfl,rfl,rfl,trivial⟩ rfl ?_);rotate_left;(refine lent_step' [(1000000,1000000),(1000001,1000001),(1000002,1000002),(1000003,1000003),(1000004,1000004),(1000005,1000005),(1000006,1000006)] (NJ e (l1.drop 1) p false p1 l2 (hI0.sz.le (by simp)) hR) rfl ⟨rfl,rfl,rfl,rfl,rfl,rfl,rfl,trivial⟩ rfl ?_))
  |((refine vC 118 (mf 2 p (l1.drop 1)) (λp1 l2=>⟨λhR=>?_,λhR=>?_⟩));(refine lent_step' [(1000000,1000000),(1000001,1000001),(1000002,1000002),(1000003,1000003),(1000004,1000004),(1000005,1000005),(1000006,1000006)] (NK e (l1.drop 1) p true p1 l2 (hI0.sz.le (by simp)) hR) rfl ⟨rfl,rfl,rfl,rfl,rfl,rfl,rfl,trivial⟩ rfl ?_);rotate_left;(refine lent_step' [(1000000,1000000),(1000001,1000001),(1000002,1000002),(1000003,1000003),(1000004,1000004),(1000005,1000005),(1000006,1000006)] (NK e (l1.drop 1) p false p1 l2 (hI0.sz.le (by simp)) hR) rfl ⟨rfl,rfl,rfl,rfl,rfl,rfl,rfl,trivial⟩ rfl ?_))
  |((refine vC 119 (mf 3 p (l1.drop 1)) (λp1 l2=>⟨λhR=>?_,λhR=>?_⟩));(refine lent_step' [(1000000,1000000),(1000001,1000001),(1000002,1000002),(1000003,1000003),(1000004,1000004),(1000005,1000005),(1000006,1000006)] (Ij e (l1.drop 1) p true p1 l2 (hI0.sz.le (by simp)) hR) rfl ⟨rfl,rfl,rfl,rfl,rfl,rfl,rfl,trivial⟩ rfl ?_);rotate_left;(refine lent_step' [(1000000,1000000),(1000001,1000001),(1000002,1000002),(1000003,1000003),(1000004,1000004),(1000005,1000005),(1000006,1000006)] (Ij e (l1.drop 1) p false p1 l2 (hI0.sz.le (by simp)) hR) rfl ⟨rfl,rfl,rfl,rfl,rfl,rfl,rfl,trivial⟩ rfl ?_))
  |((refine vC 120 (mf 4 p (l1.drop 1)) (λp1 l2=>⟨λhR=>?_,λhR=>?_⟩));(refine lent_step' [(1000000,1000000),(1000001,1000001),(1000002,1000002),(1000003,1000003),(1000004,1000004),(1000005,1000005),(1000006,1000006)] (NL e (l1.drop 1) p true p1 l2 (hI0.sz.le (by simp)) hR) rfl ⟨rfl,rfl,rfl,rfl,rfl,rfl,rfl,trivial⟩ rfl ?_);rotate_left;(refine lent_step' [(1000000,1000000),(1000001,1000001),(1000002,1000002),(1000003,1000003),(1000004,1000004),(1000005,1000005),(1000006,1000006)] (NL e (l1.drop 1) p false p1 l2 (hI0.sz.le (by simp)) hR) rfl ⟨rfl,rfl,rfl,rfl,rfl,rfl,rfl,trivial⟩ rfl ?_))
  |(refine bD (n-1,p1,l2.drop 1) ?_ (z9j hI0 ‹isT (hd l1).text l1=true› (by simp only[find,stmts, *,reduceIte,Bool.false_eq_true]) hR (by first |exact Ez hR |exact EC hR |exact JM hR |exact ED hR |exact xu hR) ‹isT eu l2=true›) (z4e hI0 ‹isT (hd l1).text l1=true›))
  |((refine xq ?_);(have hE:=z4c hI0 ‹isT (hd l1).text l1=true› (by simp only[find,stmts, *,reduceIte,Bool.false_eq_true]) hR);(obtain⟨rfl,rfl,rfl⟩:=hE);refine mQ ?_;refine fin_step' [(1000000,1000000),(1000001,1000001),(1000002,1000002),(1000003,1000003),(1000004,1000004),(1000005,1000005),(1000006,1000006),(1000007,1000007)] rfl ?_ ?_)
  |((refine xq ?_);(have hE:=z4d hI0 ‹isT (hd l1).text l1=true› (by simp only[find,stmts, *,reduceIte,Bool.false_eq_true]) hR ‹isT eu l2=false›);(obtain⟨rfl,rfl,rfl⟩:=hE);refine mQ ?_;refine fin_step' [(1000000,1000000),(1000001,1000001),(1000002,1000002),(1000003,1000003),(1000004,1000004),(1000005,1000005),(1000006,1000006),(1000007,1000007)] rfl ?_ ?_)
  |((refine tX ?_);(have hE:=z4f hI0 ‹decide (((l1.map Tk.cs).length:Int)>0)=false›);(obtain⟨rfl,rfl,rfl⟩:=hE);refine kY ?_;(conv=>whnf);refine fin_step' [(1000000,1000000),(1000001,1000001),(1000002,1000002),(1000003,1000003),(1000004,1000004),(1000005,1000005),(1000006,1000006),(1000007,1000007)] rfl ?_ ?_)
  |((refine tX ?_);(have hE:=z4h hI0 ‹isT (hd l1).text l1=false›);(obtain⟨rfl,rfl,rfl⟩:=hE);refine kY ?_;(conv=>whnf);refine fin_step' [(1000000,1000000),(1000001,1000001),(1000002,1000002),(1000003,1000003),(1000004,1000004),(1000005,1000005),(1000006,1000006),(1000007,1000007)] rfl ?_ ?_)
  |((refine tX ?_);(have hE:=z4g hI0 (by simp only[find,stmts, *,reduceIte,Bool.false_eq_true]));(obtain⟨rfl,rfl,rfl⟩:=hE);refine kY ?_;(conv=>whnf);refine fin_step' [(1000000,1000000),(1000001,1000001),(1000002,1000002),(1000003,1000003),(1000004,1000004),(1000005,1000005),(1000006,1000006),(1000007,1000007)] rfl ?_ ?_)
  |exact trivial
  |refine BrI.intro (λh=>?_) (λh=>?_)
  |((refine rQ ?_ ?_ ?_ ?_);exact⟨rfl,rfl⟩;exact rfl;exact MN ‹decide (((l1.map Tk.cs).length:Int)>0)=true›)
  |(refine z9i (λh1=>?_) (λh0 h1=>?_) (λh0 h00 h1=>?_) (λh0 h00 h000 h1=>?_) (λh0 h00 h000 h0000=>?_))
  |((refine ak.mk 0 ?_);refine⟨jI (λ(q:(Nat)×(Pr)×(List Tk))=>match q with |(n,p,l1)=>[]) (λ(q:(Nat)×(Pr)×(List Tk))=>match q with |(n,p,l1)=>[(1000000,pB l1 e 0),(1000001,xB p),(1000002,.tok 3 (p.params.map Bd.cs).length),(1000003,.tok 3 (p.states.map Bd.cs).length),(1000004,.tok 4 (p.lines.map Ln.cs).length),(1000005,.tok 2 (p.tables.map Tb.cs).length),(1000006,.tok 8 (p.stmts.map Sm.cs).length)]) [0,1,2] (λ(q:(Nat)×(Pr)×(List Tk))=>match q with |(n,p,l1)=>ItI stmts (ok,p',l') n p l1) (λ(q:(Nat)×(Pr)×(List Tk))=>match q with |(n,p,l1)=>n),?_⟩;refine dD ((l.length),(p),(l)) ?_ ?_ (λ⟨n,p,l1⟩ hI0=>?_))
  |(refine aB.l _ ?_)
  |(refine And.intro ?_ ?_)
  |((refine oD ?_ ?_ ?_);exact rfl;exact rfl;(first |exact rfl |skip))
  |((refine aO ?_);refine dN ?_ ?_ ?_;exact rfl;exact rfl;(first |exact rfl |skip))
  |exact @rfl AV _
  |exact @rfl Block _
  |fail)
 all_goals first
  |(rfl)
  |((exact ItI.start hz hM))
  |skip
theorem UU(l:List Tk)(e:Int)(o:Option (Pr))(l':List Tk)(hl:l.length<=1073741823)(hM:kV l=(o,l')):ax Tryz.prog 72 [.ptr 1000000 0] [(1000000,pB l e 0)] (jZ 119 (λp:Pr=>p.d) e o l') [(1000000,pB l' e 0)]:=by
 refine kP tok hmix ⟨[11],[]⟩ Tryz.func72 rfl (by kernel_rfl) (by kernel_rfl) (by kernel_rfl) λhf=>?_
 clear hf
 repeat' ((try(conv=>whnf))<;>first
  |((refine BF (λs l=>iE s l e 0) ?_);refine⟨_,_,_,_,rfl,rfl,rfl,rfl,rfl,λhW _=>?_,λhW=>?_⟩)
  |((refine kG (d:=0) [] (λl=>jP l e 0) ?_);refine⟨_,_,rfl,rfl,rfl,λs1 l1 h_s1=>?_,λl1 h_s1=>?_⟩)
  |((refine TC (d:=0) fZ (λl=>(hd l).n) TA (λl=>iM l e 0) ?_);refine⟨_,_,rfl,rfl,rfl,λ_=>?_,λhN=>absurd (h.symm.trans hN) Bool.noConfusion⟩)
  |((refine kG (d:=0) [] (λl=>iM l e 0) ?_);refine⟨_,_,rfl,rfl,rfl,λa1 l2 h_a1=>?_,λl2 h_a1=>?_⟩)
  |((refine ak.mk 11 ?_);refine⟨⟨Sy.Str×Int×Int×List Tk,λ_=>[],λ(q:Sy.Str×Int×Int×List Tk)=>match q with |(s,a,t,l1)=>[(2,.cells [.data (.str s),.data (.i a),.data (.i t),.gs 900100 3 [],.gs 900101 3 [],.gs 900102 4 [],.gs 900103 2 [],.gs 900104 8 []]),(900100,.tok 3 0),(900101,.tok 3 0),(900102,.tok 4 0),(900103,.tok 2 0),(900104,.tok 8 0),(1000000,pB l1 e 0)],[0,2],λ(q:Sy.Str×Int×Int×List Tk)=>match q with |(s,a,t,l1)=>vF s a t l1=(o,l')/\l1.length<=l.length,λ_=>0⟩,?_,?_⟩;rotate_left;rintro⟨s,a,t,l1⟩ hI)
  |(refine⟨(s1,a1,(hd (l2.drop 1)).n,((l2.drop 1).drop 1).drop 1),ZV hM ‹isT wProcessor l=true› h_s1 ‹isT dP l1=true› h_a1 ‹isT wTail l2=true› ‹fZ (l2.drop 1)=true› ‹isT sBra ((l2.drop 1).drop 1)=true›,?_⟩)
  |(refine⟨(s1,a1,-1,((l2.drop 1).drop 1).drop 1),ZX hM ‹isT wProcessor l=true› h_s1 ‹isT dP l1=true› h_a1 ‹isT wTail l2=true› ‹fZ (l2.drop 1)=false› ‹isT fC (l2.drop 1)=true› ‹isT sBra ((l2.drop 1).drop 1)=true›,?_⟩)
  |((refine vC 112 (gy decls (p0 s a t) l1) (λp1 l2=>⟨λhR1=>?_,λhR1=>?_⟩));(refine lent_step' [(1000000,1000000),(1000001,2),(1000002,900100),(1000003,900101),(1000004,900102),(1000005,900103),(1000006,900104),(1000007,31)] (AZ e l1 (p0 s a t) true p1 l2 (sz0 (Nat.le_trans hI.2 hl)) hR1) rfl ⟨rfl,rfl,rfl,rfl,rfl,rfl,rfl,rfl,trivial⟩ rfl ?_);rotate_left;(refine lent_step' [(1000000,1000000),(1000001,2),(1000002,900100),(1000003,900101),(1000004,900102),(1000005,900103),(1000006,900104),(1000007,31)] (AZ e l1 (p0 s a t) false p1 l2 (sz0 (Nat.le_trans hI.2 hl)) hR1) rfl ⟨rfl,rfl,rfl,rfl,rfl,rfl,rfl,rfl,trivial⟩ rfl ?_))
  |((refine vC 112 (gy stmts p1 l2) (λp2 l3=>⟨λhR2=>?_,λhR2=>?_⟩));(refine lent_step' [(1000000,1000000),(1000001,2),(1000002,900100),(1000003,900101),(1000004,900102),(1000005,900103),(1000006,900104),(1000007,35)] (A7 e l2 p1 true p2 l3 (Hq hR1 (sz0 (Nat.le_trans hI.2 hl))) hR2) rfl ⟨rfl,rfl,rfl,rfl,rfl,rfl,rfl,rfl,trivial⟩ rfl ?_);rotate_left;(refine lent_step' [(1000000,1000000),(1000001,2),(1000002,900100),(1000003,900101),(1000004,900102),(1000005,900103),(1000006,900104),(1000007,35)] (A7 e l2 p1 false p2 l3 (Hq hR1 (sz0 (Nat.le_trans hI.2 hl))) hR2) rfl ⟨rfl,rfl,rfl,rfl,rfl,rfl,rfl,rfl,trivial⟩ rfl ?_))
  |((refine bi ?_);(have hE:=ZY hI.1 hR1);(obtain⟨rfl,rfl⟩:=hE);refine aT ?_;refine fin_step' [(1000000,1000000)] rfl ?_ ?_)
  |((refine bi ?_);(have hE:=ZZ hI.1 hR1 hR2);(obtain⟨rfl,rfl⟩:=hE);refine aT ?_;refine fin_step' [(1000000,1000000)] rfl ?_ ?_)
  |((refine bi ?_);(have hE:=Z4 hI.1 hR1 hR2 ‹isT C9 l3=false›);(obtain⟨rfl,rfl⟩:=hE);refine aT ?_;refine fin_step' [(1000000,1000000)] rfl ?_ ?_)
  |((refine jv ?_);(have hE:=z4i hI.1 hR1 hR2 ‹isT C9 l3=true›);(obtain⟨rfl,rfl⟩:=hE);refine gV ?_;(conv=>whnf);refine fin_step' [(1000000,1000000)] rfl ?_ ?_)
  |((refine bi ?_);(have hE:=ZW hM ‹isT wProcessor l=true› h_s1 ‹isT dP l1=true› h_a1 ‹isT wTail l2=true› ‹fZ (l2.drop 1)=true› ‹isT sBra ((l2.drop 1).drop 1)=false›);(obtain⟨rfl,rfl⟩:=hE);refine aT ?_;refine fin_step' [(1000000,1000000)] rfl ?_ ?_)
  |((refine bi ?_);(try simp only[Bool.not_true,Bool.not_false,cond_true,cond_false,bne,Bool.not_eq_true',Bool.not_eq_false']at *);(simp only[vG,bnd,aN,reduceIte,Bool.false_eq_true, *]at hM);(obtain⟨rfl,rfl⟩:=fE hM);refine aT ?_;refine fin_step' [(1000000,1000000)] rfl ?_ ?_)
  |exact trivial
  |refine BrI.intro (λh=>?_) (λh=>?_)
  |((refine ed ?_ ?_);exact rfl)
  |((refine dZ ?_ ?_ ?_);rotate_left;(exact jh _ _ _))
  |(refine aB.l _ ?_)
  |((refine bW ?_ ?_ ?_ ?_ ?_ ?_)<;>exact rfl)
  |((refine dm ?_ ?_ ?_ ?_)<;>exact rfl)
  |(refine And.intro ?_ ?_)
  |exact @rfl AV _
  |fail)
 all_goals first
  |(rfl)
  |skip
theorem UV(es:List (List D))(d1 d2:D)(v:Int):Gp Tryz.prog 71 [.ptr 1000000 0,.ptr 1000001 0,.ptr 1000002 0] (some (.iface 119 (.agg [.i v]))) [(1000000,.cells [.gs 1000003 8 es]),(1000001,.cells [.data d1]),(1000002,.cells [.data d2]),(1000003,.tok 8 es.length)]
  [(1000000,.cells [.nilsl 8]),(1000001,.cells [.data (.i v)]),(1000002,.cells [.data (.i 140)]),(1000003,.tok 8 es.length)]:=by
 refine iJ tok hmix Tryz.func71 rfl (by kernel_rfl) (by kernel_rfl) (by kernel_rfl) ?_
 repeat' ((try(conv=>whnf))<;>first
  |exact trivial
  |((refine aH ?_ ?_);kernel_rfl)
  |(refine⟨([]:List (Nat×Nat)),?_⟩)
  |(refine⟨by kernel_rfl,?_⟩)
  |(refine⟨rfl,?_⟩)
  |(refine⟨?_,?_⟩)
  |fail)
theorem Xq(es:List (List D))(d1 d2:D):Gp Tryz.prog 71 [.ptr 1000000 0,.ptr 1000001 0,.ptr 1000002 0] none [(1000000,.cells [.gs 1000003 8 es]),(1000001,.cells [.data d1]),(1000002,.cells [.data d2]),(1000003,.tok 8 es.length)] [(1000000,.cells [.gs 1000003 8 es]),(1000001,.cells [.data d1]),(1000002,.cells [.data d2]),(1000003,.tok 8 es.length)]:=by
 refine iJ tok hmix Tryz.func71 rfl (by kernel_rfl) (by kernel_rfl) (by kernel_rfl) ?_
 repeat' ((try(conv=>whnf))<;>first
  |exact trivial
  |(refine⟨([]:List (Nat×Nat)),?_⟩)
  |(refine⟨by kernel_rfl,?_⟩)
  |(refine⟨rfl,?_⟩)
  |(refine⟨?_,?_⟩)
  |fail)
theorem pY(l:List Tk)(e:Int)(hl:l.length<=1073741823):aj Tryz.prog 28 [.sl 4 (l.map Tk.cs),.i e] (.ret (readD e (jV l))):=by
 refine bV Tryz.func28 ?_
 repeat' ((try(conv=>whnf))<;>first
  |((refine iP _ _ _ [true,true,true] ?_ ?_ ?_);exact rfl;kernel_rfl)
  |((refine quiet_step ?_ ?_);kernel_rfl)
  |((refine z3w (d:=0) Z7 (λl=>l.length<=1073741823) (λl o l' hl h=>UU l e o l' hl h) ?_);refine⟨_,_,rfl,rfl,rfl,z7e hI0,λp l2 h_p=>?_,λl2 h_p=>?_⟩)
  |(refine bD (n-1,ps++[p],l2) ?_ (z4l hI0 ‹decide (((l1.map Tk.cs).length:Int)>0)=true› h_p) (Z5 hI0 ‹decide (((l1.map Tk.cs).length:Int)>0)=true›))
  |((refine JL ?_);refine⟨_,_,_,[(1000000,4),(1000001,5),(1000002,6),(1000003,900200)],Xq _ _ _,rfl,⟨rfl,rfl,rfl,rfl,trivial⟩,rfl,?_⟩;(rw[z4m hI0 ‹decide (((l1.map Tk.cs).length:Int)>0)=false›]);(conv=>whnf);refine fin_step' [] rfl ?_ ?_)
  |((rw[z4k hI0 ‹decide (((l1.map Tk.cs).length:Int)>0)=true› h_p]);(refine fK ?_);refine⟨_,_,_,[(1000000,4),(1000001,5),(1000002,6),(1000003,900200)],UV _ _ _ _,rfl,⟨rfl,rfl,rfl,rfl,trivial⟩,rfl,?_⟩;(conv=>whnf);refine fin_step' [] rfl ?_ ?_)
  |exact trivial
  |refine BrI.intro (λh=>?_) (λh=>?_)
  |((refine ak.mk 0 ?_);refine⟨jI (λ(q:(Nat)×(List Pr)×(List Tk))=>match q with |(n,ps,l1)=>[]) (λ(q:(Nat)×(List Pr)×(List Tk))=>match q with |(n,ps,l1)=>[(4,.cells [.gs 900200 8 (ps.map Pr.cs)]),(900200,.tok 8 (ps.map Pr.cs).length),(12,pB l1 e 0)]) [4,5,6,7,999999] (λ(q:(Nat)×(List Pr)×(List Tk))=>match q with |(n,ps,l1)=>RdI (jV l) n ps l1) (λ(q:(Nat)×(List Pr)×(List Tk))=>match q with |(n,ps,l1)=>n),?_⟩;refine dD ((l.length),([]),(l)) ?_ ?_ (λ⟨n,ps,l1⟩ hI0=>?_))
  |(refine aB.l _ ?_)
  |((refine bW ?_ ?_ ?_ ?_ ?_ ?_)<;>exact rfl)
  |((refine dm ?_ ?_ ?_ ?_)<;>exact rfl)
  |((refine app_step' ?_ ?_ ?_ ?_ ?_ ?_ ?_);exact rfl;exact rfl;exact rfl;exact rfl)
  |((refine aH ?_ ?_);kernel_rfl)
  |((refine je ?_ ?_);kernel_rfl)
  |(refine And.intro ?_ ?_)
  |((refine oD ?_ ?_ ?_);exact rfl;exact rfl;(first |exact dO |skip))
  |((refine fH ?_ ?_);exact rfl;(first |exact dO |skip))
  |exact @rfl AV _
  |exact eX rfl
  |fail)
 all_goals first
  |(rfl)
  |((exact z4j hl))
  |((exact WH hI0))
  |skip
end Go.Proofs.YtmfehangcmbidaaGreatDoor
