/- The bridge of the seat of syntax: processors as arguments. -/
import Derived.Test.YtmfehangcmbidaaGreatDoorZYP1
import Derived.Test.YtmfehangcmbidaaGreatDoorZPR
set_option linter.unusedSectionVars false
set_option linter.unusedSimpArgs false
set_option linter.unusedVariables false
namespace Go.Proofs.YtmfehangcmbidaaGreatDoor
open Go.Fw Go.Fw.Lx Go.Fw.Sy
set_option maxRecDepth 10000
section
variable [ae] {ds : List D} {n m : Nat}
theorem z8h{n:Int}(h1:-9223372036854775808<=n)(h2:n<=9223372036854775807):tsz (gm n)<=24:=by
 have key:∀m:Int,-9223372036854775808<=m->m<=9223372036854775807->(word (nu m)).length<=21:=λm a b=>by
  have:=O0 (t:=nu m) ⟨a,b⟩
  simpa using this
 unfold gm
 split
 ·rw[cu,cu,dI,NE]
  have:(word (nu (IntKind.i64.wrap (0-n)))).length<=21:=by
   rcases Int.lt_or_eq_of_le h1 with h |h
   ·rw[eQ (by omega) (by omega)];exact key _ (by omega) (by omega)
   ·rw[<-h];exact key _ (by decide) (by decide)
  simp only[List.length_cons,List.length_nil];omega
 ·rw[cu,dI];have:=key n h1 h2;omega
theorem NI{T:Tbl}{α:Type}{f:α->List D}{w:α->Nat}{n:Nat}{e:TypeId}(h:∀m x,typed T n e m x->∃y,x=f y/\w y<=100 * m):∀(es:List (List D)) (m:Nat),Eg (typed T n e) es m->∃ys:List α,es=ys.map f/\(ys.map w).sum<=100 * m
 | [],_,_=>⟨[],rfl,by simp⟩
 |x::r,m,hm=>by
  obtain⟨m1,m2,h1,h2,h3⟩:=hm
  obtain⟨y,rfl,hw⟩:=h m1 x h2
  obtain⟨ys,rfl,hs⟩:=NI h r m2 h3
  exact⟨y::ys,rfl,by simp only[List.map_cons,List.sum_cons];omega⟩
theorem AX{T:Tbl}{α:Type}{f:α->List D}{w:α->Nat}{t e:TypeId}(ht:(T.at t).ty = .slice e)(hm:typed T n t m ds)(h:∀k,k<n->∀m x,typed T k e m x->∃y,x=f y/\w y<=100 * m) :
  ∃ys:List α,ds = [.sl (T.at e).size (ys.map f)]/\(ys.map w).sum+100<=100 * m:=by
 cases n with
 |zero=>exact hm.elim
 |succ n=>
  simp only[typed,ht]at hm
  obtain⟨m',es,h1,rfl,h2⟩:=hm
  obtain⟨ys,rfl,hs⟩:=NI (h n (Nat.lt_succ_self n)) es m' h2
  exact⟨ys,rfl,by omega⟩
theorem mV(hm:typed Tryz.T n 3 m ds):∃v:Int,ds = [.i v]/\tsz (gm v)<=24/\1<=m:=by
 obtain⟨v,rfl,a,b⟩:=z3i (k:=.i64) rfl hm
 exact⟨v,rfl,z8h a b,Sl hm⟩
theorem z1d(h:typed Tryz.T n 93 m ds):∃l:List Int,ds = [ints l]/\(l.map vw).sum+100<=100 * m:=
 AX (f:=λv:Int=>[D.i v]) (w:=vw) (e:=3) rfl h (λk _ m x hx=>by
  obtain⟨v,rfl,a,b⟩:=mV hx
  exact⟨v,rfl,by unfold vw;omega⟩)
theorem z6c(h:typed Tryz.T n 90 m ds):∃b:Bd,ds=b.cs/\bw b<=100 * m:=by
 obtain⟨k,m',_,hm,g0⟩:=fields_of (fs:=[(0,9),(1,3),(2,3)]) rfl h
 obtain⟨_,_,_,_,a1,e1,h1,g1⟩:=dw g0
 obtain⟨_,_,_,_,a2,e2,h2,g2⟩:=dw g1
 obtain⟨_,_,_,_,a3,e3,h3,g3⟩:=dw g2
 obtain⟨s,rfl,b1⟩:=CZ rfl h1
 obtain⟨a,rfl,b2,c2⟩:=mV h2
 obtain⟨b,rfl,b3,c3⟩:=mV h3
 have g:_ = []:=g3
 subst g
 subst e3
 subst e2
 subst e1
 exact⟨⟨s,a,b⟩,rfl,by unfold bw;simp only;omega⟩
theorem z8i(h:typed Tryz.T n 115 m ds):∃b:Ln,ds=b.cs/\lw b<=100 * m:=by
 obtain⟨k,m',_,hm,g0⟩:=fields_of (fs:=[(0,9),(1,3),(2,3),(3,3)]) rfl h
 obtain⟨_,_,_,_,a1,e1,h1,g1⟩:=dw g0
 obtain⟨_,_,_,_,a2,e2,h2,g2⟩:=dw g1
 obtain⟨_,_,_,_,a3,e3,h3,g3⟩:=dw g2
 obtain⟨_,_,_,_,a4,e4,h4,g4⟩:=dw g3
 obtain⟨s,rfl,b1⟩:=CZ rfl h1
 obtain⟨a,rfl,b2,c2⟩:=mV h2
 obtain⟨b,rfl,b3,c3⟩:=mV h3
 obtain⟨c,rfl,b4,c4⟩:=mV h4
 have g:_ = []:=g4
 subst g
 subst e4
 subst e3
 subst e2
 subst e1
 exact⟨⟨s,a,b,c⟩,rfl,by unfold lw;simp only;omega⟩
theorem z8j(h:typed Tryz.T n 95 m ds):∃b:Tb,ds=b.cs/\tbw b<=100 * m:=by
 obtain⟨k,m',_,hm,g0⟩:=fields_of (fs:=[(0,9),(1,93)]) rfl h
 obtain⟨_,_,_,_,a1,e1,h1,g1⟩:=dw g0
 obtain⟨_,_,_,_,a2,e2,h2,g2⟩:=dw g1
 obtain⟨s,rfl,b1⟩:=CZ rfl h1
 obtain⟨l,rfl,b2⟩:=z1d h2
 have g:_ = []:=g2
 subst g
 subst e2
 subst e1
 exact⟨⟨s,l⟩,rfl,by unfold tbw;simp only;omega⟩
theorem Yw:∀l:List Ex,wL l=(l.map wX).sum
 | []=>rfl
 |x::r=>by simp only[wL,List.map_cons,List.sum_cons,Yw r]
theorem z8k:∀(n m:Nat) (ds:List D),typed Tryz.T n 60 m ds->∃x:Ex,ds=x.cs/\wX x<=100 * m:=by
 intro n
 induction n using Nat.strongRecOn with
 |ind n ih=>
  intro m ds h
  obtain⟨k,m',hk,hm,g0⟩:=fields_of (fs:=[(0,3),(1,9),(2,3),(3,3),(4,58)]) rfl h
  obtain⟨_,_,_,_,a1,e1,h1,g1⟩:=dw g0
  obtain⟨_,_,_,_,a2,e2,h2,g2⟩:=dw g1
  obtain⟨_,_,_,_,a3,e3,h3,g3⟩:=dw g2
  obtain⟨_,_,_,_,a4,e4,h4,g4⟩:=dw g3
  obtain⟨_,_,_,_,a5,e5,h5,g5⟩:=dw g4
  obtain⟨a,rfl,b1,c1⟩:=mV h1
  obtain⟨s,rfl,b2⟩:=CZ rfl h2
  obtain⟨b,rfl,b3,c3⟩:=mV h3
  obtain⟨c,rfl,b4,c4⟩:=mV h4
  obtain⟨l,rfl,b5⟩:=AX (f:=Ex.cs) (w:=wX) (e:=60) rfl h5 (λj hj m x hx=>ih j (by omega) m x hx)
  have g:_ = []:=g5
  subst g
  subst e5
  subst e4
  subst e3
  subst e2
  subst e1
  refine⟨.mk a s b c l,?_,?_⟩
  ·show _ = [D.i a,D.str s,D.i b,D.i c,D.sl 5 (Ex.css l)]
   rw[Ex.css_eq];rfl
  ·rw[wX,Yw];omega
theorem z8l(h:typed Tryz.T n 65 m ds):∃s:Sm,ds=s.cs/\sw s<=100 * m:=by
 obtain⟨k,m',_,hm,g0⟩:=fields_of (fs:=[(0,3),(1,9),(2,3),(3,60)]) rfl h
 obtain⟨_,_,_,_,a1,e1,h1,g1⟩:=dw g0
 obtain⟨_,_,_,_,a2,e2,h2,g2⟩:=dw g1
 obtain⟨_,_,_,_,a3,e3,h3,g3⟩:=dw g2
 obtain⟨_,_,_,_,a4,e4,h4,g4⟩:=dw g3
 obtain⟨a,rfl,b1,c1⟩:=mV h1
 obtain⟨s,rfl,b2⟩:=CZ rfl h2
 obtain⟨b,rfl,b3,c3⟩:=mV h3
 obtain⟨x,rfl,b4⟩:=z8k _ _ _ h4
 have g:_ = []:=g4
 subst g
 subst e4
 subst e3
 subst e2
 subst e1
 exact⟨⟨a,s,b,x⟩,rfl,by unfold sw;simp only;omega⟩
theorem z8m(h:typed Tryz.T n 53 m ds):∃p:Pr,ds=p.cs/\wP p<=100 * m:=by
 obtain⟨k,m',_,hm,g0⟩:=fields_of (fs:=[(0,9),(1,3),(2,3),(3,48),(4,48),(5,49),(6,50),(7,51)]) rfl h
 obtain⟨_,_,_,_,a1,e1,h1,g1⟩:=dw g0
 obtain⟨_,_,_,_,a2,e2,h2,g2⟩:=dw g1
 obtain⟨_,_,_,_,a3,e3,h3,g3⟩:=dw g2
 obtain⟨_,_,_,_,a4,e4,h4,g4⟩:=dw g3
 obtain⟨_,_,_,_,a5,e5,h5,g5⟩:=dw g4
 obtain⟨_,_,_,_,a6,e6,h6,g6⟩:=dw g5
 obtain⟨_,_,_,_,a7,e7,h7,g7⟩:=dw g6
 obtain⟨_,_,_,_,a8,e8,h8,g8⟩:=dw g7
 obtain⟨s,rfl,b1⟩:=CZ rfl h1
 obtain⟨a,rfl,b2,c2⟩:=mV h2
 obtain⟨b,rfl,b3,c3⟩:=mV h3
 obtain⟨l4,rfl,b4⟩:=AX (f:=Bd.cs) (w:=bw) (e:=90) rfl h4 (λj hj m x hx=>z6c hx)
 obtain⟨l5,rfl,b5⟩:=AX (f:=Bd.cs) (w:=bw) (e:=90) rfl h5 (λj hj m x hx=>z6c hx)
 obtain⟨l6,rfl,b6⟩:=AX (f:=Ln.cs) (w:=lw) (e:=115) rfl h6 (λj hj m x hx=>z8i hx)
 obtain⟨l7,rfl,b7⟩:=AX (f:=Tb.cs) (w:=tbw) (e:=95) rfl h7 (λj hj m x hx=>z8j hx)
 obtain⟨l8,rfl,b8⟩:=AX (f:=Sm.cs) (w:=sw) (e:=65) rfl h8 (λj hj m x hx=>z8l hx)
 have g:_ = []:=g8
 subst g
 subst e8
 subst e7
 subst e6
 subst e5
 subst e4
 subst e3
 subst e2
 subst e1
 exact⟨⟨s,a,b,l4,l5,l6,l7,l8⟩,rfl,by unfold wP;simp only;omega⟩
end
def z6d:List Nat:=[3,5,9,22,33,34,38,48,49,50,51,53,58,60,65,90,93,95,115]
theorem z1e:pJ Tryz.T z6d z6d=true:=by kernel_rfl
end Go.Proofs.YtmfehangcmbidaaGreatDoor
