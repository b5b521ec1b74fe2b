/- The bridge of the seat of syntax: processors as arguments. -/
import Derived.Test.YtmfehangcmbidaaGreatDoorZYP1
import Derived.Test.YtmfehangcmbidaaGreatDoorZSP21
set_option linter.unusedSectionVars false
set_option linter.unusedSimpArgs false
set_option linter.unusedVariables false
namespace Go.Proofs.YtmfehangcmbidaaGreatDoor
open Go.Fw Go.Fw.Lx Go.Fw.Sy
set_option maxRecDepth 10000
section
variable [ae] {ds : List D} {n m : Nat}
theorem z9v{n:Int}(h1:-9223372036854775808<=n)(h2:n<=9223372036854775807):tsz (dQ n)<=24:=by
 have key:∀m:Int,-9223372036854775808<=m->m<=9223372036854775807->(word (nu m)).length<=21:=λm a b=>by
  have:=BR (t:=nu m) ⟨a,b⟩
  simpa using this
 unfold dQ
 split
 ·rw[bI,bI,dD,JC]
  have:(word (nu (IntKind.i64.wrap (0-n)))).length<=21:=by
   rcases Int.lt_or_eq_of_le h1 with h |h
   ·rw[gW (by omega) (by omega)];exact key _ (by omega) (by omega)
   ·rw[<-h];exact key _ (by decide) (by decide)
  simp only[List.length_cons,List.length_nil];omega
 ·rw[bI,dD];have:=key n h1 h2;omega
theorem MQ{T:Tbl}{α:Type}{f:α->List D}{w:α->Nat}{n:Nat}{e:TypeId}(h:∀m x,typed T n e m x->∃y,x=f y/\w y<=100 * m):∀(es:List (List D)) (m:Nat),DK (typed T n e) es m->∃ys:List α,es=ys.map f/\(ys.map w).sum<=100 * m
 | [],_,_=>⟨[],rfl,by simp⟩
 |x::r,m,hm=>by
  obtain⟨m1,m2,h1,h2,h3⟩:=hm
  obtain⟨y,rfl,hw⟩:=h m1 x h2
  obtain⟨ys,rfl,hs⟩:=MQ h r m2 h3
  exact⟨y::ys,rfl,by simp only[List.map_cons,List.sum_cons];omega⟩
theorem xH{T:Tbl}{α:Type}{f:α->List D}{w:α->Nat}{t e:TypeId}(ht:(T.at t).ty = .slice e)(hm:typed T n t m ds)(h:∀k,k<n->∀m x,typed T k e m x->∃y,x=f y/\w y<=100 * m) :
  ∃ys:List α,ds = [.sl (T.at e).size (ys.map f)]/\(ys.map w).sum+100<=100 * m:=by
 cases n with
 |zero=>exact hm.elim
 |succ n=>
  simp only[typed,ht]at hm
  obtain⟨m',es,h1,rfl,h2⟩:=hm
  obtain⟨ys,rfl,hs⟩:=MQ (h n (Nat.lt_succ_self n)) es m' h2
  exact⟨ys,rfl,by omega⟩
theorem mr(hm:typed Tryz.T n 3 m ds):∃v:Int,ds = [.i v]/\tsz (dQ v)<=24/\1<=m:=by
 obtain⟨v,rfl,a,b⟩:=z4b (k:=.i64) rfl hm
 exact⟨v,rfl,z9v a b,QW hm⟩
theorem z14(h:typed Tryz.T n 93 m ds):∃l:List Int,ds = [ints l]/\(l.map vw).sum+100<=100 * m:=
 xH (f:=λv:Int=>[D.i v]) (w:=vw) (e:=3) rfl h (λk _ m x hx=>by
  obtain⟨v,rfl,a,b⟩:=mr hx
  exact⟨v,rfl,by unfold vw;omega⟩)
theorem z7l(h:typed Tryz.T n 90 m ds):∃b:Bd,ds=b.cs/\bw b<=100 * m:=by
 obtain⟨k,m',_,hm,g0⟩:=fields_of (fs:=[(0,9),(1,3),(2,3)]) rfl h
 obtain⟨_,_,_,_,a1,e1,h1,g1⟩:=dB g0
 obtain⟨_,_,_,_,a2,e2,h2,g2⟩:=dB g1
 obtain⟨_,_,_,_,a3,e3,h3,g3⟩:=dB g2
 obtain⟨s,rfl,b1⟩:=zK rfl h1
 obtain⟨a,rfl,b2,c2⟩:=mr h2
 obtain⟨b,rfl,b3,c3⟩:=mr h3
 have g:_ = []:=g3
 subst g
 subst e3
 subst e2
 subst e1
 exact⟨⟨s,a,b⟩,rfl,by unfold bw;simp only;omega⟩
theorem z9w(h:typed Tryz.T n 115 m ds):∃b:Ln,ds=b.cs/\lw b<=100 * m:=by
 obtain⟨k,m',_,hm,g0⟩:=fields_of (fs:=[(0,9),(1,3),(2,3),(3,3)]) rfl h
 obtain⟨_,_,_,_,a1,e1,h1,g1⟩:=dB g0
 obtain⟨_,_,_,_,a2,e2,h2,g2⟩:=dB g1
 obtain⟨_,_,_,_,a3,e3,h3,g3⟩:=dB g2
 obtain⟨_,_,_,_,a4,e4,h4,g4⟩:=dB g3
 obtain⟨s,rfl,b1⟩:=zK rfl h1
 obtain⟨a,rfl,b2,c2⟩:=mr h2
 obtain⟨b,rfl,b3,c3⟩:=mr h3
 obtain⟨c,rfl,b4,c4⟩:=mr h4
 have g:_ = []:=g4
 subst g
 subst e4
 subst e3
 subst e2
 subst e1
 exact⟨⟨s,a,b,c⟩,rfl,by unfold lw;simp only;omega⟩
theorem z9x(h:typed Tryz.T n 95 m ds):∃b:Tb,ds=b.cs/\tbw b<=100 * m:=by
 obtain⟨k,m',_,hm,g0⟩:=fields_of (fs:=[(0,9),(1,93)]) rfl h
 obtain⟨_,_,_,_,a1,e1,h1,g1⟩:=dB g0
 obtain⟨_,_,_,_,a2,e2,h2,g2⟩:=dB g1
 obtain⟨s,rfl,b1⟩:=zK rfl h1
 obtain⟨l,rfl,b2⟩:=z14 h2
 have g:_ = []:=g2
 subst g
 subst e2
 subst e1
 exact⟨⟨s,l⟩,rfl,by unfold tbw;simp only;omega⟩
theorem Yn:∀l:List Ex,wL l=(l.map wX).sum
 | []=>rfl
 |x::r=>by simp only[wL,List.map_cons,List.sum_cons,Yn r]
theorem z9y:∀(n m:Nat) (ds:List D),typed Tryz.T n 60 m ds->∃x:Ex,ds=x.cs/\wX x<=100 * m:=by
 intro n
 induction n using Nat.strongRecOn with
 |ind n ih=>
  intro m ds h
  obtain⟨k,m',hk,hm,g0⟩:=fields_of (fs:=[(0,3),(1,9),(2,3),(3,3),(4,58)]) rfl h
  obtain⟨_,_,_,_,a1,e1,h1,g1⟩:=dB g0
  obtain⟨_,_,_,_,a2,e2,h2,g2⟩:=dB g1
  obtain⟨_,_,_,_,a3,e3,h3,g3⟩:=dB g2
  obtain⟨_,_,_,_,a4,e4,h4,g4⟩:=dB g3
  obtain⟨_,_,_,_,a5,e5,h5,g5⟩:=dB g4
  obtain⟨a,rfl,b1,c1⟩:=mr h1
  obtain⟨s,rfl,b2⟩:=zK rfl h2
  obtain⟨b,rfl,b3,c3⟩:=mr h3
  obtain⟨c,rfl,b4,c4⟩:=mr h4
  obtain⟨l,rfl,b5⟩:=xH (f:=Ex.cs) (w:=wX) (e:=60) rfl h5 (λj hj m x hx=>ih j (by omega) m x hx)
  have g:_ = []:=g5
  subst g
  subst e5
  subst e4
  subst e3
  subst e2
  subst e1
  refine⟨.mk a s b c l,?_,?_⟩
  ·show _ = [D.i a,D.str s,D.i b,D.i c,D.sl 5 (Ex.css l)]
   rw[Ex.css_eq];rfl
  ·rw[wX,Yn];omega
theorem z9z(h:typed Tryz.T n 65 m ds):∃s:Sm,ds=s.cs/\sw s<=100 * m:=by
 obtain⟨k,m',_,hm,g0⟩:=fields_of (fs:=[(0,3),(1,9),(2,3),(3,60)]) rfl h
 obtain⟨_,_,_,_,a1,e1,h1,g1⟩:=dB g0
 obtain⟨_,_,_,_,a2,e2,h2,g2⟩:=dB g1
 obtain⟨_,_,_,_,a3,e3,h3,g3⟩:=dB g2
 obtain⟨_,_,_,_,a4,e4,h4,g4⟩:=dB g3
 obtain⟨a,rfl,b1,c1⟩:=mr h1
 obtain⟨s,rfl,b2⟩:=zK rfl h2
 obtain⟨b,rfl,b3,c3⟩:=mr h3
 obtain⟨x,rfl,b4⟩:=z9y _ _ _ h4
 have g:_ = []:=g4
 subst g
 subst e4
 subst e3
 subst e2
 subst e1
 exact⟨⟨a,s,b,x⟩,rfl,by unfold sw;simp only;omega⟩
theorem z90(h:typed Tryz.T n 53 m ds):∃p:Pr,ds=p.cs/\wP p<=100 * m:=by
 obtain⟨k,m',_,hm,g0⟩:=fields_of (fs:=[(0,9),(1,3),(2,3),(3,48),(4,48),(5,49),(6,50),(7,51)]) rfl h
 obtain⟨_,_,_,_,a1,e1,h1,g1⟩:=dB g0
 obtain⟨_,_,_,_,a2,e2,h2,g2⟩:=dB g1
 obtain⟨_,_,_,_,a3,e3,h3,g3⟩:=dB g2
 obtain⟨_,_,_,_,a4,e4,h4,g4⟩:=dB g3
 obtain⟨_,_,_,_,a5,e5,h5,g5⟩:=dB g4
 obtain⟨_,_,_,_,a6,e6,h6,g6⟩:=dB g5
 obtain⟨_,_,_,_,a7,e7,h7,g7⟩:=dB g6
 obtain⟨_,_,_,_,a8,e8,h8,g8⟩:=dB g7
 obtain⟨s,rfl,b1⟩:=zK rfl h1
 obtain⟨a,rfl,b2,c2⟩:=mr h2
 obtain⟨b,rfl,b3,c3⟩:=mr h3
 obtain⟨l4,rfl,b4⟩:=xH (f:=Bd.cs) (w:=bw) (e:=90) rfl h4 (λj hj m x hx=>z7l hx)
 obtain⟨l5,rfl,b5⟩:=xH (f:=Bd.cs) (w:=bw) (e:=90) rfl h5 (λj hj m x hx=>z7l hx)
 obtain⟨l6,rfl,b6⟩:=xH (f:=Ln.cs) (w:=lw) (e:=115) rfl h6 (λj hj m x hx=>z9w hx)
 obtain⟨l7,rfl,b7⟩:=xH (f:=Tb.cs) (w:=tbw) (e:=95) rfl h7 (λj hj m x hx=>z9x hx)
 obtain⟨l8,rfl,b8⟩:=xH (f:=Sm.cs) (w:=sw) (e:=65) rfl h8 (λj hj m x hx=>z9z hx)
 have g:_ = []:=g8
 subst g
 subst e8
 subst e7
 subst e6
 subst e5
 subst e4
 subst e3
 subst e2
 subst e1
 exact⟨⟨s,a,b,l4,l5,l6,l7,l8⟩,rfl,by unfold wP;simp only;omega⟩
theorem z7m(h:typed Tryz.T n 22 m ds)(hm:m<=1048576):∃l:List Pr,ds = [prs l]/\(l.map wP).sum<=1073741823:=by
 obtain⟨l,rfl,b⟩:=xH (f:=Pr.cs) (w:=wP) (e:=53) rfl h (λj hj m x hx=>z90 hx)
 exact⟨l,rfl,by omega⟩
end
def z7n:List Nat:=[3,5,9,22,33,34,38,48,49,50,51,53,58,60,65,90,93,95,115]
theorem z15:oP Tryz.T z7n z7n=true:=by kernel_rfl
end Go.Proofs.YtmfehangcmbidaaGreatDoor
