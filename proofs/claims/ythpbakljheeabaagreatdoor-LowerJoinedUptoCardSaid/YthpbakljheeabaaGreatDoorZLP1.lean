/- The bridge of the seat of lower: package variables; the arguments; a world for the witness. -/
import Derived.Test.YthpbakljheeabaaGreatDoorCards
import Derived.Test.YthpbakljheeabaaGreatDoorTie
import Derived.Deep.DeepHandedRow
import Derived.Lib.LaidTab
import Derived.Test.YthpbakljheeabaaGreatDoorZK7
import Derived.Test.YthpbakljheeabaaGreatDoorZK6
import Derived.Test.YthpbakljheeabaaGreatDoorZRB
import Derived.Test.YthpbakljheeabaaGreatDoorZMA
set_option linter.unusedSectionVars false
set_option linter.unusedSimpArgs false
set_option linter.unusedVariables false
namespace Go.Proofs.YthpbakljheeabaaGreatDoor
open Go.Fw Go.Fw.Ref15 Go.Fw.Rg Go.ChangeShapes Go.WideShapes Go.RowKit
set_option maxRecDepth 100000
theorem Js{P:Program}{W:World}{n:String}{g:Nat}{cs:Array Value}(hg:P.globalNamed n=some g)(h:W.var? P n=some cs):∃t fr,W.heap[g]? = some (.cells cs t fr):=by
 unfold World.var? at h
 simp only[hg,Option.bind_some]at h
 split at h
 ·rename_i c t fr hh
  simp only[Option.some.injEq]at h
  subst h
  exact⟨t,fr,hh⟩
 ·cases h
theorem z98:Tryz.prog.globalNamed "soundpost/ranges.samples" = some 0:=by kernel_rfl
theorem z0l{W:World}(h:W.ShapedOpen Tryz.prog)(hL:laidMetH Tryz.prog Rows.lowerCheckSpecUptoRow.laid W):∃I:af,@Zu I W:=by
 have hL0:laidMet Tryz.prog Rows.lowerCheckSpecUptoRow.laid W:=hL
 have ht:Lib.TabIs Tryz.prog W "soundpost/ranges.samples" .i64 [-2147483648,2147483647]:=Lib.tabIs_of_head z98 (t:=101) (e:=3) (n:=2) (by kernel_rfl) (by kernel_rfl) (by kernel_rfl) (by kernel_rfl) (by kernel_rfl) hL0
 obtain⟨cs,hh,hs,hr⟩:=h.1 1 #[.int .i64 0] 3 (of_decide_eq_true (by kernel_rfl)) (by kernel_rfl)
 have hs:cs.size=1:=hs
 obtain⟨ts,hts,_,hall⟩:=hr (by kernel_rfl)
 have hc:Tryz.prog.cellTypes Tryz.prog.depth 3=some [3]:=by kernel_rfl
 rw[hc]at hts
 cases hts
 have h1:0<cs.size:=by omega
 obtain⟨u,hu',hok⟩:=hall 0 cs[0] (by simp[h1])
 have:u=3:=by simpa using hu'.symm
 subst this
 have hu:Tryz.prog.underlying 3=some (.int .i64):=by kernel_rfl
 unfold Cell.ok at hok
 rw[hu]at hok
 have hv:∃m,cs[0] = .int .i64 m:=by
  cases hv:cs[0]<;>rw[hv]at hok<;>simp at hok
  case int k' n=>exact⟨n,by rw[hok.1]⟩
 obtain⟨m,hm⟩:=hv
 have hcs:cs = #[.int .i64 m]:=by
  rw[<-hm]
  exact Array.ext (by simp[hs]) λi h1 h2=>by
   have:i=0:=by omega
   subst this;simp
 subst hcs
 refine⟨⟨λ_=>m⟩,@Zu.mk ⟨λ_=>m⟩ W ?_⟩
 intro g cs' hg
 simp only[qo]at hg
 split at hg
 ·rename_i hb
  have:g=0:=Nat.eq_of_beq_eq_true hb
  subst this
  simp only[Option.some.injEq]at hg
  subst hg
  refine⟨Js z98 ht,λj v hj=>?_⟩
  match j with
  | 0=>simp only[List.getElem?_cons_zero,Option.some.injEq]at hj;subst hj;rfl
  | 1=>simp only[List.getElem?_cons_succ,List.getElem?_cons_zero,Option.some.injEq]at hj;subst hj;rfl
  |j+2=>simp at hj
 ·split at hg
  ·rename_i hb
   have:g=1:=Nat.eq_of_beq_eq_true hb
   subst this
   simp only[Option.some.injEq]at hg
   subst hg
   refine⟨⟨_,_,hh⟩,λj v hj=>?_⟩
   cases j with
   |zero=>simp only[List.getElem?_cons_zero,Option.some.injEq]at hj;subst hj;rfl
   |succ j=>simp at hj
  ·cases hg
section
variable [af] {ds : List D} {n m : Nat} {T : Tbl} {t : TypeId}
theorem Tu{α:Type}{f:α->List D}{w:α->Nat}{Q:α->Prop}{n:Nat}{e:TypeId}(h:∀m x,typed T n e m x->∃y,x=f y/\w y<=m/\Q y):∀(es:List (List D)) (m:Nat),Du (typed T n e) es m->∃ys:List α,es=ys.map f/\(ys.map w).sum<=m/\ys.length<=m/\∀y∈ys,Q y
 | [],_,_=>⟨[],rfl,by simp,by simp,by simp⟩
 |x::r,m,hm=>by
  obtain⟨m1,m2,h1,h2,h3⟩:=hm
  obtain⟨y,rfl,hw,hq⟩:=h m1 x h2
  obtain⟨ys,rfl,hs,hl,hqs⟩:=Tu h r m2 h3
  have:=QV h2
  refine⟨y::ys,rfl,by simp only[List.map_cons,List.sum_cons];omega,by simp only[List.length_cons];omega,λz hz=>?_⟩
  rcases List.mem_cons.1 hz with rfl |hz
  ·exact hq
  ·exact hqs z hz
theorem OG{α:Type}{f:α->List D}{w:α->Nat}{Q:α->Prop}{t e:TypeId}(ht:(T.at t).ty = .slice e)(hm:typed T n t m ds)(h:∀k,k<n->∀m x,typed T k e m x->∃y,x=f y/\w y<=m/\Q y) :
  ∃ys:List α,ds = [.sl (T.at e).size (ys.map f)]/\(ys.map w).sum+1<=m/\ys.length+1<=m/\∀y∈ys,Q y:=by
 cases n with
 |zero=>exact hm.elim
 |succ n=>
  simp only[typed,ht]at hm
  obtain⟨m',es,h1,rfl,h2⟩:=hm
  obtain⟨ys,rfl,hs,hl,hq⟩:=Tu (h n (Nat.lt_succ_self n)) es m' h2
  exact⟨ys,rfl,by omega,by omega,hq⟩
theorem oZ{k:IntKind}(ht:(T.at t).ty = .int k)(hm:typed T n t m ds):∃v:Int,ds = [.val (.int k v)]/\k.min<=v/\v<=k.max:=by
 cases n with
 |zero=>exact hm.elim
 |succ n=>
  simp only[typed,ht]at hm
  obtain⟨_,v,rfl,h⟩:=hm
  exact⟨v,rfl,h⟩
theorem Yi(ht:(T.at t).ty = .str)(hm:typed T n t m ds):∃s:List UInt8,ds = [.str s]/\s.length+1<=m:=by
 cases n with
 |zero=>exact hm.elim
 |succ n=>
  simp only[typed,ht]at hm
  exact hm
theorem fields_of{fs:List (Nat×TypeId)}(ht:(T.at t).ty = .struct fs)(hm:typed T n t m ds):∃k m',n=k+1/\m'+1<=m/\vC (typed T k) fs m' ds:=by
 cases n with
 |zero=>exact hm.elim
 |succ n=>
  simp only[typed,ht]at hm
  obtain⟨m',h1,h2⟩:=hm
  exact⟨n,m',rfl,h1,h2⟩
theorem fV{p:TypeId->Nat->List D->Prop}{o:Nat}{r:List (Nat×TypeId)}{m:Nat}(h:vC p ((o,t)::r) m ds):∃m1 m2 d1 d2,m1+m2<=m/\ds=d1++d2/\p t m1 d1/\vC p r m2 d2:=h
theorem z0m(h:typed Tryz.T n 54 m ds):∃l:List Int,ds = [ints l]/\l.length+1<=m:=by
 obtain⟨ys,h1,_,h2,_⟩:=OG (f:=eG) (w:=λ_=>0) (Q:=λ_=>True) (e:=3) rfl h (λk _ m x hx=>by
  obtain⟨v,rfl,_⟩:=oZ (k:=.i64) rfl hx
  exact⟨v,rfl,Nat.zero_le _,trivial⟩)
 exact⟨ys,h1,h2⟩
theorem z5l(h:typed Tryz.T n 51 m ds):∃b:Bd,ds=b.cs/\b.name.length<=m/\True:=by
 obtain⟨k,m',_,hm,g0⟩:=fields_of (fs:=[(0,9),(1,3),(2,3)]) rfl h
 obtain⟨m0a,m0b,_,_,ha0,e1,h1,g1⟩:=fV g0
 obtain⟨m1a,m1b,_,_,ha1,e2,h2,g2⟩:=fV g1
 obtain⟨m2a,m2b,_,_,ha2,e3,h3,g3⟩:=fV g2
 obtain⟨s,rfl,hs⟩:=Yi rfl h1
 obtain⟨a,rfl,_⟩:=oZ (k:=.i64) rfl h2
 obtain⟨b,rfl,_⟩:=oZ (k:=.i64) rfl h3
 have g:_ = []:=g3
 subst g
 subst e3
 subst e2
 subst e1
 exact⟨⟨s,a,b⟩,rfl,by simp only;omega,trivial⟩
theorem z8y(h:typed Tryz.T n 89 m ds):∃b:Ln,ds=b.cs/\b.name.length<=m/\True:=by
 obtain⟨k,m',_,hm,g0⟩:=fields_of (fs:=[(0,9),(1,3),(2,3),(3,3)]) rfl h
 obtain⟨m0a,m0b,_,_,ha0,e1,h1,g1⟩:=fV g0
 obtain⟨m1a,m1b,_,_,ha1,e2,h2,g2⟩:=fV g1
 obtain⟨m2a,m2b,_,_,ha2,e3,h3,g3⟩:=fV g2
 obtain⟨m3a,m3b,_,_,ha3,e4,h4,g4⟩:=fV g3
 obtain⟨s,rfl,hs⟩:=Yi rfl h1
 obtain⟨a,rfl,_⟩:=oZ (k:=.i64) rfl h2
 obtain⟨b,rfl,_⟩:=oZ (k:=.i64) rfl h3
 obtain⟨c,rfl,_⟩:=oZ (k:=.i64) rfl h4
 have g:_ = []:=g4
 subst g
 subst e4
 subst e3
 subst e2
 subst e1
 exact⟨⟨s,a,b,c⟩,rfl,by simp only;omega,trivial⟩
theorem Yj{α:Type}{w:α->Nat}:∀{l:List α} {x:α},x∈l->w x<=(l.map w).sum
 | [],_,h=>by simp at h
 |y::r,x,h=>by
  simp only[List.map_cons,List.sum_cons]
  rcases List.mem_cons.1 h with rfl |h
  ·omega
  ·have:=Yj (w:=w) h;omega
theorem Wq(h:typed Tryz.T n 24 m ds):∃l:List (List Int),ds = [.sl 1 (l.map Mac.lnC)]/\l.length+1<=m/\∀t∈l,t.length<=m:=by
 obtain⟨ys,h1,h3,h2,_⟩:=OG (f:=Mac.lnC) (w:=λt=>t.length) (Q:=λ_=>True) (e:=54) rfl h (λk _ m x hx=>by
  obtain⟨v,rfl,hv⟩:=z0m hx
  exact⟨v,rfl,by omega,trivial⟩)
 exact⟨ys,h1,h2,λt ht=>by have:=Yj (w:=λt:List Int=>t.length) ht;omega⟩
theorem z5m(h:typed Tryz.T n 43 m ds):∃x:Int×Int,ds=Mac.insC x/\0<=m/\True:=by
 obtain⟨k,m',_,_,g0⟩:=fields_of (fs:=[(0,3),(1,3)]) rfl h
 obtain⟨_,_,_,_,_,e1,h1,g1⟩:=fV g0
 obtain⟨_,_,_,_,_,e2,h2,g2⟩:=fV g1
 obtain⟨a,rfl,_⟩:=oZ (k:=.i64) rfl h1
 obtain⟨b,rfl,_⟩:=oZ (k:=.i64) rfl h2
 have g:_ = []:=g2
 subst g
 subst e2
 subst e1
 exact⟨(a,b),rfl,Nat.zero_le _,trivial⟩
theorem Ws(h:typed Tryz.T n 27 m ds):m<=1048576->∃c:Mac.Cd,ds=c.cs/\c.Sm:=by
 obtain⟨k,m',_,hm',g0⟩:=fields_of (fs:=[(0,3),(1,3),(2,22),(3,22),(4,23),(5,24),(6,3),(7,25)]) rfl h
 obtain⟨_,_,_,_,_,e1,h1,g1⟩:=fV g0
 obtain⟨_,_,_,_,_,e2,h2,g2⟩:=fV g1
 obtain⟨_,_,_,_,_,e3,h3,g3⟩:=fV g2
 obtain⟨_,_,_,_,_,e4,h4,g4⟩:=fV g3
 obtain⟨_,_,_,_,_,e5,h5,g5⟩:=fV g4
 obtain⟨_,_,_,_,_,e6,h6,g6⟩:=fV g5
 obtain⟨_,_,_,_,_,e7,h7,g7⟩:=fV g6
 obtain⟨_,_,_,_,_,e8,h8,g8⟩:=fV g7
 obtain⟨a,rfl,_⟩:=oZ (k:=.i64) rfl h1
 obtain⟨b,rfl,_⟩:=oZ (k:=.i64) rfl h2
 obtain⟨l3,rfl,_,q3,_⟩:=OG (f:=Bd.cs) (w:=λb:Bd=>b.name.length) (Q:=λ_=>True) (e:=51) rfl h3 (λj hj m x hx=>z5l hx)
 obtain⟨l4,rfl,_,q4,_⟩:=OG (f:=Bd.cs) (w:=λb:Bd=>b.name.length) (Q:=λ_=>True) (e:=51) rfl h4 (λj hj m x hx=>z5l hx)
 obtain⟨l5,rfl,_,q5,_⟩:=OG (f:=Ln.cs) (w:=λb:Ln=>b.name.length) (Q:=λ_=>True) (e:=89) rfl h5 (λj hj m x hx=>z8y hx)
 obtain⟨l6,rfl,q6,r6⟩:=Wq h6
 obtain⟨d,rfl,_⟩:=oZ (k:=.i64) rfl h7
 obtain⟨l8,rfl,_,q8,_⟩:=OG (f:=Mac.insC) (w:=λ_=>0) (Q:=λ_=>True) (e:=43) rfl h8 (λj hj m x hx=>z5m hx)
 have g:_ = []:=g8
 subst g
 subst e8
 subst e7
 subst e6
 subst e5
 subst e4
 subst e3
 subst e2
 subst e1
 intro hm
 exact⟨⟨a,b,l3,l4,l5,l6,d,l8⟩,rfl,by simp only;omega,by simp only;omega,by simp only;omega,by simp only;omega,by simp only;omega,λt ht=>by have:=r6 t ht;omega⟩
theorem Tv(h:typed Tryz.T n 27 m ds)(hm:m<=1048576):∃c:Mac.Cd,ds=c.cs/\c.Sm:=Ws h hm
end
variable {H : Type}
theorem Wu(l r:List (DataW H)):Rows.uptoBulkAll (l++r)=Rows.uptoBulkAll l+Rows.uptoBulkAll r:=by
 induction l with
 |nil=>simp[Rows.uptoBulkAll]
 |cons x l ih=>simp only[List.cons_append,Rows.uptoBulkAll,ih];omega
theorem z0n{ds gs:List (DataW H)}(hk:Rows.uptoSmall H (ds++gs)=true):Rows.uptoBulkAll ds<=1048576:=by
 have h:Rows.uptoBulkAll (ds++gs)<=1048576:=of_decide_eq_true hk
 rw[Wu]at h
 omega
theorem zah{t:TypeId}{ds:List (DataW H)}{xs:List D}(h:mr Tryz.T [t] ds xs):∃d,ds = [d]/\∃n l,typed Tryz.T n t (Rows.uptoBulk d) l/\xs = [asD Tryz.T t l]:=by
 match ds,xs,h with
 | [d],[x],h=>
  obtain⟨⟨n,l,h1,rfl⟩,_⟩:=h
  exact⟨d,rfl,n,l,h1,rfl⟩
 | [],[],h=>exact h.elim
 | [],_::_,h=>exact h.elim
 |_::_,[],h=>exact h.elim
 | [_],_::_::_,h=>exact h.2.elim
 |_::_::_,[_],h=>exact h.2.elim
 |_::_::_,_::_::_,h=>exact h.2.elim
theorem z99{t u:TypeId}{ds:List (DataW H)}{xs:List D}(h:mr Tryz.T [t,u] ds xs):∃d e,ds = [d,e]/\∃n l m k,typed Tryz.T n t (Rows.uptoBulk d) l/\typed Tryz.T m u (Rows.uptoBulk e) k/\xs = [asD Tryz.T t l,asD Tryz.T u k]:=by
 match ds,xs,h with
 | [],[],h=>exact h.elim
 | [],_::_,h=>exact h.elim
 |_::_,[],h=>exact h.elim
 |d::ds,x::xs,h=>
  obtain⟨⟨n,l,h1,rfl⟩,h⟩:=h
  obtain⟨e,rfl,m,k,h2,rfl⟩:=zah h
  exact⟨d,e,rfl,n,l,m,k,h1,h2,rfl⟩
theorem own:ownKnob Tryz.prog.godebug=none:=by kernel_rfl
theorem laid:laidOutB Tryz.prog=true:=by kernel_rfl
def z5n:List Nat:=[3,9,22,23,24,25,26,27,32,33,34,35,41,42,43,47,48,49,50,51,52,53,54,67,68,88,89]
theorem z0o:oM Tryz.T z5n z5n=true:=by kernel_rfl
theorem tok':ji Tryz.prog Tryz.T:=@tok ⟨λ_=>0⟩
noncomputable def laidWorld(os:Os):World:=
 let w0:=World.holding Tryz.prog os ⟨#[],#[],[]⟩
 { w0 with heap:=w0.heap.modify 0 fun
   | .cells _ t frozen=>.cells #[.int .i64 (-2147483648),.int .i64 2147483647] t frozen
   |o=>o }
theorem laid_met(os:Os)(args:Array Value):laidMet Tryz.prog Rows.lowerCheckSpecUptoRow.laid ((laidWorld os).forCall (λ_ _=>0) ⟨#[],args,[]⟩).memory:=
 laidMet_of_run' 8 (by kernel_rfl) (by kernel_rfl)
end Go.Proofs.YthpbakljheeabaaGreatDoor
