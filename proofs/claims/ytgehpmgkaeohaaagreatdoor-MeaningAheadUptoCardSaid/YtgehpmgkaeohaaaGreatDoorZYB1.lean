/- A part of the proof. -/
import Derived.Test.YtgehpmgkaeohaaaGreatDoorCards
import Derived.Test.YtgehpmgkaeohaaaGreatDoorTie
import Derived.Deep.DeepHandedRow
import Derived.Lib.LaidTab
import Derived.Stop.LaidErr
import Derived.Test.YtgehpmgkaeohaaaGreatDoorZK7
import Derived.Test.YtgehpmgkaeohaaaGreatDoorZK6
import Derived.Test.YtgehpmgkaeohaaaGreatDoorZMA
set_option linter.all false
namespace Go.Proofs.YtgehpmgkaeohaaaGreatDoor
open Go.Fw Go.Fw.Ref15 Go.Fw.Rg Go.Fw.Tl Go.Fw.Mn Go.ChangeShapes Go.WideShapes Go.RowKit
set_option maxRecDepth 100000
theorem oU{P:Program}{W:World}{n:String}{g:Nat}{cs:Array Value}(hg:P.globalNamed n=some g)(h:W.var? P n=some cs):∃t fr,W.heap[g]? = some (.cells cs t fr):=by
 unfold World.var? at h
 simp only[hg,Option.bind_some]at h
 split at h
 ·rename_i c t fr hh
  simp only[Option.some.injEq]at h
  subst h
  exact⟨t,fr,hh⟩
 ·cases h
theorem zjk(u:TypeId)(h:Tryz.prog.typeName? 3 u=some "*errors.errorString"):u=272:=
 typeName_ptr_named (nm:= "errors.errorString") (by rw[show "*" ++ "errors.errorString" = "*errors.errorString" by decide];kernel_rfl) (by kernel_rfl) (by decide) u (by rw[show "*" ++ "errors.errorString" = "*errors.errorString" by decide];exact h)
theorem zjl:Tryz.prog.globalNamed "soundpost/ranges.samples" = some 0:=by kernel_rfl
theorem zjm:Tryz.prog.globalNamed "strconv.ErrSyntax" = some 2:=by kernel_rfl
theorem zjn:Tryz.prog.globalNamed "strconv.ErrRange" = some 3:=by kernel_rfl
theorem zjo:Tryz.prog.globalNamed "internal/strconv.uint64pow10" = some 4:=by kernel_rfl
theorem zic:∃ms,Tryz.prog.underlying 211=some (.interface ms):=by
 have h:(match Tryz.prog.underlying 211 with |some (.interface _)=>true |_=>false)=true:=by kernel_rfl
 split at h
 ·rename_i ms hm;exact⟨ms,hm⟩
 ·cases h
theorem zkb:∃f:Field,Tryz.prog.underlying 274=some (.struct #[f])/\f.type=9/\f.offset=0:=by
 have h:(match Tryz.prog.underlying 274 with |some (.struct ⟨[f]⟩)=>Nat.beq f.type 9&&Nat.beq f.offset 0 |_=>false)=true:=by kernel_rfl
 split at h
 ·rename_i f hm
  simp only[Bool.and_eq_true]at h
  exact⟨f,hm,Nat.eq_of_beq_eq_true h.1,Nat.eq_of_beq_eq_true h.2⟩
 ·cases h
theorem z98{W:World}(h:W.ShapedOpen Tryz.prog)(hL:laidMetH Tryz.prog Rows.meaningKeepsUptoRow.laid W):∃I:ae,@z7n I W:=by
 have hL0:laidMet Tryz.prog Rows.meaningKeepsUptoRow.laid W:=hL
 have l1:=hL0.tail.tail
 have l2:=l1.tail
 have l3:=l2.tail
 have l4:=l3.tail
 have hT:Lib.TabIs Tryz.prog W "soundpost/ranges.samples" .i64 [-2147483648,2147483647]:=Lib.tabIs_of_head zjl (t:=121) (e:=3) (n:=2) (by kernel_rfl) (by kernel_rfl) (by kernel_rfl) (by kernel_rfl) (by kernel_rfl) l4
 have ht:Lib.TabIs Tryz.prog W "internal/strconv.uint64pow10" .u64 Lib.pow10Tab:=Lib.tabIs_of_head zjo (t:=276) (e:=258) (n:=20) (by kernel_rfl) (by kernel_rfl) (by kernel_rfl) (by kernel_rfl) (by kernel_rfl) l1
 obtain⟨ms,hms⟩:=zic
 obtain⟨fd,hfd,hft,hfo⟩:=zkb
 obtain⟨a1,s1,hv1,_,_,_⟩:=laid_sentinel (ti:=211) (tp:=272) (te:=274) (ts:=9) l2 zjn (by kernel_rfl) hms zjk (by kernel_rfl) hfd hft hfo (by kernel_rfl) (by kernel_rfl) (by kernel_rfl)
 obtain⟨a0,s0,hv0,_,_,_⟩:=laid_sentinel (ti:=211) (tp:=272) (te:=274) (ts:=9) l3 zjm (by kernel_rfl) hms zjk (by kernel_rfl) hfd hft hfo (by kernel_rfl) (by kernel_rfl) (by kernel_rfl)
 obtain⟨cs,hh,hs,hr⟩:=h.1 1 #[.int .i64 0] 3 (of_decide_eq_true (by kernel_rfl)) (by kernel_rfl)
 have hs:cs.size=1:=hs
 obtain⟨ts,hts,_,hall⟩:=hr (by kernel_rfl)
 have hc:Tryz.prog.cellTypes Tryz.prog.depth 3=some [3]:=by kernel_rfl
 rw[hc]at hts
 cases hts
 have h1:0<cs.size:=by omega
 obtain⟨u,hu',hok⟩:=hall 0 cs[0] (by simp[h1])
 have:u=3:=by simpa using hu'.symm
 subst this
 have hu:Tryz.prog.underlying 3=some (.int .i64):=by kernel_rfl
 unfold Cell.ok at hok
 rw[hu]at hok
 have hv:∃m,cs[0] = .int .i64 m:=by
  cases hv:cs[0]<;>rw[hv]at hok<;>simp at hok
  case int k' n=>exact⟨n,by rw[hok.1]⟩
 obtain⟨m,hm⟩:=hv
 have hcs:cs = #[.int .i64 m]:=by
  rw[<-hm]
  exact Array.ext (by simp[hs]) λi h1 h2=>by
   have:i=0:=by omega
   subst this;simp
 subst hcs
 refine⟨⟨λ_=>m,λi=>(272,.pointer (some (if i=0 then a0 else a1)))⟩,@z7n.mk ⟨λ_=>m,λi=>(272,.pointer (some (if i=0 then a0 else a1)))⟩ W ?_⟩
 intro g cs' hg
 simp only[rU]at hg
 have one:∀{x:Value},x.oneCell'=true->∀(j:Nat) v,([x]:List Value)[j]? = some v->v.oneCell'=true:=by
  intro x hx j v hj
  cases j with
  |zero=>simp only[List.getElem?_cons_zero,Option.some.injEq]at hj;subst hj;exact hx
  |succ j=>simp at hj
 split at hg
 ·rename_i hb
  have:g=0:=Nat.eq_of_beq_eq_true hb
  subst this
  simp only[Option.some.injEq]at hg
  subst hg
  refine⟨oU zjl hT,λj v hj=>?_⟩
  match j with
  | 0=>simp only[List.getElem?_cons_zero,Option.some.injEq]at hj;subst hj;rfl
  | 1=>simp only[List.getElem?_cons_succ,List.getElem?_cons_zero,Option.some.injEq]at hj;subst hj;rfl
  |j+2=>simp at hj
 ·split at hg
  ·rename_i hb
   have:g=1:=Nat.eq_of_beq_eq_true hb
   subst this
   simp only[Option.some.injEq]at hg
   subst hg
   exact⟨⟨_,_,hh⟩,one rfl⟩
  ·split at hg
   ·rename_i hb
    have:g=2:=Nat.eq_of_beq_eq_true hb
    subst this
    simp only[Option.some.injEq]at hg
    subst hg
    exact⟨oU zjm hv0,one rfl⟩
   ·split at hg
    ·rename_i hb
     have:g=3:=Nat.eq_of_beq_eq_true hb
     subst this
     simp only[Option.some.injEq]at hg
     subst hg
     exact⟨oU zjn hv1,one rfl⟩
    ·split at hg
     ·rename_i hb
      have:g=4:=Nat.eq_of_beq_eq_true hb
      subst this
      simp only[Option.some.injEq]at hg
      subst hg
      refine⟨oU zjo ht,λj v hj=>?_⟩
      rw[List.getElem?_map]at hj
      cases hz:Lib.pow10Tab[j]? with
      |none=>rw[hz]at hj;simp at hj
      |some z=>rw[hz]at hj;simp only[Option.map_some,Option.some.injEq]at hj;subst hj;rfl
     ·cases hg
section
variable [ae] {ds : List D} {n m : Nat} {T : Tbl} {t : TypeId}
theorem Xz{α:Type}{f:α->List D}{w:α->Nat}{Q:α->Prop}{n:Nat}{e:TypeId}(h:∀m x,typed T n e m x->∃y,x=f y/\w y<=m/\Q y):∀(es:List (List D)) (m:Nat),Gh (typed T n e) es m->∃ys:List α,es=ys.map f/\(ys.map w).sum<=m/\ys.length<=m/\∀y∈ys,Q y
 | [],_,_=>⟨[],rfl,by simp,by simp,by simp⟩
 |x::r,m,hm=>by
  obtain⟨m1,m2,h1,h2,h3⟩:=hm
  obtain⟨y,rfl,hw,hq⟩:=h m1 x h2
  obtain⟨ys,rfl,hs,hl,hqs⟩:=Xz h r m2 h3
  have:=Vy h2
  refine⟨y::ys,rfl,by simp only[List.map_cons,List.sum_cons];omega,by simp only[List.length_cons];omega,λz hz=>?_⟩
  rcases List.mem_cons.1 hz with rfl |hz
  ·exact hq
  ·exact hqs z hz
theorem JP{α:Type}{f:α->List D}{w:α->Nat}{Q:α->Prop}{t e:TypeId}(ht:(T.at t).ty = .slice e)(hm:typed T n t m ds)(h:∀k,k<n->∀m x,typed T k e m x->∃y,x=f y/\w y<=m/\Q y) :
  ∃ys:List α,ds = [.sl (T.at e).size (ys.map f)]/\(ys.map w).sum+1<=m/\ys.length+1<=m/\∀y∈ys,Q y:=by
 cases n with
 |zero=>exact hm.elim
 |succ n=>
  simp only[typed,ht]at hm
  obtain⟨m',es,h1,rfl,h2⟩:=hm
  obtain⟨ys,rfl,hs,hl,hq⟩:=Xz (h n (Nat.lt_succ_self n)) es m' h2
  exact⟨ys,rfl,by omega,by omega,hq⟩
theorem nR{k:IntKind}(ht:(T.at t).ty = .int k)(hm:typed T n t m ds):∃v:Int,ds = [.val (.int k v)]/\k.min<=v/\v<=k.max:=by
 cases n with
 |zero=>exact hm.elim
 |succ n=>
  simp only[typed,ht]at hm
  obtain⟨_,v,rfl,h⟩:=hm
  exact⟨v,rfl,h⟩
theorem EY(ht:(T.at t).ty = .str)(hm:typed T n t m ds):∃s:List UInt8,ds = [.str s]/\s.length+1<=m:=by
 cases n with
 |zero=>exact hm.elim
 |succ n=>
  simp only[typed,ht]at hm
  exact hm
theorem fields_of{fs:List (Nat×TypeId)}(ht:(T.at t).ty = .struct fs)(hm:typed T n t m ds):∃k m',n=k+1/\m'+1<=m/\xE (typed T k) fs m' ds:=by
 cases n with
 |zero=>exact hm.elim
 |succ n=>
  simp only[typed,ht]at hm
  obtain⟨m',h1,h2⟩:=hm
  exact⟨n,m',rfl,h1,h2⟩
theorem dA{p:TypeId->Nat->List D->Prop}{o:Nat}{r:List (Nat×TypeId)}{m:Nat}(h:xE p ((o,t)::r) m ds):∃m1 m2 d1 d2,m1+m2<=m/\ds=d1++d2/\p t m1 d1/\xE p r m2 d2:=h
theorem xR(h:typed Tryz.T n 28 m ds):∃l:List Int,ds = [ints l]/\l.length+1<=m:=by
 obtain⟨ys,h1,_,h2,_⟩:=JP (f:=z3p) (w:=λ_=>0) (Q:=λ_=>True) (e:=3) rfl h (λk _ m x hx=>by
  obtain⟨v,rfl,_⟩:=nR (k:=.i64) rfl hx
  exact⟨v,rfl,Nat.zero_le _,trivial⟩)
 exact⟨ys,h1,h2⟩
theorem zfg(h:typed Tryz.T n 68 m ds):∃b:Bd,ds=b.cs/\b.name.length<=m/\True:=by
 obtain⟨k,m',_,hm,g0⟩:=fields_of (fs:=[(0,9),(1,3),(2,3)]) rfl h
 obtain⟨m0a,m0b,_,_,ha0,e1,h1,g1⟩:=dA g0
 obtain⟨m1a,m1b,_,_,ha1,e2,h2,g2⟩:=dA g1
 obtain⟨m2a,m2b,_,_,ha2,e3,h3,g3⟩:=dA g2
 obtain⟨s,rfl,hs⟩:=EY rfl h1
 obtain⟨a,rfl,_⟩:=nR (k:=.i64) rfl h2
 obtain⟨b,rfl,_⟩:=nR (k:=.i64) rfl h3
 have g:_ = []:=g3
 subst g
 subst e3
 subst e2
 subst e1
 exact⟨⟨s,a,b⟩,rfl,by simp only;omega,trivial⟩
theorem zid(h:typed Tryz.T n 56 m ds):∃b:Ln,ds=b.cs/\b.name.length<=m/\True:=by
 obtain⟨k,m',_,hm,g0⟩:=fields_of (fs:=[(0,9),(1,3),(2,3),(3,3)]) rfl h
 obtain⟨m0a,m0b,_,_,ha0,e1,h1,g1⟩:=dA g0
 obtain⟨m1a,m1b,_,_,ha1,e2,h2,g2⟩:=dA g1
 obtain⟨m2a,m2b,_,_,ha2,e3,h3,g3⟩:=dA g2
 obtain⟨m3a,m3b,_,_,ha3,e4,h4,g4⟩:=dA g3
 obtain⟨s,rfl,hs⟩:=EY rfl h1
 obtain⟨a,rfl,_⟩:=nR (k:=.i64) rfl h2
 obtain⟨b,rfl,_⟩:=nR (k:=.i64) rfl h3
 obtain⟨c,rfl,_⟩:=nR (k:=.i64) rfl h4
 have g:_ = []:=g4
 subst g
 subst e4
 subst e3
 subst e2
 subst e1
 exact⟨⟨s,a,b,c⟩,rfl,by simp only;omega,trivial⟩
theorem zie(h:typed Tryz.T n 114 m ds):∃b:Tb,ds=b.cs/\b.name.length+b.values.length<=m/\True:=by
 obtain⟨k,m',_,hm,g0⟩:=fields_of (fs:=[(0,9),(1,28)]) rfl h
 obtain⟨m0a,m0b,_,_,ha0,e1,h1,g1⟩:=dA g0
 obtain⟨m1a,m1b,_,_,ha1,e2,h2,g2⟩:=dA g1
 obtain⟨s,rfl,hs⟩:=EY rfl h1
 obtain⟨l,rfl,hl⟩:=xR h2
 have g:_ = []:=g2
 subst g
 subst e2
 subst e1
 exact⟨⟨s,l⟩,rfl,by simp only;omega,trivial⟩
theorem Qq:∀l:List Ex,z8y l=(l.map esz).sum
 | []=>rfl
 |x::r=>by simp only[z8y,List.map_cons,List.sum_cons,Qq r]
theorem zif:∀(n m:Nat) (ds:List D),typed Tryz.T n 54 m ds->∃x:Ex,ds=x.cs/\esz x<=m/\True:=by
 intro n
 induction n using Nat.strongRecOn with
 |ind n ih=>
  intro m ds h
  obtain⟨k,m',hk,hm,g0⟩:=fields_of (fs:=[(0,3),(1,9),(2,3),(3,3),(4,52)]) rfl h
  obtain⟨m1,m2,_,_,ha,e1,h1,g1⟩:=dA g0
  obtain⟨m3,m4,_,_,hb,e2,h2,g2⟩:=dA g1
  obtain⟨m5,m6,_,_,hc,e3,h3,g3⟩:=dA g2
  obtain⟨m7,m8,_,_,hd,e4,h4,g4⟩:=dA g3
  obtain⟨m9,m0,_,_,he,e5,h5,g5⟩:=dA g4
  obtain⟨a,rfl,_⟩:=nR (k:=.i64) rfl h1
  obtain⟨s,rfl,hs0⟩:=EY rfl h2
  obtain⟨b,rfl,_⟩:=nR (k:=.i64) rfl h3
  obtain⟨c,rfl,_⟩:=nR (k:=.i64) rfl h4
  obtain⟨l,rfl,hs,_,_⟩:=JP (f:=Ex.cs) (w:=esz) (Q:=λ_=>True) (e:=54) rfl h5 (λj hj m x hx=>ih j (by omega) m x hx)
  have g:_ = []:=g5
  subst g
  subst e5
  subst e4
  subst e3
  subst e2
  subst e1
  refine⟨.mk a s b c l,?_,?_,trivial⟩
  ·show _ = [D.i a,D.str s,D.i b,D.i c,D.sl 5 (Ex.css l)]
   rw[Ex.css_eq];rfl
  ·rw[z4c,Qq];simp only[Ex.l,Ex.name];omega
theorem zih(h:typed Tryz.T n 58 m ds):∃s:Sm,ds=s.cs/\s.name.length+esz s.x<=m/\True:=by
 obtain⟨k,m',_,hm,g0⟩:=fields_of (fs:=[(0,3),(1,9),(2,3),(3,54)]) rfl h
 obtain⟨m0a,m0b,_,_,ha0,e1,h1,g1⟩:=dA g0
 obtain⟨m1a,m1b,_,_,ha1,e2,h2,g2⟩:=dA g1
 obtain⟨m2a,m2b,_,_,ha2,e3,h3,g3⟩:=dA g2
 obtain⟨m3a,m3b,_,_,ha3,e4,h4,g4⟩:=dA g3
 obtain⟨a,rfl,_⟩:=nR (k:=.i64) rfl h1
 obtain⟨s,rfl,hs⟩:=EY rfl h2
 obtain⟨b,rfl,_⟩:=nR (k:=.i64) rfl h3
 obtain⟨x,rfl,hx,_⟩:=zif _ _ _ h4
 have g:_ = []:=g4
 subst g
 subst e4
 subst e3
 subst e2
 subst e1
 exact⟨⟨a,s,b,x⟩,rfl,by simp only;omega,trivial⟩
theorem wo{α:Type}{w:α->Nat}:∀{l:List α} {x:α},x∈l->w x<=(l.map w).sum
 | [],_,h=>by simp at h
 |y::r,x,h=>by
  simp only[List.map_cons,List.sum_cons]
  rcases List.mem_cons.1 h with rfl |h
  ·omega
  ·have:=wo (w:=w) h;omega
theorem XA:∀x:Ex,Ref15.nodes x<=esz x:=by
 refine Ex.ind λx ih=>?_
 have hL:∀l:List Ex,(∀y∈l,y∈x.l)->Ref15.nodesL l<=z8y l:=by
  intro l
  induction l with
  |nil=>intro _;exact Nat.le_refl _
  |cons y r ihr=>
   intro hl
   have h1:=ih y (hl y (by simp))
   have h2:=ihr λz hz=>hl z (by simp[hz])
   simp only[Ref15.nodesL,z8y];omega
 have:=hL x.l λ_ h=>h
 rw[Ref15.nodes_eq,z4c];omega
theorem zfh(h:typed Tryz.T n 27 m ds):m<=1048576->∃p:Pr,ds=p.cs/\iE p/\zji p:=by
 obtain⟨k,m',_,hm,g0⟩:=fields_of (fs:=[(0,9),(1,3),(2,3),(3,22),(4,22),(5,23),(6,24),(7,25)]) rfl h
 obtain⟨m0a,m0b,_,_,ha0,e1,h1,g1⟩:=dA g0
 obtain⟨m1a,m1b,_,_,ha1,e2,h2,g2⟩:=dA g1
 obtain⟨m2a,m2b,_,_,ha2,e3,h3,g3⟩:=dA g2
 obtain⟨m3a,m3b,_,_,ha3,e4,h4,g4⟩:=dA g3
 obtain⟨m4a,m4b,_,_,ha4,e5,h5,g5⟩:=dA g4
 obtain⟨m5a,m5b,_,_,ha5,e6,h6,g6⟩:=dA g5
 obtain⟨m6a,m6b,_,_,ha6,e7,h7,g7⟩:=dA g6
 obtain⟨m7a,m7b,_,_,ha7,e8,h8,g8⟩:=dA g7
 obtain⟨s,rfl,hs⟩:=EY rfl h1
 obtain⟨a,rfl,_⟩:=nR (k:=.i64) rfl h2
 obtain⟨b,rfl,_⟩:=nR (k:=.i64) rfl h3
 obtain⟨l4,rfl,r4,q4,_⟩:=JP (f:=Bd.cs) (w:=λb:Bd=>b.name.length) (Q:=λ_=>True) (e:=68) rfl h4 (λj hj m x hx=>zfg hx)
 obtain⟨l5,rfl,r5,q5,_⟩:=JP (f:=Bd.cs) (w:=λb:Bd=>b.name.length) (Q:=λ_=>True) (e:=68) rfl h5 (λj hj m x hx=>zfg hx)
 obtain⟨l6,rfl,r6,q6,_⟩:=JP (f:=Ln.cs) (w:=λb:Ln=>b.name.length) (Q:=λ_=>True) (e:=56) rfl h6 (λj hj m x hx=>zid hx)
 obtain⟨l7,rfl,r7,q7,_⟩:=JP (f:=Tb.cs) (w:=λt:Tb=>t.name.length+t.values.length) (Q:=λ_=>True) (e:=114) rfl h7 (λj hj m x hx=>zie hx)
 obtain⟨l8,rfl,r8,q8,_⟩:=JP (f:=Sm.cs) (w:=λs:Sm=>s.name.length+esz s.x) (Q:=λ_=>True) (e:=58) rfl h8 (λj hj m x hx=>zih hx)
 have g:_ = []:=g8
 subst g
 subst e8
 subst e7
 subst e6
 subst e5
 subst e4
 subst e3
 subst e2
 subst e1
 intro hM
 refine⟨⟨s,a,b,l4,l5,l6,l7,l8⟩,rfl,⟨⟨by simp only;omega,by simp only;omega,by simp only;omega,by simp only;omega,by simp only;omega⟩,λz hz=>?_,λz hz=>?_⟩,⟨by simp only;omega,λz hz=>?_,λz hz=>?_,λz hz=>?_,λz hz=>?_,λz hz=>?_⟩⟩
 ·have:=wo (w:=λs:Sm=>s.name.length+esz s.x) hz;have:=XA z.x;simp only at *;omega
 ·have:=wo (w:=λt:Tb=>t.name.length+t.values.length) hz;simp only at *;omega
 ·have:=wo (w:=λb:Bd=>b.name.length) hz;simp only at *;omega
 ·have:=wo (w:=λb:Bd=>b.name.length) hz;simp only at *;omega
 ·have:=wo (w:=λb:Ln=>b.name.length) hz;simp only at *;omega
 ·have:=wo (w:=λt:Tb=>t.name.length+t.values.length) hz;simp only at *;omega
 ·have:=wo (w:=λs:Sm=>s.name.length+esz s.x) hz;simp only at *;omega
theorem zii(h:typed Tryz.T n 27 m ds)(hm:m<=1048576):∃p:Pr,ds=p.cs/\iE p/\zji p:=zfh h hm
theorem z0t(h:typed Tryz.T n 29 m ds):∃l:List (List Int),ds = [.sl 1 (l.map lC)]/\l.length+1<=m/\∀t∈l,t.length<=m:=by
 obtain⟨ys,h1,h3,h2,_⟩:=JP (f:=lC) (w:=λt=>t.length) (Q:=λ_=>True) (e:=28) rfl h (λk _ m x hx=>by
  obtain⟨v,rfl,hv⟩:=xR hx
  exact⟨v,rfl,by omega,trivial⟩)
 exact⟨ys,h1,h2,λt ht=>by have:=wo (w:=λt:List Int=>t.length) ht;omega⟩
theorem z0u(h:typed Tryz.T n 31 m ds)(hm:m<=1048576):∃s:Mn.St,ds = [.sl 1 (s.vals.map aC),.sl 1 (s.lines.map lC)]/\s.Sm:=by
 obtain⟨k,m',_,_,g0⟩:=fields_of (fs:=[(0,28),(1,29)]) rfl h
 obtain⟨_,_,_,_,_,e1,h1,g1⟩:=dA g0
 obtain⟨_,_,_,_,_,e2,h2,g2⟩:=dA g1
 obtain⟨a,rfl,qa⟩:=xR h1
 obtain⟨b,rfl,qb,rb⟩:=z0t h2
 have g:_ = []:=g2
 subst g
 subst e2
 subst e1
 exact⟨⟨a,b⟩,rfl,by simp only;omega,by simp only;omega,λt ht=>by have:=rb t ht;omega⟩
end
theorem z0v{H:Type}(l r:List (DataW H)):Rows.uptoBulkAll (l++r)=Rows.uptoBulkAll l+Rows.uptoBulkAll r:=by
 induction l with
 |nil=>simp[Rows.uptoBulkAll]
 |cons x l ih=>simp only[List.cons_append,Rows.uptoBulkAll,ih];omega
theorem z99{H:Type}{ds gs:List (DataW H)}(hk:Rows.uptoSmall H (ds++gs)=true):Rows.uptoBulkAll ds<=1048576:=by
 have h:Rows.uptoBulkAll (ds++gs)<=1048576:=of_decide_eq_true hk
 rw[z0v]at h
 omega
theorem jL{H:Type}{t:TypeId}{ts:List TypeId}{ds:List (DataW H)}{xs:List D}(h:lq Tryz.T (t::ts) ds xs):∃d ds' n l xs',ds=d::ds'/\typed Tryz.T n t (Rows.uptoBulk d) l/\xs=asD Tryz.T t l::xs'/\lq Tryz.T ts ds' xs':=by
 match ds,xs,h with
 | [],[],h=>exact h.elim
 | [],_::_,h=>exact h.elim
 |_::_,[],h=>exact h.elim
 |d::ds,x::xs,h=>
  obtain⟨⟨n,l,h1,rfl⟩,h⟩:=h
  exact⟨d,ds,n,l,xs,rfl,h1,rfl,h⟩
theorem XB{H:Type}{ds:List (DataW H)}{xs:List D}(h:lq Tryz.T [] ds xs):ds = []/\xs = []:=by
 match ds,xs,h with
 | [],[],_=>exact⟨rfl,rfl⟩
 | [],_::_,h=>exact h.elim
 |_::_,[],h=>exact h.elim
 |_::_,_::_,h=>exact h.elim
theorem own:ownKnob Tryz.prog.godebug=none:=by kernel_rfl
theorem laid:laidOutB Tryz.prog=true:=by kernel_rfl
theorem zkc{a b:Bool}(h1:a=true)(h2:b=true):(a&&b)=true:=by rw[h1,h2];rfl
theorem zij:mapsRowed Tryz.pinned.checked.prog=true:=by kernel_rfl
theorem zik:laidOutB Tryz.pinned.checked.prog=true:=laid
theorem zfi:Tryz.pinned.checked.prog.stopsHeard=true:=by kernel_rfl
theorem zfj:Tryz.pinned.checked.prog.mayEnter=true:=by kernel_rfl
theorem zfk:(Tryz.pinned.checked.prog.stops==[])=true:=by kernel_rfl
theorem zfl:(Tryz.pinned.checked.prog.stopKnobs==[])=true:=by kernel_rfl
def zfm:List Nat:=[3,5,9,21,22,23,24,25,26,27,28,29,30,31,51,52,53,54,55,56,57,58,67,68,113,114]
theorem zaa:qp Tryz.T zfm zfm=true:=by kernel_rfl
theorem tok':iQ Tryz.prog Tryz.T:=@tok ⟨λ_=>0,λ_=>(0,undef)⟩
noncomputable def low:Nat:=(World.holding Tryz.prog default ⟨#[],#[],[]⟩).heap.size
noncomputable def laidWorld(os:Os):World:=
 let w0:=World.holding Tryz.prog os ⟨#[.cells #[.string { data:=#[105,110,118,97,108,105,100,32,115,121,110,116,97,120]  }] 274,.cells #[.string { data:=#[118,97,108,117,101,32,111,117,116,32,111,102,32,114,97,110,103,101]  }] 274],#[],[]⟩
 { w0 with heap:=(((((w0.heap.modify 0 fun
   | .cells _ t frozen=>.cells #[.int .i64 (-2147483648),.int .i64 2147483647] t frozen
   |o=>o).modify 2 fun
   | .cells _ t frozen=>.cells #[.iface 272 (.pointer (some ⟨low,0,none⟩))] t frozen
   |o=>o).modify 3 fun
   | .cells _ t frozen=>.cells #[.iface 272 (.pointer (some ⟨low+1,0,none⟩))] t frozen
   |o=>o).modify 4 fun
   | .cells _ t frozen=>.cells (Lib.pow10Tab.map λz=>Value.int .u64 z).toArray t frozen
   |o=>o).modify 5 fun
   | .cells _ t frozen=>.cells ([0,1,28,2,29,14,24,3,30,22,20,15,25,17,4,8,31,27,13,23,21,19,16,7,26,12,18,6,11,5,10,9].map λz=>Value.int .u8 z).toArray t frozen
   |o=>o).modify 6 fun
   | .cells _ t frozen=>.cells ([0,1,56,2,57,49,28,3,61,58,42,50,38,29,17,4,62,47,59,36,45,43,51,22,53,39,33,30,24,18,12,5,63,55,48,27,60,41,37,16,46,35,44,21,52,32,23,11,54,26,40,15,34,20,31,10,25,14,19,9,13,8,7,6].map λz=>Value.int .u8 z).toArray t frozen
   |o=>o }
theorem laid_met(os:Os)(args:Array Value):laidMet Tryz.prog Rows.meaningKeepsUptoRow.laid ((laidWorld os).forCall (λ_ _=>0) ⟨#[],args,[]⟩).memory:=
 laidMet_of_run' 8 (by kernel_rfl) (by kernel_rfl)
end Go.Proofs.YtgehpmgkaeohaaaGreatDoor
