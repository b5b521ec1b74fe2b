/- The bridge of the seat of package syntax: package variables; the arguments; a world for the witness. -/
import Derived.Test.YtmfehangcmbidaaGreatDoorCards
import Derived.Test.YtmfehangcmbidaaGreatDoorTie
import Derived.Deep.DeepHandedRow
import Derived.Lib.LaidTab
import Derived.Stop.LaidErr
import Derived.Test.YtmfehangcmbidaaGreatDoorZK7
import Derived.Test.YtmfehangcmbidaaGreatDoorZDL
set_option linter.unusedSectionVars false
set_option linter.unusedSimpArgs false
set_option linter.unusedVariables false
namespace Go.Proofs.YtmfehangcmbidaaGreatDoor
open Go.Fw Go.Fw.Lx Go.ChangeShapes Go.WideShapes Go.RowKit
set_option maxRecDepth 100000
theorem rG{P:Program}{W:World}{n:String}{g:Nat}{cs:Array Value}(hg:P.globalNamed n=some g)(h:W.var? P n=some cs):∃t fr,W.heap[g]? = some (.cells cs t fr):=by
 unfold World.var? at h
 simp only[hg,Option.bind_some]at h
 split at h
 ·rename_i c t fr hh
  simp only[Option.some.injEq]at h
  subst h
  exact⟨t,fr,hh⟩
 ·cases h
theorem z7d(u:TypeId)(h:Tryz.prog.typeName? 3 u=some "*errors.errorString"):u=218:=
 typeName_ptr_named (nm:= "errors.errorString") (by rw[show "*" ++ "errors.errorString" = "*errors.errorString" by decide];kernel_rfl) (by kernel_rfl) (by decide) u (by rw[show "*" ++ "errors.errorString" = "*errors.errorString" by decide];exact h)
theorem z7e:Tryz.prog.globalNamed "strconv.ErrSyntax" = some 0:=by kernel_rfl
theorem z7f:Tryz.prog.globalNamed "strconv.ErrRange" = some 1:=by kernel_rfl
theorem z7g:Tryz.prog.globalNamed "internal/strconv.uint64pow10" = some 3:=by kernel_rfl
theorem z5g:∃ms,Tryz.prog.underlying 134=some (.interface ms):=by
 have h:(match Tryz.prog.underlying 134 with |some (.interface _)=>true |_=>false)=true:=by kernel_rfl
 split at h
 ·rename_i ms hm;exact⟨ms,hm⟩
 ·cases h
theorem z7t:∃f:Field,Tryz.prog.underlying 220=some (.struct #[f])/\f.type=9/\f.offset=0:=by
 have h:(match Tryz.prog.underlying 220 with |some (.struct ⟨[f]⟩)=>Nat.beq f.type 9&&Nat.beq f.offset 0 |_=>false)=true:=by kernel_rfl
 split at h
 ·rename_i f hm
  simp only[Bool.and_eq_true]at h
  exact⟨f,hm,Nat.eq_of_beq_eq_true h.1,Nat.eq_of_beq_eq_true h.2⟩
 ·cases h
theorem X7{W:World}(h:W.ShapedOpen Tryz.prog)(hL:laidMetH Tryz.prog Rows.syntaxBackUptoRow.laid W):∃I:ae,@XO I W:=by
 have hL0:laidMet Tryz.prog Rows.syntaxBackUptoRow.laid W:=hL
 have l1:=hL0.tail.tail
 have l2:=l1.tail
 have l3:=l2.tail
 have ht:Lib.TabIs Tryz.prog W "internal/strconv.uint64pow10" .u64 Lib.pow10Tab:=Lib.tabIs_of_head z7g (t:=212) (e:=193) (n:=20) (by kernel_rfl) (by kernel_rfl) (by kernel_rfl) (by kernel_rfl) (by kernel_rfl) l1
 obtain⟨ms,hms⟩:=z5g
 obtain⟨fd,hfd,hft,hfo⟩:=z7t
 obtain⟨a1,s1,hv1,_,_,_⟩:=laid_sentinel (ti:=134) (tp:=218) (te:=220) (ts:=9) l2 z7f (by kernel_rfl) hms z7d (by kernel_rfl) hfd hft hfo (by kernel_rfl) (by kernel_rfl) (by kernel_rfl)
 obtain⟨a0,s0,hv0,_,_,_⟩:=laid_sentinel (ti:=134) (tp:=218) (te:=220) (ts:=9) l3 z7e (by kernel_rfl) hms z7d (by kernel_rfl) hfd hft hfo (by kernel_rfl) (by kernel_rfl) (by kernel_rfl)
 obtain⟨cs,hh,hs,hr⟩:=h.1 2 #[.int .i64 0] 3 (of_decide_eq_true (by kernel_rfl)) (by kernel_rfl)
 have hs:cs.size=1:=hs
 obtain⟨ts,hts,_,hall⟩:=hr (by kernel_rfl)
 have hc:Tryz.prog.cellTypes Tryz.prog.depth 3=some [3]:=by kernel_rfl
 rw[hc]at hts
 cases hts
 have h1:0<cs.size:=by omega
 obtain⟨u,hu',hok⟩:=hall 0 cs[0] (by simp[h1])
 have:u=3:=by simpa using hu'.symm
 subst this
 have hu:Tryz.prog.underlying 3=some (.int .i64):=by kernel_rfl
 unfold Cell.ok at hok
 rw[hu]at hok
 have hv:∃m,cs[0] = .int .i64 m:=by
  cases hv:cs[0]<;>rw[hv]at hok<;>simp at hok
  case int k' n=>exact⟨n,by rw[hok.1]⟩
 obtain⟨m,hm⟩:=hv
 have hcs:cs = #[.int .i64 m]:=by
  rw[<-hm]
  exact Array.ext (by simp[hs]) λi h1 h2=>by
   have:i=0:=by omega
   subst this;simp
 subst hcs
 refine⟨⟨λ_=>m,λi=>(218,.pointer (some (if i=0 then a0 else a1)))⟩,@XO.mk ⟨λ_=>m,λi=>(218,.pointer (some (if i=0 then a0 else a1)))⟩ W ?_⟩
 intro g cs' hg
 simp only[pX]at hg
 have one:∀{x:Value},x.oneCell'=true->∀(j:Nat) v,([x]:List Value)[j]? = some v->v.oneCell'=true:=by
  intro x hx j v hj
  cases j with
  |zero=>simp only[List.getElem?_cons_zero,Option.some.injEq]at hj;subst hj;exact hx
  |succ j=>simp at hj
 split at hg
 ·rename_i hb
  have:g=0:=Nat.eq_of_beq_eq_true hb
  subst this
  simp only[Option.some.injEq]at hg
  subst hg
  exact⟨rG z7e hv0,one rfl⟩
 ·split at hg
  ·rename_i hb
   have:g=1:=Nat.eq_of_beq_eq_true hb
   subst this
   simp only[Option.some.injEq]at hg
   subst hg
   exact⟨rG z7f hv1,one rfl⟩
  ·split at hg
   ·rename_i hb
    have:g=2:=Nat.eq_of_beq_eq_true hb
    subst this
    simp only[Option.some.injEq]at hg
    subst hg
    exact⟨⟨_,_,hh⟩,one rfl⟩
   ·split at hg
    ·rename_i hb
     have:g=3:=Nat.eq_of_beq_eq_true hb
     subst this
     simp only[Option.some.injEq]at hg
     subst hg
     refine⟨rG z7g ht,λj v hj=>?_⟩
     rw[List.getElem?_map]at hj
     cases hz:Lib.pow10Tab[j]? with
     |none=>rw[hz]at hj;simp at hj
     |some z=>rw[hz]at hj;simp only[Option.map_some,Option.some.injEq]at hj;subst hj;rfl
    ·cases hg
section
variable [ae] {ds : List D} {n m : Nat} {T : Tbl}
theorem Qj{α:Type}{f:α->List D}{w:α->Nat}{Q:α->Prop}{n:Nat}{e:TypeId}(h:∀m x,typed T n e m x->∃y,x=f y/\w y<=m/\Q y):∀(es:List (List D)) (m:Nat),CB (typed T n e) es m->∃ys:List α,es=ys.map f/\(ys.map w).sum<=m/\ys.length<=m/\∀y∈ys,Q y
 | [],_,_=>⟨[],rfl,by simp,by simp,by simp⟩
 |x::r,m,hm=>by
  obtain⟨m1,m2,h1,h2,h3⟩:=hm
  obtain⟨y,rfl,hw,hq⟩:=h m1 x h2
  obtain⟨ys,rfl,hs,hl,hqs⟩:=Qj h r m2 h3
  have:=PI h2
  refine⟨y::ys,rfl,by simp only[List.map_cons,List.sum_cons];omega,by simp only[List.length_cons];omega,λz hz=>?_⟩
  rcases List.mem_cons.1 hz with rfl |hz
  ·exact hq
  ·exact hqs z hz
theorem z5h{α:Type}{f:α->List D}{w:α->Nat}{Q:α->Prop}{t e:TypeId}(ht:(T.at t).ty = .slice e)(hm:typed T n t m ds)(h:∀k,k<n->∀m x,typed T k e m x->∃y,x=f y/\w y<=m/\Q y) :
  ∃ys:List α,ds = [.sl (T.at e).size (ys.map f)]/\(ys.map w).sum+1<=m/\ys.length+1<=m/\∀y∈ys,Q y:=by
 cases n with
 |zero=>exact hm.elim
 |succ n=>
  simp only[typed,ht]at hm
  obtain⟨m',es,h1,rfl,h2⟩:=hm
  obtain⟨ys,rfl,hs,hl,hq⟩:=Qj (h n (Nat.lt_succ_self n)) es m' h2
  exact⟨ys,rfl,by omega,by omega,hq⟩
theorem z09{t:TypeId}{k:IntKind}(ht:(T.at t).ty = .int k)(hm:typed T n t m ds):∃v:Int,ds = [.val (.int k v)]/\k.min<=v/\v<=k.max:=by
 cases n with
 |zero=>exact hm.elim
 |succ n=>
  simp only[typed,ht]at hm
  obtain⟨_,v,rfl,h⟩:=hm
  exact⟨v,rfl,h⟩
theorem z1a{t:TypeId}(ht:(T.at t).ty = .str)(hm:typed T n t m ds):∃s:List UInt8,ds = [.str s]/\s.length+1<=m:=by
 cases n with
 |zero=>exact hm.elim
 |succ n=>
  simp only[typed,ht]at hm
  exact hm
theorem UB(h:typed Tryz.T n 33 m ds):∃l:Str,ds = [.sl 1 (l.map λc=>[D.u8 c])]/\l.length+1<=m:=by
 obtain⟨ys,h1,_,h3,_⟩:=z5h (f:=λc:UInt8=>[D.u8 c]) (w:=λ_=>0) (Q:=λ_=>True) (e:=5) rfl h (λk _ m x hx=>by
  obtain⟨v,rfl,h0,h1⟩:=z09 (k:=.u8) rfl hx
  have h0:0<=v:=h0
  have h1:v<=255:=h1
  refine⟨UInt8.ofNat v.toNat,?_,Nat.zero_le _,trivial⟩
  have:((UInt8.ofNat v.toNat).toNat:Int)=v:=by
   rw[UInt8.toNat_ofNat'];omega
  show _ = [D.val (.int .u8 _)]
  rw[this])
 exact⟨ys,h1,h3⟩
end
variable {H : Type}
theorem UC(l r:List (DataW H)):Rows.uptoBulkAll (l++r)=Rows.uptoBulkAll l+Rows.uptoBulkAll r:=by
 induction l with
 |nil=>simp[Rows.uptoBulkAll]
 |cons x l ih=>simp only[List.cons_append,Rows.uptoBulkAll,ih];omega
theorem X8{ds gs:List (DataW H)}(hk:Rows.uptoSmall H (ds++gs)=true):Rows.uptoBulkAll ds<=1048576:=by
 have h:Rows.uptoBulkAll (ds++gs)<=1048576:=of_decide_eq_true hk
 rw[UC]at h
 omega
theorem z7u{t:TypeId}{ds:List (DataW H)}{xs:List D}(h:lF Tryz.T [t] ds xs):∃d,ds = [d]/\∃n l,typed Tryz.T n t (Rows.uptoBulk d) l/\xs = [asD Tryz.T t l]:=by
 match ds,xs,h with
 | [d],[x],h=>
  obtain⟨⟨n,l,h1,rfl⟩,_⟩:=h
  exact⟨d,rfl,n,l,h1,rfl⟩
 | [],[],h=>exact h.elim
 | [],_::_,h=>exact h.elim
 |_::_,[],h=>exact h.elim
 | [_],_::_::_,h=>exact h.2.elim
 |_::_::_,[_],h=>exact h.2.elim
 |_::_::_,_::_::_,h=>exact h.2.elim
theorem z7h{t u:TypeId}{ds:List (DataW H)}{xs:List D}(h:lF Tryz.T [t,u] ds xs):∃d e,ds = [d,e]/\∃n l m k,typed Tryz.T n t (Rows.uptoBulk d) l/\typed Tryz.T m u (Rows.uptoBulk e) k/\xs = [asD Tryz.T t l,asD Tryz.T u k]:=by
 match ds,xs,h with
 | [],[],h=>exact h.elim
 | [],_::_,h=>exact h.elim
 |_::_,[],h=>exact h.elim
 |d::ds,x::xs,h=>
  obtain⟨⟨n,l,h1,rfl⟩,h⟩:=h
  obtain⟨e,rfl,m,k,h2,rfl⟩:=z7u h
  exact⟨d,e,rfl,n,l,m,k,h1,h2,rfl⟩
theorem own:ownKnob Tryz.prog.godebug=none:=by kernel_rfl
theorem laid:laidOutB Tryz.prog=true:=by kernel_rfl
def z1b:List Nat:=[3,5,9,33,34,38]
theorem X9:og Tryz.T z1b z1b=true:=by kernel_rfl
theorem tok':iY Tryz.prog Tryz.T:=@tok ⟨λ_=>0,λ_=>(0,undef)⟩
noncomputable def low:Nat:=(World.holding Tryz.prog default ⟨#[],#[],[]⟩).heap.size
noncomputable def laidWorld(os:Os):World:=
 let w0:=World.holding Tryz.prog os ⟨#[.cells #[.string { data:=#[105,110,118,97,108,105,100,32,115,121,110,116,97,120]  }] 220,.cells #[.string { data:=#[118,97,108,117,101,32,111,117,116,32,111,102,32,114,97,110,103,101]  }] 220],#[],[]⟩
 { w0 with heap:=((((w0.heap.modify 0 fun
   | .cells _ t frozen=>.cells #[.iface 218 (.pointer (some ⟨low,0,none⟩))] t frozen
   |o=>o).modify 1 fun
   | .cells _ t frozen=>.cells #[.iface 218 (.pointer (some ⟨low+1,0,none⟩))] t frozen
   |o=>o).modify 3 fun
   | .cells _ t frozen=>.cells (Lib.pow10Tab.map λz=>Value.int .u64 z).toArray t frozen
   |o=>o).modify 4 fun
   | .cells _ t frozen=>.cells ([0,1,28,2,29,14,24,3,30,22,20,15,25,17,4,8,31,27,13,23,21,19,16,7,26,12,18,6,11,5,10,9].map λz=>Value.int .u8 z).toArray t frozen
   |o=>o).modify 5 fun
   | .cells _ t frozen=>.cells ([0,1,56,2,57,49,28,3,61,58,42,50,38,29,17,4,62,47,59,36,45,43,51,22,53,39,33,30,24,18,12,5,63,55,48,27,60,41,37,16,46,35,44,21,52,32,23,11,54,26,40,15,34,20,31,10,25,14,19,9,13,8,7,6].map λz=>Value.int .u8 z).toArray t frozen
   |o=>o }
theorem laid_met(os:Os)(args:Array Value):laidMet Tryz.prog Rows.syntaxBackUptoRow.laid ((laidWorld os).forCall (λ_ _=>0) ⟨#[],args,[]⟩).memory:=
 laidMet_of_run' 8 (by kernel_rfl) (by kernel_rfl)
end Go.Proofs.YtmfehangcmbidaaGreatDoor
