/- The bridge of the seat of package syntax: package variables; the arguments; a world for the witness. -/
import Derived.Test.YtmfehangcmbidaaGreatDoorCards
import Derived.Test.YtmfehangcmbidaaGreatDoorTie
import Derived.Deep.DeepHandedRow
import Derived.Lib.LaidTab
import Derived.Stop.LaidErr
import Derived.Test.YtmfehangcmbidaaGreatDoorZK7
import Derived.Test.YtmfehangcmbidaaGreatDoorZDL
set_option linter.unusedSectionVars false
set_option linter.unusedSimpArgs false
set_option linter.unusedVariables false
namespace Go.Proofs.YtmfehangcmbidaaGreatDoor
open Go.Fw Go.Fw.Lx Go.ChangeShapes Go.WideShapes Go.RowKit
set_option maxRecDepth 100000
theorem tJ{P:Program}{W:World}{n:String}{g:Nat}{cs:Array Value}(hg:P.globalNamed n=some g)(h:W.var? P n=some cs):∃t fr,W.heap[g]? = some (.cells cs t fr):=by
 unfold World.var? at h
 simp only[hg,Option.bind_some]at h
 split at h
 ·rename_i c t fr hh
  simp only[Option.some.injEq]at h
  subst h
  exact⟨t,fr,hh⟩
 ·cases h
theorem z8z(u:TypeId)(h:Tryz.prog.typeName? 3 u=some "*errors.errorString"):u=218:=
 typeName_ptr_named (nm:= "errors.errorString") (by rw[show "*" ++ "errors.errorString" = "*errors.errorString" by decide];kernel_rfl) (by kernel_rfl) (by decide) u (by rw[show "*" ++ "errors.errorString" = "*errors.errorString" by decide];exact h)
theorem z81:Tryz.prog.globalNamed "strconv.ErrSyntax" = some 0:=by kernel_rfl
theorem z88:Tryz.prog.globalNamed "strconv.ErrRange" = some 1:=by kernel_rfl
theorem z9a:Tryz.prog.globalNamed "internal/strconv.uint64pow10" = some 3:=by kernel_rfl
theorem z7b:∃ms,Tryz.prog.underlying 134=some (.interface ms):=by
 have h:(match Tryz.prog.underlying 134 with |some (.interface _)=>true |_=>false)=true:=by kernel_rfl
 split at h
 ·rename_i ms hm;exact⟨ms,hm⟩
 ·cases h
theorem z9n:∃f:Field,Tryz.prog.underlying 220=some (.struct #[f])/\f.type=9/\f.offset=0:=by
 have h:(match Tryz.prog.underlying 220 with |some (.struct ⟨[f]⟩)=>Nat.beq f.type 9&&Nat.beq f.offset 0 |_=>false)=true:=by kernel_rfl
 split at h
 ·rename_i f hm
  simp only[Bool.and_eq_true]at h
  exact⟨f,hm,Nat.eq_of_beq_eq_true h.1,Nat.eq_of_beq_eq_true h.2⟩
 ·cases h
theorem Zv{W:World}(h:W.ShapedOpen Tryz.prog)(hL:laidMetH Tryz.prog Rows.syntaxBackUptoRow.laid W):∃I:ae,@Zd I W:=by
 have hL0:laidMet Tryz.prog Rows.syntaxBackUptoRow.laid W:=hL
 have l1:=hL0.tail.tail
 have l2:=l1.tail
 have l3:=l2.tail
 have ht:Lib.TabIs Tryz.prog W "internal/strconv.uint64pow10" .u64 Lib.pow10Tab:=Lib.tabIs_of_head z9a (t:=212) (e:=193) (n:=20) (by kernel_rfl) (by kernel_rfl) (by kernel_rfl) (by kernel_rfl) (by kernel_rfl) l1
 obtain⟨ms,hms⟩:=z7b
 obtain⟨fd,hfd,hft,hfo⟩:=z9n
 obtain⟨a1,s1,hv1,_,_,_⟩:=laid_sentinel (ti:=134) (tp:=218) (te:=220) (ts:=9) l2 z88 (by kernel_rfl) hms z8z (by kernel_rfl) hfd hft hfo (by kernel_rfl) (by kernel_rfl) (by kernel_rfl)
 obtain⟨a0,s0,hv0,_,_,_⟩:=laid_sentinel (ti:=134) (tp:=218) (te:=220) (ts:=9) l3 z81 (by kernel_rfl) hms z8z (by kernel_rfl) hfd hft hfo (by kernel_rfl) (by kernel_rfl) (by kernel_rfl)
 obtain⟨cs,hh,hs,hr⟩:=h.1 2 #[.int .i64 0] 3 (of_decide_eq_true (by kernel_rfl)) (by kernel_rfl)
 have hs:cs.size=1:=hs
 obtain⟨ts,hts,_,hall⟩:=hr (by kernel_rfl)
 have hc:Tryz.prog.cellTypes Tryz.prog.depth 3=some [3]:=by kernel_rfl
 rw[hc]at hts
 cases hts
 have h1:0<cs.size:=by omega
 obtain⟨u,hu',hok⟩:=hall 0 cs[0] (by simp[h1])
 have:u=3:=by simpa using hu'.symm
 subst this
 have hu:Tryz.prog.underlying 3=some (.int .i64):=by kernel_rfl
 unfold Cell.ok at hok
 rw[hu]at hok
 have hv:∃m,cs[0] = .int .i64 m:=by
  cases hv:cs[0]<;>rw[hv]at hok<;>simp at hok
  case int k' n=>exact⟨n,by rw[hok.1]⟩
 obtain⟨m,hm⟩:=hv
 have hcs:cs = #[.int .i64 m]:=by
  rw[<-hm]
  exact Array.ext (by simp[hs]) λi h1 h2=>by
   have:i=0:=by omega
   subst this;simp
 subst hcs
 refine⟨⟨λ_=>m,λi=>(218,.pointer (some (if i=0 then a0 else a1)))⟩,@Zd.mk ⟨λ_=>m,λi=>(218,.pointer (some (if i=0 then a0 else a1)))⟩ W ?_⟩
 intro g cs' hg
 simp only[oJ]at hg
 have one:∀{x:Value},x.oneCell'=true->∀(j:Nat) v,([x]:List Value)[j]? = some v->v.oneCell'=true:=by
  intro x hx j v hj
  cases j with
  |zero=>simp only[List.getElem?_cons_zero,Option.some.injEq]at hj;subst hj;exact hx
  |succ j=>simp at hj
 split at hg
 ·rename_i hb
  have:g=0:=Nat.eq_of_beq_eq_true hb
  subst this
  simp only[Option.some.injEq]at hg
  subst hg
  exact⟨tJ z81 hv0,one rfl⟩
 ·split at hg
  ·rename_i hb
   have:g=1:=Nat.eq_of_beq_eq_true hb
   subst this
   simp only[Option.some.injEq]at hg
   subst hg
   exact⟨tJ z88 hv1,one rfl⟩
  ·split at hg
   ·rename_i hb
    have:g=2:=Nat.eq_of_beq_eq_true hb
    subst this
    simp only[Option.some.injEq]at hg
    subst hg
    exact⟨⟨_,_,hh⟩,one rfl⟩
   ·split at hg
    ·rename_i hb
     have:g=3:=Nat.eq_of_beq_eq_true hb
     subst this
     simp only[Option.some.injEq]at hg
     subst hg
     refine⟨tJ z9a ht,λj v hj=>?_⟩
     rw[List.getElem?_map]at hj
     cases hz:Lib.pow10Tab[j]? with
     |none=>rw[hz]at hj;simp at hj
     |some z=>rw[hz]at hj;simp only[Option.map_some,Option.some.injEq]at hj;subst hj;rfl
    ·cases hg
section
variable [ae] {ds : List D} {t : TypeId} {n m : Nat}
theorem z3i{T:Tbl}{k:IntKind}(ht:(T.at t).ty = .int k)(hm:typed T n t m ds):∃v:Int,ds = [.val (.int k v)]/\k.min<=v/\v<=k.max:=by
 cases n with
 |zero=>exact hm.elim
 |succ n=>
  simp only[typed,ht]at hm
  obtain⟨_,v,rfl,h⟩:=hm
  exact⟨v,rfl,h⟩
theorem CZ{T:Tbl}(ht:(T.at t).ty = .str)(hm:typed T n t m ds):∃s:List UInt8,ds = [.str s]/\s.length+1<=m:=by
 cases n with
 |zero=>exact hm.elim
 |succ n=>
  simp only[typed,ht]at hm
  exact hm
theorem fields_of{T:Tbl}{fs:List (Nat×TypeId)}(ht:(T.at t).ty = .struct fs)(hm:typed T n t m ds):∃k m',n=k+1/\m'+1<=m/\wU (typed T k) fs m' ds:=by
 cases n with
 |zero=>exact hm.elim
 |succ n=>
  simp only[typed,ht]at hm
  obtain⟨m',h1,h2⟩:=hm
  exact⟨n,m',rfl,h1,h2⟩
theorem dw{p:TypeId->Nat->List D->Prop}{o:Nat}{r:List (Nat×TypeId)}{m:Nat}(h:wU p ((o,t)::r) m ds):∃m1 m2 d1 d2,m1+m2<=m/\ds=d1++d2/\p t m1 d1/\wU p r m2 d2:=h
end
variable {H : Type}
theorem Wp(l r:List (DataW H)):Rows.uptoBulkAll (l++r)=Rows.uptoBulkAll l+Rows.uptoBulkAll r:=by
 induction l with
 |nil=>simp[Rows.uptoBulkAll]
 |cons x l ih=>simp only[List.cons_append,Rows.uptoBulkAll,ih];omega
theorem Zw{ds gs:List (DataW H)}(hk:Rows.uptoSmall H (ds++gs)=true):Rows.uptoBulkAll ds<=1048576:=by
 have h:Rows.uptoBulkAll (ds++gs)<=1048576:=of_decide_eq_true hk
 rw[Wp]at h
 omega
theorem z9b{t:TypeId}{ds:List (DataW H)}{xs:List D}(h:pK Tryz.T [t] ds xs):∃d,ds = [d]/\∃n l,typed Tryz.T n t (Rows.uptoBulk d) l/\xs = [asD Tryz.T t l]:=by
 match ds,xs,h with
 | [d],[x],h=>
  obtain⟨⟨n,l,h1,rfl⟩,_⟩:=h
  exact⟨d,rfl,n,l,h1,rfl⟩
 | [],[],h=>exact h.elim
 | [],_::_,h=>exact h.elim
 |_::_,[],h=>exact h.elim
 | [_],_::_::_,h=>exact h.2.elim
 |_::_::_,[_],h=>exact h.2.elim
 |_::_::_,_::_::_,h=>exact h.2.elim
theorem own:ownKnob Tryz.prog.godebug=none:=by kernel_rfl
theorem laid:laidOutB Tryz.prog=true:=by kernel_rfl
theorem tok':gY Tryz.prog Tryz.T:=@tok ⟨λ_=>0,λ_=>(0,undef)⟩
noncomputable def low:Nat:=(World.holding Tryz.prog default ⟨#[],#[],[]⟩).heap.size
noncomputable def laidWorld(os:Os):World:=
 let w0:=World.holding Tryz.prog os ⟨#[.cells #[.string { data:=#[105,110,118,97,108,105,100,32,115,121,110,116,97,120]  }] 220,.cells #[.string { data:=#[118,97,108,117,101,32,111,117,116,32,111,102,32,114,97,110,103,101]  }] 220],#[],[]⟩
 { w0 with heap:=((((w0.heap.modify 0 fun
   | .cells _ t frozen=>.cells #[.iface 218 (.pointer (some ⟨low,0,none⟩))] t frozen
   |o=>o).modify 1 fun
   | .cells _ t frozen=>.cells #[.iface 218 (.pointer (some ⟨low+1,0,none⟩))] t frozen
   |o=>o).modify 3 fun
   | .cells _ t frozen=>.cells (Lib.pow10Tab.map λz=>Value.int .u64 z).toArray t frozen
   |o=>o).modify 4 fun
   | .cells _ t frozen=>.cells ([0,1,28,2,29,14,24,3,30,22,20,15,25,17,4,8,31,27,13,23,21,19,16,7,26,12,18,6,11,5,10,9].map λz=>Value.int .u8 z).toArray t frozen
   |o=>o).modify 5 fun
   | .cells _ t frozen=>.cells ([0,1,56,2,57,49,28,3,61,58,42,50,38,29,17,4,62,47,59,36,45,43,51,22,53,39,33,30,24,18,12,5,63,55,48,27,60,41,37,16,46,35,44,21,52,32,23,11,54,26,40,15,34,20,31,10,25,14,19,9,13,8,7,6].map λz=>Value.int .u8 z).toArray t frozen
   |o=>o }
theorem laid_met(os:Os)(args:Array Value):laidMet Tryz.prog Rows.syntaxBackUptoRow.laid ((laidWorld os).forCall (λ_ _=>0) ⟨#[],args,[]⟩).memory:=
 laidMet_of_run' 8 (by kernel_rfl) (by kernel_rfl)
end Go.Proofs.YtmfehangcmbidaaGreatDoor
