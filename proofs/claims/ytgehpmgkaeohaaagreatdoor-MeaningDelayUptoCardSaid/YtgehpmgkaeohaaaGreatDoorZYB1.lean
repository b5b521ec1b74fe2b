/- A part of the proof. -/
import Derived.Test.YtgehpmgkaeohaaaGreatDoorCards
import Derived.Test.YtgehpmgkaeohaaaGreatDoorTie
import Derived.Deep.DeepHandedRow
import Derived.Lib.LaidTab
import Derived.Stop.LaidErr
import Derived.Test.YtgehpmgkaeohaaaGreatDoorZK7
import Derived.Test.YtgehpmgkaeohaaaGreatDoorZK6
import Derived.Test.YtgehpmgkaeohaaaGreatDoorZMA
set_option linter.all false
namespace Go.Proofs.YtgehpmgkaeohaaaGreatDoor
open Go.Fw Go.Fw.Ref15 Go.Fw.Rg Go.Fw.Tl Go.Fw.Mn Go.ChangeShapes Go.WideShapes Go.RowKit
set_option maxRecDepth 100000
theorem oO{P:Program}{W:World}{n:String}{g:Nat}{cs:Array Value}(hg:P.globalNamed n=some g)(h:W.var? P n=some cs):∃t fr,W.heap[g]? = some (.cells cs t fr):=by
 unfold World.var? at h
 simp only[hg,Option.bind_some]at h
 split at h
 ·rename_i c t fr hh
  simp only[Option.some.injEq]at h
  subst h
  exact⟨t,fr,hh⟩
 ·cases h
theorem zhg(u:TypeId)(h:Tryz.prog.typeName? 3 u=some "*errors.errorString"):u=272:=
 typeName_ptr_named (nm:= "errors.errorString") (by rw[show "*" ++ "errors.errorString" = "*errors.errorString" by decide];kernel_rfl) (by kernel_rfl) (by decide) u (by rw[show "*" ++ "errors.errorString" = "*errors.errorString" by decide];exact h)
theorem zhh:Tryz.prog.globalNamed "soundpost/ranges.samples" = some 0:=by kernel_rfl
theorem zhi:Tryz.prog.globalNamed "strconv.ErrSyntax" = some 2:=by kernel_rfl
theorem zhj:Tryz.prog.globalNamed "strconv.ErrRange" = some 3:=by kernel_rfl
theorem zhk:Tryz.prog.globalNamed "internal/strconv.uint64pow10" = some 4:=by kernel_rfl
theorem zgc:∃ms,Tryz.prog.underlying 211=some (.interface ms):=by
 have h:(match Tryz.prog.underlying 211 with |some (.interface _)=>true |_=>false)=true:=by kernel_rfl
 split at h
 ·rename_i ms hm;exact⟨ms,hm⟩
 ·cases h
theorem zh8:∃f:Field,Tryz.prog.underlying 274=some (.struct #[f])/\f.type=9/\f.offset=0:=by
 have h:(match Tryz.prog.underlying 274 with |some (.struct ⟨[f]⟩)=>Nat.beq f.type 9&&Nat.beq f.offset 0 |_=>false)=true:=by kernel_rfl
 split at h
 ·rename_i f hm
  simp only[Bool.and_eq_true]at h
  exact⟨f,hm,Nat.eq_of_beq_eq_true h.1,Nat.eq_of_beq_eq_true h.2⟩
 ·cases h
theorem z8c{W:World}(h:W.ShapedOpen Tryz.prog)(hL:laidMetH Tryz.prog Rows.meaningKeepsUptoRow.laid W):∃I:ae,@z5j I W:=by
 have hL0:laidMet Tryz.prog Rows.meaningKeepsUptoRow.laid W:=hL
 have l1:=hL0.tail.tail
 have l2:=l1.tail
 have l3:=l2.tail
 have l4:=l3.tail
 have hT:Lib.TabIs Tryz.prog W "soundpost/ranges.samples" .i64 [-2147483648,2147483647]:=Lib.tabIs_of_head zhh (t:=121) (e:=3) (n:=2) (by kernel_rfl) (by kernel_rfl) (by kernel_rfl) (by kernel_rfl) (by kernel_rfl) l4
 have ht:Lib.TabIs Tryz.prog W "internal/strconv.uint64pow10" .u64 Lib.pow10Tab:=Lib.tabIs_of_head zhk (t:=276) (e:=258) (n:=20) (by kernel_rfl) (by kernel_rfl) (by kernel_rfl) (by kernel_rfl) (by kernel_rfl) l1
 obtain⟨ms,hms⟩:=zgc
 obtain⟨fd,hfd,hft,hfo⟩:=zh8
 obtain⟨a1,s1,hv1,_,_,_⟩:=laid_sentinel (ti:=211) (tp:=272) (te:=274) (ts:=9) l2 zhj (by kernel_rfl) hms zhg (by kernel_rfl) hfd hft hfo (by kernel_rfl) (by kernel_rfl) (by kernel_rfl)
 obtain⟨a0,s0,hv0,_,_,_⟩:=laid_sentinel (ti:=211) (tp:=272) (te:=274) (ts:=9) l3 zhi (by kernel_rfl) hms zhg (by kernel_rfl) hfd hft hfo (by kernel_rfl) (by kernel_rfl) (by kernel_rfl)
 obtain⟨cs,hh,hs,hr⟩:=h.1 1 #[.int .i64 0] 3 (of_decide_eq_true (by kernel_rfl)) (by kernel_rfl)
 have hs:cs.size=1:=hs
 obtain⟨ts,hts,_,hall⟩:=hr (by kernel_rfl)
 have hc:Tryz.prog.cellTypes Tryz.prog.depth 3=some [3]:=by kernel_rfl
 rw[hc]at hts
 cases hts
 have h1:0<cs.size:=by omega
 obtain⟨u,hu',hok⟩:=hall 0 cs[0] (by simp[h1])
 have:u=3:=by simpa using hu'.symm
 subst this
 have hu:Tryz.prog.underlying 3=some (.int .i64):=by kernel_rfl
 unfold Cell.ok at hok
 rw[hu]at hok
 have hv:∃m,cs[0] = .int .i64 m:=by
  cases hv:cs[0]<;>rw[hv]at hok<;>simp at hok
  case int k' n=>exact⟨n,by rw[hok.1]⟩
 obtain⟨m,hm⟩:=hv
 have hcs:cs = #[.int .i64 m]:=by
  rw[<-hm]
  exact Array.ext (by simp[hs]) λi h1 h2=>by
   have:i=0:=by omega
   subst this;simp
 subst hcs
 refine⟨⟨λ_=>m,λi=>(272,.pointer (some (if i=0 then a0 else a1)))⟩,@z5j.mk ⟨λ_=>m,λi=>(272,.pointer (some (if i=0 then a0 else a1)))⟩ W ?_⟩
 intro g cs' hg
 simp only[rO]at hg
 have one:∀{x:Value},x.oneCell'=true->∀(j:Nat) v,([x]:List Value)[j]? = some v->v.oneCell'=true:=by
  intro x hx j v hj
  cases j with
  |zero=>simp only[List.getElem?_cons_zero,Option.some.injEq]at hj;subst hj;exact hx
  |succ j=>simp at hj
 split at hg
 ·rename_i hb
  have:g=0:=Nat.eq_of_beq_eq_true hb
  subst this
  simp only[Option.some.injEq]at hg
  subst hg
  refine⟨oO zhh hT,λj v hj=>?_⟩
  match j with
  | 0=>simp only[List.getElem?_cons_zero,Option.some.injEq]at hj;subst hj;rfl
  | 1=>simp only[List.getElem?_cons_succ,List.getElem?_cons_zero,Option.some.injEq]at hj;subst hj;rfl
  |j+2=>simp at hj
 ·split at hg
  ·rename_i hb
   have:g=1:=Nat.eq_of_beq_eq_true hb
   subst this
   simp only[Option.some.injEq]at hg
   subst hg
   exact⟨⟨_,_,hh⟩,one rfl⟩
  ·split at hg
   ·rename_i hb
    have:g=2:=Nat.eq_of_beq_eq_true hb
    subst this
    simp only[Option.some.injEq]at hg
    subst hg
    exact⟨oO zhi hv0,one rfl⟩
   ·split at hg
    ·rename_i hb
     have:g=3:=Nat.eq_of_beq_eq_true hb
     subst this
     simp only[Option.some.injEq]at hg
     subst hg
     exact⟨oO zhj hv1,one rfl⟩
    ·split at hg
     ·rename_i hb
      have:g=4:=Nat.eq_of_beq_eq_true hb
      subst this
      simp only[Option.some.injEq]at hg
      subst hg
      refine⟨oO zhk ht,λj v hj=>?_⟩
      rw[List.getElem?_map]at hj
      cases hz:Lib.pow10Tab[j]? with
      |none=>rw[hz]at hj;simp at hj
      |some z=>rw[hz]at hj;simp only[Option.map_some,Option.some.injEq]at hj;subst hj;rfl
     ·cases hg
section
variable [ae] {ds : List D} {n m : Nat}
theorem WU{T:Tbl}{α:Type}{f:α->List D}{w:α->Nat}{Q:α->Prop}{n:Nat}{e:TypeId}(h:∀m x,typed T n e m x->∃y,x=f y/\w y<=m/\Q y):∀(es:List (List D)) (m:Nat),FO (typed T n e) es m->∃ys:List α,es=ys.map f/\(ys.map w).sum<=m/\ys.length<=m/\∀y∈ys,Q y
 | [],_,_=>⟨[],rfl,by simp,by simp,by simp⟩
 |x::r,m,hm=>by
  obtain⟨m1,m2,h1,h2,h3⟩:=hm
  obtain⟨y,rfl,hw,hq⟩:=h m1 x h2
  obtain⟨ys,rfl,hs,hl,hqs⟩:=WU h r m2 h3
  have:=U1 h2
  refine⟨y::ys,rfl,by simp only[List.map_cons,List.sum_cons];omega,by simp only[List.length_cons];omega,λz hz=>?_⟩
  rcases List.mem_cons.1 hz with rfl |hz
  ·exact hq
  ·exact hqs z hz
theorem zgd{T:Tbl}{α:Type}{f:α->List D}{w:α->Nat}{Q:α->Prop}{t e:TypeId}(ht:(T.at t).ty = .slice e)(hm:typed T n t m ds)(h:∀k,k<n->∀m x,typed T k e m x->∃y,x=f y/\w y<=m/\Q y) :
  ∃ys:List α,ds = [.sl (T.at e).size (ys.map f)]/\(ys.map w).sum+1<=m/\ys.length+1<=m/\∀y∈ys,Q y:=by
 cases n with
 |zero=>exact hm.elim
 |succ n=>
  simp only[typed,ht]at hm
  obtain⟨m',es,h1,rfl,h2⟩:=hm
  obtain⟨ys,rfl,hs,hl,hq⟩:=WU (h n (Nat.lt_succ_self n)) es m' h2
  exact⟨ys,rfl,by omega,by omega,hq⟩
theorem WV{T:Tbl}{t:TypeId}{k:IntKind}(ht:(T.at t).ty = .int k)(hm:typed T n t m ds):∃v:Int,ds = [.val (.int k v)]/\k.min<=v/\v<=k.max:=by
 cases n with
 |zero=>exact hm.elim
 |succ n=>
  simp only[typed,ht]at hm
  obtain⟨_,v,rfl,h⟩:=hm
  exact⟨v,rfl,h⟩
theorem z8d(h:typed Tryz.T n 51 m ds):∃l:List Int,ds = [.sl 1 (l.map λx=>[D.val (.int .i32 x)])]/\l.length+1<=m/\∀v∈l,-2147483648<=v/\v<=2147483647:=by
 obtain⟨ys,h1,_,h2,h3⟩:=zgd (f:=λx=>[D.val (.int .i32 x)]) (w:=λ_=>0) (Q:=λv:Int=>-2147483648<=v/\v<=2147483647) (e:=21) rfl h (λk _ m x hx=>by
  obtain⟨v,rfl,hv⟩:=WV (k:=.i32) rfl hx
  exact⟨v,rfl,Nat.zero_le _,hv⟩)
 exact⟨ys,h1,h2,h3⟩
end
theorem ZI{H:Type}(l r:List (DataW H)):Rows.uptoBulkAll (l++r)=Rows.uptoBulkAll l+Rows.uptoBulkAll r:=by
 induction l with
 |nil=>simp[Rows.uptoBulkAll]
 |cons x l ih=>simp only[List.cons_append,Rows.uptoBulkAll,ih];omega
theorem z8e{H:Type}{ds gs:List (DataW H)}(hk:Rows.uptoSmall H (ds++gs)=true):Rows.uptoBulkAll ds<=1048576:=by
 have h:Rows.uptoBulkAll (ds++gs)<=1048576:=of_decide_eq_true hk
 rw[ZI]at h
 omega
theorem qZ{H:Type}{t:TypeId}{ts:List TypeId}{ds:List (DataW H)}{xs:List D}(h:lm Tryz.T (t::ts) ds xs):∃d ds' n l xs',ds=d::ds'/\typed Tryz.T n t (Rows.uptoBulk d) l/\xs=asD Tryz.T t l::xs'/\lm Tryz.T ts ds' xs':=by
 match ds,xs,h with
 | [],[],h=>exact h.elim
 | [],_::_,h=>exact h.elim
 |_::_,[],h=>exact h.elim
 |d::ds,x::xs,h=>
  obtain⟨⟨n,l,h1,rfl⟩,h⟩:=h
  exact⟨d,ds,n,l,xs,rfl,h1,rfl,h⟩
theorem WW{H:Type}{ds:List (DataW H)}{xs:List D}(h:lm Tryz.T [] ds xs):ds = []/\xs = []:=by
 match ds,xs,h with
 | [],[],_=>exact⟨rfl,rfl⟩
 | [],_::_,h=>exact h.elim
 |_::_,[],h=>exact h.elim
 |_::_,_::_,h=>exact h.elim
theorem own:ownKnob Tryz.prog.godebug=none:=by kernel_rfl
theorem laid:laidOutB Tryz.prog=true:=by kernel_rfl
theorem zh9{a b:Bool}(h1:a=true)(h2:b=true):(a&&b)=true:=by rw[h1,h2];rfl
theorem zge:mapsRowed Tryz.pinned.checked.prog=true:=by kernel_rfl
theorem zgf:laidOutB Tryz.pinned.checked.prog=true:=laid
theorem zdq:Tryz.pinned.checked.prog.stopsHeard=true:=by kernel_rfl
theorem zdr:Tryz.pinned.checked.prog.mayEnter=true:=by kernel_rfl
theorem zds:(Tryz.pinned.checked.prog.stops==[])=true:=by kernel_rfl
theorem zdt:(Tryz.pinned.checked.prog.stopKnobs==[])=true:=by kernel_rfl
def zdu:List Nat:=[3,5,9,21,22,23,24,25,26,27,28,29,30,31,51,52,53,54,55,56,57,58,67,68,113,114]
theorem z8f:qj Tryz.T zdu zdu=true:=by kernel_rfl
theorem tok':iQ Tryz.prog Tryz.T:=@tok ⟨λ_=>0,λ_=>(0,undef)⟩
noncomputable def low:Nat:=(World.holding Tryz.prog default ⟨#[],#[],[]⟩).heap.size
noncomputable def laidWorld(os:Os):World:=
 let w0:=World.holding Tryz.prog os ⟨#[.cells #[.string { data:=#[105,110,118,97,108,105,100,32,115,121,110,116,97,120]  }] 274,.cells #[.string { data:=#[118,97,108,117,101,32,111,117,116,32,111,102,32,114,97,110,103,101]  }] 274],#[],[]⟩
 { w0 with heap:=(((((w0.heap.modify 0 fun
   | .cells _ t frozen=>.cells #[.int .i64 (-2147483648),.int .i64 2147483647] t frozen
   |o=>o).modify 2 fun
   | .cells _ t frozen=>.cells #[.iface 272 (.pointer (some ⟨low,0,none⟩))] t frozen
   |o=>o).modify 3 fun
   | .cells _ t frozen=>.cells #[.iface 272 (.pointer (some ⟨low+1,0,none⟩))] t frozen
   |o=>o).modify 4 fun
   | .cells _ t frozen=>.cells (Lib.pow10Tab.map λz=>Value.int .u64 z).toArray t frozen
   |o=>o).modify 5 fun
   | .cells _ t frozen=>.cells ([0,1,28,2,29,14,24,3,30,22,20,15,25,17,4,8,31,27,13,23,21,19,16,7,26,12,18,6,11,5,10,9].map λz=>Value.int .u8 z).toArray t frozen
   |o=>o).modify 6 fun
   | .cells _ t frozen=>.cells ([0,1,56,2,57,49,28,3,61,58,42,50,38,29,17,4,62,47,59,36,45,43,51,22,53,39,33,30,24,18,12,5,63,55,48,27,60,41,37,16,46,35,44,21,52,32,23,11,54,26,40,15,34,20,31,10,25,14,19,9,13,8,7,6].map λz=>Value.int .u8 z).toArray t frozen
   |o=>o }
theorem laid_met(os:Os)(args:Array Value):laidMet Tryz.prog Rows.meaningKeepsUptoRow.laid ((laidWorld os).forCall (λ_ _=>0) ⟨#[],args,[]⟩).memory:=
 laidMet_of_run' 8 (by kernel_rfl) (by kernel_rfl)
end Go.Proofs.YtgehpmgkaeohaaaGreatDoor
