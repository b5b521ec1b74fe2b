/- Package tails in plain words: the law Bound: greater declarations. -/
import Derived.Test.YtogfjinopifenaaGreatDoorZTA
set_option linter.unusedSectionVars false
set_option linter.unusedSimpArgs false
set_option linter.unusedVariables false
namespace Go.Fw.Tl
open Go.Fw Go.Fw.Ref15 Go.Fw.Rg
variable [GlobInt]
def minL(p:Pr)(c:Nat):Int:=mm2 false 4096 (p.latency+c)
theorem min_le(a b:Int):mm2 false a b=if b<a then b else a:=rfl
abbrev inX(n:Int):Ex:=⟨6,[],0,0,[⟨1,[],0,n,[]⟩]⟩
variable {p : Pr} {init : List Sm} {last : Sm} {sz : Nat}
variable {p : Pr} {init : List Sm} {last : Sm} {sz : Nat}
theorem bok_zero{p:Pr}{F:List Sp}(h:BOk p F):(boundsR p).2=0:=by rw[boundsR_ok (res_resE h.res) h.run]
end Go.Fw.Tl
namespace Go.Fw.Tl
open Go.Fw Go.Fw.Ref15 Go.Fw.Rg
set_option maxRecDepth 100000
variable [GlobInt]
abbrev numX(n:Int):Ex:=⟨1,[],0,n,[]⟩
end Go.Fw.Tl
namespace Go.Fw.Tl
open Go.Fw Go.Fw.Ref15 Go.Fw.Rg
variable [GlobInt]
mutual
def ndM:Ex->Int->Int->Int
 | .mk _ _ _ _ l,d,most=>if(bif d==0 then decide ((l.length:Int)>0)else false)=true then most+1 else mm2 false (ndL l d most 1) (most+1)
def ndL:List Ex->Int->Int->Int->Int
 | [],_,_,n=>n
 |y::r,d,most,n=>if n<=most then ndL r d most (n+ndM y (d-1) most)else n
end
theorem ndM_eq(x:Ex)(d most:Int):ndM x d most=if(bif d==0 then decide ((x.l.length:Int)>0)else false)=true then most+1 else mm2 false (ndL x.l d most 1) (most+1):=by cases x;rfl
theorem nd_rng{most:Int}(hm:0<=most):∀(x:Ex) (d:Int),1<=ndM x d most/\ndM x d most<=most+1:=by
 refine Ex.ind λx ih d=>?_
 have hL:∀l:List Ex,(∀y∈l,y∈x.l)->∀n,1<=n->1<=ndL l d most n:=by
  intro l
  induction l with
  |nil=>grind[ndL]
  |cons y r ihr=>
   grind[ndL]
 rw[ndM_eq]
 split
 ·omega
 ·grind[min_le]
def fewA(p:Pr):Bool:=bif (bif (bif (bif decide ((p.stmts.length:Int)>14)then true else decide ((p.params.length:Int)>18))then true else decide ((p.states.length:Int)>18))then true else decide ((p.lines.length:Int)>18))then true else decide ((p.tables.length:Int)>18)
def fewSm(s:Sm):Bool:=!decide (ndM s.x 12 40>40)
def fewTb(t:Tb):Bool:=!decide ((t.values.length:Int)>40)
def fewM(p:Pr):Bool:=if fewA p=true then false else if p.stmts.all fewSm then p.tables.all fewTb else false
abbrev minSm:Int:=-2147483648
abbrev maxSm:Int:=2147483647
abbrev sX:Ex:=⟨4,[115],0,0,[]⟩
abbrev satX(l:List Ex):Ex:=⟨10,[],0,0,[⟨15,[],0,0,l⟩]⟩
abbrev tapX(nm:Str)(i n:Int):Ex:=⟨8,nm,i,0,[⟨1,[],0,n,[]⟩]⟩
abbrev outS(x:Ex):Sm:=⟨4,[],0,x⟩
def proM(l:List Sm):Pr:=⟨[112],0,-1,[],[⟨[115],minSm,maxSm⟩],[⟨[100],3,minSm,maxSm⟩],[],l⟩
end Go.Fw.Tl
namespace Go.Fw.Tl
open Go.Fw Go.Fw.Ref15 Go.Fw.Rg
variable [GlobInt] {p : Pr}
def latT(p:Pr)(n:Int)(x:Ex)(j:Nat):Int:=((partsX x).take j).foldl (latX p) n
theorem latT_all(p:Pr)(n:Int)(s:Sm):latT p n s.x (partsX s.x).length=latS p n s:=by rw[latT,List.take_length];rfl
theorem latT_next{n:Int}{x:Ex}{j:Nat}(hj:j<(partsX x).length):latT p n x (j+1)=latX p (latT p n x j) ((partsX x).getD j Ex.none):=by
 rw[latT,List.take_add_one,List.foldl_append,List.getD_eq_getElem?_getD,List.getElem?_eq_getElem hj];rfl
theorem lat_no{n:Int}{x:Ex}{j:Nat}(hj:j<(partsX x).length)(hk:looks ((partsX x).getD j Ex.none)=false):latT p n x (j+1)=latT p n x j:=by
 grind[latT_next,latX]
theorem look_at{F:List Sp}(h:BOk p F)(g:GoodP p){i:Nat}{s:Sm}{r:List Sm}(hd:p.stmts.drop i=s::r){n:Int}{j:Nat}(hj:j<(partsX s.x).length)(hk:looks ((partsX s.x).getD j Ex.none)=true) :
  ∃z t,((partsX s.x).getD j Ex.none).l = [z]/\intervalR p z = .ok t/\Ref15.nodes z<=1073741824/\latT p n s.x (j+1)=mm2 true (latT p n s.x j) t.2:=by
 have hi:i<p.stmts.length:=by
  have:=congrArg List.length hd
  grind
 have hs:p.stmts[i]? = some s:=by
  have:=congrArg (λl=>l[0]?) hd
  simpa using this
 have hx:stmtX p (i:Int)=s.x:=stmtX_at hs
 have hm:(partsX s.x).getD j Ex.none∈partsX s.x:=by
  simp_all
 obtain⟨hl,t,h1,_⟩:=look_ok h hi (by simp_all) hk
 rw[latT_next hj]
 generalize (partsX s.x).getD j Ex.none=y at *
 obtain⟨z,hz⟩:∃z,y.l = [z]:=by
  cases e:y.l with
  |nil=>simp_all
  |cons a q=>simp_all
 have e1:y.l.getD 0 Ex.none=z:=by rw[hz];rfl
 rw[e1]at h1
 refine⟨z,t,hz,h1,?_,?_⟩
 ·have a1:=parts_nodes s.x y hm
  have a2:=g.hn s (List.mem_of_getElem? hs)
  grind[Ref15.nodes_eq,Ref15.nodesL]
 grind[latX,hiM]
theorem look_idx{y z:Ex}(h:y.l = [z]):0<=(0:Int)/\(Ex.css y.l)[(0:Int).toNat]? = some (Ex.cs z):=by
 rw[h,Ex.css_eq];simp
theorem mem_cases(g:GOk p)(hn:0<p.stmts.length):(∃v s',ageM p (settersM p) (p.stmts.length+1) ⟨[],[]⟩ ((p.stmts.length:Int)-1) = .ok v s')\/(∃t,ageM p (settersM p) (p.stmts.length+1) ⟨[],[]⟩ ((p.stmts.length:Int)-1) = .pan t):=by
 have hc:((p.stmts.length:Int)-1)=((p.stmts.length-1:Nat):Int):=by omega
 rcases age_ok g (p.stmts.length+1) ⟨[],[]⟩ (p.stmts.length-1) (by omega) ⟨λk v h=>by simp[lkA]at h⟩ (λo h=>by simp[isOpn,lkA]at h) (by
  have:=List.countP_le_length (p:=λk=>!isOpn ⟨[],[]⟩ (k:Nat)) (l:=List.range p.stmts.length)
  rw[List.length_range]at this
  exact Nat.lt_succ_of_le this)with⟨w,s',e1,_⟩ |⟨⟨t,e1⟩,_⟩<;>simp_all
theorem lat_1(h:(boundsR p).2=0):latencyM p=(latM p,0):=by rw[latencyM,h];rfl
theorem mem_1(h:(boundsR p).2=0):memoryM p=(memM p,0):=by rw[memoryM,h];rfl
end Go.Fw.Tl
