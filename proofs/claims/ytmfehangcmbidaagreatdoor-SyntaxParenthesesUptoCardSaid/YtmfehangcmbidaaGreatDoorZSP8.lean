/- SyntaxBack: which expressions can be written and read back. -/
import Derived.Test.YtmfehangcmbidaaGreatDoorZDP
set_option linter.unusedSectionVars false
set_option linter.unusedSimpArgs false
set_option linter.unusedVariables false
namespace Go.Fw.Sy
open Go.Fw Go.Fw.Lx
def RH(s:Str):Prop:=words.contains s=false/\EL s=true
def FV(n:Int):Prop:=0<=n/\n<=2147483648
mutual
inductive G:Nat->Ex->Prop
 |num {k:Nat} {n:Int} (h:FV n):G k (.mk 1 [] 0 n [])
 |name {k:Nat} {s:Str} (h:RH s):G k (.mk 2 s 0 0 [])
 |neg {k:Nat} {x:Ex} (h:F k 3 x):G (k+1) (.mk 14 [] 0 0 [x])
 |one {k:Nat} {f:Int} {x:Ex} (hf:f=6\/f=7\/f=10\/f=13) (h:G k x):G (k+1) (.mk f [] 0 0 [x])
 |named {k:Nat} {f:Int} {s:Str} {x:Ex} (hf:f=8\/f=9) (hs:RH s) (h:G k x):G (k+1) (.mk f s 0 0 [x])
 |two {k:Nat} {f:Int} {x y:Ex} (hf:f=11\/f=12) (h:G k x) (h2:G k y):G (k+1) (.mk f [] 0 0 [x,y])
 |mul {k:Nat} {x y:Ex} (h:F k 2 x) (h2:F k 3 y):G k (.mk 17 [] 0 0 [x,y])
 |div {k:Nat} {x:Ex} {n:Int} (h:F k 2 x) (hn:FV n) (h0:n≠0):G k (.mk 18 [] 0 n [x])
 |add {k:Nat} {x y:Ex} (h:F k 1 x) (h2:F k 2 y):G k (.mk 15 [] 0 0 [x,y])
 |sub {k:Nat} {x y:Ex} (h:F k 1 x) (h2:F k 2 y):G k (.mk 16 [] 0 0 [x,y])
 |ife {k:Nat} {a b c d:Ex} (ha:F k 1 a) (hb:F k 1 b) (hc:G k c) (hd:G k d):G k (.mk 19 [] 0 0 [a,b,c,d])
inductive F:Nat->Int->Ex->Prop
 |bare {k:Nat} {v:Int} {x:Ex} (hv:v<=level x.kind) (h:G k x):F k v x
 |par {k:Nat} {v:Int} {x:Ex} (hv:level x.kind<v) (h:G k x):F (k+1) v x
end
mutual
theorem G.up:∀{k:Nat} {x:Ex},G k x->G (k+1) x
 |_,_,.num h=>.num h
 |_,_,.name h=>.name h
 |_,_,.neg h=>.neg h.up
 |_,_,.one hf h=>.one hf h.up
 |_,_,.named hf hs h=>.named hf hs h.up
 |_,_,.two hf h h2=>.two hf h.up h2.up
 |_,_,.mul h h2=>.mul h.up h2.up
 |_,_,.div h hn h0=>.div h.up hn h0
 |_,_,.add h h2=>.add h.up h2.up
 |_,_,.sub h h2=>.sub h.up h2.up
 |_,_,.ife a b c d=>.ife a.up b.up c.up d.up
theorem F.up:∀{k:Nat} {v:Int} {x:Ex},F k v x->F (k+1) v x
 |_,_,_,.bare hv h=>.bare hv h.up
 |_,_,_,.par hv h=>.par hv h.up
end
theorem F.low{k:Nat}{v w:Int}{x:Ex}(h:F k v x)(hw:w<=v):F k w x:=by
 cases h with
 |bare hv h=>exact .bare (by omega) h
 |par hv h=>
  rcases Int.lt_or_le (level x.kind) w with h1 |h1
  ·exact .par h1 h
  ·exact .bare h1 h.up
theorem F.g{k:Nat}{x:Ex}(h:F k 0 x):G k x:=by
 cases h with
 |bare hv h=>exact h
 |par hv h=>exact h.up
end Go.Fw.Sy
