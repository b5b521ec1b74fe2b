/- A part of the proof. -/
import Derived.WalkKit
import Derived.Lib.ItoaNum
import Derived.Lib.ItoaMem
import Derived.WalkSpells
import Derived.WalkLawsBesides
import Derived.MapKept
import Derived.Lib.Strings
set_option linter.all false
namespace Go.Fw
class ae where
 val:Nat->Int
 err:Nat->TypeId×Value
def rU[ae](g:Nat):Option (List Value):=match Nat.beq g 0 with
 |true=>some [.int .i64 (-2147483648),.int .i64 2147483647]
 |false=>match Nat.beq g 1 with
  |true=>some [.int .i64 (ae.val 1)]
  |false=>match Nat.beq g 2 with
   |true=>some [.iface (ae.err 0).1 (ae.err 0).2]
   |false=>match Nat.beq g 3 with
    |true=>some [.iface (ae.err 1).1 (ae.err 1).2]
    |false=>match Nat.beq g 4 with
     |true=>some (Lib.pow10Tab.map λz=>Value.int .u64 z)
     |false=>none
def zi3(f:FuncId):Bool:=Nat.beq f 98 || (Nat.beq f 183 || (Nat.beq f 252 || (Nat.beq f 191 || (Nat.beq f 232 || (Nat.beq f 42 || (Nat.beq f 89 || Nat.beq f 82))))))
end Go.Fw
namespace Go.Fw
variable [ae]
abbrev dJ(w:World)(b:Nat)(arr:Array Value)(t:TypeId):Prop:=w.heap[b]? = some (Obj.cells arr t (0,0))
abbrev aS:=Nat->Nat->Prop
def fJ(w:World)(F:aS)(w':World)(F':aS):Prop:=
 ∀b o u,¬F b o->w.cell? ⟨b,o,none⟩=some u->¬F' b o/\w'.cell? ⟨b,o,none⟩=some u
structure RP where
 p:Nat->(Nat->Nat->Prop)->aS->World->Prop
 keep:∀{l:Nat} {S:Nat->Nat->Prop} {F F':aS} {w w':World},p l S F w->(∀b o,S b o->F' b o)->w.heap.size<=w'.heap.size->(∀b o,S b o->w'.heap[b]? = w.heap[b]?)->fJ w F w' F' ->
  (∀b arr t,dJ w b arr t->∃arr',dJ w' b arr' t/\arr'.size=arr.size)->p l S F' w'
abbrev yx:FuncId:=999999999
inductive D where
 |val (v:Value)
 |str (s:List UInt8)
 |sl (sz:Nat) (es:List (List D))
 |ptr (cells:List D)
 |iface (t:TypeId) (d:D)
 |agg (cells:List D)
 |tuple (ds:List D)
 |fn (f:FuncId) (caps:List D)
 deriving Inhabited
inductive AV where
 |data (d:D)
 |nilsl (sz:Nat)
 |gs (id sz:Nat) (es:List (List D))
 |own (id vr sz off len:Nat)
 |ptr (id off:Nat)
 |eptr (id vr sz i off:Nat)
 |map (id:Nat)
 |fn (f:FuncId) (caps:List AV)
 |bnd (f:FuncId) (first:List AV)
 |iface (t:TypeId) (v:AV)
 |agg (cells:List AV)
 |tuple (vs:List AV)
 |dfr (cs:List AV)
 |yld (id:Nat)
 |top
 deriving Inhabited
inductive KS where
 |int (k:IntKind) |str |bool
inductive Block where
 |cells (cs:List AV)
 |arr (vr sz:Nat) (es:List (List D))
 |tok (sz n:Nat)
 |map (g:Bool) (l:List KS) (es:List (D×D))
 |rnd (R:RP)
 |dead
 |adr (i b:Nat)
instance:Inhabited Block:=⟨.cells []⟩
abbrev Env:=List (Nat×AV)
abbrev Heap:=List (Nat×Block)
def Env.get:Env->Nat->AV
 | [],_=>.top
 |(k,v)::r,j=>match Nat.beq k j with |true=>v |false=>Env.get r j
def Env.set(e:Env)(d:Option Nat)(v:AV):Env:=match d with |some d=>(d,v)::e |none=>e
def Heap.get:Heap->Nat->Option Block
 | [],_=>none
 |(k,v)::r,j=>match Nat.beq k j with |true=>some v |false=>Heap.get r j
def Heap.del:Heap->Nat->Heap
 | [],_=>[]
 |(k,v)::r,j=>match Nat.beq k j with |true=>Heap.del r j |false=>(k,v)::Heap.del r j
def Heap.put(h:Heap)(j:Nat)(b:Block):Heap:=(j,b)::h.del j
inductive Ty where
 |int (k:IntKind) |bool |str |ptr (e:TypeId) |slice (e:TypeId) |struct (fs:List (Nat×TypeId)) |array (n:Nat) (e:TypeId) |map (k e:TypeId) |func |iface |other
 deriving Inhabited
structure TI where
 ty:Ty
 size:Nat
 bytes:Nat
 zero:List AV
 eqs:Bool
instance:Inhabited TI:=⟨⟨.other,0,0,[],false⟩⟩
abbrev Tbl:=List TI
def Tbl.at(T:Tbl)(t:TypeId):TI:=(T[t]?).getD default
def Ty.sh:Ty->Option Bool | .struct _ | .array _ _=>some true | .other=>none |_=>some false
def Tbl.sh(T:Tbl)(t:TypeId):Option Bool:=(T.at t).ty.sh
def Tbl.known(T:Tbl)(t:TypeId):Bool:=match T.sh t with |some _=>true |none=>false
def AV.toD?:AV->Option D
 | .data d=>some d
 | .nilsl sz=>some (.sl sz [])
 | .gs _ sz es=>some (.sl sz es)
 | .agg cs=>(go cs).map .agg
 | .tuple cs=>(go cs).map .tuple
 | .fn f cs=>(go cs).map (.fn f)
 | .iface t v=>(AV.toD? v).map (.iface t)
 |_=>none
where go:List AV->Option (List D)
 | []=>some []
 |v::r=>match AV.toD? v with
  |none=>none
  |some d=>match go r with |some ds=>some (d::ds) |none=>none
def AV.allD(vs:List AV):Option (List D):=AV.toD?.go vs
def AV.men(id:Nat):AV->Bool
 | .gs i _ _ | .own i _ _ _ _ | .ptr i _ | .eptr i _ _ _ _ | .map i | .yld i=>Nat.beq i id
 | .fn _ cs | .bnd _ cs | .agg cs | .tuple cs | .dfr cs=>go id cs
 | .iface _ v=>AV.men id v
 | .data _ | .nilsl _ | .top=>false
where go (id:Nat):List AV->Bool
 | []=>false
 |v::r=>match AV.men id v with |true=>true |false=>go id r
def Block.men(id:Nat):Block->Bool
 | .cells cs=>AV.men.go id cs
 | .adr i _=>Nat.beq i id
 |_=>false
def fU(id:Nat):Env->Bool
 | []=>false
 |(_,v)::r=>match v.men id with |true=>true |false=>fU id r
def pK(id:Nat):Heap->Bool
 | []=>false
 |(_,b)::r=>match b.men id with |true=>true |false=>pK id r
def bI(id:Nat):Bool:=Nat.ble 1000000 id
abbrev gq:Nat:=999999
def fresh(id:Nat)(env:Env)(K:Heap)(p:Prop):Prop:=match bI id with |true=>False |false=>match fU id env with |true=>False |false=>match pK id K with |true=>False |false=>p
def AV.cells:AV->List AV
 | .agg cs=>cs
 | .data (.agg ds)=>ds.map .data
 |v=>[v]
def z2x:List AV->Bool
 | []=>false
 |v::r=>match v with | .nilsl _=>true |_=>z2x r
def FC(cs:List AV):AV:=match z2x cs with
 |true=>.agg cs
 |false=>match AV.allD cs with |some ds=>.data (.agg ds) |none=>.agg cs
def AV.i(n:Int):AV:=.data (.val (.int .i64 n))
def AV.b(c:Bool):AV:=.data (.val (.bool c))
abbrev D.i(n:Int):D:=.val (.int .i64 n)
abbrev D.b(c:Bool):D:=.val (.bool c)
def Lj(T:Tbl)(t:TypeId):Value->AV
 | .string s=>.data (.str s.data.toList)
 | .slice none 0 0=>match(T.at t).ty with | .slice e=>.nilsl (T.at e).size |_=>.top
 | .agg cs=>.data (.agg (cs.toList.map .val))
 |v=>.data (.val v)
def ev(T:Tbl)(env:Env)(t:TypeId):Operand->AV
 | .tmp j=>env.get j
 | .const v=>Lj T t v
 | .func f=>.fn f []
 | .global g=>match rU g with |some cs=>.data (.ptr (cs.map .val)) |none=>.top
def Br(c:Bool)(p q:Prop):Prop:=match c with |true=>p |false=>q
def arith(op:BinOp)(k:IntKind)(a b:Int):Option AV:=match op with
 | .add=>some (.data (.val (.int k (k.wrap (a+b)))))
 | .sub=>some (.data (.val (.int k (k.wrap (a-b)))))
 | .mul=>some (.data (.val (.int k (k.wrap (a * b)))))
 | .eql=>some (.b (a==b))
 | .neq=>some (.b (a != b))
 | .lss=>some (.b (decide (a<b)))
 | .leq=>some (.b (decide (a<=b)))
 | .gtr=>some (.b (decide (a>b)))
 | .geq=>some (.b (decide (a>=b)))
 |_=>none
abbrev Next:=AV->Heap->Prop
def z2y(op:BinOp)(x y:AV)(K:Heap)(next:Next):Prop:=
 match x,y with
 | .data (.val (.int k a)),.data (.val (.int k' b))=>
  match op with
  | .shl=>0<=b/\next (.data (.val (.int k (k.wrap (a * 2 ^ (min b.toNat k.bits)))))) K
  | .shr=>0<=b/\next (.data (.val (.int k (a.fdiv (2 ^ (min b.toNat k.bits)))))) K
  |op=>match k==k' with
   |true=>match op with
    | .quo=>b≠0/\next (.data (.val (.int k (k.wrap (a.tdiv b))))) K
    | .rem=>b≠0/\next (.data (.val (.int k (a.tmod b)))) K
    |op=>match arith op k a b with
     |some r=>next r K
     |none=>False
   |false=>False
 | .data (.str a),.data (.str b)=>match op with
  | .eql=>next (.b (a==b)) K
  | .neq=>next (.b (!(a==b))) K
  | .add=>((a.length+b.length:Nat):Int)<=IntKind.i64.max/\next (.data (.str (a++b))) K
  |_=>False
 |_,_=>False
def vUn(op:UnOp)(x:AV)(K:Heap)(next:Next):Prop:=
 match op,x with
 | .not,.data (.val (.bool c))=>next (.b (!c)) K
 | .neg,.data (.val (.int k n))=>next (.data (.val (.int k (k.wrap (0-n))))) K
 |_,_=>False
def jM(T:Tbl)(t:TypeId)(x:AV)(K:Heap)(next:Next):Prop:=
 match x with
 | .ptr id off=>match K.get id with
  |some (.cells cs)=>match T.sh t with
   |some true=>match Nat.ble (off+(T.at t).size) cs.length with
    |true=>next (FC ((cs.drop off).take (T.at t).size)) K
    |false=>False
   |some false=>match cs[off]? with
    |some c=>next c K
    |none=>False
   |none=>False
  |_=>False
 | .data (.ptr cs)=>match T.sh t with
  |some true=>cs.length=(T.at t).size/\next (.data (.agg cs)) K
  |some false=>match cs with |c::_=>next (.data c) K | []=>False
  |none=>False
 | .eptr id vr sz' i off=>match K.get id with
  |some (.arr vr' sz es)=>match T.sh t with
   |some true=>match Nat.beq off 0&&Nat.beq sz (T.at t).size with
    |true=>(vr=vr'/\sz'=sz)/\∃e,es[i]? = some e/\next (.data (.agg e)) K
    |false=>(vr=vr'/\sz'=sz)/\off+(T.at t).size<=sz/\∃e,es[i]? = some e/\next (.data (.agg ((e.drop off).take (T.at t).size))) K
   |some false=>(vr=vr'/\sz'=sz)/\∃e,es[i]? = some e/\∃c,e[off]? = some c/\next (.data c) K
   |none=>False
  |_=>False
 |_=>False
def pM:Value->Bool | .agg _ | .tuple _=>false |_=>true
def D.scalar:D->Bool | .agg _ | .tuple _=>false | .val v=>pM v |_=>true
def AV.scalar:AV->Bool | .agg _ | .tuple _ | .dfr _ | .top=>false | .data d=>d.scalar |_=>true
def AV.celled:AV->Bool | .top | .dfr _=>false | .data (.val v)=>pM v |_=>true
def setRange(cs:List AV)(off:Nat)(vs:List AV):List AV:=cs.take off++vs++cs.drop (off+vs.length)
def zch(sz:Nat)(e:List D)(off:Nat)(ds:List D):List D:=match Nat.beq ds.length sz with |true=>ds |false=>e.take off++(ds++e.drop (off+ds.length))
def DT(T:Tbl)(t:TypeId)(x v:AV)(K:Heap)(next:Next):Prop:=
 match x with
 | .ptr id off=>match K.get id with
  |some (.cells cs)=>match T.known t&&(Nat.beq v.cells.length (T.at t).size&&(Nat.ble (off+v.cells.length) cs.length&&v.cells.all AV.scalar))with
   |true=>next (.data (.val undef)) (K.put id (.cells (setRange cs off v.cells)))
   |false=>False
  |_=>False
 | .eptr id vr sz' i off=>match K.get id with
  |some (.arr vr' sz es)=>match AV.allD v.cells with
   |some ds=>T.known t=true/\(vr=vr'/\sz'=sz)/\ds.length=(T.at t).size/\off+ds.length<=sz/\ds.all D.scalar=true/\∃e,es[i]? = some e/\next (.data (.val undef)) (K.put id (.arr vr' sz (es.set i (zch sz e off ds))))
   |none=>False
  |_=>False
 |_=>False
def zM(T:Tbl)(s:TypeId)(f:Nat)(x:AV)(K:Heap)(next:Next):Prop:=
 match(T.at s).ty with
 | .struct fs=>match fs[f]? with
  |some (o,ft)=>match T.known ft&&Nat.blt 0 (T.at ft).size with
   |false=>False
   |true=>match x with
    | .ptr id off=>next (.ptr id (off+o)) K
    | .eptr id vr sz i off=>next (.eptr id vr sz i (off+o)) K
    | .data (.ptr cs)=>match T.sh ft with
     |some true=>next (.data (.ptr ((cs.drop o).take (T.at ft).size))) K
     |some false=>next (.data (.ptr (cs.drop o))) K
     |none=>False
    |_=>False
  |none=>False
 |_=>False
def sS(T:Tbl)(s:TypeId)(f:Nat)(x:AV)(K:Heap)(next:Next):Prop:=
 match(T.at s).ty with
 | .struct fs=>match fs[f]? with
  |some (o,ft)=>match T.sh ft with
   |some true=>match x with
    | .agg cs=>match Nat.ble (o+(T.at ft).size) cs.length with |true=>next (FC ((cs.drop o).take (T.at ft).size)) K |false=>False
    | .data (.agg ds)=>match Nat.ble (o+(T.at ft).size) ds.length with |true=>next (.data (.agg ((ds.drop o).take (T.at ft).size))) K |false=>False
    |_=>False
   |some false=>match x with
    | .agg cs=>match cs[o]? with |some c=>next c K |none=>False
    | .data (.agg ds)=>match ds[o]? with |some d=>next (.data d) K |none=>False
    |_=>False
   |none=>False
  |none=>False
 |_=>False
def bn(T:Tbl)(t:TypeId)(x i:AV)(K:Heap)(next:Next):Prop:=
 match(T.at t).ty,i with
 | .slice e,.data (.val (.int _ n))=>match x with
  | .data (.sl sz es) | .gs _ sz es=>(T.known e=true/\sz=(T.at e).size)/\∃c,(0<=n/\es[n.toNat]? = some c)/\next (.data (.ptr c)) K
  | .own id vr sz off len=>match K.get id with
   |some (.arr vr' _ _)=>(T.known e=true/\sz=(T.at e).size/\vr=vr')/\(0<=n/\n<len)/\next (.eptr id vr sz (off+n.toNat) 0) K
   |_=>False
  |_=>False
 | .array m e,.data (.val (.int _ n))=>match x with
  | .ptr id off=>T.known e=true/\(0<=n/\n<m)/\next (.ptr id (off+n.toNat * (T.at e).size)) K
  | .eptr id vr sz i off=>T.known e=true/\(0<=n/\n<m)/\next (.eptr id vr sz i (off+n.toNat * (T.at e).size)) K
  | .data (.ptr cs)=>match T.sh e with
   |some true=>(0<=n/\n<m)/\next (.data (.ptr ((cs.drop (n.toNat * (T.at e).size)).take (T.at e).size))) K
   |some false=>(0<=n/\n<m)/\next (.data (.ptr (cs.drop (n.toNat * (T.at e).size)))) K
   |none=>False
  |_=>False
 |_,_=>False
def DU(T:Tbl)(t:TypeId)(x i:AV)(K:Heap)(next:Next):Prop:=
 match(T.at t).ty,i with
 | .str,.data (.val (.int _ n))=>match x with
  | .data (.str s)=>∃c,(0<=n/\s[n.toNat]? = some c)/\next (.data (.val (.int .u8 c.toNat))) K
  |_=>False
 | .array m e,.data (.val (.int _ n))=>match x with
  | .data (.agg ds)=>T.sh e=some false/\(T.at e).size=1/\ds.length=m/\∃c,(0<=n/\ds[n.toNat]? = some c)/\next (.data c) K
  | .agg ds=>T.sh e=some false/\(T.at e).size=1/\ds.length=m/\∃c,(0<=n/\ds[n.toNat]? = some c)/\next c K
  |_=>False
 |_,_=>False
def sU:Option AV->Option (Option Int)
 |none=>some none
 |some (.data (.val (.int _ n)))=>some (some n)
 |_=>none
def cut{α:Type}(l h:Option Int)(xs:List α):List α:=match l,h with
 |none,none=>xs
 |some l,none=>xs.drop l.toNat
 |none,some h=>xs.take h.toNat
 |some l,some h=>(xs.take h.toNat).drop l.toNat
def sV(l h:Option Int)(n:Nat):Prop:=match l,h with
 |none,none=>True
 |some l,none=>0<=l/\l<=n
 |none,some h=>0<=h/\h<=n
 |some l,some h=>0<=l/\l<=h/\h<=n
def DV(T:Tbl)(t:TypeId)(x:AV)(lo hi mx:Option AV)(K:Heap)(next:Next):Prop:=
 match mx with
 |some _=>False
 |none=>match sU lo,sU hi with
  |some l,some h=>match(T.at t).ty,x with
   | .str,.data (.str s)=>sV l h s.length/\next (.data (.str (cut l h s))) K
   | .slice e,.data (.sl sz es) | .slice e,.gs _ sz es=>(T.known e=true/\sz=(T.at e).size)/\sV l h es.length/\next (.data (.sl sz (cut l h es))) K
   | .slice e,.own id vr sz off len=>match K.get id with
    |some (.arr vr' _ _)=>(T.known e=true/\sz=(T.at e).size/\vr=vr')/\sV l h len/\next (.own id vr sz (off+(l.getD 0).toNat) ((h.getD len).toNat-(l.getD 0).toNat)) K
    |_=>False
   |_,_=>False
  |_,_=>False
def z5v(T:Tbl)(t:TypeId)(x:AV)(K:Heap)(next:Next):Prop:=
 match(T.at t).ty,x with
 | .str,.data (.str s)=>next (.i s.length) K
 | .slice _,.data (.sl _ es)=>next (.i es.length) K
 | .slice _,.gs _ _ es=>next (.i es.length) K
 | .slice _,.nilsl _=>next (.i 0) K
 | .slice _,.own _ _ _ _ n=>next (.i n) K
 | .map _ _,.map id=>match K.get id with
  |some (.map _ _ es)=>next (.i es.length) K
  |_=>False
 | .map _ _,.data (.val (.map none))=>next (.i 0) K
 |_,_=>False
def zN:AV->Option (Nat×List (List D))
 | .data (.sl sz es) | .gs _ sz es=>some (sz,es)
 | .nilsl sz=>some (sz,[])
 |_=>none
@[irreducible] def aI (_:Nat) (p q:Prop):Prop:=p\/q
theorem aI.l(i:Nat){p q:Prop}(h:p):aI i p q:=by grind[aI]
theorem aI.r(i:Nat){p q:Prop}(h:q):aI i p q:=by grind[aI]
theorem aI.out{i:Nat}{p q:Prop}(h:aI i p q):p\/q:=by grind[aI]
theorem iM{i:Nat}{p q p' q':Prop}(hp:p->p')(hq:q->q')(h:aI i p q):aI i p' q':=by
 rcases h.out with h |h
 ·exact .l _ (hp h)
 ·exact .r _ (hq h)
def jF(T:Tbl)(e:TypeId)(id:Nat)(env:Env)(x:AV)(szy:Nat)(ys:List (List D))(K:Heap)(next:Next):Prop:=
 match T.known e,(T.at e).zero with
  |true,z0::z=>match Nat.blt 0 (T.at e).size&&(Nat.blt 0 (T.at e).bytes&&(Nat.beq (z0::z).length (T.at e).size&&Nat.beq szy (T.at e).size))with
   |true=>match x with
    | .nilsl sz=>sz=(T.at e).size/\ys.length * (T.at e).bytes<=140737488355328/\aI id (fresh id env K (next (.gs id sz ys) (K.put id (.tok sz ys.length)))) (ys ≠ []/\fresh id env K (next (.own id 0 sz 0 ys.length) (K.put id (.arr 0 sz ys))))
    | .gs i sz es=>match K.get i with
     |some (.tok sz' n)=>(sz'=sz/\sz=(T.at e).size/\n=es.length)/\(es.length+ys.length) * (T.at e).bytes<=140737488355328/\next (.gs i sz (es++ys)) (K.put i (.tok sz (es++ys).length))
     |_=>False
    | .own i vr sz 0 n=>match K.get i with
     |some (.arr vr' sz' es)=>((vr=vr'/\sz'=sz)/\sz=(T.at e).size/\n<=es.length)/\(n+ys.length) * (T.at e).bytes<=140737488355328/\next (.own i (vr+1) sz 0 (n+ys.length)) (K.put i (.arr (vr+1) sz (es.take n++ys)))
     |_=>False
    |_=>False
   |false=>False
  |_,_=>False
def nX(T:Tbl)(t t2:TypeId)(id:Nat)(env:Env)(x y:AV)(K:Heap)(next:Next):Prop:=
 match(T.at t).ty,(T.at t2).ty with
 | .slice e,.slice _=>match zN y with
  |some (szy,ys)=>jF T e id env x szy ys K next
  |none=>match y with
   | .own j vr sz off len=>match K.get j with
    |some (.arr vr' sz' es)=>((vr=vr'/\sz'=sz)/\off+len<=es.length)/\jF T e id env x sz ((es.drop off).take len) K next
    |_=>False
   |_=>False
 |_,_=>False
def mm2(mx:Bool)(a b:Int):Int:=match mx with |true=>if b>a then b else a |false=>if b<a then b else a
def zO(mx:Bool)(k:IntKind)(a:Int):List AV->Option AV
 | []=>some (.data (.val (.int k a)))
 | .data (.val (.int _ b))::r=>zO mx k (mm2 mx a b) r
 |_=>none
def zci(mx:Bool):List AV->Option AV
 | .data (.val (.int k a))::r=>zO mx k a r
 |_=>none
def nY(cs:List AV):List (Nat×List AV)->List AV
 | []=>cs
 |(o,vs)::r=>nY (setRange cs o vs) r
def FD(L:Nat):Nat->List (Nat×List AV)->Bool
 |_,[]=>true
 |o,(o',vs)::r=>Nat.ble o o'&&(Nat.ble (o'+vs.length) L&&FD L (o'+vs.length) r)
def merge:Nat->List AV->List (Nat×List AV)->List AV
 |_,z,[]=>z
 |o,z,(o',vs)::r=>z.take (o' - o)++(vs++merge (o'+vs.length) (z.drop (o' - o+vs.length)) r)
def Ic:List (Nat×List AV)->Nat->AV->AV
 | [],_,d=>d
 |(o,vs)::r,i,d=>match Nat.beq o i with
  |true=>(match vs with |v::_=>Ic r i v | []=>Ic r i d)
  |false=>Ic r i d
def Ug(L:Nat):List (Nat×List AV)->Bool
 | []=>true
 |(o,vs)::r=>(match vs with | [_]=>Nat.blt o L |_=>false)&&Ug L r
def sW(ps:List (Nat×List AV)):Nat->List AV->List AV
 |_,[]=>[]
 |i,c::cs=>Ic ps i c::sW ps (i+1) cs
theorem zQ(ps:List (Nat×List AV)):∀(cs:List AV) (i j:Nat),(sW ps i cs)[j]? = (cs[j]?).map (Ic ps (i+j))
 | [],i,j=>by simp[sW]
 |c::cs,i,0=>by simp[sW]
 |c::cs,i,j+1=>by
  simp[sW]
  rw[zQ ps cs (i+1) j,show i+1+j=i+(j+1)by omega]
theorem YK(cs:List AV)(o:Nat)(v:AV)(h:o<cs.length)(j:Nat):(setRange cs o [v])[j]? = if o=j then some v else cs[j]?:=by
 simp only[setRange,List.append_assoc]
 rw[List.getElem?_append]
 simp only[List.length_take,show min o cs.length=o by omega]
 by_cases h1:j<o
 ·grind
 ·by_cases h2:o=j
  ·simp_all
  ·rw[List.getElem?_append]
   grind
theorem Oo:∀(ps:List (Nat×List AV)) (cs:List AV),Ug cs.length ps=true->∀j,(nY cs ps)[j]? = (cs[j]?).map (Ic ps j)
 | [],cs,_,j=>by
  show cs[j]? = (cs[j]?).map λd=>d
  simp
 |(o,vs)::r,cs,h,j=>by
  simp[Ug]at h
  obtain⟨h1,h2⟩:=h
  split at h1
  ·rename_i v
   have ho:o<cs.length:=by simp_all
   have hl:(setRange cs o [v]).length=cs.length:=by simp[setRange];omega
   rw[nY,Oo r (setRange cs o [v]) (by simp_all) j,YK cs o v ho j]
   by_cases e:o=j
   ·subst e
    rw[if_pos rfl,List.getElem?_eq_getElem ho]
    simp[Ic]
   ·rw[if_neg e]
    have:Nat.beq o j=false:=by
     cases hb:Nat.beq o j with
     |true=>exact absurd (Nat.eq_of_beq_eq_true hb) e
     |false=>rfl
    cases cs[j]? with
    |none=>rfl
    |some d=>simp[Ic,this]
  simp_all
theorem z5w(ps:List (Nat×List AV))(cs:List AV)(h:Ug cs.length ps=true):nY cs ps=sW ps 0 cs:=by
 apply List.ext_getElem?
 intro j
 rw[Oo ps cs h j,zQ,Nat.zero_add]
def splice(cs:List AV)(ps:List (Nat×List AV)):List AV:=match FD cs.length 0 ps with
 |true=>merge 0 cs ps
 |false=>match Ug cs.length ps with
  |true=>sW ps 0 cs
  |false=>nY cs ps
theorem Oq:∀(ps:List (Nat×List AV)) (p z:List AV),FD (p.length+z.length) p.length ps=true->nY (p++z) ps=p++merge p.length z ps
 | [],_,_,_=>rfl
 |(o,vs)::r,p,z,h=>by
  simp only[FD,Bool.and_eq_true]at h
  have h1:=Nat.le_of_ble_eq_true h.1
  have h2:=Nat.le_of_ble_eq_true h.2.1
  have e:setRange (p++z) o vs=(p++z.take (o-p.length)++vs)++z.drop (o-p.length+vs.length):=by
   simp[setRange,List.take_append,List.drop_append,List.take_of_length_le h1,List.drop_of_length_le (show p.length<=o+vs.length by omega)]
   grind
  have ih:=Oq r (p++z.take (o-p.length)++vs) (z.drop (o-p.length+vs.length)) (by
   grind)
  grind[nY,merge]
theorem Uh(cs:List AV)(ps:List (Nat×List AV)):splice cs ps=nY cs ps:=by
 unfold splice
 split
 ·rename_i h;exact(Oq ps [] cs (by simpa using h)).symm
 grind[z5w]
def placed(pl:Nat->Option (Nat×Nat))(L:Nat):List (Nat×AV)->Option (List (Nat×List AV))
 | []=>some []
 |(i,v)::r=>match pl i with
  |some (o,n)=>match v.celled&&(Nat.beq v.cells.length n&&Nat.ble (o+n) L)with
   |true=>match placed pl L r with |some ps=>some ((o,v.cells)::ps) |none=>none
   |false=>none
  |none=>none
def plS(T:Tbl)(fs:List (Nat×TypeId))(i:Nat):Option (Nat×Nat):=match fs[i]? with |some (o,t)=>some (o,(T.at t).size) |none=>none
def plA(sz i:Nat):Option (Nat×Nat):=some (i * sz,sz)
def DW(T:Tbl)(t:TypeId)(parts:List (Nat×AV))(K:Heap)(next:Next):Prop:=
 match T.known t,(T.at t).zero with
 |true,z0::z=>match(T.at t).ty with
  | .struct fs=>match fs.all λx=>T.known x.2 with
   |true=>match placed (plS T fs) (z0::z).length parts with
    |some ps=>next (FC (splice (z0::z) ps)) K
    |none=>False
   |false=>False
  | .array _ e=>match T.known e with
   |true=>match placed (plA (T.at e).size) (z0::z).length parts with
    |some ps=>next (FC (splice (z0::z) ps)) K
    |none=>False
   |false=>False
  |_=>False
 |true,[]=>match(T.at t).ty,parts with
  | .struct [],[]=>next (.data (.agg [])) K
  |_,_=>False
 |_,_=>False
def YL(z:List AV):Nat->List AV
 | 0=>[]
 |n+1=>z++YL z n
def chunks(sz:Nat):Nat->List D->List (List D)
 | 0,_=>[]
 |n+1,ds=>ds.take sz::chunks sz n (ds.drop sz)
def iO(T:Tbl)(t:TypeId)(id len:Nat)(env:Env)(parts:List (Nat×AV))(K:Heap)(next:Next):Prop:=
 match(T.at t).ty with
 | .slice e=>match T.known e,(T.at e).zero with
  |true,z0::z=>match placed (plA (T.at e).size) (len * (z0::z).length) parts with
   |some ps=>match AV.allD (splice (YL (z0::z) len) ps)with
    |some ds=>match Nat.beq (z0::z).length (T.at e).size&&(Nat.blt 0 (T.at e).size&&(Nat.ble (len * (T.at e).size) 16777216&&ds.all D.scalar))with
     |true=>aI id (fresh id env K (next (.gs id (T.at e).size (chunks (T.at e).size len ds)) (K.put id (.tok (T.at e).size len)))) (fresh id env K (next (.own id 0 (T.at e).size 0 len) (K.put id (.arr 0 (T.at e).size (chunks (T.at e).size len ds)))))
     |false=>False
    |none=>False
   |none=>False
  |_,_=>False
 |_=>False
def AV.ids:AV->List Nat
 | .gs i _ _ | .own i _ _ _ _ | .ptr i _ | .eptr i _ _ _ _ | .map i | .yld i=>[i]
 | .fn _ cs | .bnd _ cs | .agg cs | .tuple cs | .dfr cs=>go cs
 | .iface _ v=>AV.ids v
 | .data _ | .nilsl _ | .top=>[]
where go:List AV->List Nat
 | []=>[]
 |v::r=>AV.ids v++go r
def nU(l:List Nat)(x:Nat):Bool:=match l with | []=>false |y::r=>Nat.beq x y || nU r x
def rn:List (Nat×Nat)->Nat->Nat
 | [],i=>i
 |(a,b)::r,i=>match Nat.beq a i with |true=>b |false=>rn r i
def AV.ren(ρ:List (Nat×Nat)):AV->AV
 | .gs i sz es=>.gs (rn ρ i) sz es
 | .own i vr sz off len=>.own (rn ρ i) vr sz off len
 | .ptr i off=>.ptr (rn ρ i) off
 | .eptr i vr sz k off=>.eptr (rn ρ i) vr sz k off
 | .map i=>.map (rn ρ i)
 | .yld i=>.yld (rn ρ i)
 | .fn f cs=>.fn f (go ρ cs)
 | .bnd f cs=>.bnd f (go ρ cs)
 | .iface t v=>.iface t (AV.ren ρ v)
 | .agg cs=>.agg (go ρ cs)
 | .tuple cs=>.tuple (go ρ cs)
 | .dfr cs=>.dfr (go ρ cs)
 | .data d=>.data d
 | .nilsl s=>.nilsl s
 | .top=>.top
where go (ρ:List (Nat×Nat)):List AV->List AV
 | []=>[]
 |v::r=>AV.ren ρ v::go ρ r
def Block.ren(ρ:List (Nat×Nat)):Block->Block
 | .cells cs=>.cells (AV.ren.go ρ cs)
 | .adr i b=>.adr (rn ρ i) b
 |b=>b
def Block.ids:Block->List Nat
 | .cells cs=>AV.ids.go cs
 | .adr i _=>[i]
 |_=>[]
def keys:Heap->List Nat
 | []=>[]
 |(i,_)::r=>i::keys r
def ku(ρ:List (Nat×Nat)):Heap->Heap->Heap
 | [],K=>K
 |(i,b)::r,K=>(ku ρ r K).put (rn ρ i) (b.ren ρ)
def Heap.sub(ρ:List (Nat×Nat))(K:Heap):Heap->Prop
 | []=>True
 |(i,b)::r=>K.get (rn ρ i)=some (b.ren ρ)/\Heap.sub ρ K r
def reach(K:Heap):Nat->List Nat->List Nat->List Nat
 | 0,_,seen=>seen
 |_,[],seen=>seen
 |n+1,i::r,seen=>match nU seen i with
  |true=>reach K n r seen
  |false=>reach K n ((match K.get i with |some b=>b.ids |none=>[])++r) (i::seen)
def z5x:Heap->List Nat
 | []=>[]
 |(j,b)::r=>match b with | .adr _ _=>j::z5x r |_=>z5x r
def pO:List Nat->Bool
 | []=>true
 |x::r=>!nU r x&&pO r
def allIn(l:List Nat):List Nat->Bool
 | []=>true
 |x::r=>nU l x&&allIn l r
def kD(env:Env)(K:Heap):List Nat->Bool
 | []=>true
 |j::r=>(!bI j&&(!fU j env&&(!pK j K&&(match K.get j with |none=>true |some _=>false))))&&kD env K r
def minus:List Nat->List Nat->List Nat
 | [],_=>[]
 |x::r,l=>match nU l x with |true=>minus r l |false=>x::minus r l
def Ui:Heap->List Nat
 | []=>[]
 |(_,b)::r=>b.ids++Ui r
def tmpsOf:List Operand->List Nat
 | []=>[]
 | .tmp t::r=>t::tmpsOf r
 |_::r=>tmpsOf r
def ja(env:Env):List Nat->List Nat
 | []=>[]
 |t::r=>(env.get t).ids++ja env r
def fP(env:Env)(K:Heap)(o:Oper):List Nat:=match o.op with
 | .call c=>match c.callee with
  | .value _=>reach K 1000 (ja env (tmpsOf o.op.operands.toList)) (z5x K)
  |_=>ja env (tmpsOf o.op.operands.toList)
 | .move _ | .nilCheck _ | .fieldAddr _ _ _=>[]
 |_=>ja env (tmpsOf o.op.operands.toList)
inductive gG where
 |ret (v:AV)
 |pan (v:AV)
inductive lY where
 |ret (d:D)
 |pan (d:D)
def gG.av:gG->AV | .ret v | .pan v=>v
def aO(ρ:List (Nat×Nat)):List Nat->List Nat
 | []=>[]
 |x::r=>rn ρ x::aO ρ r
def bV(ρ:List (Nat×Nat))(K0 K1:Heap)(out:AV)(env:Env)(K:Heap)(L:List Nat):Bool:=
 pO (aO ρ (keys K1))&&(allIn (keys K1) (keys K0)&&(allIn L (aO ρ (keys K0))&&(kD env K (aO ρ (minus (keys K1) (keys K0)))&&(allIn (keys K1) (out.ids)&&allIn (keys K1) (Ui K1)))))
def outGo(ρ:List (Nat×Nat))(K1 K:Heap)(next pan:Next):gG->Prop
 | .ret v=>next (v.ren ρ) (ku ρ K1 K)
 | .pan v=>pan (v.ren ρ) (ku ρ K1 K)
def FH(B:FuncId->List AV->Heap->gG->Heap->Prop)(L:List Nat)(f:FuncId)(as:List AV)(env:Env)(K:Heap)(next pan:Next):Prop:=
 ∃(as0:List AV) (K0:Heap) (out:gG) (K1:Heap) (ρ:List (Nat×Nat)),B f as0 K0 out K1/\AV.ren.go ρ as0=as/\Heap.sub ρ K K0/\bV ρ K0 K1 out.av env K L=true /\
  outGo ρ K1 K next pan out
def nZ(K:Heap):AV->Option D
 | .own id vr sz off len=>match K.get id with
  |some (.arr _ _ es)=>some (.sl sz ((es.drop off).take len))
  |_=>none
 |v=>AV.toD? v
def nG(K:Heap):List AV->Option (List D)
 | []=>some []
 |v::r=>match nZ K v with
  |some d=>match nG K r with |some ds=>some (d::ds) |none=>none
  |none=>none
def lenOk(K:Heap)(v:AV)(p:Prop):Prop:=match v with
 | .own id vr sz off len=>match K.get id with |some (.arr vr' sz' es)=>((vr=vr'/\sz'=sz)/\off+len<=es.length)/\p |_=>False
 |_=>p
def zS(K:Heap):List AV->Prop->Prop
 | [],p=>p
 |v::r,p=>lenOk K v (zS K r p)
def FI(K:Heap):AV->Option D
 | .ptr id off=>match K.get id with
  |some (.cells cs)=>match nG K (cs.drop off)with
   |some ds=>match ds.all D.scalar with |true=>some (.ptr ds) |false=>none
   |none=>none
  |_=>none
 | .agg cs=>match nG K cs with |some ds=>some (.agg ds) |none=>none
 |v=>nZ K v
def qL(K:Heap):List AV->Option (List D)
 | []=>some []
 |v::r=>match FI K v with
  |some d=>match qL K r with |some ds=>some (d::ds) |none=>none
  |none=>none
def kR(K:Heap):List AV->Prop->Prop
 | [],p=>p
 | .agg cs::r,p=>zS K cs (kR K r p)
 | .ptr id off::r,p=>match K.get id with |some (.cells cs)=>zS K (cs.drop off) (kR K r p) |_=>kR K r p
 |v::r,p=>lenOk K v (kR K r p)
def rV:List AV->List Nat
 | []=>[]
 | .own id _ _ _ _::r=>id::rV r
 |_::r=>rV r
def jO(K:Heap):List AV->List Nat
 | []=>[]
 | .ptr id off::r=>id::((match K.get id with |some (.cells cs)=>rV (cs.drop off) |_=>[])++jO K r)
 | .own id _ _ _ _::r=>id::jO K r
 | .agg cs::r=>rV cs++jO K r
 |_::r=>jO K r
def D.flat:D->Bool
 | .val _ | .str _=>true
 | .iface _ d=>D.flat d
 | .tuple ds | .agg ds=>go ds
 |_=>false
where go:List D->Bool
 | []=>true
 |d::r=>match D.flat d with |true=>go r |false=>false
def z5y(A:FuncId->List D->lY->Prop)(L:List Nat)(f:FuncId)(as:List AV)(K:Heap)(next pan:Next):Prop:=
 match allIn L (jO K as),qL K as with
 |true,some ds=>kR K as (∃out,A f ds out/\match out with | .ret v=>D.flat v=true/\next (.data v) K | .pan v=>D.flat v=true/\pan (.data v) K)
 |_,_=>False
def zT(A:FuncId->List D->lY->Prop)(B:FuncId->List AV->Heap->gG->Heap->Prop)(L:List Nat)(f:FuncId)(as:List AV)(env:Env)(K:Heap)(next pan:Next):Prop:=
 match Nat.beq f yx with
 |true=>False
 |false=>match AV.allD as with
 |some ds=>(∃out,A f ds out/\match out with | .ret v=>next (.data v) K | .pan v=>pan (.data v) K)\/FH B L f as env K next pan
 |none=>match zi3 f with
  |true=>z5y A L f as K next pan
  |false=>FH B L f as env K next pan
def zU(f:FuncId)(as:List AV):Bool:=match AV.allD as with |some _=>false |none=>zi3 f
def KS.ok:KS->D->Bool
 | .int k,.val (.int k' _)=>k==k'
 | .str,.str _=>true
 | .bool,.val (.bool _)=>true
 |_,_=>false
def sameS:D->D->Bool
 | .val (.int _ a),.val (.int _ b)=>a==b
 | .val (.bool a),.val (.bool b)=>a==b
 | .str a,.str b=>a==b
 |_,_=>false
def pI:List KS->List D->Bool
 | [],[]=>true
 |k::l,d::ds=>k.ok d&&pI l ds
 |_,_=>false
def sameL:List D->List D->Bool
 |a::r,b::s=>sameS a b&&sameL r s
 |_,_=>true
def iP(g:Bool)(l:List KS)(d:D):Bool:=match g,d with
 |true,.agg ds=>pI l ds
 |true,_=>false
 |false,d=>match l with | [k]=>k.ok d |_=>false
def dC:D->D->Bool
 | .agg ds,.agg es=>sameL ds es
 |a,b=>sameS a b
def Ie(T:Tbl)(f:TypeId->Option (List KS)):Nat->List (Nat×TypeId)->Option (List KS)
 |_,[]=>some []
 |off,(o,t)::r=>match f t with
  |some l=>match Nat.beq o off&&Nat.beq l.length (T.at t).size with
   |true=>match Ie T f (off+(T.at t).size) r with |some l2=>some (l++l2) |none=>none
   |false=>none
  |none=>none
def Ud(l:List KS):Nat->List KS
 | 0=>[]
 |n+1=>l++Ud l n
def flat(T:Tbl):Nat->TypeId->Option (List KS)
 | 0,_=>none
 |n+1,t=>match(T.at t).ty with
  | .int k=>some [.int k]
  | .str=>some [.str]
  | .bool=>some [.bool]
  | .struct fs=>match(T.at t).eqs with |true=>Ie T (flat T n) 0 fs |false=>none
  | .array m e=>match(T.at t).eqs with
   |true=>match flat T n e with
    |some l=>match Nat.beq l.length (T.at e).size with |true=>some (Ud l m) |false=>none
    |none=>none
   |false=>none
  |_=>none
def KS.eq:KS->KS->Bool
 | .int k,.int k'=>k==k'
 | .str,.str=>true
 | .bool,.bool=>true
 |_,_=>false
def z5z:List KS->List KS->Bool
 | [],[]=>true
 |a::r,b::s=>a.eq b&&z5z r s
 |_,_=>false
def FK(T:Tbl)(t:TypeId):Option (Bool×List KS):=match flat T 8 t,T.sh t with
 |some l,some g=>match Nat.beq l.length (T.at t).size with |true=>some (g,l) |false=>none
 |_,_=>none
def nV(k:D):List (D×D)->Option D
 | []=>none
 |(a,v)::r=>match dC k a with |true=>some v |false=>nV k r
def mput(k v:D):List (D×D)->List (D×D)
 | []=>[(k,v)]
 |(a,w)::r=>match dC k a with |true=>(k,v)::r |false=>(a,w)::mput k v r
def rH(o:Option D)(f:D->Prop)(g:Prop):Prop:=match o with |some d=>f d |none=>g
def QW(T:Tbl)(t:TypeId):Option D:=match T.known t,(T.at t).zero with
 |true,z0::z=>match AV.allD (z0::z),T.sh t with
  |some ds,some true=>some (.agg ds)
  |some [d],some false=>some d
  |_,_=>none
 |true,[]=>match(T.at t).ty with | .struct []=>some (.agg []) |_=>none
 |_,_=>none
def QX(ok:Bool)(d:D)(b:Bool):D:=match ok with |true=>.tuple [d,.b b] |false=>d
def zcv(ok:Bool)(x:AV)(b:Bool):AV:=match ok with |true=>.tuple [x,.b b] |false=>x
def isConst:Operand->Bool | .const _=>true |_=>false
def Ot(op:BinOp)(x:AV):Bool:=match op with
 | .eql | .neq=>(match x with
  | .data (.val (.int _ _))=>false
  | .data (.str _)=>false
  |_=>true)
 |_=>false
def kS(op:BinOp)(b:Bool):AV:=match op with | .eql=>.b b |_=>.b (!b)
def zcj(T:Tbl)(t:TypeId)(op:BinOp)(xo yo:Operand)(x y:AV)(K:Heap)(next:Next):Prop:=
 match(T.at t).ty with
 | .struct _ | .array _ _=>match x,y with
  | .data (.agg ds),.data (.agg es)=>match FK T t with
   |some (true,l)=>(pI l ds=true/\pI l es=true)/\next (kS op (sameL ds es)) K
   |_=>False
  |_,_=>False
 | .bool=>match x,y with
  | .data (.val (.bool a)),.data (.val (.bool b))=>next (kS op (a==b)) K
  |_,_=>False
 | .iface=>match x,y with
  | .data (.val .nilIface),.data (.val .nilIface)=>(isConst xo || isConst yo)=true/\next (kS op true) K
  | .data (.iface _ _),.data (.val .nilIface)=>next (kS op false) K
  | .iface _ _,.data (.val .nilIface)=>next (kS op false) K
  | .data (.val .nilIface),.data (.iface _ _)=>next (kS op false) K
  | .data (.val .nilIface),.iface _ _=>next (kS op false) K
  |_,_=>False
 | .ptr _=>match x,y with
  | .data (.val (.pointer none)),.data (.val (.pointer none))=>next (kS op true) K
  | .data (.ptr _),.data (.val (.pointer none))=>next (kS op false) K
  | .ptr _ _,.data (.val (.pointer none))=>next (kS op false) K
  | .eptr _ _ _ _ _,.data (.val (.pointer none))=>next (kS op false) K
  |_,_=>False
 |_=>False
def wQ(T:Tbl)(as:TypeId)(ok:Bool)(x:AV)(K:Heap)(next:Next):Prop:=match x with
 | .iface t v=>match Nat.beq t as with
  |true=>next (zcv ok v true) K
  |false=>match ok,QW T as with |true,some z=>next (.data (.tuple [z,.b false])) K |_,_=>False
 | .data (.iface t d)=>match Nat.beq t as with
  |true=>next (.data (QX ok d true)) K
  |false=>match ok,QW T as with |true,some z=>next (.data (.tuple [z,.b false])) K |_,_=>False
 | .data (.val .nilIface)=>match ok,QW T as with |true,some z=>next (.data (.tuple [z,.b false])) K |_,_=>False
 |_=>False
def Ig(T:Tbl)(env:Env)(K:Heap)(o:Oper)(next:Next):Prop:=
 match o.op with
 | .makeMap t r=>match o.dst,(T.at t).ty,(match r with |none=>true |some r=>match ev T env 0 r with | .data (.val (.int _ _))=>true |_=>false)with
  |some d,.map kt _,true=>match FK T kt with
   |some (g,l)=>fresh d env K (next (.map d) (K.put d (.map g l [])))
   |none=>False
  |_,_,_=>False
 | .mapUpdate t m k x | .insert t m k x=>match(T.at t).ty with
  | .map kt et=>match FK T kt,(ev T env kt k).toD?,(ev T env et x).toD?,ev T env 0 m with
   |some (g,l),some kd,some xd,.map id=>match K.get id with
    |some (.map g' l' es)=>match g==g'&&z5z l l' with
     |true=>iP g' l' kd=true/\next (.data (.val undef)) (K.put id (.map g' l' (mput kd xd es)))
     |false=>False
    |_=>False
   |_,_,_,_=>False
  |_=>False
 | .lookup t x k ok=>match(T.at t).ty with
  | .map kt et=>match FK T kt,(ev T env kt k).toD?,QW T et with
   |some (g,l),some kd,some z=>match ev T env t x with
    | .map id=>match K.get id with
     |some (.map g' l' es)=>match g==g'&&z5z l l' with
      |true=>iP g' l' kd=true/\rH (nV kd es) (λd=>next (.data (QX ok d true)) K) (next (.data (QX ok z false)) K)
      |false=>False
     |_=>False
    | .data (.val (.map none))=>iP g l kd=true/\next (.data (QX ok z false)) K
    |_=>False
   |_,_,_=>False
  |_=>False
 | .typeAssert x xt as ok=>match(T.at as).ty with
  | .iface | .other=>False
  |_=>wQ T as ok (ev T env xt x) K next
 | .convert src dst x=>match(T.at src).ty,(T.at dst).ty,ev T env src x with
  | .int _,.int k,.data (.val (.int _ n))=>next (.data (.val (.int k (k.wrap n)))) K
  | .str,.str,.data (.str s)=>next (.data (.str s)) K
  | .slice e,.str,v=>match(T.at e).ty,zN v with
   | .int .u8,some (sz,es)=>sz=1/\∃bs:List UInt8,es=bs.map (λb=>[D.val (.int .u8 (b.toNat:Int))])/\next (.data (.str bs)) K
   |_,_=>False
  |_,_,_=>False
 | .makeSlice t l c=>match o.dst,(T.at t).ty with
  |some d,.slice e=>match ev T env 0 l,ev T env 0 c with
   | .data (.val (.int _ n)),.data (.val (.int _ m))=>match T.known e,(T.at e).zero with
    |true,z0::z=>match AV.allD (z0::z)with
     |some ds=>match Nat.beq (z0::z).length (T.at e).size&&(Nat.blt 0 (T.at e).size&&(Nat.blt 0 (T.at e).bytes&&ds.all D.scalar))with
      |true=>(0<=n/\n<=m/\m * (T.at e).bytes<=140737488355328)/\aI d (fresh d env K (next (.gs d (T.at e).size (List.replicate n.toNat ds)) (K.put d (.tok (T.at e).size n.toNat)))) (fresh d env K (next (.own d 0 (T.at e).size 0 n.toNat) (K.put d (.arr 0 (T.at e).size (List.replicate n.toNat ds)))))
      |false=>False
     |none=>False
    |_,_=>False
   |_,_=>False
  |_,_=>False
 |_=>False
def DX(T:Tbl)(t:TypeId)(x:AV)(K:Heap)(next:Next):Prop:=
 match(T.at t).ty,x with
 | .map _ _,.map id=>match K.get id with
  |some (.map g l _)=>next (.data (.val (.tuple #[]))) (K.put id (.map g l []))
  |_=>False
 | .slice e,.own id vr sz 0 len=>match K.get id with
  |some (.arr vr' sz' es)=>match T.known e,(T.at e).zero with
   |true,z0::z=>match AV.allD (z0::z)with
    |some ds=>match Nat.beq (z0::z).length (T.at e).size&&(Nat.blt 0 (T.at e).size&&ds.all D.scalar)with
     |true=>((vr=vr'/\sz'=sz)/\sz=(T.at e).size/\len<=es.length)/\next (.data (.val (.tuple #[]))) (K.put id (.arr vr sz (List.replicate len ds++es.drop len)))
     |false=>False
    |none=>False
   |_,_=>False
  |_=>False
 |_,_=>False
section
variable (T : Tbl) (A : FuncId → List D → lY → Prop) (B : FuncId → List AV → Heap → gG → Heap → Prop)
def vOp(env:Env)(K:Heap)(o:Oper)(next:Next)(pan:Next):Prop:=
 match o.op with
 | .move x | .assign x=>next (ev T env o.type x) K
 | .pick c a b=>match ev T env o.type c with
  | .data (.val (.bool c))=>Br c (next (ev T env o.type a) K) (next (ev T env o.type b) K)
  |_=>False
 | .alloc t=>match o.dst with
  |some d=>match T.known t,(T.at t).zero with
   |true,z0::z=>fresh d env K (next (.ptr d 0) (K.put d (.cells (z0::z))))
   |true,[]=>match(T.at t).ty with | .struct []=>fresh d env K (next (.ptr d 0) (K.put d (.cells []))) |_=>False
   |_,_=>False
  |none=>False
 | .box t x=>match o.dst with
  |some d=>match(ev T env t x).celled with |true=>fresh d env K (next (.ptr d 0) (K.put d (.cells (ev T env t x).cells))) |false=>False
  |none=>False
 | .build t ps=>DW T t (ps.toList.map λp=>(p.1,ev T env 0 p.2)) K next
 | .buildSlice t n ps=>match o.dst with
  |some d=>iO T t d n env (ps.toList.map λp=>(p.1,ev T env 0 p.2)) K next
  |none=>False
 | .load t a=>jM T t (ev T env 0 a) K next
 | .store t a v=>DT T t (ev T env 0 a) (ev T env t v) K next
 | .nilCheck x=>match ev T env 0 x with
  | .ptr i o=>next (.ptr i o) K
  | .yld i=>next (.yld i) K
  | .eptr i v s j o=>next (.eptr i v s j o) K
  | .data (.ptr d)=>next (.data (.ptr d)) K
  | .fn f c=>next (.fn f c) K
  | .data (.fn f c)=>next (.data (.fn f c)) K
  |_=>False
 | .binOp op t x y _=>match Ot op (ev T env t x)with
  |true=>zcj T t op x y (ev T env t x) (ev T env t y) K next
  |false=>z2y op (ev T env t x) (ev T env t y) K next
 | .unOp op t x=>vUn op (ev T env t x) K next
 | .fieldAddr s x f=>zM T s f (ev T env 0 x) K next
 | .field s x f=>sS T s f (ev T env 0 x) K next
 | .indexAddr t x i=>bn T t (ev T env t x) (ev T env 0 i) K next
 | .index t x i=>DU T t (ev T env t x) (ev T env 0 i) K next
 | .slice t x lo hi mx=>DV T t (ev T env t x) (lo.map (ev T env 0)) (hi.map (ev T env 0)) (mx.map (ev T env 0)) K next
 | .extract x i=>match ev T env 0 x with
  | .tuple vs=>match vs[i]? with |some v=>next v K |none=>False
  | .data (.tuple vs)=>match vs[i]? with |some v=>next (.data v) K |none=>False
  |_=>False
 | .makeInterface t x=>match(T.at t).ty with | .iface | .other=>False |_=>next (.iface t (ev T env t x)) K
 | .makeFunc f first caps=>match f,first.isEmpty with
  | .func f,true=>next (.fn f (caps.toList.map (ev T env 0))) K
  | .func f,false=>match caps.isEmpty with
   |true=>next (.bnd f (first.toList.map (ev T env 0))) K
   |false=>False
  |_,_=>False
 | .panic x=>match ev T env 0 x with | .iface t v=>pan (.iface t v) K | .data (.iface t d)=>pan (.data (.iface t d)) K |_=>False
 | .call c=>match c.callee with
  | .builtin .len=>match c.args.toList,Nat.ble 1 c.argTypes.size with
   | [x],true=>z5v T (c.argTypes.getD 0 0) (ev T env (c.argTypes.getD 0 0) x) K next
   |_,_=>False
  | .builtin .append=>match c.args.toList,o.dst,Nat.ble 2 c.argTypes.size with
   | [x,y],some d,true=>nX T (c.argTypes.getD 0 0) (c.argTypes.getD 1 0) d env (ev T env (c.argTypes.getD 0 0) x) (ev T env (c.argTypes.getD 1 0) y) K next
   |_,_,_=>False
  | .builtin .clear=>match c.args.toList,Nat.ble 1 c.argTypes.size with
   | [x],true=>DX T (c.argTypes.getD 0 0) (ev T env (c.argTypes.getD 0 0) x) K next
   |_,_=>False
  | .builtin .max=>match zci true (c.args.toList.map (ev T env 0))with |some v=>next v K |none=>False
  | .builtin .min=>match zci false (c.args.toList.map (ev T env 0))with |some v=>next v K |none=>False
  | .value f=>match ev T env 0 f with
   | .fn f caps=>zT A B (fP env K o) f ((c.args.toList.zipIdx.map λx=>ev T env (c.argTypes.getD x.2 0) x.1)++caps) env K next pan
   | .data (.fn f caps)=>zT A B (fP env K o) f ((c.args.toList.zipIdx.map λx=>ev T env (c.argTypes.getD x.2 0) x.1)++caps.map .data) env K next pan
   | .bnd f first=>zT A B (fP env K o) f (first++(c.args.toList.zipIdx.map λx=>ev T env (c.argTypes.getD x.2 0) x.1)) env K next pan
   | .yld i=>FH B (fP env K o) yx (.yld i::(c.args.toList.zipIdx.map λx=>ev T env (c.argTypes.getD x.2 0) x.1)) env K next pan
   |_=>False
  |_=>False
 |_=>Ig T env K o next
def rJ(ops:Array Oper)(j:Nat):Option Nat:=match ops[j]? with |some o=>o.dst |none=>none
def slotsOf(ops:Array Oper)(o:Oper):List Nat:=match o.guard with
 |none=>tmpsOf o.op.operands.toList
 |some (j,_)=>match rJ ops j with |some d=>d::tmpsOf o.op.operands.toList |none=>tmpsOf o.op.operands.toList
def fV(T:Tbl)(env:Env)(K K':Heap)(o:Oper):List Nat:=match o.op with
 | .alloc _ | .box _ _ | .buildSlice _ _ _ | .makeMap _ _ | .makeSlice _ _ _=>o.dst.toList
 | .call c=>match c.callee with
  | .builtin .append=>match c.args.toList with
   |x::_=>match ev T env (c.argTypes.getD 0 0) x with | .nilsl _=>o.dst.toList |_=>[]
   | []=>[]
  | .value _=>minus (keys K') (keys K)
  |_=>[]
 |_=>[]
def wids(T:Tbl)(env:Env)(K K':Heap)(o:Oper):List Nat:=match o.op with
 | .store t a v=>match ev T env 0 a with
  |x=>x.ids
 | .mapUpdate _ m _ _ | .insert _ m _ _=>(ev T env 0 m).ids
 | .alloc _ | .box _ _ | .buildSlice _ _ _ | .makeMap _ _ | .makeSlice _ _ _=>o.dst.toList
 | .call c=>match c.callee with
  | .builtin .append=>match c.args.toList with
   |x::_=>(match ev T env (c.argTypes.getD 0 0) x with | .nilsl _=>o.dst.toList |v=>v.ids)
   | []=>[]
  | .builtin .clear=>match c.args.toList with
   |x::_=>(ev T env (c.argTypes.getD 0 0) x).ids
   | []=>[]
  | .value f=>(match ev T env 0 f with
   | .fn g caps=>(match zU g ((c.args.toList.zipIdx.map λx=>ev T env (c.argTypes.getD x.2 0) x.1)++caps)with |true=>[] |false=>reach K 1000 (ja env (tmpsOf o.op.operands.toList)) (z5x K))
   | .data (.fn g caps)=>(match zU g ((c.args.toList.zipIdx.map λx=>ev T env (c.argTypes.getD x.2 0) x.1)++caps.map .data)with |true=>[] |false=>reach K 1000 (ja env (tmpsOf o.op.operands.toList)) (z5x K))
   |_=>reach K 1000 (ja env (tmpsOf o.op.operands.toList)) (z5x K))++minus (keys K') (keys K)
  |_=>[]
 |_=>[]
structure Rec where
 o:Oper
 env:Env
 r:AV
 K0:Heap
 K:Heap
 run:Bool
def Rec.ws(T:Tbl)(x:Rec):List Nat:=match x.run with |true=>wids T x.env x.K0 x.K x.o |false=>[]
def Rec.nw(T:Tbl)(x:Rec):List Nat:=match x.run with |true=>fV T x.env x.K0 x.K x.o |false=>[]
def Rec.rd(x:Rec):List Nat:=match x.run with |true=>fP x.env x.K0 x.o |false=>[]
def wR(K:Heap)(d:Nat):List Nat->Bool
 | []=>false
 |i::r=>(match K.get i with |some b=>b.men d |none=>false) || wR K d r
def meet(a b:List Nat):Bool:=match a with | []=>false |x::r=>nU b x || meet r b
def YM(d:Option Nat)(l:List Nat):Bool:=match d with |some d=>nU l d |none=>false
def QY(d e:Option Nat):Bool:=match d,e with |some d,some e=>Nat.beq d e |_,_=>false
def wS:List Oper->List Nat->List Nat
 | [],acc=>acc
 |o::r,acc=>wS r (acc++[o.after.toList.foldl (λs e=>if Region.binds .any e then s ||| 2 ^ e.on ||| acc.getD e.on 0 else s) 0])
def pR:List Oper->Nat->Bool
 | [],_=>true
 |o::r,i=>o.after.toList.all (λe=>!Region.binds .any e || Nat.blt e.on i)&&pR r (i+1)
def clash(T:Tbl)(ops:Array Oper)(x y:Rec):Bool:=
 YM x.o.dst (slotsOf ops y.o) || (QY x.o.dst y.o.dst || (YM y.o.dst (slotsOf ops x.o) || (meet (x.ws T) y.rd || (meet (x.ws T) (y.ws T) || meet (y.ws T) x.rd))))
def pU(T:Tbl)(ops:Array Oper)(x:Rec)(i:Nat):List Rec->List Nat->Bool
 |y::ys,m::ms=>(!clash T ops x y || m.testBit i)&&pU T ops x i ys ms
 | [],[]=>true
 |_,_=>false
def jG(T:Tbl)(ops:Array Oper):Nat->List Rec->List Nat->Bool
 |i,x::xs,_::ms=>pU T ops x i xs ms&&jG T ops (i+1) xs ms
 |_,[],[]=>true
 |_,_,_=>false
def zV(T:Tbl)(d i:Nat):Nat->List Rec->List Nat->Bool
 |k,y::ys,m::ms=>(Nat.beq k i || (!(y.r.men d || wR y.K d (y.ws T)) || m.testBit i))&&zV T d i (k+1) ys ms
 |_,[],[]=>true
 |_,_,_=>false
def og(T:Tbl)(env:Env)(K:Heap)(all:List Rec)(ms:List Nat)(i:Nat):List Nat->Bool
 | []=>true
 |d::r=>(!fU d env&&(!pK d K&&zV T d i 0 all ms))&&og T env K all ms i r
def zW(T:Tbl)(env:Env)(K:Heap)(all:List Rec)(ms:List Nat):Nat->List Rec->Bool
 |_,[]=>true
 |i,x::xs=>og T env K all ms i (x.nw T)&&zW T env K all ms (i+1) xs
def chk(T:Tbl)(ops:Array Oper)(env:Env)(K:Heap)(tr:List Rec):Bool:=
 pR ops.toList 0&&(jG T ops 0 tr (wS ops.toList [])&&zW T env K tr (wS ops.toList []) 0 tr)
def KW(o:Oper):Bool:=match o.op with | .load _ _ | .indexAddr _ _ _=>true |_=>false
def readA(T:Tbl)(env:Env)(o:Oper)(K:Heap)(c:AV):Prop:=match o.op with
 | .load t a=>jM T t (ev T env 0 a) K (λv _=>v=c)
 | .indexAddr t x i=>bn T t (ev T env t x) (ev T env 0 i) K (λv _=>v=c)
 |_=>False
def cellP(T:Tbl)(env:Env)(o:Oper)(id:Nat)(c:AV)(b:Option Block):Prop:=match b with |some b=>readA T env o [(id,b)] c |none=>False
def cellW(T:Tbl)(env:Env)(o:Oper)(id:Nat)(c:AV):List Rec->Prop
 | []=>True
 |x::r=>(match nU (x.ws T) id with |true=>cellP T env o id c (x.K.get id) |false=>True)/\cellW T env o id c r
def yz(T:Tbl)(K:Heap)(tr:List Rec)(q:Nat×Nat):Prop:=match tr[q.1]? with
 |some y=>y.run=true->∃c,cellP T y.env y.o q.2 c (K.get q.2)/\cellW T y.env y.o q.2 c tr
 |none=>False
def yP(T:Tbl)(K:Heap)(tr:List Rec):List (Nat×Nat)->Prop
 | []=>True
 |q::r=>yz T K tr q/\yP T K tr r
def KX(k:Nat):List (Nat×Nat)->Bool
 | []=>false
 |q::r=>Nat.beq q.1 k || KX k r
def mJ(x:Rec):Rec:=match x.o.op with | .load _ _ | .indexAddr _ _ _=>{ x with env:=[] } |_=>x
def rM(l:List (Nat×Nat)):Nat->List Rec->List Rec
 |_,[]=>[]
 |k,x::r=>(match KX k l with |true=>mJ x |false=>x)::rM l (k+1) r
def QZ(T:Tbl)(ops:Array Oper)(env:Env)(K:Heap)(tr:List Rec):Prop:=∃l:List (Nat×Nat),chk T ops env K (rM l 0 tr)=true/\yP T K tr l
def Ou(T:Tbl)(ops:Array Oper)(env:Env)(K:Heap)(tr:List Rec)(kp:Nat):Prop:=∃l:List (Nat×Nat),KX kp l=false/\chk T ops env K (rM l 0 tr)=true/\yP T K tr l
def sZ:List Oper->Env->Env
 | [],env=>env
 |o::r,env=>match o.dst with |some d=>(d,.top)::sZ r env |none=>sZ r env
def z2z(T:Tbl)(kp:Nat):Nat->List Rec->List Nat
 |_,[]=>[]
 |i,x::r=>match Nat.beq i kp with |true=>z2z T kp (i+1) r |false=>x.nw T++z2z T kp (i+1) r
def ik(T:Tbl)(N:List Nat)(kp:Nat):Nat->List Rec->Bool
 |_,[]=>true
 |i,x::r=>(Nat.beq i kp || allIn N (x.ws T))&&ik T N kp (i+1) r
def tq(N:List Nat):Heap->Heap
 | []=>[]
 |(i,b)::r=>match nU N i with |true=>tq N r |false=>(i,b)::tq N r
def wU(env:Env)(o:Oper):Option (List AV):=match o.op with
 | .defer c=>match c.callee,c.args.toList with
  | .value (.tmp j),[]=>match env.get j with
   | .fn f caps=>some (.fn f caps::(match env.get gq with | .dfr cs=>cs |_=>[]))
   |_=>none
  |_,_=>none
 |_=>none
def YD(ops:Array Oper)(Q:Env->Heap->Prop)(pan:Env->Next):List Oper->Env->Heap->Prop
 | [],env,K=>Q env K
 |o::rest,env,K=>match o.guard with
  |none=>match wU env o with
   |some cs=>YD ops Q pan rest (Env.set ((gq,.dfr cs)::env) o.dst (.data (.val undef))) K
   |none=>vOp T A B env K o (λv K=>YD ops Q pan rest (env.set o.dst v) K) (pan env)
  |some (j,want)=>match rJ ops j with
   |none=>False
   |some d=>match env.get d with
    | .data (.val (.bool c))=>Br (c==want)
      (vOp T A B ((d,.b want)::env) K o (λv K=>YD ops Q pan rest (Env.set ((d,.b want)::env) o.dst v) K) (pan env))
      (YD ops Q pan rest (Env.set ((d,.b (!want))::env) o.dst (.data (.val undef))) K)
    | .data (.val (.tuple _))=>YD ops Q pan rest (env.set o.dst (.data (.val undef))) K
    |_=>False
def fZ(E:Env):List Nat->Bool
 | []=>true
 |j::r=>(match E.get j with | .top=>false |_=>true)&&fZ E r
def kT(kp:Nat)(Q:List Rec->Prop):List Oper->List Nat->List Rec->Env->Heap->Prop
 | [],_,tr,_,_=>Q tr.reverse
 |_::_,[],_,_,_=>False
 |o::rest,m::ms,tr,env,K=>match m.testBit kp with
  |true=>kT kp Q rest ms (⟨o,env,.data (.val undef),K,K,false⟩::tr) (env.set o.dst (.data (.val undef))) K
  |false=>match o.guard,fZ env (tmpsOf o.op.operands.toList)with
   |none,true=>vOp T A B env K o (λv K'=>kT kp Q rest ms (⟨o,env,v,K,K',true⟩::tr) (env.set o.dst v) K') (λ_ _=>False)
   |_,_=>False
def zX(Q:List Rec->Prop):List Oper->List Bool->List Rec->Env->Heap->Prop
 | [],_,tr,_,_=>Q tr.reverse
 |_::_,[],_,_,_=>False
 |o::rest,b::bs,tr,env,K=>match b with
  |true=>zX Q rest bs (⟨o,env,.data (.val undef),K,K,false⟩::tr) (env.set o.dst (.data (.val undef))) K
  |false=>match o.guard,fZ env (tmpsOf o.op.operands.toList)with
   |none,true=>vOp T A B env K o (λv K'=>zX Q rest bs (⟨o,env,v,K,K',true⟩::tr) (env.set o.dst v) K') (λ_ _=>False)
   |_,_=>False
theorem Ov(kp:Nat)(Q:List Rec->Prop):∀(l:List Oper) (ms:List Nat) (tr:List Rec) (env:Env) (K:Heap),kT T A B kp Q l ms tr env K=zX T A B Q l (ms.map λm=>m.testBit kp) tr env K
 | [],ms,tr,env,K=>by rfl
 |_::_,[],tr,env,K=>by rfl
 |o::rest,m::ms,tr,env,K=>by
  have ih:=λtr env K=>Ov kp Q rest ms tr env K
  simp[kT,zX,ih]
@[irreducible] def Ll (p:Prop):Prop:=p
theorem Ox(p:Prop):Ll p=p:=by unfold Ll;rfl
theorem rest_step{kp:Nat}{Q:List Rec->Prop}{l:List Oper}{ms:List Nat}{tr:List Rec}{env:Env}{K:Heap}(bs:List Bool)(h:(ms.map λm=>m.testBit kp)=bs)(h2:zX T A B Q l bs tr env K):Ll (kT T A B kp Q l ms tr env K):=by
 grind[Ox,Ov]
def rO(ops:Array Oper)(Q:List Rec->Env->Heap->Prop)(QP:Nat->AV->Heap->List Rec->Prop):List Oper->List Rec->Env->Heap->Prop
 | [],tr,env,K=>Q tr.reverse env K
 |o::rest,tr,env,K=>match o.guard with
  | none=>vOp T A B env K o (λv K'=>rO ops Q QP rest (⟨o,env,v,K,K',true⟩::tr) (env.set o.dst v) K')
    (λp K'=>kT T A B tr.length (QP tr.length p K') rest ((wS ops.toList []).drop (tr.length+1)) (⟨o,env,.data (.val undef),K,K',true⟩::tr) (env.set o.dst (.data (.val undef))) K')
  |some (j,want)=>match rJ ops j with
   |none=>False
   |some d=>match env.get d with
    | .data (.val (.bool c))=>Br (c==want)
      (vOp T A B ((d,.b want)::env) K o (λv K'=>rO ops Q QP rest (⟨o,(d,.b want)::env,v,K,K',true⟩::tr) (Env.set ((d,.b want)::env) o.dst v) K')
       (λp K'=>kT T A B tr.length (QP tr.length p K') rest ((wS ops.toList []).drop (tr.length+1)) (⟨o,(d,.b want)::env,.data (.val undef),K,K',true⟩::tr) (Env.set ((d,.b want)::env) o.dst (.data (.val undef))) K'))
      (rO ops Q QP rest (⟨o,(d,.b (!want))::env,.data (.val undef),K,K,false⟩::tr) (Env.set ((d,.b (!want))::env) o.dst (.data (.val undef))) K)
    | .data (.val (.tuple _))=>rO ops Q QP rest (⟨o,env,.data (.val undef),K,K,false⟩::tr) (env.set o.dst (.data (.val undef))) K
    |_=>False
def Block.isTok0:Block->Bool | .tok _ 0=>true | .arr _ _ []=>true |_=>false
inductive Out where
 |normal |exit (id:Nat) |ret |panic (v:AV)
abbrev Post:=Out->Env->Heap->Prop
def Post.then(next:Env->Heap->Prop)(Q:Post):Post | .normal,e,K=>next e K |o,e,K=>Q o e K
def Post.block(id:Nat)(Q:Post):Post | .exit i,e,K=>(match Nat.beq i id with |true=>Q .normal e K |false=>Q (.exit i) e K) |o,e,K=>Q o e K
def zck(K:Heap):Heap->Nat->Option Nat
 | [],_=>none
 |(g,_)::r,id=>match K.get g with
  |some (.adr i a)=>(match Nat.beq i id with |true=>some a |false=>zck K r id)
  |_=>zck K r id
def z6a(K:Heap)(id:Nat):Option Nat:=zck K K id
def leP(K:Heap):List D->List AV->Prop
 | [],[]=>True
 |d::ds,c::cs=>(match c with
  | .ptr id off=>match z6a K id with
   |some b=>d = .val (.pointer (some ⟨b,off,none⟩))
   |none=>False
  |c=>c = .data d)/\leP K ds cs
 |_,_=>False
def AV.le(e:Env)(K Z:Heap):AV->AV->Prop
 | .nilsl s,.gs id s' es=>s=s'/\es = []/\K.get id=none/\bI id=false/\fU id e=false/\pK id K=false
 | .nilsl s,.own id vr sz off len=>s=sz/\off=0/\len=0/\K.get id=none/\bI id=false/\fU id e=false/\pK id K=false/\(match Z.get id with |some (.arr vr' _ _)=>vr=vr' |_=>False)
 | .nilsl s,.data (.sl s' r)=>s=s'/\r = []
 | .gs _ s es,.data (.sl s' r)=>s=s'/\r=es
 | .own id vr sz off len,.data (.sl sz' r)=>sz=sz'/\bI id=false/\Z.get id=none/\match K.get id with
  |some (.arr vr' sz2 es)=>(vr=vr'/\sz2=sz)/\off+len<=es.length/\r=(es.drop off).take len
  |_=>False
 | .ptr id off,.data (.ptr ds)=>bI id=false/\Z.get id=none/\match K.get id with
  |some (.cells cs)=>match AV.allD (cs.drop off)with
   |some ds'=>ds=ds'/\ds'.all D.scalar=true
   |none=>False
  |_=>False
 | .ptr id off,.data (.val v)=>match z6a K id,K.get id with
  |some b,some (.cells _)=>v = .pointer (some ⟨b,off,none⟩)
  |_,_=>False
 | .data (.val v),.ptr id off=>match z6a K id with
  |some b=>v = .pointer (some ⟨b,off,none⟩)
  |none=>False
 | .data (.fn f ds),.fn g cs=>f=g/\leP K ds cs
 |a,b=>a=b
def Env.le(e:Env)(K Z:Heap):Env->Prop
 | []=>True
 |(j,v)::r=>AV.le e K Z (e.get j) v/\Env.le e K Z r
def zY(env:Env)(K Z:Heap):List AV->List AV->Prop
 | [],xs=>xs = []
 |y::ys,xs=>match xs with | []=>False |x::xs=>AV.le env K Z x y/\zY env K Z ys xs
def Block.le(env:Env)(K Z:Heap)(b' b:Block):Prop:=match b with
 | .cells ys=>(match b' with | .cells xs=>zY env K Z ys xs |_=>False)
 |b=>b'=b
def Heap.le(env:Env)(K Z:Heap):Heap->Prop
 | []=>True
 |(i,b)::r=>(match K.get i with
  |some b'=>Block.le env K Z b' b
  |none=>b.isTok0=true/\bI i=false/\fU i env=false/\pK i K=false)/\Heap.le env K Z r
def z6b(env:Env)(K:Heap)(env':Env)(K':Heap):Prop:=env.le K K' env'/\Heap.le env K K' K'/\env'.get gq=env.get gq
def zcl(c:Operand)(b:Bool)(env:Env):Env:=match c with | .tmp j=>(j,.b b)::env |_=>env
def vc:Code->Post->Env->Heap->Prop
 | .skip,Q,env,K=>Q .normal env K
 | .region _ ops false,Q,env,K=>YD T A B ops (Q .normal) (λenv v K=>Q (.panic v) env K) ops.toList env K
 | .region _ ops true,Q,env,K=>rO T A B ops (λtr env' K'=>QZ T ops env K tr/\Q .normal env' K') (λkp _ _ tr=>Ou T ops env K tr kp/\∃N,ik T N kp 0 tr=true/\False) ops.toList [] env K
 | .seq a b,Q,env,K=>vc a (Post.then (λenv K=>vc b Q env K) Q) env K
 | .cond c a b,Q,env,K=>match ev T env 0 c with
  | .data (.val (.bool t))=>Br t (vc a Q (zcl c true env) K) (vc b Q (zcl c false env) K)
  |_=>False
 | .block id c,Q,env,K=>vc c (Post.block id Q) env K
 | .loop c,Q,env,K=>∃(S:Type) (mk:S->Env×Heap) (I:S->Prop) (μ:S->Nat),
   (∃s,I s/\z6b env K (mk s).1 (mk s).2) /\
   ∀s,I s->vc c (Post.then (λenv' K'=>∃s',I s'/\μ s' < μ s/\z6b env' K' (mk s').1 (mk s').2) Q) (mk s).1 (mk s).2
 | .exit id,Q,env,K=>Q (.exit id) env K
 | .ret,Q,env,K=>Q .ret env K
 |_,_,_,_=>False
end
inductive Own where
 |blk (b:Nat)
 |vb (b vr:Nat)
 |tail (b lo:Nat)
 |nil
 |rnd (l:Nat) (S:Nat->Nat->Prop)
 |nb (vr:Nat)
def Own.has:Own->Nat->Nat->Prop
 | .blk b,b',_=>b'=b
 | .vb b _,b',_=>b'=b
 | .tail b lo,b',o=>b'=b/\lo<=o
 | .nil,_,_=>False
 | .rnd _ S,b,o=>∃i,i<=o/\S b i
 | .nb _,_,_=>False
abbrev Mem:=Nat->Option Own
def Mem.R(M:Mem)(b o:Nat):Prop:=∃id ow,M id=some ow/\ow.has b o
def Fb(N:aS)(M:Mem):aS:=λb o=>N b o\/M.R b o
def yA:Mem:=λ_=>none
theorem zZ(N:aS):Fb N yA=N:=by
 grind[Fb,Mem.R,yA]
inductive DRel(F:aS)(w:World):D->Value->Prop where
 |val (v):DRel F w (.val v) v
 |str (s:List UInt8):DRel F w (.str s) (.string ⟨s.toArray⟩)
 |sl0 (sz:Nat) (a:Option Addr) (cap:Nat) (h:cap<=maxLen):DRel F w (.sl sz []) (.slice a 0 cap)
 | sl (sz:Nat) (es:List (List D)) (b off cap n:Nat) (g:Nat->Nat->Value) (hn:n=es.length) (hc:n<=cap) (hm:cap<=maxLen) (hs:∀e∈es,e.length=sz)
   (h1:∀i j e d,es[i]? = some e->e[j]? = some d->¬F b (off+i * sz+j)/\w.cell? ⟨b,off+i * sz+j,none⟩=some (g i j)/\(g i j).oneCell'=true)
   (h2:∀i j e d,es[i]? = some e->e[j]? = some d->DRel F w d (g i j)):DRel F w (.sl sz es) (.slice (some ⟨b,off,none⟩) n cap)
 | ptr (ds:List D) (b off:Nat) (g:Nat->Value)
   (h1:∀j d,ds[j]? = some d->¬F b (off+j)/\w.cell? ⟨b,off+j,none⟩=some (g j)/\(g j).oneCell'=true)
   (h2:∀j d,ds[j]? = some d->DRel F w d (g j)):DRel F w (.ptr ds) (.pointer (some ⟨b,off,none⟩))
 |iface (t:TypeId) (d:D) (v:Value) (h:DRel F w d v):DRel F w (.iface t d) (.iface t v)
 |agg (ds:List D) (vs:Array Value) (hl:vs.size=ds.length) (h:∀i d,ds[i]? = some d->DRel F w d (vs.getD i undef)):DRel F w (.agg ds) (.agg vs)
 |tuple (ds:List D) (vs:Array Value) (hl:vs.size=ds.length) (h:∀i d,ds[i]? = some d->DRel F w d (vs.getD i undef)):DRel F w (.tuple ds) (.tuple vs)
 |fn (f:FuncId) (ds:List D) (vs:Array Value) (hl:vs.size=ds.length) (h:∀i d,ds[i]? = some d->DRel F w d (vs.getD i undef)):DRel F w (.fn f ds) (.func (.func f) #[] vs)
theorem DRel.keep{F F':aS}{w w':World}{d:D}{v:Value}(h:DRel F w d v)(k:fJ w F w' F'):DRel F' w' d v:=by
 induction h with
 |val v=>exact .val v
 |str s=>exact .str s
 |sl0 sz a cap h=>exact .sl0 sz a cap h
 |sl sz es b off cap n g hn hc hm hs h1 h2 ih=>
  exact .sl sz es b off cap n g hn hc hm hs (λi j e d he hd=>by
   obtain⟨x,y,z⟩:=h1 i j e d he hd
   exact⟨(k _ _ _ x y).1,(k _ _ _ x y).2,z⟩) ih
 |ptr ds b off g h1 h2 ih=>
  exact .ptr ds b off g (λj d hd=>by
   obtain⟨x,y,z⟩:=h1 j d hd
   exact⟨(k _ _ _ x y).1,(k _ _ _ x y).2,z⟩) ih
 |iface t d v h ih=>exact .iface t d v ih
 |agg ds vs hl h ih=>exact .agg ds vs hl ih
 |tuple ds vs hl h ih=>exact .tuple ds vs hl ih
 |fn f ds vs hl h ih=>exact .fn f ds vs hl ih
inductive aF(N:aS)(M:Mem)(w:World):AV->Value->Prop where
 |data (d v) (h:DRel (Fb N M) w d v):aF N M w (.data d) v
 |nilsl (sz):aF N M w (.nilsl sz) (.slice none 0 0)
 | gs (id sz es a n cap) (h:DRel (Fb N M) w (.sl sz es) (.slice a n cap))
   (h0:M id=some .nil->es = []/\cap=0)
   (h1:∀b lo,M id=some (.tail b lo)->es.length * sz<=lo/\(es.length * sz=lo->a=some ⟨b,0,none⟩/\∃arr t,dJ w b arr t/\arr.size=cap * sz)) :
   aF N M w (.gs id sz es) (.slice a n cap)
 | own (id vr sz off len a cap)
   (h:∀b v,M id=some (.vb b v)->vr<=v/\(vr=v->len<=cap/\cap<=maxLen/\(0<cap->a=some ⟨b,off * sz,none⟩)/\∃arr t,dJ w b arr t/\arr.size=(off+cap) * sz))
   (h':∀v,M id=some (.nb v)->vr<=v/\(vr=v->len=0/\off=0/\cap=0)) :
   aF N M w (.own id vr sz off len) (.slice a len cap)
 |ptr (id off a) (h:∀b,M id=some (.blk b)->a=⟨b,off,none⟩):aF N M w (.ptr id off) (.pointer (some a))
 |eptr (id vr sz i off a) (h:∀b v,M id=some (.vb b v)->vr<=v/\(vr=v->a=⟨b,i * sz+off,none⟩)) (h':∀v,M id=some (.nb v)->vr<=v):aF N M w (.eptr id vr sz i off) (.pointer (some a))
 |map (id r) (h:∀b,M id=some (.blk b)->r=b):aF N M w (.map id) (.map (some r))
 |fn (f cs) (vs:Array Value) (hl:vs.size=cs.length) (h:∀i c,cs[i]? = some c->aF N M w c (vs.getD i undef)):aF N M w (.fn f cs) (.func (.func f) #[] vs)
 |bnd (f cs) (vs:Array Value) (hl:vs.size=cs.length) (h:∀i c,cs[i]? = some c->aF N M w c (vs.getD i undef)):aF N M w (.bnd f cs) (.func (.func f) vs #[])
 |iface (t x v) (h:aF N M w x v):aF N M w (.iface t x) (.iface t v)
 |agg (cs) (vs:Array Value) (hl:vs.size=cs.length) (h:∀i c,cs[i]? = some c->aF N M w c (vs.getD i undef)):aF N M w (.agg cs) (.agg vs)
 |tuple (cs) (vs:Array Value) (hl:vs.size=cs.length) (h:∀i c,cs[i]? = some c->aF N M w c (vs.getD i undef)):aF N M w (.tuple cs) (.tuple vs)
 |dfr (cs v):aF N M w (.dfr cs) v
 |yld (id l) (h:∀l' S,M id=some (.rnd l' S)->l=l'):aF N M w (.yld id) (.func (.yield l) #[] #[])
 |top (v):aF N M w .top v
def eP(N:aS)(M:Mem)(w:World)(id:Nat):Block->Prop
 | .cells cs=>∃b arr t,M id=some (.blk b)/\dJ w b arr t/\arr.size=cs.length/\∀i c,cs[i]? = some c->aF N M w c (arr.getD i undef)
 | .arr vr sz es=>(∃b arr t,M id=some (.vb b vr)/\dJ w b arr t/\es.length * sz<=arr.size/\(∀e∈es,e.length=sz) /\
   ∀i j e d,es[i]? = some e->e[j]? = some d->DRel (Fb N M) w d (arr.getD (i * sz+j) undef)/\(arr.getD (i * sz+j) undef).oneCell'=true)\/(M id=some (.nb vr)/\es = [])
 | .tok sz n=>(M id=some .nil/\n=0)\/∃b arr t,M id=some (.tail b (n * sz))/\dJ w b arr t
 | .map g l es=>∃b mes clock,M id=some (.blk b)/\w.heap[b]? = some (Obj.map mes clock)/\mes.size=es.length/\MapKept.Stamped mes clock/\(∀(i:Nat) (x:D×D),es[i]? = some x->iP g l x.1=true/\∃m:MapEntry,mes[i]? = some m/\DRel (Fb N M) w x.1 m.key/\DRel (Fb N M) w x.2 m.val)
 | .rnd R=>∃l S,M id=some (.rnd l S)/\R.p l S (Fb N M) w
 | .dead=>True
 | .adr i b=>aF N M w (.ptr i 0) (.pointer (some ⟨b,0,none⟩))
theorem eP.arrAt{N:aS}{M:Mem}{w:World}{id vr sz:Nat}{es:List (List D)}(h:eP N M w id (.arr vr sz es)){i:Nat}{e:List D}(he:es[i]? = some e):∃b arr t,M id=some (.vb b vr)/\dJ w b arr t/\es.length * sz<=arr.size/\(∀e∈es,e.length=sz) /\
   ∀i j e d,es[i]? = some e->e[j]? = some d->DRel (Fb N M) w d (arr.getD (i * sz+j) undef)/\(arr.getD (i * sz+j) undef).oneCell'=true:=by
 rcases h with h |⟨_,h⟩<;>simp_all
structure bT(N:aS)(M:Mem)(w:World):Prop where
 disj:∀id id' ow ow' b o,id≠id'->M id=some ow->M id'=some ow'->ow.has b o->ow'.has b o->False
 dom:∀id ow b o,M id=some ow->ow.has b o->b<w.heap.size/\¬N b o
 foes:∀b o,N b o->b<w.heap.size
 glob:∀g cs,rU g=some cs->(∀o,cs.length<=o->N g o)/\(∃t fr,w.heap[g]? = some (Obj.cells cs.toArray t fr))/\∀(j:Nat) v,cs[j]? = some v->¬N g j/\w.cell? ⟨g,j,none⟩=some v/\v.oneCell'=true
theorem Own.has_of{ow:Own}{b i j:Nat}(h:ow.has b i)(hj:i<=j):ow.has b j:=by
 cases ow with
 |blk c=>exact h
 |vb c v=>exact h
 |tail c lo=>exact⟨h.1,Nat.le_trans h.2 hj⟩
 |nil=>exact h
 |rnd l S=>obtain⟨k,h1,h2⟩:=h;exact⟨k,Nat.le_trans h1 hj,h2⟩
 |nb v=>exact h
theorem bT.globFree{N:aS}{M:Mem}{w:World}(m:bT N M w){g:Nat}{cs:List Value}(h:rU g=some cs){j:Nat}{v:Value}(hj:cs[j]? = some v){id:Nat}{ow:Own}(hi:M id=some ow):¬ow.has g j:=by
 intro hb
 have hlt:j<cs.length:=by
  grind
 exact(m.dom id ow g cs.length hi (Own.has_of hb (Nat.le_of_lt hlt))).2 ((m.glob g cs h).1 _ (Nat.le_refl _))
theorem bT.globNone{N:aS}{M:Mem}{w:World}(m:bT N M w){g:Nat}{cs:List Value}(h:rU g=some cs){id:Nat}{ow:Own}(hi:M id=some ow){o:Nat}:¬ow.has g o:=by
 intro hb
 exact(m.dom id ow g (max o cs.length) hi (Own.has_of hb (Nat.le_max_left _ _))).2 ((m.glob g cs h).1 _ (Nat.le_max_right _ _))
theorem bT.globRel{N:aS}{M:Mem}{w:World}(m:bT N M w){g:Nat}{cs:List Value}(h:rU g=some cs):DRel (Fb N M) w (.ptr (cs.map .val)) (.pointer (some ⟨g,0,none⟩)):=by
 refine .ptr _ g 0 (λj=>cs.getD j undef) (λj d hd=>?_) (λj d hd=>?_)
 ·simp at hd
  obtain⟨v,hv,rfl⟩:=hd
  obtain⟨h1,h2,h3⟩:=(m.glob g cs h).2.2 j v hv
  have hg:cs.getD j undef=v:=by simp[hv]
  rw[hg,Nat.zero_add]
  refine⟨?_,h2,h3⟩
  rintro(hn |⟨id,ow,hi,hb⟩)
  ·exact h1 hn
  ·exact m.globFree h hv hi hb
 ·simp at hd
  obtain⟨v,hv,rfl⟩:=hd
  have hg:cs.getD j undef=v:=by simp[hv]
  rw[hg];exact .val _
theorem bT.flat{N:aS}{M:Mem}{w:World}(m:bT N M w):bT (Fb N M) yA w:=by
 refine⟨by simp[yA],by simp[yA],?_,λg cs h=>⟨λo ho=>.inl ((m.glob g cs h).1 o ho),(m.glob g cs h).2.1,λj v hj=>⟨?_,((m.glob g cs h).2.2 j v hj).2⟩⟩⟩
 ·rintro b x (hN |⟨id,ow,e1,e2⟩)
  ·exact m.foes b x hN
  ·exact(m.dom id ow b x e1 e2).1
 ·rintro(hN |⟨id,ow,e1,e2⟩)
  ·exact((m.glob g cs h).2.2 j v hj).1 hN
  ·exact m.globFree h hj e1 e2
structure Step(M:Mem)(w:World)(M':Mem)(w':World)(W:List Nat):Prop where
 os:w'.os=w.os
 tape:w'.tape=w.tape
 output:w'.output=w.output
 size:w.heap.size<=w'.heap.size
 block:∀b,b<w.heap.size->(∀id∈W,∀ow o,M id=some ow->¬ow.has b o)->w'.heap[b]? = w.heap[b]?
 cell:∀b o u,(∀id∈W,∀ow,M id=some ow->¬ow.has b o)->w.cell? ⟨b,o,none⟩=some u->w'.cell? ⟨b,o,none⟩=some u
 shape:∀b arr t,dJ w b arr t->∃arr',dJ w' b arr' t/\arr'.size=arr.size
 mem:∀id,id ∉ W->M' id=M id
 own:∀id∈W,∀ow' b o,M' id=some ow'->ow'.has b o->b<w'.heap.size/\(w.heap.size<=b\/∃id0∈W,∃ow,M id0=some ow/\ow.has b o)
 disj:∀id∈W,∀id'∈W,id≠id'->∀ow ow' b o,M' id=some ow->M' id'=some ow'->ow.has b o->ow'.has b o->False
theorem block_lt{w:World}{b o:Nat}{u:Value}(h:w.cell? ⟨b,o,none⟩=some u):b<w.heap.size:=World.block_lt_of_cell? _ _ h
theorem Step.refl(M:Mem)(w:World):Step M w M w []:=
 ⟨rfl,rfl,rfl,Nat.le_refl _,λ_ _ _=>rfl,λ_ _ _ _ h=>h,λb arr t h=>⟨arr,h,rfl⟩,λ_ _=>rfl,λ_ h=>by simp at h,λ_ h=>by simp at h⟩
theorem Step.memOk{N:aS}{M M':Mem}{w w':World}{W:List Nat}(m:bT N M w)(s:Step M w M' w' W):bT N M' w':=by
 refine⟨?_,?_,?_,λg cs h=>⟨(m.glob g cs h).1,by
  obtain⟨t,fr,hr⟩:=(m.glob g cs h).2.1
  refine⟨t,fr,?_⟩
  rw[s.block g (by grind) (λid _ ow o hi=>m.globNone h hi)];exact hr,λj v hj=>⟨((m.glob g cs h).2.2 j v hj).1,s.cell _ _ _ (λid _ ow hi=>m.globFree h hj hi) ((m.glob g cs h).2.2 j v hj).2.1,((m.glob g cs h).2.2 j v hj).2.2⟩⟩⟩
 ·intro id id' ow ow' b o hne h h' hb hb'
  by_cases h1:id∈W<;>by_cases h2:id'∈W
  ·exact s.disj id h1 id' h2 hne ow ow' b o h h' hb hb'
  ·rw[s.mem id' h2]at h'
   rcases(s.own id h1 ow b o h hb).2 with h3 |⟨id0,h3,ow0,h4,h5⟩
   ·have:=(m.dom id' ow' b o h' hb').1;omega
   ·exact m.disj id0 id' ow0 ow' b o (λe=>h2 (e ▸ h3)) h4 h' h5 hb'
  ·rw[s.mem id h1]at h
   rcases(s.own id' h2 ow' b o h' hb').2 with h3 |⟨id0,h3,ow0,h4,h5⟩
   ·have:=(m.dom id ow b o h hb).1;omega
   ·exact m.disj id id0 ow ow0 b o (λe=>h1 (e ▸ h3)) h h4 hb h5
  ·rw[s.mem id h1]at h;rw[s.mem id' h2]at h'
   exact m.disj id id' ow ow' b o hne h h' hb hb'
 ·intro id ow b o h hb
  by_cases h1:id∈W
  ·obtain⟨h2,h3⟩:=s.own id h1 ow b o h hb
   refine⟨h2,?_⟩
   rcases h3 with h3 |⟨id0,_,ow0,h4,h5⟩
   ·intro hn;have:=m.foes b o hn;omega
   ·exact(m.dom id0 ow0 b o h4 h5).2
  ·rw[s.mem id h1]at h
   have:=m.dom id ow b o h hb
   exact⟨Nat.lt_of_lt_of_le this.1 s.size,this.2⟩
 ·intro b o hn;exact Nat.lt_of_lt_of_le (m.foes b o hn) s.size
theorem Step.keeps{N:aS}{M M':Mem}{w w':World}{W:List Nat}(s:Step M w M' w' W):fJ w (Fb N M) w' (Fb N M'):=by
 intro b o u hf hc
 have hW:∀id∈W,∀ow,M id=some ow->¬ow.has b o:=λid _ ow h hb=>hf (.inr ⟨id,ow,h,hb⟩)
 refine⟨?_,s.cell b o u hW hc⟩
 rintro(hn |⟨id,ow,h,hb⟩)<;>try exact hf (.inl hn)
 by_cases h1:id∈W
 ·rcases(s.own id h1 ow b o h hb).2 with h3 |⟨id0,h3,ow0,h4,h5⟩
  ·have:=block_lt hc;omega
  grind
 ·rw[s.mem id h1]at h;exact hf (.inr ⟨id,ow,h,hb⟩)
def Tr(M M':Mem)(id:Nat):Prop:=
 M' id=M id\/(M id=some .nil/\∃b lo,M' id=some (.tail b lo)/\0<lo)\/(∃b lo b' lo',M id=some (.tail b lo)/\M' id=some (.tail b' lo')/\lo<lo')\/(∃b v b' v',M id=some (.vb b v)/\M' id=some (.vb b' v')/\v<v')\/M' id=none\/(∃l S S',M id=some (.rnd l S)/\M' id=some (.rnd l S'))\/(∃v b' v',M id=some (.nb v)/\M' id=some (.vb b' v')/\v<v')\/(∃v v',M id=some (.nb v)/\M' id=some (.nb v')/\v<v')
theorem aF.keep2{N N':aS}{M M':Mem}{w w':World}{x:AV}{v:Value}(h:aF N M w x v)(k:fJ w (Fb N M) w' (Fb N' M'))
  (sh:∀b arr t,dJ w b arr t->∃arr',dJ w' b arr' t/\arr'.size=arr.size)
  (hm:∀id,x.men id=true->Tr M M' id):aF N' M' w' x v:=by
 have hgo:∀(cs:List AV) (id:Nat) (i:Nat) (c:AV),cs[i]? = some c->c.men id=true->AV.men.go id cs=true:=by
  intro cs
  induction cs with
  |nil=>intro id i c h;simp at h
  |cons a r ih=>
   intro id i c h hc
   cases i with
   |zero=>simp at h;subst h;simp[AV.men.go,hc]
   |succ i=>
    simp at h
    have:=ih id i c h hc
    unfold AV.men.go;split<;>simp_all
 induction h with
 |data d v h=>exact .data d v (h.keep k)
 |nilsl sz=>exact .nilsl sz
 |gs id sz es a n cap h h0 h1=>
  have ht:=hm id (by simp[AV.men])
  refine .gs id sz es a n cap (h.keep k) ?_ ?_
  ·intro e
   rcases ht with ht |⟨_,b,lo,ht,_⟩ |⟨_,_,b,lo,_,ht,_⟩ |⟨_,_,_,_,_,ht,_⟩ |ht |⟨_,_,_,_,ht⟩ |⟨_,_,_,_,ht,_⟩ |⟨_,_,_,ht,_⟩
   ·exact h0 (ht ▸ e)
   ·rw[ht]at e;simp at e
   ·rw[ht]at e;simp at e
   ·rw[ht]at e;simp at e
   ·rw[ht]at e;simp at e
   ·rw[ht]at e;simp at e
   ·rw[ht]at e;simp at e
   ·rw[ht]at e;simp at e
  ·intro b lo e
   rcases ht with ht |⟨ht0,b',lo',ht,hlo⟩ |⟨b0,lo0,b',lo',ht0,ht,hlo⟩ |⟨_,_,_,_,_,ht,_⟩ |ht |⟨_,_,_,_,ht⟩ |⟨_,_,_,_,ht,_⟩ |⟨_,_,_,ht,_⟩
   ·rw[ht]at e
    obtain⟨p,q⟩:=h1 b lo e
    refine⟨p,λe'=>?_⟩
    obtain⟨q1,arr,t,q2,q3⟩:=q e'
    obtain⟨arr',q4,q5⟩:=sh b arr t q2
    exact⟨q1,arr',t,q4,by omega⟩
   ·rw[ht]at e;simp only[Option.some.injEq,Own.tail.injEq]at e;obtain⟨rfl,rfl⟩:=e
    obtain⟨rfl,-⟩:=h0 ht0
    simp;omega
   ·rw[ht]at e;simp only[Option.some.injEq,Own.tail.injEq]at e;obtain⟨rfl,rfl⟩:=e
    have:=(h1 b0 lo0 ht0).1
    exact⟨by omega,λe'=>by omega⟩
   ·rw[ht]at e;simp at e
   ·rw[ht]at e;simp at e
   ·rw[ht]at e;simp at e
   ·rw[ht]at e;simp at e
   ·rw[ht]at e;simp at e
 |own id vr sz off len a cap h h'=>
  have ht:=hm id (by simp[AV.men])
  refine .own id vr sz off len a cap (λb v e=>?_) λv e=>?_
  ·rcases ht with ht |⟨_,_,_,ht,_⟩ |⟨_,_,_,_,_,ht,_⟩ |⟨b0,v0,b',v',ht0,ht,hlt⟩ |ht |⟨_,_,_,_,ht⟩ |⟨v0,b',v',ht0,ht,hlt⟩ |⟨v0,v',ht0,ht,hlt⟩<;>rw[ht]at e
   ·obtain⟨hv,h⟩:=h b v e
    refine⟨hv,λhh=>?_⟩
    obtain⟨p,q,r,arr,t,q2,q3⟩:=h hh
    obtain⟨arr',q4,q5⟩:=sh b arr t q2
    exact⟨p,q,r,arr',t,q4,by omega⟩
   ·simp at e
   ·simp at e
   ·simp only[Option.some.injEq,Own.vb.injEq]at e
    have:=(h b0 v0 ht0).1
    exact⟨by omega,λhh=>by omega⟩
   ·simp at e
   ·simp at e
   ·simp only[Option.some.injEq,Own.vb.injEq]at e
    have:=(h' v0 ht0).1
    exact⟨by omega,λhh=>by omega⟩
   ·simp at e
  ·rcases ht with ht |⟨_,_,_,ht,_⟩ |⟨_,_,_,_,_,ht,_⟩ |⟨b0,v0,b',v',ht0,ht,hlt⟩ |ht |⟨_,_,_,_,ht⟩ |⟨v0,b',v',ht0,ht,hlt⟩ |⟨v0,v',ht0,ht,hlt⟩<;>rw[ht]at e
   ·exact h' v e
   ·simp at e
   ·simp at e
   ·simp at e
   ·simp at e
   ·simp at e
   ·simp at e
   ·simp only[Option.some.injEq,Own.nb.injEq]at e
    have:=(h' v0 ht0).1
    exact⟨by omega,λhh=>by omega⟩
 |ptr id off a h=>
  refine .ptr id off a λb e=>?_
  rcases hm id (by simp[AV.men])with ht |⟨_,_,_,ht,_⟩ |⟨_,_,_,_,_,ht,_⟩ |⟨_,_,_,_,_,ht,_⟩ |ht |⟨_,_,_,_,ht⟩ |⟨_,_,_,_,ht,_⟩ |⟨_,_,_,ht,_⟩<;>rw[ht]at e
  ·exact h b e
  all_goals simp at e
 |eptr id vr sz i off a h h'=>
  have ht:=hm id (by simp[AV.men])
  refine .eptr id vr sz i off a (λb v e=>?_) λv e=>?_
  ·rcases ht with ht |⟨_,_,_,ht,_⟩ |⟨_,_,_,_,_,ht,_⟩ |⟨b0,v0,b',v',ht0,ht,hlt⟩ |ht |⟨_,_,_,_,ht⟩ |⟨v0,b',v',ht0,ht,hlt⟩ |⟨v0,v',ht0,ht,hlt⟩<;>rw[ht]at e
   ·exact h b v e
   ·simp at e
   ·simp at e
   ·simp only[Option.some.injEq,Own.vb.injEq]at e
    have:=(h b0 v0 ht0).1
    exact⟨by omega,λhh=>by omega⟩
   ·simp at e
   ·simp at e
   ·simp only[Option.some.injEq,Own.vb.injEq]at e
    have:=h' v0 ht0
    exact⟨by omega,λhh=>by omega⟩
   ·simp at e
  ·rcases ht with ht |⟨_,_,_,ht,_⟩ |⟨_,_,_,_,_,ht,_⟩ |⟨b0,v0,b',v',ht0,ht,hlt⟩ |ht |⟨_,_,_,_,ht⟩ |⟨v0,b',v',ht0,ht,hlt⟩ |⟨v0,v',ht0,ht,hlt⟩<;>rw[ht]at e
   ·exact h' v e
   ·simp at e
   ·simp at e
   ·simp at e
   ·simp at e
   ·simp at e
   ·simp at e
   ·simp only[Option.some.injEq,Own.nb.injEq]at e
    have:=h' v0 ht0
    omega
 |map id r h=>
  refine .map id r λb e=>?_
  rcases hm id (by simp[AV.men])with ht |⟨_,_,_,ht,_⟩ |⟨_,_,_,_,_,ht,_⟩ |⟨_,_,_,_,_,ht,_⟩ |ht |⟨_,_,_,_,ht⟩ |⟨_,_,_,_,ht,_⟩ |⟨_,_,_,ht,_⟩<;>rw[ht]at e
  ·exact h b e
  all_goals simp at e
 |fn f cs vs hl h ih=>exact .fn f cs vs hl λi c e=>ih i c e λid hi=>hm id (by simp only[AV.men];exact hgo cs id i c e hi)
 |bnd f cs vs hl h ih=>exact .bnd f cs vs hl λi c e=>ih i c e λid hi=>hm id (by simp only[AV.men];exact hgo cs id i c e hi)
 |iface t x v h ih=>exact .iface t x v (ih λid hi=>hm id (by simp only[AV.men];exact hi))
 |agg cs vs hl h ih=>exact .agg cs vs hl λi c e=>ih i c e λid hi=>hm id (by simp only[AV.men];exact hgo cs id i c e hi)
 |tuple cs vs hl h ih=>exact .tuple cs vs hl λi c e=>ih i c e λid hi=>hm id (by simp only[AV.men];exact hgo cs id i c e hi)
 |dfr cs v=>exact .dfr cs v
 |yld id l h=>
  refine .yld id l λl' S e=>?_
  rcases hm id (by simp[AV.men])with ht |⟨_,_,_,ht,_⟩ |⟨_,_,_,_,_,ht,_⟩ |⟨_,_,_,_,_,ht,_⟩ |ht |⟨l0,S0,S1,ht0,ht⟩ |⟨_,_,_,_,ht,_⟩ |⟨_,_,_,ht,_⟩<;>rw[ht]at e
  ·exact h l' S e
  ·simp at e
  ·simp at e
  ·simp at e
  ·simp at e
  ·simp only[Option.some.injEq,Own.rnd.injEq]at e;obtain⟨rfl,_⟩:=e;exact h _ _ ht0
  ·simp at e
  ·simp at e
 |top v=>exact .top v
theorem aF.keep{N:aS}{M M':Mem}{w w':World}{x:AV}{v:Value}(h:aF N M w x v)(k:fJ w (Fb N M) w' (Fb N M'))
  (sh:∀b arr t,dJ w b arr t->∃arr',dJ w' b arr' t/\arr'.size=arr.size)
  (hm:∀id,x.men id=true->Tr M M' id):aF N M' w' x v:=h.keep2 k sh hm
theorem kU{cs:List AV}{id i:Nat}{c:AV}(h:cs[i]? = some c)(hc:c.men id=true):AV.men.go id cs=true:=by
 induction cs generalizing i with
 |nil=>simp at h
 |cons a r ih=>
  grind[AV.men.go]
theorem eP.keep{N:aS}{M M':Mem}{w w':World}{W:List Nat}{id:Nat}{blk:Block}(h:eP N M w id blk)(m:bT N M w)(s:Step M w M' w' W)(hid:id ∉ W)
  (hm:∀id',blk.men id'=true->Tr M M' id'):eP N M' w' id blk:=by
 have hk:fJ w (Fb N M) w' (Fb N M'):=s.keeps
 have hb:∀b,M id=some (.blk b)->∀arr t,dJ w b arr t->dJ w' b arr t:=by
  intro b e arr t e'
  show w'.heap[b]? = _
  rw[s.block b (by have:=Array.getElem?_eq_some_iff.1 e';exact this.1) ?_]
  ·exact e'
  ·intro id' h' ow o e2 hb
   exact m.disj id' id ow (.blk b) b o (λq=>hid (q ▸ h')) e2 e hb rfl
 have hv:∀b v,M id=some (.vb b v)->∀arr t,dJ w b arr t->dJ w' b arr t:=by
  intro b v e arr t e'
  show w'.heap[b]? = _
  rw[s.block b (by have:=Array.getElem?_eq_some_iff.1 e';exact this.1) ?_]
  ·exact e'
  ·intro id' h' ow o e2 hb
   exact m.disj id' id ow (.vb b v) b o (λq=>hid (q ▸ h')) e2 e hb rfl
 cases blk with
 |dead=>trivial
 |adr i b=>exact aF.keep h hk s.shape λid' hi=>hm id' hi
 |cells cs=>
  obtain⟨b,arr,t,e1,e2,e3,e4⟩:=h
  exact⟨b,arr,t,by rw[s.mem id hid];exact e1,hb b e1 arr t e2,e3,λi c e=>(e4 i c e).keep hk s.shape λid' hi=>hm id' (by simp only[Block.men];exact kU e hi)⟩
 |arr vr sz es=>
  rcases h with⟨b,arr,t,e1,e2,e3,e4,e5⟩ |⟨e1,e2⟩
  ·exact .inl ⟨b,arr,t,by rw[s.mem id hid];exact e1,hv b vr e1 arr t e2,e3,e4,λi j e d he hd=>⟨(e5 i j e d he hd).1.keep hk,(e5 i j e d he hd).2⟩⟩
  ·exact .inr ⟨by rw[s.mem id hid];exact e1,e2⟩
 |tok sz n=>
  rcases h with⟨e1,e2⟩ |⟨b,arr,t,e1,e2⟩
  ·exact .inl ⟨by rw[s.mem id hid];exact e1,e2⟩
  ·obtain⟨arr',e3,e4⟩:=s.shape b arr t e2
   exact .inr ⟨b,arr',t,by rw[s.mem id hid];exact e1,e3⟩
 |map g l es=>
  obtain⟨b,mes,clock,e1,e2,e3,es',e4⟩:=h
  refine⟨b,mes,clock,by rw[s.mem id hid];exact e1,?_,e3,es',λi x e=>?_⟩
  ·rw[s.block b (by have:=Array.getElem?_eq_some_iff.1 e2;exact this.1) ?_]
   ·exact e2
   ·intro id' h' ow o e5 hb
    exact m.disj id' id ow (.blk b) b o (λq=>hid (q ▸ h')) e5 e1 hb rfl
  ·obtain⟨f0,m',f1,f2,f3⟩:=e4 i x e
   exact⟨f0,m',f1,f2.keep hk,f3.keep hk⟩
 |rnd R=>
  obtain⟨l,S,e1,e2⟩:=h
  refine⟨l,S,by rw[s.mem id hid];exact e1,R.keep e2 (λb o hS=>.inr ⟨id,.rnd l S,by rw[s.mem id hid];exact e1,o,Nat.le_refl _,hS⟩) s.size (λb o hS=>?_) hk s.shape⟩
  refine s.block b (m.dom id _ b o e1 ⟨o,Nat.le_refl _,hS⟩).1 λid' h' ow o' e5 hb=>?_
  have h1:(Own.rnd l S).has b (max o o'):=⟨o,Nat.le_max_left _ _,hS⟩
  exact m.disj id' id ow _ b (max o o') (λq=>hid (q ▸ h')) e5 e1 (Own.has_of hb (Nat.le_max_right _ _)) h1
def YN(N:aS)(M:Mem)(w:World)(x:AV)(d:Deferred):Prop:=∃f caps vs,x = .fn f caps/\d = { target:=.fn (.func f) vs,args:=#[] }/\vs.size=caps.length/\∀(i:Nat) c,caps[i]? = some c->aF N M w c (vs.getD i undef)
def Aa(d:Deferred):Bool:=match d.target with | .collected _=>true |_=>false
def uI(d:Deferred):Nat:=match d.target with | .collected b=>b |_=>0
def jb(ds:List Deferred):List Deferred:=ds.filter λd=>!Aa d
def marks(ds:List Deferred):List Nat:=(ds.filter Aa).map uI
def rW(M:Mem)(w:World)(b:Nat):Prop:=w.heap[b]? = some (.deferred (some []))/\∀o,¬M.R b o
def Lm(N:aS)(M:Mem)(w:World)(x:AV)(ds:List Deferred):Prop:=match x with
 | .dfr cs=>ds.length=cs.length/\∀(i:Nat) c d,cs[i]? = some c->ds[i]? = some d->YN N M w c d
 |_=>ds = []
class Lo where ok:Nat->Prop
section
variable [Lo]
structure yQ(N:aS)(M:Mem)(w:World)(x:AV)(ds:List Deferred):Prop where
 real:Lm N M w x (jb ds)
 nodup:(marks ds).Nodup
 mark:∀b∈marks ds,rW M w b/\Lo.ok b
theorem yQ.view{N:aS}{M:Mem}{w:World}{x y:AV}{ds:List Deferred}(h:yQ N M w x ds)(hxy:Lm N M w x (jb ds)->Lm N M w y (jb ds)):yQ N M w y ds:=⟨hxy h.real,h.nodup,h.mark⟩
theorem yQ.nil{N:aS}{M:Mem}{w:World}{x:AV}(h:∀cs,x ≠ .dfr cs):yQ N M w x []:=by
 refine⟨?_,List.nodup_nil,λb hb=>by simp[marks]at hb⟩
 cases x<;>first |rfl |simp_all
theorem Ac{N:aS}{M:Mem}{w:World}{x:AV}{ds:List Deferred}(h:yQ N M w x ds)(hx:∀cs,x ≠ .dfr cs):jb ds = []:=by
 have:=h.real
 cases x<;>first |exact this |simp_all
theorem yQ.none{N:aS}{M:Mem}{w:World}{x:AV}{ds:List Deferred}(h:yQ N M w x ds)(hx:∀cs,x ≠ .dfr cs)(hn:∀b,¬Lo.ok b):ds = []:=by
 have h1:=Ac h hx
 have h2:marks ds = []:=by
  cases hm:marks ds with
  |nil=>rfl
  |cons b r=>exact absurd (h.mark b (by rw[hm];simp)).2 (hn b)
 cases ds with
 |nil=>rfl
 |cons d r=>
  grind[marks,jb]
def zj7(y:AV):List AV:=match y with | .dfr cs=>cs |_=>[]
theorem yQ.push{N:aS}{M:Mem}{w:World}{y c:AV}{d:Deferred}{ds:List Deferred}(h:yQ N M w y ds)(hn:YN N M w c d)(hd:Aa d=false):yQ N M w (.dfr (c::zj7 y)) (d::ds):=by
 have e1:jb (d::ds)=d::jb ds:=by simp[jb,hd]
 have e2:marks (d::ds)=marks ds:=by simp[marks,hd]
 refine⟨?_,by rw[e2];exact h.nodup,by rw[e2];exact h.mark⟩
 rw[e1]
 have h0:=h.real
 have key:∀cs:List AV,(jb ds).length=cs.length->(∀(i:Nat) c d,cs[i]? = some c->(jb ds)[i]? = some d->YN N M w c d)->Lm N M w (.dfr (c::cs)) (d::jb ds):=by
  intro cs q1 q2
  refine⟨by simp[q1],λi c' d' hc hd=>?_⟩
  grind
 cases y with
 |dfr cs=>exact key cs h0.1 h0.2
 |_=>
  exact key [] (by rw[h0];rfl) λi c d hc=>by simp at hc
theorem yQ.pushMark{N:aS}{M:Mem}{w:World}{y:AV}{b:Nat}{ds:List Deferred}(h:yQ N M w y ds)(hb:rW M w b)(hlo:Lo.ok b)(hn:b ∉ marks ds):yQ N M w y ({ target:=.collected b,args:=#[] }::ds):=by
 have e1:jb (({ target:=.collected b,args:=#[] }:Deferred)::ds)=jb ds:=by rfl
 have e2:marks (({ target:=.collected b,args:=#[] }:Deferred)::ds)=b::marks ds:=by rfl
 refine⟨by exact h.real,by exact List.nodup_cons.2 ⟨hn,h.nodup⟩,λc hc=>?_⟩
 rcases List.mem_cons.1 hc with rfl |hc
 ·simp_all
 ·exact h.mark c hc
omit [Lo] in
theorem Step.R_old{M M':Mem}{w w':World}{W:List Nat}(s:Step M w M' w' W){b o:Nat}(hb:b<w.heap.size)(h:M'.R b o):M.R b o:=by
 obtain⟨id,ow,h1,h2⟩:=h
 by_cases hid:id∈W
 ·rcases(s.own id hid ow b o h1 h2).2 with h3 |⟨id0,_,ow0,h4,h5⟩
  ·omega
  ·exact⟨id0,ow0,h4,h5⟩
 ·rw[s.mem id hid]at h1;exact⟨id,ow,h1,h2⟩
omit [Lo] in
theorem Lm.keep{N:aS}{M M':Mem}{w w':World}{x:AV}{ds:List Deferred}(h:Lm N M w x ds)(k:fJ w (Fb N M) w' (Fb N M'))
  (sh:∀b arr t,dJ w b arr t->∃arr',dJ w' b arr' t/\arr'.size=arr.size)
  (hm:∀id,x.men id=true->Tr M M' id):Lm N M' w' x ds:=by
 cases x<;>try exact h
 rename_i cs
 obtain⟨h1,h2⟩:=h
 refine⟨h1,λi c d hc hd=>?_⟩
 obtain⟨f,caps,vs,e1,e2,e3,e4⟩:=h2 i c d hc hd
 exact⟨f,caps,vs,e1,e2,e3,λj c' hc'=>(e4 j c' hc').keep k sh λid hi=>hm id (by
  simp only[AV.men]
  refine kU hc ?_
  subst e1
  simp only[AV.men]
  exact kU hc' hi)⟩
theorem yQ.keep{N:aS}{M M':Mem}{w w':World}{x:AV}{ds:List Deferred}(h:yQ N M w x ds)(k:fJ w (Fb N M) w' (Fb N M'))
  (sh:∀b arr t,dJ w b arr t->∃arr',dJ w' b arr' t/\arr'.size=arr.size)
  (hm:∀id,x.men id=true->Tr M M' id) (kb:∀b,b<w.heap.size->(∀o,¬M.R b o)->w'.heap[b]? = w.heap[b]?) (kr:∀b o,b<w.heap.size->M'.R b o->M.R b o):yQ N M' w' x ds:=by
 refine⟨h.real.keep k sh hm,h.nodup,λb hb=>?_⟩
 obtain⟨⟨h1,h2⟩,h3⟩:=h.mark b hb
 have hlt:=(Array.getElem?_eq_some_iff.1 h1).1
 exact⟨⟨(kb b hlt h2).trans h1,λo ho=>h2 o (kr b o hlt ho)⟩,h3⟩
structure St(N:aS)(M:Mem)(n:Nat)(env:Env)(K:Heap)(a:Act)(w:World):Prop where
 size:a.tmps.size=n
 big:n<=gq
 defers:yQ N M w (env.get gq) a.defers
 env:∀j,aF N M w (env.get j) (a.tmps.getD j undef)
 heap:∀id blk,K.get id=some blk->eP N M w id blk
 mem:bT N M w
end
theorem Env.get_cons(k:Nat)(v:AV)(r:Env)(j:Nat):Env.get ((k,v)::r) j=if k=j then v else Env.get r j:=by
 simp[Env.get]
 by_cases h:k=j
 ·subst h;simp
 ·grind[Nat.eq_of_beq_eq_true]
theorem Heap.get_cons(k:Nat)(v:Block)(r:Heap)(j:Nat):Heap.get ((k,v)::r) j=if k=j then some v else Heap.get r j:=by
 simp[Heap.get]
 by_cases h:k=j
 ·subst h;simp
 ·grind[Nat.eq_of_beq_eq_true]
theorem Heap.get_del(h:Heap)(i j:Nat):(h.del i).get j=if i=j then none else h.get j:=by
 induction h with
 |nil=>simp[Heap.del,Heap.get]
 |cons x r ih=>
  obtain⟨k,b⟩:=x
  simp[Heap.del]
  split
  ·grind[Nat.eq_of_beq_eq_true,Heap.get_cons]
  ·have hk:k≠i:=λe=>by simp_all
   grind[Heap.get_cons]
theorem Heap.get_put(h:Heap)(i j:Nat)(b:Block):(h.put i b).get j=if i=j then some b else h.get j:=by
 grind[Heap.put,Heap.get_cons,Heap.get_del]
theorem oh{env:Env}{id j:Nat}(h:(env.get j).men id=true):fU id env=true:=by
 induction env with
 |nil=>simp[Env.get,AV.men]at h
 |cons x r ih=>
  grind[Env.get_cons,fU]
theorem qM{K:Heap}{id j:Nat}{blk:Block}(h:K.get j=some blk)(hm:blk.men id=true):pK id K=true:=by
 induction K with
 |nil=>simp[Heap.get]at h
 |cons x r ih=>
  grind[Heap.get_cons,pK]
theorem gm(t:Array Value)(d j:Nat)(v:Value)(h:d<t.size):(t.setIfInBounds d v).getD j undef=if d=j then v else t.getD j undef:=by
 simp
 grind
theorem St.put[Lo]{N:aS}{M:Mem}{n:Nat}{env:Env}{K:Heap}{a:Act}{w:World}(s:St N M n env K a w){dst:Option Nat}(hd:∀d,dst=some d->d<n){x:AV}{v:Value}(h:aF N M w x v) :
  St N M n (env.set dst x) K (a.put dst v) w:=by
 cases dst with
 |none=>exact s
 |some d=>
  have hdn:d≠gq:=by have:=hd d rfl;have:=s.big;omega
  refine⟨by simp[Act.put,s.size],s.big,by simp[Env.set];rw[Env.get_cons,if_neg hdn];exact s.defers,λj=>?_,s.heap,s.mem⟩
  have hlt:d<a.tmps.size:=by rw[s.size];exact hd d rfl
  simp only[Env.set,Act.put]
  rw[Env.get_cons,gm _ _ _ _ hlt]
  split
  ·exact h
  ·exact s.env j
def zv:AV->Value
 | .data (.val v)=>v
 | .data (.str s)=>.string ⟨s.toArray⟩
 | .nilsl _=>.slice none 0 0
 |_=>undef
def Lp(P:Program)(t:TypeId)(ty:Ty):Prop:=match ty with
  | .int k=>P.underlying t=some (.int k)
  | .bool=>P.underlying t=some .bool
  | .str=>P.underlying t=some .string
  | .ptr e=>P.underlying t=some (.pointer e)
  | .slice e=>P.underlying t=some (.slice e)
  | .struct fs=>∃fields:Array Field,P.underlying t=some (.struct fields)/\fields.toList.map (λf=>(f.offset,f.type))=fs
  | .array n e=>P.underlying t=some (.array n e)
  | .map k e=>P.underlying t=some (.map k e)
  | .func=>∃a b c,P.underlying t=some (.func a b c)
  | .iface=>∃m,P.underlying t=some (.interface m)
  | .other=>True
def z6c:Value->Bool | .agg _=>true |_=>false
structure zhp(P:Program)(t:TypeId)(ti:TI):Prop where
 desc:Lp P t ti.ty
 info:ti.ty.sh≠none->∃i,P.info? t=some i/\i.size=ti.size/\i.bytes=ti.bytes/\(ti.zero ≠ []->∃z,i.zero=some z/\z.cells.toList=ti.zero.map zv/\ti.zero.all (λx=>match x with | .data (.val v)=>pM v | .data (.str _)=>true | .nilsl _=>true |_=>false)=true)
 zsh:ti.zero ≠ []->ti.ty.sh≠none->∃i z,P.info? t=some i/\i.zero=some z/\ti.ty.sh=some (z6c z)
 eqs:ti.eqs=true->P.eqGuardType P.depth t=false/\P.stoodInHeld t=false/\((∃fields:Array Field,P.underlying t=some (.struct fields)/\∀f∈fields.toList,f.name ≠ "_")\/∃m e,P.underlying t=some (.array m e))
 emp:ti.ty = .struct []->∃i,P.info? t=some i/\i.zero=some (.agg #[])
def iQ(P:Program)(T:Tbl):Prop:=∀t,zhp P t (T.at t)
section
variable {P : Program} {T : Tbl} (hT : iQ P T)
include hT
theorem tu{t k}(h:(T.at t).ty = .int k):P.underlying t=some (.int k):=by have:=(hT t).desc;rw[h]at this;exact this
theorem uJ{t}(h:(T.at t).ty = .bool):P.underlying t=some .bool:=by have:=(hT t).desc;rw[h]at this;exact this
theorem mM{t}(h:(T.at t).ty = .str):P.underlying t=some .string:=by have:=(hT t).desc;rw[h]at this;exact this
theorem z6d{t e}(h:(T.at t).ty = .ptr e):P.underlying t=some (.pointer e):=by have:=(hT t).desc;rw[h]at this;exact this
theorem aQ{t e}(h:(T.at t).ty = .slice e):P.underlying t=some (.slice e):=by have:=(hT t).desc;rw[h]at this;exact this
theorem qN{t fs}(h:(T.at t).ty = .struct fs):∃fields:Array Field,P.underlying t=some (.struct fields)/\fields.toList.map (λf=>(f.offset,f.type))=fs:=by have:=(hT t).desc;rw[h]at this;exact this
theorem nH{t n e}(h:(T.at t).ty = .array n e):P.underlying t=some (.array n e):=by have:=(hT t).desc;rw[h]at this;exact this
theorem Uj{t k e}(h:(T.at t).ty = .map k e):P.underlying t=some (.map k e):=by have:=(hT t).desc;rw[h]at this;exact this
theorem y5{t}(h:T.sh t≠none):∃i,P.info? t=some i/\i.size=(T.at t).size/\i.bytes=(T.at t).bytes:=by
 obtain⟨i,a,b,c,_⟩:=(hT t).info h
 simp_all
omit hT in
theorem aZ{t}(h:T.known t=true):T.sh t≠none:=by
 intro e;simp[Tbl.known,e]at h
theorem run_sizeOf'{t}(h:T.sh t≠none)(w:World):(sizeOf t).run P w = .ok (T.at t).size w:=by
 obtain⟨i,a,b,_⟩:=y5 hT h
 simp[sizeOf,typeInfo,a,b]
theorem run_isAgg'{t g}(h:T.sh t=some g)(w:World):(isAgg t).run P w = .ok g w:=by
 have hd:=(hT t).desc
 simp[Tbl.sh]at h
 cases hty:(T.at t).ty<;>simp only[hty,Ty.sh]at h hd<;>first
  |(simp at h;subst h;simp[isAgg,run_underlying hd])
  |(simp at h;done)
  |(obtain⟨x,hx,_⟩:=hd;simp at h;subst h;simp[isAgg,run_underlying hx])
  |(obtain⟨x,y,z,hx⟩:=hd;simp at h;subst h;simp[isAgg,run_underlying hx])
  |(obtain⟨x,hx⟩:=hd;simp at h;subst h;simp[isAgg,run_underlying hx])
end
theorem addr_add(b off n:Nat):(⟨b,off,none⟩:Addr).add n=⟨b,off+n,none⟩:=by
 grind[Addr.add]
theorem run_loadCells'{P:Program}{w:World}(b off n:Nat)(g:Nat->Value)(h:∀j,j<n->w.cell? ⟨b,off+j,none⟩=some (g j)) :
  (loadCells ⟨b,off,none⟩ n).run P w = .ok ((Array.range n).map g) w:=by
 rw[run_loadCells _ _ _ g (λj hj=>by grind[addr_add])]
 congr 1
 grind
theorem dO{n:Nat}{g:Nat->Value}{i:Nat}(h:i<n):((Array.range n).map g).getD i undef=g i:=by
 simp[h]
theorem fF{cs:List AV}{ds:List D}(h:AV.allD cs=some ds):ds.length=cs.length/\∀(i:Nat) d,ds[i]? = some d->∃c,cs[i]? = some c/\c.toD? = some d:=by
 induction cs generalizing ds with
 |nil=>grind[AV.allD,AV.toD?.go]
 |cons c r ih=>
  grind[AV.allD,AV.toD?.go]
theorem aF.toD{N:aS}{M:Mem}{w:World}{x:AV}{v:Value}(h:aF N M w x v):∀{d},x.toD? = some d->DRel (Fb N M) w d v:=by
 induction h with
 |data d v h=>intro d' e;simp[AV.toD?]at e;subst e;exact h
 |nilsl sz=>intro d' e;simp[AV.toD?]at e;subst e;exact .sl0 sz none 0 (by simp[maxLen])
 |gs id sz es a n cap h h0 h1=>intro d' e;simp[AV.toD?]at e;subst e;exact h
 |own id vr sz off len a cap h h'=>intro d' e;simp[AV.toD?]at e
 |ptr id off a h=>intro d' e;simp[AV.toD?]at e
 |eptr id vr sz i off a h h'=>intro d' e;simp[AV.toD?]at e
 |map id r h=>intro d' e;simp[AV.toD?]at e
 |bnd f cs vs hl h ih=>intro d' e;simp[AV.toD?]at e
 |fn f cs vs hl h ih=>
  intro d' e
  simp only[AV.toD?,Option.map_eq_some_iff]at e
  obtain⟨ds,e1,rfl⟩:=e
  obtain⟨k1,k2⟩:=fF e1
  exact .fn f ds vs (by omega) λi d hd=>by obtain⟨c,e2,e3⟩:=k2 i d hd;exact ih i c e2 e3
 |iface t x v h ih=>
  intro d' e
  simp only[AV.toD?,Option.map_eq_some_iff]at e
  obtain⟨d,e1,rfl⟩:=e
  exact .iface t d v (ih e1)
 |agg cs vs hl h ih=>
  intro d' e
  simp only[AV.toD?,Option.map_eq_some_iff]at e
  obtain⟨ds,e1,rfl⟩:=e
  obtain⟨k1,k2⟩:=fF e1
  exact .agg ds vs (by omega) λi d hd=>by obtain⟨c,e2,e3⟩:=k2 i d hd;exact ih i c e2 e3
 |tuple cs vs hl h ih=>
  intro d' e
  simp only[AV.toD?,Option.map_eq_some_iff]at e
  obtain⟨ds,e1,rfl⟩:=e
  obtain⟨k1,k2⟩:=fF e1
  exact .tuple ds vs (by omega) λi d hd=>by obtain⟨c,e2,e3⟩:=k2 i d hd;exact ih i c e2 e3
 |dfr cs v=>intro d' e;simp[AV.toD?]at e
 |yld id l h=>intro d' e;simp[AV.toD?]at e
 |top v=>intro d' e;simp[AV.toD?]at e
theorem uK{N:aS}{M:Mem}{w:World}{cs:List AV}{vs:Array Value}(hl:vs.size=cs.length)(h:∀(i:Nat) c,cs[i]? = some c->aF N M w c (vs.getD i undef)) :
  aF N M w (FC cs) (.agg vs):=by
 simp[FC]
 split
 ·exact .agg cs vs hl h
 split
 ·rename_i ds hds
  obtain⟨k1,k2⟩:=fF hds
  exact .data _ _ (.agg ds vs (by omega) λi d hd=>by obtain⟨c,e1,e2⟩:=k2 i d hd;exact(h i c e1).toD e2)
 ·exact .agg cs vs hl h
theorem aF.cellsOf{N:aS}{M:Mem}{w:World}{x:AV}{v:Value}(h:aF N M w x v)(hx:x.celled=true):v.cells.size=x.cells.length/\∀(i:Nat) c,x.cells[i]? = some c->aF N M w c (v.cells.getD i undef):=by
 cases h with
 |data d v h=>
  cases h<;>simp only[AV.cells,Value.cells]<;>first
   |(simp only[AV.celled]at hx;cases v<;>simp[pM]at hx<;>exact⟨by simp,λi c e=>by cases i<;>simp at e ⊢;subst e;exact .data _ _ (.val _)⟩)
   | (refine⟨by simp,λi c e=>?_⟩
      cases i with
      |zero=>simp at e;subst e;simp;first |exact .data _ _ (.str _) |exact .data _ _ (.sl0 _ _ _ ‹_›) |exact .data _ _ (.sl _ _ _ _ _ _ _ ‹_› ‹_› ‹_› ‹_› ‹_› ‹_›) |exact .data _ _ (.ptr _ _ _ _ ‹_› ‹_›) |exact .data _ _ (.iface _ _ _ ‹_›) |exact .data _ _ (.tuple _ _ ‹_› ‹_›) |exact .data _ _ (.fn _ _ _ ‹_› ‹_›)
      |succ i=>simp at e)
   | (rename_i hl hh
      refine⟨by simp[hl],λi c e=>?_⟩
      simp only[List.getElem?_map,Option.map_eq_some_iff]at e
      obtain⟨d,e1,rfl⟩:=e
      exact .data _ _ (hh i d e1))
 |nilsl sz=>exact⟨by simp[AV.cells,Value.cells],λi c e=>by cases i<;>simp[AV.cells,Value.cells]at e ⊢;subst e;exact .nilsl sz⟩
 |gs id sz es a n cap h h0 h1=>exact⟨by simp[AV.cells,Value.cells],λi c e=>by cases i<;>simp[AV.cells,Value.cells]at e ⊢;subst e;exact .gs id sz es a n cap h h0 h1⟩
 |own id vr sz off len a cap h h'=>exact⟨by simp[AV.cells,Value.cells],λi c e=>by cases i<;>simp[AV.cells,Value.cells]at e ⊢;subst e;exact .own id vr sz off len a cap h h'⟩
 |ptr id off a h=>exact⟨by simp[AV.cells,Value.cells],λi c e=>by cases i<;>simp[AV.cells,Value.cells]at e ⊢;subst e;exact .ptr id off a h⟩
 |eptr id vr sz i off a h h'=>exact⟨by simp[AV.cells,Value.cells],λi c e=>by cases i<;>simp[AV.cells,Value.cells]at e ⊢;subst e;exact .eptr id vr sz _ off a h h'⟩
 |map id r h=>exact⟨by simp[AV.cells,Value.cells],λi c e=>by cases i<;>simp[AV.cells,Value.cells]at e ⊢;subst e;exact .map id r h⟩
 |fn f cs vs hl h=>exact⟨by simp[AV.cells,Value.cells],λi c e=>by cases i<;>simp[AV.cells,Value.cells]at e ⊢;subst e;exact .fn f cs vs hl h⟩
 |bnd f cs vs hl h=>exact⟨by simp[AV.cells,Value.cells],λi c e=>by cases i<;>simp[AV.cells,Value.cells]at e ⊢;subst e;exact .bnd f cs vs hl h⟩
 |iface t x v h=>exact⟨by simp[AV.cells,Value.cells],λi c e=>by cases i<;>simp[AV.cells,Value.cells]at e ⊢;subst e;exact .iface t x v h⟩
 |agg cs vs hl h=>exact⟨by simp[AV.cells,Value.cells,hl],λi c e=>by simp only[AV.cells]at e;exact h i c e⟩
 |tuple cs vs hl h=>exact⟨by simp[AV.cells,Value.cells],λi c e=>by cases i<;>simp[AV.cells,Value.cells]at e ⊢;subst e;exact .tuple cs vs hl h⟩
 |yld id l h=>exact⟨by simp[AV.cells,Value.cells],λi c e=>by cases i<;>simp[AV.cells,Value.cells]at e ⊢;subst e;exact .yld id l h⟩
 |dfr cs v=>simp[AV.celled]at hx
 |top v=>simp[AV.celled]at hx
end Go.Fw
namespace Go.Fw
variable [ae] {w : World} {v : Value}
def Hk(N:aS)(M:Mem)(w:World)(K:Heap)(x:AV):Prop:=∀id,x.men id=true->∀blk,K.get id=some blk->eP N M w id blk
theorem dG{b:Nat}{arr:Array Value}{t:TypeId}(h:dJ w b arr t)(o:Nat):w.cell? ⟨b,o,none⟩=arr[o]?:=by
 grind[World.cell?]
theorem bi{α}{arr:Array α}{i:Nat}(d:α)(h:i<arr.size):arr[i]? = some (arr.getD i d):=by
 simp[h]
theorem DRel.int{F:aS}{k:IntKind}{n:Int}(h:DRel F w (.val (.int k n)) v):v = .int k n:=by cases h;rfl
theorem aF.int{N:aS}{M:Mem}{k:IntKind}{n:Int}(h:aF N M w (.data (.val (.int k n))) v):v = .int k n:=by cases h with |data _ _ h=>exact h.int
theorem aF.bool{N:aS}{M:Mem}{c:Bool}(h:aF N M w (.data (.val (.bool c))) v):v = .bool c:=by cases h with |data _ _ h=>cases h;rfl
theorem aF.str{N:aS}{M:Mem}{s:List UInt8}(h:aF N M w (.data (.str s)) v):v = .string ⟨s.toArray⟩:=by cases h with |data _ _ h=>cases h;rfl
section
variable {P : Program} {T : Tbl} (hT : iQ P T)
include hT
theorem FM{t:TypeId}{x:AV}{K:Heap}{next:Next}(h:jM T t x K next) :
  ∃r,next r K/\∀N M w v,aF N M w x v->Hk N M w K x->∃u,(Instr.loadAt t v).run P w = .ok u w/\aF N M w r u:=by
 unfold jM at h
 split at h
 ·rename_i id off
  split at h
  ·rename_i cs hcs
   split at h
   ·rename_i hsh
    split at h
    ·rename_i hle
     have hle:=Nat.le_of_ble_eq_true hle
     refine⟨_,h,λN M w v hv hk=>?_⟩
     cases hv with
     |ptr _ _ a ha=>
      obtain⟨b,arr,t',e1,e2,e3,e4⟩:=hk id (by simp[AV.men]) _ hcs
      obtain rfl:=ha b e1
      refine⟨.agg ((Array.range (T.at t).size).map λj=>arr.getD (off+j) undef),?_,uK (by simp;omega) λi c hc=>?_⟩
      ·simp only[Instr.loadAt,Instr.sureAddr,Sem.run_bind,Sem.run_pure,Result.andThen_ok,loadVar,run_isAgg' hT hsh,if_true,run_sizeOf' hT (by rw[hsh];simp)]
       rw[run_loadCells' b off _ (λj=>arr.getD (off+j) undef) λj hj=>by rw[dG e2,bi undef (by omega)]]
       simp
      ·simp only[List.getElem?_take,List.getElem?_drop]at hc
       split at hc
       ·rename_i hi
        rw[dO hi]
        exact e4 _ c hc
       ·simp at hc
    ·exact h.elim
   ·rename_i hsh
    split at h
    ·rename_i c hc
     refine⟨_,h,λN M w v hv hk=>?_⟩
     cases hv with
     |ptr _ _ a ha=>
      obtain⟨b,arr,t',e1,e2,e3,e4⟩:=hk id (by simp[AV.men]) _ hcs
      obtain rfl:=ha b e1
      have hlt:off<arr.size:=by rw[e3];exact(List.getElem?_eq_some_iff.1 hc).1
      refine⟨arr.getD off undef,?_,e4 off c hc⟩
      simp only[Instr.loadAt,Instr.sureAddr,Sem.run_bind,Sem.run_pure,Result.andThen_ok,loadVar,run_isAgg' hT hsh,Bool.false_eq_true,if_false,run_load,dG e2,bi undef hlt]
    ·exact h.elim
   ·exact h.elim
  ·exact h.elim
 ·rename_i cs
  split at h
  ·rename_i hsh
   obtain⟨hl,h⟩:=h
   refine⟨_,h,λN M w v hv hk=>?_⟩
   cases hv with
   |data _ _ hd=>
    cases hd with
    |ptr _ b off g h1 h2=>
     have hg:∀j,j<(T.at t).size->w.cell? ⟨b,off+j,none⟩=some (g j):=λj hj=>(h1 j cs[j] (by simp[hl,hj])).2.1
     refine⟨.agg ((Array.range (T.at t).size).map g),?_,.data _ _ (.agg _ _ (by simp[hl]) λi d hd=>?_)⟩
     ·simp only[Instr.loadAt,Instr.sureAddr,Sem.run_bind,Sem.run_pure,Result.andThen_ok,loadVar,run_isAgg' hT hsh,if_true,run_sizeOf' hT (by rw[hsh];simp)]
      rw[run_loadCells' b off _ g hg]
      simp
     ·rw[dO (by rw[<-hl];exact(List.getElem?_eq_some_iff.1 hd).1)]
      exact h2 i d hd
  ·rename_i hsh
   split at h
   ·rename_i c r
    refine⟨_,h,λN M w v hv hk=>?_⟩
    cases hv with
    |data _ _ hd=>
     cases hd with
     |ptr _ b off g h1 h2=>
      refine⟨g 0,?_,.data _ _ (h2 0 c (by simp))⟩
      have:=(h1 0 c (by simp)).2.1
      simp only[Nat.add_zero]at this
      simp only[Instr.loadAt,Instr.sureAddr,Sem.run_bind,Sem.run_pure,Result.andThen_ok,loadVar,run_isAgg' hT hsh,Bool.false_eq_true,if_false,run_load,this]
   ·exact h.elim
  ·exact h.elim
 ·rename_i id vr sz' i off
  split at h
  ·rename_i vr2 sz es hes
   split at h
   ·rename_i hsh
    split at h
    ·rename_i hb
     simp only[Bool.and_eq_true]at hb
     have h0:=Nat.eq_of_beq_eq_true hb.1
     have hsz:=Nat.eq_of_beq_eq_true hb.2
     subst h0
     obtain⟨⟨rfl,rfl⟩,e,he,h⟩:=h
     refine⟨_,h,λN M w v hv hk=>?_⟩
     cases hv with
     |eptr _ _ _ _ _ a ha=>
      obtain⟨b,arr,t',e1,e2,e3,e4,e5⟩:=(hk id (by simp[AV.men]) _ hes).arrAt he
      obtain rfl:=(ha b _ e1).2 rfl
      have hil:i<es.length:=(List.getElem?_eq_some_iff.1 he).1
      have hel:e.length=sz':=e4 e (List.mem_of_getElem? he)
      have hbd:(i+1) * sz'<=arr.size:=by exact Nat.le_trans (Nat.mul_le_mul_right _ hil) e3
      have hbd':i * sz'+sz'<=arr.size:=by rw[Nat.add_mul]at hbd;omega
      refine⟨.agg ((Array.range (T.at t).size).map λj=>arr.getD (i * sz'+j) undef),?_,.data _ _ (.agg _ _ (by simp;omega) λj d hd=>?_)⟩
      ·simp only[Instr.loadAt,Instr.sureAddr,Sem.run_bind,Sem.run_pure,Result.andThen_ok,loadVar,run_isAgg' hT hsh,if_true,run_sizeOf' hT (by rw[hsh];simp)]
       rw[run_loadCells' b (i * sz'+0) _ (λj=>arr.getD (i * sz'+j) undef) λj hj=>by rw[dG e2,Nat.add_zero,bi undef (by omega)]]
       simp
      ·have hj:j<(T.at t).size:=by rw[<-hsz,<-hel];exact(List.getElem?_eq_some_iff.1 hd).1
       rw[dO hj]
       exact(e5 i j e d he hd).1
    ·obtain⟨⟨rfl,rfl⟩,hle,e,he,h⟩:=h
     refine⟨_,h,λN M w v hv hk=>?_⟩
     cases hv with
     |eptr _ _ _ _ _ a ha=>
      obtain⟨b,arr,t',e1,e2,e3,e4,e5⟩:=(hk id (by simp[AV.men]) _ hes).arrAt he
      obtain rfl:=(ha b _ e1).2 rfl
      have hil:i<es.length:=(List.getElem?_eq_some_iff.1 he).1
      have hel:e.length=sz':=e4 e (List.mem_of_getElem? he)
      have hbd:(i+1) * sz'<=arr.size:=by exact Nat.le_trans (Nat.mul_le_mul_right _ hil) e3
      have hbd':i * sz'+sz'<=arr.size:=by rw[Nat.add_mul]at hbd;omega
      refine⟨.agg ((Array.range (T.at t).size).map λj=>arr.getD (i * sz'+off+j) undef),?_,.data _ _ (.agg _ _ (by simp;omega) λj d hd=>?_)⟩
      ·simp only[Instr.loadAt,Instr.sureAddr,Sem.run_bind,Sem.run_pure,Result.andThen_ok,loadVar,run_isAgg' hT hsh,if_true,run_sizeOf' hT (by rw[hsh];simp)]
       rw[run_loadCells' b (i * sz'+off) _ (λj=>arr.getD (i * sz'+off+j) undef) λj hj=>by rw[dG e2,bi undef (by omega)]]
       simp
      ·have hj:j<(T.at t).size:=by
        have:=(List.getElem?_eq_some_iff.1 hd).1
        simp at this;omega
       rw[dO hj]
       rw[List.getElem?_take,if_pos hj,List.getElem?_drop]at hd
       have:=(e5 i (off+j) e d he hd).1
       rwa[<-Nat.add_assoc]at this
   ·rename_i hsh
    obtain⟨⟨rfl,rfl⟩,e,he,c,hc,h⟩:=h
    refine⟨_,h,λN M w v hv hk=>?_⟩
    cases hv with
    |eptr _ _ _ _ _ a ha=>
     obtain⟨b,arr,t',e1,e2,e3,e4,e5⟩:=(hk id (by simp[AV.men]) _ hes).arrAt he
     obtain rfl:=(ha b _ e1).2 rfl
     have hil:i<es.length:=(List.getElem?_eq_some_iff.1 he).1
     have hel:e.length=sz':=e4 e (List.mem_of_getElem? he)
     have hol:off<e.length:=(List.getElem?_eq_some_iff.1 hc).1
     have hbd:(i+1) * sz'<=arr.size:=by exact Nat.le_trans (Nat.mul_le_mul_right _ hil) e3
     have hbd':i * sz'+sz'<=arr.size:=by rw[Nat.add_mul]at hbd;omega
     refine⟨arr.getD (i * sz'+off) undef,?_,.data _ _ (e5 i off e c he hc).1⟩
     simp only[Instr.loadAt,Instr.sureAddr,Sem.run_bind,Sem.run_pure,Result.andThen_ok,loadVar,run_isAgg' hT hsh,Bool.false_eq_true,if_false,run_load,dG e2,bi undef (show i * sz'+off<arr.size by omega)]
   ·exact h.elim
  ·exact h.elim
 ·exact h.elim
theorem oq{s:TypeId}{fs:List (Nat×TypeId)}{f o:Nat}{ft:TypeId}(hs:(T.at s).ty = .struct fs)(hf:fs[f]? = some (o,ft))(hk:T.known ft=true)(hz:0<(T.at ft).size)(a:Addr)(w:World) :
  (Instr.fieldAt s (.pointer (some a)) f).run P w = .ok (.pointer (some (a.add o))) w:=by
 obtain⟨fields,h1,h2⟩:=qN hT hs
 have h3:∃fd:Field,fields[f]? = some fd/\fd.offset=o/\fd.type=ft:=by
  grind
 obtain⟨fd,h4,h5,h6⟩:=h3
 simp[Instr.fieldAt,run_underlying h1,h4,Instr.sureAddr,fieldPlace,h6,run_sizeOf' hT (aZ hk),show ¬(T.at ft).size=0 by omega,h5]
theorem Uk{s:TypeId}{f:Nat}{x:AV}{K:Heap}{next:Next}(h:zM T s f x K next) :
  ∃r,next r K/\∀N M w v,aF N M w x v->∃u,(Instr.fieldAt s v f).run P w = .ok u w/\aF N M w r u:=by
 unfold zM at h
 split at h<;>try exact h.elim
 rename_i hs
 split at h<;>try exact h.elim
 rename_i o ft hf
 split at h<;>try exact h.elim
 rename_i hkz
 simp at hkz
 have hz:0<(T.at ft).size:=by simp_all
 split at h
 ·refine⟨_,h,λN M w v hv=>?_⟩
  cases hv with
  |ptr _ _ a ha=>exact⟨_,oq hT hs hf hkz.1 hz a w,.ptr _ _ _ λb e=>by rw[ha b e,addr_add]⟩
 ·refine⟨_,h,λN M w v hv=>?_⟩
  cases hv with
  |eptr _ _ _ _ _ a ha ha'=>exact⟨_,oq hT hs hf hkz.1 hz a w,.eptr _ _ _ _ _ _ (λb v e=>⟨(ha b v e).1,λhh=>by grind[addr_add]⟩) ha'⟩
 ·rename_i cs
  have key:∀N M w v,aF N M w (.data (.ptr cs)) v->∃b off,v = .pointer (some ⟨b,off,none⟩)/\∀ds:List D,(∀j d,ds[j]? = some d->cs[o+j]? = some d)->aF N M w (.data (.ptr ds)) (.pointer (some ⟨b,off+o,none⟩)):=by
   intro N M w v hv
   cases hv with
   |data _ _ hd=>
    cases hd with
    |ptr _ b off g h1 h2=>
     refine⟨b,off,rfl,λds hds=>.data _ _ (.ptr ds b (off+o) (λj=>g (o+j)) (λj d hd=>?_) λj d hd=>h2 _ d (hds j d hd))⟩
     grind
  split at h
  ·refine⟨_,h,λN M w v hv=>?_⟩
   obtain⟨b,off,rfl,k⟩:=key N M w v hv
   refine⟨_,oq hT hs hf hkz.1 hz _ w,?_⟩
   rw[addr_add]
   exact k _ λj d hd=>by
    simp only[List.getElem?_take,List.getElem?_drop]at hd
    split at hd<;>try exact hd
    simp at hd
  ·refine⟨_,h,λN M w v hv=>?_⟩
   obtain⟨b,off,rfl,k⟩:=key N M w v hv
   refine⟨_,oq hT hs hf hkz.1 hz _ w,?_⟩
   grind[addr_add]
  ·exact h.elim
 ·exact h.elim
omit hT in
def zcw:Result Value->String | .halt (.stuck s) _=>s |_=>default
omit hT in
def Ul(P:Program)(t:TypeId)(w:World):String:=zcw ((part t #[] 0).run P w)
theorem gI{t:TypeId}{g:Bool}(hg:T.sh t=some g)(cs:Array Value)(off:Nat)(w:World) :
  (part t cs off).run P w=if g then .ok (.agg (cs.extract off (off+(T.at t).size))) w else match cs[off]? with |some v=>.ok v w |none=>.halt (.stuck (Ul P t w)) w:=by
 unfold Ul part
 simp only[Sem.run_bind,run_isAgg' hT hg]
 cases g with
 |true=>simp[run_sizeOf' hT (show T.sh t≠none by rw[hg];simp)]
 |false=>split<;>simp_all[zcw]
theorem Q3{s:TypeId}{f:Nat}{x:AV}{K:Heap}{next:Next}(h:sS T s f x K next) :
  ∃r,next r K/\∀N M w v,aF N M w x v->∃u,(Instr.field s v f).run P w = .ok u w/\aF N M w r u:=by
 unfold sS at h
 split at h<;>try exact h.elim
 rename_i fs hs
 split at h<;>try exact h.elim
 rename_i o ft hf
 obtain⟨fields,h1,h2⟩:=qN hT hs
 have h3:∃fd:Field,fields[f]? = some fd/\fd.offset=o/\fd.type=ft:=by
  grind
 obtain⟨fd,h4,h5,h6⟩:=h3
 have hrun:∀(vs:Array Value) (w:World),(Instr.field s (.agg vs) f).run P w=(part ft vs o).run P w:=by
  intro vs w
  simp[Instr.field,run_underlying h1,h4,asAgg,h5,h6]
 split at h
 ·rename_i hsh
  split at h
  ·rename_i cs
   split at h
   ·rename_i hle
    refine⟨_,h,λN M w v hv=>?_⟩
    cases hv with
    |agg _ vs hl hh=>
     refine⟨_,by rw[hrun,gI hT hsh,if_pos rfl],uK (by simp;omega) λi c hc=>?_⟩
     simp only[List.getElem?_take,List.getElem?_drop]at hc
     split at hc
     ·rename_i hi
      have:=hh _ c hc
      simp at this ⊢
      grind
     ·simp at hc
   ·exact h.elim
  ·rename_i ds
   split at h<;>try exact h.elim
   rename_i hle
   refine⟨_,h,λN M w v hv=>?_⟩
   cases hv with
   |data _ _ hd=>
    cases hd with
    |agg _ vs hl hh=>
     refine⟨_,by rw[hrun,gI hT hsh,if_pos rfl],.data _ _ (.agg _ _ (by simp;omega) λi c hc=>?_)⟩
     simp only[List.getElem?_take,List.getElem?_drop]at hc
     split at hc
     ·rename_i hi
      have:=hh _ c hc
      simp at this ⊢
      grind
     ·simp at hc
  ·exact h.elim
 ·rename_i hsh
  split at h
  ·rename_i cs
   split at h
   ·rename_i c hc
    refine⟨_,h,λN M w v hv=>?_⟩
    cases hv with
    |agg _ vs hl hh=>
     have hlt:o<vs.size:=by grind
     exact⟨vs.getD o undef,by rw[hrun,gI hT hsh,if_neg (by simp),bi undef hlt],hh o c hc⟩
   ·exact h.elim
  ·rename_i ds
   split at h
   ·rename_i c hc
    refine⟨_,h,λN M w v hv=>?_⟩
    cases hv with
    |data _ _ hd=>
     cases hd with
     |agg _ vs hl hh=>
      have hlt:o<vs.size:=by grind
      exact⟨vs.getD o undef,by rw[hrun,gI hT hsh,if_neg (by simp),bi undef hlt],.data _ _ (hh o c hc)⟩
   ·exact h.elim
  ·exact h.elim
 ·exact h.elim
theorem run_indexAt_slice{t e:TypeId}(ht:(T.at t).ty = .slice e)(hk:T.known e=true)(a:Addr)(len cap:Nat)(k:IntKind)(n:Int)(h0:0<=n)(h1:n<len)(w:World) :
  (Instr.indexAt t (.slice (some a) len cap) (.int k n)).run P w = .ok (.pointer (some (a.add (n.toNat * (T.at e).size)))) w:=by
 simp[Instr.indexAt,asIntOf,run_underlying (aQ hT ht),h0,h1,run_sizeOf' hT (aZ hk)]
theorem uM{t:TypeId}{x i:AV}{K:Heap}{next:Next}(h:bn T t x i K next) :
  ∃r,next r K/\∀N M w v u,aF N M w x v->aF N M w i u->Hk N M w K x->∃z,(Instr.indexAt t v u).run P w = .ok z w/\aF N M w r z:=by
 unfold bn at h
 split at h
 ·rename_i e k n ht
  have key:∀(sz:Nat) (es:List (List D)) (c:List D) N M w v,T.known e=true->sz=(T.at e).size->0<=n->es[n.toNat]? = some c->DRel (Fb N M) w (.sl sz es) v ->
    ∃z,(Instr.indexAt t v (.int k n)).run P w = .ok z w/\aF N M w (.data (.ptr c)) z:=by
   intro sz es c N M w v hk hsz h0 hc hd
   have hlt:n.toNat<es.length:=(List.getElem?_eq_some_iff.1 hc).1
   cases hd with
   |sl0 _ a cap hm=>simp at hlt
   |sl _ _ b off cap n' g hn hcap hm hs h1 h2=>
    refine⟨_,run_indexAt_slice hT ht hk _ _ _ k n h0 (by omega) w,?_⟩
    rw[addr_add,<-hsz]
    exact .data _ _ (.ptr c b _ (g n.toNat) (λj d hd=>h1 _ j c d hc hd) λj d hd=>h2 _ j c d hc hd)
  split at h
  ·rename_i sz es
   obtain⟨⟨hk,hsz⟩,c,⟨h0,hc⟩,h⟩:=h
   refine⟨_,h,λN M w v u hv hu hh=>?_⟩
   rw[hu.int]
   cases hv with
   |data _ _ hd=>exact key sz es c N M w v hk hsz h0 hc hd
  ·rename_i id sz es
   obtain⟨⟨hk,hsz⟩,c,⟨h0,hc⟩,h⟩:=h
   refine⟨_,h,λN M w v u hv hu hh=>?_⟩
   rw[hu.int]
   cases hv with
   |gs _ _ _ a n cap hd h3 h4=>exact key sz es c N M w _ hk hsz h0 hc hd
  ·rename_i id vr sz off len
   split at h
   ·rename_i vr2 sz2 es2 hes
    obtain⟨⟨hk,hsz,rfl⟩,⟨h0,h1⟩,h⟩:=h
    refine⟨_,h,λN M w v u hv hu hh=>?_⟩
    rw[hu.int]
    cases hv with
    |own _ _ _ _ _ a cap ha ha'=>
     rcases hh id (by simp[AV.men]) _ hes with⟨b,arr,t',e1,e2,e3,e4,e5⟩ |⟨e1,_⟩
     ·obtain⟨p1,p2,p3,_⟩:=(ha b _ e1).2 rfl
      obtain rfl:=p3 (by omega)
      refine⟨_,run_indexAt_slice hT ht hk _ _ _ k n h0 (by omega) w,.eptr _ _ _ _ _ _ (λb' v' e'=>?_) λv' e'=>by rw[e1]at e';simp at e'⟩
      rw[e1]at e';simp only[Option.some.injEq,Own.vb.injEq]at e';obtain⟨rfl,rfl⟩:=e'
      refine⟨Nat.le_refl _,λ_=>?_⟩
      rw[addr_add,<-hsz,Nat.add_zero,Nat.add_mul]
     ·have:=(ha' _ e1).2 rfl;omega
   ·exact h.elim
  ·exact h.elim
 ·rename_i m e k n ht
  split at h
  ·rename_i id off
   obtain⟨hk,⟨h0,h1⟩,h⟩:=h
   refine⟨_,h,λN M w v u hv hu hh=>?_⟩
   rw[hu.int]
   cases hv with
   |ptr _ _ a ha=>
    refine⟨.pointer (some (a.add (n.toNat * (T.at e).size))),?_,.ptr _ _ _ λb e=>by rw[ha b e,addr_add]⟩
    simp[Instr.indexAt,asIntOf,run_underlying (nH hT ht),h0,h1,run_sizeOf' hT (aZ hk),Instr.sureAddr]
  ·rename_i id vr sz i off
   obtain⟨hk,⟨h0,h1⟩,h⟩:=h
   refine⟨_,h,λN M w v u hv hu hh=>?_⟩
   rw[hu.int]
   cases hv with
   |eptr _ _ _ _ _ a ha ha'=>
    refine⟨.pointer (some (a.add (n.toNat * (T.at e).size))),?_,.eptr _ _ _ _ _ _ (λb v e=>⟨(ha b v e).1,λhh=>by rw[(ha b v e).2 hh,addr_add,Nat.add_assoc]⟩) ha'⟩
    simp[Instr.indexAt,asIntOf,run_underlying (nH hT ht),h0,h1,run_sizeOf' hT (aZ hk),Instr.sureAddr]
  ·rename_i cs
   have key:∀N M w v,aF N M w (.data (.ptr cs)) v->∃b off,v = .pointer (some ⟨b,off,none⟩)/\∀ds:List D,(∀j d,ds[j]? = some d->cs[n.toNat * (T.at e).size+j]? = some d)->aF N M w (.data (.ptr ds)) (.pointer (some ⟨b,off+n.toNat * (T.at e).size,none⟩)):=by
    intro N M w v hv
    cases hv with
    |data _ _ hd=>
     cases hd with
     |ptr _ b off g h1 h2=>
      refine⟨b,off,rfl,λds hds=>.data _ _ (.ptr ds b _ (λj=>g (n.toNat * (T.at e).size+j)) (λj d hd=>?_) λj d hd=>h2 _ d (hds j d hd))⟩
      rw[Nat.add_assoc];exact h1 _ d (hds j d hd)
   have run:∀b off (w:World) (i:Int),i=n->(0<=n/\n<m)->T.known e=true->(Instr.indexAt t (.pointer (some ⟨b,off,none⟩)) (.int k i)).run P w = .ok (.pointer (some ⟨b,off+n.toNat * (T.at e).size,none⟩)) w:=by
    rintro b off w i rfl ⟨h0,h1⟩ hk
    have:=addr_add b off (i.toNat * (T.at e).size)
    simp[Instr.indexAt,asIntOf,run_underlying (nH hT ht),h0,h1,run_sizeOf' hT (aZ hk),Instr.sureAddr,this]
   split at h
   ·rename_i hsh
    obtain⟨h0,h⟩:=h
    refine⟨_,h,λN M w v u hv hu hh=>?_⟩
    obtain⟨b,off,rfl,k⟩:=key N M w v hv
    rw[hu.int]
    refine⟨_,run b off w n rfl h0 (by unfold Tbl.known;rw[hsh]),?_⟩
    exact k _ λj d hd=>by
     simp only[List.getElem?_take,List.getElem?_drop]at hd
     split at hd
     ·exact hd
     ·simp at hd
   ·rename_i hsh
    obtain⟨h0,h⟩:=h
    refine⟨_,h,λN M w v u hv hu hh=>?_⟩
    obtain⟨b,off,rfl,k⟩:=key N M w v hv
    rw[hu.int]
    refine⟨_,run b off w n rfl h0 (by unfold Tbl.known;rw[hsh]),?_⟩
    exact k _ λj d hd=>by simpa using hd
   ·exact h.elim
  ·exact h.elim
 ·exact h.elim
theorem Um{t:TypeId}{x i:AV}{K:Heap}{next:Next}(h:DU T t x i K next) :
  ∃r,next r K/\∀N M w v u,aF N M w x v->aF N M w i u->∃z,(Instr.index t v u).run P w = .ok z w/\aF N M w r z:=by
 unfold DU at h
 split at h
 ·rename_i k n ht
  split at h<;>try exact h.elim
  rename_i s
  obtain⟨c,⟨h0,hc⟩,h⟩:=h
  refine⟨_,h,λN M w v u hv hu=>?_⟩
  rw[hu.int,hv.str]
  refine⟨_,?_,.data _ _ (.val _)⟩
  have hlt:n.toNat<s.length:=(List.getElem?_eq_some_iff.1 hc).1
  rw[run_index_string _ _ _ _ _ (mM hT ht),dif_pos ⟨h0,by simp[ByteArray.size];omega⟩]
  have:(⟨s.toArray⟩:ByteArray)[n.toNat]'(by simp[ByteArray.size];omega)=c:=by
   show s.toArray[n.toNat]'(by simpa using hlt)=c
   simp_all
  rw[this]
 ·rename_i m e k n ht
  have key:∀(vs:Array Value) (n:Int) (c:AV) N M w (L:Nat),vs.size=L->0<=n->n.toNat<L->T.sh e=some false->(T.at e).size=1->L=m->aF N M w c (vs.getD n.toNat undef) ->
    ∃z,(Instr.index t (.agg vs) (.int k n)).run P w = .ok z w/\aF N M w c z:=by
   intro vs n c N M w L hl h0 hlt hsh hsz hm hc
   refine⟨_,?_,hc⟩
   have hu:=nH hT ht
   simp only[Instr.index,Sem.run_bind,asIntOf,Sem.run_pure,Result.andThen_ok,run_underlying hu]
   rw[if_pos ⟨h0,by omega⟩]
   simp only[Sem.run_bind,run_sizeOf' hT (show T.sh e≠none by rw[hsh];simp),Result.andThen_ok,hsz,Nat.mul_one,gI hT hsh,Bool.false_eq_true,if_false,bi undef (show n.toNat<vs.size by omega)]
  split at h
  ·rename_i ds
   obtain⟨hsh,hsz,hm,c,⟨h0,hc⟩,h⟩:=h
   refine⟨_,h,λN M w v u hv hu=>?_⟩
   rw[hu.int]
   cases hv with
   |data _ _ hd=>
    cases hd with
    |agg _ vs hl hh=>exact key vs n (.data c) N M w ds.length hl h0 (List.getElem?_eq_some_iff.1 hc).1 hsh hsz hm (.data _ _ (hh _ c hc))
  ·obtain⟨hsh,hsz,hm,c,⟨h0,hc⟩,h⟩:=h
   refine⟨_,h,λN M w v u hv hu=>?_⟩
   rw[hu.int]
   cases hv with
   |agg _ vs hl hh=>grind
  ·exact h.elim
 ·exact h.elim
omit hT in
theorem Lr(s:List UInt8):(⟨s.toArray⟩:ByteArray).size=s.length:=by simp[ByteArray.size]
omit hT in
theorem Q4(s:List UInt8)(a b:Nat):(⟨s.toArray⟩:ByteArray).extract a b=⟨((s.drop a).take (b-a)).toArray⟩:=by
 rw[Lib.extract_eq]
def Ad:Option Int->Option Value->Prop
 |none,none=>True
 |some n,some v=>∃k,v = .int k n
 |_,_=>False
def yR(l:Option Int):Nat:=(l.getD 0).toNat
def DY(h:Option Int)(n:Nat):Nat:=(h.getD n).toNat
omit hT in
theorem z3a{α:Type}{l h:Option Int}{xs:List α}(hi:sV l h xs.length):cut l h xs=(xs.take (DY h xs.length)).drop (yR l)/\yR l<=DY h xs.length/\DY h xs.length<=xs.length:=by
 unfold sV at hi
 cases l<;>cases h<;>simp[cut,yR,DY]at hi ⊢ <;> omega
omit hT in
theorem DZ{l h:Option Int}{lo hi:Option Value}(hl:Ad l lo)(hh:Ad h hi)(len cap:Nat)(isS:Bool)(hc:len<=cap)(hin:sV l h len)(w:World) :
  (Instr.sliceBounds isS len cap lo hi none).run P w = .ok (yR l,DY h len,cap) w:=by
 unfold sV at hin
 cases l<;>cases lo<;>simp only[Ad]at hl<;>cases h<;>cases hi<;>simp only[Ad]at hh
 ·simp[Instr.sliceBounds,yR,DY]
 ·obtain⟨k,rfl⟩:=hh
  simp only at hin
  rename_i hv
  simp[Instr.sliceBounds,yR,DY,Instr.sliceBound,asIntOf,hin.1,show hv<=(cap:Int)by omega]
 ·obtain⟨k,rfl⟩:=hl
  simp only at hin
  simp[Instr.sliceBounds,yR,DY,Instr.sliceBound,asIntOf,hin.1,hin.2]
 ·obtain⟨k,rfl⟩:=hl
  obtain⟨k',rfl⟩:=hh
  simp only at hin
  rename_i lv hv
  have e:(hv.toNat:Int)=hv:=Int.toNat_of_nonneg (by omega)
  simp[Instr.sliceBounds,yR,DY,Instr.sliceBound,asIntOf,e,show 0<=lv by omega,show lv<=hv by omega,show 0<=hv by omega,show hv<=(cap:Int)by omega]
theorem jc{t e:TypeId}(ht:(T.at t).ty = .slice e)(hk:T.known e=true){l h:Option Int}{lo hi:Option Value}(hl:Ad l lo)(hh:Ad h hi)(a:Option Addr)(len cap:Nat)(hc:len<=cap)(hin:sV l h len)(w:World) :
  (Instr.sliceAt t (.slice a len cap) lo hi none).run P w = .ok (.slice (if cap=yR l then a else a.map (·.add (yR l * (T.at e).size))) (DY h len-yR l) (cap-yR l)) w:=by
 have hu:=aQ hT ht
 simp[Instr.sliceAt,run_underlying hu,Instr.slice,DZ hl hh len cap true hc hin]
 simp[run_sizeOf' hT (aZ hk)]
theorem Un{t:TypeId}{x:AV}{lo hi mx:Option AV}{K:Heap}{next:Next}(h:DV T t x lo hi mx K next) :
  ∃r,next r K/\∃l hh,sU lo=some l/\sU hi=some hh/\mx=none/\∀N M w v vl vh,aF N M w x v->Hk N M w K x->Ad l vl->Ad hh vh->∃z,(Instr.sliceAt t v vl vh none).run P w = .ok z w/\aF N M w r z:=by
 unfold DV at h
 split at h<;>try exact h.elim
 split at h<;>try exact h.elim
 rename_i l hh hlo hhi
 have key:∀(e:TypeId) (sz:Nat) (es:List (List D)) N M w v vl vh,(T.at t).ty = .slice e->T.known e=true->sz=(T.at e).size->sV l hh es.length->DRel (Fb N M) w (.sl sz es) v->Ad l vl->Ad hh vh ->
   ∃z,(Instr.sliceAt t v vl vh none).run P w = .ok z w/\aF N M w (.data (.sl sz (cut l hh es))) z:=by
  intro e sz es N M w v vl vh ht hk hsz hin hd h1 h2
  obtain⟨c1,c2,c3⟩:=z3a hin
  rw[c1]
  cases hd with
  |sl0 _ a cap hm=>
   simp only[List.length_nil]at hin c2 c3
   refine⟨_,jc hT ht hk h1 h2 a 0 cap (Nat.zero_le _) hin w,?_⟩
   have e0:DY hh 0=0:=by omega
   have e1:yR l=0:=by omega
   rw[e0,e1]
   exact .data _ _ (by simpa using .sl0 sz _ cap hm)
  |sl _ _ b off cap n g hn hcap hm hs q1 q2=>
   subst hn
   refine⟨_,jc hT ht hk h1 h2 _ _ cap hcap hin w,?_⟩
   by_cases ec:cap=yR l
   ·rw[if_pos ec]
    have:((es.take (DY hh es.length)).drop (yR l)) = []:=by simp;omega
    rw[this]
    have:DY hh es.length-yR l=0:=by omega
    rw[this]
    exact .data _ _ (.sl0 _ _ _ (by omega))
   ·rw[if_neg ec]
    simp only[Option.map_some,addr_add,<-hsz]
    refine .data _ _ (.sl sz _ b _ _ _ (λi j=>g (yR l+i) j) (by simp;omega) (by omega) (by omega) (λe he=>hs e (List.mem_of_mem_take (List.mem_of_mem_drop he))) (λi j e d he hd=>?_) λi j e d he hd=>?_)<;>grind
 split at h
 ·rename_i s ht
  obtain⟨hin,h⟩:=h
  refine⟨_,h,l,hh,hlo,hhi,rfl,λN M w v vl vh hv hK h1 h2=>?_⟩
  rw[hv.str]
  obtain⟨c1,c2,c3⟩:=z3a hin
  refine⟨.string ⟨(cut l hh s).toArray⟩,?_,.data _ _ (.str _)⟩
  have hu:=mM hT ht
  simp only[Instr.sliceAt,Sem.run_bind,run_underlying hu,Result.andThen_ok,Instr.slice,Lr,Option.isSome_none,Bool.false_eq_true,if_false,DZ h1 h2 s.length s.length false (Nat.le_refl _) hin,Q4,c1]
  simp[List.drop_take]
 ·rename_i e sz es ht
  obtain⟨⟨hk,hsz⟩,hin,h⟩:=h
  refine⟨_,h,l,hh,hlo,hhi,rfl,λN M w v vl vh hv hK h1 h2=>?_⟩
  cases hv with
  |data _ _ hd=>simp_all
 ·rename_i e id sz es ht
  obtain⟨⟨hk,hsz⟩,hin,h⟩:=h
  refine⟨_,h,l,hh,hlo,hhi,rfl,λN M w v vl vh hv hK h1 h2=>?_⟩
  cases hv with
  |gs _ _ _ a n cap hd _ _=>simp_all
 ·rename_i e id vr sz off len ht
  split at h<;>try exact h.elim
  rename_i vr2 sz2 es2 hes
  obtain⟨⟨hk,hsz,rfl⟩,hin,h⟩:=h
  refine⟨_,h,l,hh,hlo,hhi,rfl,λN M w v vl vh hv hK h1 h2=>?_⟩
  have hbk:=hK id (by simp[AV.men]) _ hes
  cases hv with
  |own _ _ _ _ _ a cap ha ha'=>
   rcases hbk with⟨b,arr,t',e1,e2,e3,e4,e5⟩ |⟨e1,_⟩
   rotate_left
   ·obtain⟨rfl,rfl,rfl⟩:=(ha' _ e1).2 rfl
    have c2:yR l=0/\DY hh 0=0:=by
     unfold sV at hin
     grind[yR,DY]
    refine⟨_,jc hT ht hk h1 h2 a 0 0 (Nat.le_refl _) hin w,?_⟩
    refine .own _ _ _ _ _ _ _ (λb' v' e'=>by simp_all) λv' e'=>?_
    rw[e1]at e';simp only[Option.some.injEq,Own.nb.injEq]at e';subst e'
    refine⟨Nat.le_refl _,λ_=>⟨?_,?_,?_⟩⟩<;>grind[DY,yR]
   obtain⟨p1,p2,p3,arr',t2,p4,p5⟩:=(ha b _ e1).2 rfl
   have c2:yR l<=DY hh len/\DY hh len<=len:=by
    unfold sV at hin
    grind[yR,DY]
   refine⟨_,jc hT ht hk h1 h2 a len cap p1 hin w,?_⟩
   refine .own _ _ _ _ _ _ _ (λb' v' e'=>?_) λv' e'=>by simp_all
   rw[e1]at e';simp only[Option.some.injEq,Own.vb.injEq]at e';obtain⟨rfl,rfl⟩:=e'
   refine⟨Nat.le_refl _,λ_=>⟨by grind[DY,yR],by omega,λhc=>?_,arr',t2,p4,?_⟩⟩
   ·rw[if_neg (by omega),p3 (by omega)]
    simp only[Option.map_some,addr_add,<-hsz,Nat.add_mul,yR]
   grind[yR]
 ·exact h.elim
theorem z6e{t:TypeId}{x:AV}{K:Heap}{next:Next}(h:z5v T t x K next) :
  ∃r,next r K/\∀N M w v ts ty,aF N M w x v->Hk N M w K x->ts[0]? = some t->∃z,(Builtin.len_ ts ty #[v]).run P w = .ok z w/\aF N M w r z:=by
 unfold z5v at h
 split at h
 ·rename_i s ht
  refine⟨_,h,λN M w v ts ty hv hk hts=>⟨_,?_,.data _ _ (.val _)⟩⟩
  rw[hv.str]
  simp[Builtin.len_,hts,run_underlying (mM hT ht),goInt,Lr]
 ·rename_i e sz es ht
  refine⟨_,h,λN M w v ts ty hv hk hts=>⟨_,?_,.data _ _ (.val _)⟩⟩
  cases hv with
  |data _ _ hd=>
   cases hd with
   |sl0 _ a cap hm=>simp[Builtin.len_,hts,run_underlying (aQ hT ht),goInt]
   |sl _ _ b off cap n g hn=>subst hn;simp[Builtin.len_,hts,run_underlying (aQ hT ht),goInt]
 ·rename_i e id sz es ht
  refine⟨_,h,λN M w v ts ty hv hk hts=>⟨_,?_,.data _ _ (.val _)⟩⟩
  cases hv with
  |gs _ _ _ a n cap hd=>
   cases hd with
   |sl0 _ a cap hm=>simp[Builtin.len_,hts,run_underlying (aQ hT ht),goInt]
   |sl _ _ b off cap n g hn=>subst hn;simp[Builtin.len_,hts,run_underlying (aQ hT ht),goInt]
 ·rename_i e sz ht
  refine⟨_,h,λN M w v ts ty hv hk hts=>⟨_,?_,.data _ _ (.val _)⟩⟩
  cases hv
  simp[Builtin.len_,hts,run_underlying (aQ hT ht),goInt]
 ·rename_i e id sz off n ht
  refine⟨_,h,λN M w v ts ty hv hk hts=>⟨_,?_,.data _ _ (.val _)⟩⟩
  cases hv
  simp[Builtin.len_,hts,run_underlying (aQ hT ht),goInt]
 ·rename_i k e id ht
  split at h
  ·rename_i es hes
   refine⟨_,h,λN M w v ts ty hv hk hts=>⟨_,?_,.data _ _ (.val _)⟩⟩
   cases hv with
   |map _ r hr=>
    obtain⟨b,mes,clock,e1,e2,e3,e4⟩:=hk id (by simp[AV.men]) _ hes
    obtain rfl:=hr b e1
    simp[Builtin.len_,hts,run_underlying (Uj hT ht),goInt,getObj,Sem.run,e2,e3]
  ·exact h.elim
 ·rename_i k e ht
  refine⟨_,h,λN M w v ts ty hv hk hts=>⟨_,?_,.data _ _ (.val _)⟩⟩
  cases hv with
  |data _ _ hd=>cases hd;simp[Builtin.len_,hts,run_underlying (Uj hT ht),goInt]
 ·exact h.elim
end
theorem Uo{P:Program}{op:BinOp}{k:IntKind}{a b:Int}{r:AV}(h:arith op k a b=some r)(t:TypeId)(w:World):∃z,(binOp op t (.int k a) (.int k b)).run P w = .ok z w/\∀N M,aF N M w r z:=by
 unfold arith at h
 cases op<;>simp at h<;>subst h<;>simp[binOp,Op.intArith,Op.intCmp]<;>exact λN M=>.data _ _ (.val _)
theorem z6f{P:Program}{op:BinOp}{x y:AV}{K:Heap}{next:Next}(h:z2y op x y K next) :
  ∃r,next r K/\∀N M w v u t xo yo,aF N M w x v->aF N M w y u->∃z,(do eqGuard op t xo yo v u;binOp op t v u:Sem Value).run P w = .ok z w/\aF N M w r z:=by
 unfold z2y at h
 split at h
 ·rename_i k a k' b
  have key:∀(z:Value) (w:World),(∀t,(binOp op t (.int k a) (.int k' b)).run P w = .ok z w)->∀N M v u t xo yo,aF N M w (.data (.val (.int k a))) v->aF N M w (.data (.val (.int k' b))) u ->
    (do eqGuard op t xo yo v u;binOp op t v u:Sem Value).run P w = .ok z w:=by
   intro z w hz N M v u t xo yo hv hu
   rw[hv.int,hu.int]
   simp[eqGuard_at_int,hz]
  split at h
  ·obtain⟨h0,h⟩:=h
   refine⟨_,h,λN M w v u t xo yo hv hu=>⟨_,key _ w (λt=>?_) N M v u t xo yo hv hu,.data _ _ (.val _)⟩⟩
   simp[binOp,Op.shift,show ¬b<0 by omega]
  ·obtain⟨h0,h⟩:=h
   refine⟨_,h,λN M w v u t xo yo hv hu=>⟨_,key _ w (λt=>?_) N M v u t xo yo hv hu,.data _ _ (.val _)⟩⟩
   simp[binOp,Op.shift,show ¬b<0 by omega]
  ·split at h<;>try exact h.elim
   rename_i hkk
   have hkk:k=k':=by simpa using hkk
   subst hkk
   split at h
   ·obtain⟨h0,h⟩:=h
    refine⟨_,h,λN M w v u t xo yo hv hu=>⟨_,key _ w (λt=>?_) N M v u t xo yo hv hu,.data _ _ (.val _)⟩⟩
    simp[binOp,Op.intDiv,h0]
   ·obtain⟨h0,h⟩:=h
    refine⟨_,h,λN M w v u t xo yo hv hu=>⟨_,key _ w (λt=>?_) N M v u t xo yo hv hu,.data _ _ (.val _)⟩⟩
    simp[binOp,Op.intDiv,h0]
   ·split at h<;>try exact h.elim
    rename_i r hr
    refine⟨_,h,λN M w v u t xo yo hv hu=>?_⟩
    obtain⟨z,hz,hrel⟩:=Uo (P:=P) hr t w
    refine⟨z,?_,hrel N M⟩
    rw[hv.int,hu.int]
    simp[eqGuard_at_int,hz]
 ·rename_i a b
  have key:∀N M w v u t xo yo,aF N M w (.data (.str a)) v->aF N M w (.data (.str b)) u ->
    (do eqGuard op t xo yo v u;binOp op t v u:Sem Value).run P w=(Op.stringOp op ⟨a.toArray⟩ ⟨b.toArray⟩).run P w:=by
   intro N M w v u t xo yo hv hu
   rw[hv.str,hu.str]
   grind[eqGuard_at_string,binOp]
  split at h
  ·exact⟨_,h,λN M w v u t xo yo hv hu=>⟨_,by rw[key N M w v u t xo yo hv hu];simp[Op.stringOp],.data _ _ (.val _)⟩⟩
  ·exact⟨_,h,λN M w v u t xo yo hv hu=>⟨_,by rw[key N M w v u t xo yo hv hu];simp[Op.stringOp],.data _ _ (.val _)⟩⟩
  ·obtain⟨h0,h⟩:=h
   refine⟨_,h,λN M w v u t xo yo hv hu=>⟨.string ⟨(a++b).toArray⟩,?_,.data _ _ (.str _)⟩⟩
   rw[key N M w v u t xo yo hv hu]
   have e:(⟨a.toArray⟩:ByteArray)++⟨b.toArray⟩=⟨(a++b).toArray⟩:=by
    rfl
   simp only[Op.stringOp,Lr,e]
   simp_all
  ·exact h.elim
 ·exact h.elim
theorem zcx{P:Program}{op:UnOp}{x:AV}{K:Heap}{next:Next}(h:vUn op x K next) :
  ∃r,next r K/\∀N M w v,aF N M w x v->∃z,(Op.unary op v).run P w = .ok z w/\aF N M w r z:=by
 unfold vUn at h
 split at h
 ·exact⟨_,h,λN M w v hv=>⟨_,by rw[hv.bool];simp[Op.unary],.data _ _ (.val _)⟩⟩
 ·exact⟨_,h,λN M w v hv=>⟨_,by rw[hv.int];rfl,.data _ _ (.val _)⟩⟩
 ·exact h.elim
theorem Q5{P:Program}(mx:Bool){k:IntKind}:∀(xs:List AV) (a:Int) (r:AV) (vs:List Value) (N:aS) (M:Mem) (w:World),zO mx k a xs=some r->vs.length=xs.length->(∀(i:Nat) x,xs[i]? = some x->aF N M w x (vs.getD i undef)) ->
  ∃z,(vs.foldlM (match mx with |true=>Builtin.max2 |false=>Builtin.min2) (.int k a)).run P w = .ok z w/\aF N M w r z:=by
 intro xs
 induction xs with
 |nil=>
  intro a r vs N M w h hl hr
  simp[zO]at h;subst h
  have:vs = []:=by simp_all
  subst this
  exact⟨_,by simp,.data _ _ (.val _)⟩
 |cons x xs ih=>
  intro a r vs N M w h hl hr
  cases vs with
  |nil=>simp at hl
  |cons v vs=>
   have hx:=hr 0 x (by simp)
   simp at hx
   unfold zO at h
   split at h
   ·simp_all
   ·rename_i b r' heq
    obtain⟨rfl,rfl⟩:=heq
    rw[hx.int]
    obtain⟨z,hz,hzr⟩:=ih _ r vs N M w h (by simpa using hl) λi x hx'=>by have:=hr (i+1) x (by simpa using hx');simpa using this
    refine⟨z,?_,hzr⟩
    rw[<-hz]
    cases mx<;>simp[Builtin.max2,Builtin.min2,mm2]
   ·simp at h
theorem Ur{P:Program}{mx:Bool}{xs:List AV}{r:AV}(h:zci mx xs=some r):∀(vs:Array Value) N M w ts ty,vs.size=xs.length->(∀(i:Nat) x,xs[i]? = some x->aF N M w x (vs.getD i undef)) ->
  ∃z,((match mx with |true=>Builtin.max_ |false=>Builtin.min_) ts ty vs).run P w = .ok z w/\aF N M w r z:=by
 intro vs N M w ts ty hl hr
 unfold zci at h
 split at h<;>try(simp at h)
 rename_i k a xs
 obtain⟨l⟩:=vs
 cases l with
 |nil=>simp at hl
 |cons v l=>
  have hx:=hr 0 (.data (.val (.int k a))) (by simp)
  have hv:v = .int k a:=by simpa using hx.int
  subst hv
  obtain⟨z,hz,hzr⟩:=Q5 (P:=P) mx xs a r l N M w h (by simpa using hl) λi x hx'=>by have:=hr (i+1) x (by simpa using hx');simpa using this
  refine⟨z,?_,hzr⟩
  rw[<-hz]
  cases mx<;>simp[Builtin.max_,Builtin.min_]
variable [ae] {t : TypeId} {w : World} {arr : Array Value}
theorem Step.drew(M:Mem)(w:World):Step M w M w.drew []:=
 ⟨rfl,rfl,rfl,Nat.le_refl _,λ_ _ _=>rfl,λ_ _ _ _ h=>h,λb arr t h=>⟨arr,h,rfl⟩,λ_ _=>rfl,λ_ h=>by simp at h,λ_ h=>by simp at h⟩
theorem Step.trans0{M:Mem}{w w' w'':World}{M'':Mem}{W:List Nat}(h:Step M w M w' [])(k:Step M w' M'' w'' W):Step M w M'' w'' W:=by
 refine⟨k.os.trans h.os,k.tape.trans h.tape,k.output.trans h.output,Nat.le_trans h.size k.size,?_,?_,?_,k.mem,?_,k.disj⟩
 ·intro b hb hW
  rw[k.block b (Nat.lt_of_lt_of_le hb h.size) hW,h.block b hb (by simp)]
 ·intro b o u hW hc
  exact k.cell b o u hW (h.cell b o u (by simp) hc)
 ·intro b arr t hr
  obtain⟨a1,h1,h2⟩:=h.shape b arr t hr
  obtain⟨a2,h3,h4⟩:=k.shape b a1 t h1
  grind
 ·intro id hid ow' b o e1 e2
  obtain⟨q1,q2⟩:=k.own id hid ow' b o e1 e2
  refine⟨q1,?_⟩
  rcases q2 with q2 |q2
  ·exact .inl (Nat.le_trans h.size q2)
  ·exact .inr q2
def Mem.set(M:Mem)(d:Nat)(o:Option Own):Mem:=λid=>if id=d then o else M id
theorem Mem.set_same(M:Mem)(d:Nat)(o:Option Own):M.set d o d=o:=by simp[Mem.set]
theorem Mem.set_other(M:Mem)(d id:Nat)(o:Option Own)(h:id≠d):M.set d o id=M id:=by simp[Mem.set,h]
theorem Step.alloc(M:Mem)(w:World)(d:Nat)(o:Obj)(ow:Own)(how:∀b x,ow.has b x->b=w.heap.size):Step M w (M.set d (some ow)) (w.alloc o) [d]:=by
 refine⟨rfl,rfl,rfl,by simp,?_,?_,?_,?_,?_,?_⟩
 ·grind[RowKit.Below.heap_alloc]
 ·grind[World.cell?_alloc_lt,block_lt]
 ·intro b arr t hr
  exact⟨arr,by grind[RowKit.Below.heap_alloc],rfl⟩
 ·grind[Mem.set_other]
 ·intro id hid ow' b x e1 e2
  simp at hid;subst hid
  rw[Mem.set_same]at e1;simp at e1;subst e1
  have:=how b x e2
  simp_all
 simp
theorem Step.alloc0(M:Mem)(w:World)(o:Obj):Step M w M (w.alloc o) []:=by
 refine⟨rfl,rfl,rfl,by simp,?_,?_,?_,λ_ _=>rfl,by simp,by simp⟩
 ·grind[RowKit.Below.heap_alloc]
 ·grind[World.cell?_alloc_lt,block_lt]
 ·intro b arr t hr
  exact⟨arr,by grind[RowKit.Below.heap_alloc],rfl⟩
theorem pV(w:World)(arr:Array Value)(t:TypeId):dJ (w.alloc (.cells arr t)) w.heap.size arr t:=by
 show(w.heap.push _)[w.heap.size]? = _
 simp
def World.rewrite(w:World)(b:Nat)(arr:Array Value)(t:TypeId):World:={ w with heap:=w.heap.setIfInBounds b (.cells arr t (0,0)) }
theorem dP{b:Nat}(h:b<w.heap.size):dJ (World.rewrite w b arr t) b arr t:=by
 show(w.heap.setIfInBounds b _)[b]? = _
 simp[h]
theorem uN{b k:Nat}(h:k≠b):(World.rewrite w b arr t).heap[k]? = w.heap[k]?:=by
 show(w.heap.setIfInBounds b _)[k]? = _
 grind
theorem uO{b k o:Nat}(h:k≠b):(World.rewrite w b arr t).cell? ⟨k,o,none⟩=w.cell? ⟨k,o,none⟩:=by
 grind[World.cell?,uN]
theorem dY{P:Program}:∀(vs:List Value) (w:World) (b off i:Nat) (arr:Array Value) (t:TypeId),dJ w b arr t->off+i+vs.length<=arr.size->(∀v∈vs,v.oneCell'=true) ->
  ∃arr',(storeCells ⟨b,off,none⟩ vs i).run P w = .ok () (World.rewrite w b arr' t)/\arr'.size=arr.size/\∀j,arr'.getD j undef=if off+i<=j/\j<off+i+vs.length then vs.getD (j-(off+i)) undef else arr.getD j undef:=by
 intro vs
 induction vs with
 |nil=>
  intro w b off i arr t hr hl hv
  refine⟨arr,?_,rfl,λj=>by grind⟩
  have:World.rewrite w b arr t=w:=by
   have:w.heap.setIfInBounds b (.cells arr t (0,0))=w.heap:=by
    grind
   simp only[World.rewrite,this]
  rw[this];rfl
 |cons v vs ih=>
  intro w b off i arr t hr hl hv
  simp at hl
  have hb:b<w.heap.size:=(Array.getElem?_eq_some_iff.1 hr).1
  have hrun:(store ((⟨b,off,none⟩:Addr).add i) v).run P w = .ok () (World.rewrite w b (arr.setIfInBounds (off+i) v) t):=by
   rw[run_store _ _ _ _ _ (hv v (by simp)),addr_add,dG hr,bi undef (show off+i<arr.size by omega)]
   have hf:w.frozen? ⟨b,off+i,none⟩=false:=by
    grind[World.frozen?]
   simp only[hf,Bool.false_eq_true,if_false]
   congr 1
   simp only[World.setCell,World.rewrite]
   congr 1
   grind
  obtain⟨arr',h1,h2,h3⟩:=ih (World.rewrite w b (arr.setIfInBounds (off+i) v) t) b off (i+1) _ t (dP hb) (by simp;omega) λx hx=>hv x (by simp[hx])
  refine⟨arr',?_,by simpa using h2,λj=>?_⟩
  ·simp only[storeCells,Sem.run_bind,hrun,Result.andThen_ok,h1]
   congr 1
   simp only[World.rewrite]
   simp
  ·rw[h3 j]
   by_cases hj:off+(i+1)<=j/\j<off+(i+1)+vs.length
   ·grind
   ·rw[if_neg hj,gm _ _ _ _ (by omega)]
    grind
theorem Step.rewrite{M:Mem}{id b:Nat}{arr arr':Array Value}{ow:Own}{M':Mem}(hr:dJ w b arr t)(hM:M id=some ow)(hs:arr'.size=arr.size)
  (hcell:∀j,¬ow.has b j->arr'.getD j undef=arr.getD j undef) (hown:∃j,ow.has b j) (hM':∀id',id'≠id->M' id'=M id') (how:∀ow' b' o,M' id=some ow'->ow'.has b' o->ow.has b' o/\b'=b) :
  Step M w M' (World.rewrite w b arr' t) [id]:=by
 have hb:b<w.heap.size:=(Array.getElem?_eq_some_iff.1 hr).1
 refine⟨rfl,rfl,rfl,by simp[World.rewrite],?_,?_,?_,λid' h=>hM' id' (by simpa using h),?_,?_⟩
 ·grind[uN]
 ·intro k o u hW hc
  by_cases hkb:k=b
  ·subst hkb
   rw[dG hr]at hc
   rw[dG (dP hb)]
   have hlt:o<arr.size:=(Array.getElem?_eq_some_iff.1 hc).1
   rw[bi undef (show o<arr'.size by omega),hcell o (hW id (by simp) ow hM),<-bi undef hlt];exact hc
  grind[uO]
 ·intro k a2 t2 h2
  by_cases hkb:k=b
  ·grind[dP]
  ·exact⟨a2,by grind[World.rewrite],rfl⟩
 ·grind[World.rewrite]
 simp
theorem kE{P:Program}{T:Tbl}(hT:iQ P T)(hk:T.known t=true)(hz:(T.at t).zero ≠ [])(w:World) :
  ∃z,(zeroValue t).run P w = .ok z w/\z.cells.size=(T.at t).zero.length/\∀N M w' (i:Nat) c,(T.at t).zero[i]? = some c->aF N M w' c (z.cells.getD i undef)/\(z.cells.getD i undef).oneCell'=true:=by
 obtain⟨i,h1,h2,h3,h4⟩:=(hT t).info (aZ hk)
 obtain⟨z,h5,h6,h7⟩:=h4 hz
 refine⟨z,by simp[zeroValue,typeInfo,h1,h5],by grind[Array.length_toList],λN M w' i c hc=>?_⟩
 have e:z.cells.getD i undef=zv c:=by
  have:z.cells.toList[i]? = some (zv c):=by simp_all
  rw[Array.getElem?_toList]at this
  simp[this]
 rw[e]
 have hall:=List.all_eq_true.1 h7 c (List.mem_of_getElem? hc)
 split at hall
 ·rename_i v
  refine⟨.data _ _ (.val _),?_⟩
  cases v<;>simp[pM]at hall<;>rfl
 ·exact⟨.data _ _ (.str _),rfl⟩
 ·exact⟨.nilsl _,rfl⟩
 ·simp at hall
theorem gJ{N:aS}{M:Mem}{x:AV}{v:Value}(h:aF N M w x v)(hs:x.scalar=true):v.oneCell'=true:=by
 cases h with
 |data d v h=>
  cases h<;>simp[AV.scalar,D.scalar]at hs<;>first
   |rfl
   |(cases v<;>simp[pM]at hs<;>rfl)
 |nilsl sz=>rfl
 |gs=>rfl
 |own=>rfl
 |ptr=>rfl
 |eptr=>rfl
 |map=>rfl
 |fn=>rfl
 |bnd=>rfl
 |yld=>rfl
 |iface=>rfl
 |agg=>simp[AV.scalar]at hs
 |tuple=>simp[AV.scalar]at hs
 |dfr=>simp[AV.scalar]at hs
 |top=>simp[AV.scalar]at hs
end Go.Fw
