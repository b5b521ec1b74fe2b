/- Contracts of the library at this program: strconv.Itoa, strconv.Atoi, strings.Join, strings.HasPrefix, strings.IndexByte. -/
import Derived.Lib.Join
import Derived.Lib.IndexLaws
import Derived.Test.YtmfehangcmbidaaGreatDoorZK6
import Derived.Test.YtmfehangcmbidaaGreatDoorZE
import Derived.Test.YtmfehangcmbidaaGreatDoorZLL
set_option linter.unusedSectionVars false
set_option linter.unusedSimpArgs false
set_option linter.unusedVariables false
namespace Go.Fw
open Go.Shelf Go.Proofs Go.RowKit Go.Sort
variable [ae]
theorem qx{w w':World}(h:Below w.heap.size w w'):Step xK w xK w' []:=by
 refine⟨h.os,h.tape,h.output,h.size,λb hb _=>h.block b hb,λb o u _ hc=>?_,λb arr t hr=>⟨arr,?_,rfl⟩,λ_ _=>rfl,by simp,by simp⟩
 ·have hb:=block_lt hc
  simp only[World.cell?]at hc ⊢
  rw[h.block b hb];exact hc
 ·have hb:b<w.heap.size:=(Array.getElem?_eq_some_iff.1 hr).1
  show w'.heap[b]? = _
  rw[h.block b hb];exact hr
theorem tH{F:aK}{w:World}{s:List UInt8}{v:Value}(h:DRel F w (.str s) v):v = .string ⟨s.toArray⟩:=by cases h;rfl
theorem SS{F:aK}{w:World}{x v:Value}(h:DRel F w (.val x) v):v=x:=by cases h;rfl
theorem args1'{args:Array Value}{a:Value}(hl:args.size=1)(h0:args.getD 0 undef=a):args = #[a]:=by
 obtain⟨l⟩:=args
 match l,hl with
 | [x],_=>simp at h0;subst h0;rfl
theorem args2'{args:Array Value}{a b:Value}(hl:args.size=2)(h0:args.getD 0 undef=a)(h1:args.getD 1 undef=b):args = #[a,b]:=by
 obtain⟨l⟩:=args
 match l,hl with
 | [x,y],_=>simp at h0 h1;subst h0;subst h1;rfl
theorem below_grow(w:World)(k:Nat)(os:Array Obj):Below w.heap.size w (grow (w.drewN k) os):=by
 refine⟨rfl,rfl,rfl,?_,λj hj=>?_⟩
 ·show w.heap.size<=(w.heap++os).size
  simp
 ·show(w.heap++os)[j]? = _
  rw[Array.getElem?_append_left hj]
end Go.Fw
namespace Go.Proofs.YtmfehangcmbidaaGreatDoor
open Go.Fw Go.Shelf Go.Proofs Go.RowKit Go.Sort
set_option maxRecDepth 10000
variable [ae]
theorem uU(n:Int)(h0:-9223372036854775808<=n)(h1:n<=9223372036854775807):aj Tryz.prog 44 [.i n] (.ret (.str (Lib.itoa n))):=by
 refine .inl ⟨⟨_,Tryz.func44,by kernel_rfl,by kernel_rfl⟩,λN w args m hl hr=>?_⟩
 rw[args1' hl (SS (hr 0 _ rfl))]
 have htab:Lib.TabIs Tryz.prog w "internal/strconv.uint64pow10" .u64 Lib.pow10Tab:=by
  obtain⟨t,fr,hh⟩:=(m.glob 3 _ rfl).2.1
  have hg:Tryz.prog.globalNamed "internal/strconv.uint64pow10" = some 3:=by kernel_rfl
  simp only[Lib.TabIs,World.var?,hg,Option.bind_some,hh]
 refine(Tryz.strconv_Itoa n h0 h1 w htab).mono λe w'=>?_
 rintro⟨rfl,k,os,rfl⟩
 exact⟨qx (below_grow w k os),_,rfl,.str _⟩
theorem zZ(s p:List UInt8):aj Tryz.prog 18 [.str s,.str p] (.ret (.b (Lib.hasPrefix s p))):=by
 refine .inl ⟨⟨_,Tryz.func18,by kernel_rfl,by kernel_rfl⟩,λN w args m hl hr=>?_⟩
 rw[args2' hl (tH (hr 0 _ rfl)) (tH (hr 1 _ rfl))]
 refine(Tryz.strings_HasPrefix ⟨s.toArray⟩ ⟨p.toArray⟩ w).mono λe w'=>?_
 rintro⟨rfl,rfl⟩
 exact⟨Step.refl _ _,_,rfl,.val _⟩
theorem l9(s:List UInt8)(c:UInt8):aj Tryz.prog 88 [.str s,.val (.int .u8 c.toNat)] (.ret (.i (Lib.indexByte s c))):=by
 refine .inl ⟨⟨_,Tryz.func88,by kernel_rfl,by kernel_rfl⟩,λN w args m hl hr=>?_⟩
 rw[args2' hl (tH (hr 0 _ rfl)) (SS (hr 1 _ rfl))]
 refine(Tryz.strings_IndexByte ⟨s.toArray⟩ c.toNat w).mono λe w'=>?_
 rintro⟨rfl,rfl⟩
 refine⟨Step.refl _ _,_,rfl,?_⟩
 simp only[Int.toNat_natCast,UInt8.ofNat_toNat,Nat.toUInt8_eq]
 exact .val _
theorem JC(s:List UInt8)(v:Int)(hs:s.length<=9223372036854775806)(h:Lib.atoiAll s = .ok v):aj Tryz.prog 87 [.str s] (.ret (.tuple [.i v,.val .nilIface])):=by
 refine .inl ⟨⟨_,Tryz.func87,by kernel_rfl,by kernel_rfl⟩,λN w args m hl hr=>?_⟩
 rw[args1' hl (tH (hr 0 _ rfl))]
 refine(Tryz.strconv_Atoi_ok ⟨s.toArray⟩ hs v h w).mono λe w'=>?_
 rintro⟨rfl,hw⟩
 refine⟨?_,_,rfl,.tuple _ _ (by simp) λi d hd=>?_⟩
 ·rcases hw with rfl |⟨t,rfl⟩
  ·exact Step.refl _ _
  ·exact qx (Lib.bytesWorld_below w _ t)
 ·match i with
  | 0=>simp at hd;subst hd;exact .val _
  | 1=>simp at hd;subst hd;exact .val _
  |i+2=>simp at hd
theorem OV(s:List UInt8)(hs:s.length<=281474976710656)(h:Lib.atoiAll s = .range):aj Tryz.prog 87 [.str s] (.ret (.tuple [.i (Lib.atoiSat s),.iface 189 (.ptr [])])):=by
 refine .inl ⟨⟨_,Tryz.func87,by kernel_rfl,by kernel_rfl⟩,λN w args m hl hr=>?_⟩
 rw[args1' hl (tH (hr 0 _ rfl))]
 have hc:=((m.glob 1 _ rfl).2.2 0 _ rfl).2.1
 refine(Tryz.strconv_Atoi_range ⟨s.toArray⟩ hs h _ w hc (.inr ⟨_,_,rfl⟩)).mono λe w'=>?_
 rintro⟨b,rfl,_,_,hw⟩
 refine⟨qx hw,_,rfl,.tuple _ _ (by simp) λi d hd=>?_⟩
 match i with
 | 0=>simp at hd;subst hd;exact .val _
 | 1=>simp at hd;subst hd;exact .iface _ _ _ (.ptr _ b 0 (λ_=>undef) (by simp) (by simp))
 |i+2=>simp at hd
theorem SV(ss:List Str)(sep:Str)(h1:ss.length<=1073741824)(h2:(Lib.join ss sep).length<=140737488355328):aj Tryz.prog 45 [.sl 1 (ss.map λs=>[D.str s]),.str sep] (.ret (.str (Lib.join ss sep))):=by
 refine .inl ⟨⟨_,Tryz.func45,by kernel_rfl,by kernel_rfl⟩,λN w args m hl hr=>?_⟩
 have a0:=hr 0 _ rfl
 rw[args2' hl rfl (tH (hr 1 _ rfl))]
 generalize args.getD 0 undef=v at a0
 generalize hes:(ss.map λs=>[D.str s])=es at a0
 cases a0 with
 |sl0 _ a cap hm=>
  have:ss = []:=by cases ss with |nil=>rfl |cons b r=>simp at hes
  subst this
  refine(Tryz.strings_Join_none a cap ⟨sep.toArray⟩ w).mono λe w'=>?_
  rintro⟨rfl,rfl⟩
  exact⟨Step.refl _ _,_,rfl,.str _⟩
 |sl _ _ b off cap n g hn hcap hm hs q1 q2=>
  subst hn
  have hl':es.length=ss.length:=by rw[<-hes];simp
  have hx:(ss.map λs=>(⟨s.toArray⟩:ByteArray)).map (·.data.toList)=ss:=by rw[List.map_map];exact List.map_id _
  have hcell:∀(j:Nat) s,ss[j]? = some s->w.cell? ⟨b,off+j,none⟩=some (.string ⟨s.toArray⟩):=by
   intro j s hj
   have he:es[j]? = some [D.str s]:=by rw[<-hes];simp[hj]
   have a1:=(q1 j 0 _ _ he rfl).2.1
   have a2:=q2 j 0 _ _ he rfl
   rw[tH a2]at a1
   simpa using a1
  have hbl:b<w.heap.size\/ss = []:=by
   cases ss with
   |nil=>exact .inr rfl
   |cons s r=>exact .inl (block_lt (hcell 0 s rfl))
  rcases hbl with hb |rfl
  ·have:=Tryz.strings_Join b off cap (ss.map λs=>(⟨s.toArray⟩:ByteArray)) ⟨sep.toArray⟩ w (λj x hj=>by
    simp only[List.getElem?_map,Option.map_eq_some_iff]at hj
    obtain⟨s,hs,rfl⟩:=hj
    exact hcell j s hs) hb (by simp only[List.length_map];omega) (by simp only[List.length_map];omega) (by rw[hx];exact h2)
   rw[hx,List.length_map]at this
   rw[hl']
   refine this.mono λe w'=>?_
   rintro⟨rfl,hw⟩
   exact⟨qx hw,_,rfl,.str _⟩
  ·rw[hl']
   refine(Tryz.strings_Join_none _ cap ⟨sep.toArray⟩ w).mono λe w'=>?_
   rintro⟨rfl,rfl⟩
   exact⟨Step.refl _ _,_,rfl,.str _⟩
end Go.Proofs.YtmfehangcmbidaaGreatDoor
namespace Go.Fw.Lx
variable [ae]
structure Tk where
 kind:Int
 text:Str
 n:Int
 pos:Int
abbrev Tk.cs(t:Tk):List D:=[.i t.kind,.str t.text,.i t.n,.i t.pos]
abbrev Tk.d(t:Tk):D:=.agg [.i t.kind,.str t.text,.i t.n,.i t.pos]
abbrev iC(n:Int):List D:=[.i n]
abbrev toks(l:List Tk):D:=.sl 4 (l.map Tk.cs)
def signs:Str:=[123,125,40,41,59,44,61,58,46,60,62,33,43,45,42,47]
def cls(c:UInt8):Int:=
 if Ref03.letter c then 2 else if Ref03.figure c then 3 else if(c.toNat:Int)==95 then 5
 else if((c.toNat:Int)==32 || (c.toNat:Int)==9 || (c.toNat:Int)==10 || (c.toNat:Int)==13)then 1
 else if decide (Lib.indexByte signs c>=0)then 4 else 0
def BC(c:UInt8):Bool:=!(cls c != 2&&cls c != 3&&cls c != 5)
def uV(s:Str):Bool:=!((s==[] || decide ((s.length:Int)>32)) || cls (s.getD 0 0) != 2)&&s.all BC
def valid(t:Tk):Bool:=
 if t.kind==1 then uV t.text&&t.n==0
 else if t.kind==2 then(t.text==[]&&decide (t.n>=0))&&decide (t.n<=1099511627776)
 else if t.kind==3 then((t.text.length:Int)==1&&cls (t.text.getD 0 0)==4)&&t.n==0 else false
def idxFrom(v:Int):List Int->Int->Int
 | [],_=>-1
 |x::r,i=>if v==x then i else idxFrom v r (i+1)
def has(l:List Int)(v:Int):Bool:=decide (idxFrom v l 0>=0)
def run(ks:List Int)(s:Str)(a:Nat):Str:=(s.drop a).takeWhile λc=>has ks (cls c)
def at'(t:Tk)(a:Nat):Tk:={ t with pos:=a }
theorem XZ{l:List UInt8}{n:Nat}{q:UInt8->Prop}(h:n<l.length)(h4:q (l.getD n 0)):∃c,(0<=(n:Int)/\l[(n:Int).toNat]? = some c)/\q c:=
 ⟨_,⟨by omega,by rw[Int.toNat_natCast,List.getD_eq_getElem?_getD,List.getElem?_eq_getElem h];rfl⟩,h4⟩
theorem X0{p:Prop}[Decidable p]{b:Bool}(h:(bif decide p then b else false)=true):p/\b=true:=by
 by_cases hp:p
 ·simp[hp]at h;exact⟨hp,h⟩
 ·simp[hp]at h
theorem z2y{p:Prop}[Decidable p]{b:Bool}(h:(bif decide p then b else false)=false):¬p\/(p/\b=false):=by
 by_cases hp:p
 ·simp[hp]at h;exact .inr ⟨hp,h⟩
 ·exact .inl hp
theorem z2z{a b:Nat}(h:lY (decide ((a:Int)<(b:Int))) true=true):a<b:=by simpa[lY]using h
theorem z3a{s:Str}{a n:Nat}:cut (some (a:Int)) (some (n:Int)) s=(s.take n).drop a:=rfl
theorem jr{s:Str}{v:Int}(h:Lib.atoiAll s = .ok v):-9223372036854775808<=v/\v<=9223372036854775807:=by
 cases s with
 |nil=>cases h
 |cons c r=>
  simp only[Lib.atoiAll]at h
  rcases hp:Lib.parseMag (if c.toNat=43\/c.toNat=45 then r else c::r)with u |_ |_
  ·rw[hp]at h
   simp only at h
   split at h
   ·cases h
   ·split at h
    ·cases h
    ·simp only[Lib.NumEnd.ok.injEq]at h
     subst h
     split<;>omega
  ·rw[hp]at h;cases h
  ·rw[hp]at h;cases h
theorem Ej{x y:Operand}{q:Prop}(h1:(isConst x || isConst y)=true)(h2:q):(isConst x || isConst y)=true/\q:=⟨h1,h2⟩
theorem V3{k:Bool}{n:Int}{m:Nat}{q:Prop}(h:k=true/\(0<=n/\n<(m:Int))/\q):k=true/\(0<=n/\n<(m:Int))/\q:=h
inductive St where
 |skip (k:Nat) |tok (k:Nat) (t:Tk) |bad
variable {st : Str → St}
def tw(ks:List Int)(s:Str):Str:=s.takeWhile λc=>has ks (cls c)
def cmt(s:Str):Nat:=if 0<=Lib.indexByte s 10 then(Lib.indexByte s 10).toNat else s.length
def wY(t:Str):St:=match Lib.atoiAll t with
 | .ok v=>if Lib.itoa v==t then(if valid ⟨2,[],v,0⟩then .tok t.length ⟨2,[],v,0⟩else .bad)else .bad
 |_=>.bad
def pO(t:Str):St:=if valid ⟨1,t,0,0⟩then .tok t.length ⟨1,t,0,0⟩else .bad
def oq(s:Str):St:=if Lib.hasPrefix s [47,47]then .skip (cmt s)else(if valid ⟨3,s.take 1,0,0⟩then .tok 1 ⟨3,s.take 1,0,0⟩else .bad)
def pStep(s:Str):St:=match cls (s.getD 0 0)with
 | 1=>.skip (tw [1] s).length
 | 2=>pO (tw [2,3,5] s)
 | 3=>wY (tw [3] s)
 | 4=>oq s
 |_=>.bad
def lexG(st:Str->St):Nat->Str->Nat->Except Nat (List Tk)
 | 0,_,_=>.ok []
 |n+1,s,a=>match s with
  | []=>.ok []
  |c::r=>match st (c::r)with
   | .skip k=>lexG st n ((c::r).drop k) (a+k)
   | .tok k t=>(match lexG st n ((c::r).drop k) (a+k)with | .ok l=>.ok (at' t a::l) | .error e=>.error e)
   | .bad=>.error a
def jl(st:Str->St)(s:Str)(a:Nat):Except Nat (List Tk):=lexG st s.length s a
def Pos(st:Str->St):Prop:=∀c r,(∀k,st (c::r) = .skip k->1<=k)/\∀k t,st (c::r) = .tok k t->1<=k
theorem uX(hp:Pos st):∀(n m:Nat) (s:Str) (a:Nat),s.length<=n->s.length<=m->lexG st n s a=lexG st m s a
 | 0,m,s,a,hn,hm=>by
  have:s = []:=List.length_eq_zero_iff.1 (by omega)
  subst this
  cases m<;>rfl
 |n+1,0,s,a,hn,hm=>by
  have:s = []:=List.length_eq_zero_iff.1 (by omega)
  subst this
  rfl
 |n+1,m+1,[],a,hn,hm=>rfl
 |n+1,m+1,c::r,a,hn,hm=>by
  simp only[lexG]
  simp only[List.length_cons]at hn hm
  cases hs:st (c::r)with
  |skip k=>
   have:=(hp c r).1 k hs
   exact uX hp n m _ _ (by simp only[List.length_drop,List.length_cons];omega) (by simp only[List.length_drop,List.length_cons];omega)
  |tok k t=>
   have:=(hp c r).2 k t hs
   simp only[uX hp n m ((c::r).drop k) (a+k) (by simp only[List.length_drop,List.length_cons];omega) (by simp only[List.length_drop,List.length_cons];omega)]
  |bad=>rfl
theorem V4{a:Nat}:jl st [] a = .ok []:=rfl
theorem jf(hp:Pos st){s:Str}(hs:s ≠ [])(a:Nat):jl st s a=match st s with
  | .skip k=>jl st (s.drop k) (a+k)
  | .tok k t=>(match jl st (s.drop k) (a+k)with | .ok l=>.ok (at' t a::l) | .error e=>.error e)
  | .bad=>.error a:=by
 cases s with
 |nil=>exact absurd rfl hs
 |cons c r=>
  simp only[jl]
  show lexG st (r.length+1) (c::r) a=_
  simp only[lexG]
  cases hs:st (c::r)with
  |skip k=>
   have:=(hp c r).1 k hs
   exact uX hp _ _ _ _ (by simp only[List.length_drop,List.length_cons];omega) (Nat.le_refl _)
  |tok k t=>
   have:=(hp c r).2 k t hs
   simp only[uX hp r.length ((c::r).drop k).length ((c::r).drop k) (a+k) (by simp only[List.length_drop,List.length_cons];omega) (Nat.le_refl _)]
  |bad=>rfl
def fin(ts:List Tk):Except Nat (List Tk)->Except Nat (List Tk)
 | .ok l=>.ok (ts++l)
 | .error e=>.error e
def SX:Except Nat (List Tk)->D
 | .ok l=>.tuple [toks l,.i 0,.i 0]
 | .error a=>.tuple [.sl 4 [],.i (a:Nat),.i 30]
theorem index_le{c:UInt8}:∀s:Str,Lib.indexByte s c<=(s.length:Int)
 | []=>by simp only[Lib.indexByte];decide
 |x::r=>by
  have:=index_le (c:=c) r
  simp only[Lib.indexByte,List.length_cons]
  split
  ·omega
  ·split<;>omega
theorem Zi{src:Str}{a:Nat}(ha:a<=src.length)(hs:src.length<=1073741824)(h:decide (Lib.indexByte (src.drop a) 10>=0)=true):D.val (.int .i64 (IntKind.i64.wrap ((a:Int)+Lib.indexByte (src.drop a) 10)))=D.i ((a+cmt (src.drop a):Nat):Int):=by
 have h:=of_decide_eq_true h
 have h2:=index_le (c:=10) (src.drop a)
 rw[List.length_drop]at h2
 rw[eQ (by omega) (by omega),cmt,if_pos h]
 exact congrArg D.i (by omega)
theorem Zj{src:Str}{a:Nat}(ha:a<=src.length)(h:decide (Lib.indexByte (src.drop a) 10>=0)=false):D.val (.int .i64 (src.length:Int))=D.i ((a+cmt (src.drop a):Nat):Int):=by
 have h:=of_decide_eq_false h
 rw[cmt,if_neg h,List.length_drop]
 exact congrArg D.i (by omega)
theorem OW{l h:Option Int}{n:Nat}{q:Prop}(hh:rX l h n/\q):rX l h n/\q:=hh
theorem z6y{a:Nat}(h:a<=1073741824):IntKind.i64.wrap ((a:Int)+1)=((a+1:Nat):Int):=by
 rw[eQ (by omega) (by omega)];rfl
theorem V5(k v:Int):has [k] v=(v==k):=by
 simp only[has,idxFrom]
 split<;>simp_all
theorem z6n(x y z v:Int):has [x,y,z] v=(v==x || v==y || v==z):=by
 simp only[has,idxFrom]
 split
 ·simp_all
 ·split
  ·simp_all
  ·split<;>simp_all
theorem SY(c:UInt8):cls c=0\/cls c=1\/cls c=2\/cls c=3\/cls c=4\/cls c=5:=by
 unfold cls;repeat' split
 all_goals simp
theorem S9{c:UInt8}(h:cls c=3):48<=c.toNat/\c.toNat<=57:=by
 unfold cls at h
 split at h
 ·simp at h
 split at h
 ·rename_i hf
  simp only[Ref03.figure,Bool.and_eq_true,decide_eq_true_eq]at hf
  omega
 repeat' split at h
 all_goals simp at h
theorem V6{c:UInt8}(h:cls c=4):decide (Lib.indexByte signs c>=0)=true:=by
 unfold cls at h
 repeat' split at h
 all_goals first |(simp at h;done) |assumption
def Em(t:Tk):Except Nat (List Tk)->Except Nat (List Tk)
 | .ok l=>.ok (t::l)
 | .error e=>.error e
theorem fin_cons(ts:List Tk)(t:Tk)(r:Except Nat (List Tk)):fin ts (Em t r)=fin (ts++[t]) r:=by
 cases r<;>simp[fin,Em]
theorem Zk(r:Except Nat (List Tk)):fin [] r=r:=by cases r<;>rfl
theorem Eo{ks:List Int}{c:UInt8}{r:Str}(h:has ks (cls c)=true):1<=(tw ks (c::r)).length:=by
 simp only[tw,List.takeWhile_cons,h,if_true,List.length_cons];omega
theorem Tc{s:Str}(h:Lib.hasPrefix s [47,47]=true):1<=cmt s:=by
 cases s with
 |nil=>simp[Lib.hasPrefix]at h
 |cons c r=>
  have hc:c=47:=by
   simp only[Lib.hasPrefix,List.isPrefixOf,Bool.and_eq_true,beq_iff_eq]at h;exact h.1.symm
  subst hc
  have hi:Lib.indexByte (47::r) 10 = -1\/1<=Lib.indexByte (47::r) 10:=by
   have:=Lib.indexByte_ge r 10
   simp only[Lib.indexByte]
   rw[if_neg (by decide)]
   split
   ·exact .inl rfl
   ·rename_i h1
    have h1:¬Lib.indexByte r 10 = -1:=by simpa using h1
    right;omega
  unfold cmt
  split
  ·rcases hi with hi |hi
   ·omega
   ·omega
  ·simp only[List.length_cons];omega
theorem Ep:Pos pStep:=by
 intro c r
 have e:(c::r).getD 0 0=c:=rfl
 constructor
 ·intro k hk
  unfold pStep at hk
  rw[e]at hk
  split at hk
  ·rename_i hc
   simp only[St.skip.injEq]at hk;subst hk
   exact Eo (by rw[V5,hc];rfl)
  ·unfold pO at hk;split at hk<;>cases hk
  ·unfold wY at hk;split at hk
   ·split at hk
    ·split at hk<;>cases hk
    ·cases hk
   ·cases hk
  ·unfold oq at hk;split at hk
   ·rename_i hp
    simp only[St.skip.injEq]at hk;subst hk
    exact Tc hp
   ·split at hk<;>cases hk
  ·cases hk
 ·intro k t hk
  unfold pStep at hk
  rw[e]at hk
  split at hk
  ·cases hk
  ·rename_i hc
   unfold pO at hk;split at hk
   ·simp only[St.tok.injEq]at hk;rw[<-hk.1]
    exact Eo (by rw[z6n,hc];rfl)
   ·cases hk
  ·rename_i hc
   unfold wY at hk;split at hk
   ·split at hk
    ·split at hk
     ·simp only[St.tok.injEq]at hk;rw[<-hk.1]
      exact Eo (by rw[V5,hc];rfl)
     ·cases hk
    ·cases hk
   ·cases hk
  ·unfold oq at hk;split at hk
   ·cases hk
   ·split at hk
    ·simp only[St.tok.injEq]at hk;omega
    ·cases hk
  ·cases hk
def z6z{α:Type}:Lib.NumEnd α->Bool
 | .ok _=>false
 | .range=>false
 |_=>true
theorem xU:∀(l:Str) (acc:Nat),(∀c∈l,cls c=3)->z6z (Lib.parseUint10 acc l)=false
 | [],acc,_=>by simp[Lib.parseUint10,z6z]
 |c::r,acc,h=>by
  have hc:=S9 (h c (by simp))
  simp only[Lib.parseUint10,hc,and_self,if_true]
  split
  ·rfl
  ·split
   ·rfl
   ·exact xU r _ (λx hx=>h x (List.mem_cons_of_mem _ hx))
theorem JD{t:Str}(hne:t ≠ [])(h:∀c∈t,cls c=3):z6z (Lib.atoiAll t)=false:=by
 cases t with
 |nil=>exact absurd rfl hne
 |cons c r=>
  have hc:=S9 (h c (by simp))
  have h0:¬(c.toNat=43\/c.toNat=45):=by omega
  have h1:¬(c.toNat=45):=by omega
  simp only[Lib.atoiAll,if_neg h0,Lib.parseMag,if_neg (List.cons_ne_nil c r)]
  have hn:=xU (c::r) 0 h
  rcases hp:Lib.parseUint10 0 (c::r)with u |_ |_
  ·simp only
   split
   ·rfl
   ·split<;>rfl
  ·rw[hp]at hn;cases hn
  ·rfl
theorem X3{p:UInt8->Bool}{c:UInt8}:∀{l:Str},c∈l.takeWhile p->p c=true
 |x::r,h=>by
  rw[List.takeWhile_cons]at h
  split at h
  ·rename_i hx
   rcases List.mem_cons.1 h with rfl |h
   ·exact hx
   ·exact X3 h
  ·simp at h
theorem CY{c:UInt8}(h:cls c=4):valid ⟨3,[c],0,0⟩=true:=by simp[valid,h]
theorem z3b{ks:List Int}{s:Str}{c:UInt8}(h:c∈tw ks s):has ks (cls c)=true:=by
 exact X3 (p:=λc=>has ks (cls c)) h
inductive At(src:Str)(a:Nat):Prop where
 |space (hc:cls (src.getD a 0)=1) (hk:1<=(Lx.run [1] src a).length) (e:jl pStep (src.drop a) a=jl pStep (src.drop (a+(Lx.run [1] src a).length)) (a+(Lx.run [1] src a).length))
 |name (hc:cls (src.getD a 0)=2) (hv:(!valid ⟨1,Lx.run [2,3,5] src a,0,0⟩)=false) (hk:1<=(Lx.run [2,3,5] src a).length) (e:jl pStep (src.drop a) a=Em (at' ⟨1,Lx.run [2,3,5] src a,0,0⟩ a) (jl pStep (src.drop (a+(Lx.run [2,3,5] src a).length)) (a+(Lx.run [2,3,5] src a).length)))
 |name' (hc:cls (src.getD a 0)=2) (hv:(!valid ⟨1,Lx.run [2,3,5] src a,0,0⟩)=true) (e:jl pStep (src.drop a) a = .error a)
 |num (v:Int) (hc:cls (src.getD a 0)=3) (hv:Lib.atoiAll (Lx.run [3] src a) = .ok v) (hi:(!(Lib.itoa v==Lx.run [3] src a))=false) (hw:(!valid ⟨2,[],v,0⟩)=false) (hk:1<=(Lx.run [3] src a).length) (e:jl pStep (src.drop a) a=Em (at' ⟨2,[],v,0⟩ a) (jl pStep (src.drop (a+(Lx.run [3] src a).length)) (a+(Lx.run [3] src a).length)))
 |num1 (v:Int) (hc:cls (src.getD a 0)=3) (hv:Lib.atoiAll (Lx.run [3] src a) = .ok v) (hi:(!(Lib.itoa v==Lx.run [3] src a))=true) (e:jl pStep (src.drop a) a = .error a)
 |num2 (v:Int) (hc:cls (src.getD a 0)=3) (hv:Lib.atoiAll (Lx.run [3] src a) = .ok v) (hi:(!(Lib.itoa v==Lx.run [3] src a))=false) (hw:(!valid ⟨2,[],v,0⟩)=true) (e:jl pStep (src.drop a) a = .error a)
 |num3 (hc:cls (src.getD a 0)=3) (hv:Lib.atoiAll (Lx.run [3] src a) = .range) (e:jl pStep (src.drop a) a = .error a)
 |cmt (hc:cls (src.getD a 0)=4) (hp:Lib.hasPrefix (src.drop a) [47,47]=true) (hk:1<=Lx.cmt (src.drop a)) (hl:a+Lx.cmt (src.drop a)<=src.length) (e:jl pStep (src.drop a) a=jl pStep (src.drop (a+Lx.cmt (src.drop a))) (a+Lx.cmt (src.drop a)))
 |sign (hc:cls (src.getD a 0)=4) (hp:Lib.hasPrefix (src.drop a) [47,47]=false) (hw:(!valid ⟨3,(src.take (a+1)).drop a,0,0⟩)=false) (hk:((src.take (a+1)).drop a).length=1) (e:jl pStep (src.drop a) a=Em (at' ⟨3,(src.take (a+1)).drop a,0,0⟩ a) (jl pStep (src.drop (a+((src.take (a+1)).drop a).length)) (a+((src.take (a+1)).drop a).length)))
 |low (hc:cls (src.getD a 0)=5) (e:jl pStep (src.drop a) a = .error a)
 |other (hc:cls (src.getD a 0)=0) (e:jl pStep (src.drop a) a = .error a)
variable {src : Str} {a : Nat}
theorem Es{a k:Nat}{t:Tk}(hlt:a<src.length)(h:pStep (src.drop a) = .tok k t):jl pStep (src.drop a) a=Em (at' t a) (jl pStep (src.drop (a+k)) (a+k)):=by
 rw[jf Ep (by rw[drop_cons hlt];simp),h]
 simp only[List.drop_drop]
 cases jl pStep (src.drop (a+k)) (a+k)<;>rfl
theorem uY{a k:Nat}(hlt:a<src.length)(h:pStep (src.drop a) = .skip k):jl pStep (src.drop a) a=jl pStep (src.drop (a+k)) (a+k):=by
 rw[jf Ep (by rw[drop_cons hlt];simp),h]
 simp only[List.drop_drop]
theorem qy(hlt:a<src.length)(h:pStep (src.drop a) = .bad):jl pStep (src.drop a) a = .error a:=by
 rw[jf Ep (by rw[drop_cons hlt];simp),h]
theorem V7(hlt:a<src.length):At src a:=by
 have hd:=drop_cons hlt
 have e0:(src.drop a).getD 0 0=src.getD a 0:=by rw[hd];rfl
 have hp:pStep (src.drop a)=match cls (src.getD a 0)with
  | 1=>.skip (tw [1] (src.drop a)).length
  | 2=>pO (tw [2,3,5] (src.drop a))
  | 3=>wY (tw [3] (src.drop a))
  | 4=>oq (src.drop a)
  |_=>.bad:=by rw[<-e0];rfl
 have t1:(src.drop a).take 1=(src.take (a+1)).drop a:=by rw[List.drop_take,Nat.add_sub_cancel_left]
 have t2:((src.take (a+1)).drop a).length=1:=by rw[<-t1];simp;omega
 have hd1:∀ks,has ks (cls (src.getD a 0))=true->1<=(Lx.run ks src a).length:=λks h=>by
  show 1<=(tw ks (src.drop a)).length
  rw[hd];exact Eo h
 rcases SY (src.getD a 0)with hc |hc |hc |hc |hc |hc
 ·rw[hc]at hp
  exact .other hc (qy hlt hp)
 ·rw[hc]at hp
  exact .space hc (hd1 _ (by rw[V5,hc];rfl)) (uY hlt hp)
 ·rw[hc]at hp
  have hp:pStep (src.drop a)=pO (Lx.run [2,3,5] src a):=hp
  cases hv:valid ⟨1,Lx.run [2,3,5] src a,0,0⟩with
  |true=>
   refine .name hc (by rw[hv];rfl) (hd1 _ (by rw[z6n,hc];rfl)) (Es hlt (by rw[hp,pO,hv];rfl))
  |false=>exact .name' hc (by rw[hv];rfl) (qy hlt (by rw[hp,pO,hv];rfl))
 ·rw[hc]at hp
  have hp:pStep (src.drop a)=wY (Lx.run [3] src a):=hp
  have h1:=hd1 [3] (by rw[V5,hc];rfl)
  have hdg:∀c∈Lx.run [3] src a,cls c=3:=λc hcm=>by
   have:=z3b (ks:=[3]) (s:=src.drop a) hcm
   rw[V5]at this;simpa using this
  have hn:=JD (λe=>by rw[e]at h1;simp at h1) hdg
  rcases hv:Lib.atoiAll (Lx.run [3] src a)with v |_ |_
  rotate_left
  ·rw[hv]at hn;cases hn
  ·exact .num3 hc hv (qy hlt (by rw[hp,wY,hv]))
  ·cases hi:(Lib.itoa v==Lx.run [3] src a)with
   |false=>exact .num1 v hc hv (by rw[hi];rfl) (qy hlt (by rw[hp,wY,hv];simp only[hi];rfl))
   |true=>
    cases hw:valid ⟨2,[],v,0⟩with
    |false=>exact .num2 v hc hv (by rw[hi];rfl) (by rw[hw];rfl) (qy hlt (by rw[hp,wY,hv];simp only[hi,hw];rfl))
    |true=>exact .num v hc hv (by rw[hi];rfl) (by rw[hw];rfl) h1 (Es hlt (by rw[hp,wY,hv];simp only[hi,hw];rfl))
 ·rw[hc]at hp
  have hp:pStep (src.drop a)=oq (src.drop a):=hp
  cases hq:Lib.hasPrefix (src.drop a) [47,47]with
  |true=>
   refine .cmt hc hq (Tc hq) ?_ (uY hlt (by rw[hp,oq,hq];rfl))
   have:=index_le (c:=10) (src.drop a)
   rw[List.length_drop]at this
   simp only[Lx.cmt]
   split
   ·omega
   ·rw[List.length_drop];omega
  |false=>
   have hw:valid ⟨3,(src.take (a+1)).drop a,0,0⟩=true:=by
    rw[<-t1,hd]
    exact CY hc
   refine .sign hc hq (by rw[hw];rfl) t2 ?_
   rw[t2]
   exact Es hlt (by rw[hp,oq,hq,t1,hw];rfl)
 ·rw[hc]at hp
  exact .low hc (qy hlt hp)
theorem GU(h:decide ((a:Int)<(src.length:Int))=true):a<src.length:=by simpa using h
theorem Zl{ts:List Tk}(hI:a<=src.length/\ts.length<=a/\jl pStep src 0=fin ts (jl pStep (src.drop a) a))(h:decide ((a:Int)<(src.length:Int))=false):D.tuple [toks ts,.i 0,.i 0]=SX (jl pStep src 0):=by
 have h:=of_decide_eq_false h
 rw[hI.2.2,List.drop_eq_nil_of_le (by omega),V4]
 simp only[fin,List.append_nil];rfl
theorem wZ{ts:List Tk}(hI:a<=src.length/\ts.length<=a/\jl pStep src 0=fin ts (jl pStep (src.drop a) a))(e:jl pStep (src.drop a) a = .error a):D.tuple [.sl 4 [],.i (a:Nat),.i 30]=SX (jl pStep src 0):=by
 rw[hI.2.2,e];rfl
end Go.Fw.Lx
namespace Go.Fw.Lx
variable [ae] {ws : List Str} {rs r0 : List Tk} {x0 : Tk}
def word(t:Tk):Str:=if t.kind==2 then Lib.itoa t.n else t.text
abbrev uZ(_:Tk):List D:=[D.str []]
def GV(l:List Tk):D:=if l.all valid then .tuple [.str (Lib.join (l.map word) [32]),.i 0]else .tuple [.str [],.i 30]
theorem OX(l:List Tk):List.replicate (((l.map Tk.cs).length:Int)).toNat [D.str []]=([]:List Str).map ui++l.map uZ:=by
 rw[Int.toNat_natCast,List.length_map]
 induction l with
 |nil=>rfl
 |cons x r ih=>simpa[List.replicate_succ]using ih
theorem V8{i0:Nat}(h:rs=x0::r0/\ws.length=i0):(ws.map ui++rs.map uZ)[0+(i0:Int).toNat]? = some [D.str []]:=by
 obtain⟨rfl,rfl⟩:=h
 simp
theorem V9{i0:Nat}{s:Str}(h:rs=x0::r0/\ws.length=i0):(ws.map ui++rs.map uZ).set (0+(i0:Int).toNat) [D.str s]=(ws++[s]).map ui++r0.map uZ:=by
 obtain⟨rfl,rfl⟩:=h
 simp
theorem Td{t:Tk}(h:valid t=true)(hk:(t.kind==2)=true):-9223372036854775808<=t.n/\t.n<=9223372036854775807:=by
 have hk:t.kind=2:=by simpa using hk
 simp[valid,hk]at h
 omega
theorem valid_num'{t:Tk}(h:(!valid t)=false)(hk:(t.kind==2)=true):-9223372036854775808<=t.n/\t.n<=9223372036854775807:=Td (by simpa using h) hk
theorem word_set'{i0:Nat}{s:Str}(h:rs=x0::r0/\ws.length=i0)(hs:s=word x0):(ws.map ui++rs.map uZ).set (0+(i0:Int).toNat) [D.str s]=(ws++[word x0]).map ui++r0.map uZ:=by
 rw[hs];exact V9 h
theorem LZ{rs l:List Tk}(h:rs = [])(hw:ws++([]:List Tk).map word=l.map word):0+(((l.map Tk.cs).length:Int)).toNat<=(ws.map ui++rs.map uZ).length/\(l.map word).map ui=((ws.map ui++rs.map uZ).drop 0).take (((l.map Tk.cs).length:Int)).toNat:=by
 subst h
 have hw:ws=l.map word:=by simpa using hw
 subst hw
 rw[Int.toNat_natCast]
 simp only[List.map_nil,List.append_nil,List.drop_zero,Nat.zero_add,List.length_map]
 exact⟨Nat.le_refl _,(List.take_of_length_le (by simp)).symm⟩
theorem We{l r0:List Tk}(h:l.all valid=(x0::r0).all valid)(hv:(!valid x0)=true):D.tuple [.str [],.i 30]=GV l:=by
 have hv:valid x0=false:=by simpa using hv
 rw[GV,h,List.all_cons,hv];rfl
end Go.Fw.Lx
namespace Go.Fw.Lx
variable [ae]
def Wh(c:UInt8):Bool:=signs.any λx=>(x.toNat:Int)==(c.toNat:Int)
abbrev Dig(t:Str):Prop:=∀c∈t,48<=c.toNat/\c.toNat<=57
end Go.Fw.Lx
namespace Go.Fw.Lx
variable [ae] {c : UInt8}
theorem OY:Ref03.figure c=(cls c==3):=by
 unfold cls
 split
 ·rename_i h
  simp only[Ref03.letter,Ref03.figure,Bool.or_eq_true,Bool.and_eq_true,decide_eq_true_eq]at *
  rw[Bool.eq_iff_iff];simp;omega
 ·repeat' split
  all_goals simp_all
theorem GX:∀l:Str,decide (Lib.indexByte l c>=0)=l.any λx=>(x.toNat:Int)==(c.toNat:Int)
 | []=>by simp[Lib.indexByte]
 |x::r=>by
  have ih:decide (Lib.indexByte r c>=0)=r.any λx=>(x.toNat:Int)==(c.toNat:Int):=GX r
  have hg:=Lib.indexByte_ge r c
  have e:((x.toNat:Int)==(c.toNat:Int))=(x==c):=by
   rw[Bool.eq_iff_iff];simp only[beq_iff_eq]
   constructor
   ·intro h;exact UInt8.toNat_inj.1 (by omega)
   ·rintro rfl;rfl
  simp only[Lib.indexByte,List.any_cons,e]
  by_cases hx:(x==c)=true
  ·simp[hx]
  ·have hx:(x==c)=false:=by simpa using hx
   simp only[hx,Bool.false_eq_true,if_false,Bool.false_or]
   rw[<-ih]
   by_cases h1:Lib.indexByte r c = -1
   ·simp[h1]
   ·have h2:(Lib.indexByte r c == -1)=false:=by simpa using h1
    simp only[h2,Bool.false_eq_true,if_false]
    rw[Bool.eq_iff_iff];simp only[decide_eq_true_eq];omega
theorem Tf:Wh c=(cls c==4):=by
 have e:Wh c=decide (Lib.indexByte signs c>=0):=(GX signs).symm
 rw[Bool.eq_iff_iff]
 constructor
 ·intro h
  have hm:∃x∈signs,(x.toNat:Int)=(c.toNat:Int):=by
   simp only[Wh,List.any_eq_true,beq_iff_eq]at h;exact h
  obtain⟨x,hx,hc⟩:=hm
  have:x=c:=UInt8.toNat_inj.1 (by omega)
  subst this
  rw[e]at h
  have hn:Ref03.letter x=false/\Ref03.figure x=false/\((x.toNat:Int)==95)=false/\(((x.toNat:Int)==32 || (x.toNat:Int)==9) || (x.toNat:Int)==10 || (x.toNat:Int)==13)=false:=by
   simp only[signs,List.mem_cons,List.not_mem_nil,or_false]at hx
   rcases hx with h |h |h |h |h |h |h |h |h |h |h |h |h |h |h |h<;>subst h<;>decide
  unfold cls
  rw[hn.1,hn.2.1,hn.2.2.1,hn.2.2.2]
  simp[h]
 ·intro h
  rw[e];exact V6 (by simpa using h)
theorem L6{src:Str}{a:Nat}(hlt:a<src.length):pStep (src.drop a)=match cls (src.getD a 0)with
  | 1=>.skip (tw [1] (src.drop a)).length
  | 2=>pO (tw [2,3,5] (src.drop a))
  | 3=>wY (tw [3] (src.drop a))
  | 4=>oq (src.drop a)
  |_=>.bad:=by
 have e0:(src.drop a).getD 0 0=src.getD a 0:=by rw[drop_cons hlt];rfl
 rw[<-e0];rfl
theorem Ti{src:Str}{a:Nat}(hlt:a<src.length)(hc:cls (src.getD a 0)=1):jl pStep (src.drop a) a=jl pStep (src.drop (a+1)) (a+1):=by
 have h1:=uY hlt (show pStep (src.drop a) = .skip (tw [1] (src.drop a)).length by rw[L6 hlt,hc];rfl)
 have e:tw [1] (src.drop a)=src.getD a 0::tw [1] (src.drop (a+1)):=by
  rw[drop_cons hlt]
  show List.takeWhile _ _=_
  rw[List.takeWhile_cons_of_pos (by rw[V5,hc];rfl)];rfl
 rw[h1,e,List.length_cons]
 rcases Nat.lt_or_ge (a+1) src.length with hl |hl
 ·by_cases hc':cls (src.getD (a+1) 0)=1
  ·have h2:=uY hl (show pStep (src.drop (a+1)) = .skip (tw [1] (src.drop (a+1))).length by rw[L6 hl,hc'];rfl)
   rw[h2,show a+((tw [1] (src.drop (a+1))).length+1)=a+1+(tw [1] (src.drop (a+1))).length by omega]
  ·have:tw [1] (src.drop (a+1)) = []:=by
    rw[drop_cons hl]
    show List.takeWhile _ _=_
    rw[List.takeWhile_cons_of_neg]
    rw[V5];simpa using hc'
   rw[this];rfl
 ·have:tw [1] (src.drop (a+1)) = []:=by rw[List.drop_eq_nil_of_le hl];rfl
  rw[this];rfl
def Zm(c:UInt8):Bool:=!((c.toNat:Int)==10)
theorem X4:∀s:Str,cmt s=(s.takeWhile Zm).length
 | []=>rfl
 |c::r=>by
  have ih:=X4 r
  have hg:=Lib.indexByte_ge r 10
  have e:Zm c = !(c==10):=by
   rw[Zm];congr 1
   rw[Bool.eq_iff_iff];simp only[beq_iff_eq]
   constructor
   ·intro h;exact UInt8.toNat_inj.1 (show c.toNat=(10:UInt8).toNat by show c.toNat=10;omega)
   ·rintro rfl;rfl
  unfold cmt at ih ⊢
  simp only[Lib.indexByte]
  by_cases hx:(c==10)=true
  ·rw[List.takeWhile_cons_of_neg (by rw[e,hx];simp)];simp[hx]
  ·have hx:(c==10)=false:=by simpa using hx
   rw[List.takeWhile_cons_of_pos (by rw[e,hx];rfl)]
   simp only[hx,Bool.false_eq_true,if_false,List.length_cons]
   rw[<-ih]
   by_cases h1:Lib.indexByte r 10 = -1
   ·simp[h1]
   ·have h2:(Lib.indexByte r 10 == -1)=false:=by simpa using h1
    have h3:0<=Lib.indexByte r 10:=by omega
    simp only[h2,Bool.false_eq_true,if_false,h3,if_true,show(0:Int)<=Lib.indexByte r 10+1 by omega]
    omega
def dv(n:Nat)(t:Str):Nat:=t.foldl (λa c=>10 * a+(c.toNat-48)) n
theorem z3c:∀(t:Str) (n:Nat),n<=dv n t
 | [],n=>Nat.le_refl _
 |c::r,n=>by
  have:=z3c r (10 * n+(c.toNat-48))
  simp only[dv,List.foldl_cons]at *
  omega
theorem L8:∀(t:Str) (n:Nat),Dig t->n<18446744073709551616->Lib.parseUint10 n t=if dv n t<18446744073709551616 then .ok (dv n t)else .range
 | [],n,_,h=>by rw[if_pos (show dv n [] < 18446744073709551616 from h)];rfl
 |c::r,n,hd,h=>by
  have hc:=hd c (by simp)
  have hge:=z3c r (10 * n+(c.toNat-48))
  have e:dv n (c::r)=dv (10 * n+(c.toNat-48)) r:=rfl
  simp only[Lib.parseUint10,hc,and_self,if_true]
  split
  ·rw[if_neg (by omega)]
  ·split
   ·rw[if_neg (by omega)]
   ·rw[Nat.mul_comm n 10,L8 r _ (λx hx=>hd x (List.mem_cons_of_mem _ hx)) (by omega),e]
theorem Zn{t:Str}(hd:Dig t)(hne:t ≠ []):Lib.atoiAll t=if dv 0 t<9223372036854775808 then .ok (dv 0 t:Int)else .range:=by
 cases t with
 |nil=>exact absurd rfl hne
 |cons c r=>
  have hc:=hd c (by simp)
  have h0:¬(c.toNat=43\/c.toNat=45):=by omega
  have h1:¬(c.toNat=45):=by omega
  simp only[Lib.atoiAll,if_neg h0,Lib.parseMag,if_neg (List.cons_ne_nil c r),L8 (c::r) 0 hd (by omega)]
  by_cases h2:dv 0 (c::r)<18446744073709551616
  ·simp only[if_pos h2,h1,not_false_eq_true,true_and,false_and,if_false]
   by_cases h3:dv 0 (c::r)<9223372036854775808
   ·rw[if_neg (by omega),if_pos h3]
   ·rw[if_pos (by omega),if_neg h3]
  ·simp only[if_neg h2]
   rw[if_neg (by omega)]
theorem Zo(s:Str)(c:UInt8)(n:Nat):dv n (s++[c])=10 * dv n s+(c.toNat-48):=by simp[dv]
end Go.Fw.Lx
namespace Go.Fw.Lx
variable [ae]
theorem Zp:cls 47=4:=by
 have h:=Tf (c:=47)
 have:Wh 47=true:=by decide
 rw[this]at h;simpa using h.symm
section
variable {src : Str} {a : Nat} (hlt : decide ((a : Int) < (src.length : Int)) = true) (hs : src.length ≤ 1073741824)
include hlt
include hs
include hs
end
abbrev Hd(src:Str)(a:Nat)(ts:List Tk):Prop:=a<=src.length/\ts.length<=a/\jl pStep src 0=fin ts (jl pStep (src.drop a) a)
section
variable {src : Str} {a b : Nat} {ts : List Tk} (hI : Hd src a ts) (hlt : decide ((a : Int) < (src.length : Int)) = true) (hs : src.length ≤ 1073741824)
include hI hlt
include hs
end
theorem idx_lit'{k:Bool}{a b:Nat}{n:Int}{es:List (List D)}{q:List D->Prop}(h1:k=true)(h2:a=b)(h3:decide (0<=n/\n.toNat<es.length)=true)(h:q (es.getD n.toNat [])):(k=true/\a=b)/\∃c,(0<=n/\es[n.toNat]? = some c)/\q c:=by
 have h3:=of_decide_eq_true h3
 refine⟨⟨h1,h2⟩,_,⟨h3.1,?_⟩,h⟩
 rw[List.getD_eq_getElem?_getD,List.getElem?_eq_getElem h3.2];rfl
def InI(t:Tk):Prop:=-9223372036854775808<=t.n/\t.n<=9223372036854775807
theorem Aa:∀(k n:Nat),n<10 ^ (k+1)->(Lib.decDigits n).length<=k+1
 | 0,n,h=>by
  rw[Lib.decDigits,dif_pos (by omega)];simp
 |k+1,n,h=>by
  rw[Lib.decDigits]
  split
  ·simp
  ·have:=Aa k (n / 10) (by rw[Nat.pow_succ]at h;omega)
   rw[List.length_append,List.length_cons,List.length_nil];omega
theorem OZ{n:Int}(h0:-9223372036854775808<=n)(h1:n<=9223372036854775807):(Lib.itoa n).length<=21:=by
 rw[Lib.itoa]
 split
 ·have:=Aa 19 n.natAbs (by show n.natAbs<100000000000000000000;omega)
  simp only[List.length_cons];omega
 ·have:=Aa 19 n.toNat (by show n.toNat<100000000000000000000;omega)
  omega
theorem O0{t:Tk}(h:InI t):(word t).length<=t.text.length+21:=by
 rw[word]
 split
 ·have:=OZ h.1 h.2;omega
 ·omega
end Go.Fw.Lx
namespace Go.Fw.Lx
variable [ae] {s : Str} {k : Nat}
def pS(s:Str):St:=if cls (s.getD 0 0)==1 then .skip 1 else pStep s
theorem Tj:Pos pS:=by
 intro c r
 have:=Ep c r
 constructor
 ·intro k hk
  unfold pS at hk
  split at hk
  ·simp only[St.skip.injEq]at hk;omega
  ·exact this.1 k hk
 ·intro k t hk
  unfold pS at hk
  split at hk
  ·cases hk
  ·exact this.2 k t hk
abbrev lexS(s:Str)(a:Nat):Except Nat (List Tk):=jl pS s a
theorem ve{a k:Nat}(hs:s ≠ [])(h:pS s = .skip k):lexS s a=lexS (s.drop k) (a+k):=by
 rw[lexS,jf Tj hs,h]
theorem Et{a k:Nat}{t:Tk}(hs:s ≠ [])(h:pS s = .tok k t):lexS s a=Em (at' t a) (lexS (s.drop k) (a+k)):=by
 rw[lexS,jf Tj hs,h]
 change _=Em (at' t a) (jl pS (s.drop k) (a+k))
 simp only
 cases jl pS (s.drop k) (a+k)<;>rfl
theorem L9{a:Nat}(hs:s ≠ [])(h:pS s = .bad):lexS s a = .error a:=by
 rw[lexS,jf Tj hs,h]
theorem JE{c:UInt8}{r:Str}{a:Nat}(hc:cls c=1):jl pStep (c::r) a=jl pStep r (a+1):=by
 have hd:(List.replicate a (0:UInt8)++c::r).drop a=c::r:=by
  rw[List.drop_append_of_le_length (by simp)];simp
 have hd1:(List.replicate a (0:UInt8)++c::r).drop (a+1)=r:=by
  rw[<-List.drop_drop,hd];rfl
 have hg:(List.replicate a (0:UInt8)++c::r).getD a 0=c:=by
  rw[List.getD_eq_getElem?_getD,List.getElem?_append_right (by simp)];simp
 have:=Ti (src:=List.replicate a 0++c::r) (a:=a) (by simp) (by rw[hg];exact hc)
 rw[hd,hd1]at this
 exact this
theorem Md:∀(n:Nat) (s:Str) (a:Nat),s.length<=n->jl pStep s a=lexS s a
 |_,[],a,_=>rfl
 | 0,c::r,a,h=>by simp at h
 |n+1,c::r,a,h=>by
  simp only[List.length_cons]at h
  have e:(c::r).getD 0 0=c:=rfl
  by_cases hc:cls c=1
  ·rw[JE hc,ve (by simp) (show pS (c::r) = .skip 1 by unfold pS;rw[e,hc];rfl)]
   exact Md n r (a+1) (by omega)
  ·have hp:pS (c::r)=pStep (c::r):=by
    unfold pS
    rw[e,if_neg (by simpa using hc)]
   cases hk:pStep (c::r)with
   |skip k=>
    have:=(Ep c r).1 k hk
    rw[jf Ep (by simp),hk,ve (by simp) (hp.trans hk)]
    exact Md n _ _ (by simp only[List.length_drop,List.length_cons];omega)
   |tok k t=>
    have:=(Ep c r).2 k t hk
    rw[jf Ep (by simp),hk,Et (by simp) (hp.trans hk)]
    simp only
    rw[Md n _ _ (by simp only[List.length_drop,List.length_cons];omega)]
    cases lexS ((c::r).drop k) (a+k)<;>rfl
   |bad=>rw[jf Ep (by simp),hk,L9 (by simp) (hp.trans hk)]
theorem Tm(s:Str)(a:Nat):jl pStep s a=lexS s a:=Md _ s a (Nat.le_refl _)
theorem zY(ks:List Int)(s:Str):s.take (tw ks s).length=tw ks s:=(List.prefix_iff_eq_take.1 (List.takeWhile_prefix _)).symm
theorem X5(ks:List Int)(s:Str):(tw ks s).length<=s.length:=(List.takeWhile_prefix _).length_le
theorem Tn{t:Tk}(h:pStep s = .tok k t):valid t=true/\word t=s.take k/\t.pos=0/\k<=s.length:=by
 unfold pStep at h
 split at h
 ·cases h
 ·unfold pO at h
  split at h
  ·rename_i hv
   simp only[St.tok.injEq]at h
   obtain⟨rfl,rfl⟩:=h
   exact⟨hv,by rw[zY];rfl,rfl,X5 _ _⟩
  ·cases h
 ·unfold wY at h
  split at h
  ·rename_i v hv
   split at h
   ·rename_i hi
    split at h
    ·rename_i hw
     simp only[St.tok.injEq]at h
     obtain⟨rfl,rfl⟩:=h
     exact⟨hw,by rw[zY];exact eq_of_beq hi,rfl,X5 _ _⟩
    ·cases h
   ·cases h
  ·cases h
 ·rename_i hc
  unfold oq at h
  split at h
  ·cases h
  ·split at h
   ·rename_i hv
    simp only[St.tok.injEq]at h
    obtain⟨rfl,rfl⟩:=h
    refine⟨hv,rfl,rfl,?_⟩
    cases s with
    |nil=>simp[cls,signs]at hc;revert hc;decide
    |cons c r=>simp
   ·cases h
 ·cases h
theorem z7a{t:Tk}(h:pS s = .tok k t):valid t=true/\word t=s.take k/\t.pos=0/\k<=s.length:=by
 unfold pS at h
 split at h
 ·cases h
 ·exact Tn h
theorem z3d(s:Str):cmt s<=s.length:=by rw[X4];exact(List.takeWhile_prefix _).length_le
theorem z3e(hs:s ≠ [])(h:pS s = .skip k):k=1/\cls (s.getD 0 0)=1\/Lib.hasPrefix s [47,47]=true/\k=cmt s/\cls (s.getD 0 0)=4:=by
 unfold pS at h
 split at h
 ·rename_i hc
  simp only[St.skip.injEq]at h
  exact .inl ⟨h.symm,by simpa using hc⟩
 ·rename_i hn
  unfold pStep at h
  split at h
  ·rename_i hc;rw[hc]at hn;exact absurd rfl hn
  ·unfold pO at h;split at h<;>cases h
  ·unfold wY at h;split at h
   ·split at h
    ·split at h<;>cases h
    ·cases h
   ·cases h
  ·rename_i hc
   unfold oq at h;split at h
   ·rename_i hp
    simp only[St.skip.injEq]at h
    exact .inr ⟨hp,h.symm,hc⟩
   ·split at h<;>cases h
  ·cases h
theorem Wi(hs:s ≠ [])(h:pS s = .skip k):k<=s.length:=by
 rcases z3e hs h with h |h
 ·have:=List.length_pos_iff.2 hs;omega
 ·rw[h.2.1];exact z3d s
variable [ae] {c : UInt8}
theorem Tq{ks:List Int}{b:Str}(hc:has ks (cls c)=false):∀s:Str,tw ks (s++c::b)=tw ks s
 | []=>by simp[tw,List.takeWhile_cons,hc]
 |x::r=>by
  have:=Tq (b:=b) hc r
  simp only[tw,List.cons_append,List.takeWhile_cons]at this ⊢
  rw[this]
theorem Wj(h:cls c=1):c≠47:=by
 rintro rfl;rw[Zp]at h;cases h
theorem z3f{s b:Str}(hs:s ≠ [])(hc:c≠47):Lib.hasPrefix (s++c::b) [47,47]=Lib.hasPrefix s [47,47]:=by
 match s,hs with
 | [x],_=>
  have:(47==c)=false:=by simpa using λh=>hc h.symm
  simp[Lib.hasPrefix,List.isPrefixOf,this]
 |x::y::r,_=>simp[Lib.hasPrefix,List.isPrefixOf]
theorem X6(h:cls c=1):has [2,3,5] (cls c)=false/\has [3] (cls c)=false:=by
 rw[h,z6n,V5];exact⟨rfl,rfl⟩
theorem Wl{s b:Str}(hs:s ≠ [])(hc:cls c=1)(hm:Lib.hasPrefix s [47,47]=true->cmt (s++c::b)=cmt s):pS (s++c::b)=pS s:=by
 have g:(s++c::b).getD 0 0=s.getD 0 0:=by
  cases s with
  |nil=>exact absurd rfl hs
  |cons x r=>rfl
 have t1:(s++c::b).take 1=s.take 1:=by
  cases s with
  |nil=>exact absurd rfl hs
  |cons x r=>rfl
 unfold pS
 rw[g]
 split
 ·rfl
 ·rename_i hn
  unfold pStep
  rw[g]
  split
  ·rename_i h;rw[h]at hn;exact absurd rfl hn
  ·rw[Tq (X6 hc).1]
  ·rw[Tq (X6 hc).2]
  ·unfold oq
   rw[z3f hs (Wj hc),t1]
   split
   ·rename_i hp;rw[hm hp]
   ·rfl
  ·rfl
theorem z3g:cls 32=1:=by decide
theorem Zq{r:Str}{a:Nat}(hc:cls c=1):lexS (c::r) a=lexS r (a+1):=by
 rw[ve (k:=1) (by simp) (by unfold pS;rw[show(c::r).getD 0 0=c from rfl,hc];rfl)];rfl
end Go.Fw.Lx
namespace Go.Fw.Lx
variable [ae]
theorem Me(k:Nat)(h:k<10):48<=(UInt8.ofNat (48+k)).toNat/\(UInt8.ofNat (48+k)).toNat<=57/\(UInt8.ofNat (48+k)).toNat-48=k:=by
 have:(UInt8.ofNat (48+k)).toNat=48+k:=by
  rw[UInt8.toNat_ofNat'];omega
 omega
theorem Zr(u:Nat):Dig (Lib.decDigits u)/\dv 0 (Lib.decDigits u)=u/\Lib.decDigits u ≠ []:=by
 induction u using Nat.strongRecOn with
 |ind u ih=>
  rw[Lib.decDigits]
  split
  ·rename_i h
   obtain⟨h1,h2,h3⟩:=Me u h
   refine⟨λc hc=>?_,?_,by simp⟩
   ·simp only[List.mem_singleton]at hc;subst hc;exact⟨h1,h2⟩
   ·show 10 * 0+((UInt8.ofNat (48+u)).toNat-48)=u
    omega
  ·rename_i h
   obtain⟨i1,i2,i3⟩:=ih (u / 10) (by omega)
   obtain⟨h1,h2,h3⟩:=Me (u % 10) (by omega)
   refine⟨λc hc=>?_,?_,by simp⟩
   ·rcases List.mem_append.1 hc with hc |hc
    ·exact i1 c hc
    ·simp only[List.mem_singleton]at hc;subst hc;exact⟨h1,h2⟩
   ·rw[Zo,i2,h3];omega
theorem Tt{c:UInt8}(h:48<=c.toNat/\c.toNat<=57):cls c=3:=by
 have:=OY (c:=c)
 rw[show Ref03.figure c=true by simp only[Ref03.figure,Bool.and_eq_true,decide_eq_true_eq];omega]at this
 simpa using this.symm
theorem Tu{ks:List Int}:∀{s:Str},(∀c∈s,has ks (cls c)=true)->tw ks s=s
 | [],_=>rfl
 |x::r,h=>by
  have:=Tu (ks:=ks) (s:=r) (λc hc=>h c (List.mem_cons_of_mem _ hc))
  simp only[tw,List.takeWhile_cons]at this ⊢
  rw[h x (by simp),if_pos rfl,this]
theorem getD_mem{s:Str}(h:s ≠ []):s.getD 0 0∈s:=by
 cases s with
 |nil=>exact absurd rfl h
 |cons x r=>simp
theorem GY{t:Tk}(h:valid t=true):word t ≠ []/\cls ((word t).getD 0 0)≠1/\Lib.hasPrefix (word t) [47,47]=false/\pS (word t) = .tok (word t).length (at' t 0):=by
 obtain⟨kind,text,n,pos⟩:=t
 have hv:=h
 unfold valid at h
 simp only at h
 split at h
 ·rename_i hk
  have hk:kind=1:=by simpa using hk
  subst hk
  simp only[Bool.and_eq_true,beq_iff_eq]at h
  obtain⟨hl,rfl⟩:=h
  have hw:word ⟨1,text,0,pos⟩=text:=rfl
  rw[hw]
  have hl2:=hl
  simp only[uV,Bool.and_eq_true,Bool.not_eq_true',Bool.or_eq_false_iff,beq_eq_false_iff_ne,bne_eq_false_iff_eq,List.all_eq_true]at hl2
  obtain⟨⟨⟨hne,_⟩,hc⟩,hall⟩:=hl2
  have hno:Lib.hasPrefix text [47,47]=false:=by
   cases text with
   |nil=>exact absurd rfl hne
   |cons x r=>
    have hx:x≠47:=by rintro rfl;rw[show(47::r:Str).getD 0 0=47 from rfl,Zp]at hc;cases hc
    have:(47==x)=false:=by simpa using λh=>hx h.symm
    simp[Lib.hasPrefix,List.isPrefixOf,this]
  refine⟨hne,by rw[hc];decide,hno,?_⟩
  have htw:tw [2,3,5] text=text:=Tu λc hcm=>by
   have:=hall c hcm
   rw[z6n]
   simp only[BC,Bool.not_eq_true']at this
   cases h2:cls c==2<;>cases h3:cls c==3<;>cases h5:cls c==5<;>simp_all
  unfold pS pStep
  rw[hc]
  simp only[htw,pO]
  rw[if_neg (by decide),if_pos (by simp[valid,hl])]
  rfl
 ·split at h
  ·rename_i _ hk
   have hk:kind=2:=by simpa using hk
   subst hk
   simp only[Bool.and_eq_true,beq_iff_eq,decide_eq_true_eq]at h
   obtain⟨⟨rfl,h0⟩,h1⟩:=h
   have hw:word ⟨2,[],n,pos⟩=Lib.decDigits n.toNat:=by
    show Lib.itoa n=_
    rw[Lib.itoa,if_neg (by omega)]
   obtain⟨hd,hv2,hne⟩:=Zr n.toNat
   rw[hw]
   have hc:cls ((Lib.decDigits n.toNat).getD 0 0)=3:=Tt (hd _ (getD_mem hne))
   have hno:Lib.hasPrefix (Lib.decDigits n.toNat) [47,47]=false:=by
    cases hq:Lib.decDigits n.toNat with
    |nil=>exact absurd hq hne
    |cons x r=>
     have hx:x≠47:=by rintro rfl;rw[hq]at hc;rw[show(47::r:Str).getD 0 0=47 from rfl,Zp]at hc;cases hc
     have:(47==x)=false:=by simpa using λh=>hx h.symm
     simp[Lib.hasPrefix,List.isPrefixOf,this]
   refine⟨hne,by rw[hc];decide,hno,?_⟩
   have htw:tw [3] (Lib.decDigits n.toNat)=Lib.decDigits n.toNat:=Tu λc hcm=>by rw[V5,Tt (hd c hcm)];rfl
   have ha:=Zn hd hne
   rw[hv2,if_pos (by omega)]at ha
   have hn:(n.toNat:Int)=n:=by omega
   rw[hn]at ha
   have hi:(Lib.itoa n==Lib.decDigits n.toNat)=true:=by
    rw[show Lib.itoa n=Lib.decDigits n.toNat from hw];simp
   unfold pS pStep
   rw[hc]
   simp only[htw,wY,ha,hi]
   rw[if_neg (by decide),if_pos trivial,if_pos (by simp[valid];omega)]
   rfl
  ·split at h
   ·rename_i _ _ hk
    have hk:kind=3:=by simpa using hk
    subst hk
    simp only[Bool.and_eq_true,beq_iff_eq]at h
    obtain⟨⟨hl,hc⟩,rfl⟩:=h
    have hw:word ⟨3,text,0,pos⟩=text:=rfl
    rw[hw]
    match text,hl with
    | [x],_=>
     have hc:cls x=4:=hc
     refine⟨by simp,by show cls x≠1;rw[hc];decide,by simp[Lib.hasPrefix,List.isPrefixOf],?_⟩
     unfold pS pStep
     rw[show([x]:Str).getD 0 0=x from rfl,hc]
     simp only[oq]
     rw[if_neg (by decide),if_neg (by simp[Lib.hasPrefix,List.isPrefixOf])]
     rw[show([x]:Str).take 1 = [x]from rfl,if_pos (CY hc)]
     rfl
    | [],hl=>simp at hl
    |_::_::_,hl=>simp at hl;omega
   ·cases h
theorem Wn{t:Tk}(h:valid t=true){r:Str}(hr:r = []\/∃c b,r=c::b/\cls c=1):pS (word t++r) = .tok (word t).length (at' t 0):=by
 obtain⟨h1,h2,h3,h4⟩:=GY h
 rcases hr with rfl |⟨c,b,rfl,hc⟩
 ·rw[List.append_nil];exact h4
 ·rw[Wl h1 hc (λhp=>by rw[h3]at hp;cases hp)];exact h4
def Gap(g:Str):Prop:=∀r a,lexS (g++r) a=lexS r (a+g.length)
theorem Zt:Gap []:=λr a=>rfl
theorem z3h{c:UInt8}(h:cls c=1):Gap [c]:=λr a=>Zq h
def ren:List (Tk×Str)->Str
 | []=>[]
 |(t,g)::l=>word t++(g++ren l)
def place:Nat->List (Tk×Str)->List Tk
 |_,[]=>[]
 |a,(t,g)::l=>at' t a::place (a+(word t).length+g.length) l
def Zu:List (Tk×Str)->Prop
 | []=>True
 |(t,g)::l=>valid t=true/\Gap g/\(g = []/\l = []\/∃c r,g=c::r/\cls c=1)/\Zu l
theorem Tv:∀(l:List (Tk×Str)) (a:Nat),Zu l->lexS (ren l) a = .ok (place a l)
 | [],a,_=>rfl
 |(t,g)::l,a,⟨hv,hg,hh,ho⟩=>by
  have hne:=(GY hv).1
  have hr:g++ren l = []\/∃c b,g++ren l=c::b/\cls c=1:=by
   rcases hh with⟨rfl,rfl⟩ |⟨c,r,rfl,hc⟩
   ·exact .inl rfl
   ·exact .inr ⟨c,r++ren l,rfl,hc⟩
  show lexS (word t++(g++ren l)) a=_
  rw[Et (by simp[hne]) (Wn hv hr),List.drop_left,hg,Tv l _ ho]
  rfl
def pairs:List Tk->List (Tk×Str)
 | []=>[]
 | [x]=>[(x,[])]
 |x::y::r=>(x,[32])::pairs (y::r)
theorem GZ:∀l:List Tk,(pairs l).map Prod.fst=l
 | []=>rfl
 | [x]=>rfl
 |x::y::r=>by
  have:=GZ (y::r)
  simp only[pairs,List.map_cons,this]
theorem G5:∀l:List Tk,ren (pairs l)=Lib.join (l.map word) [32]
 | []=>rfl
 | [x]=>by simp[pairs,ren,Lib.join_one]
 |x::y::r=>by
  have:=G5 (y::r)
  have e:Lib.join ((x::y::r).map word) [32]=word x++([32]++Lib.join ((y::r).map word) [32]):=by
   simp only[List.map_cons,Lib.join_cons,Lib.joinTail,List.map_cons,List.flatten_cons,List.append_assoc]
  rw[e,<-this];rfl
theorem MB:∀l:List Tk,l.all valid=true->Zu (pairs l)
 | [],_=>trivial
 | [x],h=>⟨by simpa using h,Zt,.inl ⟨rfl,rfl⟩,trivial⟩
 |x::y::r,h=>by
  simp only[List.all_cons,Bool.and_eq_true]at h
  exact⟨h.1,z3h z3g,.inr ⟨32,[],rfl,z3g⟩,MB (y::r) (by simp only[List.all_cons,Bool.and_eq_true];exact h.2)⟩
def z8y(l:List Tk):Nat:=(l.map λt=>(word t).length).sum
theorem Ac:∀(n:Nat) (s:Str) (a:Nat) (x:List Tk),s.length<=n->lexS s a = .ok x->x.all valid=true/\z8y x<=s.length/\x.length<=s.length
 |_,[],a,x,_,h=>by
  have:x = []:=by
   have h:Except.ok []=Except.ok x:=h
   simpa using h.symm
  subst this;exact⟨rfl,Nat.le_refl _,Nat.le_refl _⟩
 | 0,c::r,a,x,h,_=>by simp at h
 |n+1,c::r,a,x,h,hx=>by
  have hs:c::r ≠ []:=by simp
  cases hk:pS (c::r)with
  |skip k=>
   have h1:=(Tj c r).1 k hk
   have h2:=Wi hs hk
   rw[ve hs hk]at hx
   have:=Ac n _ _ x (by simp only[List.length_drop,List.length_cons]at h ⊢;omega) hx
   rw[List.length_drop]at this
   exact⟨this.1,by omega,by omega⟩
  |tok k t=>
   have h1:=(Tj c r).2 k t hk
   obtain⟨hv,hw,_,h2⟩:=z7a hk
   rw[Et hs hk]at hx
   cases hy:lexS ((c::r).drop k) (a+k)with
   |error e=>rw[hy]at hx;cases hx
   |ok y=>
    rw[hy]at hx
    have hx:at' t a::y=x:=by simpa[Em]using hx
    subst hx
    have:=Ac n _ _ y (by simp only[List.length_drop,List.length_cons]at h ⊢;omega) hy
    rw[List.length_drop]at this
    have hl:(word (at' t a)).length=k:=by
     show(word t).length=k
     rw[hw,List.length_take];omega
    refine⟨by rw[List.all_cons,this.1,Bool.and_true];exact hv,?_,?_⟩
    ·simp only[z8y,List.map_cons,List.sum_cons]at this ⊢;omega
    ·simp only[List.length_cons]at *;omega
  |bad=>rw[L9 hs hk]at hx;cases hx
end Go.Fw.Lx
