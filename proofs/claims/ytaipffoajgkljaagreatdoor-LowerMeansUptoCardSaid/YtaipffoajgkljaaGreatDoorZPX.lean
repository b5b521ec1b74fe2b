/- A part of the proof. -/
import Derived.Test.YtaipffoajgkljaaGreatDoorZDB
set_option linter.all false
namespace Go.Fw.Nam
variable [af]
open Ref15
theorem kinds_cases{k:Int}(h:1<=k/\k<=19):k=1\/k=2\/k=3\/k=4\/k=5\/k=6\/k=7\/k=8\/k=9\/k=10\/k=11\/k=12\/k=13\/k=14\/k=15\/k=16\/k=17\/k=18\/k=19:=by omega
theorem zbz{k n:Int}(h:¬(k=n)):(k==n)=false:=by simpa using h
theorem OZ(k:Int):arity k=(parts k,named k):=by
 by_cases h:1<=k/\k<=19
 ·rcases kinds_cases h with h |h |h |h |h |h |h |h |h |h |h |h |h |h |h |h |h |h |h<;>subst h<;>rfl
 ·have e:∀n:Int,1<=n->n<=19->(k==n)=false:=λn h1 h2=>zbz (by omega)
  simp[arity,parts,named,e]
theorem Rh(x:Ex):lJ x=(!((x.l.length:Int) != parts x.kind || (!named x.kind&&x.name != []) || decide (x.n<0)) && !(x.kind != 1&&x.kind != 18&&x.n != 0)):=by
 grind[lJ,OZ]
theorem IY(x:Ex):every lJ x=Ref15.formed x:=by
 refine Ex.ind (P:=λx=>every lJ x=Ref15.formed x) (λx ih=>?_) x
 rw[yS,Ref15.formed_eq,Rh]
 congr 1
 generalize x.l=l at ih
 induction l with
 |nil=>rfl
 |cons y r ih2=>
  grind[uU,Ref15.formeds]
theorem LW(p:Pr):formed p=Ref15.Formed p:=by
 unfold formed Ref15.Formed
 grind[IY,YH,Ref15.stmtOk]
theorem Vm(a b n:Int):mm2 true a b<=n↔a<=n/\b<=n:=by
 grind[mm2]
theorem IZ(p:Pr):limited p=Ref15.limited p:=by
 have h1:p.lines.all ln1=p.lines.all DU:=by
  grind[ln1,DU]
 have h2:p.tables.all tb1=p.tables.all kN:=by
  grind[tb1,kN]
 have h3:p.stmts.all sm1=p.stmts.all Au:=by
  grind[sm1,Au,nodes]
 have h4:z5h p=(few p&&memOk p):=by
  rw[Bool.eq_iff_iff]
  simp only[z5h,few,memOk,Bool.and_eq_true,Bool.not_eq_true',Bool.or_eq_false_iff,decide_eq_true_eq,decide_eq_false_iff_not]
  have hm:most p<=16↔((((p.params.length:Int)<=16/\(p.states.length:Int)<=16)/\(p.lines.length:Int)<=16)/\(p.tables.length:Int)<=16):=by
   unfold most;rw[Vm,Vm,Vm]
  omega
 rw[Ref15.limited_eq,limited,h1,h2,h3,h4]
 grind
theorem zb0(b:Bd):bd1 b=between b.lo b.hi:=by
 rw[Bool.eq_iff_iff]
 simp[bd1,sample,between]
 omega
theorem O0:∀(l:List Int) (i:Int),0<=i->(decide (nG l i>=0)) = !(l.all λv=>sample v)
 | [],i,_=>by simp[nG]
 |v::r,i,h=>by
  simp[nG]
  by_cases hv:sample v=true
  ·simp[hv]
   exact O0 r (i+1) (by omega)
  ·simp[hv,h]
theorem Ri(x:Ex):nD x = !(decide (x.n>2147483648) || (x.kind==18&&decide (x.n<1))):=by
 grind[nD]
theorem I4(x:Ex):every nD x=numbers x:=by
 refine Ex.ind (P:=λx=>every nD x=numbers x) (λx ih=>?_) x
 rw[yS,DV,Ri]
 generalize x.l=l at ih
 induction l with
 |nil=>rfl
 |cons y r ih2=>
  grind[uU,qN]
theorem LX(p:Pr):ranged p=Ref15.ranged p:=by
 rw[Ref15.ranged_eq,ranged]
 have h1:(allB p).all bd1=(UU p.params&&(UU p.states&&z5d p.lines)):=by
  have e:bd1=λb=>between b.lo b.hi:=by grind[zb0]
  rw[e]
  simp[allB]
  rfl
 have h2:p.tables.all tb2=z5e p.tables:=by
  congr 1;funext t
  simp only[tb2,bad]
  rw[O0 t.values 0 (by omega),Bool.not_not]
  congr 1;funext v
  rw[Bool.eq_iff_iff];simp only[sample,between,Bool.and_eq_true,decide_eq_true_eq];omega
 grind[sm2,z5f,I4]
theorem zb1(c:UInt8):Q5 c=Ref03.part c:=by
 simp only[Q5,Ref03.part,cls]
 cases Ref03.letter c with
 |true=>rfl
 |false=>
  cases Ref03.figure c with
  |true=>rfl
  |false=>
   cases hu:((c.toNat:Int)==95)with
   |true=>rfl
   |false=>
    simp only[Bool.false_eq_true,if_false]
    split<;>try rfl
    split<;>rfl
theorem Rj(c:UInt8):(cls c==2)=Ref03.letter c:=by
 simp[cls]
 grind
theorem Y0(s:Str):FC s=Ref03.name s:=by
 simp[FC,Ref03.name,bne]
 rw[Rj]
 grind[zb1]
theorem contains_cons(b:UInt8)(l sub:Str):Lib.contains (b::l) sub=(sub.isPrefixOf (b::l) || Lib.contains l sub):=by
 simp[Lib.contains,Lib.index]
 grind
theorem contains_nil(c:UInt8)(sub:Str):Lib.contains [] (c::sub)=false:=by rfl
def Bc:List Str->Str
 | []=>[32]
 |w::r=>32::(w++Bc r)
theorem vz(s:Str):∀(w:Str) (t:Str),(32:UInt8) ∉ w->Lib.contains (w++t) (32::s)=Lib.contains t (32::s)
 | [],t,_=>rfl
 |c::w,t,h=>by
  simp at h
  rw[List.cons_append,contains_cons,vz s w t h.2]
  simp_all
theorem Be:∀(s w:Str) (t:Str),(32:UInt8) ∉ s->(32:UInt8) ∉ w->(s++[32]).isPrefixOf (w++32::t)=(w==s)
 | [],[],t,_,_=>by rfl
 | [],c::w,t,_,h=>by
  grind
 |a::s,[],t,h,_=>by
  grind
 |a::s,c::w,t,h1,h2=>by
  simp at h1 h2
  simp[List.isPrefixOf,Be s w t h1.2 h2.2]
  grind
theorem LY:∀ws,∃t,Bc ws=32::t
 | []=>⟨[],rfl⟩
 |w::r=>⟨w++Bc r,rfl⟩
theorem qA(s:Str)(hs:(32:UInt8) ∉ s):∀ws:List Str,(∀w∈ws,(32:UInt8) ∉ w)->Lib.contains (Bc ws) (32::(s++[32]))=ws.any λw=>w==s
 | [],_=>by
  rw[Bc,contains_cons,contains_nil]
  simp
 |w::r,h=>by
  have hw:=h w (by simp)
  obtain⟨t,ht⟩:=LY r
  rw[Bc,contains_cons,vz _ w _ hw,qA s hs r (λx hx=>h x (List.mem_cons_of_mem _ hx))]
  grind[Be]
theorem Vo(s:Str):∀(l:List Str) (i:Int),0<=i->decide (bn s l i>=0)=l.any λw=>w==s
 | [],i,_=>by simp[bn]
 |x::r,i,h=>by
  simp only[bn,List.any_cons]
  by_cases hx:(x==s)=true
  ·simp_all
  ·simp[hx]
   exact Vo s r (i+1) (by omega)
theorem Vp:OQ=Bc words:=by decide
theorem LZ:∀w∈words,(32:UInt8) ∉ w:=by decide
theorem Rk{s:Str}(h:s.all Ref03.part=true):(32:UInt8) ∉ s:=by
 intro hm
 have:=List.all_eq_true.1 h 32 hm
 revert this;decide
theorem z6e(s:Str):nmOk s=qm s:=by
 simp only[nmOk,qm,Y0]
 cases hn:Ref03.name s with
 |false=>rfl
 |true=>
  have hs:(32:UInt8) ∉ s:=by
   unfold Ref03.name at hn
   simp only[Bool.and_eq_true]at hn
   exact Rk hn.2
  rw[Vp,show([32]++s++[32]:Str)=32::(s++[32])by simp,qA s hs words LZ]
  grind[decide,find,words,Vo]
theorem I5(k:Int):∀(l:List Str) (i:Nat),jL (kX k l i)=l
 | [],_=>rfl
 |s::r,i=>by exact congrArg _ (I5 k r (i+1))
theorem I7:∀(l:List Sm) (i:Nat),jL (AO l i)=lets l
 | [],_=>rfl
 |s::r,i=>by
  have ih:=I7 r (i+1)
  simp[AO,lets,List.filter_cons]at ih ⊢
  split
  ·simp[jL,List.map_cons]at ih ⊢;rw[ih]
  ·exact ih
theorem Y1(a b:List Pe):jL (a++b)=jL a++jL b:=by simp[jL]
theorem Vq(p:Pr):jL (decl p)=eu p:=by
 simp[decl,T4,T3,T2,T1,Y1,I5,I7,eu]
theorem FX(s:Str):∀(l:List Str) (i:Int),bn s l i = -1\/i<=bn s l i
 | [],i=>.inl rfl
 |x::r,i=>by
  simp[bn]
  split
  ·omega
  ·rcases FX s r (i+1)with h |h<;>omega
theorem vC:∀(r pre:List Str),(∀a∈pre,a ∉ r)->jc (pre++r) r (pre.length:Int)=Ci r
 | [],_,_=>rfl
 |s::r,pre,h=>by
  have hf:∀(pre:List Str) (i:Int),s ∉ pre->bn s (pre++s::r) i=i+pre.length:=by
   intro pre
   induction pre with
   |nil=>grind[bn]
   |cons a pre ih=>
    simp only[List.cons_append,bn]
    grind
  have hs:s ∉ pre:=λhm=>h s hm (by simp)
  simp only[jc,Ci]
  have e1:(find (pre++s::r) s != (pre.length:Int))=false:=by
   have:=hf pre 0 hs
   simp only[find,this,Int.zero_add,bne_self_eq_false]
  rw[e1]
  cases hb:G7 s r with
  |false=>
   have:=vC r (pre++[s]) (by
    intro a ha hr
    rcases List.mem_append.1 ha with ha |ha
    ·exact h a ha (List.mem_cons_of_mem _ hr)
    ·simp at ha;subst ha
     rw[yU.2 hr]at hb;simp at hb)
   simpa using this
  |true=>
   have hm:=yU.1 hb
   have key:∀(r2:List Str) (pre2:List Str),s∈r2->s∈pre2->jc (pre2++r2) r2 (pre2.length:Int)=false:=by
    intro r2
    induction r2 with
    |nil=>simp
    |cons a r2 ih=>
     intro pre2 hm2 hp
     simp only[jc]
     by_cases e:a=s
     ·subst e
      have hlt:∀(pre:List Str) (i:Int),0<=i->a∈pre->bn a (pre++a::r2) i<i+pre.length:=by
       intro pre
       induction pre with
       |nil=>simp
       |cons b pre ih2=>
        intro i hi hm
        simp only[List.cons_append,bn]
        split<;>try(simp;omega;done)
        rename_i hne
        have:a∈pre:=by
         rcases List.mem_cons.1 hm with h |h
         ·exact absurd h.symm (by simpa using hne)
         ·exact h
        have:=ih2 (i+1) (by omega) this
        simp;omega
      have:=hlt pre2 0 (by omega) hp
      have hne:(find (pre2++a::r2) a != (pre2.length:Int))=true:=by
       simp only[find,bne_iff_ne,ne_eq];omega
      rw[hne];rfl
     ·have hm3:s∈r2:=by
       grind
      have:=ih (pre2++[a]) hm3 (by simp[hp])
      simp_all
   have:=key r (pre++[s]) hm (by simp)
   simpa using this
theorem L6(l:List Str):jc l l 0=Ci l:=by
 have:=vC l [] (by simp)
 simpa using this
theorem O1{n:Str}:∀{l:List Str} (i:Int),n ∉ l->bn n l i = -1
 | [],_,_=>rfl
 |x::r,i,h=>by
  simp at h
  have:(x==n)=false:=by grind
  simp[bn,this]
  exact O1 (i+1) h.2
theorem find_inj{a b:Str}:∀{l:List Str} (i:Int),0<=i->bn a l i=bn b l i->0<=bn a l i->a=b
 | [],_,_,_,h=>by simp[bn]at h
 |x::r,i,hi,h,h2=>by
  simp[bn]at h h2
  have ha:=FX a r (i+1)
  have hb:=FX b r (i+1)
  split at h<;>try grind
  rename_i hxa
  split at h
  ·omega
  ·rw[if_neg hxa]at h2
   exact find_inj (i+1) (by omega) h h2
theorem z18(n:Str):∀a b:List Pe,lk n (a++b)=match lk n a with |some e=>some e |none=>lk n b
 | [],_=>rfl
 |x::a,b=>by
  simp[lk]
  split
  ·rfl
  ·exact z18 n a b
theorem Vr(n:Str)(k:Int):∀(l:List Str) (i:Nat),lk n (kX k l i)=if bn n l i<0 then none else some ⟨k,bn n l i,0⟩
 | [],i=>by rfl
 |x::r,i=>by
  have ih:=Vr n k r (i+1)
  simp[kX,lk,bn]
  grind
theorem FY(n:Str):∀(l:List Sm) (i:Int),aG n l i = -1\/i<=aG n l i
 | [],i=>.inl rfl
 |x::r,i=>by
  simp[aG]
  split
  ·omega
  ·rcases FY n r (i+1)with h |h<;>omega
theorem Vs(n:Str):∀(l:List Sm) (i:Nat),lk n (AO l i)=if aG n l i<0 then none else some ⟨5,aG n l i,aG n l i+1⟩
 | [],i=>by rfl
 |x::r,i=>by
  have ih:=Vs n r (i+1)
  simp only[AO,aG]
  by_cases hk:x.kind=1
  ·have hk':(x.kind==1)=true:=by simpa using hk
   simp[hk',lk]
   grind
  simp_all
theorem Bf{n:Str}:∀{l:List Sm} (i:Int),n ∉ lets l->aG n l i = -1
 | [],_,_=>rfl
 |x::r,i,h=>by
  simp only[aG]
  by_cases hk:x.kind=1
  ·simp only[lets,List.filter_cons,hk,beq_self_eq_true,if_true,List.map_cons,List.mem_cons,not_or]at h
   have h2:(x.name==n)=false:=by grind
   simp[h2]
   exact Bf (i+1) h.2
  ·have hk':(x.kind==1)=false:=by simpa using hk
   simp only[lets,List.filter_cons,hk']at h
   simp[hk']
   exact Bf (i+1) h
theorem D6(n:Str):∀(l:List Sm) (b:Nat) (i:Int),0<=i->aG n (l.take b) i=if aG n l i<i+b then aG n l i else -1
 | [],b,i,hi=>by
  grind[aG]
 |x::r,0,i,hi=>by
  simp only[List.take_zero,aG]
  have:=FY n r (i+1)
  split
  ·simp
  ·split
   ·omega
   ·rfl
 |x::r,b+1,i,hi=>by
  simp[aG]
  split
  ·omega
  ·rw[D6 n r b (i+1) (by omega)]
   omega
theorem z6f(p:Pr)(n:Str):lk n (decl p) =
  if 0<=find (bounds p.params) n then some ⟨3,find (bounds p.params) n,0⟩
  else if 0<=find (bounds p.states) n then some ⟨4,find (bounds p.states) n,0⟩
  else if 0<=find (lines p) n then some ⟨8,find (lines p) n,0⟩
  else if 0<=find (tables p) n then some ⟨9,find (tables p) n,0⟩
  else if 0<=aG n p.stmts 0 then some ⟨5,aG n p.stmts 0,aG n p.stmts 0+1⟩else none:=by
 have e0:∀(k:Int) (l:List Str),lk n (kX k l 0)=if 0<=find l n then some ⟨k,find l n,0⟩else none:=λk l=>by
  have h:lk n (kX k l 0)=if find l n<0 then none else some ⟨k,find l n,0⟩:=Vr n k l 0
  grind
 have e1:lk n (AO p.stmts 0)=if 0<=aG n p.stmts 0 then some ⟨5,aG n p.stmts 0,aG n p.stmts 0+1⟩else none:=by
  have h:lk n (AO p.stmts 0)=if aG n p.stmts 0<0 then none else some ⟨5,aG n p.stmts 0,aG n p.stmts 0+1⟩:=Vs n p.stmts 0
  grind
 simp[decl,T4,T3,T2,T1,z18]
 grind
structure At(p:Pr)(n:Str)(a b c d g:Int):Prop where
 ha:find (bounds p.params) n=a
 hb:find (bounds p.states) n=b
 hc:find (lines p) n=c
 hd:find (tables p) n=d
 hg:aG n p.stmts 0=g
variable {p : Pr}
theorem FZ(l:List Str)(n:Str):find l n = -1\/0<=find l n:=by
 rcases FX n l 0 with h |h
 ·exact .inl h
 ·exact .inr h
theorem Y2(l:List Sm)(n:Str):aG n l 0 = -1\/0<=aG n l 0:=by
 grind[FY]
theorem eH{l:List Str}{n:Str}(h:0<=find l n):n∈l:=by
 grind[find,O1]
theorem vF{l:List Sm}{n:Str}(h:0<=aG n l 0):n∈lets l:=by
 grind[Bf]
theorem yY(hu:(eu p).Nodup)(n:Str) :
  (∃a,0<=a/\At p n a (-1) (-1) (-1) (-1)/\lk n (decl p)=some ⟨3,a,0⟩) \/
  (∃a,0<=a/\At p n (-1) a (-1) (-1) (-1)/\lk n (decl p)=some ⟨4,a,0⟩) \/
  (∃a,0<=a/\At p n (-1) (-1) a (-1) (-1)/\lk n (decl p)=some ⟨8,a,0⟩) \/
  (∃a,0<=a/\At p n (-1) (-1) (-1) a (-1)/\lk n (decl p)=some ⟨9,a,0⟩) \/
  (∃a,0<=a/\At p n (-1) (-1) (-1) (-1) a/\lk n (decl p)=some ⟨5,a,a+1⟩) \/
  (At p n (-1) (-1) (-1) (-1) (-1)/\lk n (decl p)=none):=by
 have hl:=z6f p n
 simp only[eu,List.nodup_append]at hu
 obtain⟨⟨⟨⟨hA,hB,hAB⟩,hC,hABC⟩,hD,hABCD⟩,hE,hABCDE⟩:=hu
 have ea:=FZ (bounds p.params) n
 have eb:=FZ (bounds p.states) n
 have ec:=FZ (lines p) n
 have ed:=FZ (tables p) n
 have eg:=Y2 p.stmts n
 have no:∀{l m:List Str},(∀a∈l,∀b∈m,a≠b)->n∈l->n∈m->False:=λh h1 h2=>h n h1 n h2 rfl
 have xAB:¬(0<=find (bounds p.params) n/\0<=find (bounds p.states) n):=λ⟨h1,h2⟩=>no hAB (eH h1) (eH h2)
 have xAC:¬(0<=find (bounds p.params) n/\0<=find (lines p) n):=λ⟨h1,h2⟩=>no hABC (by simp[eH h1]) (eH h2)
 have xBC:¬(0<=find (bounds p.states) n/\0<=find (lines p) n):=λ⟨h1,h2⟩=>no hABC (by simp[eH h1]) (eH h2)
 have xAD:¬(0<=find (bounds p.params) n/\0<=find (tables p) n):=λ⟨h1,h2⟩=>no hABCD (by simp[eH h1]) (eH h2)
 have xBD:¬(0<=find (bounds p.states) n/\0<=find (tables p) n):=λ⟨h1,h2⟩=>no hABCD (by simp[eH h1]) (eH h2)
 have xCD:¬(0<=find (lines p) n/\0<=find (tables p) n):=λ⟨h1,h2⟩=>no hABCD (by simp[eH h1]) (eH h2)
 have xAE:¬(0<=find (bounds p.params) n/\0<=aG n p.stmts 0):=λ⟨h1,h2⟩=>no hABCDE (by simp[eH h1]) (vF h2)
 have xBE:¬(0<=find (bounds p.states) n/\0<=aG n p.stmts 0):=λ⟨h1,h2⟩=>no hABCDE (by simp[eH h1]) (vF h2)
 have xCE:¬(0<=find (lines p) n/\0<=aG n p.stmts 0):=λ⟨h1,h2⟩=>no hABCDE (by simp[eH h1]) (vF h2)
 have xDE:¬(0<=find (tables p) n/\0<=aG n p.stmts 0):=λ⟨h1,h2⟩=>no hABCDE (by simp[eH h1]) (vF h2)
 rcases ea with ea |ea
 ·rw[if_neg (show ¬0<=find (bounds p.params) n by omega)]at hl
  rcases eb with eb |eb
  ·rw[if_neg (show ¬0<=find (bounds p.states) n by omega)]at hl
   rcases ec with ec |ec
   ·rw[if_neg (show ¬0<=find (lines p) n by omega)]at hl
    rcases ed with ed |ed
    ·rw[if_neg (show ¬0<=find (tables p) n by omega)]at hl
     rcases eg with eg |eg
     ·rw[if_neg (show ¬0<=aG n p.stmts 0 by omega)]at hl
      exact .inr (.inr (.inr (.inr (.inr ⟨⟨ea,eb,ec,ed,eg⟩,hl⟩))))
     ·rw[if_pos eg]at hl
      exact .inr (.inr (.inr (.inr (.inl ⟨_,eg,⟨ea,eb,ec,ed,rfl⟩,hl⟩))))
    ·rw[if_pos ed]at hl
     exact .inr (.inr (.inr (.inl ⟨_,ed,⟨ea,eb,ec,rfl,by omega⟩,hl⟩)))
   ·rw[if_pos ec]at hl
    exact .inr (.inr (.inl ⟨_,ec,⟨ea,eb,rfl,by omega,by omega⟩,hl⟩))
  ·rw[if_pos eb]at hl
   exact .inr (.inl ⟨_,eb,⟨ea,rfl,by omega,by omega,by omega⟩,hl⟩)
 ·rw[if_pos ea]at hl
  exact .inl ⟨_,ea,⟨rfl,by omega,by omega,by omega,by omega⟩,hl⟩
theorem Y3{n:Str}{a b c d g:Int}(h:At p n a b c d g)(i:Nat):value p n i =
  if a<0 then(if b<0 then(⟨5,n,(if g<(i:Int)then g else -1),0,[]⟩,decide ((if g<(i:Int)then g else -1)>=0))else(⟨4,n,b,0,[]⟩,decide (b>=0)))else(⟨3,n,a,0,[]⟩,decide (a>=0)):=by
 have hg:given p n i=if g<(i:Int)then g else -1:=by
  simp[given]
  rw[D6 n p.stmts i 0 (by omega),h.hg,Int.zero_add]
 simp[value,h.ha,h.hb,hg]
theorem Y4(hu:(eu p).Nodup)(i:Nat)(x:Ex)(hf:Ref15.formed x=true) :
  FK (decl p) (i:Int) x=(bI p i x).2/\((bI p i x).2=true->vis (decl p) x=(bI p i x).1):=by
 revert hf
 refine Ex.ind (P:=λx=>Ref15.formed x=true->FK (decl p) (i:Int) x=(bI p i x).2/\((bI p i x).2=true->vis (decl p) x=(bI p i x).1)) (λx ih hf=>?_) x
 rw[Ref15.formed_eq]at hf
 simp at hf
 obtain⟨⟨⟨⟨hl,hnm⟩,hn⟩,hn0⟩,hfl⟩:=hf
 have hL:∀l:List Ex,(∀y∈l,y∈x.l)->Ref15.formeds l=true->tN (decl p) (i:Int) l=(dK p i l).2/\((dK p i l).2=true->XT (decl p) l=(dK p i l).1):=by
  intro l
  induction l with
  |nil=>intro _ _;exact⟨rfl,λ_=>rfl⟩
  |cons y r ih2=>
   intro hm hfr
   simp only[Ref15.formeds,Bool.and_eq_true]at hfr
   obtain⟨h1,h2⟩:=ih y (hm y (by simp)) hfr.1
   obtain⟨h3,h4⟩:=ih2 (λz hz=>hm z (List.mem_cons_of_mem _ hz)) hfr.2
   simp only[tN,dK,XT,h1,h3,Bool.and_eq_true,true_and]
   simp_all
 obtain⟨hL1,hL2⟩:=hL x.l (λ_ h=>h) hfl
 rw[FM,lI,z1w]
 simp only[vok,FI,YL,OZ,eok]
 by_cases hnk:named x.kind=true
 ·by_cases hak:arr x.kind=true
  ·-- a line or a table
   have h8:¬((named x.kind&&x.kind != 8&&x.kind != 9)=true):=by
    simp only[arr,Bool.or_eq_true,beq_iff_eq]at hak
    grind
   rw[if_neg h8]
   simp only[hnk,Bool.not_true,Bool.false_or,if_true,hak,Bool.not_true,Bool.and_false,Bool.or_false,hL1]
   simp only[arr,Bool.or_eq_true,beq_iff_eq]at hak
   rcases hak with hk |hk
   ·rcases yY hu x.name with⟨a,h0,hat,hlk⟩ |⟨a,h0,hat,hlk⟩ |⟨a,h0,hat,hlk⟩ |⟨a,h0,hat,hlk⟩ |⟨a,h0,hat,hlk⟩ |⟨hat,hlk⟩ <;>
     simp only[hlk,jP,hk,hat.hc,Bool.false_eq_true,if_false,if_true]<;>simp_all
   ·rcases yY hu x.name with⟨a,h0,hat,hlk⟩ |⟨a,h0,hat,hlk⟩ |⟨a,h0,hat,hlk⟩ |⟨a,h0,hat,hlk⟩ |⟨a,h0,hat,hlk⟩ |⟨hat,hlk⟩ <;>
     simp only[hlk,jP,hk,hat.hd,Bool.false_eq_true,if_false,if_true]<;>simp_all
  ·-- a value
   have hak:arr x.kind=false:=by simpa using hak
   have h8:(named x.kind&&x.kind != 8&&x.kind != 9)=true:=by
    grind[arr,Bool.or_eq_false_iff,bne,Bool.not_false,Bool.and_self]
   rw[if_pos h8]
   have hk:x.kind=2\/x.kind=3\/x.kind=4\/x.kind=5:=by
    simp only[arr,Bool.or_eq_false_iff,beq_eq_false_iff_ne,ne_eq]at hak
    simp only[named,Bool.or_eq_true,beq_iff_eq]at hnk
    omega
   have hp0:parts x.kind=0:=by rcases hk with h |h |h |h<;>rw[h]<;>rfl
   have hxl:x.l = []:=by
    simp_all
   have hxn:x.n=0:=by
    rcases hk with h |h |h |h<;>rw[h]at hn0<;>simpa[bne]using hn0
   simp only[hnk,Bool.not_true,Bool.false_or,if_true,hak,Bool.not_false,Bool.and_true,hxl,hxn,tN,XT]
   have e1:decide ((i:Int)>=0)=true:=by simp
   rcases yY hu x.name with⟨a,h0,hat,hlk⟩ |⟨a,h0,hat,hlk⟩ |⟨a,h0,hat,hlk⟩ |⟨a,h0,hat,hlk⟩ |⟨a,h0,hat,hlk⟩ |⟨hat,hlk⟩ <;>
    rw[Y3 hat]<;>simp only[hlk]
   ·have e2:decide (a>=0)=true:=by simpa using h0
    rw[if_neg (by omega),e1,e2];simp[arr]
   ·have e2:decide (a>=0)=true:=by simpa using h0
    rw[if_pos (by omega),if_neg (by omega),e1,e2];simp[arr]
   ·have e2:((8:Int)==x.kind)=false:=by grind
    rw[if_pos (by omega),if_pos (by omega),e2,if_pos (by omega)];simp[arr]
   ·have e2:((9:Int)==x.kind)=false:=by grind
    rw[if_pos (by omega),if_pos (by omega),e2,if_pos (by omega)];simp[arr]
   ·by_cases hg:a<(i:Int)
    ·rw[if_pos hg]
     grind[decide,arr]
    grind
   simp
 ·have hnk:named x.kind=false:=by simpa using hnk
  have hk8:(x.kind==8)=false:=by
   cases h:(x.kind==8)with
   |false=>rfl
   |true=>rw[show x.kind=8 by simpa using h]at hnk;cases hnk
  have hk9:(x.kind==9)=false:=by
   cases h:(x.kind==9)with
   |false=>rfl
   |true=>rw[show x.kind=9 by simpa using h]at hnk;cases hnk
  simp only[hnk,Bool.not_false,Bool.true_or,Bool.true_and,Bool.false_and,Bool.false_eq_true,if_false,jP,hk8,hk9,hL1]
  simp_all
theorem L8(hu:(eu p).Nodup)(s:Sm)(hs:G8 s.kind=true):target (decl p) s=if cZ p s<0 then none else some ⟨kindOf s.kind,cZ p s,0⟩:=by
 simp[G8]at hs
 rcases hs with hk |hk <;>
 rcases yY hu s.name with⟨a,h0,hat,hlk⟩ |⟨a,h0,hat,hlk⟩ |⟨a,h0,hat,hlk⟩ |⟨a,h0,hat,hlk⟩ |⟨a,h0,hat,hlk⟩ |⟨hat,hlk⟩ <;>
  simp[target,cZ,kindOf,hat.hb,hat.hc]<;>simp_all
theorem L9{s t:Sm}(hk:t.kind=s.kind)(h:cZ p t=cZ p s)(h0:0<=cZ p s)(hs:G8 s.kind=true):t.name=s.name:=by
 simp[G8]at hs
 simp[cZ,hk]at h h0
 rcases hs with e |e
 ·rw[e]at h h0;exact find_inj 0 (by omega) h (by grind[find])
 ·rw[e]at h h0;exact find_inj 0 (by omega) h (by grind[find])
def I8(p:Pr):List Sm->List (Int×Int)
 | []=>[]
 |s::r=>if G8 s.kind then(kindOf s.kind,cZ p s)::I8 p r else I8 p r
theorem F5(p:Pr):∀a b:List Sm,I8 p (a++b)=I8 p a++I8 p b
 | [],_=>rfl
 |s::a,b=>by
  simp[I8,F5 p a b]
  split<;>rfl
theorem D7{s:Sm}(hs:G8 s.kind=true)(h0:0<=cZ p s):∀pre:List Sm,nS (I8 p pre) (kindOf s.kind) (cZ p s)=pre.any λt=>t.kind==s.kind&&t.name==s.name
 | []=>rfl
 |t::r=>by
  have ih:=D7 hs h0 r
  have hcons:∀(x:Int×Int) l a b,nS (x::l) a b=((x.1==a&&x.2==b) || nS l a b):=λ_ _ _ _=>rfl
  simp[I8]
  by_cases ht:G8 t.kind=true
  ·rw[if_pos ht,hcons]
   congr 1
   rw[Bool.eq_iff_iff]
   simp
   constructor
   ·rintro⟨h1,h2⟩
    have hk:t.kind=s.kind:=by
     simp[G8]at hs ht
     grind[kindOf]
    grind[L9]
   ·rintro⟨h1,h2⟩
    simp[cZ,h1,h2]
  grind
theorem Y5{pre r:List Sm}{s:Sm}(e:p.stmts=pre++s::r):again p pre.length s=((pre.any λt=>t.kind==4) || (s.kind != 1&&pre.any λt=>t.kind==s.kind&&t.name==s.name)):=by
 simp[again,e]
 clear e
 induction pre with
 |nil=>simp
 |cons t pre ih=>
  simp[ih]
  cases (t.kind==4)<;>cases (s.kind != 1)<;>cases (t.kind==s.kind)<;>cases (t.name==s.name)<;>cases (pre.any λt=>t.kind==4)<;>cases (pre.any λt=>t.kind==s.kind&&t.name==s.name)<;>rfl
theorem F6(hu:(eu p).Nodup)(hF:Ref15.Formed p=true):∀(r pre:List Sm),p.stmts=pre++r->∀out,out=(pre.any λt=>t.kind==4) ->
  IM (decl p) r pre.length (I8 p pre) out=di p r pre.length out
 | [],pre,_,out,_=>by cases out<;>rfl
 |s::r,pre,e,out,ho=>by
  have hsm:stmtOk s=true:=List.all_eq_true.1 hF s (by rw[e];simp)
  simp only[stmtOk,Bool.not_eq_true',Bool.or_eq_false_iff,decide_eq_false_iff_not]at hsm
  obtain⟨⟨⟨hk1,hk2⟩,_⟩,hfx⟩:=hsm
  have hfx:Ref15.formed s.x=true:=by simpa using hfx
  obtain⟨h1,h2⟩:=Y4 hu pre.length s.x hfx
  simp only[IM,di]
  rw[<-h1]
  cases hv:FK (decl p) (pre.length:Int) s.x with
  |false=>simp[lZ,hv]
  |true=>
   have h2:=h2 (by simp_all)
   rw[Y5 e,<-ho]
   by_cases hs:G8 s.kind=true
   ·have ht:=L8 hu s hs
    by_cases h0:cZ p s<0<;>try grind[lZ]
    rw[if_neg h0]at ht
    have hd:=D7 hs (by omega:0<=cZ p s) pre
    have hn1:(s.kind != 1)=true:=by
     simp only[G8,Bool.or_eq_true,beq_iff_eq]at hs
     grind
    simp only[lZ,hv,hs,ht,Bool.not_true,Bool.false_eq_true,if_false,if_true]
    rw[show((I8 p pre).any λd=>d.1==kindOf s.kind&&d.2==cZ p s)=nS (I8 p pre) (kindOf s.kind) (cZ p s)from rfl,hd,hn1]
    simp only[h0,decide_false,Bool.true_and,Bool.false_eq_true,if_false]
    cases out with
    |true=>simp
    |false=>
     cases hb:(pre.any λt=>t.kind==s.kind&&t.name==s.name)with
     |true=>simp
     |false=>
      have ih:=F6 hu hF r (pre++[s]) (by rw[e];simp) (s.kind==4) (by simp[<-ho])
      have hdn:xh (decl p) s (I8 p pre)=I8 p (pre++[s]):=by
       rw[F5];simp only[xh,hs,ht,if_true,I8]
      rw[hdn]
      simp at ih
      rw[ih]
      have ho2:outS (decl p) s=⟨s.kind,s.name,cZ p s,(bI p pre.length s.x).1⟩:=by
       simp only[outS,z5l,hs,ht,if_true,h2]
      grind
   ·have hs:G8 s.kind=false:=by simpa using hs
    have hsm0:cZ p s=0:=by
     simp only[G8,Bool.or_eq_false_iff]at hs
     simp only[cZ,hs.1,hs.2,Bool.false_eq_true,if_false]
    have hk14:s.kind=1\/s.kind=4:=by
     simp only[G8,Bool.or_eq_false_iff,beq_eq_false_iff_ne,ne_eq]at hs
     omega
    have hag:(out || (s.kind != 1&&pre.any λt=>t.kind==s.kind&&t.name==s.name))=out:=by
     grind
    rw[hag]
    simp only[lZ,hv,hs,hsm0,Bool.not_true,Bool.false_eq_true,if_false]
    cases out with
    |true=>simp
    |false=>
     have ih:=F6 hu hF r (pre++[s]) (by rw[e];simp) (s.kind==4) (by simp[<-ho])
     have hdn:xh (decl p) s (I8 p pre)=I8 p (pre++[s]):=by
      rw[F5];simp only[xh,hs,Bool.false_eq_true,if_false,I8,List.append_nil]
     rw[hdn]
     simp at ih
     rw[ih]
     have ho2:outS (decl p) s=⟨s.kind,s.name,0,(bI p pre.length s.x).1⟩:=by
      simp only[outS,z5l,hs,Bool.false_eq_true,if_false,h2]
     grind
theorem resolve_same(p:Pr):resolveC p=Ref15.Resolve p:=by
 unfold resolveC Ref15.Resolve
 rw[LW,IZ,Vq,LX,L6]
 have e:(p.name::eu p).all nmOk=(qm p.name&&(eu p).all qm):=by
  have:nmOk=qm:=by funext s;exact z6e s
  rw[List.all_cons,this]
 rw[e]
 cases hF:Formed p with
 |false=>rfl
 |true=>
  cases hL:Ref15.limited p with
  |false=>rfl
  |true=>
   cases h1:qm p.name with
   |false=>rfl
   |true=>
    cases h2:(eu p).all qm with
    |false=>rfl
    |true=>
     cases h3:Ci (eu p)with
     |false=>rfl
     |true=>
      cases h4:Ref15.ranged p with
      |false=>rfl
      |true=>
       have:=F6 (qw.1 h3) hF p.stmts [] rfl false rfl
       simp
       exact congrArg _ this
end Go.Fw.Nam
