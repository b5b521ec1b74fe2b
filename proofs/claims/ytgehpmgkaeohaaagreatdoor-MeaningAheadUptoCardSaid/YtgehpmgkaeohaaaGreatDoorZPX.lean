/- A part of the proof. -/
import Derived.Test.YtgehpmgkaeohaaaGreatDoorZDB
set_option linter.all false
namespace Go.Fw.Nam
variable [ae]
open Ref15
theorem kinds_cases{k:Int}(h:1<=k/\k<=19):k=1\/k=2\/k=3\/k=4\/k=5\/k=6\/k=7\/k=8\/k=9\/k=10\/k=11\/k=12\/k=13\/k=14\/k=15\/k=16\/k=17\/k=18\/k=19:=by omega
theorem zd7{k n:Int}(h:¬(k=n)):(k==n)=false:=by simpa using h
theorem PL(k:Int):arity k=(parts k,named k):=by
 by_cases h:1<=k/\k<=19
 ·rcases kinds_cases h with h |h |h |h |h |h |h |h |h |h |h |h |h |h |h |h |h |h |h<;>subst h<;>rfl
 ·have e:∀n:Int,1<=n->n<=19->(k==n)=false:=λn h1 h2=>zd7 (by omega)
  simp[arity,parts,named,e]
theorem SI(x:Ex):lD x=(!((x.l.length:Int) != parts x.kind || (!named x.kind&&x.name != []) || decide (x.n<0)) && !(x.kind != 1&&x.kind != 18&&x.n != 0)):=by
 grind[lD,PL]
theorem Jr(x:Ex):every lD x=Ref15.formed x:=by
 refine Ex.ind (P:=λx=>every lD x=Ref15.formed x) (λx ih=>?_) x
 rw[zt,Ref15.formed_eq,SI]
 congr 1
 generalize x.l=l at ih
 induction l with
 |nil=>rfl
 |cons y r ih2=>
  grind[vM,Ref15.formeds]
theorem MS(p:Pr):formed p=Ref15.Formed p:=by
 unfold formed Ref15.Formed
 grind[Jr,Zq,Ref15.stmtOk]
theorem We(a b n:Int):mm2 true a b<=n↔a<=n/\b<=n:=by
 grind[mm2]
theorem Js(p:Pr):limited p=Ref15.limited p:=by
 have h1:p.lines.all ln1=p.lines.all Bi:=by
  grind[ln1,Bi]
 have h2:p.tables.all tb1=p.tables.all lu:=by
  grind[tb1,lu]
 have h3:p.stmts.all sm1=p.stmts.all Ey:=by
  grind[sm1,Ey,nodes]
 have h4:z7r p=(few p&&memOk p):=by
  rw[Bool.eq_iff_iff]
  simp only[z7r,few,memOk,Bool.and_eq_true,Bool.not_eq_true',Bool.or_eq_false_iff,decide_eq_true_eq,decide_eq_false_iff_not]
  have hm:most p<=16↔((((p.params.length:Int)<=16/\(p.states.length:Int)<=16)/\(p.lines.length:Int)<=16)/\(p.tables.length:Int)<=16):=by
   unfold most;rw[We,We,We]
  omega
 rw[Ref15.limited_eq,limited,h1,h2,h3,h4]
 grind
theorem zd8(b:Bd):bd1 b=between b.lo b.hi:=by
 rw[Bool.eq_iff_iff]
 simp[bd1,sample,between]
 omega
theorem PN:∀(l:List Int) (i:Int),0<=i->(decide (mY l i>=0)) = !(l.all λv=>sample v)
 | [],i,_=>by simp[mY]
 |v::r,i,h=>by
  simp[mY]
  by_cases hv:sample v=true
  ·simp[hv]
   exact PN r (i+1) (by omega)
  ·simp[hv,h]
theorem SK(x:Ex):mX x = !(decide (x.n>2147483648) || (x.kind==18&&decide (x.n<1))):=by
 grind[mX]
theorem Jt(x:Ex):every mX x=numbers x:=by
 refine Ex.ind (P:=λx=>every mX x=numbers x) (λx ih=>?_) x
 rw[zt,Ez,SK]
 generalize x.l=l at ih
 induction l with
 |nil=>rfl
 |cons y r ih2=>
  grind[vM,qU]
theorem MV(p:Pr):ranged p=Ref15.ranged p:=by
 rw[Ref15.ranged_eq,ranged]
 have h1:(allB p).all bd1=(VB p.params&&(VB p.states&&z7o p.lines)):=by
  have e:bd1=λb=>between b.lo b.hi:=by grind[zd8]
  rw[e]
  simp[allB]
  rfl
 have h2:p.tables.all tb2=z7p p.tables:=by
  congr 1;funext t
  simp only[tb2,bad]
  rw[PN t.values 0 (by omega),Bool.not_not]
  congr 1;funext v
  rw[Bool.eq_iff_iff];simp only[sample,between,Bool.and_eq_true,decide_eq_true_eq];omega
 grind[sm2,z7q,Jt]
theorem zd9(c:UInt8):Bo c=Ref03.part c:=by
 simp only[Bo,Ref03.part,cls]
 cases Ref03.letter c with
 |true=>rfl
 |false=>
  cases Ref03.figure c with
  |true=>rfl
  |false=>
   cases hu:((c.toNat:Int)==95)with
   |true=>rfl
   |false=>
    simp only[Bool.false_eq_true,if_false]
    split<;>try rfl
    split<;>rfl
theorem SL(c:UInt8):(cls c==2)=Ref03.letter c:=by
 simp[cls]
 grind
theorem ZP(s:Str):ui s=Ref03.name s:=by
 simp[ui,Ref03.name,bne]
 rw[SL]
 grind[zd9]
theorem contains_cons(b:UInt8)(l sub:Str):Lib.contains (b::l) sub=(sub.isPrefixOf (b::l) || Lib.contains l sub):=by
 simp[Lib.contains,Lib.index]
 grind
theorem contains_nil(c:UInt8)(sub:Str):Lib.contains [] (c::sub)=false:=by rfl
def BH:List Str->Str
 | []=>[32]
 |w::r=>32::(w++BH r)
theorem vU(s:Str):∀(w:Str) (t:Str),(32:UInt8) ∉ w->Lib.contains (w++t) (32::s)=Lib.contains t (32::s)
 | [],t,_=>rfl
 |c::w,t,h=>by
  simp at h
  rw[List.cons_append,contains_cons,vU s w t h.2]
  simp_all
theorem BI:∀(s w:Str) (t:Str),(32:UInt8) ∉ s->(32:UInt8) ∉ w->(s++[32]).isPrefixOf (w++32::t)=(w==s)
 | [],[],t,_,_=>by rfl
 | [],c::w,t,_,h=>by
  grind
 |a::s,[],t,h,_=>by
  grind
 |a::s,c::w,t,h1,h2=>by
  simp at h1 h2
  simp[List.isPrefixOf,BI s w t h1.2 h2.2]
  grind
theorem MW:∀ws,∃t,BH ws=32::t
 | []=>⟨[],rfl⟩
 |w::r=>⟨w++BH r,rfl⟩
theorem qE(s:Str)(hs:(32:UInt8) ∉ s):∀ws:List Str,(∀w∈ws,(32:UInt8) ∉ w)->Lib.contains (BH ws) (32::(s++[32]))=ws.any λw=>w==s
 | [],_=>by
  rw[BH,contains_cons,contains_nil]
  simp
 |w::r,h=>by
  have hw:=h w (by simp)
  obtain⟨t,ht⟩:=MW r
  rw[BH,contains_cons,vU _ w _ hw,qE s hs r (λx hx=>h x (List.mem_cons_of_mem _ hx))]
  grind[BI]
theorem Wh(s:Str):∀(l:List Str) (i:Int),0<=i->decide (aX s l i>=0)=l.any λw=>w==s
 | [],i,_=>by simp[aX]
 |x::r,i,h=>by
  simp only[aX,List.any_cons]
  by_cases hx:(x==s)=true
  ·simp_all
  ·simp[hx]
   exact Wh s r (i+1) (by omega)
theorem Wi:Py=BH words:=by decide
theorem MX:∀w∈words,(32:UInt8) ∉ w:=by decide
theorem SN{s:Str}(h:s.all Ref03.part=true):(32:UInt8) ∉ s:=by
 intro hm
 have:=List.all_eq_true.1 h 32 hm
 revert this;decide
theorem z8o(s:Str):nmOk s=qw s:=by
 simp only[nmOk,qw,ZP]
 cases hn:Ref03.name s with
 |false=>rfl
 |true=>
  have hs:(32:UInt8) ∉ s:=by
   unfold Ref03.name at hn
   simp only[Bool.and_eq_true]at hn
   exact SN hn.2
  rw[Wi,show([32]++s++[32]:Str)=32::(s++[32])by simp,qE s hs words MX]
  grind[decide,find,words,Wh]
theorem Ju(k:Int):∀(l:List Str) (i:Nat),jw (kN k l i)=l
 | [],_=>rfl
 |s::r,i=>by exact congrArg _ (Ju k r (i+1))
theorem Jv:∀(l:List Sm) (i:Nat),jw (Bq l i)=lets l
 | [],_=>rfl
 |s::r,i=>by
  have ih:=Jv r (i+1)
  simp[Bq,lets,List.filter_cons]at ih ⊢
  split
  ·simp[jw,List.map_cons]at ih ⊢;rw[ih]
  ·exact ih
theorem ZQ(a b:List Pe):jw (a++b)=jw a++jw b:=by simp[jw]
theorem Wj(p:Pr):jw (decl p)=eu p:=by
 simp[decl,T4,T3,T2,T1,ZQ,Ju,Jv,eu]
theorem GH(s:Str):∀(l:List Str) (i:Int),aX s l i = -1\/i<=aX s l i
 | [],i=>.inl rfl
 |x::r,i=>by
  simp[aX]
  split
  ·omega
  ·rcases GH s r (i+1)with h |h<;>omega
theorem vV:∀(r pre:List Str),(∀a∈pre,a ∉ r)->iV (pre++r) r (pre.length:Int)=Dw r
 | [],_,_=>rfl
 |s::r,pre,h=>by
  have hf:∀(pre:List Str) (i:Int),s ∉ pre->aX s (pre++s::r) i=i+pre.length:=by
   intro pre
   induction pre with
   |nil=>grind[aX]
   |cons a pre ih=>
    simp only[List.cons_append,aX]
    grind
  have hs:s ∉ pre:=λhm=>h s hm (by simp)
  simp only[iV,Dw]
  have e1:(find (pre++s::r) s != (pre.length:Int))=false:=by
   have:=hf pre 0 hs
   simp only[find,this,Int.zero_add,bne_self_eq_false]
  rw[e1]
  cases hb:Ia s r with
  |false=>
   have:=vV r (pre++[s]) (by
    intro a ha hr
    rcases List.mem_append.1 ha with ha |ha
    ·exact h a ha (List.mem_cons_of_mem _ hr)
    ·simp at ha;subst ha
     rw[zA.2 hr]at hb;simp at hb)
   simpa using this
  |true=>
   have hm:=zA.1 hb
   have key:∀(r2:List Str) (pre2:List Str),s∈r2->s∈pre2->iV (pre2++r2) r2 (pre2.length:Int)=false:=by
    intro r2
    induction r2 with
    |nil=>simp
    |cons a r2 ih=>
     intro pre2 hm2 hp
     simp only[iV]
     by_cases e:a=s
     ·subst e
      have hlt:∀(pre:List Str) (i:Int),0<=i->a∈pre->aX a (pre++a::r2) i<i+pre.length:=by
       intro pre
       induction pre with
       |nil=>simp
       |cons b pre ih2=>
        intro i hi hm
        simp only[List.cons_append,aX]
        split<;>try(simp;omega;done)
        rename_i hne
        have:a∈pre:=by
         rcases List.mem_cons.1 hm with h |h
         ·exact absurd h.symm (by simpa using hne)
         ·exact h
        have:=ih2 (i+1) (by omega) this
        simp;omega
      have:=hlt pre2 0 (by omega) hp
      have hne:(find (pre2++a::r2) a != (pre2.length:Int))=true:=by
       simp only[find,bne_iff_ne,ne_eq];omega
      rw[hne];rfl
     ·have hm3:s∈r2:=by
       grind
      have:=ih (pre2++[a]) hm3 (by simp[hp])
      simp_all
   have:=key r (pre++[s]) hm (by simp)
   simpa using this
theorem MZ(l:List Str):iV l l 0=Dw l:=by
 have:=vV l [] (by simp)
 simpa using this
theorem PO{n:Str}:∀{l:List Str} (i:Int),n ∉ l->aX n l i = -1
 | [],_,_=>rfl
 |x::r,i,h=>by
  simp at h
  have:(x==n)=false:=by grind
  simp[aX,this]
  exact PO (i+1) h.2
theorem find_inj{a b:Str}:∀{l:List Str} (i:Int),0<=i->aX a l i=aX b l i->0<=aX a l i->a=b
 | [],_,_,_,h=>by simp[aX]at h
 |x::r,i,hi,h,h2=>by
  simp[aX]at h h2
  have ha:=GH a r (i+1)
  have hb:=GH b r (i+1)
  split at h<;>try grind
  rename_i hxa
  split at h
  ·omega
  ·rw[if_neg hxa]at h2
   exact find_inj (i+1) (by omega) h h2
theorem z3y(n:Str):∀a b:List Pe,lk n (a++b)=match lk n a with |some e=>some e |none=>lk n b
 | [],_=>rfl
 |x::a,b=>by
  simp[lk]
  split
  ·rfl
  ·exact z3y n a b
theorem Wl(n:Str)(k:Int):∀(l:List Str) (i:Nat),lk n (kN k l i)=if aX n l i<0 then none else some ⟨k,aX n l i,0⟩
 | [],i=>by rfl
 |x::r,i=>by
  have ih:=Wl n k r (i+1)
  simp[kN,lk,aX]
  grind
theorem GI(n:Str):∀(l:List Sm) (i:Int),aA n l i = -1\/i<=aA n l i
 | [],i=>.inl rfl
 |x::r,i=>by
  simp[aA]
  split
  ·omega
  ·rcases GI n r (i+1)with h |h<;>omega
theorem Wn(n:Str):∀(l:List Sm) (i:Nat),lk n (Bq l i)=if aA n l i<0 then none else some ⟨5,aA n l i,aA n l i+1⟩
 | [],i=>by rfl
 |x::r,i=>by
  have ih:=Wn n r (i+1)
  simp only[Bq,aA]
  by_cases hk:x.kind=1
  ·have hk':(x.kind==1)=true:=by simpa using hk
   simp[hk',lk]
   grind
  simp_all
theorem BJ{n:Str}:∀{l:List Sm} (i:Int),n ∉ lets l->aA n l i = -1
 | [],_,_=>rfl
 |x::r,i,h=>by
  simp only[aA]
  by_cases hk:x.kind=1
  ·simp only[lets,List.filter_cons,hk,beq_self_eq_true,if_true,List.map_cons,List.mem_cons,not_or]at h
   have h2:(x.name==n)=false:=by grind
   simp[h2]
   exact BJ (i+1) h.2
  ·have hk':(x.kind==1)=false:=by simpa using hk
   simp only[lets,List.filter_cons,hk']at h
   simp[hk']
   exact BJ (i+1) h
theorem EI(n:Str):∀(l:List Sm) (b:Nat) (i:Int),0<=i->aA n (l.take b) i=if aA n l i<i+b then aA n l i else -1
 | [],b,i,hi=>by
  grind[aA]
 |x::r,0,i,hi=>by
  simp only[List.take_zero,aA]
  have:=GI n r (i+1)
  split
  ·simp
  ·split
   ·omega
   ·rfl
 |x::r,b+1,i,hi=>by
  simp[aA]
  split
  ·omega
  ·rw[EI n r b (i+1) (by omega)]
   omega
theorem z8p(p:Pr)(n:Str):lk n (decl p) =
  if 0<=find (bounds p.params) n then some ⟨3,find (bounds p.params) n,0⟩
  else if 0<=find (bounds p.states) n then some ⟨4,find (bounds p.states) n,0⟩
  else if 0<=find (lines p) n then some ⟨8,find (lines p) n,0⟩
  else if 0<=find (tables p) n then some ⟨9,find (tables p) n,0⟩
  else if 0<=aA n p.stmts 0 then some ⟨5,aA n p.stmts 0,aA n p.stmts 0+1⟩else none:=by
 have e0:∀(k:Int) (l:List Str),lk n (kN k l 0)=if 0<=find l n then some ⟨k,find l n,0⟩else none:=λk l=>by
  have h:lk n (kN k l 0)=if find l n<0 then none else some ⟨k,find l n,0⟩:=Wl n k l 0
  grind
 have e1:lk n (Bq p.stmts 0)=if 0<=aA n p.stmts 0 then some ⟨5,aA n p.stmts 0,aA n p.stmts 0+1⟩else none:=by
  have h:lk n (Bq p.stmts 0)=if aA n p.stmts 0<0 then none else some ⟨5,aA n p.stmts 0,aA n p.stmts 0+1⟩:=Wn n p.stmts 0
  grind
 simp[decl,T4,T3,T2,T1,z3y]
 grind
structure At(p:Pr)(n:Str)(a b c d g:Int):Prop where
 ha:find (bounds p.params) n=a
 hb:find (bounds p.states) n=b
 hc:find (lines p) n=c
 hd:find (tables p) n=d
 hg:aA n p.stmts 0=g
variable {p : Pr}
theorem GK(l:List Str)(n:Str):find l n = -1\/0<=find l n:=by
 rcases GH n l 0 with h |h
 ·exact .inl h
 ·exact .inr h
theorem ZR(l:List Sm)(n:Str):aA n l 0 = -1\/0<=aA n l 0:=by
 grind[GI]
theorem eX{l:List Str}{n:Str}(h:0<=find l n):n∈l:=by
 grind[find,PO]
theorem vW{l:List Sm}{n:Str}(h:0<=aA n l 0):n∈lets l:=by
 grind[BJ]
theorem zD(hu:(eu p).Nodup)(n:Str) :
  (∃a,0<=a/\At p n a (-1) (-1) (-1) (-1)/\lk n (decl p)=some ⟨3,a,0⟩) \/
  (∃a,0<=a/\At p n (-1) a (-1) (-1) (-1)/\lk n (decl p)=some ⟨4,a,0⟩) \/
  (∃a,0<=a/\At p n (-1) (-1) a (-1) (-1)/\lk n (decl p)=some ⟨8,a,0⟩) \/
  (∃a,0<=a/\At p n (-1) (-1) (-1) a (-1)/\lk n (decl p)=some ⟨9,a,0⟩) \/
  (∃a,0<=a/\At p n (-1) (-1) (-1) (-1) a/\lk n (decl p)=some ⟨5,a,a+1⟩) \/
  (At p n (-1) (-1) (-1) (-1) (-1)/\lk n (decl p)=none):=by
 have hl:=z8p p n
 simp only[eu,List.nodup_append]at hu
 obtain⟨⟨⟨⟨hA,hB,hAB⟩,hC,hABC⟩,hD,hABCD⟩,hE,hABCDE⟩:=hu
 have ea:=GK (bounds p.params) n
 have eb:=GK (bounds p.states) n
 have ec:=GK (lines p) n
 have ed:=GK (tables p) n
 have eg:=ZR p.stmts n
 have no:∀{l m:List Str},(∀a∈l,∀b∈m,a≠b)->n∈l->n∈m->False:=λh h1 h2=>h n h1 n h2 rfl
 have xAB:¬(0<=find (bounds p.params) n/\0<=find (bounds p.states) n):=λ⟨h1,h2⟩=>no hAB (eX h1) (eX h2)
 have xAC:¬(0<=find (bounds p.params) n/\0<=find (lines p) n):=λ⟨h1,h2⟩=>no hABC (by simp[eX h1]) (eX h2)
 have xBC:¬(0<=find (bounds p.states) n/\0<=find (lines p) n):=λ⟨h1,h2⟩=>no hABC (by simp[eX h1]) (eX h2)
 have xAD:¬(0<=find (bounds p.params) n/\0<=find (tables p) n):=λ⟨h1,h2⟩=>no hABCD (by simp[eX h1]) (eX h2)
 have xBD:¬(0<=find (bounds p.states) n/\0<=find (tables p) n):=λ⟨h1,h2⟩=>no hABCD (by simp[eX h1]) (eX h2)
 have xCD:¬(0<=find (lines p) n/\0<=find (tables p) n):=λ⟨h1,h2⟩=>no hABCD (by simp[eX h1]) (eX h2)
 have xAE:¬(0<=find (bounds p.params) n/\0<=aA n p.stmts 0):=λ⟨h1,h2⟩=>no hABCDE (by simp[eX h1]) (vW h2)
 have xBE:¬(0<=find (bounds p.states) n/\0<=aA n p.stmts 0):=λ⟨h1,h2⟩=>no hABCDE (by simp[eX h1]) (vW h2)
 have xCE:¬(0<=find (lines p) n/\0<=aA n p.stmts 0):=λ⟨h1,h2⟩=>no hABCDE (by simp[eX h1]) (vW h2)
 have xDE:¬(0<=find (tables p) n/\0<=aA n p.stmts 0):=λ⟨h1,h2⟩=>no hABCDE (by simp[eX h1]) (vW h2)
 rcases ea with ea |ea
 ·rw[if_neg (show ¬0<=find (bounds p.params) n by omega)]at hl
  rcases eb with eb |eb
  ·rw[if_neg (show ¬0<=find (bounds p.states) n by omega)]at hl
   rcases ec with ec |ec
   ·rw[if_neg (show ¬0<=find (lines p) n by omega)]at hl
    rcases ed with ed |ed
    ·rw[if_neg (show ¬0<=find (tables p) n by omega)]at hl
     rcases eg with eg |eg
     ·rw[if_neg (show ¬0<=aA n p.stmts 0 by omega)]at hl
      exact .inr (.inr (.inr (.inr (.inr ⟨⟨ea,eb,ec,ed,eg⟩,hl⟩))))
     ·rw[if_pos eg]at hl
      exact .inr (.inr (.inr (.inr (.inl ⟨_,eg,⟨ea,eb,ec,ed,rfl⟩,hl⟩))))
    ·rw[if_pos ed]at hl
     exact .inr (.inr (.inr (.inl ⟨_,ed,⟨ea,eb,ec,rfl,by omega⟩,hl⟩)))
   ·rw[if_pos ec]at hl
    exact .inr (.inr (.inl ⟨_,ec,⟨ea,eb,rfl,by omega,by omega⟩,hl⟩))
  ·rw[if_pos eb]at hl
   exact .inr (.inl ⟨_,eb,⟨ea,rfl,by omega,by omega,by omega⟩,hl⟩)
 ·rw[if_pos ea]at hl
  exact .inl ⟨_,ea,⟨rfl,by omega,by omega,by omega,by omega⟩,hl⟩
theorem ZT{n:Str}{a b c d g:Int}(h:At p n a b c d g)(i:Nat):value p n i =
  if a<0 then(if b<0 then(⟨5,n,(if g<(i:Int)then g else -1),0,[]⟩,decide ((if g<(i:Int)then g else -1)>=0))else(⟨4,n,b,0,[]⟩,decide (b>=0)))else(⟨3,n,a,0,[]⟩,decide (a>=0)):=by
 have hg:given p n i=if g<(i:Int)then g else -1:=by
  simp[given]
  rw[EI n p.stmts i 0 (by omega),h.hg,Int.zero_add]
 simp[value,h.ha,h.hb,hg]
theorem ZU(hu:(eu p).Nodup)(i:Nat)(x:Ex)(hf:Ref15.formed x=true) :
  Gp (decl p) (i:Int) x=(bJ p i x).2/\((bJ p i x).2=true->vis (decl p) x=(bJ p i x).1):=by
 revert hf
 refine Ex.ind (P:=λx=>Ref15.formed x=true->Gp (decl p) (i:Int) x=(bJ p i x).2/\((bJ p i x).2=true->vis (decl p) x=(bJ p i x).1)) (λx ih hf=>?_) x
 rw[Ref15.formed_eq]at hf
 simp at hf
 obtain⟨⟨⟨⟨hl,hnm⟩,hn⟩,hn0⟩,hfl⟩:=hf
 have hL:∀l:List Ex,(∀y∈l,y∈x.l)->Ref15.formeds l=true->uj (decl p) (i:Int) l=(dL p i l).2/\((dL p i l).2=true->YG (decl p) l=(dL p i l).1):=by
  intro l
  induction l with
  |nil=>intro _ _;exact⟨rfl,λ_=>rfl⟩
  |cons y r ih2=>
   intro hm hfr
   simp only[Ref15.formeds,Bool.and_eq_true]at hfr
   obtain⟨h1,h2⟩:=ih y (hm y (by simp)) hfr.1
   obtain⟨h3,h4⟩:=ih2 (λz hz=>hm z (List.mem_cons_of_mem _ hz)) hfr.2
   simp only[uj,dL,YG,h1,h3,Bool.and_eq_true,true_and]
   simp_all
 obtain⟨hL1,hL2⟩:=hL x.l (λ_ h=>h) hfl
 rw[Gq,oI,z3s]
 simp only[vok,Gn,ZA,PL,eok]
 by_cases hnk:named x.kind=true
 ·by_cases hak:arr x.kind=true
  ·-- a line or a table
   have h8:¬((named x.kind&&x.kind != 8&&x.kind != 9)=true):=by
    simp only[arr,Bool.or_eq_true,beq_iff_eq]at hak
    grind
   rw[if_neg h8]
   simp only[hnk,Bool.not_true,Bool.false_or,if_true,hak,Bool.not_true,Bool.and_false,Bool.or_false,hL1]
   simp only[arr,Bool.or_eq_true,beq_iff_eq]at hak
   rcases hak with hk |hk
   ·rcases zD hu x.name with⟨a,h0,hat,hlk⟩ |⟨a,h0,hat,hlk⟩ |⟨a,h0,hat,hlk⟩ |⟨a,h0,hat,hlk⟩ |⟨a,h0,hat,hlk⟩ |⟨hat,hlk⟩ <;>
     simp only[hlk,lw,hk,hat.hc,Bool.false_eq_true,if_false,if_true]<;>simp_all
   ·rcases zD hu x.name with⟨a,h0,hat,hlk⟩ |⟨a,h0,hat,hlk⟩ |⟨a,h0,hat,hlk⟩ |⟨a,h0,hat,hlk⟩ |⟨a,h0,hat,hlk⟩ |⟨hat,hlk⟩ <;>
     simp only[hlk,lw,hk,hat.hd,Bool.false_eq_true,if_false,if_true]<;>simp_all
  ·-- a value
   have hak:arr x.kind=false:=by simpa using hak
   have h8:(named x.kind&&x.kind != 8&&x.kind != 9)=true:=by
    grind[arr,Bool.or_eq_false_iff,bne,Bool.not_false,Bool.and_self]
   rw[if_pos h8]
   have hk:x.kind=2\/x.kind=3\/x.kind=4\/x.kind=5:=by
    simp only[arr,Bool.or_eq_false_iff,beq_eq_false_iff_ne,ne_eq]at hak
    simp only[named,Bool.or_eq_true,beq_iff_eq]at hnk
    omega
   have hp0:parts x.kind=0:=by rcases hk with h |h |h |h<;>rw[h]<;>rfl
   have hxl:x.l = []:=by
    simp_all
   have hxn:x.n=0:=by
    rcases hk with h |h |h |h<;>rw[h]at hn0<;>simpa[bne]using hn0
   simp only[hnk,Bool.not_true,Bool.false_or,if_true,hak,Bool.not_false,Bool.and_true,hxl,hxn,uj,YG]
   have e1:decide ((i:Int)>=0)=true:=by simp
   rcases zD hu x.name with⟨a,h0,hat,hlk⟩ |⟨a,h0,hat,hlk⟩ |⟨a,h0,hat,hlk⟩ |⟨a,h0,hat,hlk⟩ |⟨a,h0,hat,hlk⟩ |⟨hat,hlk⟩ <;>
    rw[ZT hat]<;>simp only[hlk]
   ·have e2:decide (a>=0)=true:=by simpa using h0
    rw[if_neg (by omega),e1,e2];simp[arr]
   ·have e2:decide (a>=0)=true:=by simpa using h0
    rw[if_pos (by omega),if_neg (by omega),e1,e2];simp[arr]
   ·have e2:((8:Int)==x.kind)=false:=by grind
    rw[if_pos (by omega),if_pos (by omega),e2,if_pos (by omega)];simp[arr]
   ·have e2:((9:Int)==x.kind)=false:=by grind
    rw[if_pos (by omega),if_pos (by omega),e2,if_pos (by omega)];simp[arr]
   ·by_cases hg:a<(i:Int)
    ·rw[if_pos hg]
     grind[decide,arr]
    grind
   simp
 ·have hnk:named x.kind=false:=by simpa using hnk
  have hk8:(x.kind==8)=false:=by
   cases h:(x.kind==8)with
   |false=>rfl
   |true=>rw[show x.kind=8 by simpa using h]at hnk;cases hnk
  have hk9:(x.kind==9)=false:=by
   cases h:(x.kind==9)with
   |false=>rfl
   |true=>rw[show x.kind=9 by simpa using h]at hnk;cases hnk
  simp only[hnk,Bool.not_false,Bool.true_or,Bool.true_and,Bool.false_and,Bool.false_eq_true,if_false,lw,hk8,hk9,hL1]
  simp_all
theorem Na(hu:(eu p).Nodup)(s:Sm)(hs:Ib s.kind=true):target (decl p) s=if cu p s<0 then none else some ⟨kindOf s.kind,cu p s,0⟩:=by
 simp[Ib]at hs
 rcases hs with hk |hk <;>
 rcases zD hu s.name with⟨a,h0,hat,hlk⟩ |⟨a,h0,hat,hlk⟩ |⟨a,h0,hat,hlk⟩ |⟨a,h0,hat,hlk⟩ |⟨a,h0,hat,hlk⟩ |⟨hat,hlk⟩ <;>
  simp[target,cu,kindOf,hat.hb,hat.hc]<;>simp_all
theorem Nb{s t:Sm}(hk:t.kind=s.kind)(h:cu p t=cu p s)(h0:0<=cu p s)(hs:Ib s.kind=true):t.name=s.name:=by
 simp[Ib]at hs
 simp[cu,hk]at h h0
 rcases hs with e |e
 ·rw[e]at h h0;exact find_inj 0 (by omega) h (by grind[find])
 ·rw[e]at h h0;exact find_inj 0 (by omega) h (by grind[find])
def Jw(p:Pr):List Sm->List (Int×Int)
 | []=>[]
 |s::r=>if Ib s.kind then(kindOf s.kind,cu p s)::Jw p r else Jw p r
theorem GL(p:Pr):∀a b:List Sm,Jw p (a++b)=Jw p a++Jw p b
 | [],_=>rfl
 |s::a,b=>by
  simp[Jw,GL p a b]
  split<;>rfl
theorem EJ{s:Sm}(hs:Ib s.kind=true)(h0:0<=cu p s):∀pre:List Sm,nN (Jw p pre) (kindOf s.kind) (cu p s)=pre.any λt=>t.kind==s.kind&&t.name==s.name
 | []=>rfl
 |t::r=>by
  have ih:=EJ hs h0 r
  have hcons:∀(x:Int×Int) l a b,nN (x::l) a b=((x.1==a&&x.2==b) || nN l a b):=λ_ _ _ _=>rfl
  simp[Jw]
  by_cases ht:Ib t.kind=true
  ·rw[if_pos ht,hcons]
   congr 1
   rw[Bool.eq_iff_iff]
   simp
   constructor
   ·rintro⟨h1,h2⟩
    have hk:t.kind=s.kind:=by
     simp[Ib]at hs ht
     grind[kindOf]
    grind[Nb]
   ·rintro⟨h1,h2⟩
    simp[cu,h1,h2]
  grind
theorem ZV{pre r:List Sm}{s:Sm}(e:p.stmts=pre++s::r):again p pre.length s=((pre.any λt=>t.kind==4) || (s.kind != 1&&pre.any λt=>t.kind==s.kind&&t.name==s.name)):=by
 simp[again,e]
 clear e
 induction pre with
 |nil=>simp
 |cons t pre ih=>
  simp[ih]
  cases (t.kind==4)<;>cases (s.kind != 1)<;>cases (t.kind==s.kind)<;>cases (t.name==s.name)<;>cases (pre.any λt=>t.kind==4)<;>cases (pre.any λt=>t.kind==s.kind&&t.name==s.name)<;>rfl
theorem GM(hu:(eu p).Nodup)(hF:Ref15.Formed p=true):∀(r pre:List Sm),p.stmts=pre++r->∀out,out=(pre.any λt=>t.kind==4) ->
  Jj (decl p) r pre.length (Jw p pre) out=dN p r pre.length out
 | [],pre,_,out,_=>by cases out<;>rfl
 |s::r,pre,e,out,ho=>by
  have hsm:stmtOk s=true:=List.all_eq_true.1 hF s (by rw[e];simp)
  simp only[stmtOk,Bool.not_eq_true',Bool.or_eq_false_iff,decide_eq_false_iff_not]at hsm
  obtain⟨⟨⟨hk1,hk2⟩,_⟩,hfx⟩:=hsm
  have hfx:Ref15.formed s.x=true:=by simpa using hfx
  obtain⟨h1,h2⟩:=ZU hu pre.length s.x hfx
  simp only[Jj,dN]
  rw[<-h1]
  cases hv:Gp (decl p) (pre.length:Int) s.x with
  |false=>simp[lV,hv]
  |true=>
   have h2:=h2 (by simp_all)
   rw[ZV e,<-ho]
   by_cases hs:Ib s.kind=true
   ·have ht:=Na hu s hs
    by_cases h0:cu p s<0<;>try grind[lV]
    rw[if_neg h0]at ht
    have hd:=EJ hs (by omega:0<=cu p s) pre
    have hn1:(s.kind != 1)=true:=by
     simp only[Ib,Bool.or_eq_true,beq_iff_eq]at hs
     grind
    simp only[lV,hv,hs,ht,Bool.not_true,Bool.false_eq_true,if_false,if_true]
    rw[show((Jw p pre).any λd=>d.1==kindOf s.kind&&d.2==cu p s)=nN (Jw p pre) (kindOf s.kind) (cu p s)from rfl,hd,hn1]
    simp only[h0,decide_false,Bool.true_and,Bool.false_eq_true,if_false]
    cases out with
    |true=>simp
    |false=>
     cases hb:(pre.any λt=>t.kind==s.kind&&t.name==s.name)with
     |true=>simp
     |false=>
      have ih:=GM hu hF r (pre++[s]) (by rw[e];simp) (s.kind==4) (by simp[<-ho])
      have hdn:xJ (decl p) s (Jw p pre)=Jw p (pre++[s]):=by
       rw[GL];simp only[xJ,hs,ht,if_true,Jw]
      rw[hdn]
      simp at ih
      rw[ih]
      have ho2:outS (decl p) s=⟨s.kind,s.name,cu p s,(bJ p pre.length s.x).1⟩:=by
       simp only[outS,Gs,hs,ht,if_true,h2]
      grind
   ·have hs:Ib s.kind=false:=by simpa using hs
    have hsm0:cu p s=0:=by
     simp only[Ib,Bool.or_eq_false_iff]at hs
     simp only[cu,hs.1,hs.2,Bool.false_eq_true,if_false]
    have hk14:s.kind=1\/s.kind=4:=by
     simp only[Ib,Bool.or_eq_false_iff,beq_eq_false_iff_ne,ne_eq]at hs
     omega
    have hag:(out || (s.kind != 1&&pre.any λt=>t.kind==s.kind&&t.name==s.name))=out:=by
     grind
    rw[hag]
    simp only[lV,hv,hs,hsm0,Bool.not_true,Bool.false_eq_true,if_false]
    cases out with
    |true=>simp
    |false=>
     have ih:=GM hu hF r (pre++[s]) (by rw[e];simp) (s.kind==4) (by simp[<-ho])
     have hdn:xJ (decl p) s (Jw p pre)=Jw p (pre++[s]):=by
      rw[GL];simp only[xJ,hs,Bool.false_eq_true,if_false,Jw,List.append_nil]
     rw[hdn]
     simp at ih
     rw[ih]
     have ho2:outS (decl p) s=⟨s.kind,s.name,0,(bJ p pre.length s.x).1⟩:=by
      simp only[outS,Gs,hs,Bool.false_eq_true,if_false,h2]
     grind
theorem resolve_same(p:Pr):resolveC p=Ref15.Resolve p:=by
 unfold resolveC Ref15.Resolve
 rw[MS,Js,Wj,MV,MZ]
 have e:(p.name::eu p).all nmOk=(qw p.name&&(eu p).all qw):=by
  have:nmOk=qw:=by funext s;exact z8o s
  rw[List.all_cons,this]
 rw[e]
 cases hF:Formed p with
 |false=>rfl
 |true=>
  cases hL:Ref15.limited p with
  |false=>rfl
  |true=>
   cases h1:qw p.name with
   |false=>rfl
   |true=>
    cases h2:(eu p).all qw with
    |false=>rfl
    |true=>
     cases h3:Dw (eu p)with
     |false=>rfl
     |true=>
      cases h4:Ref15.ranged p with
      |false=>rfl
      |true=>
       have:=GM (qy.1 h3) hF p.stmts [] rfl false rfl
       simp
       exact congrArg _ this
end Go.Fw.Nam
