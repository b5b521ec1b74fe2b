/- Plain: what the checks of names.Resolve say, next to the reference's. -/
import Derived.Test.YthpbakljheeabaaGreatDoorZDB
set_option linter.unusedSectionVars false
set_option linter.unusedSimpArgs false
set_option linter.unusedVariables false
namespace Go.Fw.Nam
variable [ah]
open Ref15
theorem kinds_cases{k:Int}(h:1<=k/\k<=19):k=1\/k=2\/k=3\/k=4\/k=5\/k=6\/k=7\/k=8\/k=9\/k=10\/k=11\/k=12\/k=13\/k=14\/k=15\/k=16\/k=17\/k=18\/k=19:=by omega
theorem z4t{k n:Int}(h:¬(k=n)):(k==n)=false:=by simpa using h
theorem MM(k:Int):arity k=(parts k,named k):=by
 by_cases h:1<=k/\k<=19
 ·rcases kinds_cases h with h |h |h |h |h |h |h |h |h |h |h |h |h |h |h |h |h |h |h<;>subst h<;>rfl
 ·have e:∀n:Int,1<=n->n<=19->(k==n)=false:=λn h1 h2=>z4t (by omega)
  simp[arity,parts,named,e]
theorem OV(x:Ex):kP x=(!((x.l.length:Int) != parts x.kind || (!named x.kind&&x.name != []) || decide (x.n<0)) && !(x.kind != 1&&x.kind != 18&&x.n != 0)):=by
 simp only[kP,MM,bne]
 have h:decide (x.n>=0) = !decide (x.n<0):=by
  by_cases h:x.n<0<;>simp[h]<;>omega
 rw[h]
 cases ((x.l.length:Int)==parts x.kind)<;>cases named x.kind<;>cases (x.name==[])<;>cases decide (x.n<0)<;>cases (x.kind==1)<;>cases (x.kind==18)<;>cases (x.n==0)<;>rfl
theorem Gy(x:Ex):every kP x=Ref15.formed x:=by
 refine Ex.ind (P:=λx=>every kP x=Ref15.formed x) (λx ih=>?_) x
 rw[xP,Ref15.formed_eq,OV]
 congr 1
 generalize x.l=l at ih
 induction l with
 |nil=>rfl
 |cons y r ih2=>
  simp only[ui,Ref15.formeds]
  rw[ih y (by simp),ih2 (λz hz=>ih z (List.mem_cons_of_mem _ hz))]
theorem JB(p:Pr):formed p=Ref15.Formed p:=by
 unfold formed Ref15.Formed
 congr 1
 funext s
 rw[Gy,V5,Ref15.stmtOk]
 have h1:decide (s.kind>=1) = !decide (s.kind<1):=by by_cases h:s.kind<1<;>simp[h]<;>omega
 have h2:decide (s.kind<=4) = !decide (s.kind>4):=by by_cases h:s.kind>4<;>simp[h]<;>omega
 rw[h1,h2]
 simp only[bne]
 cases decide (s.kind<1)<;>cases decide (s.kind>4)<;>cases (s.kind==4)<;>cases (s.name==[])<;>cases Ref15.formed s.x<;>rfl
theorem SK(a b n:Int):mm2 true a b<=n↔a<=n/\b<=n:=by
 simp only[mm2];split<;>omega
theorem Gz(p:Pr):limited p=Ref15.limited p:=by
 have h1:p.lines.all ln1=p.lines.all BQ:=by
  congr 1;funext l;simp only[ln1,BQ]
  by_cases a:l.size<1<;>by_cases b:l.size>65536<;>simp[a,b]<;>omega
 have h2:p.tables.all tb1=p.tables.all jR:=by
  congr 1;funext t;simp only[tb1,jR]
  by_cases a:(t.values.length:Int)<1<;>by_cases b:(t.values.length:Int)>1024<;>simp[a,b]<;>omega
 have h3:p.stmts.all sm1=p.stmts.all zx:=by
  congr 1;funext s;simp only[sm1,zx]
  by_cases a:(nodes s.x:Int)>512<;>simp[a]<;>omega
 have h4:ZK p=(few p&&memOk p):=by
  rw[Bool.eq_iff_iff]
  simp only[ZK,few,memOk,Bool.and_eq_true,Bool.not_eq_true',Bool.or_eq_false_iff,decide_eq_true_eq,decide_eq_false_iff_not]
  have hm:most p<=16↔((((p.params.length:Int)<=16/\(p.states.length:Int)<=16)/\(p.lines.length:Int)<=16)/\(p.tables.length:Int)<=16):=by
   unfold most;rw[SK,SK,SK]
  rw[hm]
  omega
 rw[Ref15.limited_eq,limited,h1,h2,h3,h4]
 cases few p<;>cases memOk p<;>cases p.lines.all BQ<;>cases p.tables.all jR<;>cases p.stmts.all zx<;>rfl
theorem z4u(b:Bd):bd1 b=between b.lo b.hi:=by
 rw[Bool.eq_iff_iff]
 simp only[bd1,sample,between,Bool.and_eq_true,decide_eq_true_eq]
 omega
theorem MN:∀(l:List Int) (i:Int),0<=i->(decide (lY l i>=0)) = !(l.all λv=>sample v)
 | [],i,_=>by simp[lY]
 |v::r,i,h=>by
  simp only[lY,List.all_cons]
  by_cases hv:sample v=true
  ·simp only[hv,Bool.not_true,Bool.false_eq_true,if_false,Bool.true_and]
   exact MN r (i+1) (by omega)
  ·simp[hv,h]
theorem OW(x:Ex):lX x = !(decide (x.n>2147483648) || (x.kind==18&&decide (x.n<1))):=by
 simp only[lX,bne]
 have h1:decide (x.n<=2147483648) = !decide (x.n>2147483648):=by by_cases h:x.n>2147483648<;>simp[h]<;>omega
 have h2:decide (x.n>0) = !decide (x.n<1):=by by_cases h:x.n<1<;>simp[h]<;>omega
 rw[h1,h2]
 cases decide (x.n>2147483648)<;>cases (x.kind==18)<;>cases decide (x.n<1)<;>rfl
theorem GG(x:Ex):every lX x=numbers x:=by
 refine Ex.ind (P:=λx=>every lX x=numbers x) (λx ih=>?_) x
 rw[xP,BR,OW]
 congr 1
 generalize x.l=l at ih
 induction l with
 |nil=>rfl
 |cons y r ih2=>
  simp only[ui,pV]
  rw[ih y (by simp),ih2 (λz hz=>ih z (List.mem_cons_of_mem _ hz))]
theorem JC(p:Pr):ranged p=Ref15.ranged p:=by
 rw[Ref15.ranged_eq,ranged]
 have h1:(allB p).all bd1=(OO p.params&&(OO p.states&&VZ p.lines)):=by
  have e:bd1=λb=>between b.lo b.hi:=by funext b;exact z4u b
  rw[e]
  simp only[allB,List.flatten_cons,List.flatten_nil,List.append_nil,List.all_append,List.all_map,OO,VZ,Bool.and_assoc]
  rfl
 have h2:p.tables.all tb2=V3 p.tables:=by
  unfold V3
  congr 1;funext t
  simp only[tb2,bad,Rt]
  rw[MN t.values 0 (by omega),Bool.not_not]
  congr 1;funext v
  rw[Bool.eq_iff_iff];simp only[sample,between,Bool.and_eq_true,decide_eq_true_eq];omega
 have h3:p.stmts.all sm2=V4 p.stmts:=by
  unfold V4
  congr 1;funext s;exact GG s.x
 rw[h1,h2,h3]
 simp only[Bool.and_assoc]
theorem z4v(c:UInt8):Jt c=Ref03.part c:=by
 simp only[Jt,Ref03.part,cls,bne]
 cases Ref03.letter c with
 |true=>rfl
 |false=>
  cases Ref03.figure c with
  |true=>rfl
  |false=>
   cases hu:((c.toNat:Int)==95)with
   |true=>rfl
   |false=>
    simp only[Bool.false_eq_true,if_false,Bool.or_self]
    split
    ·rfl
    ·split<;>rfl
theorem OX(c:UInt8):(cls c==2)=Ref03.letter c:=by
 simp only[cls]
 cases Ref03.letter c with
 |true=>rfl
 |false=>
  simp only[Bool.false_eq_true,if_false]
  split
  ·rfl
  ·split
   ·rfl
   ·split
    ·rfl
    ·split<;>rfl
theorem WC(s:Str):DX s=Ref03.name s:=by
 simp only[DX,Ref03.name,bne]
 rw[OX]
 have e:s.all Jt=s.all Ref03.part:=by congr 1;funext c;exact z4v c
 rw[e]
 have h:(s==[])=decide ((s.length:Int)<1):=by
  cases s with
  |nil=>rfl
  |cons a r=>
   have:¬((((a::r).length:Nat):Int)<1):=by simp only[List.length_cons];omega
   rw[decide_eq_false this];rfl
 rw[h]
theorem contains_cons(b:UInt8)(l sub:Str):Lib.contains (b::l) sub=(sub.isPrefixOf (b::l) || Lib.contains l sub):=by
 have hge:=Lib.index_ge l sub
 simp only[Lib.contains,Lib.index]
 by_cases hp:sub.isPrefixOf (b::l)=true
 ·simp[hp]
 ·simp only[hp,Bool.false_eq_true,if_false,Bool.false_or]
  by_cases h:Lib.index l sub = -1
  ·simp[h]
  ·have e:(Lib.index l sub == -1)=false:=by simpa using h
   simp only[e,Bool.false_eq_true,if_false]
   rw[Bool.eq_iff_iff];simp only[decide_eq_true_eq];omega
theorem contains_nil(c:UInt8)(sub:Str):Lib.contains [] (c::sub)=false:=by simp[Lib.contains,Lib.index]
def zN:List Str->Str
 | []=>[32]
 |w::r=>32::(w++zN r)
theorem uw(s:Str):∀(w:Str) (t:Str),(32:UInt8) ∉ w->Lib.contains (w++t) (32::s)=Lib.contains t (32::s)
 | [],t,_=>rfl
 |c::w,t,h=>by
  simp only[List.mem_cons,not_or]at h
  rw[List.cons_append,contains_cons,uw s w t h.2]
  have:(32:UInt8)≠c:=h.1
  simp[List.isPrefixOf,this]
theorem zO:∀(s w:Str) (t:Str),(32:UInt8) ∉ s->(32:UInt8) ∉ w->(s++[32]).isPrefixOf (w++32::t)=(w==s)
 | [],[],t,_,_=>by simp[List.isPrefixOf]
 | [],c::w,t,_,h=>by
  simp only[List.mem_cons,not_or]at h
  have:(32:UInt8)≠c:=h.1
  simp[List.isPrefixOf,this]
 |a::s,[],t,h,_=>by
  simp only[List.mem_cons,not_or]at h
  have:¬a=(32:UInt8):=λe=>h.1 e.symm
  simp[List.isPrefixOf,this]
 |a::s,c::w,t,h1,h2=>by
  simp only[List.mem_cons,not_or]at h1 h2
  simp only[List.cons_append,List.isPrefixOf,zO s w t h1.2 h2.2]
  by_cases e:a=c
  ·subst e;simp
  ·have e':¬c=a:=λh=>e h.symm
   have b1:(a==c)=false:=by simpa using e
   have b2:(c==a)=false:=by simpa using e'
   show(a==c&&w==s)=(c==a&&w==s)
   rw[b1,b2]
theorem JD:∀ws,∃t,zN ws=32::t
 | []=>⟨[],rfl⟩
 |w::r=>⟨w++zN r,rfl⟩
theorem pq(s:Str)(hs:(32:UInt8) ∉ s):∀ws:List Str,(∀w∈ws,(32:UInt8) ∉ w)->Lib.contains (zN ws) (32::(s++[32]))=ws.any λw=>w==s
 | [],_=>by
  rw[zN,contains_cons,contains_nil]
  cases s<;>simp[List.isPrefixOf]
 |w::r,h=>by
  have hw:=h w (by simp)
  obtain⟨t,ht⟩:=JD r
  rw[zN,contains_cons,uw _ w _ hw,pq s hs r (λx hx=>h x (List.mem_cons_of_mem _ hx)),List.any_cons]
  congr 1
  rw[ht]
  simp only[List.isPrefixOf,beq_self_eq_true,Bool.true_and]
  exact zO s w t hs hw
theorem SL(s:Str):∀(l:List Str) (i:Int),0<=i->decide (aW s l i>=0)=l.any λw=>w==s
 | [],i,_=>by simp[aW]
 |x::r,i,h=>by
  simp only[aW,List.any_cons]
  by_cases hx:(x==s)=true
  ·simp only[hx,if_true,Bool.true_or];simpa using h
  ·simp only[hx,Bool.false_eq_true,if_false,Bool.false_or]
   exact SL s r (i+1) (by omega)
theorem SN:Md=zN words:=by decide
theorem JE:∀w∈words,(32:UInt8) ∉ w:=by decide
theorem OY{s:Str}(h:s.all Ref03.part=true):(32:UInt8) ∉ s:=by
 intro hm
 have:=List.all_eq_true.1 h 32 hm
 revert this;decide
theorem z0c(s:Str):nmOk s=o7 s:=by
 simp only[nmOk,o7,WC]
 cases hn:Ref03.name s with
 |false=>rfl
 |true=>
  have hs:(32:UInt8) ∉ s:=by
   unfold Ref03.name at hn
   simp only[Bool.and_eq_true]at hn
   exact OY hn.2
  rw[SN,show([32]++s++[32]:Str)=32::(s++[32])by simp,pq s hs words JE]
  have:decide (find words s>=0)=_:=SL s words 0 (by omega)
  rw[this];simp
theorem GH(k:Int):∀(l:List Str) (i:Nat),jg (jW k l i)=l
 | [],_=>rfl
 |s::r,i=>by simp only[jW,jg,List.map_cons];exact congrArg _ (GH k r (i+1))
theorem GI:∀(l:List Sm) (i:Nat),jg (xR l i)=lets l
 | [],_=>rfl
 |s::r,i=>by
  have ih:=GI r (i+1)
  simp only[xR,lets,List.filter_cons]at ih ⊢
  split
  ·simp only[jg,List.map_cons]at ih ⊢;rw[ih]
  ·exact ih
theorem WE(a b:List Pe):jg (a++b)=jg a++jg b:=by simp[jg]
theorem SQ(p:Pr):jg (decl p)=dY p:=by
 simp only[decl,T4,T3,T2,T1,WE,GH,GI,dY,List.append_assoc]
theorem Ec(s:Str):∀(l:List Str) (i:Int),aW s l i = -1\/i<=aW s l i
 | [],i=>.inl rfl
 |x::r,i=>by
  simp only[aW]
  split
  ·exact .inr (Int.le_refl _)
  ·rcases Ec s r (i+1)with h |h
   ·exact .inl h
   ·exact .inr (by omega)
theorem uy:∀(r pre:List Str),(∀a∈pre,a ∉ r)->iM (pre++r) r (pre.length:Int)=AC r
 | [],_,_=>rfl
 |s::r,pre,h=>by
  have hf:∀(pre:List Str) (i:Int),s ∉ pre->aW s (pre++s::r) i=i+pre.length:=by
   intro pre
   induction pre with
   |nil=>intro i _;simp[aW]
   |cons a pre ih=>
    intro i hm
    simp only[List.mem_cons,not_or]at hm
    have:¬a=s:=λe=>hm.1 e.symm
    simp only[List.cons_append,aW]
    rw[if_neg (by simpa using this),ih (i+1) hm.2]
    simp only[List.length_cons];omega
  have hs:s ∉ pre:=λhm=>h s hm (by simp)
  simp only[iM,AC]
  have e1:(find (pre++s::r) s != (pre.length:Int))=false:=by
   have:=hf pre 0 hs
   simp only[find,this,Int.zero_add,bne_self_eq_false]
  rw[e1]
  simp only[Bool.not_false,Bool.true_and]
  cases hb:DF s r with
  |false=>
   simp only[Bool.not_false,Bool.true_and]
   have:=uy r (pre++[s]) (by
    intro a ha hr
    rcases List.mem_append.1 ha with ha |ha
    ·exact h a ha (List.mem_cons_of_mem _ hr)
    ·simp only[List.mem_singleton]at ha;subst ha
     rw[um.2 hr]at hb;simp at hb)
   simpa using this
  |true=>
   simp only[Bool.not_true,Bool.false_and]
   -- s stands again: its first place is not there
   have hm:=um.1 hb
   have key:∀(r2:List Str) (pre2:List Str),s∈r2->s∈pre2->iM (pre2++r2) r2 (pre2.length:Int)=false:=by
    intro r2
    induction r2 with
    |nil=>intro _ hm;simp at hm
    |cons a r2 ih=>
     intro pre2 hm2 hp
     simp only[iM]
     by_cases e:a=s
     ·subst e
      have hlt:∀(pre:List Str) (i:Int),0<=i->a∈pre->aW a (pre++a::r2) i<i+pre.length:=by
       intro pre
       induction pre with
       |nil=>intro i _ hm;simp at hm
       |cons b pre ih2=>
        intro i hi hm
        simp only[List.cons_append,aW]
        split
        ·simp only[List.length_cons];omega
        ·rename_i hne
         have:a∈pre:=by
          rcases List.mem_cons.1 hm with h |h
          ·exact absurd h.symm (by simpa using hne)
          ·exact h
         have:=ih2 (i+1) (by omega) this
         simp only[List.length_cons];omega
      have:=hlt pre2 0 (by omega) hp
      have hne:(find (pre2++a::r2) a != (pre2.length:Int))=true:=by
       simp only[find,bne_iff_ne,ne_eq];omega
      rw[hne];rfl
     ·have hm3:s∈r2:=by
       rcases List.mem_cons.1 hm2 with h |h
       ·exact absurd h.symm e
       ·exact h
      have:=ih (pre2++[a]) hm3 (by simp[hp])
      simp only[List.append_assoc,List.cons_append,List.nil_append,List.length_append,List.length_cons,List.length_nil]at this
      have e2:((pre2.length:Int)+1)=((pre2.length+(0+1):Nat):Int):=by omega
      rw[e2,this,Bool.and_false]
   have:=key r (pre++[s]) hm (by simp)
   simpa using this
theorem JF(l:List Str):iM l l 0=AC l:=by
 have:=uy l [] (by simp)
 simpa using this
theorem MO{n:Str}:∀{l:List Str} (i:Int),n ∉ l->aW n l i = -1
 | [],_,_=>rfl
 |x::r,i,h=>by
  simp only[List.mem_cons,not_or]at h
  have:(x==n)=false:=by simpa using λe:x=n=>h.1 e.symm
  simp only[aW,this,Bool.false_eq_true,if_false]
  exact MO (i+1) h.2
theorem Ed{a b:Str}:∀{l:List Str} (i:Int),0<=i->aW a l i=aW b l i->0<=aW a l i->a=b
 | [],_,_,_,h=>by simp[aW]at h
 |x::r,i,hi,h,h2=>by
  simp only[aW]at h h2
  have ha:=Ec a r (i+1)
  have hb:=Ec b r (i+1)
  split at h
  ·rename_i hxa
   split at h
   ·rename_i hxb
    have e1:x=a:=by simpa using hxa
    have e2:x=b:=by simpa using hxb
    rw[<-e1,<-e2]
   ·omega
  ·rename_i hxa
   split at h
   ·omega
   ·rw[if_neg hxa]at h2
    exact Ed (i+1) (by omega) h h2
theorem Yr(n:Str):∀a b:List Pe,lk n (a++b)=match lk n a with |some e=>some e |none=>lk n b
 | [],_=>rfl
 |x::a,b=>by
  simp only[List.cons_append,lk]
  split
  ·rfl
  ·exact Yr n a b
theorem SS(n:Str)(k:Int):∀(l:List Str) (i:Nat),lk n (jW k l i)=if aW n l i<0 then none else some ⟨k,aW n l i,0⟩
 | [],i=>by simp[jW,lk,aW]
 |x::r,i=>by
  have ih:=SS n k r (i+1)
  simp only[jW,lk,aW]
  by_cases hx:x=n
  ·subst hx
   have:¬((i:Int)<0):=by omega
   simp[this]
  ·have h1:(n==x)=false:=by simpa using λe:n=x=>hx e.symm
   have h2:(x==n)=false:=by simpa using hx
   simp only[h1,h2,Bool.false_eq_true,if_false]
   rw[ih];rfl
theorem Ee(n:Str):∀(l:List Sm) (i:Int),aB n l i = -1\/i<=aB n l i
 | [],i=>.inl rfl
 |x::r,i=>by
  simp only[aB]
  split
  ·exact .inr (Int.le_refl _)
  ·rcases Ee n r (i+1)with h |h
   ·exact .inl h
   ·exact .inr (by omega)
theorem SX(n:Str):∀(l:List Sm) (i:Nat),lk n (xR l i)=if aB n l i<0 then none else some ⟨5,aB n l i,aB n l i+1⟩
 | [],i=>by simp[xR,lk,aB]
 |x::r,i=>by
  have ih:=SX n r (i+1)
  simp only[xR,aB]
  by_cases hk:x.kind=1
  ·have hk':(x.kind==1)=true:=by simpa using hk
   simp only[hk',if_true,Bool.true_and,lk]
   by_cases hx:x.name=n
   ·subst hx
    have:¬((i:Int)<0):=by omega
    simp[this]
   ·have h1:(n==x.name)=false:=by simpa using λe:n=x.name=>hx e.symm
    have h2:(x.name==n)=false:=by simpa using hx
    simp only[h1,h2,Bool.false_eq_true,if_false]
    rw[ih];rfl
  ·have hk':(x.kind==1)=false:=by simpa using hk
   simp only[hk',Bool.false_eq_true,if_false,Bool.false_and]
   rw[ih];rfl
theorem zQ{n:Str}:∀{l:List Sm} (i:Int),n ∉ lets l->aB n l i = -1
 | [],_,_=>rfl
 |x::r,i,h=>by
  simp only[aB]
  by_cases hk:x.kind=1
  ·simp only[lets,List.filter_cons,hk,beq_self_eq_true,if_true,List.map_cons,List.mem_cons,not_or]at h
   have h2:(x.name==n)=false:=by simpa using λe:x.name=n=>h.1 e.symm
   simp only[h2,Bool.and_false,Bool.false_eq_true,if_false]
   exact zQ (i+1) h.2
  ·have hk':(x.kind==1)=false:=by simpa using hk
   simp only[lets,List.filter_cons,hk',Bool.false_eq_true,if_false]at h
   simp only[hk',Bool.false_and,Bool.false_eq_true,if_false]
   exact zQ (i+1) h
theorem Cc(n:Str):∀(l:List Sm) (b:Nat) (i:Int),0<=i->aB n (l.take b) i=if aB n l i<i+b then aB n l i else -1
 | [],b,i,hi=>by
  have:(-1:Int)<i+b:=by omega
  simp[aB,this]
 |x::r,0,i,hi=>by
  simp only[List.take_zero,aB]
  have:=Ee n r (i+1)
  split
  ·simp
  ·split
   ·omega
   ·rfl
 |x::r,b+1,i,hi=>by
  simp only[List.take_succ_cons,aB]
  split
  ·rw[if_pos (by omega)]
  ·rw[Cc n r b (i+1) (by omega)]
   have:i+1+(b:Int)=i+((b+1:Nat):Int):=by omega
   rw[this]
theorem z0d(p:Pr)(n:Str):lk n (decl p) =
  if 0<=find (bounds p.params) n then some ⟨3,find (bounds p.params) n,0⟩
  else if 0<=find (bounds p.states) n then some ⟨4,find (bounds p.states) n,0⟩
  else if 0<=find (lines p) n then some ⟨8,find (lines p) n,0⟩
  else if 0<=find (tables p) n then some ⟨9,find (tables p) n,0⟩
  else if 0<=aB n p.stmts 0 then some ⟨5,aB n p.stmts 0,aB n p.stmts 0+1⟩else none:=by
 have e0:∀(k:Int) (l:List Str),lk n (jW k l 0)=if 0<=find l n then some ⟨k,find l n,0⟩else none:=λk l=>by
  have h:lk n (jW k l 0)=if find l n<0 then none else some ⟨k,find l n,0⟩:=SS n k l 0
  rw[h]
  by_cases hh:find l n<0
  ·rw[if_pos hh,if_neg (by omega)]
  ·rw[if_neg hh,if_pos (by omega)]
 have e1:lk n (xR p.stmts 0)=if 0<=aB n p.stmts 0 then some ⟨5,aB n p.stmts 0,aB n p.stmts 0+1⟩else none:=by
  have h:lk n (xR p.stmts 0)=if aB n p.stmts 0<0 then none else some ⟨5,aB n p.stmts 0,aB n p.stmts 0+1⟩:=SX n p.stmts 0
  rw[h]
  by_cases hh:aB n p.stmts 0<0
  ·rw[if_pos hh,if_neg (by omega)]
  ·rw[if_neg hh,if_pos (by omega)]
 simp only[decl,T4,T3,T2,T1,Yr,e0,e1]
 generalize find (bounds p.params) n=a
 generalize find (bounds p.states) n=b
 generalize find (lines p) n=c
 generalize find (tables p) n=d
 by_cases h1:0<=a
 ·simp only[if_pos h1]
 ·simp only[if_neg h1]
  by_cases h2:0<=b
  ·simp only[if_pos h2]
  ·simp only[if_neg h2]
   by_cases h3:0<=c
   ·simp only[if_pos h3]
   ·simp only[if_neg h3]
    by_cases h4:0<=d
    ·simp only[if_pos h4]
    ·simp only[if_neg h4]
structure At(p:Pr)(n:Str)(a b c d g:Int):Prop where
 ha:find (bounds p.params) n=a
 hb:find (bounds p.states) n=b
 hc:find (lines p) n=c
 hd:find (tables p) n=d
 hg:aB n p.stmts 0=g
variable {p : Pr}
theorem Ef(l:List Str)(n:Str):find l n = -1\/0<=find l n:=by
 rcases Ec n l 0 with h |h
 ·exact .inl h
 ·exact .inr h
theorem WF(l:List Sm)(n:Str):aB n l 0 = -1\/0<=aB n l 0:=by
 rcases Ee n l 0 with h |h
 ·exact .inl h
 ·exact .inr h
theorem eG{l:List Str}{n:Str}(h:0<=find l n):n∈l:=by
 by_cases hm:n∈l
 ·exact hm
 ·have:find l n = -1:=MO 0 hm
  omega
theorem uz{l:List Sm}{n:Str}(h:0<=aB n l 0):n∈lets l:=by
 by_cases hm:n∈lets l
 ·exact hm
 ·have:aB n l 0 = -1:=zQ 0 hm
  omega
theorem xY(hu:(dY p).Nodup)(n:Str) :
  (∃a,0<=a/\At p n a (-1) (-1) (-1) (-1)/\lk n (decl p)=some ⟨3,a,0⟩) \/
  (∃a,0<=a/\At p n (-1) a (-1) (-1) (-1)/\lk n (decl p)=some ⟨4,a,0⟩) \/
  (∃a,0<=a/\At p n (-1) (-1) a (-1) (-1)/\lk n (decl p)=some ⟨8,a,0⟩) \/
  (∃a,0<=a/\At p n (-1) (-1) (-1) a (-1)/\lk n (decl p)=some ⟨9,a,0⟩) \/
  (∃a,0<=a/\At p n (-1) (-1) (-1) (-1) a/\lk n (decl p)=some ⟨5,a,a+1⟩) \/
  (At p n (-1) (-1) (-1) (-1) (-1)/\lk n (decl p)=none):=by
 have hl:=z0d p n
 simp only[dY,List.nodup_append]at hu
 obtain⟨⟨⟨⟨hA,hB,hAB⟩,hC,hABC⟩,hD,hABCD⟩,hE,hABCDE⟩:=hu
 have ea:=Ef (bounds p.params) n
 have eb:=Ef (bounds p.states) n
 have ec:=Ef (lines p) n
 have ed:=Ef (tables p) n
 have eg:=WF p.stmts n
 have no:∀{l m:List Str},(∀a∈l,∀b∈m,a≠b)->n∈l->n∈m->False:=λh h1 h2=>h n h1 n h2 rfl
 have xAB:¬(0<=find (bounds p.params) n/\0<=find (bounds p.states) n):=λ⟨h1,h2⟩=>no hAB (eG h1) (eG h2)
 have xAC:¬(0<=find (bounds p.params) n/\0<=find (lines p) n):=λ⟨h1,h2⟩=>no hABC (by simp[eG h1]) (eG h2)
 have xBC:¬(0<=find (bounds p.states) n/\0<=find (lines p) n):=λ⟨h1,h2⟩=>no hABC (by simp[eG h1]) (eG h2)
 have xAD:¬(0<=find (bounds p.params) n/\0<=find (tables p) n):=λ⟨h1,h2⟩=>no hABCD (by simp[eG h1]) (eG h2)
 have xBD:¬(0<=find (bounds p.states) n/\0<=find (tables p) n):=λ⟨h1,h2⟩=>no hABCD (by simp[eG h1]) (eG h2)
 have xCD:¬(0<=find (lines p) n/\0<=find (tables p) n):=λ⟨h1,h2⟩=>no hABCD (by simp[eG h1]) (eG h2)
 have xAE:¬(0<=find (bounds p.params) n/\0<=aB n p.stmts 0):=λ⟨h1,h2⟩=>no hABCDE (by simp[eG h1]) (uz h2)
 have xBE:¬(0<=find (bounds p.states) n/\0<=aB n p.stmts 0):=λ⟨h1,h2⟩=>no hABCDE (by simp[eG h1]) (uz h2)
 have xCE:¬(0<=find (lines p) n/\0<=aB n p.stmts 0):=λ⟨h1,h2⟩=>no hABCDE (by simp[eG h1]) (uz h2)
 have xDE:¬(0<=find (tables p) n/\0<=aB n p.stmts 0):=λ⟨h1,h2⟩=>no hABCDE (by simp[eG h1]) (uz h2)
 clear no hA hB hAB hC hABC hD hABCD hE hABCDE
 rcases ea with ea |ea
 ·rw[if_neg (show ¬0<=find (bounds p.params) n by omega)]at hl
  rcases eb with eb |eb
  ·rw[if_neg (show ¬0<=find (bounds p.states) n by omega)]at hl
   rcases ec with ec |ec
   ·rw[if_neg (show ¬0<=find (lines p) n by omega)]at hl
    rcases ed with ed |ed
    ·rw[if_neg (show ¬0<=find (tables p) n by omega)]at hl
     rcases eg with eg |eg
     ·rw[if_neg (show ¬0<=aB n p.stmts 0 by omega)]at hl
      exact .inr (.inr (.inr (.inr (.inr ⟨⟨ea,eb,ec,ed,eg⟩,hl⟩))))
     ·rw[if_pos eg]at hl
      exact .inr (.inr (.inr (.inr (.inl ⟨_,eg,⟨ea,eb,ec,ed,rfl⟩,hl⟩))))
    ·rw[if_pos ed]at hl
     exact .inr (.inr (.inr (.inl ⟨_,ed,⟨ea,eb,ec,rfl,by omega⟩,hl⟩)))
   ·rw[if_pos ec]at hl
    exact .inr (.inr (.inl ⟨_,ec,⟨ea,eb,rfl,by omega,by omega⟩,hl⟩))
  ·rw[if_pos eb]at hl
   exact .inr (.inl ⟨_,eb,⟨ea,rfl,by omega,by omega,by omega⟩,hl⟩)
 ·rw[if_pos ea]at hl
  exact .inl ⟨_,ea,⟨rfl,by omega,by omega,by omega,by omega⟩,hl⟩
theorem WG{n:Str}{a b c d g:Int}(h:At p n a b c d g)(i:Nat):value p n i =
  if a<0 then(if b<0 then(⟨5,n,(if g<(i:Int)then g else -1),0,[]⟩,decide ((if g<(i:Int)then g else -1)>=0))else(⟨4,n,b,0,[]⟩,decide (b>=0)))else(⟨3,n,a,0,[]⟩,decide (a>=0)):=by
 have hg:given p n i=if g<(i:Int)then g else -1:=by
  simp only[given]
  rw[Cc n p.stmts i 0 (by omega),h.hg,Int.zero_add]
 simp only[value,h.ha,h.hb,hg,decide_eq_true_eq]
theorem WH(hu:(dY p).Nodup)(i:Nat)(x:Ex)(hf:Ref15.formed x=true) :
  Ak (decl p) (i:Int) x=(bz p i x).2/\((bz p i x).2=true->vis (decl p) x=(bz p i x).1):=by
 revert hf
 refine Ex.ind (P:=λx=>Ref15.formed x=true->Ak (decl p) (i:Int) x=(bz p i x).2/\((bz p i x).2=true->vis (decl p) x=(bz p i x).1)) (λx ih hf=>?_) x
 rw[Ref15.formed_eq]at hf
 simp only[Bool.and_eq_true,Bool.not_eq_true',Bool.or_eq_false_iff,decide_eq_false_iff_not]at hf
 obtain⟨⟨⟨⟨hl,hnm⟩,hn⟩,hn0⟩,hfl⟩:=hf
 have hl:(x.l.length:Int)=parts x.kind:=by simpa[bne]using hl
 -- the parts
 have hL:∀l:List Ex,(∀y∈l,y∈x.l)->Ref15.formeds l=true->rQ (decl p) (i:Int) l=(dh p i l).2/\((dh p i l).2=true->Vd (decl p) l=(dh p i l).1):=by
  intro l
  induction l with
  |nil=>intro _ _;exact⟨rfl,λ_=>rfl⟩
  |cons y r ih2=>
   intro hm hfr
   simp only[Ref15.formeds,Bool.and_eq_true]at hfr
   obtain⟨h1,h2⟩:=ih y (hm y (by simp)) hfr.1
   obtain⟨h3,h4⟩:=ih2 (λz hz=>hm z (List.mem_cons_of_mem _ hz)) hfr.2
   simp only[rQ,dh,Vd,h1,h3,Bool.and_eq_true,true_and]
   rintro⟨q1,q2⟩
   rw[h2 q1,h4 q2]
 obtain⟨hL1,hL2⟩:=hL x.l (λ_ h=>h) hfl
 rw[D6,kN,Yl]
 simp only[vok,D5,V9,MM,eok]
 by_cases hnk:named x.kind=true
 ·by_cases hak:arr x.kind=true
  ·-- a line or a table
   have h8:¬((named x.kind&&x.kind != 8&&x.kind != 9)=true):=by
    simp only[arr,Bool.or_eq_true,beq_iff_eq]at hak
    rcases hak with h |h<;>rw[h]<;>decide
   rw[if_neg h8]
   simp only[hnk,Bool.not_true,Bool.false_or,if_true,hak,Bool.not_true,Bool.and_false,Bool.or_false,hL1]
   simp only[arr,Bool.or_eq_true,beq_iff_eq]at hak
   rcases hak with hk |hk
   ·rcases xY hu x.name with⟨a,h0,hat,hlk⟩ |⟨a,h0,hat,hlk⟩ |⟨a,h0,hat,hlk⟩ |⟨a,h0,hat,hlk⟩ |⟨a,h0,hat,hlk⟩ |⟨hat,hlk⟩ <;>
     simp only[hlk,jb,hk,hat.hc,show((8:Int)==9)=false from rfl,show((8:Int)==8)=true from rfl,Bool.false_eq_true,if_false,if_true]
    ·simp
    ·simp
    ·have e1:decide ((i:Int)>=0)=true:=by simp
     have e2:decide (a>=0)=true:=by simpa using h0
     rw[e1,e2]
     simp only[beq_self_eq_true,Bool.true_and,true_and]
     intro h;rw[hL2 h]
    ·simp
    ·simp
    ·simp
   ·rcases xY hu x.name with⟨a,h0,hat,hlk⟩ |⟨a,h0,hat,hlk⟩ |⟨a,h0,hat,hlk⟩ |⟨a,h0,hat,hlk⟩ |⟨a,h0,hat,hlk⟩ |⟨hat,hlk⟩ <;>
     simp only[hlk,jb,hk,hat.hd,show((9:Int)==9)=true from rfl,Bool.false_eq_true,if_false,if_true]
    ·simp
    ·simp
    ·simp
    ·have e1:decide ((i:Int)>=0)=true:=by simp
     have e2:decide (a>=0)=true:=by simpa using h0
     rw[e1,e2]
     simp only[beq_self_eq_true,Bool.true_and,true_and]
     intro h;rw[hL2 h]
    ·simp
    ·simp
  ·-- a value
   have hak:arr x.kind=false:=by simpa using hak
   have h8:(named x.kind&&x.kind != 8&&x.kind != 9)=true:=by
    simp only[arr,Bool.or_eq_false_iff]at hak
    simp only[hnk,bne,hak.1,hak.2,Bool.not_false,Bool.and_self]
   rw[if_pos h8]
   have hk:x.kind=2\/x.kind=3\/x.kind=4\/x.kind=5:=by
    simp only[arr,Bool.or_eq_false_iff,beq_eq_false_iff_ne,ne_eq]at hak
    simp only[named,Bool.or_eq_true,beq_iff_eq]at hnk
    omega
   have hp0:parts x.kind=0:=by rcases hk with h |h |h |h<;>rw[h]<;>rfl
   have hxl:x.l = []:=by
    rw[hp0]at hl
    exact List.length_eq_zero_iff.1 (by omega)
   have hxn:x.n=0:=by
    rcases hk with h |h |h |h<;>rw[h]at hn0<;>simpa[bne]using hn0
   simp only[hnk,Bool.not_true,Bool.false_or,if_true,hak,Bool.not_false,Bool.and_true,hxl,hxn,rQ,Vd]
   have e1:decide ((i:Int)>=0)=true:=by simp
   rcases xY hu x.name with⟨a,h0,hat,hlk⟩ |⟨a,h0,hat,hlk⟩ |⟨a,h0,hat,hlk⟩ |⟨a,h0,hat,hlk⟩ |⟨a,h0,hat,hlk⟩ |⟨hat,hlk⟩ <;>
    rw[WG hat]<;>simp only[hlk]
   ·have e2:decide (a>=0)=true:=by simpa using h0
    rw[if_neg (by omega),e1,e2];simp[arr]
   ·have e2:decide (a>=0)=true:=by simpa using h0
    rw[if_pos (by omega),if_neg (by omega),e1,e2];simp[arr]
   ·have e2:((8:Int)==x.kind)=false:=by rcases hk with h |h |h |h<;>rw[h]<;>rfl
    rw[if_pos (by omega),if_pos (by omega),e2,if_pos (by omega)];simp[arr]
   ·have e2:((9:Int)==x.kind)=false:=by rcases hk with h |h |h |h<;>rw[h]<;>rfl
    rw[if_pos (by omega),if_pos (by omega),e2,if_pos (by omega)];simp[arr]
   ·rw[if_pos (by omega),if_pos (by omega)]
    by_cases hg:a<(i:Int)
    ·rw[if_pos hg]
     have e2:decide ((i:Int)>=a+1)=true:=by simp;omega
     have e3:decide (a>=0)=true:=by simpa using h0
     rw[e2,e3];simp[arr]
    ·rw[if_neg hg]
     have e2:decide ((i:Int)>=a+1)=false:=by simp;omega
     rw[e2];simp
   ·rw[if_pos (by omega),if_pos (by omega),if_pos (by omega)];simp
 ·have hnk:named x.kind=false:=by simpa using hnk
  have hk8:(x.kind==8)=false:=by
   cases h:(x.kind==8)with
   |false=>rfl
   |true=>rw[show x.kind=8 by simpa using h]at hnk;cases hnk
  have hk9:(x.kind==9)=false:=by
   cases h:(x.kind==9)with
   |false=>rfl
   |true=>rw[show x.kind=9 by simpa using h]at hnk;cases hnk
  simp only[hnk,Bool.not_false,Bool.true_or,Bool.true_and,Bool.false_and,Bool.false_eq_true,if_false,jb,hk8,hk9,hL1]
  refine⟨by simp,?_⟩
  intro h
  have h:(dh p i x.l).2=true:=by simpa using h
  rw[hL2 h]
theorem JG(hu:(dY p).Nodup)(s:Sm)(hs:ER s.kind=true):target (decl p) s=if cO p s<0 then none else some ⟨kindOf s.kind,cO p s,0⟩:=by
 simp only[ER,Bool.or_eq_true,beq_iff_eq]at hs
 rcases hs with hk |hk <;>
 rcases xY hu s.name with⟨a,h0,hat,hlk⟩ |⟨a,h0,hat,hlk⟩ |⟨a,h0,hat,hlk⟩ |⟨a,h0,hat,hlk⟩ |⟨a,h0,hat,hlk⟩ |⟨hat,hlk⟩ <;>
  simp only[target,hlk,cO,kindOf,hk,hat.hb,hat.hc]
 all_goals simp
 all_goals omega
theorem JH{s t:Sm}(hk:t.kind=s.kind)(h:cO p t=cO p s)(h0:0<=cO p s)(hs:ER s.kind=true):t.name=s.name:=by
 simp only[ER,Bool.or_eq_true,beq_iff_eq]at hs
 simp only[cO,hk]at h h0
 rcases hs with e |e
 ·rw[e]at h h0;simp at h h0;exact Ed 0 (by omega) h (by rw[<-find,h];exact h0)
 ·rw[e]at h h0;simp at h h0;exact Ed 0 (by omega) h (by rw[<-find,h];exact h0)
def GK(p:Pr):List Sm->List (Int×Int)
 | []=>[]
 |s::r=>if ER s.kind then(kindOf s.kind,cO p s)::GK p r else GK p r
theorem Eg(p:Pr):∀a b:List Sm,GK p (a++b)=GK p a++GK p b
 | [],_=>rfl
 |s::a,b=>by
  simp only[List.cons_append,GK,Eg p a b]
  split<;>rfl
theorem Ce{s:Sm}(hs:ER s.kind=true)(h0:0<=cO p s):∀pre:List Sm,lZ (GK p pre) (kindOf s.kind) (cO p s)=pre.any λt=>t.kind==s.kind&&t.name==s.name
 | []=>rfl
 |t::r=>by
  have ih:=Ce hs h0 r
  have hcons:∀(x:Int×Int) l a b,lZ (x::l) a b=((x.1==a&&x.2==b) || lZ l a b):=λ_ _ _ _=>rfl
  simp only[GK,List.any_cons]
  by_cases ht:ER t.kind=true
  ·rw[if_pos ht,hcons,ih]
   congr 1
   rw[Bool.eq_iff_iff]
   simp only[Bool.and_eq_true,beq_iff_eq]
   constructor
   ·rintro⟨h1,h2⟩
    have hk:t.kind=s.kind:=by
     simp only[ER,Bool.or_eq_true,beq_iff_eq]at hs ht
     simp only[kindOf]at h1
     rcases hs with e |e<;>rcases ht with e2 |e2<;>rw[e,e2]at h1<;>simp at h1<;>omega
    exact⟨hk,JH hk h2 h0 hs⟩
   ·rintro⟨h1,h2⟩
    simp only[cO,h1,h2,and_self]
  ·rw[if_neg ht,ih]
   have:(t.kind==s.kind)=false:=by
    cases h:(t.kind==s.kind)with
    |false=>rfl
    |true=>rw[show t.kind=s.kind by simpa using h]at ht;exact absurd hs ht
   rw[this];rfl
theorem WI{pre r:List Sm}{s:Sm}(e:p.stmts=pre++s::r):again p pre.length s=((pre.any λt=>t.kind==4) || (s.kind != 1&&pre.any λt=>t.kind==s.kind&&t.name==s.name)):=by
 simp only[again,e,List.take_left']
 clear e
 induction pre with
 |nil=>simp
 |cons t pre ih=>
  simp only[List.any_cons,ih]
  cases (t.kind==4)<;>cases (s.kind != 1)<;>cases (t.kind==s.kind)<;>cases (t.name==s.name)<;>cases (pre.any λt=>t.kind==4)<;>cases (pre.any λt=>t.kind==s.kind&&t.name==s.name)<;>rfl
theorem Eh(hu:(dY p).Nodup)(hF:Ref15.Formed p=true):∀(r pre:List Sm),p.stmts=pre++r->∀out,out=(pre.any λt=>t.kind==4) ->
  Gp (decl p) r pre.length (GK p pre) out=bT p r pre.length out
 | [],pre,_,out,_=>by cases out<;>rfl
 |s::r,pre,e,out,ho=>by
  have hsm:stmtOk s=true:=List.all_eq_true.1 hF s (by rw[e];simp)
  simp only[stmtOk,Bool.not_eq_true',Bool.or_eq_false_iff,decide_eq_false_iff_not]at hsm
  obtain⟨⟨⟨hk1,hk2⟩,_⟩,hfx⟩:=hsm
  have hfx:Ref15.formed s.x=true:=by simpa using hfx
  obtain⟨h1,h2⟩:=WH hu pre.length s.x hfx
  simp only[Gp,bT]
  rw[<-h1]
  cases hv:Ak (decl p) (pre.length:Int) s.x with
  |false=>simp[lm,hv]
  |true=>
   have h2:=h2 (by rw[<-h1];exact hv)
   rw[WI e,<-ho]
   by_cases hs:ER s.kind=true
   ·have ht:=JG hu s hs
    by_cases h0:cO p s<0
    ·rw[if_pos h0]at ht
     simp[lm,hv,hs,ht,h0]
    ·rw[if_neg h0]at ht
     have hd:=Ce hs (by omega:0<=cO p s) pre
     have hn1:(s.kind != 1)=true:=by
      simp only[ER,Bool.or_eq_true,beq_iff_eq]at hs
      rcases hs with h |h<;>rw[h]<;>rfl
     simp only[lm,hv,hs,ht,Bool.not_true,Bool.false_eq_true,if_false,if_true]
     rw[show((GK p pre).any λd=>d.1==kindOf s.kind&&d.2==cO p s)=lZ (GK p pre) (kindOf s.kind) (cO p s)from rfl,hd,hn1]
     simp only[h0,decide_false,Bool.true_and,Bool.false_eq_true,if_false]
     cases out with
     |true=>simp
     |false=>
      cases hb:(pre.any λt=>t.kind==s.kind&&t.name==s.name)with
      |true=>simp
      |false=>
       simp only[Bool.not_false,Bool.and_self,Bool.or_self,Bool.false_eq_true,if_false,if_true,bne_self_eq_false]
       have ih:=Eh hu hF r (pre++[s]) (by rw[e];simp) (s.kind==4) (by simp[<-ho])
       have hdn:vX (decl p) s (GK p pre)=GK p (pre++[s]):=by
        rw[Eg];simp only[vX,hs,ht,if_true,GK]
       rw[hdn]
       simp only[List.length_append,List.length_cons,List.length_nil,Nat.zero_add]at ih
       rw[ih]
       have ho2:outS (decl p) s=⟨s.kind,s.name,cO p s,(bz p pre.length s.x).1⟩:=by
        simp only[outS,ZN,hs,ht,if_true,h2]
       rw[ho2]
       all_goals(cases bT p r (pre.length+1) (s.kind==4)<;>rfl)
   ·have hs:ER s.kind=false:=by simpa using hs
    have hsm0:cO p s=0:=by
     simp only[ER,Bool.or_eq_false_iff]at hs
     simp only[cO,hs.1,hs.2,Bool.false_eq_true,if_false]
    have hk14:s.kind=1\/s.kind=4:=by
     simp only[ER,Bool.or_eq_false_iff,beq_eq_false_iff_ne,ne_eq]at hs
     omega
    have hag:(out || (s.kind != 1&&pre.any λt=>t.kind==s.kind&&t.name==s.name))=out:=by
     rcases hk14 with h |h
     ·rw[h];simp
     ·rw[h]
      cases hb:(pre.any λt=>t.kind==4&&t.name==s.name)with
      |false=>simp
      |true=>
       have:out=true:=by
        rw[ho]
        simp only[List.any_eq_true,Bool.and_eq_true]at hb ⊢
        obtain⟨t,ht1,ht2,_⟩:=hb
        exact⟨t,ht1,ht2⟩
       rw[this];rfl
    rw[hag]
    simp only[lm,hv,hs,hsm0,Bool.not_true,Bool.false_eq_true,if_false]
    cases out with
    |true=>simp
    |false=>
     simp only[Bool.not_false,if_true,bne_self_eq_false,Bool.false_eq_true,if_false]
     have ih:=Eh hu hF r (pre++[s]) (by rw[e];simp) (s.kind==4) (by simp[<-ho])
     have hdn:vX (decl p) s (GK p pre)=GK p (pre++[s]):=by
      rw[Eg];simp only[vX,hs,Bool.false_eq_true,if_false,GK,List.append_nil]
     rw[hdn]
     simp only[List.length_append,List.length_cons,List.length_nil,Nat.zero_add]at ih
     rw[ih]
     have ho2:outS (decl p) s=⟨s.kind,s.name,0,(bz p pre.length s.x).1⟩:=by
      simp only[outS,ZN,hs,Bool.false_eq_true,if_false,h2]
     rw[ho2]
     simp only[Bool.false_eq_true,if_false,Int.lt_irrefl,decide_false]
     all_goals(cases bT p r (pre.length+1) (s.kind==4)<;>rfl)
theorem resolve_same(p:Pr):resolveC p=Ref15.Resolve p:=by
 unfold resolveC Ref15.Resolve
 rw[JB,Gz,SQ,JC,JF]
 have e:(p.name::dY p).all nmOk=(o7 p.name&&(dY p).all o7):=by
  have:nmOk=o7:=by funext s;exact z0c s
  rw[List.all_cons,this]
 rw[e]
 cases hF:Formed p with
 |false=>rfl
 |true=>
  cases hL:Ref15.limited p with
  |false=>rfl
  |true=>
   cases h1:o7 p.name with
   |false=>rfl
   |true=>
    cases h2:(dY p).all o7 with
    |false=>rfl
    |true=>
     cases h3:AC (dY p)with
     |false=>rfl
     |true=>
      cases h4:Ref15.ranged p with
      |false=>rfl
      |true=>
       have:=Eh (o8.1 h3) hF p.stmts [] rfl false rfl
       simp only[Bool.not_true,Bool.and_self,Bool.false_eq_true,if_false]
       exact congrArg _ this
end Go.Fw.Nam
