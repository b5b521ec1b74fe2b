/- Plain: what the checks of names.Resolve say, next to the reference's. -/
import Derived.Test.YthpbakljheeabaaGreatDoorZDB
set_option linter.unusedSectionVars false
set_option linter.unusedSimpArgs false
set_option linter.unusedVariables false
namespace Go.Fw.Nam
variable [af]
open Ref15
theorem kinds_cases{k:Int}(h:1<=k/\k<=19):k=1\/k=2\/k=3\/k=4\/k=5\/k=6\/k=7\/k=8\/k=9\/k=10\/k=11\/k=12\/k=13\/k=14\/k=15\/k=16\/k=17\/k=18\/k=19:=by omega
theorem z4n{k n:Int}(h:¬(k=n)):(k==n)=false:=by simpa using h
theorem LP(k:Int):arity k=(parts k,named k):=by
 by_cases h:1<=k/\k<=19
 ·rcases kinds_cases h with h |h |h |h |h |h |h |h |h |h |h |h |h |h |h |h |h |h |h<;>subst h<;>rfl
 ·have e:∀n:Int,1<=n->n<=19->(k==n)=false:=λn h1 h2=>z4n (by omega)
  simp[arity,parts,named,e]
theorem Ox(x:Ex):kK x=(!((x.l.length:Int) != parts x.kind || (!named x.kind&&x.name != []) || decide (x.n<0)) && !(x.kind != 1&&x.kind != 18&&x.n != 0)):=by
 simp only[kK,LP,bne]
 have h:decide (x.n>=0) = !decide (x.n<0):=by
  by_cases h:x.n<0<;>simp[h]<;>omega
 rw[h]
 cases ((x.l.length:Int)==parts x.kind)<;>cases named x.kind<;>cases (x.name==[])<;>cases decide (x.n<0)<;>cases (x.kind==1)<;>cases (x.kind==18)<;>cases (x.n==0)<;>rfl
theorem F7(x:Ex):every kK x=Ref15.formed x:=by
 refine Ex.ind (P:=λx=>every kK x=Ref15.formed x) (λx ih=>?_) x
 rw[xA,Ref15.formed_eq,Ox]
 congr 1
 generalize x.l=l at ih
 induction l with
 |nil=>rfl
 |cons y r ih2=>
  simp only[tH,Ref15.formeds]
  rw[ih y (by simp),ih2 (λz hz=>ih z (List.mem_cons_of_mem _ hz))]
theorem Jf(p:Pr):formed p=Ref15.Formed p:=by
 unfold formed Ref15.Formed
 congr 1
 funext s
 rw[F7,VG,Ref15.stmtOk]
 have h1:decide (s.kind>=1) = !decide (s.kind<1):=by by_cases h:s.kind<1<;>simp[h]<;>omega
 have h2:decide (s.kind<=4) = !decide (s.kind>4):=by by_cases h:s.kind>4<;>simp[h]<;>omega
 rw[h1,h2]
 simp only[bne]
 cases decide (s.kind<1)<;>cases decide (s.kind>4)<;>cases (s.kind==4)<;>cases (s.name==[])<;>cases Ref15.formed s.x<;>rfl
theorem RU(a b n:Int):mm2 true a b<=n↔a<=n/\b<=n:=by
 simp only[mm2];split<;>omega
theorem F8(p:Pr):limited p=Ref15.limited p:=by
 have h1:p.lines.all ln1=p.lines.all BD:=by
  congr 1;funext l;simp only[ln1,BD]
  by_cases a:l.size<1<;>by_cases b:l.size>65536<;>simp[a,b]<;>omega
 have h2:p.tables.all tb1=p.tables.all kH:=by
  congr 1;funext t;simp only[tb1,kH]
  by_cases a:(t.values.length:Int)<1<;>by_cases b:(t.values.length:Int)>1024<;>simp[a,b]<;>omega
 have h3:p.stmts.all sm1=p.stmts.all zf:=by
  congr 1;funext s;simp only[sm1,zf]
  by_cases a:(nodes s.x:Int)>512<;>simp[a]<;>omega
 have h4:Zv p=(few p&&memOk p):=by
  rw[Bool.eq_iff_iff]
  simp only[Zv,few,memOk,Bool.and_eq_true,Bool.not_eq_true',Bool.or_eq_false_iff,decide_eq_true_eq,decide_eq_false_iff_not]
  have hm:most p<=16↔((((p.params.length:Int)<=16/\(p.states.length:Int)<=16)/\(p.lines.length:Int)<=16)/\(p.tables.length:Int)<=16):=by
   unfold most;rw[RU,RU,RU]
  rw[hm]
  omega
 rw[Ref15.limited_eq,limited,h1,h2,h3,h4]
 cases few p<;>cases memOk p<;>cases p.lines.all BD<;>cases p.tables.all kH<;>cases p.stmts.all zf<;>rfl
theorem z4o(b:Bd):bd1 b=between b.lo b.hi:=by
 rw[Bool.eq_iff_iff]
 simp only[bd1,sample,between,Bool.and_eq_true,decide_eq_true_eq]
 omega
theorem LQ:∀(l:List Int) (i:Int),0<=i->(decide (lS l i>=0)) = !(l.all λv=>sample v)
 | [],i,_=>by simp[lS]
 |v::r,i,h=>by
  simp only[lS,List.all_cons]
  by_cases hv:sample v=true
  ·simp only[hv,Bool.not_true,Bool.false_eq_true,if_false,Bool.true_and]
   exact LQ r (i+1) (by omega)
  ·simp[hv,h]
theorem Oy(x:Ex):lQ x = !(decide (x.n>2147483648) || (x.kind==18&&decide (x.n<1))):=by
 simp only[lQ,bne]
 have h1:decide (x.n<=2147483648) = !decide (x.n>2147483648):=by by_cases h:x.n>2147483648<;>simp[h]<;>omega
 have h2:decide (x.n>0) = !decide (x.n<1):=by by_cases h:x.n<1<;>simp[h]<;>omega
 rw[h1,h2]
 cases decide (x.n>2147483648)<;>cases (x.kind==18)<;>cases decide (x.n<1)<;>rfl
theorem F9(x:Ex):every lQ x=numbers x:=by
 refine Ex.ind (P:=λx=>every lQ x=numbers x) (λx ih=>?_) x
 rw[xA,BF,Oy]
 congr 1
 generalize x.l=l at ih
 induction l with
 |nil=>rfl
 |cons y r ih2=>
  simp only[tH,pK]
  rw[ih y (by simp),ih2 (λz hz=>ih z (List.mem_cons_of_mem _ hz))]
theorem Jg(p:Pr):ranged p=Ref15.ranged p:=by
 rw[Ref15.ranged_eq,ranged]
 have h1:(allB p).all bd1=(Oo p.params&&(Oo p.states&&VD p.lines)):=by
  have e:bd1=λb=>between b.lo b.hi:=by funext b;exact z4o b
  rw[e]
  simp only[allB,List.flatten_cons,List.flatten_nil,List.append_nil,List.all_append,List.all_map,Oo,VD,Bool.and_assoc]
  rfl
 have h2:p.tables.all tb2=VE p.tables:=by
  unfold VE
  congr 1;funext t
  simp only[tb2,bad,QZ]
  rw[LQ t.values 0 (by omega),Bool.not_not]
  congr 1;funext v
  rw[Bool.eq_iff_iff];simp only[sample,between,Bool.and_eq_true,decide_eq_true_eq];omega
 have h3:p.stmts.all sm2=VF p.stmts:=by
  unfold VF
  congr 1;funext s;exact F9 s.x
 rw[h1,h2,h3]
 simp only[Bool.and_assoc]
theorem z4p(c:UInt8):I8 c=Ref03.part c:=by
 simp only[I8,Ref03.part,cls,bne]
 cases Ref03.letter c with
 |true=>rfl
 |false=>
  cases Ref03.figure c with
  |true=>rfl
  |false=>
   cases hu:((c.toNat:Int)==95)with
   |true=>rfl
   |false=>
    simp only[Bool.false_eq_true,if_false,Bool.or_self]
    split
    ·rfl
    ·split<;>rfl
theorem Oz(c:UInt8):(cls c==2)=Ref03.letter c:=by
 simp only[cls]
 cases Ref03.letter c with
 |true=>rfl
 |false=>
  simp only[Bool.false_eq_true,if_false]
  split
  ·rfl
  ·split
   ·rfl
   ·split
    ·rfl
    ·split<;>rfl
theorem VZ(s:Str):Dx s=Ref03.name s:=by
 simp only[Dx,Ref03.name,bne]
 rw[Oz]
 have e:s.all I8=s.all Ref03.part:=by congr 1;funext c;exact z4p c
 rw[e]
 have h:(s==[])=decide ((s.length:Int)<1):=by
  cases s with
  |nil=>rfl
  |cons a r=>
   have:¬((((a::r).length:Nat):Int)<1):=by simp only[List.length_cons];omega
   rw[decide_eq_false this];rfl
 rw[h]
theorem contains_cons(b:UInt8)(l sub:Str):Lib.contains (b::l) sub=(sub.isPrefixOf (b::l) || Lib.contains l sub):=by
 have hge:=Lib.index_ge l sub
 simp only[Lib.contains,Lib.index]
 by_cases hp:sub.isPrefixOf (b::l)=true
 ·simp[hp]
 ·simp only[hp,Bool.false_eq_true,if_false,Bool.false_or]
  by_cases h:Lib.index l sub = -1
  ·simp[h]
  ·have e:(Lib.index l sub == -1)=false:=by simpa using h
   simp only[e,Bool.false_eq_true,if_false]
   rw[Bool.eq_iff_iff];simp only[decide_eq_true_eq];omega
theorem contains_nil(c:UInt8)(sub:Str):Lib.contains [] (c::sub)=false:=by simp[Lib.contains,Lib.index]
def zA:List Str->Str
 | []=>[32]
 |w::r=>32::(w++zA r)
theorem uh(s:Str):∀(w:Str) (t:Str),(32:UInt8) ∉ w->Lib.contains (w++t) (32::s)=Lib.contains t (32::s)
 | [],t,_=>rfl
 |c::w,t,h=>by
  simp only[List.mem_cons,not_or]at h
  rw[List.cons_append,contains_cons,uh s w t h.2]
  have:(32:UInt8)≠c:=h.1
  simp[List.isPrefixOf,this]
theorem zB:∀(s w:Str) (t:Str),(32:UInt8) ∉ s->(32:UInt8) ∉ w->(s++[32]).isPrefixOf (w++32::t)=(w==s)
 | [],[],t,_,_=>by simp[List.isPrefixOf]
 | [],c::w,t,_,h=>by
  simp only[List.mem_cons,not_or]at h
  have:(32:UInt8)≠c:=h.1
  simp[List.isPrefixOf,this]
 |a::s,[],t,h,_=>by
  simp only[List.mem_cons,not_or]at h
  have:¬a=(32:UInt8):=λe=>h.1 e.symm
  simp[List.isPrefixOf,this]
 |a::s,c::w,t,h1,h2=>by
  simp only[List.mem_cons,not_or]at h1 h2
  simp only[List.cons_append,List.isPrefixOf,zB s w t h1.2 h2.2]
  by_cases e:a=c
  ·subst e;simp
  ·have e':¬c=a:=λh=>e h.symm
   have b1:(a==c)=false:=by simpa using e
   have b2:(c==a)=false:=by simpa using e'
   show(a==c&&w==s)=(c==a&&w==s)
   rw[b1,b2]
theorem Jh:∀ws,∃t,zA ws=32::t
 | []=>⟨[],rfl⟩
 |w::r=>⟨w++zA r,rfl⟩
theorem oV(s:Str)(hs:(32:UInt8) ∉ s):∀ws:List Str,(∀w∈ws,(32:UInt8) ∉ w)->Lib.contains (zA ws) (32::(s++[32]))=ws.any λw=>w==s
 | [],_=>by
  rw[zA,contains_cons,contains_nil]
  cases s<;>simp[List.isPrefixOf]
 |w::r,h=>by
  have hw:=h w (by simp)
  obtain⟨t,ht⟩:=Jh r
  rw[zA,contains_cons,uh _ w _ hw,oV s hs r (λx hx=>h x (List.mem_cons_of_mem _ hx)),List.any_cons]
  congr 1
  rw[ht]
  simp only[List.isPrefixOf,beq_self_eq_true,Bool.true_and]
  exact zB s w t hs hw
theorem RV(s:Str):∀(l:List Str) (i:Int),0<=i->decide (aV s l i>=0)=l.any λw=>w==s
 | [],i,_=>by simp[aV]
 |x::r,i,h=>by
  simp only[aV,List.any_cons]
  by_cases hx:(x==s)=true
  ·simp only[hx,if_true,Bool.true_or];simpa using h
  ·simp only[hx,Bool.false_eq_true,if_false,Bool.false_or]
   exact RV s r (i+1) (by omega)
theorem RX:Lr=zA words:=by decide
theorem Ji:∀w∈words,(32:UInt8) ∉ w:=by decide
theorem OA{s:Str}(h:s.all Ref03.part=true):(32:UInt8) ∉ s:=by
 intro hm
 have:=List.all_eq_true.1 h 32 hm
 revert this;decide
theorem ZT(s:Str):nmOk s=oN s:=by
 simp only[nmOk,oN,VZ]
 cases hn:Ref03.name s with
 |false=>rfl
 |true=>
  have hs:(32:UInt8) ∉ s:=by
   unfold Ref03.name at hn
   simp only[Bool.and_eq_true]at hn
   exact OA hn.2
  rw[RX,show([32]++s++[32]:Str)=32::(s++[32])by simp,oV s hs words Ji]
  have:decide (find words s>=0)=_:=RV s words 0 (by omega)
  rw[this];simp
theorem Gf(k:Int):∀(l:List Str) (i:Nat),jb (jP k l i)=l
 | [],_=>rfl
 |s::r,i=>by simp only[jP,jb,List.map_cons];exact congrArg _ (Gf k r (i+1))
theorem Gg:∀(l:List Sm) (i:Nat),jb (xE l i)=lets l
 | [],_=>rfl
 |s::r,i=>by
  have ih:=Gg r (i+1)
  simp only[xE,lets,List.filter_cons]at ih ⊢
  split
  ·simp only[jb,List.map_cons]at ih ⊢;rw[ih]
  ·exact ih
theorem V3(a b:List Pe):jb (a++b)=jb a++jb b:=by simp[jb]
theorem RY(p:Pr):jb (decl p)=dP p:=by
 simp only[decl,T4,T3,T2,T1,V3,Gf,Gg,dP,List.append_assoc]
theorem DN(s:Str):∀(l:List Str) (i:Int),aV s l i = -1\/i<=aV s l i
 | [],i=>.inl rfl
 |x::r,i=>by
  simp only[aV]
  split
  ·exact .inr (Int.le_refl _)
  ·rcases DN s r (i+1)with h |h
   ·exact .inl h
   ·exact .inr (by omega)
theorem ui:∀(r pre:List Str),(∀a∈pre,a ∉ r)->iG (pre++r) r (pre.length:Int)=Ai r
 | [],_,_=>rfl
 |s::r,pre,h=>by
  have hf:∀(pre:List Str) (i:Int),s ∉ pre->aV s (pre++s::r) i=i+pre.length:=by
   intro pre
   induction pre with
   |nil=>intro i _;simp[aV]
   |cons a pre ih=>
    intro i hm
    simp only[List.mem_cons,not_or]at hm
    have:¬a=s:=λe=>hm.1 e.symm
    simp only[List.cons_append,aV]
    rw[if_neg (by simpa using this),ih (i+1) hm.2]
    simp only[List.length_cons];omega
  have hs:s ∉ pre:=λhm=>h s hm (by simp)
  simp only[iG,Ai]
  have e1:(find (pre++s::r) s != (pre.length:Int))=false:=by
   have:=hf pre 0 hs
   simp only[find,this,Int.zero_add,bne_self_eq_false]
  rw[e1]
  simp only[Bool.not_false,Bool.true_and]
  cases hb:Di s r with
  |false=>
   simp only[Bool.not_false,Bool.true_and]
   have:=ui r (pre++[s]) (by
    intro a ha hr
    rcases List.mem_append.1 ha with ha |ha
    ·exact h a ha (List.mem_cons_of_mem _ hr)
    ·simp only[List.mem_singleton]at ha;subst ha
     rw[tX.2 hr]at hb;simp at hb)
   simpa using this
  |true=>
   simp only[Bool.not_true,Bool.false_and]
   -- s stands again: its first place is not there
   have hm:=tX.1 hb
   have key:∀(r2:List Str) (pre2:List Str),s∈r2->s∈pre2->iG (pre2++r2) r2 (pre2.length:Int)=false:=by
    intro r2
    induction r2 with
    |nil=>intro _ hm;simp at hm
    |cons a r2 ih=>
     intro pre2 hm2 hp
     simp only[iG]
     by_cases e:a=s
     ·subst e
      have hlt:∀(pre:List Str) (i:Int),0<=i->a∈pre->aV a (pre++a::r2) i<i+pre.length:=by
       intro pre
       induction pre with
       |nil=>intro i _ hm;simp at hm
       |cons b pre ih2=>
        intro i hi hm
        simp only[List.cons_append,aV]
        split
        ·simp only[List.length_cons];omega
        ·rename_i hne
         have:a∈pre:=by
          rcases List.mem_cons.1 hm with h |h
          ·exact absurd h.symm (by simpa using hne)
          ·exact h
         have:=ih2 (i+1) (by omega) this
         simp only[List.length_cons];omega
      have:=hlt pre2 0 (by omega) hp
      have hne:(find (pre2++a::r2) a != (pre2.length:Int))=true:=by
       simp only[find,bne_iff_ne,ne_eq];omega
      rw[hne];rfl
     ·have hm3:s∈r2:=by
       rcases List.mem_cons.1 hm2 with h |h
       ·exact absurd h.symm e
       ·exact h
      have:=ih (pre2++[a]) hm3 (by simp[hp])
      simp only[List.append_assoc,List.cons_append,List.nil_append,List.length_append,List.length_cons,List.length_nil]at this
      have e2:((pre2.length:Int)+1)=((pre2.length+(0+1):Nat):Int):=by omega
      rw[e2,this,Bool.and_false]
   have:=key r (pre++[s]) hm (by simp)
   simpa using this
theorem Jj(l:List Str):iG l l 0=Ai l:=by
 have:=ui l [] (by simp)
 simpa using this
theorem LU{n:Str}:∀{l:List Str} (i:Int),n ∉ l->aV n l i = -1
 | [],_,_=>rfl
 |x::r,i,h=>by
  simp only[List.mem_cons,not_or]at h
  have:(x==n)=false:=by simpa using λe:x=n=>h.1 e.symm
  simp only[aV,this,Bool.false_eq_true,if_false]
  exact LU (i+1) h.2
theorem DR{a b:Str}:∀{l:List Str} (i:Int),0<=i->aV a l i=aV b l i->0<=aV a l i->a=b
 | [],_,_,_,h=>by simp[aV]at h
 |x::r,i,hi,h,h2=>by
  simp only[aV]at h h2
  have ha:=DN a r (i+1)
  have hb:=DN b r (i+1)
  split at h
  ·rename_i hxa
   split at h
   ·rename_i hxb
    have e1:x=a:=by simpa using hxa
    have e2:x=b:=by simpa using hxb
    rw[<-e1,<-e2]
   ·omega
  ·rename_i hxa
   split at h
   ·omega
   ·rw[if_neg hxa]at h2
    exact DR (i+1) (by omega) h h2
theorem Ya(n:Str):∀a b:List Pe,lk n (a++b)=match lk n a with |some e=>some e |none=>lk n b
 | [],_=>rfl
 |x::a,b=>by
  simp only[List.cons_append,lk]
  split
  ·rfl
  ·exact Ya n a b
theorem Si(n:Str)(k:Int):∀(l:List Str) (i:Nat),lk n (jP k l i)=if aV n l i<0 then none else some ⟨k,aV n l i,0⟩
 | [],i=>by simp[jP,lk,aV]
 |x::r,i=>by
  have ih:=Si n k r (i+1)
  simp only[jP,lk,aV]
  by_cases hx:x=n
  ·subst hx
   have:¬((i:Int)<0):=by omega
   simp[this]
  ·have h1:(n==x)=false:=by simpa using λe:n=x=>hx e.symm
   have h2:(x==n)=false:=by simpa using hx
   simp only[h1,h2,Bool.false_eq_true,if_false]
   rw[ih];rfl
theorem DT(n:Str):∀(l:List Sm) (i:Int),aC n l i = -1\/i<=aC n l i
 | [],i=>.inl rfl
 |x::r,i=>by
  simp only[aC]
  split
  ·exact .inr (Int.le_refl _)
  ·rcases DT n r (i+1)with h |h
   ·exact .inl h
   ·exact .inr (by omega)
theorem Sj(n:Str):∀(l:List Sm) (i:Nat),lk n (xE l i)=if aC n l i<0 then none else some ⟨5,aC n l i,aC n l i+1⟩
 | [],i=>by simp[xE,lk,aC]
 |x::r,i=>by
  have ih:=Sj n r (i+1)
  simp only[xE,aC]
  by_cases hk:x.kind=1
  ·have hk':(x.kind==1)=true:=by simpa using hk
   simp only[hk',if_true,Bool.true_and,lk]
   by_cases hx:x.name=n
   ·subst hx
    have:¬((i:Int)<0):=by omega
    simp[this]
   ·have h1:(n==x.name)=false:=by simpa using λe:n=x.name=>hx e.symm
    have h2:(x.name==n)=false:=by simpa using hx
    simp only[h1,h2,Bool.false_eq_true,if_false]
    rw[ih];rfl
  ·have hk':(x.kind==1)=false:=by simpa using hk
   simp only[hk',Bool.false_eq_true,if_false,Bool.false_and]
   rw[ih];rfl
theorem zC{n:Str}:∀{l:List Sm} (i:Int),n ∉ lets l->aC n l i = -1
 | [],_,_=>rfl
 |x::r,i,h=>by
  simp only[aC]
  by_cases hk:x.kind=1
  ·simp only[lets,List.filter_cons,hk,beq_self_eq_true,if_true,List.map_cons,List.mem_cons,not_or]at h
   have h2:(x.name==n)=false:=by simpa using λe:x.name=n=>h.1 e.symm
   simp only[h2,Bool.and_false,Bool.false_eq_true,if_false]
   exact zC (i+1) h.2
  ·have hk':(x.kind==1)=false:=by simpa using hk
   simp only[lets,List.filter_cons,hk',Bool.false_eq_true,if_false]at h
   simp only[hk',Bool.false_and,Bool.false_eq_true,if_false]
   exact zC (i+1) h
theorem BK(n:Str):∀(l:List Sm) (b:Nat) (i:Int),0<=i->aC n (l.take b) i=if aC n l i<i+b then aC n l i else -1
 | [],b,i,hi=>by
  have:(-1:Int)<i+b:=by omega
  simp[aC,this]
 |x::r,0,i,hi=>by
  simp only[List.take_zero,aC]
  have:=DT n r (i+1)
  split
  ·simp
  ·split
   ·omega
   ·rfl
 |x::r,b+1,i,hi=>by
  simp only[List.take_succ_cons,aC]
  split
  ·rw[if_pos (by omega)]
  ·rw[BK n r b (i+1) (by omega)]
   have:i+1+(b:Int)=i+((b+1:Nat):Int):=by omega
   rw[this]
theorem ZU(p:Pr)(n:Str):lk n (decl p) =
  if 0<=find (bounds p.params) n then some ⟨3,find (bounds p.params) n,0⟩
  else if 0<=find (bounds p.states) n then some ⟨4,find (bounds p.states) n,0⟩
  else if 0<=find (lines p) n then some ⟨8,find (lines p) n,0⟩
  else if 0<=find (tables p) n then some ⟨9,find (tables p) n,0⟩
  else if 0<=aC n p.stmts 0 then some ⟨5,aC n p.stmts 0,aC n p.stmts 0+1⟩else none:=by
 have e0:∀(k:Int) (l:List Str),lk n (jP k l 0)=if 0<=find l n then some ⟨k,find l n,0⟩else none:=λk l=>by
  have h:lk n (jP k l 0)=if find l n<0 then none else some ⟨k,find l n,0⟩:=Si n k l 0
  rw[h]
  by_cases hh:find l n<0
  ·rw[if_pos hh,if_neg (by omega)]
  ·rw[if_neg hh,if_pos (by omega)]
 have e1:lk n (xE p.stmts 0)=if 0<=aC n p.stmts 0 then some ⟨5,aC n p.stmts 0,aC n p.stmts 0+1⟩else none:=by
  have h:lk n (xE p.stmts 0)=if aC n p.stmts 0<0 then none else some ⟨5,aC n p.stmts 0,aC n p.stmts 0+1⟩:=Sj n p.stmts 0
  rw[h]
  by_cases hh:aC n p.stmts 0<0
  ·rw[if_pos hh,if_neg (by omega)]
  ·rw[if_neg hh,if_pos (by omega)]
 simp only[decl,T4,T3,T2,T1,Ya,e0,e1]
 generalize find (bounds p.params) n=a
 generalize find (bounds p.states) n=b
 generalize find (lines p) n=c
 generalize find (tables p) n=d
 by_cases h1:0<=a
 ·simp only[if_pos h1]
 ·simp only[if_neg h1]
  by_cases h2:0<=b
  ·simp only[if_pos h2]
  ·simp only[if_neg h2]
   by_cases h3:0<=c
   ·simp only[if_pos h3]
   ·simp only[if_neg h3]
    by_cases h4:0<=d
    ·simp only[if_pos h4]
    ·simp only[if_neg h4]
structure At(p:Pr)(n:Str)(a b c d g:Int):Prop where
 ha:find (bounds p.params) n=a
 hb:find (bounds p.states) n=b
 hc:find (lines p) n=c
 hd:find (tables p) n=d
 hg:aC n p.stmts 0=g
variable {p : Pr}
theorem DU(l:List Str)(n:Str):find l n = -1\/0<=find l n:=by
 rcases DN n l 0 with h |h
 ·exact .inl h
 ·exact .inr h
theorem V4(l:List Sm)(n:Str):aC n l 0 = -1\/0<=aC n l 0:=by
 rcases DT n l 0 with h |h
 ·exact .inl h
 ·exact .inr h
theorem dW{l:List Str}{n:Str}(h:0<=find l n):n∈l:=by
 by_cases hm:n∈l
 ·exact hm
 ·have:find l n = -1:=LU 0 hm
  omega
theorem uj{l:List Sm}{n:Str}(h:0<=aC n l 0):n∈lets l:=by
 by_cases hm:n∈lets l
 ·exact hm
 ·have:aC n l 0 = -1:=zC 0 hm
  omega
theorem xJ(hu:(dP p).Nodup)(n:Str) :
  (∃a,0<=a/\At p n a (-1) (-1) (-1) (-1)/\lk n (decl p)=some ⟨3,a,0⟩) \/
  (∃a,0<=a/\At p n (-1) a (-1) (-1) (-1)/\lk n (decl p)=some ⟨4,a,0⟩) \/
  (∃a,0<=a/\At p n (-1) (-1) a (-1) (-1)/\lk n (decl p)=some ⟨8,a,0⟩) \/
  (∃a,0<=a/\At p n (-1) (-1) (-1) a (-1)/\lk n (decl p)=some ⟨9,a,0⟩) \/
  (∃a,0<=a/\At p n (-1) (-1) (-1) (-1) a/\lk n (decl p)=some ⟨5,a,a+1⟩) \/
  (At p n (-1) (-1) (-1) (-1) (-1)/\lk n (decl p)=none):=by
 have hl:=ZU p n
 simp only[dP,List.nodup_append]at hu
 obtain⟨⟨⟨⟨hA,hB,hAB⟩,hC,hABC⟩,hD,hABCD⟩,hE,hABCDE⟩:=hu
 have ea:=DU (bounds p.params) n
 have eb:=DU (bounds p.states) n
 have ec:=DU (lines p) n
 have ed:=DU (tables p) n
 have eg:=V4 p.stmts n
 have no:∀{l m:List Str},(∀a∈l,∀b∈m,a≠b)->n∈l->n∈m->False:=λh h1 h2=>h n h1 n h2 rfl
 have xAB:¬(0<=find (bounds p.params) n/\0<=find (bounds p.states) n):=λ⟨h1,h2⟩=>no hAB (dW h1) (dW h2)
 have xAC:¬(0<=find (bounds p.params) n/\0<=find (lines p) n):=λ⟨h1,h2⟩=>no hABC (by simp[dW h1]) (dW h2)
 have xBC:¬(0<=find (bounds p.states) n/\0<=find (lines p) n):=λ⟨h1,h2⟩=>no hABC (by simp[dW h1]) (dW h2)
 have xAD:¬(0<=find (bounds p.params) n/\0<=find (tables p) n):=λ⟨h1,h2⟩=>no hABCD (by simp[dW h1]) (dW h2)
 have xBD:¬(0<=find (bounds p.states) n/\0<=find (tables p) n):=λ⟨h1,h2⟩=>no hABCD (by simp[dW h1]) (dW h2)
 have xCD:¬(0<=find (lines p) n/\0<=find (tables p) n):=λ⟨h1,h2⟩=>no hABCD (by simp[dW h1]) (dW h2)
 have xAE:¬(0<=find (bounds p.params) n/\0<=aC n p.stmts 0):=λ⟨h1,h2⟩=>no hABCDE (by simp[dW h1]) (uj h2)
 have xBE:¬(0<=find (bounds p.states) n/\0<=aC n p.stmts 0):=λ⟨h1,h2⟩=>no hABCDE (by simp[dW h1]) (uj h2)
 have xCE:¬(0<=find (lines p) n/\0<=aC n p.stmts 0):=λ⟨h1,h2⟩=>no hABCDE (by simp[dW h1]) (uj h2)
 have xDE:¬(0<=find (tables p) n/\0<=aC n p.stmts 0):=λ⟨h1,h2⟩=>no hABCDE (by simp[dW h1]) (uj h2)
 clear no hA hB hAB hC hABC hD hABCD hE hABCDE
 rcases ea with ea |ea
 ·rw[if_neg (show ¬0<=find (bounds p.params) n by omega)]at hl
  rcases eb with eb |eb
  ·rw[if_neg (show ¬0<=find (bounds p.states) n by omega)]at hl
   rcases ec with ec |ec
   ·rw[if_neg (show ¬0<=find (lines p) n by omega)]at hl
    rcases ed with ed |ed
    ·rw[if_neg (show ¬0<=find (tables p) n by omega)]at hl
     rcases eg with eg |eg
     ·rw[if_neg (show ¬0<=aC n p.stmts 0 by omega)]at hl
      exact .inr (.inr (.inr (.inr (.inr ⟨⟨ea,eb,ec,ed,eg⟩,hl⟩))))
     ·rw[if_pos eg]at hl
      exact .inr (.inr (.inr (.inr (.inl ⟨_,eg,⟨ea,eb,ec,ed,rfl⟩,hl⟩))))
    ·rw[if_pos ed]at hl
     exact .inr (.inr (.inr (.inl ⟨_,ed,⟨ea,eb,ec,rfl,by omega⟩,hl⟩)))
   ·rw[if_pos ec]at hl
    exact .inr (.inr (.inl ⟨_,ec,⟨ea,eb,rfl,by omega,by omega⟩,hl⟩))
  ·rw[if_pos eb]at hl
   exact .inr (.inl ⟨_,eb,⟨ea,rfl,by omega,by omega,by omega⟩,hl⟩)
 ·rw[if_pos ea]at hl
  exact .inl ⟨_,ea,⟨rfl,by omega,by omega,by omega,by omega⟩,hl⟩
theorem V5{n:Str}{a b c d g:Int}(h:At p n a b c d g)(i:Nat):value p n i =
  if a<0 then(if b<0 then(⟨5,n,(if g<(i:Int)then g else -1),0,[]⟩,decide ((if g<(i:Int)then g else -1)>=0))else(⟨4,n,b,0,[]⟩,decide (b>=0)))else(⟨3,n,a,0,[]⟩,decide (a>=0)):=by
 have hg:given p n i=if g<(i:Int)then g else -1:=by
  simp only[given]
  rw[BK n p.stmts i 0 (by omega),h.hg,Int.zero_add]
 simp only[value,h.ha,h.hb,hg,decide_eq_true_eq]
theorem V6(hu:(dP p).Nodup)(i:Nat)(x:Ex)(hf:Ref15.formed x=true) :
  zW (decl p) (i:Int) x=(bz p i x).2/\((bz p i x).2=true->vis (decl p) x=(bz p i x).1):=by
 revert hf
 refine Ex.ind (P:=λx=>Ref15.formed x=true->zW (decl p) (i:Int) x=(bz p i x).2/\((bz p i x).2=true->vis (decl p) x=(bz p i x).1)) (λx ih hf=>?_) x
 rw[Ref15.formed_eq]at hf
 simp only[Bool.and_eq_true,Bool.not_eq_true',Bool.or_eq_false_iff,decide_eq_false_iff_not]at hf
 obtain⟨⟨⟨⟨hl,hnm⟩,hn⟩,hn0⟩,hfl⟩:=hf
 have hl:(x.l.length:Int)=parts x.kind:=by simpa[bne]using hl
 -- the parts
 have hL:∀l:List Ex,(∀y∈l,y∈x.l)->Ref15.formeds l=true->ry (decl p) (i:Int) l=(cO p i l).2/\((cO p i l).2=true->UO (decl p) l=(cO p i l).1):=by
  intro l
  induction l with
  |nil=>intro _ _;exact⟨rfl,λ_=>rfl⟩
  |cons y r ih2=>
   intro hm hfr
   simp only[Ref15.formeds,Bool.and_eq_true]at hfr
   obtain⟨h1,h2⟩:=ih y (hm y (by simp)) hfr.1
   obtain⟨h3,h4⟩:=ih2 (λz hz=>hm z (List.mem_cons_of_mem _ hz)) hfr.2
   simp only[ry,cO,UO,h1,h3,Bool.and_eq_true,true_and]
   rintro⟨q1,q2⟩
   rw[h2 q1,h4 q2]
 obtain⟨hL1,hL2⟩:=hL x.l (λ_ h=>h) hfl
 rw[DD,kJ,X4]
 simp only[vok,DC,VK,LP,eok]
 by_cases hnk:named x.kind=true
 ·by_cases hak:arr x.kind=true
  ·-- a line or a table
   have h8:¬((named x.kind&&x.kind != 8&&x.kind != 9)=true):=by
    simp only[arr,Bool.or_eq_true,beq_iff_eq]at hak
    rcases hak with h |h<;>rw[h]<;>decide
   rw[if_neg h8]
   simp only[hnk,Bool.not_true,Bool.false_or,if_true,hak,Bool.not_true,Bool.and_false,Bool.or_false,hL1]
   simp only[arr,Bool.or_eq_true,beq_iff_eq]at hak
   rcases hak with hk |hk
   ·rcases xJ hu x.name with⟨a,h0,hat,hlk⟩ |⟨a,h0,hat,hlk⟩ |⟨a,h0,hat,hlk⟩ |⟨a,h0,hat,hlk⟩ |⟨a,h0,hat,hlk⟩ |⟨hat,hlk⟩ <;>
     simp only[hlk,iT,hk,hat.hc,show((8:Int)==9)=false from rfl,show((8:Int)==8)=true from rfl,Bool.false_eq_true,if_false,if_true]
    ·simp
    ·simp
    ·have e1:decide ((i:Int)>=0)=true:=by simp
     have e2:decide (a>=0)=true:=by simpa using h0
     rw[e1,e2]
     simp only[beq_self_eq_true,Bool.true_and,true_and]
     intro h;rw[hL2 h]
    ·simp
    ·simp
    ·simp
   ·rcases xJ hu x.name with⟨a,h0,hat,hlk⟩ |⟨a,h0,hat,hlk⟩ |⟨a,h0,hat,hlk⟩ |⟨a,h0,hat,hlk⟩ |⟨a,h0,hat,hlk⟩ |⟨hat,hlk⟩ <;>
     simp only[hlk,iT,hk,hat.hd,show((9:Int)==9)=true from rfl,Bool.false_eq_true,if_false,if_true]
    ·simp
    ·simp
    ·simp
    ·have e1:decide ((i:Int)>=0)=true:=by simp
     have e2:decide (a>=0)=true:=by simpa using h0
     rw[e1,e2]
     simp only[beq_self_eq_true,Bool.true_and,true_and]
     intro h;rw[hL2 h]
    ·simp
    ·simp
  ·-- a value
   have hak:arr x.kind=false:=by simpa using hak
   have h8:(named x.kind&&x.kind != 8&&x.kind != 9)=true:=by
    simp only[arr,Bool.or_eq_false_iff]at hak
    simp only[hnk,bne,hak.1,hak.2,Bool.not_false,Bool.and_self]
   rw[if_pos h8]
   have hk:x.kind=2\/x.kind=3\/x.kind=4\/x.kind=5:=by
    simp only[arr,Bool.or_eq_false_iff,beq_eq_false_iff_ne,ne_eq]at hak
    simp only[named,Bool.or_eq_true,beq_iff_eq]at hnk
    omega
   have hp0:parts x.kind=0:=by rcases hk with h |h |h |h<;>rw[h]<;>rfl
   have hxl:x.l = []:=by
    rw[hp0]at hl
    exact List.length_eq_zero_iff.1 (by omega)
   have hxn:x.n=0:=by
    rcases hk with h |h |h |h<;>rw[h]at hn0<;>simpa[bne]using hn0
   simp only[hnk,Bool.not_true,Bool.false_or,if_true,hak,Bool.not_false,Bool.and_true,hxl,hxn,ry,UO]
   have e1:decide ((i:Int)>=0)=true:=by simp
   rcases xJ hu x.name with⟨a,h0,hat,hlk⟩ |⟨a,h0,hat,hlk⟩ |⟨a,h0,hat,hlk⟩ |⟨a,h0,hat,hlk⟩ |⟨a,h0,hat,hlk⟩ |⟨hat,hlk⟩ <;>
    rw[V5 hat]<;>simp only[hlk]
   ·have e2:decide (a>=0)=true:=by simpa using h0
    rw[if_neg (by omega),e1,e2];simp[arr]
   ·have e2:decide (a>=0)=true:=by simpa using h0
    rw[if_pos (by omega),if_neg (by omega),e1,e2];simp[arr]
   ·have e2:((8:Int)==x.kind)=false:=by rcases hk with h |h |h |h<;>rw[h]<;>rfl
    rw[if_pos (by omega),if_pos (by omega),e2,if_pos (by omega)];simp[arr]
   ·have e2:((9:Int)==x.kind)=false:=by rcases hk with h |h |h |h<;>rw[h]<;>rfl
    rw[if_pos (by omega),if_pos (by omega),e2,if_pos (by omega)];simp[arr]
   ·rw[if_pos (by omega),if_pos (by omega)]
    by_cases hg:a<(i:Int)
    ·rw[if_pos hg]
     have e2:decide ((i:Int)>=a+1)=true:=by simp;omega
     have e3:decide (a>=0)=true:=by simpa using h0
     rw[e2,e3];simp[arr]
    ·rw[if_neg hg]
     have e2:decide ((i:Int)>=a+1)=false:=by simp;omega
     rw[e2];simp
   ·rw[if_pos (by omega),if_pos (by omega),if_pos (by omega)];simp
 ·have hnk:named x.kind=false:=by simpa using hnk
  have hk8:(x.kind==8)=false:=by
   cases h:(x.kind==8)with
   |false=>rfl
   |true=>rw[show x.kind=8 by simpa using h]at hnk;cases hnk
  have hk9:(x.kind==9)=false:=by
   cases h:(x.kind==9)with
   |false=>rfl
   |true=>rw[show x.kind=9 by simpa using h]at hnk;cases hnk
  simp only[hnk,Bool.not_false,Bool.true_or,Bool.true_and,Bool.false_and,Bool.false_eq_true,if_false,iT,hk8,hk9,hL1]
  refine⟨by simp,?_⟩
  intro h
  have h:(cO p i x.l).2=true:=by simpa using h
  rw[hL2 h]
theorem Jk(hu:(dP p).Nodup)(s:Sm)(hs:Eu s.kind=true):target (decl p) s=if bZ p s<0 then none else some ⟨kindOf s.kind,bZ p s,0⟩:=by
 simp only[Eu,Bool.or_eq_true,beq_iff_eq]at hs
 rcases hs with hk |hk <;>
 rcases xJ hu s.name with⟨a,h0,hat,hlk⟩ |⟨a,h0,hat,hlk⟩ |⟨a,h0,hat,hlk⟩ |⟨a,h0,hat,hlk⟩ |⟨a,h0,hat,hlk⟩ |⟨hat,hlk⟩ <;>
  simp only[target,hlk,bZ,kindOf,hk,hat.hb,hat.hc]
 all_goals simp
 all_goals omega
theorem Jl{s t:Sm}(hk:t.kind=s.kind)(h:bZ p t=bZ p s)(h0:0<=bZ p s)(hs:Eu s.kind=true):t.name=s.name:=by
 simp only[Eu,Bool.or_eq_true,beq_iff_eq]at hs
 simp only[bZ,hk]at h h0
 rcases hs with e |e
 ·rw[e]at h h0;simp at h h0;exact DR 0 (by omega) h (by rw[<-find,h];exact h0)
 ·rw[e]at h h0;simp at h h0;exact DR 0 (by omega) h (by rw[<-find,h];exact h0)
def Gh(p:Pr):List Sm->List (Int×Int)
 | []=>[]
 |s::r=>if Eu s.kind then(kindOf s.kind,bZ p s)::Gh p r else Gh p r
theorem DV(p:Pr):∀a b:List Sm,Gh p (a++b)=Gh p a++Gh p b
 | [],_=>rfl
 |s::a,b=>by
  simp only[List.cons_append,Gh,DV p a b]
  split<;>rfl
theorem BL{s:Sm}(hs:Eu s.kind=true)(h0:0<=bZ p s):∀pre:List Sm,lT (Gh p pre) (kindOf s.kind) (bZ p s)=pre.any λt=>t.kind==s.kind&&t.name==s.name
 | []=>rfl
 |t::r=>by
  have ih:=BL hs h0 r
  have hcons:∀(x:Int×Int) l a b,lT (x::l) a b=((x.1==a&&x.2==b) || lT l a b):=λ_ _ _ _=>rfl
  simp only[Gh,List.any_cons]
  by_cases ht:Eu t.kind=true
  ·rw[if_pos ht,hcons,ih]
   congr 1
   rw[Bool.eq_iff_iff]
   simp only[Bool.and_eq_true,beq_iff_eq]
   constructor
   ·rintro⟨h1,h2⟩
    have hk:t.kind=s.kind:=by
     simp only[Eu,Bool.or_eq_true,beq_iff_eq]at hs ht
     simp only[kindOf]at h1
     rcases hs with e |e<;>rcases ht with e2 |e2<;>rw[e,e2]at h1<;>simp at h1<;>omega
    exact⟨hk,Jl hk h2 h0 hs⟩
   ·rintro⟨h1,h2⟩
    simp only[bZ,h1,h2,and_self]
  ·rw[if_neg ht,ih]
   have:(t.kind==s.kind)=false:=by
    cases h:(t.kind==s.kind)with
    |false=>rfl
    |true=>rw[show t.kind=s.kind by simpa using h]at ht;exact absurd hs ht
   rw[this];rfl
theorem V7{pre r:List Sm}{s:Sm}(e:p.stmts=pre++s::r):again p pre.length s=((pre.any λt=>t.kind==4) || (s.kind != 1&&pre.any λt=>t.kind==s.kind&&t.name==s.name)):=by
 simp only[again,e,List.take_left']
 clear e
 induction pre with
 |nil=>simp
 |cons t pre ih=>
  simp only[List.any_cons,ih]
  cases (t.kind==4)<;>cases (s.kind != 1)<;>cases (t.kind==s.kind)<;>cases (t.name==s.name)<;>cases (pre.any λt=>t.kind==4)<;>cases (pre.any λt=>t.kind==s.kind&&t.name==s.name)<;>rfl
theorem DW(hu:(dP p).Nodup)(hF:Ref15.Formed p=true):∀(r pre:List Sm),p.stmts=pre++r->∀out,out=(pre.any λt=>t.kind==4) ->
  FU (decl p) r pre.length (Gh p pre) out=di p r pre.length out
 | [],pre,_,out,_=>by cases out<;>rfl
 |s::r,pre,e,out,ho=>by
  have hsm:stmtOk s=true:=List.all_eq_true.1 hF s (by rw[e];simp)
  simp only[stmtOk,Bool.not_eq_true',Bool.or_eq_false_iff,decide_eq_false_iff_not]at hsm
  obtain⟨⟨⟨hk1,hk2⟩,_⟩,hfx⟩:=hsm
  have hfx:Ref15.formed s.x=true:=by simpa using hfx
  obtain⟨h1,h2⟩:=V6 hu pre.length s.x hfx
  simp only[FU,di]
  rw[<-h1]
  cases hv:zW (decl p) (pre.length:Int) s.x with
  |false=>simp[kX,hv]
  |true=>
   have h2:=h2 (by rw[<-h1];exact hv)
   rw[V7 e,<-ho]
   by_cases hs:Eu s.kind=true
   ·have ht:=Jk hu s hs
    by_cases h0:bZ p s<0
    ·rw[if_pos h0]at ht
     simp[kX,hv,hs,ht,h0]
    ·rw[if_neg h0]at ht
     have hd:=BL hs (by omega:0<=bZ p s) pre
     have hn1:(s.kind != 1)=true:=by
      simp only[Eu,Bool.or_eq_true,beq_iff_eq]at hs
      rcases hs with h |h<;>rw[h]<;>rfl
     simp only[kX,hv,hs,ht,Bool.not_true,Bool.false_eq_true,if_false,if_true]
     rw[show((Gh p pre).any λd=>d.1==kindOf s.kind&&d.2==bZ p s)=lT (Gh p pre) (kindOf s.kind) (bZ p s)from rfl,hd,hn1]
     simp only[h0,decide_false,Bool.true_and,Bool.false_eq_true,if_false]
     cases out with
     |true=>simp
     |false=>
      cases hb:(pre.any λt=>t.kind==s.kind&&t.name==s.name)with
      |true=>simp
      |false=>
       simp only[Bool.not_false,Bool.and_self,Bool.or_self,Bool.false_eq_true,if_false,if_true,bne_self_eq_false]
       have ih:=DW hu hF r (pre++[s]) (by rw[e];simp) (s.kind==4) (by simp[<-ho])
       have hdn:vJ (decl p) s (Gh p pre)=Gh p (pre++[s]):=by
        rw[DV];simp only[vJ,hs,ht,if_true,Gh]
       rw[hdn]
       simp only[List.length_append,List.length_cons,List.length_nil,Nat.zero_add]at ih
       rw[ih]
       have ho2:outS (decl p) s=⟨s.kind,s.name,bZ p s,(bz p pre.length s.x).1⟩:=by
        simp only[outS,Zy,hs,ht,if_true,h2]
       rw[ho2]
       all_goals(cases di p r (pre.length+1) (s.kind==4)<;>rfl)
   ·have hs:Eu s.kind=false:=by simpa using hs
    have hsm0:bZ p s=0:=by
     simp only[Eu,Bool.or_eq_false_iff]at hs
     simp only[bZ,hs.1,hs.2,Bool.false_eq_true,if_false]
    have hk14:s.kind=1\/s.kind=4:=by
     simp only[Eu,Bool.or_eq_false_iff,beq_eq_false_iff_ne,ne_eq]at hs
     omega
    have hag:(out || (s.kind != 1&&pre.any λt=>t.kind==s.kind&&t.name==s.name))=out:=by
     rcases hk14 with h |h
     ·rw[h];simp
     ·rw[h]
      cases hb:(pre.any λt=>t.kind==4&&t.name==s.name)with
      |false=>simp
      |true=>
       have:out=true:=by
        rw[ho]
        simp only[List.any_eq_true,Bool.and_eq_true]at hb ⊢
        obtain⟨t,ht1,ht2,_⟩:=hb
        exact⟨t,ht1,ht2⟩
       rw[this];rfl
    rw[hag]
    simp only[kX,hv,hs,hsm0,Bool.not_true,Bool.false_eq_true,if_false]
    cases out with
    |true=>simp
    |false=>
     simp only[Bool.not_false,if_true,bne_self_eq_false,Bool.false_eq_true,if_false]
     have ih:=DW hu hF r (pre++[s]) (by rw[e];simp) (s.kind==4) (by simp[<-ho])
     have hdn:vJ (decl p) s (Gh p pre)=Gh p (pre++[s]):=by
      rw[DV];simp only[vJ,hs,Bool.false_eq_true,if_false,Gh,List.append_nil]
     rw[hdn]
     simp only[List.length_append,List.length_cons,List.length_nil,Nat.zero_add]at ih
     rw[ih]
     have ho2:outS (decl p) s=⟨s.kind,s.name,0,(bz p pre.length s.x).1⟩:=by
      simp only[outS,Zy,hs,Bool.false_eq_true,if_false,h2]
     rw[ho2]
     simp only[Bool.false_eq_true,if_false,Int.lt_irrefl,decide_false]
     all_goals(cases di p r (pre.length+1) (s.kind==4)<;>rfl)
theorem resolve_same(p:Pr):resolveC p=Ref15.Resolve p:=by
 unfold resolveC Ref15.Resolve
 rw[Jf,F8,RY,Jg,Jj]
 have e:(p.name::dP p).all nmOk=(oN p.name&&(dP p).all oN):=by
  have:nmOk=oN:=by funext s;exact ZT s
  rw[List.all_cons,this]
 rw[e]
 cases hF:Formed p with
 |false=>rfl
 |true=>
  cases hL:Ref15.limited p with
  |false=>rfl
  |true=>
   cases h1:oN p.name with
   |false=>rfl
   |true=>
    cases h2:(dP p).all oN with
    |false=>rfl
    |true=>
     cases h3:Ai (dP p)with
     |false=>rfl
     |true=>
      cases h4:Ref15.ranged p with
      |false=>rfl
      |true=>
       have:=DW (oP.1 h3) hF p.stmts [] rfl false rfl
       simp only[Bool.not_true,Bool.and_self,Bool.false_eq_true,if_false]
       exact congrArg _ this
end Go.Fw.Nam
