/- More operations: what can be compared, maps, interfaces, conversions. -/
import Derived.Laws.StructEq
import Derived.ChangeKeysEq
import Derived.Test.YtmfehangcmbidaaGreatDoorZK2
set_option linter.unusedSectionVars false
set_option linter.unusedSimpArgs false
set_option linter.unusedVariables false
namespace Go.Fw
variable [ae] {w : World} {F : aK} {l : List KS}
theorem gI:∀{l:List KS} {ds:List D},oC l ds=true->ds.length=l.length:=by
 intro l
 induction l with
 |nil=>intro ds h;cases ds<;>simp[oC]at h ⊢
 |cons k l ih=>intro ds h;cases ds with
  |nil=>simp[oC]at h
  |cons d ds=>simp only[oC,Bool.and_eq_true]at h;simp[ih h.2]
theorem nz:∀{l1 l2:List KS} {ds:List D},oC (l1++l2) ds=true->oC l1 (ds.take l1.length)=true/\oC l2 (ds.drop l1.length)=true:=by
 intro l1
 induction l1 with
 |nil=>intro l2 ds h;exact⟨by cases ds<;>rfl,by simpa using h⟩
 |cons k l1 ih=>
  intro l2 ds h
  cases ds with
  |nil=>simp[oC]at h
  |cons d ds=>
   simp only[List.cons_append,oC,Bool.and_eq_true]at h
   obtain⟨h1,h2⟩:=ih h.2
   exact⟨by simp[oC,h.1,h1],by simpa using h2⟩
theorem xM:∀(n:Nat) (ds es:List D),ds.length=es.length->sameL ds es=(sameL (ds.take n) (es.take n)&&sameL (ds.drop n) (es.drop n)):=by
 intro n
 induction n with
 |zero=>intro ds es _;simp[sameL]
 |succ n ih=>
  intro ds es h
  cases ds with
  |nil=>cases es<;>simp[sameL]at h ⊢
  |cons d ds=>
   cases es with
   |nil=>simp at h
   |cons e es=>
    simp only[List.take_succ_cons,List.drop_succ_cons,sameL]
    rw[ih ds es (by simpa using h),Bool.and_assoc]
theorem uD{k:KS}{d:D}{v:Value}(h:k.ok d=true)(hr:DRel F w d v):(∃j n,k = .int j/\d = .val (.int j n)/\v = .int j n)\/(∃s,k = .str/\d = .str s/\v = .string ⟨s.toArray⟩)\/(∃b,k = .bool/\d = .val (.bool b)/\v = .bool b):=by
 cases k with
 |int j=>
  cases d with
  |val u=>cases u<;>simp[KS.ok]at h;subst h;cases hr;exact .inl ⟨_,_,rfl,rfl,rfl⟩
  |_=>simp[KS.ok]at h
 |str=>
  cases d with
  |str s=>cases hr;exact .inr (.inl ⟨s,rfl,rfl,rfl⟩)
  |_=>simp[KS.ok]at h
 |bool=>
  cases d with
  |val u=>cases u<;>simp[KS.ok]at h;cases hr;exact .inr (.inr ⟨_,rfl,rfl,rfl⟩)
  |_=>simp[KS.ok]at h
theorem FU{k:KS}{a b:D}{v u:Value}(ha:k.ok a=true)(hb:k.ok b=true)(hv:DRel F w a v)(hu:DRel F w b u):sameS a b=true↔v=u:=by
 rcases uD ha hv with⟨j,n,rfl,rfl,rfl⟩ |⟨s,rfl,rfl,rfl⟩ |⟨c,rfl,rfl,rfl⟩<;>rcases uD hb hu with⟨j',n',e,rfl,rfl⟩ |⟨s',e,rfl,rfl⟩ |⟨c',e,rfl,rfl⟩<;>cases e<;>simp[sameS]
theorem QL:∀{l:List KS} {ds es:List D} {f g:Nat->Value},oC l ds=true->oC l es=true->(∀(i:Nat) d,ds[i]? = some d->DRel F w d (f i))->(∀(i:Nat) d,es[i]? = some d->DRel F w d (g i))->(sameL ds es=true↔∀i,i<l.length->f i=g i):=by
 intro l
 induction l with
 |nil=>intro ds es f g h1 h2 _ _;cases ds<;>cases es<;>simp[oC]at h1 h2;simp[sameL]
 |cons k l ih=>
  intro ds es f g h1 h2 h3 h4
  cases ds with
  |nil=>simp[oC]at h1
  |cons d ds=>
   cases es with
   |nil=>simp[oC]at h2
   |cons e es=>
    simp only[oC,Bool.and_eq_true]at h1 h2
    simp only[sameL,Bool.and_eq_true]
    rw[FU h1.1 h2.1 (h3 0 d rfl) (h4 0 e rfl),ih (f:=λi=>f (i+1)) (g:=λi=>g (i+1)) h1.2 h2.2 (λi x hx=>h3 (i+1) x (by simpa using hx)) (λi x hx=>h4 (i+1) x (by simpa using hx))]
    constructor
    ·rintro⟨q1,q2⟩ i hi
     cases i with
     |zero=>exact q1
     |succ i=>exact q2 i (by simpa using hi)
    ·intro q
     exact⟨q 0 (by simp),λi hi=>q (i+1) (by simpa using hi)⟩
theorem sK{g:Bool}{a b:D}{v u:Value}(ha:fP g l a=true)(hb:fP g l b=true)(hv:DRel F w a v)(hu:DRel F w b u):eH a b=true↔v=u:=by
 cases g with
 |true=>
  cases a<;>simp only[fP,Bool.false_eq_true]at ha
  cases b<;>simp only[fP,Bool.false_eq_true]at hb
  rename_i ds es
  cases hv with
  |agg _ vs hl hh=>
   cases hu with
   |agg _ us hl' hh'=>
    simp only[eH]
    rw[QL ha hb hh hh']
    have e1:=gI ha
    have e2:=gI hb
    constructor
    ·intro q
     congr 1
     apply Array.ext
     ·omega
     ·intro i h1 h2
      have:=q i (by omega)
      simpa[h1,h2]using this
    ·intro q i _
     cases q;rfl
 |false=>
  simp only[fP]at ha hb
  split at ha
  ·rename_i k
   have:eH a b=sameS a b:=by
    cases a<;>first |rfl |(cases k<;>simp[KS.ok]at ha;done) |skip
   rw[this]
   exact FU ha hb hv hu
  ·simp at ha
section
variable {P : Program} {T : Tbl} (hT : gY P T)
include hT
omit hT in
theorem BX{n:Nat}{t:TypeId}{l:List KS}(h:flat T n t=some l):∃g,T.sh t=some g:=by
 cases n with
 |zero=>simp[flat]at h
 |succ n=>
  simp only[flat]at h
  simp only[Tbl.sh]
  split at h<;>rename_i heq<;>first |(rw[heq];exact⟨_,rfl⟩) |(simp at h;done)
theorem QM:∀(n:Nat) (t:TypeId) (l:List KS),flat T n t=some l->l.length=(T.at t).size->∀(d:Nat) (F:aK) (w:World) (ds es:List D) (xs ys:Array Value) (off:Nat),oC l ds=true->oC l es=true ->
  (∀(i:Nat) x,ds[i]? = some x->DRel F w x (xs.getD (off+i) undef))->(∀(i:Nat) x,es[i]? = some x->DRel F w x (ys.getD (off+i) undef))->off+l.length<=xs.size->off+l.length<=ys.size ->
  ∃v u,(part t xs off).run P w = .ok v w/\(part t ys off).run P w = .ok u w/\(Op.equalIn (n+d) t v u).run P w = .ok (sameL ds es) w/\∀e,(Instr.checkKey e (n+d) t v).run P w = .ok () w:=by
 intro n
 induction n with
 |zero=>intro t l h;simp[flat]at h
 |succ n ih=>
  intro t l h hlen d F w ds es xs ys off hd he hdr her hx hy
  obtain⟨g,hg⟩:=BX h
  have hscal:∀k,l = [k]->g=false->(∀(a b:D) (v u:Value),k.ok a=true->k.ok b=true->DRel F w a v->DRel F w b u->(Op.equalIn (n+1+d) t v u).run P w = .ok (sameS a b) w/\∀e,(Instr.checkKey e (n+1+d) t v).run P w = .ok () w) ->
    ∃v u,(part t xs off).run P w = .ok v w/\(part t ys off).run P w = .ok u w/\(Op.equalIn (n+1+d) t v u).run P w = .ok (sameL ds es) w/\∀e,(Instr.checkKey e (n+1+d) t v).run P w = .ok () w:=by
   intro k hl hgf hk
   subst hl hgf
   have e1:=gI hd
   have e2:=gI he
   obtain⟨a,rfl⟩:=List.length_eq_one_iff.1 e1
   obtain⟨b,rfl⟩:=List.length_eq_one_iff.1 e2
   simp only[oC,Bool.and_true]at hd he
   have ha:=hdr 0 a rfl
   have hb:=her 0 b rfl
   obtain⟨q1,q2⟩:=hk a b _ _ hd he ha hb
   refine⟨_,_,?_,?_,by simpa[sameL]using q1,q2⟩
   ·have hlt:off<xs.size:=by simp at hx;omega
    rw[gB hT hg];simp[hlt]
   ·have hlt:off<ys.size:=by simp at hy;omega
    rw[gB hT hg];simp[hlt]
  have hn1:n+1+d=n+d+1:=by omega
  simp only[flat]at h
  split at h
  ·rename_i k hty
   simp only[Option.some.injEq]at h
   refine hscal (.int k) h.symm ?_ λa b v u ka kb hv hu=>?_
   ·simp only[Tbl.sh,hty,Ty.sh,Option.some.injEq]at hg;exact hg.symm
   ·rcases uD ka hv with⟨j,m,e,rfl,rfl⟩ |⟨s,e,_⟩ |⟨c,e,_⟩<;>cases e
    rcases uD kb hu with⟨j,m',e,rfl,rfl⟩ |⟨s,e,_⟩ |⟨c,e,_⟩<;>cases e
    rw[hn1]
    exact⟨run_equalIn_int w _ t k k m m' (sH hT hty),λe=>by simp[Instr.checkKey,run_underlying (sH hT hty)]⟩
  ·rename_i hty
   simp only[Option.some.injEq]at h
   refine hscal .str h.symm ?_ λa b v u ka kb hv hu=>?_
   ·simp only[Tbl.sh,hty,Ty.sh,Option.some.injEq]at hg;exact hg.symm
   ·rcases uD ka hv with⟨j,m,e,_⟩ |⟨s,_,rfl,rfl⟩ |⟨c,e,_⟩<;>try cases e
    rcases uD kb hu with⟨j,m,e,_⟩ |⟨s',_,rfl,rfl⟩ |⟨c,e,_⟩<;>try cases e
    rw[hn1]
    refine⟨?_,λe=>by simp[Instr.checkKey,run_underlying (lV hT hty)]⟩
    rw[run_equalIn_string w _ t _ _ (lV hT hty),ByteArray.toList_mk,ByteArray.toList_mk];rfl
  ·rename_i hty
   simp only[Option.some.injEq]at h
   refine hscal .bool h.symm ?_ λa b v u ka kb hv hu=>?_
   ·simp only[Tbl.sh,hty,Ty.sh,Option.some.injEq]at hg;exact hg.symm
   ·rcases uD ka hv with⟨j,m,e,_⟩ |⟨s,e,_⟩ |⟨c,_,rfl,rfl⟩<;>try cases e
    rcases uD kb hu with⟨j,m,e,_⟩ |⟨s,e,_⟩ |⟨c',_,rfl,rfl⟩<;>try cases e
    rw[hn1]
    exact⟨run_equalIn_bool' w _ t c c' (uq hT hty),λe=>by simp[Instr.checkKey,run_underlying (uq hT hty)]⟩
  ·rename_i fs hty
   split at h
   ·rename_i heqs
    obtain⟨_,hstood,hfa⟩:=(hT t).eqs heqs
    have hdesc:=(hT t).desc
    rw[hty]at hdesc
    obtain⟨fields',hu',hfs⟩:=hdesc
    obtain⟨fields,hu,hnames⟩:∃fields:Array Field,P.underlying t=some (.struct fields)/\∀f∈fields.toList,f.name ≠ "_":=by
     rcases hfa with h |⟨_,_,h⟩
     ·exact h
     ·rw[h]at hu';cases hu'
    rw[hu]at hu'
    simp only[Option.some.injEq,TypeDesc.struct.injEq]at hu'
    subst hu'
    have hgt:g=true:=by simp only[Tbl.sh,hty,Ty.sh,Option.some.injEq]at hg;exact hg.symm
    subst hgt
    have hfo:P.fieldsOf t=fields:=by simp[Program.fieldsOf,hu]
    have inner:∀(fl:List Field) (o:Nat) (l':List KS) (ds es:List D) (xs ys:Array Value),FC T (flat T n) o (fl.map λf=>(f.offset,f.type))=some l'->(∀f∈fl,f.name ≠ "_")->oC l' ds=true->oC l' es=true ->
      (∀(i:Nat) x,ds[i]? = some x->DRel F w x (xs.getD (o+i) undef))->(∀(i:Nat) x,es[i]? = some x->DRel F w x (ys.getD (o+i) undef))->o+l'.length<=xs.size->o+l'.length<=ys.size ->
      (Op.eqFields (n+d) xs ys fl).run P w = .ok (sameL ds es) w/\∀e,((forIn fl PUnit.unit λf (_:PUnit)=>if f.name ≠ "_" then do Instr.checkKey e (n+d) f.type (<-part f.type xs f.offset);pure (ForInStep.yield PUnit.unit)else pure (ForInStep.yield PUnit.unit)):Sem PUnit).run P w = .ok PUnit.unit w:=by
     intro fl
     induction fl with
     |nil=>
      intro o l' ds es xs ys hfl _ h1 h2 _ _ _ _
      simp only[List.map_nil,FC,Option.some.injEq]at hfl
      subst hfl
      cases ds<;>cases es<;>simp[oC]at h1 h2
      exact⟨rfl,λe=>rfl⟩
     |cons f fl ihf=>
      intro o l' ds es xs ys hfl hnm h1 h2 h3 h4 h5 h6
      simp only[List.map_cons,FC]at hfl
      split at hfl
      ·rename_i l1 hl1
       split at hfl
       ·rename_i hb
        simp only[Bool.and_eq_true]at hb
        have hb1:=Nat.eq_of_beq_eq_true hb.1
        have hb2:=Nat.eq_of_beq_eq_true hb.2
        split at hfl
        ·rename_i l2 hl2
         simp only[Option.some.injEq]at hfl;subst hfl
         obtain⟨p1,p2⟩:=nz h1
         obtain⟨p3,p4⟩:=nz h2
         have hsub:∀{qs:List D} {zs:Array Value},(∀(i:Nat) x,qs[i]? = some x->DRel F w x (zs.getD (o+i) undef))->(∀(i:Nat) x,(qs.take l1.length)[i]? = some x->DRel F w x (zs.getD (o+i) undef))/\(∀(i:Nat) x,(qs.drop l1.length)[i]? = some x->DRel F w x (zs.getD (o+(T.at f.type).size+i) undef)):=by
          intro qs zs hq
          refine⟨λi x hx=>?_,λi x hx=>?_⟩
          ·rw[List.getElem?_take]at hx
           split at hx
           ·exact hq i x hx
           ·simp at hx
          ·rw[List.getElem?_drop]at hx
           have:=hq _ x hx
           rwa[hb2,show o+((T.at f.type).size+i)=o+(T.at f.type).size+i by omega]at this
         simp only[List.length_append]at h5 h6
         obtain⟨v,u,r1,r2,r3,r4⟩:=ih f.type l1 hl1 hb2 d F w _ _ xs ys o p1 p3 (hsub h3).1 (hsub h4).1 (by omega) (by omega)
         obtain⟨s1,s2⟩:=ihf (o+(T.at f.type).size) l2 _ _ xs ys hl2 (λf' hf'=>hnm f' (by simp[hf'])) p2 p4 (hsub h3).2 (hsub h4).2 (by omega) (by omega)
         have hne:f.name ≠ "_":=hnm f (by simp)
         refine⟨?_,λe=>?_⟩
         ·simp only[Op.eqFields,if_pos hne,Sem.run_bind,hb1,r1,r2,r3,Result.andThen_ok]
          rw[xM l1.length ds es (by rw[gI h1,gI h2])]
          cases hsm:sameL (ds.take l1.length) (es.take l1.length)with
          |false=>simp
          |true=>simp[s1]
         ·simp only[List.forIn_cons,if_pos hne,Sem.run_bind,hb1,r1,r4 e,Result.andThen_ok,Sem.run_pure]
          exact s2 e
        ·simp at hfl
       ·simp at hfl
      ·simp at hfl
    have hshift:∀{qs:List D} {zs:Array Value},oC l qs=true->off+l.length<=zs.size->(∀(i:Nat) x,qs[i]? = some x->DRel F w x (zs.getD (off+i) undef))->∀(i:Nat) x,qs[i]? = some x->DRel F w x ((zs.extract off (off+(T.at t).size)).getD (0+i) undef):=by
     intro qs zs hq hz h i x hx
     have hi:i<l.length:=by rw[<-gI hq];exact(List.getElem?_eq_some_iff.1 hx).1
     have:=h i x hx
     have e:(zs.extract off (off+(T.at t).size)).getD (0+i) undef=zs.getD (off+i) undef:=by
      simp only[Array.getD_eq_getD_getElem?,Nat.zero_add,Array.getElem?_extract]
      rw[if_pos (by omega)]
     rwa[e]
    obtain⟨q1,q2⟩:=inner fields.toList 0 l ds es (xs.extract off (off+(T.at t).size)) (ys.extract off (off+(T.at t).size)) (by rw[hfs];exact h) hnames hd he (hshift hd hx hdr) (hshift he hy her) (by simp;omega) (by simp;omega)
    refine⟨.agg (xs.extract off (off+(T.at t).size)),.agg (ys.extract off (off+(T.at t).size)),by rw[gB hT hg];rfl,by rw[gB hT hg];rfl,?_,λe=>?_⟩
    ·rw[hn1,run_equalIn_struct w (n+d) t _ _ (by rw[hfo];exact hu) hstood,hfo];exact q1
    ·rw[hn1]
     simp only[Instr.checkKey,Sem.run_bind,run_underlying hu,Result.andThen_ok]
     rw[<-Array.forIn_toList]
     have:=q2 e
     simp only[Array.forIn_toList]at this
     simp only[Array.forIn_toList]
     refine Eq.trans (congrArg (λr=>Result.andThen r λ(_:PUnit) w'=>Result.ok () w') ?_) (show Result.andThen (Result.ok PUnit.unit w) _=_ from rfl)
     simpa using this
   ·simp at h
  ·rename_i m e hty
   split at h
   ·rename_i heqs
    split at h
    ·rename_i l1 hl1
     split at h
     ·rename_i hb
      have hb:=Nat.eq_of_beq_eq_true hb
      simp only[Option.some.injEq]at h
      subst h
      have hu:=mD hT hty
      have hgt:g=true:=by simp only[Tbl.sh,hty,Ty.sh,Option.some.injEq]at hg;exact hg.symm
      subst hgt
      obtain⟨ge,hge⟩:=BX hl1
      obtain⟨ie,hie,hsz,_⟩:=yx hT (show T.sh e≠none by rw[hge];simp)
      have hc:P.cellsOf e=(T.at e).size:=by simp[Program.cellsOf,hie,hsz]
      have hrl:∀m,(Qk l1 m).length=m * (T.at e).size:=by
       intro m
       induction m with
       |zero=>simp[Qk]
       |succ m im=>simp only[Qk,List.length_append,im,hb];rw[Nat.succ_mul];omega
      have inner:∀(m o:Nat) (ds es:List D) (xs ys:Array Value),oC (Qk l1 m) ds=true->oC (Qk l1 m) es=true ->
        (∀(i:Nat) x,ds[i]? = some x->DRel F w x (xs.getD (o * (T.at e).size+i) undef))->(∀(i:Nat) x,es[i]? = some x->DRel F w x (ys.getD (o * (T.at e).size+i) undef))->o * (T.at e).size+m * (T.at e).size<=xs.size->o * (T.at e).size+m * (T.at e).size<=ys.size ->
        (Op.eqItems (n+d) e (T.at e).size xs ys (List.range' o m)).run P w = .ok (sameL ds es) w/\∀em,((forIn (List.range' o m) PUnit.unit λi (_:PUnit)=>do Instr.checkKey em (n+d) e (<-part e xs (i * (<-sizeOf e)));pure (ForInStep.yield PUnit.unit)):Sem PUnit).run P w = .ok PUnit.unit w:=by
       intro m
       induction m with
       |zero=>
        intro o ds es xs ys h1 h2 _ _ _ _
        cases ds<;>cases es<;>simp[Qk,oC]at h1 h2
        exact⟨rfl,λem=>rfl⟩
       |succ m im=>
        intro o ds es xs ys h1 h2 h3 h4 h5 h6
        simp only[Qk]at h1 h2
        obtain⟨p1,p2⟩:=nz h1
        obtain⟨p3,p4⟩:=nz h2
        have hsub:∀{qs:List D} {zs:Array Value},(∀(i:Nat) x,qs[i]? = some x->DRel F w x (zs.getD (o * (T.at e).size+i) undef))->(∀(i:Nat) x,(qs.take l1.length)[i]? = some x->DRel F w x (zs.getD (o * (T.at e).size+i) undef))/\(∀(i:Nat) x,(qs.drop l1.length)[i]? = some x->DRel F w x (zs.getD ((o+1) * (T.at e).size+i) undef)):=by
         intro qs zs hq
         refine⟨λi x hx=>?_,λi x hx=>?_⟩
         ·rw[List.getElem?_take]at hx
          split at hx
          ·exact hq i x hx
          ·simp at hx
         ·rw[List.getElem?_drop]at hx
          have:=hq _ x hx
          rwa[hb,show o * (T.at e).size+((T.at e).size+i)=(o+1) * (T.at e).size+i by rw[Nat.succ_mul];omega]at this
        rw[Nat.succ_mul]at h5 h6
        have h7:(o+1) * (T.at e).size=o * (T.at e).size+(T.at e).size:=Nat.succ_mul _ _
        obtain⟨v,u,r1,r2,r3,r4⟩:=ih e l1 hl1 hb d F w _ _ xs ys (o * (T.at e).size) p1 p3 (hsub h3).1 (hsub h4).1 (by omega) (by omega)
        obtain⟨s1,s2⟩:=im (o+1) _ _ xs ys p2 p4 (hsub h3).2 (hsub h4).2 (by omega) (by omega)
        refine⟨?_,λem=>?_⟩
        ·simp only[List.range'_succ,Op.eqItems,Sem.run_bind,r1,r2,r3,Result.andThen_ok]
         rw[xM l1.length ds es (by rw[gI h1,gI h2])]
         cases hsm:sameL (ds.take l1.length) (es.take l1.length)with
         |false=>simp
         |true=>simp[s1]
        ·simp only[List.range'_succ,List.forIn_cons,Sem.run_bind,run_sizeOf' hT (show T.sh e≠none by rw[hge];simp),r1,r4 em,Result.andThen_ok,Sem.run_pure]
         exact s2 em
      have hml:m * (T.at e).size=(T.at t).size:=by rw[<-hlen,hrl]
      have hshift:∀{qs:List D} {zs:Array Value},oC (Qk l1 m) qs=true->off+(Qk l1 m).length<=zs.size->(∀(i:Nat) x,qs[i]? = some x->DRel F w x (zs.getD (off+i) undef))->∀(i:Nat) x,qs[i]? = some x->DRel F w x ((zs.extract off (off+(T.at t).size)).getD (0 * (T.at e).size+i) undef):=by
       intro qs zs hq hz h i x hx
       have hi:i<(Qk l1 m).length:=by rw[<-gI hq];exact(List.getElem?_eq_some_iff.1 hx).1
       have:=h i x hx
       have e:(zs.extract off (off+(T.at t).size)).getD (0 * (T.at e).size+i) undef=zs.getD (off+i) undef:=by
        simp only[Array.getD_eq_getD_getElem?,Nat.zero_mul,Nat.zero_add,Array.getElem?_extract]
        rw[if_pos (by omega)]
       rwa[e]
      rw[hlen]at hx hy
      obtain⟨q1,q2⟩:=inner m 0 ds es (xs.extract off (off+(T.at t).size)) (ys.extract off (off+(T.at t).size)) hd he (hshift hd (by omega) hdr) (hshift he (by omega) her) (by simp;omega) (by simp;omega)
      refine⟨.agg (xs.extract off (off+(T.at t).size)),.agg (ys.extract off (off+(T.at t).size)),by rw[gB hT hg];rfl,by rw[gB hT hg];rfl,?_,λem=>?_⟩
      ·rw[hn1,run_equalIn_array w (n+d) _ _ hu hie,hc,List.range_eq_range'];exact q1
      ·rw[hn1]
       simp only[Instr.checkKey,Sem.run_bind,run_underlying hu,Result.andThen_ok,Std.Legacy.Range.forIn_eq_forIn_range',Std.Legacy.Range.size,Nat.sub_zero,Nat.add_one_sub_one,Nat.div_one]
       refine Eq.trans (congrArg (λr=>Result.andThen r λ(_:PUnit) w'=>Result.ok () w') ?_) (show Result.andThen (Result.ok PUnit.unit w) _=_ from rfl)
       have:=q2 em
       simpa using this
     ·simp at h
    ·simp at h
   ·simp at h
  ·simp at h
omit hT in
theorem uF{t:TypeId}{g:Bool}{l:List KS}(h:DT T t=some (g,l)):flat T 8 t=some l/\T.sh t=some g/\l.length=(T.at t).size:=by
 unfold DT at h
 split at h
 ·rename_i l' g' h1 h2
  split at h
  ·rename_i hb
   simp only[Option.some.injEq,Prod.mk.injEq]at h
   obtain⟨rfl,rfl⟩:=h
   exact⟨h1,h2,Nat.eq_of_beq_eq_true hb⟩
  ·simp at h
 ·simp at h
theorem BZ{t:TypeId}{g:Bool}{l:List KS}(h:DT T t=some (g,l)){F:aK}{w:World}{a b:D}{v u:Value}(ha:fP g l a=true)(hb:fP g l b=true)(hv:DRel F w a v)(hu:DRel F w b u) :
  (Op.equal t v u).run P w = .ok (eH a b) w/\∀e,(Instr.checkKey e 10000 t v).run P w = .ok () w:=by
 obtain⟨h1,h2,h3⟩:=uF h
 cases g with
 |true=>
  cases a<;>simp only[fP,Bool.false_eq_true]at ha
  cases b<;>simp only[fP,Bool.false_eq_true]at hb
  rename_i ds es
  cases hv with
  |agg _ vs hl hh=>
   cases hu with
   |agg _ us hl' hh'=>
    have e1:=gI ha
    have e2:=gI hb
    obtain⟨v,u,q1,q2,q3,q4⟩:=QM hT 8 t l h1 h3 9992 F w ds es vs us 0 ha hb (by simpa using hh) (by simpa using hh') (by omega) (by omega)
    rw[gB hT h2]at q1 q2
    simp only[if_true,Nat.zero_add,Result.ok.injEq,and_true]at q1 q2
    have x1:vs.extract 0 (T.at t).size=vs:=by rw[<-h3,<-e1,<-hl];simp
    have x2:us.extract 0 (T.at t).size=us:=by rw[<-h3,<-e2,<-hl'];simp
    rw[x1]at q1;rw[x2]at q2
    subst q1 q2
    exact⟨q3,q4⟩
 |false=>
  simp only[fP]at ha hb
  split at ha
  ·rename_i k
   have:eH a b=sameS a b:=by
    cases a<;>first |rfl |(cases k<;>simp[KS.ok]at ha;done) |skip
   rw[this]
   obtain⟨v',u',q1,q2,q3,q4⟩:=QM hT 8 t [k] h1 h3 9992 F w [a] [b] #[v] #[u] 0 (by simpa[oC]using ha) (by simpa[oC]using hb)
    (λi x hx=>by cases i<;>simp at hx;subst hx;simpa using hv) (λi x hx=>by cases i<;>simp at hx;subst hx;simpa using hu) (by simp) (by simp)
   rw[gB hT h2]at q1 q2
   simp at q1 q2
   subst q1 q2
   refine⟨?_,q4⟩
   show(Op.equalIn 10000 t v u).run P w=_
   simpa[sameL]using q3
  ·simp at ha
end
def wz(k:D):List (D×D)->List MapEntry->Nat->Option (Nat×Value)
 |(a,_)::r,m::s,i=>match eH k a with |true=>some (i,m.val) |false=>wz k r s (i+1)
 |_,_,_=>none
theorem Cb{F:aK}{w:World}{g:Bool}{l:List KS}{k:D}{kv:Value}(hk:fP g l k=true)(hkv:DRel F w k kv):∀(es:List (D×D)) (ml:List MapEntry) (i0:Nat),ml.length=es.length ->
  (∀(i:Nat) (x:D×D),es[i]? = some x->fP g l x.1=true/\∃m:MapEntry,ml[i]? = some m/\DRel F w x.1 m.key/\DRel F w x.2 m.val) ->
  (su k es=none/\wz k es ml i0=none/\(∀m∈ml,m.key≠kv)/\∀v,mput k v es=es++[(k,v)]) \/
  ∃(i:Nat) (a d:D) (m:MapEntry),es[i]? = some (a,d)/\ml[i]? = some m/\wz k es ml i0=some (i0+i,m.val)/\su k es=some d/\m.key=kv/\∀v,mput k v es=es.set i (k,v):=by
 intro es
 induction es with
 |nil=>intro ml i0 hl h;cases ml<;>simp at hl;exact .inl ⟨rfl,rfl,by simp,λv=>rfl⟩
 |cons x r ih=>
  intro ml i0 hl h
  obtain⟨a,d⟩:=x
  cases ml with
  |nil=>simp at hl
  |cons m s=>
   obtain⟨h1,m',h2,h3,h4⟩:=h 0 (a,d) rfl
   simp only[List.getElem?_cons_zero,Option.some.injEq]at h2
   subst h2
   cases hs:eH k a with
   |true=>
    have:=(sK hk h1 hkv h3).1 hs
    exact .inr ⟨0,a,d,m,rfl,rfl,by simp[wz,hs],by simp[su,hs],this.symm,λv=>by simp[mput,hs]⟩
   |false=>
    have hne:m.key≠kv:=λe=>by have:=(sK hk h1 hkv h3).2 e.symm;rw[hs]at this;simp at this
    rcases ih s (i0+1) (by simpa using hl) (λi x hx=>by
     obtain⟨p1,m',p2,p3⟩:=h (i+1) x (by simpa using hx)
     exact⟨p1,m',by simpa using p2,p3⟩)with⟨q1,q2,q3,q4⟩ |⟨i,a',d',m',q1,q2,q3,q4,q5,q6⟩
    ·exact .inl ⟨by simp[su,hs,q1],by simp[wz,hs,q2],λm' hm'=>by
      rcases List.mem_cons.1 hm' with rfl |hm'
      ·exact hne
      ·exact q3 m' hm',λv=>by simp[mput,hs,q4]⟩
    ·exact .inr ⟨i+1,a',d',m',by simpa using q1,by simpa using q2,by simp[wz,hs,q3];omega,by simp[su,hs,q4],q5,λv=>by simp[mput,hs,q6]⟩
theorem I5{F:aK}{w:World}{g:Bool}{l:List KS}{k:D}{v:Value}(hk:fP g l k=true)(hv:DRel F w k v)(n:Nat):Instr.sameBits (n+1) v v=true:=by
 have scal:∀(q:KS) (d:D) (u:Value) (n:Nat),q.ok d=true->DRel F w d u->Instr.sameBits n u u=true:=by
  intro q d u n h1 h2
  rcases uD h1 h2 with⟨j,m,_,_,rfl⟩ |⟨s,_,_,rfl⟩ |⟨c,_,_,rfl⟩<;>cases n<;>simp[Instr.sameBits,MapKept.bytes_beq]
 cases g with
 |true=>
  cases k<;>simp only[fP,Bool.false_eq_true]at hk
  rename_i ds
  cases hv with
  |agg _ vs hl hh=>
   simp only[Instr.sameBits,beq_self_eq_true,Bool.true_and]
   rw[List.all_eq_true]
   intro x hx
   obtain⟨i,hi⟩:=List.mem_iff_getElem?.1 hx
   rw[List.getElem?_zip_eq_some]at hi
   obtain⟨h1,h2⟩:=hi
   have hlt:i<vs.size:=by have:=(List.getElem?_eq_some_iff.1 h1).1;simpa using this
   have e1:=gI hk
   obtain⟨x1,x2⟩:=x
   simp only at h1 h2
   rw[h1]at h2
   simp only[Option.some.injEq]at h2
   subst h2
   have hd:=hh i (ds[i]'(by omega)) (by simp)
   have hv:vs.getD i undef=x1:=by
    rw[Array.getElem?_toList]at h1
    simp[h1]
   rw[hv]at hd
   have hks:∀{l:List KS} {ds:List D} {i:Nat} {d:D},oC l ds=true->ds[i]? = some d->∃q:KS,q.ok d=true:=by
    intro l
    induction l with
    |nil=>intro ds i d h h';cases ds<;>simp[oC]at h h'
    |cons q l ih=>
     intro ds i d h h'
     cases ds with
     |nil=>simp[oC]at h
     |cons d0 ds=>
      simp only[oC,Bool.and_eq_true]at h
      cases i with
      |zero=>simp at h';subst h';exact⟨q,h.1⟩
      |succ i=>exact ih h.2 (by simpa using h')
   obtain⟨q,hq⟩:=hks (i:=i) (d:=ds[i]'(by omega)) hk (by simp)
   exact scal q _ _ n hq hd
 |false=>
  simp only[fP]at hk
  split at hk
  ·exact scal _ k v _ hk hv
  ·simp at hk
def eqB(op:BinOp)(b:Bool):Bool:=match op with | .eql=>b |_=>!b
theorem ja{N:aK}{M:Mem}{w:World}{op:BinOp}{b:Bool}:ay N M w (kK op b) (.bool (eqB op b)):=by
 cases op<;>exact .data _ _ (.val _)
theorem uG{P:Program}{op:BinOp}(hop:op = .eql\/op = .neq){t:TypeId}{xo yo:Operand}{v u:Value}{b:Bool}{w:World}(hg:(eqGuard op t xo yo v u).run P w = .ok () w)(hni:(∀k n,v ≠ .int k n)/\(∀k n,v ≠ .float k n)/\(∀k n m,v ≠ .complex k n m)/\(∀s,v ≠ .string s))(he:(Op.equal t v u).run P w = .ok b w) :
  (do eqGuard op t xo yo v u;binOp op t v u:Sem Value).run P w = .ok (.bool (eqB op b)) w:=by
 rw[Sem.run_bind,hg,Result.andThen_ok]
 obtain⟨h1,h2,h3,h4⟩:=hni
 rcases hop with rfl |rfl
 ·have:binOp .eql t v u=(do pure (.bool (<-Op.equal t v u))):=by
   cases v<;>first
    |exact absurd rfl (h1 _ _)
    |exact absurd rfl (h2 _ _)
    |exact absurd rfl (h3 _ _ _)
    |exact absurd rfl (h4 _)
    |(cases u<;>rfl)
  rw[this]
  simp[he,eqB]
 ·have:binOp .neq t v u=(do pure (.bool (!(<-Op.equal t v u)))):=by
   cases v<;>first
    |exact absurd rfl (h1 _ _)
    |exact absurd rfl (h2 _ _)
    |exact absurd rfl (h3 _ _ _)
    |exact absurd rfl (h4 _)
    |(cases u<;>rfl)
  rw[this]
  simp[he,eqB]
theorem QN{op:BinOp}{x:AV}(h:KH op x=true):op = .eql\/op = .neq:=by
 unfold KH at h
 split at h
 ·exact .inl rfl
 ·exact .inr rfl
 ·simp at h
theorem jo{P:Program}{op:BinOp}(hop:op = .eql\/op = .neq){t:TypeId}{xo yo:Operand}{v u:Value}{w:World}(h1:¬(v = .nilIface/\u = .nilIface))(h2:∀xs ys,¬(v = .agg xs/\u = .agg ys)):(eqGuard op t xo yo v u).run P w = .ok () w:=by
 have key:∀(p q:Sem Unit),(match(generalizing:=false) v,u with | .nilIface,.nilIface=>p | .agg _,.agg _=>q |_,_=>pure ():Sem Unit).run P w = .ok () w:=by
  intro p q
  split
  ·exact absurd ⟨rfl,rfl⟩ h1
  ·exact absurd ⟨rfl,rfl⟩ (h2 _ _)
  ·rfl
 rcases hop with rfl |rfl<;>exact key _ _
theorem Vj{P:Program}{w:World}{t:TypeId}(h:P.underlying t=some .bool)(a b:Bool):(Op.equal t (.bool a) (.bool b)).run P w = .ok (a==b) w:=run_equalIn_bool' w 9999 t a b h
theorem z1x{P:Program}{w:World}{t:TypeId}{ms}(h:P.underlying t=some (.interface ms))(d:TypeId)(v:Value):(Op.equal t (.iface d v) .nilIface).run P w = .ok false w:=by
 have:∀n,(Op.equalIn (n+1) t (.iface d v) .nilIface).run P w = .ok false w:=λn=>by simp only[Op.equalIn,Sem.run_bind,run_underlying h,Result.andThen_ok];rfl
 exact this 9999
theorem z1y{P:Program}{w:World}{t:TypeId}{ms}(h:P.underlying t=some (.interface ms))(d:TypeId)(v:Value):(Op.equal t .nilIface (.iface d v)).run P w = .ok false w:=by
 have:∀n,(Op.equalIn (n+1) t .nilIface (.iface d v)).run P w = .ok false w:=λn=>by simp only[Op.equalIn,Sem.run_bind,run_underlying h,Result.andThen_ok];rfl
 exact this 9999
theorem z1z{P:Program}{w:World}{t:TypeId}{ms}(h:P.underlying t=some (.interface ms)):(Op.equal t .nilIface .nilIface).run P w = .ok true w:=by
 have:∀n,(Op.equalIn (n+1) t .nilIface .nilIface).run P w = .ok true w:=λn=>by simp only[Op.equalIn,Sem.run_bind,run_underlying h,Result.andThen_ok];rfl
 exact this 9999
theorem z14{P:Program}{w:World}{t e:TypeId}(h:P.underlying t=some (.pointer e))(a:Addr):(Op.equal t (.pointer (some a)) (.pointer none)).run P w = .ok false w:=by
 have:∀n,(Op.equalIn (n+1) t (.pointer (some a)) (.pointer none)).run P w = .ok false w:=λn=>by simp only[Op.equalIn,Sem.run_bind,run_underlying h,Result.andThen_ok];rfl
 exact this 9999
theorem z15{P:Program}{w:World}{t e:TypeId}(h:P.underlying t=some (.pointer e)):(Op.equal t (.pointer none) (.pointer none)).run P w = .ok true w:=by
 have:∀n,(Op.equalIn (n+1) t (.pointer none) (.pointer none)).run P w = .ok true w:=λn=>by simp only[Op.equalIn,Sem.run_bind,run_underlying h,Result.andThen_ok];rfl
 exact this 9999
theorem zg{d:TypeDesc}{v u:Value}{b:Bool}(h:Instr.sameNow d v u=some b):b=true↔v=u:=by
 unfold Instr.sameNow at h
 split at h
 ·split at h
  ·rename_i hk;subst hk;simp only[Option.some.injEq]at h;subst h;simp
  ·simp at h
 ·rename_i a c
  have h:(a==c)=b:=Option.some.inj h
  rw[<-h,MapKept.bytes_beq];simp
 ·rename_i a c
  have h:(a==c)=b:=Option.some.inj h
  rw[<-h];simp
 ·simp at h
section
variable {P : Program} {T : Tbl} (hT : gY P T)
include hT
theorem DZ{kt:TypeId}{g:Bool}{l:List KS}(hkt:DT T kt=some (g,l)){F:aK}{w:World}{k:D}{kv:Value}(hk:fP g l k=true)(hkv:DRel F w k kv)(es:List (D×D))(ml:List MapEntry)(hl:ml.length=es.length)
  (h:∀(i:Nat) (x:D×D),es[i]? = some x->fP g l x.1=true/\∃m:MapEntry,ml[i]? = some m/\DRel F w x.1 m.key/\DRel F w x.2 m.val):(Instr.findKey kt kv ml).run P w = .ok (wz k es ml 0) w:=by
 have asking:∀(es:List (D×D)) (ml:List MapEntry) (i0:Nat),ml.length=es.length->(∀(i:Nat) (x:D×D),es[i]? = some x->fP g l x.1=true/\∃m:MapEntry,ml[i]? = some m/\DRel F w x.1 m.key/\DRel F w x.2 m.val)->(Instr.findAsking kt kv ml i0).run P w = .ok (wz k es ml i0) w:=by
  intro es
  induction es with
  |nil=>intro ml i0 hl _;cases ml<;>simp at hl;rfl
  |cons x r ih=>
   intro ml i0 hl h
   cases ml with
   |nil=>simp at hl
   |cons m s=>
    obtain⟨h1,m',h2,h3,h4⟩:=h 0 x rfl
    simp only[List.getElem?_cons_zero,Option.some.injEq]at h2
    subst h2
    simp only[Instr.findAsking,Sem.run_bind,(BZ hT hkt hk h1 hkv h3).1,Result.andThen_ok]
    simp only[wz]
    cases hs:eH k x.1 with
    |true=>simp
    |false=>
     simp only[Bool.false_eq_true,if_false]
     exact ih s (i0+1) (by simpa using hl) λi y hy=>by
      obtain⟨p1,m',p2,p3⟩:=h (i+1) y (by simpa using hy)
      exact⟨p1,m',by simpa using p2,p3⟩
 have now:∀(d:TypeDesc) (es:List (D×D)) (ml:List MapEntry) (i0:Nat) r,ml.length=es.length->(∀(i:Nat) (x:D×D),es[i]? = some x->fP g l x.1=true/\∃m:MapEntry,ml[i]? = some m/\DRel F w x.1 m.key/\DRel F w x.2 m.val)->Instr.findNow d kv ml i0=some r->r=wz k es ml i0:=by
  intro d es
  induction es with
  |nil=>intro ml i0 r hl _ hr;cases ml<;>simp at hl;simp[Instr.findNow]at hr;simp[wz,hr]
  |cons x q ih=>
   intro ml i0 r hl h hr
   cases ml with
   |nil=>simp at hl
   |cons m s=>
    obtain⟨h1,m',h2,h3,h4⟩:=h 0 x rfl
    simp only[List.getElem?_cons_zero,Option.some.injEq]at h2
    subst h2
    simp only[Instr.findNow]at hr
    have hks:=sK hk h1 hkv h3
    simp only[wz]
    split at hr
    ·rename_i hn
     have:=hks.2 ((zg hn).1 rfl)
     rw[this]
     simpa using hr.symm
    ·rename_i hn
     have hne:eH k x.1=false:=by
      cases hb:eH k x.1 with
      |false=>rfl
      |true=>have:=(zg hn).2 (hks.1 hb);simp at this
     rw[hne]
     exact ih s (i0+1) r (by simpa using hl) (λi y hy=>by
      obtain⟨p1,m',p2,p3⟩:=h (i+1) y (by simpa using hy)
      exact⟨p1,m',by simpa using p2,p3⟩) hr
    ·simp at hr
 obtain⟨h1,h2,h3⟩:=uF hkt
 have hu:∃d,P.underlying kt=some d:=by
  have hd:=(hT kt).desc
  simp only[Tbl.sh]at h2
  cases hty:(T.at kt).ty<;>simp only[hty,FM,Ty.sh]at hd h2<;>first
   |exact⟨_,hd⟩
   |(obtain⟨_,hd,_⟩:=hd;exact⟨_,hd⟩)
   |(obtain⟨_,_,_,hd⟩:=hd;exact⟨_,hd⟩)
   |(obtain⟨_,hd⟩:=hd;exact⟨_,hd⟩)
   |simp at h2
 obtain⟨d,hu⟩:=hu
 simp only[Instr.findKey,Sem.run_bind,run_underlying hu,Result.andThen_ok]
 split
 ·rename_i r hr
  rw[now d es ml 0 r hl h hr];rfl
 ·exact asking es ml 0 hl h
theorem YL{t:TypeId}{op:BinOp}(hop:op = .eql\/op = .neq){xo yo:Operand}{x y:AV}{K:Heap}{next:Next}(h:z1l T t op xo yo x y K next) :
  ∃r,next r K/\∀N M w vx vy,ay N M w x vx->ay N M w y vy->∃z,(do eqGuard op t xo yo vx vy;binOp op t vx vy:Sem Value).run P w = .ok z w/\ay N M w r z:=by
 unfold z1l at h
 split at h
 ·rename_i fs hty
  split at h
  ·rename_i ds es
   split at h
   ·rename_i l hkt
    obtain⟨⟨h1,h2⟩,h⟩:=h
    refine⟨_,h,λN M w vx vy hx hy=>?_⟩
    cases hx with |data _ _ hx=>cases hy with |data _ _ hy=>
    obtain⟨q1,_⟩:=BZ (P:=P) hT hkt (a:=.agg ds) (b:=.agg es) (by simpa[fP]using h1) (by simpa[fP]using h2) hx hy
    obtain⟨p1,p2,p3⟩:=uF hkt
    have heqs:(T.at t).eqs=true:=by
     rw[flat,hty]at p1
     simp only at p1
     split at p1
     ·rename_i he;exact he
     ·simp at p1
    obtain⟨hgu,_,_⟩:=(hT t).eqs heqs
    cases hx with |agg _ xs _ _=>cases hy with |agg _ ys _ _=>
    exact⟨_,uG hop (run_eqGuard_agg w op t xo yo xs ys hgu) (by simp) q1,ja⟩
   ·exact h.elim
  ·exact h.elim
 ·rename_i m e hty
  split at h
  ·rename_i ds es
   split at h
   ·rename_i l hkt
    obtain⟨⟨h1,h2⟩,h⟩:=h
    refine⟨_,h,λN M w vx vy hx hy=>?_⟩
    cases hx with |data _ _ hx=>cases hy with |data _ _ hy=>
    obtain⟨q1,_⟩:=BZ (P:=P) hT hkt (a:=.agg ds) (b:=.agg es) (by simpa[fP]using h1) (by simpa[fP]using h2) hx hy
    obtain⟨p1,p2,p3⟩:=uF hkt
    have heqs:(T.at t).eqs=true:=by
     rw[flat,hty]at p1
     simp only at p1
     split at p1
     ·rename_i he;exact he
     ·simp at p1
    obtain⟨hgu,_,_⟩:=(hT t).eqs heqs
    cases hx with |agg _ xs _ _=>cases hy with |agg _ ys _ _=>
    exact⟨_,uG hop (run_eqGuard_agg w op t xo yo xs ys hgu) (by simp) q1,ja⟩
   ·exact h.elim
  ·exact h.elim
 ·rename_i hty
  split at h
  ·rename_i a b
   refine⟨_,h,λN M w vx vy hx hy=>?_⟩
   obtain rfl:=hx.bool
   obtain rfl:=hy.bool
   refine⟨_,uG hop (jo hop (by simp) (by simp)) (by simp) (b:=a==b) ?_,ja⟩
   exact Vj (uq hT hty) a b
  ·exact h.elim
 ·rename_i hty
  have hd:=(hT t).desc
  rw[hty]at hd
  obtain⟨ms,hu⟩:=hd
  have iface1:∀{N M w vx vy},(∃d v,vx = .iface d v)->vy = .nilIface->∃z,(do eqGuard op t xo yo vx vy;binOp op t vx vy:Sem Value).run P w = .ok z w/\ay N M w (kK op false) z:=by
   rintro N M w vx vy ⟨d,v,rfl⟩ rfl
   refine⟨_,uG hop (jo hop (by simp) (by simp)) (by simp) (b:=false) ?_,ja⟩
   exact z1x hu d v
  have iface2:∀{N M w vx vy},(∃d v,vy = .iface d v)->vx = .nilIface->∃z,(do eqGuard op t xo yo vx vy;binOp op t vx vy:Sem Value).run P w = .ok z w/\ay N M w (kK op false) z:=by
   rintro N M w vx vy ⟨d,v,rfl⟩ rfl
   refine⟨_,uG hop (jo hop (by simp) (by simp)) (by simp) (b:=false) ?_,ja⟩
   exact z1y hu d v
  split at h
  ·obtain⟨hc,h⟩:=h
   refine⟨_,h,λN M w vx vy hx hy=>?_⟩
   cases hx with |data _ _ hx=>cases hy with |data _ _ hy=>
   cases hx;cases hy
   refine⟨_,uG hop ?_ (by simp) (b:=true) ?_,ja⟩
   ·rcases hop with rfl |rfl<;>cases xo<;>cases yo<;>simp[isConst]at hc<;>rfl
   ·exact z1z hu
  ·refine⟨_,h,λN M w vx vy hx hy=>?_⟩
   cases hx with |data _ _ hx=>cases hy with |data _ _ hy=>
   cases hx;cases hy
   exact iface1 ⟨_,_,rfl⟩ rfl
  ·refine⟨_,h,λN M w vx vy hx hy=>?_⟩
   cases hx with |iface=>cases hy with |data _ _ hy=>
   cases hy
   exact iface1 ⟨_,_,rfl⟩ rfl
  ·refine⟨_,h,λN M w vx vy hx hy=>?_⟩
   cases hx with |data _ _ hx=>cases hy with |data _ _ hy=>
   cases hx;cases hy
   exact iface2 ⟨_,_,rfl⟩ rfl
  ·refine⟨_,h,λN M w vx vy hx hy=>?_⟩
   cases hy with |iface=>cases hx with |data _ _ hx=>
   cases hx
   exact iface2 ⟨_,_,rfl⟩ rfl
  ·exact h.elim
 ·rename_i e hty
  have hu:=YE hT hty
  have ptr:∀{N M w vx vy},(∃a,vx = .pointer (some a))->vy = .pointer none->∃z,(do eqGuard op t xo yo vx vy;binOp op t vx vy:Sem Value).run P w = .ok z w/\ay N M w (kK op false) z:=by
   rintro N M w vx vy ⟨a,rfl⟩ rfl
   refine⟨_,uG hop (jo hop (by simp) (by simp)) (by simp) (b:=false) ?_,ja⟩
   exact z14 hu a
  split at h
  ·refine⟨_,h,λN M w vx vy hx hy=>?_⟩
   cases hx with |data _ _ hx=>cases hy with |data _ _ hy=>
   cases hx;cases hy
   refine⟨_,uG hop (jo hop (by simp) (by simp)) (by simp) (b:=true) ?_,ja⟩
   exact z15 hu
  ·refine⟨_,h,λN M w vx vy hx hy=>?_⟩
   cases hx with |data _ _ hx=>cases hy with |data _ _ hy=>
   cases hx;cases hy
   exact ptr ⟨_,rfl⟩ rfl
  ·refine⟨_,h,λN M w vx vy hx hy=>?_⟩
   cases hx with |ptr=>cases hy with |data _ _ hy=>
   cases hy
   exact ptr ⟨_,rfl⟩ rfl
  ·refine⟨_,h,λN M w vx vy hx hy=>?_⟩
   cases hx with |eptr=>cases hy with |data _ _ hy=>
   cases hy
   exact ptr ⟨_,rfl⟩ rfl
  ·exact h.elim
 ·exact h.elim
end
def World.setObj(w:World)(b:Nat)(o:Obj):World:={ w with heap:=w.heap.setIfInBounds b o }
theorem zh{w:World}{b:Nat}{o:Obj}(h:b<w.heap.size):(World.setObj w b o).heap[b]? = some o:=by
 show(w.heap.setIfInBounds b _)[b]? = _
 simp[h]
theorem oV{w:World}{b k:Nat}{o:Obj}(h:k≠b):(World.setObj w b o).heap[k]? = w.heap[k]?:=by
 show(w.heap.setIfInBounds b _)[k]? = _
 rw[Array.getElem?_setIfInBounds];simp[Ne.symm h]
theorem Step.setMap{M:Mem}{w:World}{id b:Nat}{mes mes':Array MapEntry}{c c':Nat}(hr:w.heap[b]? = some (.map mes c))(hM:M id=some (.blk b)):Step M w M (World.setObj w b (.map mes' c')) [id]:=by
 have hb:b<w.heap.size:=(Array.getElem?_eq_some_iff.1 hr).1
 refine⟨rfl,rfl,rfl,by simp[World.setObj],?_,?_,?_,λ_ _=>rfl,?_,?_⟩
 ·intro k hk hW
  by_cases hkb:k=b
  ·subst hkb;exact absurd rfl (hW id (by simp) (.blk k) 0 hM)
  ·exact oV hkb
 ·intro k o u hW hc
  by_cases hkb:k=b
  ·subst hkb;exact absurd rfl (hW id (by simp) (.blk k) hM)
  ·simp only[World.cell?,oV hkb]at hc ⊢;exact hc
 ·intro k a2 t2 h2
  by_cases hkb:k=b
  ·subst hkb
   have h2:w.heap[k]? = _:=h2
   rw[hr]at h2;simp at h2
  ·exact⟨a2,by show(World.setObj w b _).heap[k]? = _;rw[oV hkb];exact h2,rfl⟩
 ·intro id' h' ow' b' o e1 e2
  simp only[List.mem_singleton]at h';subst h'
  have:=hM.symm.trans e1
  simp only[Option.some.injEq]at this;subst this
  have e2:b'=b:=e2
  subst e2
  exact⟨by simpa[World.setObj]using hb,.inr ⟨id',by simp,.blk b',hM,rfl⟩⟩
 ·intro id1 h1 id2 h2 hne
  simp only[List.mem_singleton]at h1 h2;exact absurd (h1.trans h2.symm) hne
theorem I7:∀{a b:List KS},YB a b=true->a=b:=by
 intro a
 induction a with
 |nil=>intro b h;cases b<;>simp[YB]at h ⊢
 |cons x r ih=>
  intro b h
  cases b with
  |nil=>simp[YB]at h
  |cons y s=>
   simp only[YB,Bool.and_eq_true]at h
   have:x=y:=by
    have:=h.1
    cases x<;>cases y<;>simp[KS.eq]at this ⊢
    exact this
   rw[this,ih h.2]
theorem FV{ρ:Operand->Value}{o:Oper}{t:TypeId}{r:Option Operand}(ho:o.op = .makeMap t r):execOp ρ o=(do pure (.value (<-Instr.makeMap t (r.map ρ)))):=by cases o;simp only at ho;subst ho;rfl
theorem rE{ρ:Operand->Value}{o:Oper}{t:TypeId}{m k x:Operand}(ho:o.op = .mapUpdate t m k x\/o.op = .insert t m k x):execOp ρ o=(do Instr.mapUpdate t (ρ m) (ρ k) (ρ x);pure .skip):=by
 cases o;simp only at ho;rcases ho with rfl |rfl<;>rfl
theorem sN{ρ:Operand->Value}{o:Oper}{t:TypeId}{x k:Operand}{ok:Bool}(ho:o.op = .lookup t x k ok):execOp ρ o=(do pure (.value (<-Instr.lookup t (ρ x) (ρ k) ok))):=by cases o;simp only at ho;subst ho;rfl
theorem zi{ρ:Operand->Value}{o:Oper}{x:Operand}{xt as:TypeId}{ok:Bool}(ho:o.op = .typeAssert x xt as ok):execOp ρ o=(do pure (.value (<-Instr.typeAssert (ρ x) xt as ok))):=by cases o;simp only at ho;subst ho;rfl
theorem oW{ρ:Operand->Value}{o:Oper}{s d:TypeId}{x:Operand}(ho:o.op = .convert s d x):execOp ρ o=(do pure (.value (<-convert s d (ρ x)))):=by cases o;simp only at ho;subst ho;rfl
theorem wrap_ok'{n:Int}(h1:-9223372036854775808<=n)(h2:n<=9223372036854775807):IntKind.i64.wrap n=n:=by
 simp only[IntKind.wrap,IntKind.bits,IntKind.signed]
 first |(simp;omega) |skip
theorem Bj{ρ:Operand->Value}{o:Oper}{t:TypeId}{l c:Operand}(ho:o.op = .makeSlice t l c):execOp ρ o=(do pure (.value (<-Instr.makeSlice t (ρ l) (ρ c)))):=by cases o;simp only at ho;subst ho;rfl
theorem QO{P:Program}{N:aK}{M:Mem}{w:World}{y:AV}{v:Value}{bs:List UInt8}(h:ay N M w y v)(he:yU y=some (1,bs.map λb=>[D.val (.int .u8 (b.toNat:Int))])){src dst e:TypeId}
  (h1:P.underlying src=some (.slice e)) (h2:P.underlying e=some (.int .u8)) (h3:P.underlying dst=some .string):(convert src dst v).run P w = .ok (.string ⟨bs.toArray⟩) w:=by
 have key:∀{es:List (List D)} {v:Value},es=(bs.map λb=>[D.val (.int .u8 (b.toNat:Int))])->DRel (Fb N M) w (.sl 1 es) v->(convert src dst v).run P w = .ok (.string ⟨bs.toArray⟩) w:=by
  intro es v hes hd
  cases hd with
  |sl0 _ a cap hm=>
   have:bs = []:=by cases bs with |nil=>rfl |cons b r=>simp at hes
   subst this
   rw[run_convert_bytes_string w src dst e a 0 cap h1 h2 h3]
   cases a<;>simp[Conv.bytesToString,loadCells,loadCellsFrom]<;>rfl
  |sl _ _ b off cap n g hn hcap hm hs q1 q2=>
   subst hn
   have hl:es.length=bs.length:=by rw[hes];simp
   rw[hl]
   refine run_convert_bytes_back w src dst e ⟨b,off,none⟩ cap bs h1 h2 h3 λj hj=>?_
   have he:es[j]? = some [D.val (.int .u8 (bs[j].toNat:Int))]:=by rw[hes];simp[hj]
   have a1:=(q1 j 0 _ _ he rfl).2.1
   have a2:=q2 j 0 _ _ he rfl
   have a3:g j 0 = .int .u8 (bs[j].toNat:Int):=by generalize g j 0=x at a2;cases a2;rfl
   rw[a3]at a1
   have e0:(⟨b,off,none⟩:Addr).add j=⟨b,off+j,none⟩:=by simp only[Addr.add];split<;>simp_all
   rw[e0];simpa using a1
 unfold yU at he
 split at he
 ·simp only[Option.some.injEq,Prod.mk.injEq]at he;obtain⟨rfl,he⟩:=he
  cases h with |data _ _ hd=>exact key he hd
 ·simp only[Option.some.injEq,Prod.mk.injEq]at he;obtain⟨rfl,he⟩:=he
  cases h with |gs _ _ _ _ _ _ hd _ _=>exact key he hd
 ·simp only[Option.some.injEq,Prod.mk.injEq]at he;obtain⟨rfl,he⟩:=he
  have:bs = []:=by cases bs with |nil=>rfl |cons b r=>simp at he
  subst this
  cases h
  rw[run_convert_bytes_string w src dst e none 0 0 h1 h2 h3]
  simp[Conv.bytesToString];rfl
 ·simp at he
theorem I8{P:Program}{w:World}{v:Value}(h:Instr.sameBits 10000 v v=true):(Instr.keyThatStays v v).run P w = .ok v w:=by
 simp[Instr.keyThatStays,h]
section
variable {P : Program} {T : Tbl} (hT : gY P T)
include hT
theorem yB{t:TypeId}{z:D}(h:NS T t=some z):∃u,∀(F:aK) (w:World),(zeroValue t).run P w = .ok u w/\DRel F w z u:=by
 unfold NS at h
 split at h
 ·rename_i z0 zs hk hz
  have hzne:(T.at t).zero ≠ []:=by rw[hz];simp
  obtain⟨i,u,h1,h2,h3⟩:=(hT t).zsh hzne (aW hk)
  have hrun:∀w,(zeroValue t).run P w = .ok u w:=λw=>by simp[zeroValue,typeInfo,h1,h2]
  refine⟨u,λF w=>⟨hrun w,?_⟩⟩
  obtain⟨u',q1,q2,q3⟩:=kw hT hk hzne w
  rw[hrun w]at q1
  simp only[Result.ok.injEq,and_true]at q1
  subst q1
  rw[hz]at q2 q3
  have hc:=λi c hc=>(q3 F xK w i c hc).1
  split at h
  ·rename_i ds hds hsh
   simp only[Option.some.injEq]at h;subst h
   have hag:YD u=true:=by
    have:=h3.symm.trans (show(T.at t).ty.sh=some true from hsh)
    simpa using this
   obtain⟨k1,k2⟩:=dV hds
   cases u<;>simp[YD]at hag
   rename_i us
   refine .agg _ _ (by have q2:us.size=_:=q2;rw[q2,k1]) λi d hd=>?_
   obtain⟨c,e1,e2⟩:=k2 i d hd
   have:=(hc i c e1).toD e2
   rw[y9]at this
   exact this
  ·rename_i d hds hsh
   simp only[Option.some.injEq]at h;subst h
   have hag:YD u=false:=by
    have:=h3.symm.trans (show(T.at t).ty.sh=some false from hsh)
    simpa using this
   obtain⟨k1,k2⟩:=dV hds
   obtain⟨c,e1,e2⟩:=k2 0 d rfl
   have:=(hc 0 c e1).toD e2
   rw[y9]at this
   cases u<;>first |simp[YD]at hag;done |exact this
  ·simp at h
 ·split at h
  ·rename_i hty
   simp only[Option.some.injEq]at h;subst h
   exact⟨.agg #[],λF w=>⟨DV hT hty w,.agg _ _ rfl (λi d hd=>by simp at hd)⟩⟩
  ·simp at h
 ·simp at h
theorem tbl_map'{t k e:TypeId}(h:(T.at t).ty = .map k e):P.underlying t=some (.map k e):=by have:=(hT t).desc;rw[h]at this;exact this
omit hT in
theorem zk{g:Bool}{l:List KS}{es:List (D×D)}{F:aK}{w:World}{mes:Array MapEntry}(h:∀(i:Nat) (x:D×D),es[i]? = some x->fP g l x.1=true/\∃m:MapEntry,mes[i]? = some m/\DRel F w x.1 m.key/\DRel F w x.2 m.val) :
  ∀(i:Nat) (x:D×D),es[i]? = some x->fP g l x.1=true/\∃m:MapEntry,mes.toList[i]? = some m/\DRel F w x.1 m.key/\DRel F w x.2 m.val:=by
 intro i x hx
 obtain⟨h1,m,h2,h3⟩:=h i x hx
 exact⟨h1,m,by rw[Array.getElem?_toList];exact h2,h3⟩
theorem FW{env:Env}{K:Heap}{o:Oper}{t kt et:TypeId}{m k x:Operand}(ho:o.op = .mapUpdate t m k x\/o.op = .insert t m k x)(hty:(T.at t).ty = .map kt et){g:Bool}{l:List KS}(hkt:DT T kt=some (g,l)){kd xd:D}
  (hk:(ev T env kt k).toD? = some kd) (hx:(ev T env et x).toD? = some xd) {id:Nat} (hm:ev T env 0 m = .map id) {es:List (D×D)} (hK:K.get id=some (.map g l es)) (hko:fP g l kd=true) :
  vS P o env K (.data (.val undef)) (.st id) (some (id,.map g l (mput kd xd es))):=by
 intro N M a w hmem h1 h2 next' Q hn
 have hops:m∈o.op.operands/\k∈o.op.operands/\x∈o.op.operands:=by rcases ho with ho |ho<;>rw[ho]<;>simp[Op.operands]
 have hmr:ay N M w (ev T env 0 m) (a.eval m):=dh hmem 0 m λj e=>h1 j (e ▸ hops.1)
 have hkr:ay N M w (ev T env kt k) (a.eval k):=dh hmem kt k λj e=>h1 j (e ▸ hops.2.1)
 have hxr:ay N M w (ev T env et x) (a.eval x):=dh hmem et x λj e=>h1 j (e ▸ hops.2.2)
 have hmk:Hk N M w K (ev T env 0 m):=qW 0 m λj e=>h2 j (e ▸ hops.1)
 rw[hm]at hmr hmk
 have hkd:=hkr.toD hk
 have hxd:=hxr.toD hx
 obtain⟨b,mes,clock,e1,e2,e3,est,e4⟩:=hmk id (by simp[AV.men]) _ hK
 generalize hvm:a.eval m=vm at hmr
 cases hmr with
 |map _ r hr=>
  obtain rfl:=hr b e1
  have hent:=zk e4
  have hfind:=DZ (P:=P) hT hkt hko hkd es mes.toList (by simpa using e3) hent
  have hchk:=(BZ (P:=P) hT hkt hko hko hkd hkd).2 false
  have hu:=tbl_map' hT hty
  have hb:r<w.heap.size:=(Array.getElem?_eq_some_iff.1 e2).1
  have key:∀(mes':Array MapEntry) (c':Nat),(execOp a.eval o).run P w = .ok .skip (World.setObj w r (.map mes' c'))->mes'.size=(mput kd xd es).length->MapKept.Stamped mes' c' ->
    (∀(i:Nat) (y:D×D),(mput kd xd es)[i]? = some y->fP g l y.1=true/\∃m:MapEntry,mes'[i]? = some m/\DRel (Fb N M) w y.1 m.key/\DRel (Fb N M) w y.2 m.val)->o.wp P a w next' Q:=by
   intro mes' c' hrun q1 q2 q3
   simp only[Oper.wp,hrun,Oper.upon_skip]
   have hst:Step M w M (World.setObj w r (.map mes' c')) [id]:=Step.setMap e2 e1
   refine hn _ _ _ hst rfl (.data _ _ (.val _)) ?_
   rintro id' blk e
   simp only[Option.some.injEq,Prod.mk.injEq]at e
   obtain⟨rfl,rfl⟩:=e
   refine⟨by simp[Wr.ids],r,mes',c',e1,zh hb,q1,q2,λi y hy=>?_⟩
   obtain⟨p1,m',p2,p3,p4⟩:=q3 i y hy
   exact⟨p1,m',p2,p3.keep hst.keeps,p4.keep hst.keeps⟩
  rcases Cb hko hkd es mes.toList 0 (by simpa using e3) hent with⟨f1,f2,f3,f4⟩ |⟨i,a',d,me,f1,f2,f3,f4,f5,f6⟩
  ·refine key (mes.push { key:=a.eval k,val:=a.eval x,born:=clock }) (clock+1) ?_ ?_ (MapKept.stamped_push est f3) ?_
   ·rw[rE ho]
    rw[f2]at hfind
    simp only[Instr.mapUpdate,hvm,Sem.run_bind,run_underlying hu,Result.andThen_ok,MapKept.run_getObj_map e2,hchk,hfind,MapKept.run_setObj_map _ e2,Sem.run_pure]
    rfl
   ·rw[f4];simp[e3]
   ·intro i y hy
    rw[f4,List.getElem?_append]at hy
    rw[Array.getElem?_push]
    split at hy
    ·rename_i hlt
     rw[if_neg (by omega)]
     exact e4 i y hy
    ·rename_i hlt
     have hi:i=es.length:=by
      have:=(List.getElem?_eq_some_iff.1 hy).1
      simp at this;omega
     subst hi
     simp at hy;subst hy
     rw[if_pos e3.symm]
     exact⟨hko,_,rfl,hkd,hxd⟩
  ·have hme:mes[i]? = some me:=by rw[<-Array.getElem?_toList];exact f2
   have hkey:∀e',mes[i]? = some e'->e'.key=a.eval k:=λe' he'=>by rw[hme]at he';cases he';exact f5
   refine key (mes.modify i λe=>{ e with key:=a.eval k,val:=a.eval x }) clock ?_ ?_ (MapKept.stamped_modify est _ _ (λ_ _=>rfl) λe' _ he'=>(hkey e' he').symm) ?_
   ·rw[rE ho]
    rw[f3,Nat.zero_add]at hfind
    have hold:((mes[i]?).map (·.key)).getD (a.eval k)=a.eval k:=by rw[hme];exact f5
    simp only[Instr.mapUpdate,hvm,Sem.run_bind,run_underlying hu,Result.andThen_ok,MapKept.run_getObj_map e2,hchk,hfind,hold,I8 (I5 hko hkd 9999),MapKept.run_setObj_map _ e2,Sem.run_pure]
    rfl
   ·rw[f6];simp[e3]
   ·intro j y hy
    rw[f6,List.getElem?_set]at hy
    rw[Array.getElem?_modify]
    split at hy
    ·rename_i hij
     subst hij
     have hlt:i<es.length:=(List.getElem?_eq_some_iff.1 f1).1
     simp[hlt]at hy;subst hy
     rw[if_pos rfl,hme]
     exact⟨hko,_,rfl,hkd,hxd⟩
    ·rename_i hij
     rw[if_neg hij]
     exact e4 j y hy
theorem Vk{env:Env}{K:Heap}{o:Oper}{next:Next}(h:FD T env K o next) :
  ∃r wr δ,next r (upd K δ)/\oQ env K wr/\WrD wr δ/\(fG env K o=iU env (tmpsOf o.op.operands.toList))/\(∀d,wr = .new d->d∈eY T env K (upd K δ) o)/\(∀id∈wr.ids,id∈wids T env K (upd K δ) o)/\vS P o env K r wr δ:=by
 have E:∀{N:aK} {M:Mem} {a:Act} {w:World},bI N M w->(∀j,Operand.tmp j∈o.op.operands->ay N M w (env.get j) (a.tmps.getD j undef))->∀t x,x∈o.op.operands->ay N M w (ev T env t x) (a.eval x):=
  λm h1 t x hx=>dh m t x λj e=>h1 j (e ▸ hx)
 have H:∀{N:aK} {M:Mem} {w:World},(∀j,Operand.tmp j∈o.op.operands->Hk N M w K (env.get j))->∀t x,x∈o.op.operands->Hk N M w K (ev T env t x):=
  λh1 t x hx=>qW t x λj e=>h1 j (e ▸ hx)
 unfold FD at h
 split at h
 ·rename_i t r ho
  split at h
  ·rename_i d kt et hd hty hr
   split at h
   ·rename_i g l hkt
    obtain⟨hf,h⟩:=eP h
    refine⟨_,.new d,some (d,.map g l []),h,hf,.inr ⟨_,_,rfl,rfl⟩,by simp only[fG,ho],by simp[eY,ho,hd],by simp[wids,ho,hd,Wr.ids],λN M a w m h1 h2 next' Q hn=>?_⟩
    have hrun:(execOp a.eval o).run P w = .ok (.value (.map (some w.heap.size))) (w.alloc (.map #[] 0)):=by
     rw[FV ho]
     cases r with
     |none=>simp[Instr.makeMap]
     |some r=>
      simp only at hr
      split at hr
      ·rename_i k n heq
       have:=E m h1 0 r (by rw[ho];simp[Op.operands])
       rw[heq]at this
       have:=this.int
       simp[Instr.makeMap,run_underlying (tbl_map' hT hty),this,asInt,asIntOf]
      ·simp at hr
    simp only[Oper.wp,hrun,Oper.upon_value]
    have hs:Step M w (M.set d (some (.blk w.heap.size))) (w.alloc (.map #[] 0)) [d]:=Step.alloc M w d _ _ (λb x h=>h)
    refine hn _ _ _ hs trivial (.map _ _ λb e=>?_) ?_
    ·rw[Mem.set_same]at e;simp only[Option.some.injEq,Own.blk.injEq]at e;exact e
    ·rintro id blk e
     simp only[Option.some.injEq,Prod.mk.injEq]at e
     obtain⟨rfl,rfl⟩:=e
     refine⟨by simp[Wr.ids],w.heap.size,#[],0,Mem.set_same _ _ _,?_,rfl,MapKept.stamped_empty 0,by simp⟩
     show(w.heap.push _)[w.heap.size]? = _
     simp
   ·exact h.elim
  ·exact h.elim
 ·rename_i t m k x ho
  split at h
  ·rename_i kt et hty
   split at h
   ·rename_i g l kd xd id hkt hk hx hm
    split at h
    ·rename_i g' l' es hK
     split at h
     ·rename_i hb
      simp only[Bool.and_eq_true,beq_iff_eq]at hb
      obtain⟨rfl,hl⟩:=hb
      have hl:=I7 hl
      subst hl
      obtain⟨hko,h⟩:=h
      exact⟨_,.st id,some (id,_),h,trivial,.inr ⟨_,_,rfl,rfl⟩,by simp only[fG,ho],by simp,by simp[wids,ho,hm,Wr.ids,AV.ids],FW hT (.inl ho) hty hkt hk hx hm hK hko⟩
     ·exact h.elim
    ·exact h.elim
   ·exact h.elim
  ·exact h.elim
 ·rename_i t m k x ho
  split at h
  ·rename_i kt et hty
   split at h
   ·rename_i g l kd xd id hkt hk hx hm
    split at h
    ·rename_i g' l' es hK
     split at h
     ·rename_i hb
      simp only[Bool.and_eq_true,beq_iff_eq]at hb
      obtain⟨rfl,hl⟩:=hb
      have hl:=I7 hl
      subst hl
      obtain⟨hko,h⟩:=h
      exact⟨_,.st id,some (id,_),h,trivial,.inr ⟨_,_,rfl,rfl⟩,by simp only[fG,ho],by simp,by simp[wids,ho,hm,Wr.ids,AV.ids],FW hT (.inr ho) hty hkt hk hx hm hK hko⟩
     ·exact h.elim
    ·exact h.elim
   ·exact h.elim
  ·exact h.elim
 ·rename_i t x k ok ho
  have hops:x∈o.op.operands/\k∈o.op.operands:=by rw[ho];simp[Op.operands]
  have fin:∀{r:AV},next r K->(∀(N:aK) (M:Mem) (a:Act) (w:World),bI N M w->(∀j,Operand.tmp j∈o.op.operands->ay N M w (env.get j) (a.tmps.getD j undef))->(∀j,Operand.tmp j∈o.op.operands->Hk N M w K (env.get j)) ->
    ∃z,(execOp a.eval o).run P w = .ok (.value z) w/\ay N M w r z)->∃r wr δ,next r (upd K δ)/\oQ env K wr/\WrD wr δ/\(fG env K o=iU env (tmpsOf o.op.operands.toList))/\(∀d,wr = .new d->d∈eY T env K (upd K δ) o)/\(∀id∈wr.ids,id∈wids T env K (upd K δ) o)/\vS P o env K r wr δ:=
   λhn hk=>⟨_,.no,none,hn,trivial,.inl ⟨rfl,rfl⟩,by simp only[fG,ho],by simp,by simp[Wr.ids],vS.pure hk⟩
  have pair:∀{N:aK} {M:Mem} {w:World} {d:D} {v:Value} {b:Bool},DRel (Fb N M) w d v->ay N M w (.data (NT ok d b)) (if ok then .tuple #[v,.bool b]else v):=by
   intro N M w d v b hd
   cases ok with
   |true=>
    refine .data _ _ (.tuple _ _ (by simp) λi e he=>?_)
    match i with
    | 0=>simp at he;subst he;simpa using hd
    | 1=>simp at he;subst he;exact .val _
    |i+2=>simp at he
   |false=>exact .data _ _ hd
  split at h
  ·rename_i kt et hty
   have hu:=tbl_map' hT hty
   split at h
   ·rename_i g l kd z hkt hk hz
    obtain⟨zv,hzv⟩:=yB (P:=P) hT hz
    split at h
    ·rename_i id hx
     split at h
     ·rename_i g' l' es hK
      split at h
      ·rename_i hb
       simp only[Bool.and_eq_true,beq_iff_eq]at hb
       obtain⟨rfl,hl⟩:=hb
       have hl:=I7 hl
       subst hl
       obtain⟨hko,h⟩:=h
       have common:∀(N:aK) (M:Mem) (a:Act) (w:World),bI N M w->(∀j,Operand.tmp j∈o.op.operands->ay N M w (env.get j) (a.tmps.getD j undef))->(∀j,Operand.tmp j∈o.op.operands->Hk N M w K (env.get j)) ->
         ∃(v:Value) (b:Bool) (d:D),(execOp a.eval o).run P w = .ok (.value (if ok then .tuple #[v,.bool b]else v)) w/\DRel (Fb N M) w d v/\((su kd es=none/\b=false/\d=z)\/(su kd es=some d/\b=true)):=by
        intro N M a w m h1 h2
        have hmr:=E m h1 t x hops.1
        have hmk:=H h2 t x hops.1
        rw[hx]at hmr hmk
        have hkd:=(E m h1 kt k hops.2).toD hk
        obtain⟨b,mes,clock,e1,e2,e3,est,e4⟩:=hmk id (by simp[AV.men]) _ hK
        generalize hvm:a.eval x=vm at hmr
        cases hmr with
        |map _ r hr=>
         obtain rfl:=hr b e1
         have hent:=zk e4
         have hfind:=DZ (P:=P) hT hkt hko hkd es mes.toList (by simpa using e3) hent
         have hchk:=(BZ (P:=P) hT hkt hko hko hkd hkd).2
         rcases Cb hko hkd es mes.toList 0 (by simpa using e3) hent with⟨f1,f2,f3,f4⟩ |⟨i,a',d,me,f1,f2,f3,f4,f5,f6⟩
         ·refine⟨zv,false,z,?_,(hzv _ w).2,.inl ⟨f1,rfl,rfl⟩⟩
          rw[sN ho]
          rw[f2]at hfind
          simp only[Instr.lookup,hvm,Sem.run_bind,run_underlying hu,Result.andThen_ok,MapKept.run_getObj_map e2,Sem.run_pure,hchk,hfind,(hzv N w).1]
         ·obtain⟨_,m',q2,q3,q4⟩:=hent i _ f1
          rw[f2]at q2;simp only[Option.some.injEq]at q2;subst q2
          refine⟨me.val,true,d,?_,q4,.inr ⟨f4,rfl⟩⟩
          rw[sN ho]
          rw[f3]at hfind
          simp only[Instr.lookup,hvm,Sem.run_bind,run_underlying hu,Result.andThen_ok,MapKept.run_getObj_map e2,Sem.run_pure,hchk,hfind]
       unfold vT at h
       split at h
       ·rename_i d hd
        refine fin h λN M a w m h1 h2=>?_
        obtain⟨v,b,d',q1,q2,q3⟩:=common N M a w m h1 h2
        rcases q3 with⟨q3,_⟩ |⟨q3,rfl⟩
        ·rw[hd]at q3;simp at q3
        ·rw[hd]at q3;simp only[Option.some.injEq]at q3;subst q3
         exact⟨_,q1,pair q2⟩
       ·rename_i hd
        refine fin h λN M a w m h1 h2=>?_
        obtain⟨v,b,d',q1,q2,q3⟩:=common N M a w m h1 h2
        rcases q3 with⟨_,rfl,rfl⟩ |⟨q3,_⟩
        ·exact⟨_,q1,pair q2⟩
        ·rw[hd]at q3;simp at q3
      ·exact h.elim
     ·exact h.elim
    ·rename_i hx
     obtain⟨hko,h⟩:=h
     refine fin h λN M a w m h1 h2=>?_
     have hmr:=E m h1 t x hops.1
     rw[hx]at hmr
     have hkd:=(E m h1 kt k hops.2).toD hk
     have hvm:a.eval x = .map none:=by
      generalize a.eval x=vm at hmr
      cases hmr with |data _ _ h=>cases h;rfl
     have hfind:=DZ (P:=P) hT hkt hko hkd [] [] rfl (by simp)
     have hchk:=(BZ (P:=P) hT hkt hko hko hkd hkd).2
     refine⟨_,?_,pair (b:=false) (hzv _ w).2⟩
     rw[sN ho]
     simp only[Instr.lookup,hvm,Sem.run_bind,run_underlying hu,Result.andThen_ok,Sem.run_pure,hchk]
     rw[hfind]
     simp only[wz,Result.andThen_ok,Sem.run_bind,(hzv N w).1,Sem.run_pure]
    ·exact h.elim
   ·exact h.elim
  ·exact h.elim
 ·rename_i x xt as ok ho
  have hop:x∈o.op.operands:=by rw[ho];simp[Op.operands]
  have fin:∀{r:AV},next r K->(∀(N:aK) (M:Mem) (w:World) (v:Value),ay N M w (ev T env xt x) v->∃z,(Instr.typeAssert v xt as ok).run P w = .ok z w/\ay N M w r z)->∃r wr δ,next r (upd K δ)/\oQ env K wr/\WrD wr δ/\(fG env K o=iU env (tmpsOf o.op.operands.toList))/\(∀d,wr = .new d->d∈eY T env K (upd K δ) o)/\(∀id∈wr.ids,id∈wids T env K (upd K δ) o)/\vS P o env K r wr δ:=
   λhn hk=>⟨_,.no,none,hn,trivial,.inl ⟨rfl,rfl⟩,by simp only[fG,ho],by simp,by simp[Wr.ids],vS.pure λN M a w m h1 h2=>by
    obtain⟨z,q1,q2⟩:=hk N M w _ (E m h1 xt x hop)
    exact⟨z,by rw[zi ho];simp[q1],q2⟩⟩
  have main:(∃d,P.underlying as=some d/\∀ms,d ≠ .interface ms)->vU T as ok (ev T env xt x) K next->∃r wr δ,next r (upd K δ)/\oQ env K wr/\WrD wr δ/\(fG env K o=iU env (tmpsOf o.op.operands.toList))/\(∀d,wr = .new d->d∈eY T env K (upd K δ) o)/\(∀id∈wr.ids,id∈wids T env K (upd K δ) o)/\vS P o env K r wr δ:=by
   rintro⟨dsc,hu,hni⟩ h
   have pairA':∀{N:aK} {M:Mem} {w:World} {x:AV} {v:Value} {b:Bool},ay N M w x v->ay N M w (z1t ok x b) (if ok then .tuple #[v,.bool b]else v):=by
    intro N M w x v b hx
    cases ok with
    |true=>
     refine .tuple _ _ (by simp) λi e he=>?_
     match i with
     | 0=>simp at he;subst he;simpa using hx
     | 1=>simp at he;subst he;exact .data _ _ (.val _)
     |i+2=>simp at he
    |false=>exact hx
   have pairD':∀{N:aK} {M:Mem} {w:World} {d:D} {v:Value} {b:Bool},DRel (Fb N M) w d v->ay N M w (.data (NT ok d b)) (if ok then .tuple #[v,.bool b]else v):=by
    intro N M w d v b hd
    cases ok with
    |true=>
     refine .data _ _ (.tuple _ _ (by simp) λi e he=>?_)
     match i with
     | 0=>simp at he;subst he;simpa using hd
     | 1=>simp at he;subst he;exact .val _
     |i+2=>simp at he
    |false=>exact .data _ _ hd
   have hold:∀(w:World) (t:TypeId) (v:Value),t=as->(Instr.typeAssert (.iface t v) xt as ok).run P w = .ok (if ok then .tuple #[v,.bool true]else v) w:=by
    rintro w t v rfl
    simp only[Instr.typeAssert,Sem.run_bind,run_underlying hu,Result.andThen_ok]
    cases dsc<;>first |exact absurd rfl (hni _) |simp
   have miss:∀(w:World) (t:TypeId) (v:Value) (zv:Value),t≠as->ok=true->(zeroValue as).run P w = .ok zv w->(Instr.typeAssert (.iface t v) xt as ok).run P w = .ok (.tuple #[zv,.bool false]) w:=by
    intro w t v zv hne hok hz
    subst hok
    simp only[Instr.typeAssert,Sem.run_bind,run_underlying hu,Result.andThen_ok]
    cases dsc<;>first |exact absurd rfl (hni _) |simp[hne,hz]
   have missN:∀(w:World) (zv:Value),ok=true->(zeroValue as).run P w = .ok zv w->(Instr.typeAssert .nilIface xt as ok).run P w = .ok (.tuple #[zv,.bool false]) w:=by
    intro w zv hok hz
    subst hok
    simp only[Instr.typeAssert,Sem.run_bind,run_underlying hu,Result.andThen_ok]
    cases dsc<;>first |exact absurd rfl (hni _) |simp[hz]
   have zrel:∀{F:aK} {w:World} {z:D} {zv:Value},DRel F w z zv->DRel F w (.tuple [z,.b false]) (.tuple #[zv,.bool false]):=by
    intro F w z zv hz
    refine .tuple _ _ (by simp) λi e he=>?_
    match i with
    | 0=>simp at he;subst he;simpa using hz
    | 1=>simp at he;subst he;exact .val _
    |i+2=>simp at he
   unfold vU at h
   split at h
   ·rename_i t v heq
    split at h
    ·rename_i hb
     refine fin h λN M w u hu'=>?_
     rw[heq]at hu'
     cases hu' with |iface _ _ u' hy=>exact⟨_,hold w _ _ (Nat.eq_of_beq_eq_true hb),pairA' hy⟩
    ·rename_i hb
     have hne:t≠as:=λe=>by subst e;simp at hb
     split at h
     ·rename_i z _ hz _
      obtain⟨zv,hzv⟩:=yB (P:=P) hT hz
      refine fin h λN M w u hu'=>?_
      rw[heq]at hu'
      cases hu' with |iface _ _ u' hy=>exact⟨_,miss w _ _ zv hne rfl (hzv N w).1,.data _ _ (zrel (hzv _ w).2)⟩
     ·exact h.elim
   ·rename_i t v heq
    split at h
    ·rename_i hb
     refine fin h λN M w u hu'=>?_
     rw[heq]at hu'
     cases hu' with |data _ _ hu'=>cases hu' with |iface _ _ u' hy=>exact⟨_,hold w _ _ (Nat.eq_of_beq_eq_true hb),pairD' hy⟩
    ·rename_i hb
     have hne:t≠as:=λe=>by subst e;simp at hb
     split at h
     ·rename_i z _ hz _
      obtain⟨zv,hzv⟩:=yB (P:=P) hT hz
      refine fin h λN M w u hu'=>?_
      rw[heq]at hu'
      cases hu' with |data _ _ hu'=>cases hu' with |iface _ _ u' hy=>exact⟨_,miss w _ _ zv hne rfl (hzv N w).1,.data _ _ (zrel (hzv _ w).2)⟩
     ·exact h.elim
   ·rename_i heq
    split at h
    ·rename_i z _ hz _
     obtain⟨zv,hzv⟩:=yB (P:=P) hT hz
     refine fin h λN M w u hu'=>?_
     rw[heq]at hu'
     cases hu' with |data _ _ hu'=>cases hu';exact⟨_,missN w zv rfl (hzv N w).1,.data _ _ (zrel (hzv _ w).2)⟩
    ·exact h.elim
   ·exact h.elim
  have hd:=(hT as).desc
  split at h
  ·exact h.elim
  ·exact h.elim
  ·rename_i hn1 hn2
   refine main ?_ h
   cases hty:(T.at as).ty<;>simp only[hty,FM]at hd hn1 hn2<;>first
    |exact⟨_,hd,by simp⟩
    |(obtain⟨_,hd,_⟩:=hd;exact⟨_,hd,by simp⟩)
    |(obtain⟨_,_,_,hd⟩:=hd;exact⟨_,hd,by simp⟩)
    |(exact(hn1 trivial).elim)
    |(exact(hn2 trivial).elim)
    |simp at hn1
    |simp at hn2
 ·rename_i src dst x ho
  have hop:x∈o.op.operands:=by rw[ho];simp[Op.operands]
  split at h
  ·rename_i ks k ks' n hs hd hx
   refine⟨_,.no,none,h,trivial,.inl ⟨rfl,rfl⟩,by simp only[fG,ho],by simp,by simp[Wr.ids],vS.pure λN M a w m h1 h2=>⟨.int k (k.wrap n),?_,.data _ _ (.val _)⟩⟩
   have:=E m h1 src x hop
   rw[hx]at this
   rw[oW ho,this.int]
   simp[convert,run_underlying (sH hT hs),run_underlying (sH hT hd),Conv.intToInt]
  ·rename_i s hs hd hx
   refine⟨_,.no,none,h,trivial,.inl ⟨rfl,rfl⟩,by simp only[fG,ho],by simp,by simp[Wr.ids],vS.pure λN M a w m h1 h2=>⟨a.eval x,?_,?_⟩⟩
   ·have:=E m h1 src x hop
    rw[hx]at this
    generalize hv:a.eval x=v at this ⊢
    cases this with |data _ _ h=>cases h with |str s=>
    rw[oW ho,hv]
    simp only[convert,Sem.run_bind,run_underlying (lV hT hs),run_underlying (lV hT hd),Result.andThen_ok]
    rfl
   ·have:=E m h1 src x hop
    rwa[hx]at this
  ·rename_i _ _ e hs hd
   split at h
   ·rename_i sz es he hel
    obtain⟨rfl,bs,rfl,h⟩:=h
    refine⟨_,.no,none,h,trivial,.inl ⟨rfl,rfl⟩,by simp only[fG,ho],by simp,by simp[Wr.ids],vS.pure λN M a w m h1 h2=>⟨.string ⟨bs.toArray⟩,?_,.data _ _ (.str bs)⟩⟩
    have hq:=E m h1 src x hop
    rw[oW ho,Sem.run_bind,QO hq hel (aG hT hs) (sH hT he) (lV hT hd)]
    rfl
   ·exact h.elim
  ·exact h.elim
 ·rename_i t l c ho
  split at h
  ·rename_i d e hd hty
   split at h
   ·rename_i k n k' mm hl hc
    split at h
    ·rename_i z0 z hk hz
     split at h
     ·rename_i ds hds
      split at h
      ·rename_i hb
       simp only[Bool.and_eq_true]at hb
       obtain⟨hb1,hb2,hb3,hb4⟩:=hb
       have hb1:=Nat.eq_of_beq_eq_true hb1
       have hb2:0<(T.at e).size:=by have:=Nat.le_of_ble_eq_true hb2;omega
       have hb3:0<(T.at e).bytes:=by have:=Nat.le_of_ble_eq_true hb3;omega
       obtain⟨⟨hn0,hnm,hfit⟩,h⟩:=h
       obtain⟨n',rfl⟩:=Int.eq_ofNat_of_zero_le hn0
       obtain⟨m',rfl⟩:=Int.eq_ofNat_of_zero_le (Int.le_trans hn0 hnm)
       have hnm:n'<=m':=by omega
       have hfit:m' * (T.at e).bytes<=140737488355328:=Int.ofNat_le.1 (by rw[Int.natCast_mul];exact hfit)
       have hm63:m'<=140737488355328:=by
        have:m' * 1<=m' * (T.at e).bytes:=Nat.mul_le_mul_left _ hb3
        omega
       have hzne:(T.at e).zero ≠ []:=by rw[hz];simp
       have hids:∀{N:aK} {M:Mem} {a:Act} {w:World},bI N M w->(∀j,Operand.tmp j∈o.op.operands->ay N M w (env.get j) (a.tmps.getD j undef)) ->
         ∃arr:Array Value,(execOp a.eval o).run P w = .ok (.value (.slice (some ⟨w.heap.size,0,none⟩) n' m')) (w.alloc (.cells arr e))/\arr.size=m' * (T.at e).size /\
         ∀(i j:Nat) q c,(List.replicate n' ds)[i]? = some q->q[j]? = some c->DRel (Fb N M) w c (arr.getD (i * (T.at e).size+j) undef)/\(arr.getD (i * (T.at e).size+j) undef).oneCell'=true:=by
        intro N M a w m h1
        have e1:=E m h1 0 l (by rw[ho];simp[Op.operands])
        have e2:=E m h1 0 c (by rw[ho];simp[Op.operands])
        rw[hl]at e1;rw[hc]at e2
        obtain⟨i,i1,i2,i3⟩:=yx hT (aW hk)
        obtain⟨zv,q1,q2,q3⟩:=kw hT hk hzne w
        rw[hz]at q2 q3
        have q2:zv.cells.size=(T.at e).size:=by rw[q2,hb1]
        refine⟨(Array.range (m' * (T.at e).size)).map λi=>zv.cells[i % zv.cells.size]!,?_,by simp,?_⟩
        ·rw[Bj ho,e1.int,e2.int]
         have w1:IntKind.i64.wrap (n':Int)=n':=wrap_ok' (by omega) (by omega)
         have w2:IntKind.i64.wrap (m':Int)=m':=wrap_ok' (by omega) (by omega)
         have c1:¬((m':Int)<0):=by omega
         have c2:¬((n':Int)<0):=by omega
         have c3:¬((n':Int)>(m':Int)):=by omega
         have c4:¬((i.bytes:Int) * (m':Int)>2 ^ 48):=by
          rw[i3,Int.mul_comm]
          have:((m':Int) * ((T.at e).bytes:Int))<=140737488355328:=by rw[<-Int.natCast_mul];exact Int.ofNat_le.2 hfit
          omega
         have c5:¬(m' * i.bytes>roomBytes):=by rw[i3];simp only[roomBytes];omega
         by_cases hz0:m' * (T.at e).size=0
         ·simp only[Instr.makeSlice,Sem.run_bind,run_underlying (aG hT hty),Result.andThen_ok,asInt,asIntOf,Sem.run_pure,typeInfo,run_program,i1,w1,w2,c1,c2,c3,c4,decide_false,Bool.or_false,Bool.false_eq_true,if_false,Int.toNat_natCast,askRoom,c5,run_sizeOf' hT (aW hk),hz0,if_true,newRow,run_newObj,World.alloc_eq]
          have e0:(Array.range 0).map (λi=>zv.cells[i % zv.cells.size]!)=(Array.range 0).map (λi=>(#[]:Array Value)[i % (#[]:Array Value).size]!):=by simp
          rw[e0]
         ·simp only[Instr.makeSlice,Sem.run_bind,run_underlying (aG hT hty),Result.andThen_ok,asInt,asIntOf,Sem.run_pure,typeInfo,run_program,i1,w1,w2,c1,c2,c3,c4,decide_false,Bool.or_false,Bool.false_eq_true,if_false,Int.toNat_natCast,askRoom,c5,run_sizeOf' hT (aW hk),hz0,q1,newRow,run_newObj,World.alloc_eq]
        ·intro i j q c hi hj
         have hi2:i<n'/\q=ds:=by
          rw[List.getElem?_replicate]at hi
          split at hi
          ·rename_i hlt;simp only[Option.some.injEq]at hi;exact⟨hlt,hi.symm⟩
          ·simp at hi
         obtain⟨hi2,rfl⟩:=hi2
         obtain⟨k1,k2⟩:=dV hds
         have hlen:q.length=(T.at e).size:=by rw[k1,hb1]
         have hjl:j<(T.at e).size:=by rw[<-hlen];exact(List.getElem?_eq_some_iff.1 hj).1
         have hlt:i * (T.at e).size+j<m' * (T.at e).size:=by
          have:(i+1) * (T.at e).size<=m' * (T.at e).size:=Nat.mul_le_mul_right _ (by omega)
          rw[Nat.add_mul,Nat.one_mul]at this;omega
         rw[bJ hlt,q2,Nat.mul_comm i,Nat.mul_add_mod,Nat.mod_eq_of_lt hjl,getElem!_pos zv.cells j (by rw[q2];exact hjl)]
         obtain⟨c',e1,e2⟩:=k2 _ c hj
         have hr:=(q3 N M w _ c' e1).1
         have hg:zv.cells.getD j undef=zv.cells[j]'(by rw[q2];exact hjl):=by simp[q2,hjl]
         rw[hg]at hr
         refine⟨hr.toD e2,?_⟩
         have hd:=List.all_eq_true.1 hb4 c (List.mem_of_getElem? hj)
         exact fM (x:=.data c) (.data _ _ (hr.toD e2)) hd
       have hrl:(List.replicate n' ds).length=n':=by simp
       have hel:∀q∈List.replicate n' ds,q.length=(T.at e).size:=by
        intro q hq
        rw[List.eq_of_mem_replicate hq,(dV hds).1,hb1]
       have hmax:m'<=maxLen:=by simp[maxLen];omega
       rcases h.out with h |h
       ·obtain⟨⟨hf0,hf1,hf2⟩,h⟩:=eP h
        refine⟨_,.new d,some (d,.tok (T.at e).size n'),h,⟨hf0,hf1,hf2⟩,.inr ⟨_,_,rfl,rfl⟩,by simp only[fG,ho],by simp[eY,ho,hd],by simp[wids,ho,hd,Wr.ids],λN M a w m h1 h2 next' Q hn=>?_⟩
        obtain⟨arr,r1,r2,r3⟩:=hids m h1
        exact KO (w1:=w) (cap:=m') (sz:=(T.at e).size) (arr:=arr) (t:=e) (es:=List.replicate n' ds) (Step.refl M w) r1 hn m hrl.symm hnm hmax r2 hel r3
       ·split at h
        ·obtain⟨⟨hf0,hf1,hf2⟩,hs1,h⟩:=eP h
         refine⟨_,.new d,some (d,.mat n' []),h,⟨hf0,hf1,hf2⟩,.inr ⟨_,_,rfl,rfl⟩,by simp only[fG,ho],by simp[eY,ho,hd],by simp[wids,ho,hd,Wr.ids],λN M a w m h1 h2 next' Q hn=>?_⟩
         obtain⟨arr,r1,r2,r3⟩:=hids m h1
         exact Vf (arr:=arr) (t:=e) r1 hn hnm (by rw[r2,hs1];omega)
        ·obtain⟨⟨hf0,hf1,hf2⟩,h⟩:=eP h
         refine⟨_,.new d,some (d,.arr 0 (T.at e).size (List.replicate n' ds)),h,⟨hf0,hf1,hf2⟩,.inr ⟨_,_,rfl,rfl⟩,by simp only[fG,ho],by simp[eY,ho,hd],by simp[wids,ho,hd,Wr.ids],λN M a w m h1 h2 next' Q hn=>?_⟩
         obtain⟨arr,r1,r2,r3⟩:=hids m h1
         exact uB (w1:=w) (cap:=m') (vr:=0) (sz:=(T.at e).size) (arr:=arr) (t:=e) (Step.refl M w) (.inl rfl) r1 hn hrl.symm hnm hmax r2 hel (λe=>by cases e) r3
      ·exact h.elim
     ·exact h.elim
    ·exact h.elim
   ·exact h.elim
  ·exact h.elim
 ·exact h.elim
end
end Go.Fw
namespace Go.Fw
variable [ae]
def iO(T:Tbl)(env:Env)(c:Call):List AV:=c.args.toList.zipIdx.map λx=>ev T env (c.argTypes.getD x.2 0) x.1
theorem KR{N:aK}{M:Mem}{w:World}(m:bI N M w){T:Tbl}{env:Env}{a:Act}{c:Call}(h:∀x∈c.args.toList,∀j,x = .tmp j->ay N M w (env.get j) (a.tmps.getD j undef)) :
  (c.args.map a.eval).size=(iO T env c).length/\∀(i:Nat) x,(iO T env c)[i]? = some x->ay N M w x ((c.args.map a.eval).getD i undef):=by
 refine⟨by simp[iO],λi x hx=>?_⟩
 simp only[iO,List.getElem?_map,Option.map_eq_some_iff]at hx
 obtain⟨y,hy,rfl⟩:=hx
 rw[List.getElem?_zipIdx]at hy
 simp only[Option.map_eq_some_iff]at hy
 obtain⟨z,hz,rfl⟩:=hy
 have:(c.args.map a.eval).getD i undef=a.eval z:=by
  simp only[Array.getD_eq_getD_getElem?,Array.getElem?_map]
  rw[Array.getElem?_toList]at hz
  simp[hz]
 rw[this]
 exact dh m _ z λj e=>h z (List.mem_of_getElem? hz) j e
theorem Oh{ρ:Operand->Value}{o:Oper}{c:Call}{f:Operand}{fid:FuncId}{first caps:Array Value}(ho:o.op = .call c)(hc:c.callee = .value f)(hf:ρ f = .func (.func fid) first caps) :
  execOp ρ o=callFunc fid (first++c.args.map ρ++caps):=by
 rw[jE ho];cases c;simp only at hc;subst hc
 simp only[resolve,hf,Deferred.ofValue]
 show callFunc fid (first++_++caps)=_
 simp
theorem Oi{ρ:Operand->Value}{o:Oper}{c:Call}{f:Operand}{l:Nat}(ho:o.op = .call c)(hc:c.callee = .value f)(hf:ρ f = .func (.yield l) #[] #[]) :
  execOp ρ o=Instr.yield l (c.args.map ρ):=by
 rw[jE ho];cases c;simp only at hc;subst hc
 simp only[resolve,hf,Deferred.ofValue]
 show Instr.yield l (#[]++_)=_
 simp
theorem lI{P:Program}{f:FuncId}(h:lH P f)(args:Array Value)(w:World):(callFunc f args).run P w = .ok (.enter f args) w:=by
 obtain⟨fn,h1,h2,h3⟩:=h
 simp only[callFunc,Sem.run_bind,run_program,Result.andThen_ok,h1,h2,h3,Bool.false_eq_true,if_false,Sem.run_pure]
section
variable {P : Program} {T : Tbl} (hT : gY P T)
theorem wB{o:Oper}{c:Call}(ho:o.op = .call c){f:Operand}(hc:c.callee = .value f):f∈o.op.operands/\∀x∈c.args.toList,x∈o.op.operands:=by
 rw[ho]
 simp only[Op.operands,Call.operands,hc,Array.mem_append]
 exact⟨.inl (by simp),λx hx=>.inr (by simpa using hx)⟩
theorem yC{o:Oper}{c:Call}(ho:o.op = .call c):∀x∈c.args.toList,x∈o.op.operands:=by
 rw[ho]
 intro x hx
 simp only[Op.operands,Call.operands,Array.mem_append]
 exact .inr (by simpa using hx)
def zl(x:AV)(fid:FuncId)(pre caps:List AV):Prop:=(x = .fn fid caps/\pre = [])\/(∃ds,x = .data (.fn fid ds)/\caps=ds.map .data/\pre = [])\/(x = .bnd fid pre/\caps = [])
theorem Oj{N:aK}{M:Mem}{w:World}{x:AV}{v:Value}{fid:FuncId}{pre caps:List AV}(h:zl x fid pre caps)(hr:ay N M w x v):∃us vs:Array Value,v = .func (.func fid) us vs/\us.size=pre.length/\(∀(i:Nat) c,pre[i]? = some c->ay N M w c (us.getD i undef))/\vs.size=caps.length/\∀(i:Nat) c,caps[i]? = some c->ay N M w c (vs.getD i undef):=by
 rcases h with⟨rfl,rfl⟩ |⟨ds,rfl,rfl,rfl⟩ |⟨rfl,rfl⟩
 rotate_left 2
 ·cases hr with |bnd _ _ us hl hh=>exact⟨us,#[],rfl,hl,hh,rfl,λi c hc=>by simp at hc⟩
 ·cases hr with |fn _ _ vs hl hh=>exact⟨#[],vs,rfl,rfl,λi c hc=>by simp at hc,hl,hh⟩
 ·cases hr with
  |data _ _ hr=>cases hr with
   | fn _ _ vs hl hh=>exact⟨#[],vs,rfl,rfl,λi c hc=>by simp at hc,by simp[hl],λi c hc=>by
     simp only[List.getElem?_map,Option.map_eq_some_iff]at hc
     obtain⟨d,hd,rfl⟩:=hc
     exact .data _ _ (hh i d hd)⟩
theorem wF{o:Oper}{c:Call}{f:Operand}{fid:FuncId}{pre caps:List AV}{env:Env}(ho:o.op = .call c)(hc:c.callee = .value f)(hf:zl (ev T env 0 f) fid pre caps){N:aK}{M:Mem}{a:Act}{w:World}(m:bI N M w)
  (h1:∀j,Operand.tmp j∈o.op.operands->ay N M w (env.get j) (a.tmps.getD j undef)) :
  ∃args,execOp a.eval o=callFunc fid args/\args.size=(pre++iO T env c++caps).length/\∀(i:Nat) x,(pre++iO T env c++caps)[i]? = some x->ay N M w x (args.getD i undef):=by
 obtain⟨hm1,hm2⟩:=wB ho hc
 have hfr:ay N M w (ev T env 0 f) (a.eval f):=dh m 0 f λj e=>h1 j (e ▸ hm1)
 obtain⟨a1,a2⟩:=KR m (T:=T) (env:=env) (a:=a) (N:=N) (M:=M) (w:=w) (c:=c) λx hx j e=>h1 j (e ▸ hm2 x hx)
 obtain⟨us,vs,hvf,hl0,hh0,hl,hh⟩:=Oj hf hfr
 refine⟨_,Oh ho hc hvf,by rw[Array.size_append,Array.size_append,a1,hl,hl0,List.length_append,List.length_append],λi x hx=>?_⟩
 rw[List.getElem?_append]at hx
 simp only[Array.getD_eq_getD_getElem?,Array.getElem?_append,Array.size_append,a1,hl0]
 rw[List.length_append]at hx
 split at hx
 ·rename_i hlt
  rw[if_pos hlt]
  rw[List.getElem?_append]at hx
  split at hx
  ·rename_i hlt2
   rw[if_pos hlt2]
   have:=hh0 i x hx
   rwa[Array.getD_eq_getD_getElem?]at this
  ·rename_i hlt2
   rw[if_neg hlt2]
   have:=a2 _ x hx
   rwa[Array.getD_eq_getD_getElem?]at this
 ·rename_i hlt
  rw[if_neg hlt]
  have:=hh _ x hx
  rwa[Array.getD_eq_getD_getElem?]at this
theorem zn{o:Oper}{c:Call}{f:Operand}{fid:FuncId}{pre caps:List AV}{env:Env}(ho:o.op = .call c)(hc:c.callee = .value f)(hf:zl (ev T env 0 f) fid pre caps){N:aK}{M:Mem}{a:Act}{w:World}(m:bI N M w)
  (h1:∀j,Operand.tmp j∈o.op.operands->ay N M w (env.get j) (a.tmps.getD j undef)) (hfn:lH P fid) :
  ∃args,(execOp a.eval o).run P w = .ok (.enter fid args) w/\args.size=(pre++iO T env c++caps).length/\∀(i:Nat) x,(pre++iO T env c++caps)[i]? = some x->ay N M w x (args.getD i undef):=by
 obtain⟨args,r1,r2⟩:=wF ho hc hf m h1
 exact⟨args,by rw[r1,lI hfn],r2⟩
theorem Vl{o:Oper}{c:Call}{f:Operand}{fid:FuncId}{pre caps:List AV}{ds:List D}{out:oz}{env:Env}{K:Heap}(ho:o.op = .call c)(hc:c.callee = .value f)(hf:zl (ev T env 0 f) fid pre caps)
  (hds:AV.allD (pre++iO T env c++caps)=some ds) (hp:aj P fid ds out) :
  match out with | .ret d=>DX P o env K false (.data d) [] [] [] | .pan d=>DX P o env K true (.data d) [] [] []:=by
 rcases hp with⟨hfn,hp⟩ |⟨d,rfl,hp⟩
 rotate_left
 ·intro N M a w m h1 h2 next Q hn
  obtain⟨args,r1,r2,r3⟩:=wF ho hc hf m h1
  obtain⟨k1,k2⟩:=dV hds
  obtain⟨v,e1,e2⟩:=hp (Fb N M) w args m.flat (by omega) λi d hd=>by
   obtain⟨x,e1,e2⟩:=k2 i d hd
   exact(r3 i x e1).toD e2
  refine .inl ?_
  simp only[Oper.wp,r1,e1,Oper.upon_value]
  exact hn v M w (Step.refl M w) (by simp) (.data _ _ e2) (by simp[Heap.get])
 have key:∀(N:aK) (M:Mem) (a:Act) (w:World),bI N M w->(∀j,Operand.tmp j∈o.op.operands->ay N M w (env.get j) (a.tmps.getD j undef)) ->
   ∃args,(execOp a.eval o).run P w = .ok (.enter fid args) w/\Calls P fid args w λe w'=>Step xK w xK w' []/\out.rel (Fb N M) w' e:=by
  intro N M a w m h1
  obtain⟨args,r1,r2,r3⟩:=zn (P:=P) ho hc hf m h1 hfn
  obtain⟨k1,k2⟩:=dV hds
  refine⟨args,r1,hp (Fb N M) w _ m.flat (by omega) ?_⟩
  ·intro i d hd
   obtain⟨x,e1,e2⟩:=k2 i d hd
   exact(r3 i x e1).toD e2
 cases out with
 |ret d=>
  intro N M a w m h1 h2 next Q hn
  obtain⟨args,r1,r2⟩:=key N M a w m h1
  refine .inl ?_
  simp only[Oper.wp,r1,Oper.upon_enter]
  refine r2.mono λe w'=>?_
  rintro⟨s,v,rfl,hv⟩
  exact hn v M w' (s.of_mem0 M) (by simp) (.data _ _ hv) (by simp[Heap.get])
 |pan d=>
  intro N M a w m h1 h2 next Q hn
  obtain⟨args,r1,r2⟩:=key N M a w m h1
  refine .inl ?_
  simp only[Oper.wp,r1,Oper.upon_enter]
  refine r2.mono λe w'=>?_
  rintro⟨s,v,rfl,hv⟩
  exact hn v M w' (s.of_mem0 M) (by simp) (.data _ _ hv) (by simp[Heap.get])
def LentRes(P:Program)(o:Oper)(env:Env)(K:Heap)(ρ:List (Nat×Nat))(K0 K1:Heap):gp->Prop
 | .ret x=>DX P o env K false (x.ren ρ) (aI ρ (keys K1)) (aI ρ (minus (keys K1) (keys K0))) (cO ρ K1)
 | .pan x=>DX P o env K true (x.ren ρ) (aI ρ (keys K1)) (aI ρ (minus (keys K1) (keys K0))) (cO ρ K1)
theorem Vm{o:Oper}{c:Call}{f:Operand}{fid:FuncId}{pre caps as0:List AV}{K0 K1:Heap}{out:gp}{ρ:List (Nat×Nat)}{env:Env}{K:Heap}(ho:o.op = .call c)(hc:c.callee = .value f)(hf:zl (ev T env 0 f) fid pre caps)
  (hp:FQ P fid as0 K0 out K1) (has:AV.ren.go ρ as0=pre++iO T env c++caps) (hsub:Heap.sub ρ K K0) (hok:bG ρ K0 K1 out.av env K (fG env K o)=true) :
  LentRes P o env K ρ K0 K1 out:=by
 have key:∀(N:aK) (M:Mem) (a:Act) (w:World),bI N M w->(∀j,Operand.tmp j∈o.op.operands->ay N M w (env.get j) (a.tmps.getD j undef))->(∀id∈fG env K o,∀blk,K.get id=some blk->eF N M w id blk) ->
   ∃args,(execOp a.eval o).run P w = .ok (.enter fid args) w/\Calls P fid args w λe w'=>∃M',Step M w M' w' (aI ρ (keys K1))/\(∀id∈aI ρ (keys K1),id ∉ aI ρ (minus (keys K1) (keys K0))->Tr M M' id)/\(∀id blk,(cO ρ K1).get id=some blk->eF N M' w' id blk) /\
    (out.ren ρ).rel N M' w' e:=by
  intro N M a w m h1 h2
  obtain⟨args,r1,r2,r3⟩:=zn (P:=P) ho hc hf m h1 hp.1
  refine⟨args,r1,(ww (λh hr=>h.mono hr) hp.2 hsub hok m (by rw[r2,<-has,dA]) (by rw[has];exact r3) h2).mono λe w'=>?_⟩
  rintro⟨M',s,htr,hb,hr⟩
  refine⟨M',s,λid hid hn=>?_,hb,hr⟩
  obtain⟨i,hi,rfl⟩:=au.1 hid
  by_cases h0:i∈keys K0
  ·exact htr _ (au.2 ⟨i,h0,rfl⟩)
  ·exact absurd (au.2 ⟨i,iZ.2 ⟨hi,h0⟩,rfl⟩) hn
 cases out with
 |ret d=>
  intro N M a w m h1 h2 next Q hn
  obtain⟨args,r1,r2⟩:=key N M a w m h1 h2
  refine .inl ?_
  simp only[Oper.wp,r1,Oper.upon_enter]
  refine r2.mono λe w'=>?_
  rintro⟨M',s,htr,hb,v,rfl,hv⟩
  exact hn v M' w' s htr hv hb
 |pan d=>
  intro N M a w m h1 h2 next Q hn
  obtain⟨args,r1,r2⟩:=key N M a w m h1 h2
  refine .inl ?_
  simp only[Oper.wp,r1,Oper.upon_enter]
  refine r2.mono λe w'=>?_
  rintro⟨M',s,htr,hb,v,rfl,hv⟩
  exact hn v M' w' s htr hv hb
theorem QR{o:Oper}{c:Call}{f:Operand}{y:Nat}{as0:List AV}{K0 K1:Heap}{out:gp}{ρ:List (Nat×Nat)}{env:Env}{K:Heap}(ho:o.op = .call c)(hc:c.callee = .value f)(hf:ev T env 0 f = .yld y)
  (hp:I4 (Yields P) as0 K0 out K1) (has:AV.ren.go ρ as0 = .yld y::iO T env c) (hsub:Heap.sub ρ K K0) (hok:bG ρ K0 K1 out.av env K (fG env K o)=true) :
  LentRes P o env K ρ K0 K1 out:=by
 have key:∀(N:aK) (M:Mem) (a:Act) (w:World),bI N M w->(∀j,Operand.tmp j∈o.op.operands->ay N M w (env.get j) (a.tmps.getD j undef))->(∀id∈fG env K o,∀blk,K.get id=some blk->eF N M w id blk) ->
   ∃(l:Nat) (g:FuncId) (tmps:Array Value) (assign body:Code),(execOp a.eval o).run P w = .ok (.round l g tmps assign body) w/\RoundIn Fence.wide 0 P l g tmps assign body w λe w'=>∃M',Step M w M' w' (aI ρ (keys K1))/\(∀id∈aI ρ (keys K1),id ∉ aI ρ (minus (keys K1) (keys K0))->Tr M M' id)/\(∀id blk,(cO ρ K1).get id=some blk->eF N M' w' id blk) /\
    (out.ren ρ).rel N M' w' e:=by
  intro N M a w m h1 h2
  obtain⟨hm1,hm2⟩:=wB ho hc
  have hfr:ay N M w (ev T env 0 f) (a.eval f):=dh m 0 f λj e=>h1 j (e ▸ hm1)
  rw[hf]at hfr
  obtain⟨a1,a2⟩:=KR m (T:=T) (env:=env) (a:=a) (N:=N) (M:=M) (w:=w) (c:=c) λx hx j e=>h1 j (e ▸ hm2 x hx)
  obtain⟨l,hev⟩:∃l,a.eval f = .func (.yield l) #[] #[]:=by
   generalize a.eval f=v at hfr
   cases hfr with |yld _ l h=>exact⟨l,rfl⟩
  have hlen:as0.length=(iO T env c).length+1:=by rw[<-dA (ρ:=ρ),has];rfl
  have hy:=ww (C:=Yields P) (λh hr=>h.mono hr) hp hsub hok m (args:=#[a.eval f]++c.args.map a.eval) (by rw[Array.size_append,a1,hlen];simp;omega) (by
   rw[has]
   intro i x hx
   cases i with
   |zero=>
    simp only[List.getElem?_cons_zero,Option.some.injEq]at hx;subst hx
    have e:(#[a.eval f]++c.args.map a.eval).getD 0 undef=a.eval f:=by rw[Array.getD_eq_getD_getElem?,Array.getElem?_append];simp
    rw[e];exact hfr
   |succ i=>
    simp only[List.getElem?_cons_succ]at hx
    have e:(#[a.eval f]++c.args.map a.eval).getD (i+1) undef=(c.args.map a.eval).getD i undef:=by rw[Array.getD_eq_getD_getElem?,Array.getD_eq_getD_getElem?,Array.getElem?_append];simp
    rw[e];exact a2 i x hx) h2
  obtain⟨l',vs,e1,g,tmps,assign,body,e2,e3⟩:=hy
  rw[hev]at e1
  have e4:l=l'/\c.args.map a.eval=vs:=by
   have h0:=congrArg (λz:Array Value=>z.toList) e1
   simp only[Array.toList_append,List.cons_append,List.nil_append,List.cons.injEq]at h0
   refine⟨?_,Array.toList_inj.1 h0.2⟩
   have:=h0.1
   simpa using this
  obtain⟨rfl,rfl⟩:=e4
  refine⟨l,g,tmps,assign,body,by rw[Oi ho hc hev];exact e2,e3.mono λe w'=>?_⟩
  rintro⟨M',s,htr,hb,hr⟩
  refine⟨M',s,λid hid hn=>?_,hb,hr⟩
  obtain⟨i,hi,rfl⟩:=au.1 hid
  by_cases h0:i∈keys K0
  ·exact htr _ (au.2 ⟨i,h0,rfl⟩)
  ·exact absurd (au.2 ⟨i,iZ.2 ⟨hi,h0⟩,rfl⟩) hn
 cases out with
 |ret d=>
  intro N M a w m h1 h2 next Q hn
  obtain⟨l,g,tmps,assign,body,r1,r2⟩:=key N M a w m h1 h2
  refine .inr ⟨l,g,tmps,assign,body,r1,r2.mono λe w'=>?_⟩
  rintro⟨M',s,htr,hb,v,rfl,hv⟩
  exact hn v M' w' s htr hv hb
 |pan d=>
  intro N M a w m h1 h2 next Q hn
  obtain⟨l,g,tmps,assign,body,r1,r2⟩:=key N M a w m h1 h2
  refine .inr ⟨l,g,tmps,assign,body,r1,r2.mono λe w'=>?_⟩
  rintro⟨M',s,htr,hb,v,rfl,hv⟩
  exact hn v M' w' s htr hv hb
theorem yD{F F':aK}{w w':World}{d:D}{v:Value}(hd:d.flat=true)(h:DRel F w d v):DRel F' w' d v:=by
 have L:∀ds:List D,D.flat.go ds=true->∀d∈ds,D.flat d=true:=by
  intro ds
  induction ds with
  |nil=>intro _ d hd;simp at hd
  |cons x r ih=>
   intro h d hd
   simp only[D.flat.go]at h
   split at h
   ·rename_i hx
    rcases List.mem_cons.1 hd with rfl |hd
    ·exact hx
    ·exact ih h d hd
   ·simp at h
 induction h with
 |val v=>exact .val v
 |str s=>exact .str s
 |iface t d v h ih=>exact .iface _ _ _ (ih (by simpa[D.flat]using hd))
 |tuple ds vs hl hh ih=>exact .tuple _ _ hl λi d he=>ih i d he (L ds (by simpa[D.flat]using hd) d (List.mem_of_getElem? he))
 |agg ds vs hl hh ih=>exact .agg _ _ hl λi d he=>ih i d he (L ds (by simpa[D.flat]using hd) d (List.mem_of_getElem? he))
 |_=>simp[D.flat]at hd
def FX(R:List Nat)(N:aK)(M:Mem):aK:=λb o=>N b o\/∃id ow,M id=some ow/\ow.has b o/\id ∉ R
theorem yE{R:List Nat}{N:aK}{M:Mem}(b o:Nat)(h:FX R N M b o):Fb N M b o:=by
 rcases h with h |⟨id,ow,h1,h2,_⟩
 ·exact .inl h
 ·exact .inr ⟨id,ow,h1,h2⟩
theorem KT{R:List Nat}{N:aK}{M:Mem}{w:World}(m:bI N M w):bI (FX R N M) xK w:=by
 refine⟨by simp[xK],by simp[xK],?_,λg cs h=>⟨λo ho=>.inl ((m.glob g cs h).1 o ho),(m.glob g cs h).2.1,λj v hj=>⟨?_,((m.glob g cs h).2.2 j v hj).2⟩⟩⟩
 ·intro b x h
  rcases yE b x h with hN |⟨id,ow,e1,e2⟩
  ·exact m.foes b x hN
  ·exact(m.dom id ow b x e1 e2).1
 ·intro hq
  rcases yE _ _ hq with hN |⟨id,ow,e1,e2⟩
  ·exact((m.glob g cs h).2.2 j v hj).1 hN
  ·exact m.globFree h hj e1 e2
theorem xN{K:Heap}:∀{as:List AV} {ds:List D},qg K as=some ds->ds.length=as.length/\∀(i:Nat) d,ds[i]? = some d->∃x,as[i]? = some x/\DR K x=some d
 | [],ds,h=>by simp[qg]at h;subst h;simp
 |v::r,ds,h=>by
  simp only[qg]at h
  split at h
  ·rename_i d hd
   split at h
   ·rename_i ds' hds
    simp only[Option.some.injEq]at h;subst h
    obtain⟨k1,k2⟩:=xN hds
    refine⟨by simp[k1],λi e he=>?_⟩
    cases i with
    |zero=>simp at he;subst he;exact⟨v,rfl,hd⟩
    |succ i=>simpa using k2 i e (by simpa using he)
   ·simp at h
  ·simp at h
theorem Cc{x:AV}{id:Nat}:∀{as:List AV},x∈as->id∈mr [x]->id∈mr as
 |y::r,h,hi=>by
  rcases List.mem_cons.1 h with rfl |h
  ·cases x<;>simp[mr]at hi ⊢ <;> simp[hi]
  ·have:=Cc h hi
   cases y<;>simp[mr,this]
theorem Ce{x:AV}{id:Nat}:∀{cs:List AV},x∈cs->id∈ul [x]->id∈ul cs
 |y::r,h,hi=>by
  rcases List.mem_cons.1 h with rfl |h
  ·cases x<;>simp[ul]at hi ⊢ <;> simp[hi]
  ·have:=Ce h hi
   cases y<;>simp[ul,this]
theorem FY{K:Heap}{v:AV}{p:Prop}(h:lenOk K v p):lenOk K v True/\p:=by
 cases v with
 |own id vr sz off len=>
  revert h
  simp only[lenOk]
  cases K.get id with
  |none=>exact False.elim
  |some b=>cases b<;>first |exact λh=>⟨⟨h.1,trivial⟩,h.2⟩ |exact False.elim
 |_=>exact⟨trivial,h⟩
theorem Cf{K:Heap}:∀{l:List AV} {p:Prop},BO K l p->(∀v∈l,lenOk K v True)/\p
 | [],_,h=>⟨by simp,h⟩
 |v::r,p,h=>by
  obtain⟨h1,h2⟩:=FY (show lenOk K v (BO K r p)from h)
  obtain⟨h3,h4⟩:=Cf h2
  exact⟨λx hx=>by rcases List.mem_cons.1 hx with rfl |hx;exact h1;exact h3 x hx,h4⟩
def KU(K:Heap)(v:AV):Prop:=match v with | .agg cs=>∀c∈cs,lenOk K c True |v=>lenOk K v True
theorem zo{K:Heap}:∀{l:List AV} {p:Prop},rZ K l p->(∀v∈l,KU K v)/\p
 | [],_,h=>⟨by simp,h⟩
 |v::r,p,h=>by
  have:KU K v/\rZ K r p:=by
   cases v
   case agg cs=>exact Cf h
   all_goals exact FY h
  obtain⟨h3,h4⟩:=zo this.2
  exact⟨λx hx=>by rcases List.mem_cons.1 hx with rfl |hx;exact this.1;exact h3 x hx,h4⟩
theorem uH{K:Heap}:∀{as:List AV} {ds:List D},oL K as=some ds->ds.length=as.length/\∀(i:Nat) d,ds[i]? = some d->∃x,as[i]? = some x/\uk K x=some d
 | [],ds,h=>by simp[oL]at h;subst h;simp
 |v::r,ds,h=>by
  simp only[oL]at h
  split at h
  ·rename_i d hd
   split at h
   ·rename_i ds' hds
    simp only[Option.some.injEq]at h;subst h
    obtain⟨k1,k2⟩:=uH hds
    refine⟨by simp[k1],λi e he=>?_⟩
    cases i with
    |zero=>simp at he;subst he;exact⟨v,rfl,hd⟩
    |succ i=>simpa using k2 i e (by simpa using he)
   ·simp at h
  ·simp at h
theorem xO{K:Heap}{R:List Nat}{N:aK}{M:Mem}{w:World}(m:bI N M w)(hb:∀id∈R,∀blk,K.get id=some blk->eF N M w id blk){x:AV}{d:D}{v:Value}(hx:uk K x=some d)(hp:∀id∈ul [x],id∈R)(hl:lenOk K x True)(hr:ay N M w x v):DRel (FX R N M) w d v:=by
 have less:∀{d:D} {v:Value},DRel (Fb N M) w d v->DRel (FX R N M) w d v:=λh=>h.keep (dU.less λb o h=>yE b o h)
 unfold uk at hx
 split at hx
 ·rename_i id vr sz off len
  split at hx
  ·rename_i vr' sz' es hK
   ·simp only[Option.some.injEq]at hx;subst hx
    have hid:id∈R:=hp id (by simp[ul])
    simp only[lenOk,hK]at hl
    obtain⟨⟨⟨rfl,hs⟩,hl⟩,_⟩:=hl
    have hs:=hs.symm
    subst hs
    have hll:((es.drop off).take len).length=len:=by simp;omega
    cases hr with
    |own _ _ _ _ _ av cap ha ha'=>
     rcases hb id hid _ hK with⟨b,arr,t,hM,hrow,hle,hsz,hcell⟩ |⟨hM,he0⟩
     ·obtain⟨p1,p2,p3,arr2,t2,p4,p5⟩:=(ha b _ hM).2 rfl
      by_cases h0:len=0
      ·subst h0
       rw[List.take_zero]
       exact .sl0 _ _ _ p2
      ·obtain rfl:=p3 (by omega)
       have hmul:(off+len) * sz<=es.length * sz:=Nat.mul_le_mul_right _ hl
       rw[Nat.add_mul]at hmul
       have key:∀i j e d,((es.drop off).take len)[i]? = some e->e[j]? = some d->off * sz+i * sz+j<arr.size/\DRel (Fb N M) w d (arr.getD (off * sz+i * sz+j) undef)/\(arr.getD (off * sz+i * sz+j) undef).oneCell'=true:=by
        intro i j e d he hd
        rw[List.getElem?_take]at he
        split at he
        ·rename_i hlt
         rw[List.getElem?_drop]at he
         have h1:=hcell (off+i) j e d he hd
         have h2:=og hsz he hd
         rw[Nat.add_mul]at h1 h2
         exact⟨by omega,h1⟩
        ·simp at he
       refine .sl _ _ b (off * sz) cap len (λi j=>arr.getD (off * sz+i * sz+j) undef) hll.symm p1 p2 (λe he=>hsz e (List.mem_of_mem_drop (List.mem_of_mem_take he))) (λi j e d he hd=>?_) λi j e d he hd=>less (key i j e d he hd).2.1
       obtain⟨h1,h2,h3⟩:=key i j e d he hd
       refine⟨?_,by rw[bY hrow,bM undef h1],h3⟩
       rintro(hN |⟨id',ow',q1,q2,q3⟩)
       ·exact(m.dom id _ b _ hM (by simp[Own.has])).2 hN
       ·exact m.disj id id' _ ow' b _ (λe=>q3 (e ▸ hid)) hM q1 (by simp[Own.has]) q2
     ·subst he0
      obtain⟨hz0,_,hz1⟩:=(ha' _ hM).2 rfl
      subst hz0 hz1
      rw[List.take_zero]
      exact .sl0 _ _ _ (Nat.zero_le _)
  ·simp at hx
 ·exact less (hr.toD hx)
theorem I9{K:Heap}{R:List Nat}{N:aK}{M:Mem}{w:World}(m:bI N M w)(hb:∀id∈R,∀blk,K.get id=some blk->eF N M w id blk){x:AV}{d:D}{v:Value}(hx:DR K x=some d)(hp:∀id∈mr [x],id∈R)(hl:KU K x)(hr:ay N M w x v):DRel (FX R N M) w d v:=by
 have less:∀{d:D} {v:Value},DRel (Fb N M) w d v->DRel (FX R N M) w d v:=λh=>h.keep (dU.less λb o h=>yE b o h)
 unfold DR at hx
 split at hx
 ·rename_i id off
  split at hx
  ·rename_i cs hK
   split at hx
   ·rename_i ds hds
    split at hx
    ·rename_i hsc
     simp only[Option.some.injEq]at hx;subst hx
     have hid:=hp id (by simp[mr])
     obtain⟨b,arr,t,e1,e2,e3,e4⟩:=hb id hid _ hK
     cases hr with
     |ptr _ _ a ha=>
      rw[ha b e1]
      obtain⟨k1,k2⟩:=dV hds
      have key:∀j d,ds[j]? = some d->off+j<arr.size/\DRel (Fb N M) w d (arr.getD (off+j) undef):=by
       intro j d hj
       obtain⟨c,q1,q2⟩:=k2 j d hj
       rw[List.getElem?_drop]at q1
       have:=(List.getElem?_eq_some_iff.1 q1).1
       exact⟨by omega,(e4 _ c q1).toD q2⟩
      refine .ptr ds b off (λj=>arr.getD (off+j) undef) (λj d hj=>?_) (λj d hj=>less (key j d hj).2)
      obtain⟨h1,h2⟩:=key j d hj
      refine⟨?_,by rw[bY e2,bM undef h1],?_⟩
      ·rintro(hN |⟨id',ow',p1,p2,p3⟩)
       ·exact(m.dom id _ b (off+j) e1 (by simp[Own.has])).2 hN
       ·refine m.disj id id' _ ow' b (off+j) (λe=>p3 (e ▸ hid)) e1 p1 (by simp[Own.has]) p2
      ·exact fM (x:=.data d) (.data _ _ h2) (List.all_eq_true.1 hsc d (List.mem_of_getElem? hj))
    ·simp at hx
   ·simp at hx
  ·simp at hx
 ·rename_i cs
  split at hx
  ·rename_i ds hds
   simp only[Option.some.injEq]at hx;subst hx
   obtain⟨k1,k2⟩:=uH hds
   cases hr with
   |agg _ vs hlen hh=>
    refine .agg _ _ (by omega) λi d hd=>?_
    obtain⟨c,q1,q2⟩:=k2 i d hd
    exact xO m hb q2 (λid h=>hp id (by simp only[mr,List.append_nil];exact Ce (List.mem_of_getElem? q1) h)) (hl c (List.mem_of_getElem? q1)) (hh i c q1)
  ·simp at hx
 ·rename_i hna
  refine xO m hb hx (λid h=>hp id ?_) ?_ hr
  ·cases x<;>first |exact absurd h List.not_mem_nil |exact h
  ·cases x with
   |agg cs=>exact(hna cs rfl).elim
   |_=>exact hl
theorem KW{o:Oper}{c:Call}{f:Operand}{fid:FuncId}{pre caps:List AV}{ds:List D}{out:oz}{env:Env}{K:Heap}(ho:o.op = .call c)(hc:c.callee = .value f)(hf:zl (ev T env 0 f) fid pre caps)
  (hin:allIn (fG env K o) (mr (pre++iO T env c++caps))=true) (hlen:∀v∈pre++iO T env c++caps,KU K v) (hds:qg K (pre++iO T env c++caps)=some ds) (hp:aj P fid ds out) (hfl:(match out with | .ret d=>d | .pan d=>d).flat=true) :
  match out with | .ret d=>DX P o env K false (.data d) [] [] [] | .pan d=>DX P o env K true (.data d) [] [] []:=by
 have hin:=bu.1 hin
 have args:∀(N:aK) (M:Mem) (a:Act) (w:World),bI N M w->(∀id∈fG env K o,∀blk,K.get id=some blk->eF N M w id blk)->∀args:Array Value,args.size=(pre++iO T env c++caps).length->(∀(i:Nat) x,(pre++iO T env c++caps)[i]? = some x->ay N M w x (args.getD i undef)) ->
   args.size=ds.length/\∀(i:Nat) d,ds[i]? = some d->DRel (FX (fG env K o) N M) w d (args.getD i undef):=by
  intro N M a w m h2 args r2 r3
  obtain⟨k1,k2⟩:=xN hds
  refine⟨by omega,λi d hd=>?_⟩
  obtain⟨x,e1,e2⟩:=k2 i d hd
  exact I9 m h2 e2 (λid hid=>hin id (Cc (List.mem_of_getElem? e1) hid)) (hlen x (List.mem_of_getElem? e1)) (r3 i x e1)
 rcases hp with⟨hfn,hp⟩ |⟨d,rfl,hp⟩
 rotate_left
 ·intro N M a w m h1 h2 next Q hn
  obtain⟨as,r1,r2,r3⟩:=wF ho hc hf m h1
  obtain⟨k1,k2⟩:=args N M a w m h2 as r2 r3
  obtain⟨v,e1,e2⟩:=hp _ w as (KT m) k1 k2
  refine .inl ?_
  simp only[Oper.wp,r1,e1,Oper.upon_value]
  exact hn v M w (Step.refl M w) (by simp) (.data _ _ (yD hfl e2)) (by simp[Heap.get])
 have key:∀(N:aK) (M:Mem) (a:Act) (w:World),bI N M w->(∀j,Operand.tmp j∈o.op.operands->ay N M w (env.get j) (a.tmps.getD j undef))->(∀id∈fG env K o,∀blk,K.get id=some blk->eF N M w id blk) ->
   ∃args,(execOp a.eval o).run P w = .ok (.enter fid args) w/\Calls P fid args w λe w'=>Step xK w xK w' []/\out.rel (FX (fG env K o) N M) w' e:=by
  intro N M a w m h1 h2
  obtain⟨as,r1,r2,r3⟩:=zn (P:=P) ho hc hf m h1 hfn
  obtain⟨k1,k2⟩:=args N M a w m h2 as r2 r3
  exact⟨as,r1,hp _ w as (KT m) k1 k2⟩
 cases out with
 |ret d=>
  intro N M a w m h1 h2 next Q hn
  obtain⟨args,r1,r2⟩:=key N M a w m h1 h2
  refine .inl ?_
  simp only[Oper.wp,r1,Oper.upon_enter]
  refine r2.mono λe w'=>?_
  rintro⟨s,v,rfl,hv⟩
  exact hn v M w' (s.of_mem0 M) (by simp) (.data _ _ (yD hfl hv)) (by simp[Heap.get])
 |pan d=>
  intro N M a w m h1 h2 next Q hn
  obtain⟨args,r1,r2⟩:=key N M a w m h1 h2
  refine .inl ?_
  simp only[Oper.wp,r1,Oper.upon_enter]
  refine r2.mono λe w'=>?_
  rintro⟨s,v,rfl,hv⟩
  exact hn v M w' (s.of_mem0 M) (by simp) (.data _ _ (yD hfl hv)) (by simp[Heap.get])
theorem Vo{ρ:Operand->Value}{o:Oper}{c:Call}(ho:o.op = .call c)(hc:c.callee = .builtin .len):execOp ρ o=(do pure (.value (<-Builtin.len_ c.argTypes o.type (c.args.map ρ)))):=by
 rw[jE ho];cases c;simp only at hc;subst hc;rfl
theorem Vp{ρ:Operand->Value}{o:Oper}{c:Call}(ho:o.op = .call c)(hc:c.callee = .builtin .max):execOp ρ o=(do pure (.value (<-Builtin.max_ c.argTypes o.type (c.args.map ρ)))):=by
 rw[jE ho];cases c;simp only at hc;subst hc;rfl
theorem Vq{ρ:Operand->Value}{o:Oper}{c:Call}(ho:o.op = .call c)(hc:c.callee = .builtin .min):execOp ρ o=(do pure (.value (<-Builtin.min_ c.argTypes o.type (c.args.map ρ)))):=by
 rw[jE ho];cases c;simp only at hc;subst hc;rfl
def z16(T:Tbl)(env:Env)(K K':Heap)(o:Oper):Wr->Prop
 | .no=>True
 | .new d=>d∈eY T env K K' o/\d∈wids T env K K' o
 | .st id | .tk id=>id∈wids T env K K' o
structure YM(P:Program)(T:Tbl)(o:Oper)(env:Env)(K:Heap)(pn:Bool)(r:AV)(W nw:List Nat)(Δ:Heap):Prop where
 fresh:∀d∈nw,bF d=false/\eG d env=false/\nZ d K=false
 dom:∀id,id∈W↔∃b,Δ.get id=some b
 sub:∀d∈nw,d∈W
 wids:∀id∈W,id∈wids T env K (uh K Δ) o
 nids:∀d∈nw,d∈eY T env K (uh K Δ) o
 eff:DX P o env K pn r W nw Δ
def gu(P:Program)(T:Tbl)(o:Oper)(env:Env)(K:Heap)(next pan:Next):Prop:=
 ∃pn r W nw Δ,(match pn with |true=>pan r (uh K Δ) |false=>next r (uh K Δ))/\YM P T o env K pn r W nw Δ
theorem gu.old{P:Program}{T:Tbl}{o:Oper}{env:Env}{K:Heap}{next pan:Next}(hr:fG env K o=iU env (tmpsOf o.op.operands.toList))
  (h:(∃r wr δ,next r (upd K δ)/\oQ env K wr/\WrD wr δ/\z16 T env K (upd K δ) o wr/\vS P o env K r wr δ)\/(∃p,pan p K/\YH P o env K p)):gu P T o env K next pan:=by
 rcases h with⟨r,wr,δ,h1,h2,h3,h4,h5⟩ |⟨p,h1,h2⟩
 ·refine⟨false,r,wr.ids,wr.nw,dl δ,by rw[IZ];exact h1,⟨?_,?_,?_,?_,?_,h5.eff hr⟩⟩
  ·intro d hd
   cases wr<;>simp[Wr.nw]at hd
   subst hd;exact h2
  ·intro id
   constructor
   ·intro hi;obtain⟨b,hb⟩:=h3.names id hi;exact⟨b,QK.2 hb⟩
   ·rintro⟨b,hb⟩;exact h3.back id b (QK.1 hb)
  ·intro d hd;cases wr<;>simp[Wr.nw]at hd ⊢;subst hd;simp[Wr.ids]
  ·intro id hi
   rw[IZ]
   cases wr<;>simp[Wr.ids]at hi<;>subst hi<;>first |exact h4.2 |exact h4
  ·intro d hd
   rw[IZ]
   cases wr<;>simp[Wr.nw]at hd
   subst hd;exact h4.1
 ·exact⟨true,p,[],[],[],h1,⟨by simp,by simp[Heap.get],by simp,by simp,by simp,h2.eff hr⟩⟩
theorem gu.val{P:Program}{T:Tbl}{o:Oper}{env:Env}{K:Heap}{next pan:Next}{r:AV}(hr:fG env K o=iU env (tmpsOf o.op.operands.toList))(h:next r K)
  (k:∀(N:aK) (M:Mem) (a:Act) (w:World),bI N M w->(∀j,Operand.tmp j∈o.op.operands->ay N M w (env.get j) (a.tmps.getD j undef))->(∀j,Operand.tmp j∈o.op.operands->Hk N M w K (env.get j)) ->
   ∃z,(execOp a.eval o).run P w = .ok (.value z) w/\ay N M w r z):gu P T o env K next pan:=
 .old hr (.inl ⟨r,.no,none,h,trivial,.inl ⟨rfl,rfl⟩,trivial,vS.pure k⟩)
theorem gu.val0{P:Program}{T:Tbl}{o:Oper}{env:Env}{K:Heap}{next pan:Next}{r:AV}(h:next r K)
  (k:∀(N:aK) (M:Mem) (a:Act) (w:World),bI N M w->(∀j,Operand.tmp j∈o.op.operands->ay N M w (env.get j) (a.tmps.getD j undef))->∃z,(execOp a.eval o).run P w = .ok (.value z) w/\ay N M w r z):gu P T o env K next pan:=by
 refine⟨false,_,[],[],[],h,⟨by simp,by simp[Heap.get],by simp,by simp,by simp,?_⟩⟩
 intro N M a w m h1 _ next' Q hn
 obtain⟨z,hz,hzr⟩:=k N M a w m h1
 refine .inl ?_
 unfold Oper.wp
 rw[hz]
 exact hn z M w (Step.refl M w) (by simp) hzr (by simp[Heap.get])
include hT
omit hT in
theorem Vr{sz off:Nat}{e ds:List D}(he:e.length=sz)(ho:off+ds.length<=sz):(z1s sz e off ds).length=sz:=by
 unfold z1s
 split
 ·rename_i h;exact Nat.eq_of_beq_eq_true h
 ·simp;omega
omit hT in
theorem Vs{sz off j:Nat}{e ds:List D}{d:D}(he:e.length=sz)(ho:off+ds.length<=sz)(h:(z1s sz e off ds)[j]? = some d) :
  (off<=j/\j<off+ds.length/\ds[j-off]? = some d)\/(¬(off<=j/\j<off+ds.length)/\e[j]? = some d):=by
 unfold z1s at h
 split at h
 ·rename_i hb
  have hb:=Nat.eq_of_beq_eq_true hb
  have hj:=(List.getElem?_eq_some_iff.1 h).1
  exact .inl ⟨by omega,by omega,by rw[show j-off=j by omega];exact h⟩
 ·rw[List.getElem?_append]at h
  simp only[List.length_take]at h
  split at h
  ·rename_i hlt
   rw[List.getElem?_take,if_pos (by omega)]at h
   exact .inr ⟨by omega,h⟩
  ·rename_i hge
   rw[List.getElem?_append]at h
   split at h
   ·rename_i hlt
    rw[show min off e.length=off by omega]at h hlt
    exact .inl ⟨by omega,by omega,h⟩
   ·rename_i hge2
    rw[List.getElem?_drop]at h
    rw[show off+ds.length+(j-min off e.length-ds.length)=j by omega]at h
    exact .inr ⟨by omega,h⟩
theorem QS{o:Oper}{t:TypeId}{x v:Operand}{env:Env}{K:Heap}{next:Next}(ho:o.op = .store t x v)(hnm:∀id i,ev T env 0 x ≠ .mptr id i)(h:xI T t (ev T env 0 x) (ev T env t v) K next) :
  ∃id blk,next (.data (.val undef)) (K.put id blk)/\id∈(ev T env 0 x).ids/\vS P o env K (.data (.val undef)) (.st id) (some (id,blk)):=by
 unfold xI at h
 split at h
 ·rename_i id off hx
  split at h
  ·rename_i cs hK
   split at h
   ·rename_i hb
    simp only[Bool.and_eq_true]at hb
    obtain⟨b1,b2,b3,b4⟩:=hb
    exact⟨id,_,h,by rw[hx];simp[AV.ids],QF hT ho hx hK b1 (Nat.eq_of_beq_eq_true b2) (Nat.le_of_ble_eq_true b3) b4⟩
   ·exact h.elim
  ·exact h.elim
 ·rename_i id vr sz' i off hx
  split at h
  ·rename_i vr2 sz es hK
   split at h
   ·rename_i ds hds
    obtain⟨hk,⟨rfl,rfl⟩,hl,hoff,hsc,e0,he0,h⟩:=h
    have hi:i<es.length:=(List.getElem?_eq_some_iff.1 he0).1
    refine⟨id,_,h,by rw[hx];simp[AV.ids],?_⟩
    intro N M a w m h1 h2 next' Q hn
    have hxr:ay N M w (ev T env 0 x) (a.eval x):=dh m 0 x λj e=>h1 j (by rw[ho,e];simp[Op.operands])
    have hvr:ay N M w (ev T env t v) (a.eval v):=dh m t v λj e=>h1 j (by rw[ho,e];simp[Op.operands])
    have hxk:Hk N M w K (ev T env 0 x):=qW 0 x λj e=>h2 j (by rw[ho,e];simp[Op.operands])
    rw[hx]at hxr hxk
    obtain⟨k1,k2⟩:=dV hds
    have hcel:(ev T env t v).celled=true:=by
     generalize ev T env t v=y at hds k1 k2
     cases y with
     |top=>simp[AV.cells,AV.allD,AV.toD?.go,AV.toD?]at hds
     |dfr _=>simp[AV.cells,AV.allD,AV.toD?.go,AV.toD?]at hds
     |data d=>
      cases d with
      |val u=>
       simp[AV.cells,AV.allD,AV.toD?.go,AV.toD?]at hds
       subst hds
       simpa[D.scalar,AV.celled]using hsc
      |_=>rfl
     |_=>rfl
    obtain⟨c1,c2⟩:=hvr.cellsOf hcel
    have hcd:∀(j:Nat) d,ds[j]? = some d->DRel (Fb N M) w d ((a.eval v).cells.getD j undef)/\((a.eval v).cells.getD j undef).oneCell'=true:=by
     intro j d hd
     obtain⟨c,e1,e2⟩:=k2 j d hd
     have:=(c2 j c e1).toD e2
     exact⟨this,fM (x:=.data d) (.data _ _ this) (List.all_eq_true.1 hsc d (List.mem_of_getElem? hd))⟩
    generalize hav:a.eval x=va at hxr
    cases hxr with
    |eptr _ _ _ _ _ ad ha=>
     obtain⟨b,arr,t',e1,e2,e3,e4,e5⟩:=(hxk id (by simp[AV.men]) _ hK).arrAt he0
     obtain rfl:=(ha b _ e1).2 rfl
     have hel:e0.length=sz':=e4 e0 (List.mem_of_getElem? he0)
     have hbd:(i+1) * sz'<=arr.size:=Nat.le_trans (Nat.mul_le_mul_right _ hi) e3
     rw[Nat.add_mul,Nat.one_mul]at hbd
     obtain⟨arr',r1,r2,r3⟩:=uz (P:=P) ho hav e2 (run_sizeOf' hT (aW hk) w) (by rw[c1,<-k1,hl]) (by omega) (λu hu=>by
      obtain⟨j,hj,rfl⟩:=List.mem_iff_getElem.1 hu
      simp only[Array.length_toList]at hj
      have:=(hcd j (ds[j]'(by omega)) (by simp)).2
      simpa[hj]using this)
     simp only[Oper.wp,r1,Oper.upon_skip]
     have hst:Step M w M (World.rewrite w b arr' t') [id]:=Step.rewrite e2 e1 r2 (λj hj=>by exact absurd rfl hj) ⟨0,rfl⟩ (λ_ _=>rfl) (λow' b' o' h hh=>by
      rw[e1]at h;simp only[Option.some.injEq]at h;subst h;exact⟨hh,hh⟩)
     refine hn _ _ _ hst rfl (.data _ _ (.val _)) ?_
     rintro id' blk e
     simp only[Option.some.injEq,Prod.mk.injEq]at e
     obtain⟨rfl,rfl⟩:=e
     have hkeep:∀{y u},DRel (Fb N M) w y u->DRel (Fb N M) (World.rewrite w b arr' t') y u:=λhy=>hy.keep hst.keeps
     refine⟨by simp[Wr.ids],.inl ⟨b,arr',t',e1,bQ ((Array.getElem?_eq_some_iff.1 e2).1),by rw[r2];simpa using e3,λe he=>?_,λi' j e d he hd=>?_⟩⟩
     ·rcases List.mem_or_eq_of_mem_set he with h |h
      ·exact e4 e h
      ·rw[h];exact Vr hel hoff
     ·rw[List.getElem?_set]at he
      split at he
      ·rename_i hii
       subst hii
       simp only[Option.some.injEq]at he;subst he
       rcases Vs hel hoff hd with⟨g1,g2,g3⟩ |⟨g1,g2⟩
       ·rw[r3,if_pos (by omega),show i * sz'+j-(i * sz'+off)=j-off by omega]
        obtain⟨p1,p2⟩:=hcd (j-off) d g3
        exact⟨hkeep p1,p2⟩
       ·rw[r3,if_neg (by omega)]
        obtain⟨p1,p2⟩:=e5 i j e0 d he0 g2
        exact⟨hkeep p1,p2⟩
      ·rename_i hii
       have hj:j<sz':=by rw[<-e4 e (List.mem_of_getElem? he)];exact(List.getElem?_eq_some_iff.1 hd).1
       have:¬(i * sz'+off<=i' * sz'+j/\i' * sz'+j<i * sz'+off+(T.at t).size):=by
        rintro⟨q1,q2⟩
        rcases Nat.lt_or_gt_of_ne hii with h |h
        ·have:(i+1) * sz'<=i' * sz':=Nat.mul_le_mul_right _ h
         rw[Nat.add_mul]at this;omega
        ·have:(i'+1) * sz'<=i * sz':=Nat.mul_le_mul_right _ h
         rw[Nat.add_mul]at this;omega
       rw[r3,if_neg this]
       obtain⟨p1,p2⟩:=e5 i' j e d he hd
       exact⟨hkeep p1,p2⟩
   ·exact h.elim
  ·exact h.elim
 ·rename_i id i k hx
  split at h
  ·rename_i n rows d hK hds
   obtain⟨⟨hk,hsz,hsc⟩,r,hr,hkr,h⟩:=h
   refine⟨id,_,h,by rw[hx];simp[AV.ids],?_⟩
   intro N M a w m h1 h2 next' Q hn
   have hxr:ay N M w (ev T env 0 x) (a.eval x):=dh m 0 x λj e=>h1 j (by rw[ho,e];simp[Op.operands])
   have hvr:ay N M w (ev T env t v) (a.eval v):=dh m t v λj e=>h1 j (by rw[ho,e];simp[Op.operands])
   have hxk:Hk N M w K (ev T env 0 x):=qW 0 x λj e=>h2 j (by rw[ho,e];simp[Op.operands])
   rw[hx]at hxr hxk
   obtain⟨k1,k2⟩:=dV hds
   have hcel:(ev T env t v).celled=true:=by
    generalize ev T env t v=y at hds k1 k2
    cases y with
    |top=>simp[AV.cells,AV.allD,AV.toD?.go,AV.toD?]at hds
    |dfr _=>simp[AV.cells,AV.allD,AV.toD?.go,AV.toD?]at hds
    |data d=>
     cases d with
     |val u=>
      simp[AV.cells,AV.allD,AV.toD?.go,AV.toD?]at hds
      subst hds
      simpa[D.scalar,AV.celled]using hsc
     |_=>rfl
    |_=>rfl
   obtain⟨c1,c2⟩:=hvr.cellsOf hcel
   have hcd:DRel (Fb N M) w d ((a.eval v).cells.getD 0 undef)/\((a.eval v).cells.getD 0 undef).oneCell'=true:=by
    obtain⟨c,e1,e2⟩:=k2 0 d (by simp)
    have:=(c2 0 c e1).toD e2
    exact⟨this,fM (x:=.data d) (.data _ _ this) hsc⟩
   have hone:(a.eval v).cells.size=1:=by rw[c1,<-k1];rfl
   generalize hav:a.eval x=va at hxr
   cases hxr with
   |rptr _ _ _ ad ha=>
    obtain⟨b,bs,arr,t',e1,e2,e3,e4,e5,e6,e7⟩:=hxk id (by simp[AV.men]) _ hK
    obtain⟨rb,hb,rfl⟩:=ha b bs e1
    obtain⟨⟨cap,g1,g2⟩,ar,t2,g3,g4,g5⟩:=e7 i rb r hb hr
    have hrb:rb∈bs:=List.mem_of_getElem? hb
    obtain⟨arr',r1,r2,r3⟩:=uz (P:=P) ho hav g3 (run_sizeOf' hT (aW hk) w) (by rw[hone,hsz]) (by omega) (λu hu=>by
     obtain⟨j,hj,rfl⟩:=List.mem_iff_getElem.1 hu
     simp only[Array.length_toList]at hj
     obtain rfl:j=0:=by omega
     simpa[hj]using hcd.2)
    simp only[Oper.wp,r1,Oper.upon_skip]
    have hst:Step M w M (World.rewrite w rb arr' t2) [id]:=Step.rewriteM m g3 r2 ⟨id,by simp,_,e1,λo=>.inr hrb⟩ (λ_ _=>rfl) (λid' hid ow' b' o q1 q2=>⟨id',hid,ow',q1,q2⟩) (λi1 q1 i2 q2 hne=>by
     simp only[List.mem_singleton]at q1 q2;exact absurd (q1.trans q2.symm) hne)
    refine hn _ _ _ hst rfl (.data _ _ (.val _)) ?_
    rintro id' blk e
    simp only[Option.some.injEq,Prod.mk.injEq]at e
    obtain⟨rfl,rfl⟩:=e
    have hkeep:∀{y u},DRel (Fb N M) w y u->DRel (Fb N M) (World.rewrite w rb arr' t2) y u:=λhy=>hy.keep hst.keeps
    have hoth:∀c a2 t3,c≠rb->bP w c a2 t3->bP (World.rewrite w rb arr' t2) c a2 t3:=λc a2 t3 hc h=>by
     show(World.rewrite w rb arr' t2).heap[c]? = _;rw[fB hc];exact h
    refine⟨by simp[Wr.ids],b,bs,arr,t',e1,hoth b arr t' (λe=>e4 (e ▸ hrb)) e2,e3,e4,e5,by simp[e6],λi' rb' r' hb' hr'=>?_⟩
    rw[List.getElem?_set]at hr'
    split at hr'
    ·rename_i hii
     subst hii
     rw[hb]at hb';simp only[Option.some.injEq]at hb';subst hb'
     split at hr'
     ·simp only[Option.some.injEq]at hr';subst hr'
      refine⟨⟨cap,by simpa using g1,by simpa using g2⟩,arr',t2,bQ (Array.getElem?_eq_some_iff.1 g3).1,by simpa[r2]using g4,λj d' hd'=>?_⟩
      rw[List.getElem?_set]at hd'
      split at hd'
      ·rename_i hkj
       subst hkj
       simp only[Option.some.injEq]at hd';subst hd'
       rw[r3,if_pos (by omega),Nat.sub_self]
       exact⟨hkeep hcd.1,hcd.2⟩
      ·rw[r3,if_neg (by omega)]
       exact⟨hkeep (g5 j d' hd').1,(g5 j d' hd').2⟩
     ·simp at hr'
    ·rename_i hii
     obtain⟨p1,ar2,t3,p2,p3,p4⟩:=e7 i' rb' r' hb' hr'
     have hne:rb'≠rb:=by
      rintro rfl
      exact hii ((List.getElem?_inj (List.getElem?_eq_some_iff.1 hb).1 e5).1 (hb.trans hb'.symm))
     exact⟨p1,ar2,t3,hoth rb' ar2 t3 hne p2,p3,λj d' hd'=>⟨hkeep (p4 j d' hd').1,(p4 j d' hd').2⟩⟩
  ·exact h.elim
 ·rename_i id i hx
  exact absurd hx (hnm id i)
 ·exact h.elim
theorem QT{o:Oper}{t:TypeId}{x v:Operand}{env:Env}{K:Heap}{next pan:Next}{id i:Nat}(ho:o.op = .store t x v)(hx:ev T env 0 x = .mptr id i)(h:xI T t (ev T env 0 x) (ev T env t v) K next):gu P T o env K next pan:=by
 rw[hx]at h
 unfold xI at h
 simp only at h
 split at h
 ·rename_i j vr sz len hv
  split at h
  ·rename_i n rows vr2 sz2 es hK hJ
   obtain⟨⟨hk,hsz,rfl,rfl,rfl⟩,⟨hi,hin,hlen⟩,r,hrl,hre,h⟩:=h
   have hij:j≠id:=by rintro rfl;rw[hK]at hJ;simp at hJ
   refine⟨false,_,[j,id],[],[(j,.dead),(id,.mat n (rows++[r]))],h,⟨by simp,λq=>?_,by simp,λq hq=>?_,by simp,?_⟩⟩
   ·simp only[List.mem_cons,List.not_mem_nil,or_false]
    rw[Heap.get_cons,Heap.get_cons]
    by_cases q1:j=q
    ·simp[q1]
    ·by_cases q2:id=q
     ·simp[q1,q2]
     ·simp only[if_neg q1,if_neg q2,Heap.get]
      refine⟨λh=>?_,λ⟨_,h⟩=>by simp at h⟩
      rcases h with h |h
      ·exact absurd h.symm q1
      ·exact absurd h.symm q2
   ·simp only[wids,ho,hx,hv,AV.ids]
    simp only[List.mem_cons,List.not_mem_nil,or_false]at hq ⊢
    exact hq.symm
   ·intro N M a w m h1 h2 next' Q hn
    refine .inl ?_
    have hxr:ay N M w (ev T env 0 x) (a.eval x):=dh m 0 x λj e=>h1 j (by rw[ho,e];simp[Op.operands])
    have hvr:ay N M w (ev T env t v) (a.eval v):=dh m t v λj e=>h1 j (by rw[ho,e];simp[Op.operands])
    have hh:=YK (o:=o) (by simp only[fG,ho]) h2
    have hxk:Hk N M w K (ev T env 0 x):=qW 0 x λj e=>hh j (by rw[ho,e];simp[Op.operands])
    have hvk:Hk N M w K (ev T env t v):=qW t v λj e=>hh j (by rw[ho,e];simp[Op.operands])
    rw[hx]at hxr hxk
    rw[hv]at hvr hvk
    generalize hav:a.eval x=va at hxr
    generalize hvv:a.eval v=vv at hvr
    cases hxr with
    |mptr _ _ ad ha=>
    cases hvr with
    |own _ _ _ _ _ av cap ho1 ho2=>
     obtain⟨b,bs,arr,t',e1,e2,e3,e4,e5,e6,e7⟩:=hxk id (by simp[AV.men]) _ hK
     obtain rfl:=ha b bs e1
     have hes:0<es.length:=by
      have:=congrArg List.length hre
      simp only[List.length_take,List.length_map]at this
      omega
     obtain⟨rb,ar,t2,j1,j2,j3,j4,j5⟩:=eF.arrAt (hvk j (by simp[AV.men]) _ hJ) (i:=0) (e:=es[0]) (by simp[hes])
     obtain⟨p1,p2,p3,_⟩:=(ho1 rb _ j1).2 rfl
     obtain rfl:=p3 (by omega)
     have hne:rb≠b/\rb ∉ bs:=by
      constructor
      ·rintro rfl;exact m.disj j id _ _ rb 0 hij j1 e1 rfl (.inl rfl)
      ·intro hm;exact m.disj j id _ _ rb 0 hij j1 e1 rfl (.inr hm)
     obtain⟨arr',r1,r2,r3⟩:=uz (P:=P) ho hav e2 (run_sizeOf' hT (aW hk) w) (by rw[hvv,hsz];simp[Value.cells]) (by omega) (λu hu=>by
      rw[hvv]at hu;simp[Value.cells]at hu;subst hu;rfl)
     simp only[Oper.wp,r1,Oper.upon_skip]
     let M':Mem:=λq=>if q=id then some (.mat b (bs++[rb]))else if q=j then none else M q
     have m1:M' id=some (.mat b (bs++[rb])):=by simp[M']
     have m2:M' j=none:=by simp[M',hij]
     have hst:Step M w M' (World.rewrite w b arr' t') [j,id]:=by
      refine Step.rewriteM m e2 r2 ⟨id,by simp,_,e1,λo=>.inl rfl⟩ (λq hq=>?_) (λq hq ow' b' o q1 q2=>?_) (λi1 q1 i2 q2 hne ow ow' b' o z1 z2 _ _=>?_)
      ·simp only[List.mem_cons,List.not_mem_nil,or_false,not_or]at hq
       simp only[M',if_neg hq.2,if_neg hq.1]
      ·simp only[List.mem_cons,List.not_mem_nil,or_false]at hq
       rcases hq with rfl |rfl
       ·rw[m2]at q1;simp at q1
       ·rw[m1]at q1;simp only[Option.some.injEq]at q1;subst q1
        simp only[Own.has,List.mem_append,List.mem_singleton]at q2
        rcases q2 with q2 |q2 |q2
        ·exact⟨q,by simp,_,e1,.inl q2⟩
        ·exact⟨q,by simp,_,e1,.inr q2⟩
        ·exact⟨j,by simp,_,j1,q2⟩
      ·simp only[List.mem_cons,List.not_mem_nil,or_false]at q1 q2
       rcases q1 with rfl |rfl
       ·rw[m2]at z1;simp at z1
       ·rcases q2 with rfl |rfl
        ·rw[m2]at z2;simp at z2
        ·exact hne rfl
     refine hn _ _ _ hst (λq hq _=>?_) (.data _ _ (.val _)) λq blk hq=>?_
     ·simp only[List.mem_cons,List.not_mem_nil,or_false]at hq
      rcases hq with rfl |rfl
      ·exact .inr (.inr (.inr (.inr (.inl m2))))
      ·exact .inr (.inr (.inr (.inr (.inr (.inr (.inr (.inr ⟨b,bs,[rb],e1,m1⟩)))))))
     ·rw[Heap.get_cons,Heap.get_cons]at hq
      split at hq
      ·simp only[Option.some.injEq]at hq;subst hq;trivial
      ·split at hq
       ·rename_i hqi
        subst hqi
        simp only[Option.some.injEq]at hq;subst hq
        have hkeep:∀{y u},DRel (Fb N M) w y u->DRel (Fb N M') (World.rewrite w b arr' t') y u:=λhy=>hy.keep hst.keeps
        have hoth:∀c a2 t3,c≠b->bP w c a2 t3->bP (World.rewrite w b arr' t') c a2 t3:=λc a2 t3 hc h=>by
         show(World.rewrite w b arr' t').heap[c]? = _;rw[fB hc];exact h
        refine⟨b,bs++[rb],arr',t',m1,bQ (Array.getElem?_eq_some_iff.1 e2).1,by rw[r2];exact e3,by simp only[List.mem_append,List.mem_singleton,not_or];exact⟨e4,λe=>hne.1 e.symm⟩,?_,by simp[e6],λi' rb' r' hb' hr'=>?_⟩
        ·rw[List.nodup_append]
         exact⟨e5,by simp,λx hx y hy e=>by simp only[List.mem_singleton]at hy;subst hy;subst e;exact hne.2 hx⟩
        ·rcases Nat.lt_or_ge i' bs.length with hlt |hge
         ·rw[List.getElem?_append_left hlt]at hb'
          rw[List.getElem?_append_left (by omega)]at hr'
          obtain⟨⟨cp,p5,p6⟩,ar2,t3,p7,p8,p9⟩:=e7 i' rb' r' hb' hr'
          refine⟨⟨cp,by rw[r3,if_neg (by omega)];exact p5,p6⟩,ar2,t3,hoth rb' ar2 t3 (λe=>e4 (e ▸ List.mem_of_getElem? hb')) p7,p8,λq d hd=>⟨hkeep (p9 q d hd).1,(p9 q d hd).2⟩⟩
         ·rw[List.getElem?_append_right hge]at hb'
          rw[List.getElem?_append_right (by omega)]at hr'
          obtain rfl:i'=bs.length:=by
           have:=(List.getElem?_eq_some_iff.1 hb').1
           simp at this;omega
          simp only[Nat.sub_self,List.getElem?_cons_zero,Option.some.injEq,<-e6]at hb' hr'
          subst hb';subst hr'
          refine⟨⟨cap,?_,by omega⟩,ar,t2,hoth rb ar t2 hne.1 j2,?_,λq d hd=>?_⟩
          ·rw[r3,if_pos (by omega),hvv,show bs.length-i=0 by omega,hrl]
           simp[Value.cells]
          ·have:=congrArg List.length hre
           simp only[List.length_take,List.length_map]at this
           omega
          ·have hq2:(es.take len)[q]? = some [d]:=by rw[hre,List.getElem?_map,hd];rfl
           have hq3:es[q]? = some [d]:=by
            rw[List.getElem?_take]at hq2
            split at hq2
            ·exact hq2
            ·simp at hq2
           have:=j5 q 0 [d] d hq3 rfl
           rw[Nat.mul_one,Nat.add_zero]at this
           exact⟨hkeep this.1,this.2⟩
       ·simp[Heap.get]at hq
  ·exact h.elim
 ·exact h.elim
omit hT in
theorem wG{ρ:Operand->Value}{o:Oper}{c:Call}(ho:o.op = .call c)(hc:c.callee = .builtin .clear):execOp ρ o=(do pure (.value (<-Builtin.clear_ c.argTypes o.type (c.args.map ρ)))):=by
 rw[jE ho];cases c;simp only at hc;subst hc;rfl
theorem Vt{o:Oper}{c:Call}{x:Operand}{env:Env}{K:Heap}{next:Next}(ho:o.op = .call c)(hc:c.callee = .builtin .clear)(hargs:c.args.toList = [x])(hts:1<=c.argTypes.size)
  (h:BP T (c.argTypes.getD 0 0) (ev T env (c.argTypes.getD 0 0) x) K next) :
  ∃id blk,(ev T env (c.argTypes.getD 0 0) x).ids = [id]/\next (.data (.val (.tuple #[]))) (K.put id blk)/\vS P o env K (.data (.val (.tuple #[]))) (.st id) (some (id,blk)):=by
 have hmx:x∈o.op.operands:=yC ho x (by rw[hargs];simp)
 have hA:∀a:Act,c.args.map a.eval = #[a.eval x]:=λa=>by apply Array.toList_inj.1;simp[hargs]
 have hT0:c.argTypes[0]? = some (c.argTypes.getD 0 0):=bM 0 (by omega)
 generalize c.argTypes.getD 0 0=t at h hT0 ⊢
 unfold BP at h
 split at h
 ·rename_i kt et id hty hx
  split at h
  ·rename_i g l es hK
   refine⟨id,_,by rw[hx];rfl,h,λN M a w hm h1 h2 next' Q hn=>?_⟩
   have hxr:ay N M w (ev T env t x) (a.eval x):=dh hm t x λj e=>h1 j (e ▸ hmx)
   have hxk:Hk N M w K (ev T env t x):=qW t x λj e=>h2 j (e ▸ hmx)
   rw[hx]at hxr hxk
   obtain⟨b,mes,clock,e1,e2,e3,est,e4⟩:=hxk id (by simp[AV.men]) _ hK
   generalize hvx:a.eval x=vx at hxr
   cases hxr with
   |map _ r hr=>
    obtain rfl:=hr b e1
    have hb:r<w.heap.size:=(Array.getElem?_eq_some_iff.1 e2).1
    have hrun:(execOp a.eval o).run P w = .ok (.value (.tuple #[])) (World.setObj w r (.map #[] clock)):=by
     rw[wG ho hc,hA,hvx]
     simp only[Builtin.clear_,hT0,List.getElem?_toArray,List.getElem?_cons_zero,Sem.run_bind,run_underlying (tbl_map' hT hty),Result.andThen_ok,MapKept.run_getObj_map e2,MapKept.run_setObj_map _ e2,Sem.run_pure]
     rfl
    simp only[Oper.wp,hrun,Oper.upon_value]
    have hst:Step M w M (World.setObj w r (.map #[] clock)) [id]:=Step.setMap e2 e1
    refine hn _ _ _ hst rfl (.data _ _ (.val _)) ?_
    rintro id' blk e
    simp only[Option.some.injEq,Prod.mk.injEq]at e
    obtain⟨rfl,rfl⟩:=e
    exact⟨by simp[Wr.ids],r,#[],clock,e1,zh hb,rfl,MapKept.stamped_empty _,λi y hy=>by simp at hy⟩
  ·exact h.elim
 ·rename_i e id vr sz len hty hx
  split at h
  ·rename_i vr2 sz2 es hK
   split at h
   ·rename_i z0 z hk hz
    split at h
    ·rename_i ds hds
     split at h
     ·rename_i hb
      simp only[Bool.and_eq_true]at hb
      obtain⟨hb1,hb2,hb4⟩:=hb
      have hb1:=Nat.eq_of_beq_eq_true hb1
      have hb2:=Nat.le_of_ble_eq_true hb2
      obtain⟨⟨⟨rfl,rfl⟩,hsz,hle⟩,h⟩:=h
      refine⟨id,_,by rw[hx];rfl,h,λN M a w hm h1 h2 next' Q hn=>?_⟩
      have hxr:ay N M w (ev T env t x) (a.eval x):=dh hm t x λj e=>h1 j (e ▸ hmx)
      have hxk:Hk N M w K (ev T env t x):=qW t x λj e=>h2 j (e ▸ hmx)
      rw[hx]at hxr hxk
      have hbk:=hxk id (by simp[AV.men]) _ hK
      generalize hvx:a.eval x=vx at hxr
      cases hxr with
      |own _ _ _ _ _ av cap ha hnb=>
       have none0:len=0->o.wp P a w next' Q:=by
        intro h0
        subst h0
        have hrun:(execOp a.eval o).run P w = .ok (.value (.tuple #[])) w:=by
         rw[wG ho hc,hA,hvx]
         simp only[Builtin.clear_,hT0,List.getElem?_toArray,List.getElem?_cons_zero,Sem.run_bind,run_underlying (aG hT hty),Result.andThen_ok,Sem.run_pure]
         cases av<;>rfl
        simp only[Oper.wp,hrun,Oper.upon_value]
        have hst:Step M w M w [id]:=⟨rfl,rfl,rfl,Nat.le_refl _,λ_ _ _=>rfl,λ_ _ _ _ h=>h,λb arr t h=>⟨arr,h,rfl⟩,λ_ _=>rfl,λid hid ow b o h1 h2=>⟨(hm.dom id ow b o h1 h2).1,.inr ⟨id,hid,ow,h1,h2⟩⟩,λi1 h1 i2 h2 hne=>by
         simp only[List.mem_singleton]at h1 h2;exact absurd (h1.trans h2.symm) hne⟩
        refine hn _ _ _ hst rfl (.data _ _ (.val _)) ?_
        rintro id' blk e
        simp only[Option.some.injEq,Prod.mk.injEq]at e
        obtain⟨rfl,rfl⟩:=e
        exact⟨by simp[Wr.ids],by simpa using hbk⟩
       rcases hbk with⟨b,arr,t',e1,e2,e3,e4,e5⟩ |⟨e1,_⟩
       rotate_left
       ·exact none0 ((hnb _ e1).2 rfl).1
       by_cases hl0:len=0
       ·exact none0 hl0
       clear none0
       obtain⟨p1,p2,p3,_⟩:=(ha b _ e1).2 rfl
       obtain rfl:=p3 (by omega)
       obtain⟨zv,q1,q2,q3⟩:=kw hT hk (by rw[hz];simp) w
       rw[hz]at q2 q3
       have q2:zv.cells.size=(T.at e).size:=by rw[q2,hb1]
       obtain⟨k1,k2⟩:=dV hds
       have hdl:ds.length=(T.at e).size:=by rw[k1,hb1]
       have hzc:(Builtin.zeroCells zv.cells len).size=len * (T.at e).size:=by simp[Builtin.zeroCells,q2]
       have hcell:∀i,i<len * (T.at e).size->∃d,ds[i % (T.at e).size]? = some d/\DRel (Fb N M) w d ((Builtin.zeroCells zv.cells len).getD i undef)/\((Builtin.zeroCells zv.cells len).getD i undef).oneCell'=true:=by
        intro i hi
        have hm1:i % (T.at e).size<(T.at e).size:=Nat.mod_lt _ hb2
        have hd:ds[i % (T.at e).size]? = some (ds[i % (T.at e).size]'(by omega)):=by simp[hdl,hm1]
        refine⟨_,hd,?_⟩
        have hg:(Builtin.zeroCells zv.cells len).getD i undef=zv.cells.getD (i % (T.at e).size) undef:=by
         simp only[Builtin.zeroCells,q2]
         rw[bJ hi,getElem!_pos zv.cells _ (by rw[q2];exact hm1)]
         simp[q2,hm1]
        rw[hg]
        obtain⟨c',f1,f2⟩:=k2 _ _ hd
        have hr:=(q3 N M w _ c' f1).1
        exact⟨hr.toD f2,fM (x:=.data _) (.data _ _ (hr.toD f2)) (List.all_eq_true.1 hb4 _ (List.mem_of_getElem? hd))⟩
       have hle3:len * (T.at e).size<=arr.size:=Nat.le_trans (by rw[<-hsz];exact Nat.mul_le_mul_right _ hle) e3
       obtain⟨arr',r1,r2,r3⟩:=dW (P:=P) (Builtin.zeroCells zv.cells len).toList w b 0 0 arr t' e2 (by simp[hzc];exact hle3) (λv hv=>by
        obtain⟨i,hi,rfl⟩:=List.mem_iff_getElem.1 hv
        have hi':i<len * (T.at e).size:=by simpa[hzc]using hi
        obtain⟨_,_,_,g⟩:=hcell i hi'
        simpa[hzc,hi']using g)
       have hrun:(execOp a.eval o).run P w = .ok (.value (.tuple #[])) (World.rewrite w b arr' t'):=by
        rw[wG ho hc,hA,hvx]
        obtain⟨m,rfl⟩:∃m,len=m+1:=⟨len-1,by omega⟩
        simp only[Builtin.clear_,hT0,List.getElem?_toArray,List.getElem?_cons_zero,Sem.run_bind,run_underlying (aG hT hty),Result.andThen_ok,q1,Nat.zero_mul,r1,Sem.run_pure]
       simp only[Oper.wp,hrun,Oper.upon_value]
       have hst:Step M w M (World.rewrite w b arr' t') [id]:=Step.rewrite e2 e1 r2 (λj hj=>by exact absurd rfl hj) ⟨0,rfl⟩ (λ_ _=>rfl) (λow' b' o' h hh=>by
        rw[e1]at h;simp only[Option.some.injEq]at h;subst h;exact⟨hh,hh⟩)
       have hkeep:∀{y u},DRel (Fb N M) w y u->DRel (Fb N M) (World.rewrite w b arr' t') y u:=λhy=>hy.keep hst.keeps
       refine hn _ _ _ hst rfl (.data _ _ (.val _)) ?_
       rintro id' blk e'
       simp only[Option.some.injEq,Prod.mk.injEq]at e'
       obtain⟨rfl,rfl⟩:=e'
       have hlen2:(List.replicate len ds++es.drop len).length=es.length:=by simp;omega
       refine⟨by simp[Wr.ids],.inl ⟨b,arr',t',e1,bQ ((Array.getElem?_eq_some_iff.1 e2).1),by rw[r2,hlen2];exact e3,λq hq=>?_,λi j q d hq hd=>?_⟩⟩
       ·rcases List.mem_append.1 hq with hq |hq
        ·rw[List.eq_of_mem_replicate hq,hsz];exact hdl
        ·exact e4 q (List.mem_of_mem_drop hq)
       ·rw[List.getElem?_append]at hq
        simp only[List.length_replicate]at hq
        split at hq
        ·rename_i hi
         rw[List.getElem?_replicate,if_pos hi]at hq
         simp only[Option.some.injEq]at hq;subst hq
         have hj:j<(T.at e).size:=by rw[<-hdl];exact(List.getElem?_eq_some_iff.1 hd).1
         have hlt:i * (T.at e).size+j<len * (T.at e).size:=by
          have:(i+1) * (T.at e).size<=len * (T.at e).size:=Nat.mul_le_mul_right _ hi
          rw[Nat.add_mul,Nat.one_mul]at this;omega
         obtain⟨d',g1,g2,g3⟩:=hcell _ hlt
         have hmod:(i * (T.at e).size+j) % (T.at e).size=j:=by rw[Nat.mul_comm,Nat.mul_add_mod,Nat.mod_eq_of_lt hj]
         rw[hmod,hd]at g1
         simp only[Option.some.injEq]at g1;subst g1
         rw[hsz,r3,if_pos ⟨by omega,by simp[hzc];omega⟩]
         have:(Builtin.zeroCells zv.cells len).toList.getD (i * (T.at e).size+j-(0+0)) undef=(Builtin.zeroCells zv.cells len).getD (i * (T.at e).size+j) undef:=by
          simp[Array.getD_eq_getD_getElem?,List.getD_eq_getElem?_getD]
         rw[this]
         exact⟨hkeep g2,g3⟩
        ·rename_i hi
         rw[List.getElem?_drop,Nat.add_sub_cancel' (by omega)]at hq
         have hmul:len * (T.at e).size<=i * (T.at e).size:=Nat.mul_le_mul_right _ (by omega)
         rw[r3,if_neg (by simp[hzc];rw[hsz];omega)]
         obtain⟨g1,g2⟩:=e5 i j q d hq hd
         exact⟨hkeep g1,g2⟩
     ·exact h.elim
    ·exact h.elim
   ·exact h.elim
  ·exact h.elim
 ·exact h.elim
theorem FZ{env:Env}{K:Heap}{o:Oper}{next pan:Next}(h:vOp T (aj P) (ax P) env K o next pan):gu P T o env K next pan:=by
 have E:∀{N:aK} {M:Mem} {a:Act} {w:World},bI N M w->(∀j,Operand.tmp j∈o.op.operands->ay N M w (env.get j) (a.tmps.getD j undef))->∀t x,x∈o.op.operands->ay N M w (ev T env t x) (a.eval x):=
  λm h1 t x hx=>dh m t x λj e=>h1 j (e ▸ hx)
 have H:∀{N:aK} {M:Mem} {w:World},(∀j,Operand.tmp j∈o.op.operands->Hk N M w K (env.get j))->∀t x,x∈o.op.operands->Hk N M w K (ev T env t x):=
  λh1 t x hx=>qW t x λj e=>h1 j (e ▸ hx)
 unfold vOp at h
 split at h
 ·rename_i x ho
  refine⟨false,_,[],[],[],h,⟨by simp,by simp[Heap.get],by simp,by simp,by simp,?_⟩⟩
  intro N M a w m h1 h2 next' Q hn
  refine .inl ?_
  simp only[Oper.wp,QA ho,Sem.run_pure,Oper.upon_value]
  exact hn _ M w (Step.refl M w) (by simp) (E m h1 _ x (by rw[ho];simp[Op.operands])) (by simp[Heap.get])
 ·rename_i x ho
  exact gu.val (by simp only[fG,ho]) h λN M a w m h1 h2=>⟨_,by rw[IX ho];rfl,E m h1 _ x (by rw[ho];simp[Op.operands])⟩
 ·rename_i c x y ho
  split at h
  ·rename_i b hb
   have hc:∀{N:aK} {M:Mem} {a:Act} {w:World},bI N M w->(∀j,Operand.tmp j∈o.op.operands->ay N M w (env.get j) (a.tmps.getD j undef))->a.eval c = .bool b:=λm h1=>by
    have:=E m h1 o.type c (by rw[ho];simp[Op.operands]);rw[hb]at this;exact this.bool
   cases b with
   |true=>exact gu.val (by simp only[fG,ho]) h λN M a w m h1 h2=>⟨_,by rw[FO ho,hc m h1];simp[asBool],E m h1 _ x (by rw[ho];simp[Op.operands])⟩
   |false=>exact gu.val (by simp only[fG,ho]) h λN M a w m h1 h2=>⟨_,by rw[FO ho,hc m h1];simp[asBool],E m h1 _ y (by rw[ho];simp[Op.operands])⟩
  ·exact h.elim
 ·rename_i t ho
  split at h
  ·rename_i d hd
   split at h
   ·rename_i z0 z hk hz
    obtain⟨hf,h⟩:=eP h
    exact .old (by simp only[fG,ho]) <| .inl ⟨.ptr d 0,.new d,some (d,.cells (z0::z)),h,hf,.inr ⟨_,_,rfl,rfl⟩,⟨by simp[eY,ho,hd],by simp[wids,ho,hd]⟩,by rw[<-hz];exact QE hT ho hk (by rw[hz];simp)⟩
   ·split at h
    ·rename_i hty
     obtain⟨hf,h⟩:=eP h
     exact .old (by simp only[fG,ho]) <| .inl ⟨.ptr d 0,.new d,some (d,.cells []),h,hf,.inr ⟨_,_,rfl,rfl⟩,⟨by simp[eY,ho,hd],by simp[wids,ho,hd]⟩,QD hT ho hty⟩
    ·exact h.elim
   ·exact h.elim
  ·exact h.elim
 ·rename_i t x ho
  split at h
  ·rename_i d hd
   split at h
   ·rename_i hc
    obtain⟨hf,h⟩:=eP h
    exact .old (by simp only[fG,ho]) <| .inl ⟨.ptr d 0,.new d,some (d,.cells (ev T env t x).cells),h,hf,.inr ⟨_,_,rfl,rfl⟩,⟨by simp[eY,ho,hd],by simp[wids,ho,hd]⟩,YI ho hc hf.2.1⟩
   ·exact h.elim
  ·exact h.elim
 ·rename_i t ps ho
  obtain⟨r,h,hr⟩:=QH hT ho h
  exact .old (by simp only[fG,ho]) <| .inl ⟨r,.no,none,h,trivial,.inl ⟨rfl,rfl⟩,trivial,hr⟩
 ·rename_i t n ps ho
  split at h
  ·rename_i d hd
   obtain⟨r,blk,h,hf,hr⟩:=Bi hT ho h
   exact .old (by simp only[fG,ho]) <| .inl ⟨r,.new d,_,h,hf,.inr ⟨_,_,rfl,rfl⟩,⟨by simp[eY,ho,hd],by simp[wids,ho,hd]⟩,hr⟩
  ·exact h.elim
 ·rename_i t x ho
  obtain⟨r,h,hr⟩:=DU hT h
  refine gu.val (by simp only[fG,ho]) h λN M a w m h1 h2=>?_
  have hx:x∈o.op.operands:=by rw[ho];simp[Op.operands]
  obtain⟨u,hu,hur⟩:=hr N M w _ (E m h1 0 x hx) (H h2 0 x hx)
  exact⟨u,by rw[FN ho];simp[hu],hur⟩
 ·rename_i t x v ho
  by_cases hm:∃id i,ev T env 0 x = .mptr id i
  ·obtain⟨id,i,hm⟩:=hm
   exact QT hT ho hm h
  ·have hnm:∀id i,ev T env 0 x ≠ .mptr id i:=λid i e=>hm ⟨id,i,e⟩
   obtain⟨id,blk,h,hid,hr⟩:=QS hT ho hnm h
   refine .old (by simp only[fG,ho]) <| .inl ⟨_,.st id,some (id,blk),h,trivial,.inr ⟨_,_,rfl,rfl⟩,?_,hr⟩
   simp only[z16,wids,ho]
   generalize ev T env 0 x=y at hid hnm ⊢
   cases y<;>first |exact absurd rfl (hnm _ _) |exact hid
 ·rename_i x ho
  have hx:x∈o.op.operands:=by rw[ho];simp[Op.operands]
  have key:∀(y:AV),ev T env 0 x=y->next y K->(∀(N:aK) (M:Mem) (w:World) v,ay N M w y v->∀ρ:Operand->Value,ρ x=v->execOp ρ o=pure (.value v))->gu P T o env K next pan:=by
   intro y hy hn hk
   refine gu.val0 hn λN M a w m h1=>⟨a.eval x,?_,?_⟩
   ·have:=E m h1 0 x hx
    rw[hy]at this
    rw[hk N M w _ this a.eval rfl];rfl
   ·have:=E m h1 0 x hx
    rwa[hy]at this
  split at h
  ·rename_i i q heq
   exact key _ heq h λN M w v hv ρ hρ=>by
    cases hv;cases o;simp only at ho;subst ho;simp only[execOp,hρ]
  ·rename_i i heq
   exact key _ heq h λN M w v hv ρ hρ=>by
    cases hv;cases o;simp only at ho;subst ho;simp only[execOp,hρ]
  ·rename_i i vr sz j q heq
   exact key _ heq h λN M w v hv ρ hρ=>by
    cases hv;cases o;simp only at ho;subst ho;simp only[execOp,hρ]
  ·rename_i d heq
   exact key _ heq h λN M w v hv ρ hρ=>by
    cases hv with
    |data _ _ hd=>cases hd;cases o;simp only at ho;subst ho;simp only[execOp,hρ]
  ·rename_i f c heq
   exact key _ heq h λN M w v hv ρ hρ=>by
    cases hv;cases o;simp only at ho;subst ho;simp only[execOp,hρ]
  ·rename_i f c heq
   exact key _ heq h λN M w v hv ρ hρ=>by
    cases hv with
    |data _ _ hd=>cases hd;cases o;simp only at ho;subst ho;simp only[execOp,hρ]
  ·exact h.elim
 ·rename_i op t x y u ho
  split at h
  ·rename_i hk
   obtain⟨r,h,hr⟩:=YL (P:=P) hT (QN hk) h
   refine gu.val (by simp only[fG,ho]) h λN M a w m h1 h2=>?_
   obtain⟨z,hz,hzr⟩:=hr N M w _ _ (E m h1 t x (by rw[ho];simp[Op.operands])) (E m h1 t y (by rw[ho];simp[Op.operands]))
   exact⟨z,by rw[vZ ho,Sem.run_bind,hz];rfl,hzr⟩
  ·obtain⟨r,h,hr⟩:=YG (P:=P) h
   refine gu.val (by simp only[fG,ho]) h λN M a w m h1 h2=>?_
   obtain⟨z,hz,hzr⟩:=hr N M w _ _ t x y (E m h1 t x (by rw[ho];simp[Op.operands])) (E m h1 t y (by rw[ho];simp[Op.operands]))
   exact⟨z,by rw[vZ ho,Sem.run_bind,hz];rfl,hzr⟩
 ·rename_i op t x ho
  obtain⟨r,h,hr⟩:=z1v (P:=P) h
  refine gu.val (by simp only[fG,ho]) h λN M a w m h1 h2=>?_
  obtain⟨z,hz,hzr⟩:=hr N M w _ (E m h1 t x (by rw[ho];simp[Op.operands]))
  exact⟨z,by rw[QB ho];simp[hz],hzr⟩
 ·rename_i s x f ho
  obtain⟨r,h,hr⟩:=Qs hT h
  refine gu.val0 h λN M a w m h1=>?_
  obtain⟨z,hz,hzr⟩:=hr N M w _ (E m h1 0 x (by rw[ho];simp[Op.operands]))
  exact⟨z,by rw[Bh ho];simp[hz],hzr⟩
 ·rename_i s x f ho
  obtain⟨r,h,hr⟩:=NY hT h
  refine gu.val (by simp only[fG,ho]) h λN M a w m h1 h2=>?_
  obtain⟨z,hz,hzr⟩:=hr N M w _ (E m h1 0 x (by rw[ho];simp[Op.operands]))
  exact⟨z,by rw[N9 ho];simp[hz],hzr⟩
 ·rename_i t x i ho
  obtain⟨r,h,hr⟩:=uu hT h
  refine gu.val (by simp only[fG,ho]) h λN M a w m h1 h2=>?_
  have hx:x∈o.op.operands:=by rw[ho];simp[Op.operands]
  obtain⟨z,hz,hzr⟩:=hr N M w _ _ (E m h1 t x hx) (E m h1 0 i (by rw[ho];simp[Op.operands])) (H h2 t x hx)
  exact⟨z,by rw[rC ho];simp[hz],hzr⟩
 ·rename_i t x i ho
  obtain⟨r,h,hr⟩:=Qv hT h
  refine gu.val (by simp only[fG,ho]) h λN M a w m h1 h2=>?_
  obtain⟨z,hz,hzr⟩:=hr N M w _ _ (E m h1 t x (by rw[ho];simp[Op.operands])) (E m h1 0 i (by rw[ho];simp[Op.operands]))
  exact⟨z,by rw[Oa ho];simp[hz],hzr⟩
 ·rename_i t x lo hi mx ho
  obtain⟨r,hnx,l,hh,e1,e2,e3,hr⟩:=Qw hT h
  have hmx:mx=none:=by cases mx<;>simp at e3 ⊢
  subst hmx
  refine gu.val (by simp only[fG,ho]) hnx λN M a w m h1 h2=>?_
  have hx:x∈o.op.operands:=by rw[ho];simp[Op.operands]
  have bd:∀(y:Option Operand) (q:Option Int),(∀z,y=some z->z∈o.op.operands)->rW (y.map (ev T env 0))=some q->zf q (y.map a.eval):=by
   intro y q hy hq
   cases y with
   |none=>simp[rW]at hq;subst hq;trivial
   |some z=>
    have:=E m h1 0 z (hy z rfl)
    simp only[Option.map_some]at hq
    unfold rW at hq
    split at hq
    ·rename_i heq;simp at heq
    ·rename_i k n heq
     simp only[Option.some.injEq]at heq hq
     subst hq
     rw[heq]at this
     exact⟨k,this.int⟩
    ·simp at hq
  obtain⟨z,hz,hzr⟩:=hr N M w _ _ _ (E m h1 t x hx) (H h2 t x hx) (bd lo l (λz e=>by rw[ho];subst e;simp[Op.operands]) e1) (bd hi hh (λz e=>by rw[ho];subst e;simp[Op.operands]) e2)
  exact⟨z,by rw[Ob ho];simp[hz],hzr⟩
 ·rename_i x i ho
  have hx:x∈o.op.operands:=by rw[ho];simp[Op.operands]
  split at h
  ·rename_i vs heq
   split at h
   ·rename_i v hv
    refine gu.val (by simp only[fG,ho]) h λN M a w m h1 h2=>?_
    have:=E m h1 0 x hx
    rw[heq]at this
    generalize hva:a.eval x=va at this
    cases this with
    |tuple _ us hl hh=>
     have hlt:i<us.size:=by rw[hl];exact(List.getElem?_eq_some_iff.1 hv).1
     exact⟨us.getD i undef,by rw[lG ho,hva];simp only[Instr.extract,bM undef hlt];rfl,hh i v hv⟩
   ·exact h.elim
  ·rename_i vs heq
   split at h
   ·rename_i v hv
    refine gu.val (by simp only[fG,ho]) h λN M a w m h1 h2=>?_
    have:=E m h1 0 x hx
    rw[heq]at this
    generalize hva:a.eval x=va at this
    cases this with
    |data _ _ hd=>
     cases hd with
     |tuple _ us hl hh=>
      have hlt:i<us.size:=by rw[hl];exact(List.getElem?_eq_some_iff.1 hv).1
      exact⟨us.getD i undef,by rw[lG ho,hva];simp only[Instr.extract,bM undef hlt];rfl,.data _ _ (hh i v hv)⟩
   ·exact h.elim
  ·exact h.elim
 ·rename_i t x ho
  have hx:x∈o.op.operands:=by rw[ho];simp[Op.operands]
  have key:(∀m,P.underlying t≠some (.interface m))->P.underlying t≠none->next (.iface t (ev T env t x)) K->gu P T o env K next pan:=by
   intro k1 k2 h
   refine gu.val (by simp only[fG,ho]) h λN M a w m h1 h2=>⟨.iface t (a.eval x),?_,.iface _ _ _ (E m h1 t x hx)⟩
   rw[uw ho]
   cases hu:P.underlying t with
   |none=>exact absurd hu k2
   |some d=>cases d<;>first |exact absurd hu (k1 _) |simp[Instr.makeInterface,run_underlying hu]
  have hd:=(hT t).desc
  split at h
  ·exact h.elim
  ·exact h.elim
  ·rename_i hni hno
   refine key ?_ ?_ h
   ·intro m hm
    cases hty:(T.at t).ty<;>simp only[hty,FM]at hd hni hno<;>first
     |(rw[hd]at hm;simp at hm;done)
     |(obtain⟨_,hd,_⟩:=hd;rw[hd]at hm;simp at hm;done)
     |(obtain⟨_,_,_,hd⟩:=hd;rw[hd]at hm;simp at hm;done)
     |(exact hni trivial)
     |(exact hno trivial)
     |simp at hni
     |simp at hno
   ·intro hm
    cases hty:(T.at t).ty<;>simp only[hty,FM]at hd hni hno<;>first
     |(rw[hd]at hm;simp at hm;done)
     |(obtain⟨_,hd,_⟩:=hd;rw[hd]at hm;simp at hm;done)
     |(obtain⟨_,_,_,hd⟩:=hd;rw[hd]at hm;simp at hm;done)
     |(exact hno trivial)
     |simp at hni
     |simp at hno
 ·rename_i f first caps ho
  split at h
  ·rename_i f hfi
   have hfi:first = #[]:=by simpa using hfi
   subst hfi
   refine gu.val (by simp only[fG,ho]) h λN M a w m h1 h2=>⟨.func (.func f) #[] (caps.map a.eval),by rw[uy ho];simp[Instr.makeFunc],.fn _ _ _ (by simp) λi c hc=>?_⟩
   simp only[List.getElem?_map,Option.map_eq_some_iff]at hc
   obtain⟨y,hy,rfl⟩:=hc
   have:(caps.map a.eval).getD i undef=a.eval y:=by
    simp only[Array.getD_eq_getD_getElem?,Array.getElem?_map]
    rw[Array.getElem?_toList]at hy
    simp[hy]
   rw[this]
   refine E m h1 0 y ?_
   rw[ho];simp only[Op.operands,Array.mem_append]
   exact .inr (by simpa using List.mem_of_getElem? hy)
  ·rename_i f hfi
   split at h
   ·rename_i hci
    have hci:caps = #[]:=by simpa using hci
    subst hci
    refine gu.val (by simp only[fG,ho]) h λN M a w m h1 h2=>⟨.func (.func f) (first.map a.eval) #[],by rw[uy ho];simp[Instr.makeFunc],.bnd _ _ _ (by simp) λi c hc=>?_⟩
    simp only[List.getElem?_map,Option.map_eq_some_iff]at hc
    obtain⟨y,hy,rfl⟩:=hc
    have:(first.map a.eval).getD i undef=a.eval y:=by
     simp only[Array.getD_eq_getD_getElem?,Array.getElem?_map]
     rw[Array.getElem?_toList]at hy
     simp[hy]
    rw[this]
    refine E m h1 0 y ?_
    rw[ho];simp only[Op.operands,Array.mem_append]
    exact .inl (by simpa using List.mem_of_getElem? hy)
   ·exact h.elim
  ·exact h.elim
 ·rename_i x ho
  have hx:x∈o.op.operands:=by rw[ho];simp[Op.operands]
  have key:∀(y:AV),ev T env 0 x=y->pan y K->(∀(N:aK) (M:Mem) (w:World) v,ay N M w y v->∃t u,v = .iface t u)->gu P T o env K next pan:=by
   intro y hy hp hk
   refine .old (by simp only[fG,ho]) <| .inr ⟨y,hp,λN M a w m h1 h2 next Q hn=>?_⟩
   have:=E m h1 0 x hx
   rw[hy]at this
   obtain⟨t,u,hv⟩:=hk N M w _ this
   have hrun:(execOp a.eval o).run P w = .halt (.panic (a.eval x)) w:=by
    rw[Oc ho,hv];simp[Instr.panic]
   simp only[Oper.wp,hrun,Oper.upon_panic]
   exact hn _ w (Step.refl M w) this
  split at h
  ·rename_i t v heq
   exact key _ heq h λN M w v hv=>by cases hv;exact⟨_,_,rfl⟩
  ·rename_i t v heq
   exact key _ heq h λN M w v hv=>by cases hv with |data _ _ hd=>cases hd;exact⟨_,_,rfl⟩
  ·exact h.elim
 ·rename_i c ho
  split at h
  ·rename_i hc
   split at h
   ·rename_i x hargs hts
    have hts:=Nat.le_of_ble_eq_true hts
    obtain⟨r,h,hr⟩:=YF hT h
    refine gu.val (by simp only[fG,ho,hc]) h λN M a w m h1 h2=>?_
    have hx:=yC ho x (by rw[hargs];simp)
    obtain⟨z,hz,hzr⟩:=hr N M w _ c.argTypes o.type (E m h1 _ x hx) (H h2 _ x hx) (bM 0 (by omega))
    refine⟨z,?_,hzr⟩
    have:c.args.map a.eval = #[a.eval x]:=by apply Array.toList_inj.1;simp[hargs]
    rw[Vo ho hc,this];simp[hz]
   ·exact h.elim
  ·rename_i hc
   split at h
   ·rename_i x y d hargs hd hts
    obtain⟨r,wr,id,blk,hids,hq,h,hf,hr⟩:=Oe hT ho hc hargs h (Nat.le_of_ble_eq_true hts)
    refine .old (by simp only[fG,ho,hc]) <| .inl ⟨r,wr,_,h,hf,.inr ⟨_,_,hids,rfl⟩,?_,hr⟩
    rcases hq _ rfl with⟨rfl,rfl,sz,e⟩ |⟨rfl,sz,es,e⟩ |⟨rfl,vr,sz,n,e⟩
    ·exact⟨by simp only[eY,ho,hc,hargs,e,hd];simp,by simp only[wids,ho,hc,hargs,e,hd];simp⟩
    ·simp only[z16,wids,ho,hc,hargs,e,AV.ids];simp
    ·simp only[z16,wids,ho,hc,hargs,e,AV.ids];simp
   ·exact h.elim
  ·rename_i hc
   split at h
   ·rename_i x hargs hts
    obtain⟨id,blk,hids,h,hr⟩:=Vt (P:=P) hT ho hc hargs (Nat.le_of_ble_eq_true hts) h
    refine .old (by simp only[fG,ho,hc]) <| .inl ⟨_,.st id,some (id,blk),h,trivial,.inr ⟨_,_,rfl,rfl⟩,?_,hr⟩
    simp only[z16,wids,ho,hc,hargs,hids];simp
   ·exact h.elim
  ·rename_i hc
   split at h
   ·rename_i v hv
    refine gu.val (by simp only[fG,ho,hc]) h λN M a w m h1 h2=>?_
    have hr:(c.args.map a.eval).size=(c.args.toList.map (ev T env 0)).length/\∀(i:Nat) x,(c.args.toList.map (ev T env 0))[i]? = some x->ay N M w x ((c.args.map a.eval).getD i undef):=by
     refine⟨by simp,λi x hx=>?_⟩
     simp only[List.getElem?_map,Option.map_eq_some_iff]at hx
     obtain⟨y,hy,rfl⟩:=hx
     have:(c.args.map a.eval).getD i undef=a.eval y:=by
      simp only[Array.getD_eq_getD_getElem?,Array.getElem?_map]
      rw[Array.getElem?_toList]at hy
      simp[hy]
     rw[this]
     exact E m h1 0 y (yC ho y (List.mem_of_getElem? hy))
    obtain⟨z,hz,hzr⟩:=Qy (P:=P) hv (c.args.map a.eval) N M w c.argTypes o.type hr.1 hr.2
    exact⟨z,by rw[Vp ho hc];simp only[Sem.run_bind,hz];rfl,hzr⟩
   ·exact h.elim
  ·rename_i hc
   split at h
   ·rename_i v hv
    refine gu.val (by simp only[fG,ho,hc]) h λN M a w m h1 h2=>?_
    have hr:(c.args.map a.eval).size=(c.args.toList.map (ev T env 0)).length/\∀(i:Nat) x,(c.args.toList.map (ev T env 0))[i]? = some x->ay N M w x ((c.args.map a.eval).getD i undef):=by
     refine⟨by simp,λi x hx=>?_⟩
     simp only[List.getElem?_map,Option.map_eq_some_iff]at hx
     obtain⟨y,hy,rfl⟩:=hx
     have:(c.args.map a.eval).getD i undef=a.eval y:=by
      simp only[Array.getD_eq_getD_getElem?,Array.getElem?_map]
      rw[Array.getElem?_toList]at hy
      simp[hy]
     rw[this]
     exact E m h1 0 y (yC ho y (List.mem_of_getElem? hy))
    obtain⟨z,hz,hzr⟩:=Qy (P:=P) hv (c.args.map a.eval) N M w c.argTypes o.type hr.1 hr.2
    exact⟨z,by rw[Vq ho hc];simp only[Sem.run_bind,hz];rfl,hzr⟩
   ·exact h.elim
  ·rename_i f hc
   have lentG:∀{as0:List AV} {K0 K1:Heap} {out:gp} {ρ:List (Nat×Nat)},LentRes P o env K ρ K0 K1 out ->
     (wids T env K (uh K (cO ρ K1)) o=reach K 1000 (iU env (tmpsOf (Op.call c).operands.toList)) []++minus (keys (uh K (cO ρ K1))) (keys K)) ->
     bG ρ K0 K1 out.av env K (fG env K o)=true->outGo ρ K1 K next pan out->gu P T o env K next pan:=by
     intro as0 K0 K1 out ρ he hwr hok h
     have hok':=hok
     simp only[bG,Bool.and_eq_true]at hok
     obtain⟨k1,k2,k3,k4,k5,k6⟩:=hok
     have hinj:=mJ k1
     have hdom:∀id,id∈aI ρ (keys K1)↔∃b,(cO ρ K1).get id=some b:=λid=>by rw[<-kL,bZ]
     have hsubs:∀d∈aI ρ (minus (keys K1) (keys K0)),d∈aI ρ (keys K1):=by
      intro d hd
      obtain⟨i,hi,rfl⟩:=au.1 hd
      exact au.2 ⟨i,(iZ.1 hi).1,rfl⟩
     have hnew:∀d∈aI ρ (minus (keys K1) (keys K0)),d∈minus (keys (uh K (cO ρ K1))) (keys K):=by
      intro d hd
      refine iZ.2 ⟨?_,?_⟩
      ·obtain⟨b,hb⟩:=(hdom d).1 (hsubs d hd)
       exact bZ.2 ⟨b,by rw[iF,hb]⟩
      ·intro hk
       obtain⟨b,hb⟩:=bZ.1 hk
       rw[(jF k4 d hd).2.2.2]at hb;simp at hb
     have hw:∀id∈aI ρ (keys K1),id∈wids T env K (uh K (cO ρ K1)) o:=by
      intro id hid
      rw[hwr,List.mem_append]
      by_cases h0:id∈aI ρ (minus (keys K1) (keys K0))
      ·exact .inr (hnew id h0)
      ·left
       obtain⟨i,hi,rfl⟩:=au.1 hid
       have h0':i∈keys K0:=by
        by_cases h0':i∈keys K0
        ·exact h0'
        ·exact absurd (au.2 ⟨i,iZ.2 ⟨hi,h0'⟩,rfl⟩) h0
       have:=bu.1 k3 _ (au.2 ⟨i,h0',rfl⟩)
       simp only[fG,ho,hc]at this
       exact this
     have hn:∀d∈aI ρ (minus (keys K1) (keys K0)),d∈eY T env K (uh K (cO ρ K1)) o:=by
      intro d hd
      simp only[eY,ho,hc]
      exact hnew d hd
     have hfr:∀d∈aI ρ (minus (keys K1) (keys K0)),bF d=false/\eG d env=false/\nZ d K=false:=λd hd=>by
      obtain⟨q1,q2,q3,_⟩:=jF k4 d hd;exact⟨q1,q2,q3⟩
     cases out with
     |ret x=>exact⟨false,_,_,_,_,by simp only[outGo]at h;rw[oU]at h;exact h,⟨hfr,hdom,hsubs,hw,hn,he⟩⟩
     |pan x=>exact⟨true,_,_,_,_,by simp only[outGo]at h;rw[oU]at h;exact h,⟨hfr,hdom,hsubs,hw,hn,he⟩⟩
   have callD:∀fid pre caps,zl (ev T env 0 f) fid pre caps->yY (aj P) (ax P) (fG env K o) fid (pre++iO T env c++caps) env K next pan->gu P T o env K next pan:=by
    intro fid pre caps hf h
    unfold yY at h
    split at h
    ·exact h.elim
    rename_i hny
    have lent:yZ fid (pre++iO T env c++caps)=false->DN (ax P) (fG env K o) fid (pre++iO T env c++caps) env K next pan->gu P T o env K next pan:=by
     rintro hro ⟨as0,K0,out,K1,ρ,hp,has,hsub,hok,h⟩
     have hp:FQ P fid as0 K0 out K1:=by
      rcases hp with hp |⟨rfl,_⟩
      ·exact hp.2
      ·simp at hny
     refine lentG (as0:=as0) (K0:=K0) (Vm (T:=T) (env:=env) (K:=K) ho hc hf hp has hsub hok) ?_ hok h
     rcases hf with⟨hf,rfl⟩ |⟨ds,hf,rfl,rfl⟩ |⟨hf,rfl⟩
     ·have hro':yZ fid ((c.args.toList.zipIdx.map λx=>ev T env (c.argTypes.getD x.2 0) x.1)++caps)=false:=hro
      simp only[wids,ho,hc,hf,hro']
     ·have hro':yZ fid ((c.args.toList.zipIdx.map λx=>ev T env (c.argTypes.getD x.2 0) x.1)++ds.map .data)=false:=hro
      simp only[wids,ho,hc,hf,hro']
     ·simp only[wids,ho,hc,hf]
    split at h
    ·rename_i ds hds
     rcases h with⟨out,hp,h⟩ |h
     ·have:=Vl (K:=K) ho hc hf hds hp
      cases out with
      |ret d=>exact⟨false,_,[],[],[],h,⟨by simp,by simp[Heap.get],by simp,by simp,by simp,this⟩⟩
      |pan d=>exact⟨true,_,[],[],[],h,⟨by simp,by simp[Heap.get],by simp,by simp,by simp,this⟩⟩
     ·exact lent (by simp only[yZ,hds]) h
    ·rename_i hds
     split at h
     ·unfold YA at h
      split at h
      ·rename_i ds hin hrd
       obtain⟨hlen,out,hp,h⟩:=zo h
       cases out with
       |ret d=>exact⟨false,_,[],[],[],h.2,⟨by simp,by simp[Heap.get],by simp,by simp,by simp,KW ho hc hf hin hlen hrd hp h.1⟩⟩
       |pan d=>exact⟨true,_,[],[],[],h.2,⟨by simp,by simp[Heap.get],by simp,by simp,by simp,KW ho hc hf hin hlen hrd hp h.1⟩⟩
      ·exact h.elim
     ·rename_i hro
      exact lent (by simp only[yZ,hds,hro]) h
   split at h
   ·rename_i fid caps hf
    exact callD fid [] caps (.inl ⟨hf,rfl⟩) h
   ·rename_i fid ds hf
    exact callD fid [] (ds.map .data) (.inr (.inl ⟨ds,hf,rfl,rfl⟩)) h
   ·rename_i fid first hf
    exact callD fid first [] (.inr (.inr ⟨hf,rfl⟩)) (by rw[List.append_nil];exact h)
   ·rename_i y hf
    obtain⟨as0,K0,out,K1,ρ,hp,has,hsub,hok,h⟩:=h
    have hp:I4 (Yields P) as0 K0 out K1:=by
     rcases hp with hp |⟨_,hp⟩
     ·exact absurd rfl hp.1
     ·exact hp
    refine lentG (as0:=as0) (K0:=K0) (QR (T:=T) (env:=env) (K:=K) ho hc hf hp has hsub hok) ?_ hok h
    simp only[wids,ho,hc,hf]
   ·exact h.elim
  ·exact h.elim
 ·obtain⟨r,wr,δ,h1,h2,h3,h4,h5,h6,h7⟩:=Vk (P:=P) hT h
  refine .old h4 <| .inl ⟨r,wr,δ,h1,h2,h3,?_,h7⟩
  cases wr with
  |no=>trivial
  |new d=>exact⟨h5 d rfl,h6 d (by simp[Wr.ids])⟩
  |st i=>exact h6 i (by simp[Wr.ids])
  |tk i=>exact h6 i (by simp[Wr.ids])
end
end Go.Fw
