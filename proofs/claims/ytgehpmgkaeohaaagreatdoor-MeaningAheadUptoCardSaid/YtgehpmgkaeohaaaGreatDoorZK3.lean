/- A part of the proof. -/
import Derived.Laws.StructEq
import Derived.ChangeKeysEq
import Derived.Test.YtgehpmgkaeohaaaGreatDoorZK2
set_option linter.all false
namespace Go.Fw
variable [ae] {w : World} {F : aS} {l : List KS}
theorem iI:∀{l:List KS} {ds:List D},pI l ds=true->ds.length=l.length:=by
 intro l
 induction l with
 |nil=>grind[pI]
 |cons k l ih=>intro ds h;cases ds with
  |nil=>simp[pI]at h
  |cons d ds=>simp[pI]at h;simp[ih h.2]
theorem oz:∀{l1 l2:List KS} {ds:List D},pI (l1++l2) ds=true->pI l1 (ds.take l1.length)=true/\pI l2 (ds.drop l1.length)=true:=by
 intro l1
 induction l1 with
 |nil=>intro l2 ds h;exact⟨by cases ds<;>rfl,by simpa using h⟩
 |cons k l1 ih=>
  intro l2 ds h
  cases ds with
  |nil=>simp[pI]at h
  |cons d ds=>
   grind[pI]
theorem yC:∀(n:Nat) (ds es:List D),ds.length=es.length->sameL ds es=(sameL (ds.take n) (es.take n)&&sameL (ds.drop n) (es.drop n)):=by
 intro n
 induction n with
 |zero=>grind[sameL]
 |succ n ih=>
  intro ds es h
  cases ds with
  |nil=>rfl
  |cons d ds=>
   cases es with
   |nil=>simp at h
   |cons e es=>
    simp[sameL]
    rw[ih ds es (by simpa using h),Bool.and_assoc]
theorem uX{k:KS}{d:D}{v:Value}(h:k.ok d=true)(hr:DRel F w d v):(∃j n,k = .int j/\d = .val (.int j n)/\v = .int j n)\/(∃s,k = .str/\d = .str s/\v = .string ⟨s.toArray⟩)\/(∃b,k = .bool/\d = .val (.bool b)/\v = .bool b):=by
 cases k with
 |int j=>
  cases d with
  |val u=>cases u<;>simp[KS.ok]at h;subst h;cases hr;simp
  |_=>simp[KS.ok]at h
 |str=>
  cases d with
  |str s=>cases hr;simp
  |_=>simp[KS.ok]at h
 |bool=>
  cases d with
  |val u=>cases u<;>simp[KS.ok]at h;cases hr;simp
  |_=>simp[KS.ok]at h
theorem Ip{k:KS}{a b:D}{v u:Value}(ha:k.ok a=true)(hb:k.ok b=true)(hv:DRel F w a v)(hu:DRel F w b u):sameS a b=true↔v=u:=by
 rcases uX ha hv with⟨j,n,rfl,rfl,rfl⟩ |⟨s,rfl,rfl,rfl⟩ |⟨c,rfl,rfl,rfl⟩<;>rcases uX hb hu with⟨j',n',e,rfl,rfl⟩ |⟨s',e,rfl,rfl⟩ |⟨c',e,rfl,rfl⟩<;>cases e<;>simp[sameS]
theorem UF:∀{l:List KS} {ds es:List D} {f g:Nat->Value},pI l ds=true->pI l es=true->(∀(i:Nat) d,ds[i]? = some d->DRel F w d (f i))->(∀(i:Nat) d,es[i]? = some d->DRel F w d (g i))->(sameL ds es=true↔∀i,i<l.length->f i=g i):=by
 intro l
 induction l with
 |nil=>grind[pI,sameL]
 |cons k l ih=>
  intro ds es f g h1 h2 h3 h4
  cases ds with
  |nil=>simp[pI]at h1
  |cons d ds=>
   cases es with
   |nil=>simp[pI]at h2
   |cons e es=>
    simp[pI]at h1 h2
    simp[sameL]
    rw[Ip h1.1 h2.1 (h3 0 d rfl) (h4 0 e rfl),ih (f:=λi=>f (i+1)) (g:=λi=>g (i+1)) h1.2 h2.2 (λi x hx=>h3 (i+1) x (by simpa using hx)) (λi x hx=>h4 (i+1) x (by simpa using hx))]
    constructor
    ·rintro⟨q1,q2⟩ i hi
     cases i with
     |zero=>exact q1
     |succ i=>simp_all
    simp_all
theorem tH{g:Bool}{a b:D}{v u:Value}(ha:iP g l a=true)(hb:iP g l b=true)(hv:DRel F w a v)(hu:DRel F w b u):dC a b=true↔v=u:=by
 cases g with
 |true=>
  cases a<;>simp[iP]at ha
  cases b<;>simp[iP]at hb
  cases hv with
  |agg _ vs hl hh=>
   cases hu with
   |agg _ us hl' hh'=>
    simp[dC]
    rw[UF ha hb hh hh']
    have e1:=iI ha
    have e2:=iI hb
    constructor
    ·intro q
     congr 1
     apply Array.ext<;>simp_all
    simp_all
 |false=>
  simp[iP]at ha hb
  split at ha
  ·have:dC a b=sameS a b:=by
    cases a<;>first |rfl |grind[KS.ok] |skip
   grind[Ip]
  ·simp at ha
section
variable {P : Program} {T : Tbl} (hT : iQ P T)
include hT
omit hT in
theorem D8{n:Nat}{t:TypeId}{l:List KS}(h:flat T n t=some l):∃g,T.sh t=some g:=by
 cases n with
 |zero=>simp[flat]at h
 |succ n=>
  simp only[flat]at h
  simp only[Tbl.sh]
  split at h<;>rename_i heq<;>first |(rw[heq];exact⟨_,rfl⟩) |(simp at h;done)
theorem UG:∀(n:Nat) (t:TypeId) (l:List KS),flat T n t=some l->l.length=(T.at t).size->∀(d:Nat) (F:aS) (w:World) (ds es:List D) (xs ys:Array Value) (off:Nat),pI l ds=true->pI l es=true ->
  (∀(i:Nat) x,ds[i]? = some x->DRel F w x (xs.getD (off+i) undef))->(∀(i:Nat) x,es[i]? = some x->DRel F w x (ys.getD (off+i) undef))->off+l.length<=xs.size->off+l.length<=ys.size ->
  ∃v u,(part t xs off).run P w = .ok v w/\(part t ys off).run P w = .ok u w/\(Op.equalIn (n+d) t v u).run P w = .ok (sameL ds es) w/\∀e,(Instr.checkKey e (n+d) t v).run P w = .ok () w:=by
 intro n
 induction n with
 |zero=>intro t l h;simp[flat]at h
 |succ n ih=>
  intro t l h hlen d F w ds es xs ys off hd he hdr her hx hy
  obtain⟨g,hg⟩:=D8 h
  have hscal:∀k,l = [k]->g=false->(∀(a b:D) (v u:Value),k.ok a=true->k.ok b=true->DRel F w a v->DRel F w b u->(Op.equalIn (n+1+d) t v u).run P w = .ok (sameS a b) w/\∀e,(Instr.checkKey e (n+1+d) t v).run P w = .ok () w) ->
    ∃v u,(part t xs off).run P w = .ok v w/\(part t ys off).run P w = .ok u w/\(Op.equalIn (n+1+d) t v u).run P w = .ok (sameL ds es) w/\∀e,(Instr.checkKey e (n+1+d) t v).run P w = .ok () w:=by
   intro k hl hgf hk
   subst hl hgf
   have e1:=iI hd
   have e2:=iI he
   obtain⟨a,rfl⟩:=List.length_eq_one_iff.1 e1
   obtain⟨b,rfl⟩:=List.length_eq_one_iff.1 e2
   simp only[pI,Bool.and_true]at hd he
   have ha:=hdr 0 a rfl
   have hb:=her 0 b rfl
   obtain⟨q1,q2⟩:=hk a b _ _ hd he ha hb
   refine⟨_,_,?_,?_,by simpa[sameL]using q1,q2⟩
   ·have hlt:off<xs.size:=by simp at hx;omega
    rw[gI hT hg];simp[hlt]
   ·have hlt:off<ys.size:=by simp at hy;omega
    rw[gI hT hg];simp[hlt]
  have hn1:n+1+d=n+d+1:=by omega
  simp only[flat]at h
  split at h
  ·rename_i k hty
   simp only[Option.some.injEq]at h
   refine hscal (.int k) h.symm ?_ λa b v u ka kb hv hu=>?_
   ·simp only[Tbl.sh,hty,Ty.sh,Option.some.injEq]at hg;exact hg.symm
   ·rcases uX ka hv with⟨j,m,e,rfl,rfl⟩ |⟨s,e,_⟩ |⟨c,e,_⟩<;>cases e
    rcases uX kb hu with⟨j,m',e,rfl,rfl⟩ |⟨s,e,_⟩ |⟨c,e,_⟩<;>cases e
    rw[hn1]
    exact⟨run_equalIn_int w _ t k k m m' (tu hT hty),λe=>by simp[Instr.checkKey,run_underlying (tu hT hty)]⟩
  ·rename_i hty
   simp only[Option.some.injEq]at h
   refine hscal .str h.symm ?_ λa b v u ka kb hv hu=>?_
   ·simp only[Tbl.sh,hty,Ty.sh,Option.some.injEq]at hg;exact hg.symm
   ·rcases uX ka hv with⟨j,m,e,_⟩ |⟨s,_,rfl,rfl⟩ |⟨c,e,_⟩<;>try cases e
    rcases uX kb hu with⟨j,m,e,_⟩ |⟨s',_,rfl,rfl⟩ |⟨c,e,_⟩<;>try cases e
    rw[hn1]
    refine⟨?_,λe=>by simp[Instr.checkKey,run_underlying (mM hT hty)]⟩
    rw[run_equalIn_string w _ t _ _ (mM hT hty),ByteArray.toList_mk,ByteArray.toList_mk];rfl
  ·rename_i hty
   simp only[Option.some.injEq]at h
   refine hscal .bool h.symm ?_ λa b v u ka kb hv hu=>?_
   ·simp only[Tbl.sh,hty,Ty.sh,Option.some.injEq]at hg;exact hg.symm
   ·rcases uX ka hv with⟨j,m,e,_⟩ |⟨s,e,_⟩ |⟨c,_,rfl,rfl⟩<;>try cases e
    rcases uX kb hu with⟨j,m,e,_⟩ |⟨s,e,_⟩ |⟨c',_,rfl,rfl⟩<;>try cases e
    rw[hn1]
    exact⟨run_equalIn_bool' w _ t c c' (uJ hT hty),λe=>by simp[Instr.checkKey,run_underlying (uJ hT hty)]⟩
  ·rename_i fs hty
   split at h<;>try(simp at h;done)
   rename_i heqs
   obtain⟨_,hstood,hfa⟩:=(hT t).eqs heqs
   have hdesc:=(hT t).desc
   rw[hty]at hdesc
   obtain⟨fields',hu',hfs⟩:=hdesc
   obtain⟨fields,hu,hnames⟩:∃fields:Array Field,P.underlying t=some (.struct fields)/\∀f∈fields.toList,f.name ≠ "_":=by
    rcases hfa with h |⟨_,_,h⟩
    ·exact h
    ·rw[h]at hu';cases hu'
   rw[hu]at hu'
   simp only[Option.some.injEq,TypeDesc.struct.injEq]at hu'
   subst hu'
   have hgt:g=true:=by simp only[Tbl.sh,hty,Ty.sh,Option.some.injEq]at hg;exact hg.symm
   subst hgt
   have hfo:P.fieldsOf t=fields:=by simp[Program.fieldsOf,hu]
   have inner:∀(fl:List Field) (o:Nat) (l':List KS) (ds es:List D) (xs ys:Array Value),Ie T (flat T n) o (fl.map λf=>(f.offset,f.type))=some l'->(∀f∈fl,f.name ≠ "_")->pI l' ds=true->pI l' es=true ->
     (∀(i:Nat) x,ds[i]? = some x->DRel F w x (xs.getD (o+i) undef))->(∀(i:Nat) x,es[i]? = some x->DRel F w x (ys.getD (o+i) undef))->o+l'.length<=xs.size->o+l'.length<=ys.size ->
     (Op.eqFields (n+d) xs ys fl).run P w = .ok (sameL ds es) w/\∀e,((forIn fl PUnit.unit λf (_:PUnit)=>if f.name ≠ "_" then do Instr.checkKey e (n+d) f.type (<-part f.type xs f.offset);pure (ForInStep.yield PUnit.unit)else pure (ForInStep.yield PUnit.unit)):Sem PUnit).run P w = .ok PUnit.unit w:=by
    intro fl
    induction fl with
    |nil=>
     intro o l' ds es xs ys hfl _ h1 h2 _ _ _ _
     simp only[List.map_nil,Ie,Option.some.injEq]at hfl
     subst hfl
     cases ds<;>cases es<;>simp[pI]at h1 h2
     exact⟨rfl,λe=>rfl⟩
    |cons f fl ihf=>
     intro o l' ds es xs ys hfl hnm h1 h2 h3 h4 h5 h6
     simp only[List.map_cons,Ie]at hfl
     split at hfl
     ·rename_i l1 hl1
      split at hfl
      ·rename_i hb
       simp only[Bool.and_eq_true]at hb
       have hb1:=Nat.eq_of_beq_eq_true hb.1
       have hb2:=Nat.eq_of_beq_eq_true hb.2
       split at hfl
       ·rename_i l2 hl2
        simp only[Option.some.injEq]at hfl;subst hfl
        obtain⟨p1,p2⟩:=oz h1
        obtain⟨p3,p4⟩:=oz h2
        have hsub:∀{qs:List D} {zs:Array Value},(∀(i:Nat) x,qs[i]? = some x->DRel F w x (zs.getD (o+i) undef))->(∀(i:Nat) x,(qs.take l1.length)[i]? = some x->DRel F w x (zs.getD (o+i) undef))/\(∀(i:Nat) x,(qs.drop l1.length)[i]? = some x->DRel F w x (zs.getD (o+(T.at f.type).size+i) undef)):=by
         intro qs zs hq
         refine⟨λi x hx=>?_,λi x hx=>?_⟩
         ·rw[List.getElem?_take]at hx
          split at hx
          ·exact hq i x hx
          ·simp at hx
         ·rw[List.getElem?_drop]at hx
          have:=hq _ x hx
          rwa[hb2,show o+((T.at f.type).size+i)=o+(T.at f.type).size+i by omega]at this
        simp only[List.length_append]at h5 h6
        obtain⟨v,u,r1,r2,r3,r4⟩:=ih f.type l1 hl1 hb2 d F w _ _ xs ys o p1 p3 (hsub h3).1 (hsub h4).1 (by omega) (by omega)
        obtain⟨s1,s2⟩:=ihf (o+(T.at f.type).size) l2 _ _ xs ys hl2 (λf' hf'=>hnm f' (by simp[hf'])) p2 p4 (hsub h3).2 (hsub h4).2 (by omega) (by omega)
        have hne:f.name ≠ "_":=hnm f (by simp)
        refine⟨?_,λe=>?_⟩
        ·simp only[Op.eqFields,if_pos hne,Sem.run_bind,hb1,r1,r2,r3,Result.andThen_ok]
         rw[yC l1.length ds es (by rw[iI h1,iI h2])]
         cases hsm:sameL (ds.take l1.length) (es.take l1.length)with
         |false=>simp
         |true=>simp[s1]
        ·simp only[List.forIn_cons,if_pos hne,Sem.run_bind,hb1,r1,r4 e,Result.andThen_ok,Sem.run_pure]
         exact s2 e
       ·simp at hfl
      ·simp at hfl
     ·simp at hfl
   have hshift:∀{qs:List D} {zs:Array Value},pI l qs=true->off+l.length<=zs.size->(∀(i:Nat) x,qs[i]? = some x->DRel F w x (zs.getD (off+i) undef))->∀(i:Nat) x,qs[i]? = some x->DRel F w x ((zs.extract off (off+(T.at t).size)).getD (0+i) undef):=by
    intro qs zs hq hz h i x hx
    have hi:i<l.length:=by rw[<-iI hq];exact(List.getElem?_eq_some_iff.1 hx).1
    have:=h i x hx
    have e:(zs.extract off (off+(T.at t).size)).getD (0+i) undef=zs.getD (off+i) undef:=by
     simp only[Array.getD_eq_getD_getElem?,Nat.zero_add,Array.getElem?_extract]
     rw[if_pos (by omega)]
    rwa[e]
   obtain⟨q1,q2⟩:=inner fields.toList 0 l ds es (xs.extract off (off+(T.at t).size)) (ys.extract off (off+(T.at t).size)) (by rw[hfs];exact h) hnames hd he (hshift hd hx hdr) (hshift he hy her) (by simp;omega) (by simp;omega)
   refine⟨.agg (xs.extract off (off+(T.at t).size)),.agg (ys.extract off (off+(T.at t).size)),by rw[gI hT hg];rfl,by rw[gI hT hg];rfl,?_,λe=>?_⟩
   ·rw[hn1,run_equalIn_struct w (n+d) t _ _ (by rw[hfo];exact hu) hstood,hfo];exact q1
   ·rw[hn1]
    simp only[Instr.checkKey,Sem.run_bind,run_underlying hu,Result.andThen_ok]
    rw[<-Array.forIn_toList]
    have:=q2 e
    simp only[Array.forIn_toList]at this
    simp only[Array.forIn_toList]
    refine Eq.trans (congrArg (λr=>Result.andThen r λ(_:PUnit) w'=>Result.ok () w') ?_) (show Result.andThen (Result.ok PUnit.unit w) _=_ from rfl)
    simpa using this
  ·rename_i m e hty
   split at h
   ·rename_i heqs
    split at h
    ·rename_i l1 hl1
     split at h
     ·rename_i hb
      have hb:=Nat.eq_of_beq_eq_true hb
      simp only[Option.some.injEq]at h
      subst h
      have hu:=nH hT hty
      have hgt:g=true:=by simp only[Tbl.sh,hty,Ty.sh,Option.some.injEq]at hg;exact hg.symm
      subst hgt
      obtain⟨ge,hge⟩:=D8 hl1
      obtain⟨ie,hie,hsz,_⟩:=y5 hT (show T.sh e≠none by rw[hge];simp)
      have hc:P.cellsOf e=(T.at e).size:=by simp[Program.cellsOf,hie,hsz]
      have hrl:∀m,(Ud l1 m).length=m * (T.at e).size:=by
       intro m
       induction m with
       |zero=>simp[Ud]
       |succ m im=>simp only[Ud,List.length_append,im,hb];rw[Nat.succ_mul];omega
      have inner:∀(m o:Nat) (ds es:List D) (xs ys:Array Value),pI (Ud l1 m) ds=true->pI (Ud l1 m) es=true ->
        (∀(i:Nat) x,ds[i]? = some x->DRel F w x (xs.getD (o * (T.at e).size+i) undef))->(∀(i:Nat) x,es[i]? = some x->DRel F w x (ys.getD (o * (T.at e).size+i) undef))->o * (T.at e).size+m * (T.at e).size<=xs.size->o * (T.at e).size+m * (T.at e).size<=ys.size ->
        (Op.eqItems (n+d) e (T.at e).size xs ys (List.range' o m)).run P w = .ok (sameL ds es) w/\∀em,((forIn (List.range' o m) PUnit.unit λi (_:PUnit)=>do Instr.checkKey em (n+d) e (<-part e xs (i * (<-sizeOf e)));pure (ForInStep.yield PUnit.unit)):Sem PUnit).run P w = .ok PUnit.unit w:=by
       intro m
       induction m with
       |zero=>
        intro o ds es xs ys h1 h2 _ _ _ _
        cases ds<;>cases es<;>simp[Ud,pI]at h1 h2
        exact⟨rfl,λem=>rfl⟩
       |succ m im=>
        intro o ds es xs ys h1 h2 h3 h4 h5 h6
        simp only[Ud]at h1 h2
        obtain⟨p1,p2⟩:=oz h1
        obtain⟨p3,p4⟩:=oz h2
        have hsub:∀{qs:List D} {zs:Array Value},(∀(i:Nat) x,qs[i]? = some x->DRel F w x (zs.getD (o * (T.at e).size+i) undef))->(∀(i:Nat) x,(qs.take l1.length)[i]? = some x->DRel F w x (zs.getD (o * (T.at e).size+i) undef))/\(∀(i:Nat) x,(qs.drop l1.length)[i]? = some x->DRel F w x (zs.getD ((o+1) * (T.at e).size+i) undef)):=by
         intro qs zs hq
         refine⟨λi x hx=>?_,λi x hx=>?_⟩
         ·rw[List.getElem?_take]at hx
          split at hx
          ·exact hq i x hx
          ·simp at hx
         ·rw[List.getElem?_drop]at hx
          have:=hq _ x hx
          rwa[hb,show o * (T.at e).size+((T.at e).size+i)=(o+1) * (T.at e).size+i by rw[Nat.succ_mul];omega]at this
        rw[Nat.succ_mul]at h5 h6
        have h7:(o+1) * (T.at e).size=o * (T.at e).size+(T.at e).size:=Nat.succ_mul _ _
        obtain⟨v,u,r1,r2,r3,r4⟩:=ih e l1 hl1 hb d F w _ _ xs ys (o * (T.at e).size) p1 p3 (hsub h3).1 (hsub h4).1 (by omega) (by omega)
        obtain⟨s1,s2⟩:=im (o+1) _ _ xs ys p2 p4 (hsub h3).2 (hsub h4).2 (by omega) (by omega)
        refine⟨?_,λem=>?_⟩
        ·simp only[List.range'_succ,Op.eqItems,Sem.run_bind,r1,r2,r3,Result.andThen_ok]
         rw[yC l1.length ds es (by rw[iI h1,iI h2])]
         cases hsm:sameL (ds.take l1.length) (es.take l1.length)with
         |false=>simp
         |true=>simp[s1]
        ·simp only[List.range'_succ,List.forIn_cons,Sem.run_bind,run_sizeOf' hT (show T.sh e≠none by rw[hge];simp),r1,r4 em,Result.andThen_ok,Sem.run_pure]
         exact s2 em
      have hml:m * (T.at e).size=(T.at t).size:=by rw[<-hlen,hrl]
      have hshift:∀{qs:List D} {zs:Array Value},pI (Ud l1 m) qs=true->off+(Ud l1 m).length<=zs.size->(∀(i:Nat) x,qs[i]? = some x->DRel F w x (zs.getD (off+i) undef))->∀(i:Nat) x,qs[i]? = some x->DRel F w x ((zs.extract off (off+(T.at t).size)).getD (0 * (T.at e).size+i) undef):=by
       intro qs zs hq hz h i x hx
       have hi:i<(Ud l1 m).length:=by rw[<-iI hq];exact(List.getElem?_eq_some_iff.1 hx).1
       have:=h i x hx
       have e:(zs.extract off (off+(T.at t).size)).getD (0 * (T.at e).size+i) undef=zs.getD (off+i) undef:=by
        simp only[Array.getD_eq_getD_getElem?,Nat.zero_mul,Nat.zero_add,Array.getElem?_extract]
        rw[if_pos (by omega)]
       rwa[e]
      rw[hlen]at hx hy
      obtain⟨q1,q2⟩:=inner m 0 ds es (xs.extract off (off+(T.at t).size)) (ys.extract off (off+(T.at t).size)) hd he (hshift hd (by omega) hdr) (hshift he (by omega) her) (by simp;omega) (by simp;omega)
      refine⟨.agg (xs.extract off (off+(T.at t).size)),.agg (ys.extract off (off+(T.at t).size)),by rw[gI hT hg];rfl,by rw[gI hT hg];rfl,?_,λem=>?_⟩
      ·rw[hn1,run_equalIn_array w (n+d) _ _ hu hie,hc,List.range_eq_range'];exact q1
      ·rw[hn1]
       simp only[Instr.checkKey,Sem.run_bind,run_underlying hu,Result.andThen_ok,Std.Legacy.Range.forIn_eq_forIn_range',Std.Legacy.Range.size,Nat.sub_zero,Nat.add_one_sub_one,Nat.div_one]
       refine Eq.trans (congrArg (λr=>Result.andThen r λ(_:PUnit) w'=>Result.ok () w') ?_) (show Result.andThen (Result.ok PUnit.unit w) _=_ from rfl)
       have:=q2 em
       simpa using this
     ·simp at h
    ·simp at h
   ·simp at h
  ·simp at h
omit hT in
theorem uY{t:TypeId}{g:Bool}{l:List KS}(h:FK T t=some (g,l)):flat T 8 t=some l/\T.sh t=some g/\l.length=(T.at t).size:=by
 unfold FK at h
 split at h
 ·rename_i l' g' h1 h2
  split at h
  ·rename_i hb
   simp only[Option.some.injEq,Prod.mk.injEq]at h
   obtain⟨rfl,rfl⟩:=h
   exact⟨h1,h2,Nat.eq_of_beq_eq_true hb⟩
  ·simp at h
 ·simp at h
theorem D9{t:TypeId}{g:Bool}{l:List KS}(h:FK T t=some (g,l)){F:aS}{w:World}{a b:D}{v u:Value}(ha:iP g l a=true)(hb:iP g l b=true)(hv:DRel F w a v)(hu:DRel F w b u) :
  (Op.equal t v u).run P w = .ok (dC a b) w/\∀e,(Instr.checkKey e 10000 t v).run P w = .ok () w:=by
 obtain⟨h1,h2,h3⟩:=uY h
 cases g with
 |true=>
  cases a<;>simp[iP]at ha
  cases b<;>simp only[iP,Bool.false_eq_true]at hb
  rename_i ds es
  cases hv with
  |agg _ vs hl hh=>
   cases hu with
   |agg _ us hl' hh'=>
    have e1:=iI ha
    have e2:=iI hb
    obtain⟨v,u,q1,q2,q3,q4⟩:=UG hT 8 t l h1 h3 9992 F w ds es vs us 0 ha hb (by simpa using hh) (by simpa using hh') (by omega) (by omega)
    rw[gI hT h2]at q1 q2
    simp at q1 q2
    have x1:vs.extract 0 (T.at t).size=vs:=by simp_all
    have x2:us.extract 0 (T.at t).size=us:=by simp_all
    rw[x1]at q1;rw[x2]at q2
    subst q1 q2
    exact⟨q3,q4⟩
 |false=>
  simp only[iP]at ha hb
  split at ha<;>try(simp at ha)
  rename_i k
  have:dC a b=sameS a b:=by
   cases a<;>first |rfl |grind[KS.ok] |skip
  obtain⟨v',u',q1,q2,q3,q4⟩:=UG hT 8 t [k] h1 h3 9992 F w [a] [b] #[v] #[u] 0 (by grind[pI]) (by grind[pI])
   (λi x hx=>by cases i<;>simp at hx;subst hx;simpa using hv) (λi x hx=>by cases i<;>simp at hx;subst hx;simpa using hu) (by simp) (by simp)
  rw[gI hT h2]at q1 q2
  simp at q1 q2
  subst q1 q2
  refine⟨?_,q4⟩
  show(Op.equalIn 10000 t v u).run P w=_
  grind[sameL]
end
def xe(k:D):List (D×D)->List MapEntry->Nat->Option (Nat×Value)
 |(a,_)::r,m::s,i=>match dC k a with |true=>some (i,m.val) |false=>xe k r s (i+1)
 |_,_,_=>none
theorem Ea{F:aS}{w:World}{g:Bool}{l:List KS}{k:D}{kv:Value}(hk:iP g l k=true)(hkv:DRel F w k kv):∀(es:List (D×D)) (ml:List MapEntry) (i0:Nat),ml.length=es.length ->
  (∀(i:Nat) (x:D×D),es[i]? = some x->iP g l x.1=true/\∃m:MapEntry,ml[i]? = some m/\DRel F w x.1 m.key/\DRel F w x.2 m.val) ->
  (nV k es=none/\xe k es ml i0=none/\(∀m∈ml,m.key≠kv)/\∀v,mput k v es=es++[(k,v)]) \/
  ∃(i:Nat) (a d:D) (m:MapEntry),es[i]? = some (a,d)/\ml[i]? = some m/\xe k es ml i0=some (i0+i,m.val)/\nV k es=some d/\m.key=kv/\∀v,mput k v es=es.set i (k,v):=by
 intro es
 induction es with
 |nil=>intro ml i0 hl h;cases ml<;>simp at hl;exact .inl ⟨rfl,rfl,by simp,λv=>rfl⟩
 |cons x r ih=>
  intro ml i0 hl h
  obtain⟨a,d⟩:=x
  cases ml with
  |nil=>simp at hl
  |cons m s=>
   obtain⟨h1,m',h2,h3,h4⟩:=h 0 (a,d) rfl
   simp at h2
   subst h2
   cases hs:dC k a with
   |true=>
    have:=(tH hk h1 hkv h3).1 hs
    exact .inr ⟨0,a,d,m,rfl,rfl,by simp[xe,hs],by simp[nV,hs],this.symm,λv=>by simp[mput,hs]⟩
   |false=>
    have hne:m.key≠kv:=λe=>by grind[tH]
    rcases ih s (i0+1) (by simpa using hl) (λi x hx=>by
     obtain⟨p1,m',p2,p3⟩:=h (i+1) x (by simpa using hx)
     simp_all)with⟨q1,q2,q3,q4⟩ |⟨i,a',d',m',q1,q2,q3,q4,q5,q6⟩
    ·exact .inl ⟨by grind[nV],by grind[xe],λm' hm'=>by
      grind,λv=>by grind[mput]⟩
    ·exact .inr ⟨i+1,a',d',m',by simpa using q1,by simpa using q2,by grind[xe],by grind[nV],q5,λv=>by grind[mput]⟩
theorem LD{F:aS}{w:World}{g:Bool}{l:List KS}{k:D}{v:Value}(hk:iP g l k=true)(hv:DRel F w k v)(n:Nat):Instr.sameBits (n+1) v v=true:=by
 have scal:∀(q:KS) (d:D) (u:Value) (n:Nat),q.ok d=true->DRel F w d u->Instr.sameBits n u u=true:=by
  intro q d u n h1 h2
  rcases uX h1 h2 with⟨j,m,_,_,rfl⟩ |⟨s,_,_,rfl⟩ |⟨c,_,_,rfl⟩<;>cases n<;>simp[Instr.sameBits,MapKept.bytes_beq]
 cases g with
 |true=>
  cases k<;>simp only[iP,Bool.false_eq_true]at hk
  rename_i ds
  cases hv with
  |agg _ vs hl hh=>
   simp only[Instr.sameBits,beq_self_eq_true,Bool.true_and]
   rw[List.all_eq_true]
   intro x hx
   obtain⟨i,hi⟩:=List.mem_iff_getElem?.1 hx
   rw[List.getElem?_zip_eq_some]at hi
   obtain⟨h1,h2⟩:=hi
   have hlt:i<vs.size:=by grind
   obtain⟨x1,x2⟩:=x
   rw[h1]at h2
   simp at h2
   subst h2
   have hd:=hh i (ds[i]'(by omega)) (by simp)
   have hv:vs.getD i undef=x1:=by
    simp_all
   have hks:∀{l:List KS} {ds:List D} {i:Nat} {d:D},pI l ds=true->ds[i]? = some d->∃q:KS,q.ok d=true:=by
    intro l
    induction l with
    |nil=>grind[pI]
    |cons q l ih=>
     intro ds i d h h'
     cases ds with
     |nil=>simp[pI]at h
     |cons d0 ds=>
      simp only[pI]at h
      grind
   obtain⟨q,hq⟩:=hks (i:=i) (d:=ds[i]'(by omega)) hk (by simp)
   grind
 |false=>
  simp only[iP]at hk
  grind
def eqB(op:BinOp)(b:Bool):Bool:=match op with | .eql=>b |_=>!b
theorem jg{N:aS}{M:Mem}{w:World}{op:BinOp}{b:Bool}:aF N M w (kS op b) (.bool (eqB op b)):=by
 cases op<;>exact .data _ _ (.val _)
theorem uZ{P:Program}{op:BinOp}(hop:op = .eql\/op = .neq){t:TypeId}{xo yo:Operand}{v u:Value}{b:Bool}{w:World}(hg:(eqGuard op t xo yo v u).run P w = .ok () w)(hni:(∀k n,v ≠ .int k n)/\(∀k n,v ≠ .float k n)/\(∀k n m,v ≠ .complex k n m)/\(∀s,v ≠ .string s))(he:(Op.equal t v u).run P w = .ok b w) :
  (do eqGuard op t xo yo v u;binOp op t v u:Sem Value).run P w = .ok (.bool (eqB op b)) w:=by
 rw[Sem.run_bind,hg]
 obtain⟨h1,h2,h3,h4⟩:=hni
 rcases hop with rfl |rfl
 ·have:binOp .eql t v u=(do pure (.bool (<-Op.equal t v u))):=by
   cases v<;>first
    |exact absurd rfl (h1 _ _)
    |exact absurd rfl (h2 _ _)
    |exact absurd rfl (h3 _ _ _)
    |exact absurd rfl (h4 _)
    |rfl
  rw[this]
  simp[he,eqB]
 ·have:binOp .neq t v u=(do pure (.bool (!(<-Op.equal t v u)))):=by
   cases v<;>first
    |exact absurd rfl (h1 _ _)
    |exact absurd rfl (h2 _ _)
    |exact absurd rfl (h3 _ _ _)
    |exact absurd rfl (h4 _)
    |rfl
  rw[this]
  simp[he,eqB]
theorem UH{op:BinOp}{x:AV}(h:Ot op x=true):op = .eql\/op = .neq:=by
 unfold Ot at h
 grind
theorem jB{P:Program}{op:BinOp}(hop:op = .eql\/op = .neq){t:TypeId}{xo yo:Operand}{v u:Value}{w:World}(h1:¬(v = .nilIface/\u = .nilIface))(h2:∀xs ys,¬(v = .agg xs/\u = .agg ys)):(eqGuard op t xo yo v u).run P w = .ok () w:=by
 have key:∀(p q:Sem Unit),(match(generalizing:=false) v,u with | .nilIface,.nilIface=>p | .agg _,.agg _=>q |_,_=>pure ():Sem Unit).run P w = .ok () w:=by
  simp_all
 rcases hop with rfl |rfl<;>exact key _ _
theorem YR{P:Program}{w:World}{t:TypeId}(h:P.underlying t=some .bool)(a b:Bool):(Op.equal t (.bool a) (.bool b)).run P w = .ok (a==b) w:=run_equalIn_bool' w 9999 t a b h
theorem zc0{P:Program}{w:World}{t:TypeId}{ms}(h:P.underlying t=some (.interface ms))(d:TypeId)(v:Value):(Op.equal t (.iface d v) .nilIface).run P w = .ok false w:=by
 have:∀n,(Op.equalIn (n+1) t (.iface d v) .nilIface).run P w = .ok false w:=λn=>by simp only[Op.equalIn,Sem.run_bind,run_underlying h];rfl
 exact this 9999
theorem zc1{P:Program}{w:World}{t:TypeId}{ms}(h:P.underlying t=some (.interface ms))(d:TypeId)(v:Value):(Op.equal t .nilIface (.iface d v)).run P w = .ok false w:=by
 have:∀n,(Op.equalIn (n+1) t .nilIface (.iface d v)).run P w = .ok false w:=λn=>by simp only[Op.equalIn,Sem.run_bind,run_underlying h];rfl
 exact this 9999
theorem zc2{P:Program}{w:World}{t:TypeId}{ms}(h:P.underlying t=some (.interface ms)):(Op.equal t .nilIface .nilIface).run P w = .ok true w:=by
 have:∀n,(Op.equalIn (n+1) t .nilIface .nilIface).run P w = .ok true w:=λn=>by simp only[Op.equalIn,Sem.run_bind,run_underlying h];rfl
 exact this 9999
theorem zc3{P:Program}{w:World}{t e:TypeId}(h:P.underlying t=some (.pointer e))(a:Addr):(Op.equal t (.pointer (some a)) (.pointer none)).run P w = .ok false w:=by
 have:∀n,(Op.equalIn (n+1) t (.pointer (some a)) (.pointer none)).run P w = .ok false w:=λn=>by simp only[Op.equalIn,Sem.run_bind,run_underlying h];rfl
 exact this 9999
theorem zc4{P:Program}{w:World}{t e:TypeId}(h:P.underlying t=some (.pointer e)):(Op.equal t (.pointer none) (.pointer none)).run P w = .ok true w:=by
 have:∀n,(Op.equalIn (n+1) t (.pointer none) (.pointer none)).run P w = .ok true w:=λn=>by simp only[Op.equalIn,Sem.run_bind,run_underlying h];rfl
 exact this 9999
theorem Ae{d:TypeDesc}{v u:Value}{b:Bool}(h:Instr.sameNow d v u=some b):b=true↔v=u:=by
 unfold Instr.sameNow at h
 grind[MapKept.bytes_beq]
section
variable {P : Program} {T : Tbl} (hT : iQ P T)
include hT
theorem FU{kt:TypeId}{g:Bool}{l:List KS}(hkt:FK T kt=some (g,l)){F:aS}{w:World}{k:D}{kv:Value}(hk:iP g l k=true)(hkv:DRel F w k kv)(es:List (D×D))(ml:List MapEntry)(hl:ml.length=es.length)
  (h:∀(i:Nat) (x:D×D),es[i]? = some x->iP g l x.1=true/\∃m:MapEntry,ml[i]? = some m/\DRel F w x.1 m.key/\DRel F w x.2 m.val):(Instr.findKey kt kv ml).run P w = .ok (xe k es ml 0) w:=by
 have asking:∀(es:List (D×D)) (ml:List MapEntry) (i0:Nat),ml.length=es.length->(∀(i:Nat) (x:D×D),es[i]? = some x->iP g l x.1=true/\∃m:MapEntry,ml[i]? = some m/\DRel F w x.1 m.key/\DRel F w x.2 m.val)->(Instr.findAsking kt kv ml i0).run P w = .ok (xe k es ml i0) w:=by
  intro es
  induction es with
  |nil=>intro ml i0 hl _;cases ml<;>simp at hl;rfl
  |cons x r ih=>
   intro ml i0 hl h
   cases ml with
   |nil=>simp at hl
   |cons m s=>
    obtain⟨h1,m',h2,h3,h4⟩:=h 0 x rfl
    simp at h2
    subst h2
    simp only[Instr.findAsking,Sem.run_bind,(D9 hT hkt hk h1 hkv h3).1]
    simp only[xe]
    cases hs:dC k x.1 with
    |true=>simp
    |false=>
     exact ih s (i0+1) (by simpa using hl) λi y hy=>by
      obtain⟨p1,m',p2,p3⟩:=h (i+1) y (by simpa using hy)
      simp_all
 have now:∀(d:TypeDesc) (es:List (D×D)) (ml:List MapEntry) (i0:Nat) r,ml.length=es.length->(∀(i:Nat) (x:D×D),es[i]? = some x->iP g l x.1=true/\∃m:MapEntry,ml[i]? = some m/\DRel F w x.1 m.key/\DRel F w x.2 m.val)->Instr.findNow d kv ml i0=some r->r=xe k es ml i0:=by
  intro d es
  induction es with
  |nil=>grind[Instr.findNow,xe]
  |cons x q ih=>
   intro ml i0 r hl h hr
   cases ml with
   |nil=>simp at hl
   |cons m s=>
    obtain⟨h1,m',h2,h3,h4⟩:=h 0 x rfl
    simp at h2
    subst h2
    simp only[Instr.findNow]at hr
    have hks:=tH hk h1 hkv h3
    simp only[xe]
    split at hr
    ·rename_i hn
     have:=hks.2 ((Ae hn).1 rfl)
     grind
    ·have hne:dC k x.1=false:=by
      grind[dC,Ae]
     rw[hne]
     exact ih s (i0+1) r (by simpa using hl) (λi y hy=>by
      obtain⟨p1,m',p2,p3⟩:=h (i+1) y (by simpa using hy)
      grind) hr
    ·simp at hr
 obtain⟨h1,h2,h3⟩:=uY hkt
 have hu:∃d,P.underlying kt=some d:=by
  have hd:=(hT kt).desc
  simp only[Tbl.sh]at h2
  cases hty:(T.at kt).ty<;>simp only[hty,Lp,Ty.sh]at hd h2<;>first
   |exact⟨_,hd⟩
   |grind
   |grind
   |grind
   |simp at h2
 obtain⟨d,hu⟩:=hu
 simp only[Instr.findKey,Sem.run_bind,run_underlying hu,Result.andThen_ok]
 split
 ·rename_i r hr
  rw[now d es ml 0 r hl h hr];rfl
 grind
theorem z6k{t:TypeId}{op:BinOp}(hop:op = .eql\/op = .neq){xo yo:Operand}{x y:AV}{K:Heap}{next:Next}(h:zcj T t op xo yo x y K next) :
  ∃r,next r K/\∀N M w vx vy,aF N M w x vx->aF N M w y vy->∃z,(do eqGuard op t xo yo vx vy;binOp op t vx vy:Sem Value).run P w = .ok z w/\aF N M w r z:=by
 unfold zcj at h
 split at h
 ·rename_i fs hty
  split at h<;>try exact h.elim
  rename_i ds es
  split at h
  ·rename_i l hkt
   obtain⟨⟨h1,h2⟩,h⟩:=h
   refine⟨_,h,λN M w vx vy hx hy=>?_⟩
   cases hx with |data _ _ hx=>cases hy with |data _ _ hy=>
   obtain⟨q1,_⟩:=D9 (P:=P) hT hkt (a:=.agg ds) (b:=.agg es) (by grind[iP]) (by grind[iP]) hx hy
   obtain⟨p1,p2,p3⟩:=uY hkt
   have heqs:(T.at t).eqs=true:=by
    grind[flat]
   obtain⟨hgu,_,_⟩:=(hT t).eqs heqs
   cases hx with |agg _ xs _ _=>cases hy with |agg _ ys _ _=>
   exact⟨_,uZ hop (run_eqGuard_agg w op t xo yo xs ys hgu) (by simp) q1,jg⟩
  ·exact h.elim
 ·rename_i m e hty
  split at h<;>try exact h.elim
  rename_i ds es
  split at h
  ·rename_i l hkt
   obtain⟨⟨h1,h2⟩,h⟩:=h
   refine⟨_,h,λN M w vx vy hx hy=>?_⟩
   cases hx with |data _ _ hx=>cases hy with |data _ _ hy=>
   obtain⟨q1,_⟩:=D9 (P:=P) hT hkt (a:=.agg ds) (b:=.agg es) (by grind[iP]) (by grind[iP]) hx hy
   obtain⟨p1,p2,p3⟩:=uY hkt
   have heqs:(T.at t).eqs=true:=by
    grind[flat]
   obtain⟨hgu,_,_⟩:=(hT t).eqs heqs
   cases hx with |agg _ xs _ _=>cases hy with |agg _ ys _ _=>
   exact⟨_,uZ hop (run_eqGuard_agg w op t xo yo xs ys hgu) (by simp) q1,jg⟩
  ·exact h.elim
 ·rename_i hty
  split at h
  ·rename_i a b
   refine⟨_,h,λN M w vx vy hx hy=>?_⟩
   obtain rfl:=hx.bool
   obtain rfl:=hy.bool
   refine⟨_,uZ hop (jB hop (by simp) (by simp)) (by simp) (b:=a==b) ?_,jg⟩
   grind[YR,uJ]
  ·exact h.elim
 ·rename_i hty
  have hd:=(hT t).desc
  rw[hty]at hd
  obtain⟨ms,hu⟩:=hd
  have iface1:∀{N M w vx vy},(∃d v,vx = .iface d v)->vy = .nilIface->∃z,(do eqGuard op t xo yo vx vy;binOp op t vx vy:Sem Value).run P w = .ok z w/\aF N M w (kS op false) z:=by
   rintro N M w vx vy ⟨d,v,rfl⟩ rfl
   refine⟨_,uZ hop (jB hop (by simp) (by simp)) (by simp) (b:=false) ?_,jg⟩
   exact zc0 hu d v
  have iface2:∀{N M w vx vy},(∃d v,vy = .iface d v)->vx = .nilIface->∃z,(do eqGuard op t xo yo vx vy;binOp op t vx vy:Sem Value).run P w = .ok z w/\aF N M w (kS op false) z:=by
   rintro N M w vx vy ⟨d,v,rfl⟩ rfl
   refine⟨_,uZ hop (jB hop (by simp) (by simp)) (by simp) (b:=false) ?_,jg⟩
   exact zc1 hu d v
  split at h
  ·obtain⟨hc,h⟩:=h
   refine⟨_,h,λN M w vx vy hx hy=>?_⟩
   cases hx with |data _ _ hx=>cases hy with |data _ _ hy=>
   cases hx;cases hy
   refine⟨_,uZ hop ?_ (by simp) (b:=true) ?_,jg⟩
   ·rcases hop with rfl |rfl<;>cases xo<;>cases yo<;>simp[isConst]at hc<;>rfl
   ·exact zc2 hu
  ·refine⟨_,h,λN M w vx vy hx hy=>?_⟩
   cases hx with |data _ _ hx=>cases hy with |data _ _ hy=>
   cases hx;cases hy
   simp_all
  ·refine⟨_,h,λN M w vx vy hx hy=>?_⟩
   cases hx with |iface=>cases hy with |data _ _ hy=>
   cases hy
   simp_all
  ·refine⟨_,h,λN M w vx vy hx hy=>?_⟩
   cases hx with |data _ _ hx=>cases hy with |data _ _ hy=>
   cases hx;cases hy
   simp_all
  ·refine⟨_,h,λN M w vx vy hx hy=>?_⟩
   cases hy with |iface=>cases hx with |data _ _ hx=>
   cases hx
   simp_all
  ·exact h.elim
 ·rename_i e hty
  have hu:=z6d hT hty
  have ptr:∀{N M w vx vy},(∃a,vx = .pointer (some a))->vy = .pointer none->∃z,(do eqGuard op t xo yo vx vy;binOp op t vx vy:Sem Value).run P w = .ok z w/\aF N M w (kS op false) z:=by
   rintro N M w vx vy ⟨a,rfl⟩ rfl
   refine⟨_,uZ hop (jB hop (by simp) (by simp)) (by simp) (b:=false) ?_,jg⟩
   exact zc3 hu a
  split at h
  ·refine⟨_,h,λN M w vx vy hx hy=>?_⟩
   cases hx with |data _ _ hx=>cases hy with |data _ _ hy=>
   cases hx;cases hy
   refine⟨_,uZ hop (jB hop (by simp) (by simp)) (by simp) (b:=true) ?_,jg⟩
   exact zc4 hu
  ·refine⟨_,h,λN M w vx vy hx hy=>?_⟩
   cases hx with |data _ _ hx=>cases hy with |data _ _ hy=>
   cases hx;cases hy
   simp_all
  ·refine⟨_,h,λN M w vx vy hx hy=>?_⟩
   cases hx with |ptr=>cases hy with |data _ _ hy=>
   cases hy
   simp_all
  ·refine⟨_,h,λN M w vx vy hx hy=>?_⟩
   cases hx with |eptr=>cases hy with |data _ _ hy=>
   cases hy
   simp_all
  ·exact h.elim
 ·exact h.elim
end
def World.setObj(w:World)(b:Nat)(o:Obj):World:={ w with heap:=w.heap.setIfInBounds b o }
theorem Af{w:World}{b:Nat}{o:Obj}(h:b<w.heap.size):(World.setObj w b o).heap[b]? = some o:=by
 show(w.heap.setIfInBounds b _)[b]? = _
 simp[h]
theorem yD{w:World}{b k:Nat}{o:Obj}(h:k≠b):(World.setObj w b o).heap[k]? = w.heap[k]?:=by
 show(w.heap.setIfInBounds b _)[k]? = _
 grind
theorem Step.setMap{M:Mem}{w:World}{id b:Nat}{mes mes':Array MapEntry}{c c':Nat}(hr:w.heap[b]? = some (.map mes c))(hM:M id=some (.blk b)):Step M w M (World.setObj w b (.map mes' c')) [id]:=by
 refine⟨rfl,rfl,rfl,by simp[World.setObj],?_,?_,?_,λ_ _=>rfl,?_,?_⟩
 ·intro k hk hW
  by_cases hkb:k=b
  ·subst hkb;exact absurd rfl (hW id (by simp) (.blk k) 0 hM)
  ·exact yD hkb
 ·intro k o u hW hc
  by_cases hkb:k=b
  ·subst hkb;exact absurd rfl (hW id (by simp) (.blk k) hM)
  grind[World.cell?,yD]
 ·intro k a2 t2 h2
  by_cases hkb:k=b
  ·grind
  ·exact⟨a2,by grind[World.setObj],rfl⟩
 ·intro id' h' ow' b' o e1 e2
  simp at h';subst h'
  have:=hM.symm.trans e1
  simp at this;subst this
  subst e2
  exact⟨by grind[World.setObj],.inr ⟨id',by simp,.blk b',hM,rfl⟩⟩
 simp
theorem LG:∀{a b:List KS},z5z a b=true->a=b:=by
 intro a
 induction a with
 |nil=>grind[z5z]
 |cons x r ih=>
  intro b h
  cases b with
  |nil=>simp[z5z]at h
  |cons y s=>
   simp[z5z]at h
   have:x=y:=by
    have:=h.1
    cases x<;>cases y<;>simp[KS.eq]at this ⊢
    exact this
   grind
theorem Iq{ρ:Operand->Value}{o:Oper}{t:TypeId}{r:Option Operand}(ho:o.op = .makeMap t r):execOp ρ o=(do pure (.value (<-Instr.makeMap t (r.map ρ)))):=by cases o;subst ho;rfl
theorem rZ{ρ:Operand->Value}{o:Oper}{t:TypeId}{m k x:Operand}(ho:o.op = .mapUpdate t m k x\/o.op = .insert t m k x):execOp ρ o=(do Instr.mapUpdate t (ρ m) (ρ k) (ρ x);pure .skip):=by
 cases o;rcases ho with rfl |rfl<;>rfl
theorem tJ{ρ:Operand->Value}{o:Oper}{t:TypeId}{x k:Operand}{ok:Bool}(ho:o.op = .lookup t x k ok):execOp ρ o=(do pure (.value (<-Instr.lookup t (ρ x) (ρ k) ok))):=by cases o;subst ho;rfl
theorem Ag{ρ:Operand->Value}{o:Oper}{x:Operand}{xt as:TypeId}{ok:Bool}(ho:o.op = .typeAssert x xt as ok):execOp ρ o=(do pure (.value (<-Instr.typeAssert (ρ x) xt as ok))):=by cases o;subst ho;rfl
theorem qc{ρ:Operand->Value}{o:Oper}{s d:TypeId}{x:Operand}(ho:o.op = .convert s d x):execOp ρ o=(do pure (.value (<-convert s d (ρ x)))):=by cases o;subst ho;rfl
theorem wrap_ok'{n:Int}(h1:-9223372036854775808<=n)(h2:n<=9223372036854775807):IntKind.i64.wrap n=n:=by
 grind[IntKind.wrap,IntKind.bits,IntKind.signed]
theorem Dl{ρ:Operand->Value}{o:Oper}{t:TypeId}{l c:Operand}(ho:o.op = .makeSlice t l c):execOp ρ o=(do pure (.value (<-Instr.makeSlice t (ρ l) (ρ c)))):=by cases o;subst ho;rfl
theorem UI{P:Program}{N:aS}{M:Mem}{w:World}{y:AV}{v:Value}{bs:List UInt8}(h:aF N M w y v)(he:zN y=some (1,bs.map λb=>[D.val (.int .u8 (b.toNat:Int))])){src dst e:TypeId}
  (h1:P.underlying src=some (.slice e)) (h2:P.underlying e=some (.int .u8)) (h3:P.underlying dst=some .string):(convert src dst v).run P w = .ok (.string ⟨bs.toArray⟩) w:=by
 have key:∀{es:List (List D)} {v:Value},es=(bs.map λb=>[D.val (.int .u8 (b.toNat:Int))])->DRel (Fb N M) w (.sl 1 es) v->(convert src dst v).run P w = .ok (.string ⟨bs.toArray⟩) w:=by
  intro es v hes hd
  cases hd with
  |sl0 _ a cap hm=>
   have:bs = []:=by simp_all
   subst this
   rw[run_convert_bytes_string w src dst e a 0 cap h1 h2 h3]
   cases a<;>simp[Conv.bytesToString]<;>rfl
  |sl _ _ b off cap n g hn hcap hm hs q1 q2=>
   subst hn
   have hl:es.length=bs.length:=by rw[hes];simp
   rw[hl]
   refine run_convert_bytes_back w src dst e ⟨b,off,none⟩ cap bs h1 h2 h3 λj hj=>?_
   have he:es[j]? = some [D.val (.int .u8 (bs[j].toNat:Int))]:=by simp_all
   have a1:=(q1 j 0 _ _ he rfl).2.1
   have a2:=q2 j 0 _ _ he rfl
   have a3:g j 0 = .int .u8 (bs[j].toNat:Int):=by generalize g j 0=x at a2;cases a2;rfl
   grind[Addr.add]
 unfold zN at he
 split at he
 ·simp at he;obtain⟨rfl,he⟩:=he
  cases h with |data _ _ hd=>exact key he hd
 ·simp at he;obtain⟨rfl,he⟩:=he
  cases h with |gs _ _ _ _ _ _ hd _ _=>exact key he hd
 ·have:bs = []:=by simp_all
  subst this
  cases h
  rw[run_convert_bytes_string w src dst e none 0 0 h1 h2 h3]
  rfl
 ·simp at he
theorem LH{P:Program}{w:World}{v:Value}(h:Instr.sameBits 10000 v v=true):(Instr.keyThatStays v v).run P w = .ok v w:=by
 simp[Instr.keyThatStays,h]
section
variable {P : Program} {T : Tbl} (hT : iQ P T)
include hT
theorem y9{t:TypeId}{z:D}(h:QW T t=some z):∃u,∀(F:aS) (w:World),(zeroValue t).run P w = .ok u w/\DRel F w z u:=by
 unfold QW at h
 split at h
 ·rename_i hk hz
  have hzne:(T.at t).zero ≠ []:=by rw[hz];simp
  obtain⟨i,u,h1,h2,h3⟩:=(hT t).zsh hzne (aZ hk)
  have hrun:∀w,(zeroValue t).run P w = .ok u w:=λw=>by simp[zeroValue,typeInfo,h1,h2]
  refine⟨u,λF w=>⟨hrun w,?_⟩⟩
  obtain⟨u',q1,q2,q3⟩:=kE hT hk hzne w
  rw[hrun w]at q1
  simp at q1
  subst q1
  rw[hz]at q2 q3
  have hc:=λi c hc=>(q3 F yA w i c hc).1
  split at h
  ·rename_i hds hsh
   simp at h;subst h
   have hag:z6c u=true:=by
    have:=h3.symm.trans (show(T.at t).ty.sh=some true from hsh)
    simpa using this
   obtain⟨k1,k2⟩:=fF hds
   cases u<;>simp[z6c]at hag
   rename_i us
   refine .agg _ _ (by have q2:us.size=_:=q2;rw[q2,k1]) λi d hd=>?_
   obtain⟨c,e1,e2⟩:=k2 i d hd
   have:=(hc i c e1).toD e2
   rw[zZ]at this
   exact this
  ·rename_i d hds hsh
   simp at h;subst h
   have hag:z6c u=false:=by
    have:=h3.symm.trans (show(T.at t).ty.sh=some false from hsh)
    simpa using this
   obtain⟨k1,k2⟩:=fF hds
   obtain⟨c,e1,e2⟩:=k2 0 d rfl
   have:=(hc 0 c e1).toD e2
   rw[zZ]at this
   cases u<;>first |simp[z6c]at hag;done |exact this
  ·simp at h
 ·split at h
  ·rename_i hty
   simp at h;subst h
   exact⟨.agg #[],λF w=>⟨FN hT hty w,.agg _ _ rfl (λi d hd=>by simp at hd)⟩⟩
  ·simp at h
 ·simp at h
theorem tbl_map'{t k e:TypeId}(h:(T.at t).ty = .map k e):P.underlying t=some (.map k e):=by have:=(hT t).desc;rw[h]at this;exact this
omit hT in
theorem Ah{g:Bool}{l:List KS}{es:List (D×D)}{F:aS}{w:World}{mes:Array MapEntry}(h:∀(i:Nat) (x:D×D),es[i]? = some x->iP g l x.1=true/\∃m:MapEntry,mes[i]? = some m/\DRel F w x.1 m.key/\DRel F w x.2 m.val) :
  ∀(i:Nat) (x:D×D),es[i]? = some x->iP g l x.1=true/\∃m:MapEntry,mes.toList[i]? = some m/\DRel F w x.1 m.key/\DRel F w x.2 m.val:=by
 intro i x hx
 obtain⟨h1,m,h2,h3⟩:=h i x hx
 exact⟨h1,m,by rw[Array.getElem?_toList];exact h2,h3⟩
theorem Ir{env:Env}{K:Heap}{o:Oper}{t kt et:TypeId}{m k x:Operand}(ho:o.op = .mapUpdate t m k x\/o.op = .insert t m k x)(hty:(T.at t).ty = .map kt et){g:Bool}{l:List KS}(hkt:FK T kt=some (g,l)){kd xd:D}
  (hk:(ev T env kt k).toD? = some kd) (hx:(ev T env et x).toD? = some xd) {id:Nat} (hm:ev T env 0 m = .map id) {es:List (D×D)} (hK:K.get id=some (.map g l es)) (hko:iP g l kd=true) :
  wO P o env K (.data (.val undef)) (.st id) (some (id,.map g l (mput kd xd es))):=by
 intro N M a w hmem h1 h2 next' Q hn
 have hops:m∈o.op.operands/\k∈o.op.operands/\x∈o.op.operands:=by grind[Op.operands]
 have hmr:aF N M w (ev T env 0 m) (a.eval m):=dW hmem 0 m λj e=>h1 j (e ▸ hops.1)
 have hkr:aF N M w (ev T env kt k) (a.eval k):=dW hmem kt k λj e=>h1 j (e ▸ hops.2.1)
 have hxr:aF N M w (ev T env et x) (a.eval x):=dW hmem et x λj e=>h1 j (e ▸ hops.2.2)
 have hmk:Hk N M w K (ev T env 0 m):=wV 0 m λj e=>h2 j (e ▸ hops.1)
 rw[hm]at hmr hmk
 have hkd:=hkr.toD hk
 have hxd:=hxr.toD hx
 obtain⟨b,mes,clock,e1,e2,e3,est,e4⟩:=hmk id (by simp[AV.men]) _ hK
 generalize hvm:a.eval m=vm at hmr
 cases hmr with
 |map _ r hr=>
  obtain rfl:=hr b e1
  have hent:=Ah e4
  have hfind:=FU (P:=P) hT hkt hko hkd es mes.toList (by simpa using e3) hent
  have hchk:=(D9 (P:=P) hT hkt hko hko hkd hkd).2 false
  have hu:=tbl_map' hT hty
  have hb:r<w.heap.size:=(Array.getElem?_eq_some_iff.1 e2).1
  have key:∀(mes':Array MapEntry) (c':Nat),(execOp a.eval o).run P w = .ok .skip (World.setObj w r (.map mes' c'))->mes'.size=(mput kd xd es).length->MapKept.Stamped mes' c' ->
    (∀(i:Nat) (y:D×D),(mput kd xd es)[i]? = some y->iP g l y.1=true/\∃m:MapEntry,mes'[i]? = some m/\DRel (Fb N M) w y.1 m.key/\DRel (Fb N M) w y.2 m.val)->o.wp P a w next' Q:=by
   intro mes' c' hrun q1 q2 q3
   simp only[Oper.wp,hrun,Oper.upon_skip]
   have hst:Step M w M (World.setObj w r (.map mes' c')) [id]:=Step.setMap e2 e1
   refine hn _ _ _ hst rfl (.data _ _ (.val _)) ?_
   rintro id' blk e
   obtain⟨rfl,rfl⟩:=e
   refine⟨by simp[Wr.ids],r,mes',c',e1,Af hb,q1,q2,λi y hy=>?_⟩
   obtain⟨p1,m',p2,p3,p4⟩:=q3 i y hy
   exact⟨p1,m',p2,p3.keep hst.keeps,p4.keep hst.keeps⟩
  rcases Ea hko hkd es mes.toList 0 (by simpa using e3) hent with⟨f1,f2,f3,f4⟩ |⟨i,a',d,me,f1,f2,f3,f4,f5,f6⟩
  ·refine key (mes.push { key:=a.eval k,val:=a.eval x,born:=clock }) (clock+1) ?_ ?_ (MapKept.stamped_push est f3) ?_
   ·rw[rZ ho]
    rw[f2]at hfind
    simp only[Instr.mapUpdate,hvm,Sem.run_bind,run_underlying hu,Result.andThen_ok,MapKept.run_getObj_map e2,hchk,hfind,MapKept.run_setObj_map _ e2,Sem.run_pure]
    rfl
   ·grind
   ·intro i y hy
    rw[f4,List.getElem?_append]at hy
    rw[Array.getElem?_push]
    split at hy
    ·grind
    ·have hi:i=es.length:=by
      grind
     subst hi
     simp at hy;subst hy
     simp_all
  ·have hkey:∀e',mes[i]? = some e'->e'.key=a.eval k:=λe' he'=>by simp_all
   refine key (mes.modify i λe=>{ e with key:=a.eval k,val:=a.eval x }) clock ?_ ?_ (MapKept.stamped_modify est _ _ (λ_ _=>rfl) λe' _ he'=>(hkey e' he').symm) ?_
   ·rw[rZ ho]
    rw[f3,Nat.zero_add]at hfind
    have hold:((mes[i]?).map (·.key)).getD (a.eval k)=a.eval k:=by grind
    simp only[Instr.mapUpdate,hvm,Sem.run_bind,run_underlying hu,Result.andThen_ok,MapKept.run_getObj_map e2,hchk,hfind,hold,LH (LD hko hkd 9999),MapKept.run_setObj_map _ e2,Sem.run_pure]
    rfl
   ·grind
   grind
theorem YS{env:Env}{K:Heap}{o:Oper}{next:Next}(h:Ig T env K o next) :
  ∃r wr δ,next r (upd K δ)/\pX env K wr/\WrD wr δ/\(fP env K o=ja env (tmpsOf o.op.operands.toList))/\(∀d,wr = .new d->d∈fV T env K (upd K δ) o)/\(∀id∈wr.ids,id∈wids T env K (upd K δ) o)/\wO P o env K r wr δ:=by
 have E:∀{N:aS} {M:Mem} {a:Act} {w:World},bT N M w->(∀j,Operand.tmp j∈o.op.operands->aF N M w (env.get j) (a.tmps.getD j undef))->∀t x,x∈o.op.operands->aF N M w (ev T env t x) (a.eval x):=
  λm h1 t x hx=>dW m t x λj e=>h1 j (e ▸ hx)
 have H:∀{N:aS} {M:Mem} {w:World},(∀j,Operand.tmp j∈o.op.operands->Hk N M w K (env.get j))->∀t x,x∈o.op.operands->Hk N M w K (ev T env t x):=
  λh1 t x hx=>wV t x λj e=>h1 j (e ▸ hx)
 unfold Ig at h
 split at h
 ·rename_i t r ho
  split at h
  ·rename_i d kt et hd hty hr
   split at h
   ·rename_i g l hkt
    obtain⟨hf,h⟩:=fQ h
    refine⟨_,.new d,some (d,.map g l []),h,hf,.inr ⟨_,_,rfl,rfl⟩,by simp only[fP,ho],by simp[fV,ho,hd],by simp[wids,ho,hd,Wr.ids],λN M a w m h1 h2 next' Q hn=>?_⟩
    have hrun:(execOp a.eval o).run P w = .ok (.value (.map (some w.heap.size))) (w.alloc (.map #[] 0)):=by
     rw[Iq ho]
     cases r with
     |none=>simp[Instr.makeMap]
     |some r=>
      simp only at hr
      split at hr
      ·rename_i k n heq
       have:=E m h1 0 r (by rw[ho];simp[Op.operands])
       rw[heq]at this
       have:=this.int
       simp[Instr.makeMap,run_underlying (tbl_map' hT hty),this,asInt,asIntOf]
      ·simp at hr
    simp only[Oper.wp,hrun,Oper.upon_value]
    have hs:Step M w (M.set d (some (.blk w.heap.size))) (w.alloc (.map #[] 0)) [d]:=Step.alloc M w d _ _ (λb x h=>h)
    refine hn _ _ _ hs trivial (.map _ _ λb e=>?_) ?_
    ·rw[Mem.set_same]at e;simp only[Option.some.injEq,Own.blk.injEq]at e;exact e
    ·rintro id blk e
     simp only[Option.some.injEq,Prod.mk.injEq]at e
     obtain⟨rfl,rfl⟩:=e
     refine⟨by simp[Wr.ids],w.heap.size,#[],0,Mem.set_same _ _ _,?_,rfl,MapKept.stamped_empty 0,by simp⟩
     show(w.heap.push _)[w.heap.size]? = _
     simp
   ·exact h.elim
  ·exact h.elim
 ·rename_i t m k x ho
  split at h
  ·rename_i kt et hty
   split at h
   ·rename_i g l kd xd id hkt hk hx hm
    split at h
    ·rename_i g' l' es hK
     split at h
     ·rename_i hb
      simp only[Bool.and_eq_true,beq_iff_eq]at hb
      obtain⟨rfl,hl⟩:=hb
      have hl:=LG hl
      subst hl
      obtain⟨hko,h⟩:=h
      exact⟨_,.st id,some (id,_),h,trivial,.inr ⟨_,_,rfl,rfl⟩,by simp only[fP,ho],by simp,by simp[wids,ho,hm,Wr.ids,AV.ids],Ir hT (.inl ho) hty hkt hk hx hm hK hko⟩
     ·exact h.elim
    ·exact h.elim
   ·exact h.elim
  ·exact h.elim
 ·rename_i t m k x ho
  split at h
  ·rename_i kt et hty
   split at h
   ·rename_i g l kd xd id hkt hk hx hm
    split at h
    ·rename_i g' l' es hK
     split at h
     ·rename_i hb
      simp only[Bool.and_eq_true,beq_iff_eq]at hb
      obtain⟨rfl,hl⟩:=hb
      have hl:=LG hl
      subst hl
      obtain⟨hko,h⟩:=h
      exact⟨_,.st id,some (id,_),h,trivial,.inr ⟨_,_,rfl,rfl⟩,by simp only[fP,ho],by simp,by simp[wids,ho,hm,Wr.ids,AV.ids],Ir hT (.inr ho) hty hkt hk hx hm hK hko⟩
     ·exact h.elim
    ·exact h.elim
   ·exact h.elim
  ·exact h.elim
 ·rename_i t x k ok ho
  have hops:x∈o.op.operands/\k∈o.op.operands:=by rw[ho];simp[Op.operands]
  have fin:∀{r:AV},next r K->(∀(N:aS) (M:Mem) (a:Act) (w:World),bT N M w->(∀j,Operand.tmp j∈o.op.operands->aF N M w (env.get j) (a.tmps.getD j undef))->(∀j,Operand.tmp j∈o.op.operands->Hk N M w K (env.get j)) ->
    ∃z,(execOp a.eval o).run P w = .ok (.value z) w/\aF N M w r z)->∃r wr δ,next r (upd K δ)/\pX env K wr/\WrD wr δ/\(fP env K o=ja env (tmpsOf o.op.operands.toList))/\(∀d,wr = .new d->d∈fV T env K (upd K δ) o)/\(∀id∈wr.ids,id∈wids T env K (upd K δ) o)/\wO P o env K r wr δ:=
   λhn hk=>⟨_,.no,none,hn,trivial,.inl ⟨rfl,rfl⟩,by simp only[fP,ho],by simp,by simp[Wr.ids],wO.pure hk⟩
  have pair:∀{N:aS} {M:Mem} {w:World} {d:D} {v:Value} {b:Bool},DRel (Fb N M) w d v->aF N M w (.data (QX ok d b)) (if ok then .tuple #[v,.bool b]else v):=by
   intro N M w d v b hd
   cases ok with
   |true=>
    refine .data _ _ (.tuple _ _ (by simp) λi e he=>?_)
    match i with
    | 0=>simp at he;subst he;simpa using hd
    | 1=>simp at he;subst he;exact .val _
    |i+2=>simp at he
   |false=>exact .data _ _ hd
  split at h
  ·rename_i kt et hty
   have hu:=tbl_map' hT hty
   split at h
   ·rename_i g l kd z hkt hk hz
    obtain⟨zv,hzv⟩:=y9 (P:=P) hT hz
    split at h
    ·rename_i id hx
     split at h
     ·rename_i g' l' es hK
      split at h
      ·rename_i hb
       simp only[Bool.and_eq_true,beq_iff_eq]at hb
       obtain⟨rfl,hl⟩:=hb
       have hl:=LG hl
       subst hl
       obtain⟨hko,h⟩:=h
       have common:∀(N:aS) (M:Mem) (a:Act) (w:World),bT N M w->(∀j,Operand.tmp j∈o.op.operands->aF N M w (env.get j) (a.tmps.getD j undef))->(∀j,Operand.tmp j∈o.op.operands->Hk N M w K (env.get j)) ->
         ∃(v:Value) (b:Bool) (d:D),(execOp a.eval o).run P w = .ok (.value (if ok then .tuple #[v,.bool b]else v)) w/\DRel (Fb N M) w d v/\((nV kd es=none/\b=false/\d=z)\/(nV kd es=some d/\b=true)):=by
        intro N M a w m h1 h2
        have hmr:=E m h1 t x hops.1
        have hmk:=H h2 t x hops.1
        rw[hx]at hmr hmk
        have hkd:=(E m h1 kt k hops.2).toD hk
        obtain⟨b,mes,clock,e1,e2,e3,est,e4⟩:=hmk id (by simp[AV.men]) _ hK
        generalize hvm:a.eval x=vm at hmr
        cases hmr with
        |map _ r hr=>
         obtain rfl:=hr b e1
         have hent:=Ah e4
         have hfind:=FU (P:=P) hT hkt hko hkd es mes.toList (by simpa using e3) hent
         have hchk:=(D9 (P:=P) hT hkt hko hko hkd hkd).2
         rcases Ea hko hkd es mes.toList 0 (by simpa using e3) hent with⟨f1,f2,f3,f4⟩ |⟨i,a',d,me,f1,f2,f3,f4,f5,f6⟩
         ·refine⟨zv,false,z,?_,(hzv _ w).2,.inl ⟨f1,rfl,rfl⟩⟩
          rw[tJ ho]
          rw[f2]at hfind
          simp only[Instr.lookup,hvm,Sem.run_bind,run_underlying hu,Result.andThen_ok,MapKept.run_getObj_map e2,Sem.run_pure,hchk,hfind,(hzv N w).1]
         ·obtain⟨_,m',q2,q3,q4⟩:=hent i _ f1
          rw[f2]at q2;simp only[Option.some.injEq]at q2;subst q2
          refine⟨me.val,true,d,?_,q4,.inr ⟨f4,rfl⟩⟩
          rw[tJ ho]
          rw[f3]at hfind
          simp only[Instr.lookup,hvm,Sem.run_bind,run_underlying hu,Result.andThen_ok,MapKept.run_getObj_map e2,Sem.run_pure,hchk,hfind]
       unfold rH at h
       split at h
       ·rename_i d hd
        refine fin h λN M a w m h1 h2=>?_
        obtain⟨v,b,d',q1,q2,q3⟩:=common N M a w m h1 h2
        rcases q3 with⟨q3,_⟩ |⟨q3,rfl⟩
        ·rw[hd]at q3;simp at q3
        ·rw[hd]at q3;simp only[Option.some.injEq]at q3;subst q3
         exact⟨_,q1,pair q2⟩
       ·rename_i hd
        refine fin h λN M a w m h1 h2=>?_
        obtain⟨v,b,d',q1,q2,q3⟩:=common N M a w m h1 h2
        rcases q3 with⟨_,rfl,rfl⟩ |⟨q3,_⟩
        ·exact⟨_,q1,pair q2⟩
        ·rw[hd]at q3;simp at q3
      ·exact h.elim
     ·exact h.elim
    ·rename_i hx
     obtain⟨hko,h⟩:=h
     refine fin h λN M a w m h1 h2=>?_
     have hmr:=E m h1 t x hops.1
     rw[hx]at hmr
     have hkd:=(E m h1 kt k hops.2).toD hk
     have hvm:a.eval x = .map none:=by
      generalize a.eval x=vm at hmr
      cases hmr with |data _ _ h=>cases h;rfl
     have hfind:=FU (P:=P) hT hkt hko hkd [] [] rfl (by simp)
     have hchk:=(D9 (P:=P) hT hkt hko hko hkd hkd).2
     refine⟨_,?_,pair (b:=false) (hzv _ w).2⟩
     rw[tJ ho]
     simp only[Instr.lookup,hvm,Sem.run_bind,run_underlying hu,Result.andThen_ok,Sem.run_pure,hchk]
     rw[hfind]
     simp only[xe,Result.andThen_ok,Sem.run_bind,(hzv N w).1,Sem.run_pure]
    ·exact h.elim
   ·exact h.elim
  ·exact h.elim
 ·rename_i x xt as ok ho
  have hop:x∈o.op.operands:=by rw[ho];simp[Op.operands]
  have fin:∀{r:AV},next r K->(∀(N:aS) (M:Mem) (w:World) (v:Value),aF N M w (ev T env xt x) v->∃z,(Instr.typeAssert v xt as ok).run P w = .ok z w/\aF N M w r z)->∃r wr δ,next r (upd K δ)/\pX env K wr/\WrD wr δ/\(fP env K o=ja env (tmpsOf o.op.operands.toList))/\(∀d,wr = .new d->d∈fV T env K (upd K δ) o)/\(∀id∈wr.ids,id∈wids T env K (upd K δ) o)/\wO P o env K r wr δ:=
   λhn hk=>⟨_,.no,none,hn,trivial,.inl ⟨rfl,rfl⟩,by simp only[fP,ho],by simp,by simp[Wr.ids],wO.pure λN M a w m h1 h2=>by
    obtain⟨z,q1,q2⟩:=hk N M w _ (E m h1 xt x hop)
    exact⟨z,by rw[Ag ho];simp[q1],q2⟩⟩
  have main:(∃d,P.underlying as=some d/\∀ms,d ≠ .interface ms)->wQ T as ok (ev T env xt x) K next->∃r wr δ,next r (upd K δ)/\pX env K wr/\WrD wr δ/\(fP env K o=ja env (tmpsOf o.op.operands.toList))/\(∀d,wr = .new d->d∈fV T env K (upd K δ) o)/\(∀id∈wr.ids,id∈wids T env K (upd K δ) o)/\wO P o env K r wr δ:=by
   rintro⟨dsc,hu,hni⟩ h
   have pairA':∀{N:aS} {M:Mem} {w:World} {x:AV} {v:Value} {b:Bool},aF N M w x v->aF N M w (zcv ok x b) (if ok then .tuple #[v,.bool b]else v):=by
    intro N M w x v b hx
    cases ok with
    |true=>
     refine .tuple _ _ (by simp) λi e he=>?_
     match i with
     | 0=>simp at he;subst he;simpa using hx
     | 1=>simp at he;subst he;exact .data _ _ (.val _)
     |i+2=>simp at he
    |false=>exact hx
   have pairD':∀{N:aS} {M:Mem} {w:World} {d:D} {v:Value} {b:Bool},DRel (Fb N M) w d v->aF N M w (.data (QX ok d b)) (if ok then .tuple #[v,.bool b]else v):=by
    intro N M w d v b hd
    cases ok with
    |true=>
     refine .data _ _ (.tuple _ _ (by simp) λi e he=>?_)
     match i with
     | 0=>simp at he;subst he;simpa using hd
     | 1=>simp at he;subst he;exact .val _
     |i+2=>simp at he
    |false=>exact .data _ _ hd
   have hold:∀(w:World) (t:TypeId) (v:Value),t=as->(Instr.typeAssert (.iface t v) xt as ok).run P w = .ok (if ok then .tuple #[v,.bool true]else v) w:=by
    rintro w t v rfl
    simp only[Instr.typeAssert,Sem.run_bind,run_underlying hu,Result.andThen_ok]
    cases dsc<;>first |exact absurd rfl (hni _) |simp
   have miss:∀(w:World) (t:TypeId) (v:Value) (zv:Value),t≠as->ok=true->(zeroValue as).run P w = .ok zv w->(Instr.typeAssert (.iface t v) xt as ok).run P w = .ok (.tuple #[zv,.bool false]) w:=by
    intro w t v zv hne hok hz
    subst hok
    simp only[Instr.typeAssert,Sem.run_bind,run_underlying hu,Result.andThen_ok]
    cases dsc<;>first |exact absurd rfl (hni _) |simp[hne,hz]
   have missN:∀(w:World) (zv:Value),ok=true->(zeroValue as).run P w = .ok zv w->(Instr.typeAssert .nilIface xt as ok).run P w = .ok (.tuple #[zv,.bool false]) w:=by
    intro w zv hok hz
    subst hok
    simp only[Instr.typeAssert,Sem.run_bind,run_underlying hu,Result.andThen_ok]
    cases dsc<;>first |exact absurd rfl (hni _) |simp[hz]
   have zrel:∀{F:aS} {w:World} {z:D} {zv:Value},DRel F w z zv->DRel F w (.tuple [z,.b false]) (.tuple #[zv,.bool false]):=by
    intro F w z zv hz
    refine .tuple _ _ (by simp) λi e he=>?_
    match i with
    | 0=>simp at he;subst he;simpa using hz
    | 1=>simp at he;subst he;exact .val _
    |i+2=>simp at he
   unfold wQ at h
   split at h
   ·rename_i t v heq
    split at h
    ·rename_i hb
     refine fin h λN M w u hu'=>?_
     rw[heq]at hu'
     cases hu' with |iface _ _ u' hy=>exact⟨_,hold w _ _ (Nat.eq_of_beq_eq_true hb),pairA' hy⟩
    ·rename_i hb
     have hne:t≠as:=λe=>by subst e;simp at hb
     split at h
     ·rename_i z _ hz _
      obtain⟨zv,hzv⟩:=y9 (P:=P) hT hz
      refine fin h λN M w u hu'=>?_
      rw[heq]at hu'
      cases hu' with |iface _ _ u' hy=>exact⟨_,miss w _ _ zv hne rfl (hzv N w).1,.data _ _ (zrel (hzv _ w).2)⟩
     ·exact h.elim
   ·rename_i t v heq
    split at h
    ·rename_i hb
     refine fin h λN M w u hu'=>?_
     rw[heq]at hu'
     cases hu' with |data _ _ hu'=>cases hu' with |iface _ _ u' hy=>exact⟨_,hold w _ _ (Nat.eq_of_beq_eq_true hb),pairD' hy⟩
    ·rename_i hb
     have hne:t≠as:=λe=>by subst e;simp at hb
     split at h
     ·rename_i z _ hz _
      obtain⟨zv,hzv⟩:=y9 (P:=P) hT hz
      refine fin h λN M w u hu'=>?_
      rw[heq]at hu'
      cases hu' with |data _ _ hu'=>cases hu' with |iface _ _ u' hy=>exact⟨_,miss w _ _ zv hne rfl (hzv N w).1,.data _ _ (zrel (hzv _ w).2)⟩
     ·exact h.elim
   ·rename_i heq
    split at h
    ·rename_i z _ hz _
     obtain⟨zv,hzv⟩:=y9 (P:=P) hT hz
     refine fin h λN M w u hu'=>?_
     rw[heq]at hu'
     cases hu' with |data _ _ hu'=>cases hu';exact⟨_,missN w zv rfl (hzv N w).1,.data _ _ (zrel (hzv _ w).2)⟩
    ·exact h.elim
   ·exact h.elim
  have hd:=(hT as).desc
  split at h
  ·exact h.elim
  ·exact h.elim
  ·rename_i hn1 hn2
   refine main ?_ h
   cases hty:(T.at as).ty<;>simp only[hty,Lp]at hd hn1 hn2<;>first
    |exact⟨_,hd,by simp⟩
    |(obtain⟨_,hd,_⟩:=hd;exact⟨_,hd,by simp⟩)
    |(obtain⟨_,_,_,hd⟩:=hd;exact⟨_,hd,by simp⟩)
    |(exact(hn1 trivial).elim)
    |(exact(hn2 trivial).elim)
    |simp at hn1
    |simp at hn2
 ·rename_i src dst x ho
  have hop:x∈o.op.operands:=by rw[ho];simp[Op.operands]
  split at h
  ·rename_i ks k ks' n hs hd hx
   refine⟨_,.no,none,h,trivial,.inl ⟨rfl,rfl⟩,by simp only[fP,ho],by simp,by simp[Wr.ids],wO.pure λN M a w m h1 h2=>⟨.int k (k.wrap n),?_,.data _ _ (.val _)⟩⟩
   have:=E m h1 src x hop
   rw[hx]at this
   rw[qc ho,this.int]
   simp[convert,run_underlying (tu hT hs),run_underlying (tu hT hd),Conv.intToInt]
  ·rename_i s hs hd hx
   refine⟨_,.no,none,h,trivial,.inl ⟨rfl,rfl⟩,by simp only[fP,ho],by simp,by simp[Wr.ids],wO.pure λN M a w m h1 h2=>⟨a.eval x,?_,?_⟩⟩
   ·have:=E m h1 src x hop
    rw[hx]at this
    generalize hv:a.eval x=v at this ⊢
    cases this with |data _ _ h=>cases h with |str s=>
    rw[qc ho,hv]
    simp only[convert,Sem.run_bind,run_underlying (mM hT hs),run_underlying (mM hT hd),Result.andThen_ok]
    rfl
   ·have:=E m h1 src x hop
    rwa[hx]at this
  ·rename_i _ _ e hs hd
   split at h
   ·rename_i sz es he hel
    obtain⟨rfl,bs,rfl,h⟩:=h
    refine⟨_,.no,none,h,trivial,.inl ⟨rfl,rfl⟩,by simp only[fP,ho],by simp,by simp[Wr.ids],wO.pure λN M a w m h1 h2=>⟨.string ⟨bs.toArray⟩,?_,.data _ _ (.str bs)⟩⟩
    have hq:=E m h1 src x hop
    rw[qc ho,Sem.run_bind,UI hq hel (aQ hT hs) (tu hT he) (mM hT hd)]
    rfl
   ·exact h.elim
  ·exact h.elim
 ·rename_i t l c ho
  split at h
  ·rename_i d e hd hty
   split at h
   ·rename_i k n k' mm hl hc
    split at h
    ·rename_i z0 z hk hz
     split at h
     ·rename_i ds hds
      split at h
      ·rename_i hb
       simp only[Bool.and_eq_true]at hb
       obtain⟨hb1,hb2,hb3,hb4⟩:=hb
       have hb1:=Nat.eq_of_beq_eq_true hb1
       have hb2:0<(T.at e).size:=by have:=Nat.le_of_ble_eq_true hb2;omega
       have hb3:0<(T.at e).bytes:=by have:=Nat.le_of_ble_eq_true hb3;omega
       obtain⟨⟨hn0,hnm,hfit⟩,h⟩:=h
       obtain⟨n',rfl⟩:=Int.eq_ofNat_of_zero_le hn0
       obtain⟨m',rfl⟩:=Int.eq_ofNat_of_zero_le (Int.le_trans hn0 hnm)
       have hnm:n'<=m':=by omega
       have hfit:m' * (T.at e).bytes<=140737488355328:=Int.ofNat_le.1 (by rw[Int.natCast_mul];exact hfit)
       have hm63:m'<=140737488355328:=by
        have:m' * 1<=m' * (T.at e).bytes:=Nat.mul_le_mul_left _ hb3
        omega
       have hzne:(T.at e).zero ≠ []:=by rw[hz];simp
       have hids:∀{N:aS} {M:Mem} {a:Act} {w:World},bT N M w->(∀j,Operand.tmp j∈o.op.operands->aF N M w (env.get j) (a.tmps.getD j undef)) ->
         ∃arr:Array Value,(execOp a.eval o).run P w = .ok (.value (.slice (some ⟨w.heap.size,0,none⟩) n' m')) (w.alloc (.cells arr e))/\arr.size=m' * (T.at e).size /\
         ∀(i j:Nat) q c,(List.replicate n' ds)[i]? = some q->q[j]? = some c->DRel (Fb N M) w c (arr.getD (i * (T.at e).size+j) undef)/\(arr.getD (i * (T.at e).size+j) undef).oneCell'=true:=by
        intro N M a w m h1
        have e1:=E m h1 0 l (by rw[ho];simp[Op.operands])
        have e2:=E m h1 0 c (by rw[ho];simp[Op.operands])
        rw[hl]at e1;rw[hc]at e2
        obtain⟨i,i1,i2,i3⟩:=y5 hT (aZ hk)
        obtain⟨zv,q1,q2,q3⟩:=kE hT hk hzne w
        rw[hz]at q2 q3
        have q2:zv.cells.size=(T.at e).size:=by rw[q2,hb1]
        refine⟨(Array.range (m' * (T.at e).size)).map λi=>zv.cells[i % zv.cells.size]!,?_,by simp,?_⟩
        ·rw[Dl ho,e1.int,e2.int]
         have w1:IntKind.i64.wrap (n':Int)=n':=wrap_ok' (by omega) (by omega)
         have w2:IntKind.i64.wrap (m':Int)=m':=wrap_ok' (by omega) (by omega)
         have c1:¬((m':Int)<0):=by omega
         have c2:¬((n':Int)<0):=by omega
         have c3:¬((n':Int)>(m':Int)):=by omega
         have c4:¬((i.bytes:Int) * (m':Int)>2 ^ 48):=by
          rw[i3,Int.mul_comm]
          have:((m':Int) * ((T.at e).bytes:Int))<=140737488355328:=by rw[<-Int.natCast_mul];exact Int.ofNat_le.2 hfit
          omega
         have c5:¬(m' * i.bytes>roomBytes):=by rw[i3];simp only[roomBytes];omega
         by_cases hz0:m' * (T.at e).size=0
         ·simp only[Instr.makeSlice,Sem.run_bind,run_underlying (aQ hT hty),Result.andThen_ok,asInt,asIntOf,Sem.run_pure,typeInfo,run_program,i1,w1,w2,c1,c2,c3,c4,decide_false,Bool.or_false,Bool.false_eq_true,if_false,Int.toNat_natCast,askRoom,c5,run_sizeOf' hT (aZ hk),hz0,if_true,newRow,run_newObj,World.alloc_eq]
          have e0:(Array.range 0).map (λi=>zv.cells[i % zv.cells.size]!)=(Array.range 0).map (λi=>(#[]:Array Value)[i % (#[]:Array Value).size]!):=by simp
          rw[e0]
         ·simp only[Instr.makeSlice,Sem.run_bind,run_underlying (aQ hT hty),Result.andThen_ok,asInt,asIntOf,Sem.run_pure,typeInfo,run_program,i1,w1,w2,c1,c2,c3,c4,decide_false,Bool.or_false,Bool.false_eq_true,if_false,Int.toNat_natCast,askRoom,c5,run_sizeOf' hT (aZ hk),hz0,q1,newRow,run_newObj,World.alloc_eq]
        ·intro i j q c hi hj
         have hi2:i<n'/\q=ds:=by
          rw[List.getElem?_replicate]at hi
          split at hi
          ·rename_i hlt;simp only[Option.some.injEq]at hi;exact⟨hlt,hi.symm⟩
          ·simp at hi
         obtain⟨hi2,rfl⟩:=hi2
         obtain⟨k1,k2⟩:=fF hds
         have hlen:q.length=(T.at e).size:=by rw[k1,hb1]
         have hjl:j<(T.at e).size:=by rw[<-hlen];exact(List.getElem?_eq_some_iff.1 hj).1
         have hlt:i * (T.at e).size+j<m' * (T.at e).size:=by
          have:(i+1) * (T.at e).size<=m' * (T.at e).size:=Nat.mul_le_mul_right _ (by omega)
          rw[Nat.add_mul,Nat.one_mul]at this;omega
         rw[dO hlt,q2,Nat.mul_comm i,Nat.mul_add_mod,Nat.mod_eq_of_lt hjl,getElem!_pos zv.cells j (by rw[q2];exact hjl)]
         obtain⟨c',e1,e2⟩:=k2 _ c hj
         have hr:=(q3 N M w _ c' e1).1
         have hg:zv.cells.getD j undef=zv.cells[j]'(by rw[q2];exact hjl):=by simp[q2,hjl]
         rw[hg]at hr
         refine⟨hr.toD e2,?_⟩
         have hd:=List.all_eq_true.1 hb4 c (List.mem_of_getElem? hj)
         exact gJ (x:=.data c) (.data _ _ (hr.toD e2)) hd
       have hrl:(List.replicate n' ds).length=n':=by simp
       have hel:∀q∈List.replicate n' ds,q.length=(T.at e).size:=by
        intro q hq
        rw[List.eq_of_mem_replicate hq,(fF hds).1,hb1]
       have hmax:m'<=maxLen:=by simp[maxLen];omega
       rcases h.out with h |h
       ·obtain⟨⟨hf0,hf1,hf2⟩,h⟩:=fQ h
        refine⟨_,.new d,some (d,.tok (T.at e).size n'),h,⟨hf0,hf1,hf2⟩,.inr ⟨_,_,rfl,rfl⟩,by simp only[fP,ho],by simp[fV,ho,hd],by simp[wids,ho,hd,Wr.ids],λN M a w m h1 h2 next' Q hn=>?_⟩
        obtain⟨arr,r1,r2,r3⟩:=hids m h1
        exact OA (w1:=w) (cap:=m') (sz:=(T.at e).size) (arr:=arr) (t:=e) (es:=List.replicate n' ds) (Step.refl M w) r1 hn m hrl.symm hnm hmax r2 hel r3
       ·obtain⟨⟨hf0,hf1,hf2⟩,h⟩:=fQ h
        refine⟨_,.new d,some (d,.arr 0 (T.at e).size (List.replicate n' ds)),h,⟨hf0,hf1,hf2⟩,.inr ⟨_,_,rfl,rfl⟩,by simp only[fP,ho],by simp[fV,ho,hd],by simp[wids,ho,hd,Wr.ids],λN M a w m h1 h2 next' Q hn=>?_⟩
        obtain⟨arr,r1,r2,r3⟩:=hids m h1
        exact uT (w1:=w) (cap:=m') (vr:=0) (sz:=(T.at e).size) (arr:=arr) (t:=e) (Step.refl M w) (.inl rfl) r1 hn hrl.symm hnm hmax r2 hel (λe=>by cases e) r3
      ·exact h.elim
     ·exact h.elim
    ·exact h.elim
   ·exact h.elim
  ·exact h.elim
 ·exact h.elim
end
end Go.Fw
namespace Go.Fw
variable [ae]
def iT(T:Tbl)(env:Env)(c:Call):List AV:=c.args.toList.zipIdx.map λx=>ev T env (c.argTypes.getD x.2 0) x.1
theorem OD{N:aS}{M:Mem}{w:World}(m:bT N M w){T:Tbl}{env:Env}{a:Act}{c:Call}(h:∀x∈c.args.toList,∀j,x = .tmp j->aF N M w (env.get j) (a.tmps.getD j undef)) :
  (c.args.map a.eval).size=(iT T env c).length/\∀(i:Nat) x,(iT T env c)[i]? = some x->aF N M w x ((c.args.map a.eval).getD i undef):=by
 refine⟨by simp[iT],λi x hx=>?_⟩
 simp only[iT,List.getElem?_map,Option.map_eq_some_iff]at hx
 obtain⟨y,hy,rfl⟩:=hx
 simp at hy
 obtain⟨z,hz,rfl⟩:=hy
 have:(c.args.map a.eval).getD i undef=a.eval z:=by
  simp_all
 grind[dW]
theorem Rl{ρ:Operand->Value}{o:Oper}{c:Call}{f:Operand}{fid:FuncId}{first caps:Array Value}(ho:o.op = .call c)(hc:c.callee = .value f)(hf:ρ f = .func (.func fid) first caps) :
  execOp ρ o=callFunc fid (first++c.args.map ρ++caps):=by
 rw[jP ho];cases c;subst hc
 simp only[resolve,hf]
 rfl
theorem Rn{ρ:Operand->Value}{o:Oper}{c:Call}{f:Operand}{l:Nat}(ho:o.op = .call c)(hc:c.callee = .value f)(hf:ρ f = .func (.yield l) #[] #[]) :
  execOp ρ o=Instr.yield l (c.args.map ρ):=by
 rw[jP ho];cases c;subst hc
 simp[resolve,hf]
 show Instr.yield l (#[]++_)=_
 simp
theorem l9{P:Program}{f:FuncId}(h:lZ P f)(args:Array Value)(w:World):(callFunc f args).run P w = .ok (.enter f args) w:=by
 obtain⟨fn,h1,h2,h3⟩:=h
 simp only[callFunc,Sem.run_bind,run_program,Result.andThen_ok,h1,h2,h3,Bool.false_eq_true,if_false,Sem.run_pure]
section
variable {P : Program} {T : Tbl} (hT : iQ P T)
theorem xg{o:Oper}{c:Call}(ho:o.op = .call c){f:Operand}(hc:c.callee = .value f):f∈o.op.operands/\∀x∈c.args.toList,x∈o.op.operands:=by
 rw[ho]
 simp only[Op.operands,Call.operands,hc,Array.mem_append]
 exact⟨.inl (by simp),λx hx=>.inr (by simpa using hx)⟩
theorem zf{o:Oper}{c:Call}(ho:o.op = .call c):∀x∈c.args.toList,x∈o.op.operands:=by
 rw[ho]
 intro x hx
 simp[Op.operands,Call.operands]
 exact .inr (by simpa using hx)
def Ai(x:AV)(fid:FuncId)(pre caps:List AV):Prop:=(x = .fn fid caps/\pre = [])\/(∃ds,x = .data (.fn fid ds)/\caps=ds.map .data/\pre = [])\/(x = .bnd fid pre/\caps = [])
theorem Ro{N:aS}{M:Mem}{w:World}{x:AV}{v:Value}{fid:FuncId}{pre caps:List AV}(h:Ai x fid pre caps)(hr:aF N M w x v):∃us vs:Array Value,v = .func (.func fid) us vs/\us.size=pre.length/\(∀(i:Nat) c,pre[i]? = some c->aF N M w c (us.getD i undef))/\vs.size=caps.length/\∀(i:Nat) c,caps[i]? = some c->aF N M w c (vs.getD i undef):=by
 rcases h with⟨rfl,rfl⟩ |⟨ds,rfl,rfl,rfl⟩ |⟨rfl,rfl⟩
 rotate_left 2
 ·cases hr with |bnd _ _ us hl hh=>grind
 ·cases hr with |fn _ _ vs hl hh=>grind
 ·cases hr with
  |data _ _ hr=>cases hr with
   | fn _ _ vs hl hh=>exact⟨#[],vs,rfl,rfl,λi c hc=>by simp at hc,by simp[hl],λi c hc=>by
     simp at hc
     obtain⟨d,hd,rfl⟩:=hc
     exact .data _ _ (hh i d hd)⟩
theorem xh{o:Oper}{c:Call}{f:Operand}{fid:FuncId}{pre caps:List AV}{env:Env}(ho:o.op = .call c)(hc:c.callee = .value f)(hf:Ai (ev T env 0 f) fid pre caps){N:aS}{M:Mem}{a:Act}{w:World}(m:bT N M w)
  (h1:∀j,Operand.tmp j∈o.op.operands->aF N M w (env.get j) (a.tmps.getD j undef)) :
  ∃args,execOp a.eval o=callFunc fid args/\args.size=(pre++iT T env c++caps).length/\∀(i:Nat) x,(pre++iT T env c++caps)[i]? = some x->aF N M w x (args.getD i undef):=by
 obtain⟨hm1,hm2⟩:=xg ho hc
 have hfr:aF N M w (ev T env 0 f) (a.eval f):=dW m 0 f λj e=>h1 j (e ▸ hm1)
 obtain⟨a1,a2⟩:=OD m (T:=T) (env:=env) (a:=a) (N:=N) (M:=M) (w:=w) (c:=c) λx hx j e=>h1 j (e ▸ hm2 x hx)
 obtain⟨us,vs,hvf,hl0,hh0,hl,hh⟩:=Ro hf hfr
 refine⟨_,Rl ho hc hvf,by simp_all,λi x hx=>?_⟩
 rw[List.getElem?_append]at hx
 simp only[Array.getD_eq_getD_getElem?,Array.getElem?_append,Array.size_append,a1,hl0]
 rw[List.length_append]at hx
 split at hx
 ·rw[List.getElem?_append]at hx
  split at hx
  ·grind[Array.getD_eq_getD_getElem?]
  ·rename_i hlt2
   rw[if_neg hlt2]
   simp_all
 ·rename_i hlt
  rw[if_neg hlt]
  simp_all
theorem Aj{o:Oper}{c:Call}{f:Operand}{fid:FuncId}{pre caps:List AV}{env:Env}(ho:o.op = .call c)(hc:c.callee = .value f)(hf:Ai (ev T env 0 f) fid pre caps){N:aS}{M:Mem}{a:Act}{w:World}(m:bT N M w)
  (h1:∀j,Operand.tmp j∈o.op.operands->aF N M w (env.get j) (a.tmps.getD j undef)) (hfn:lZ P fid) :
  ∃args,(execOp a.eval o).run P w = .ok (.enter fid args) w/\args.size=(pre++iT T env c++caps).length/\∀(i:Nat) x,(pre++iT T env c++caps)[i]? = some x->aF N M w x (args.getD i undef):=by
 obtain⟨args,r1,r2⟩:=xh ho hc hf m h1
 grind[l9]
theorem YT{o:Oper}{c:Call}{f:Operand}{fid:FuncId}{pre caps:List AV}{ds:List D}{out:lY}{env:Env}{K:Heap}(ho:o.op = .call c)(hc:c.callee = .value f)(hf:Ai (ev T env 0 f) fid pre caps)
  (hds:AV.allD (pre++iT T env c++caps)=some ds) (hp:PCall P fid ds out) :
  match out with | .ret d=>FP P o env K false (.data d) [] [] [] | .pan d=>FP P o env K true (.data d) [] [] []:=by
 rcases hp with⟨hfn,hp⟩ |⟨d,rfl,hp⟩
 rotate_left
 ·intro N M a w m h1 h2 next Q hn
  obtain⟨args,r1,r2,r3⟩:=xh ho hc hf m h1
  obtain⟨k1,k2⟩:=fF hds
  obtain⟨v,e1,e2⟩:=hp (Fb N M) w args m.flat (by omega) λi d hd=>by
   obtain⟨x,e1,e2⟩:=k2 i d hd
   exact(r3 i x e1).toD e2
  refine .inl ?_
  simp[Oper.wp,r1,e1]
  exact hn v M w (Step.refl M w) (by simp) (.data _ _ e2) (by simp[Heap.get])
 have key:∀(N:aS) (M:Mem) (a:Act) (w:World),bT N M w->(∀j,Operand.tmp j∈o.op.operands->aF N M w (env.get j) (a.tmps.getD j undef)) ->
   ∃args,(execOp a.eval o).run P w = .ok (.enter fid args) w/\Calls P fid args w λe w'=>Step yA w yA w' []/\out.rel (Fb N M) w' e:=by
  intro N M a w m h1
  obtain⟨args,r1,r2,r3⟩:=Aj (P:=P) ho hc hf m h1 hfn
  obtain⟨k1,k2⟩:=fF hds
  refine⟨args,r1,hp (Fb N M) w _ m.flat (by omega) ?_⟩
  ·intro i d hd
   obtain⟨x,e1,e2⟩:=k2 i d hd
   exact(r3 i x e1).toD e2
 cases out with
 |ret d=>
  intro N M a w m h1 h2 next Q hn
  obtain⟨args,r1,r2⟩:=key N M a w m h1
  refine .inl ?_
  simp[Oper.wp,r1]
  refine r2.mono λe w'=>?_
  rintro⟨s,v,rfl,hv⟩
  exact hn v M w' (s.of_mem0 M) (by simp) (.data _ _ hv) (by simp[Heap.get])
 |pan d=>
  intro N M a w m h1 h2 next Q hn
  obtain⟨args,r1,r2⟩:=key N M a w m h1
  refine .inl ?_
  simp[Oper.wp,r1]
  refine r2.mono λe w'=>?_
  rintro⟨s,v,rfl,hv⟩
  exact hn v M w' (s.of_mem0 M) (by simp) (.data _ _ hv) (by simp[Heap.get])
def LentRes(P:Program)(o:Oper)(env:Env)(K:Heap)(ρ:List (Nat×Nat))(K0 K1:Heap):gG->Prop
 | .ret x=>FP P o env K false (x.ren ρ) (aO ρ (keys K1)) (aO ρ (minus (keys K1) (keys K0))) (dD ρ K1)
 | .pan x=>FP P o env K true (x.ren ρ) (aO ρ (keys K1)) (aO ρ (minus (keys K1) (keys K0))) (dD ρ K1)
theorem YU{o:Oper}{c:Call}{f:Operand}{fid:FuncId}{pre caps as0:List AV}{K0 K1:Heap}{out:gG}{ρ:List (Nat×Nat)}{env:Env}{K:Heap}(ho:o.op = .call c)(hc:c.callee = .value f)(hf:Ai (ev T env 0 f) fid pre caps)
  (hp:Il P fid as0 K0 out K1) (has:AV.ren.go ρ as0=pre++iT T env c++caps) (hsub:Heap.sub ρ K K0) (hok:bV ρ K0 K1 out.av env K (fP env K o)=true) :
  LentRes P o env K ρ K0 K1 out:=by
 have key:∀(N:aS) (M:Mem) (a:Act) (w:World),bT N M w->(∀j,Operand.tmp j∈o.op.operands->aF N M w (env.get j) (a.tmps.getD j undef))->(∀id∈fP env K o,∀blk,K.get id=some blk->eP N M w id blk) ->
   ∃args,(execOp a.eval o).run P w = .ok (.enter fid args) w/\Calls P fid args w λe w'=>∃M',Step M w M' w' (aO ρ (keys K1))/\(∀id∈aO ρ (keys K1),id ∉ aO ρ (minus (keys K1) (keys K0))->Tr M M' id)/\(∀id blk,(dD ρ K1).get id=some blk->eP N M' w' id blk) /\
    (out.ren ρ).rel N M' w' e:=by
  intro N M a w m h1 h2
  obtain⟨args,r1,r2,r3⟩:=Aj (P:=P) ho hc hf m h1 hp.1
  refine⟨args,r1,(wZ (λh hr=>h.mono hr) hp.2 hsub hok m (by grind[dI]) (by simp_all) h2).mono λe w'=>?_⟩
  rintro⟨M',s,htr,hb,hr⟩
  refine⟨M',s,λid hid hn=>?_,hb,hr⟩
  obtain⟨i,hi,rfl⟩:=aG.1 hid
  by_cases h0:i∈keys K0
  ·exact htr _ (aG.2 ⟨i,h0,rfl⟩)
  ·exact absurd (aG.2 ⟨i,je.2 ⟨hi,h0⟩,rfl⟩) hn
 cases out with
 |ret d=>
  intro N M a w m h1 h2 next Q hn
  obtain⟨args,r1,r2⟩:=key N M a w m h1 h2
  refine .inl ?_
  simp[Oper.wp,r1]
  refine r2.mono λe w'=>?_
  rintro⟨M',s,htr,hb,v,rfl,hv⟩
  grind
 |pan d=>
  intro N M a w m h1 h2 next Q hn
  obtain⟨args,r1,r2⟩:=key N M a w m h1 h2
  refine .inl ?_
  simp only[Oper.wp,r1]
  refine r2.mono λe w'=>?_
  rintro⟨M',s,htr,hb,v,rfl,hv⟩
  grind
theorem UJ{o:Oper}{c:Call}{f:Operand}{y:Nat}{as0:List AV}{K0 K1:Heap}{out:gG}{ρ:List (Nat×Nat)}{env:Env}{K:Heap}(ho:o.op = .call c)(hc:c.callee = .value f)(hf:ev T env 0 f = .yld y)
  (hp:LC (Yields P) as0 K0 out K1) (has:AV.ren.go ρ as0 = .yld y::iT T env c) (hsub:Heap.sub ρ K K0) (hok:bV ρ K0 K1 out.av env K (fP env K o)=true) :
  LentRes P o env K ρ K0 K1 out:=by
 have key:∀(N:aS) (M:Mem) (a:Act) (w:World),bT N M w->(∀j,Operand.tmp j∈o.op.operands->aF N M w (env.get j) (a.tmps.getD j undef))->(∀id∈fP env K o,∀blk,K.get id=some blk->eP N M w id blk) ->
   ∃(l:Nat) (g:FuncId) (tmps:Array Value) (assign body:Code),(execOp a.eval o).run P w = .ok (.round l g tmps assign body) w/\RoundIn Fence.wide 0 P l g tmps assign body w λe w'=>∃M',Step M w M' w' (aO ρ (keys K1))/\(∀id∈aO ρ (keys K1),id ∉ aO ρ (minus (keys K1) (keys K0))->Tr M M' id)/\(∀id blk,(dD ρ K1).get id=some blk->eP N M' w' id blk) /\
    (out.ren ρ).rel N M' w' e:=by
  intro N M a w m h1 h2
  obtain⟨hm1,hm2⟩:=xg ho hc
  have hfr:aF N M w (ev T env 0 f) (a.eval f):=dW m 0 f λj e=>h1 j (e ▸ hm1)
  rw[hf]at hfr
  obtain⟨a1,a2⟩:=OD m (T:=T) (env:=env) (a:=a) (N:=N) (M:=M) (w:=w) (c:=c) λx hx j e=>h1 j (e ▸ hm2 x hx)
  obtain⟨l,hev⟩:∃l,a.eval f = .func (.yield l) #[] #[]:=by
   generalize a.eval f=v at hfr
   cases hfr with |yld _ l h=>simp
  have hlen:as0.length=(iT T env c).length+1:=by grind[dI]
  have hy:=wZ (C:=Yields P) (λh hr=>h.mono hr) hp hsub hok m (args:=#[a.eval f]++c.args.map a.eval) (by grind) (by
   rw[has]
   intro i x hx
   cases i with
   |zero=>
    have e:(#[a.eval f]++c.args.map a.eval).getD 0 undef=a.eval f:=by rw[Array.getD_eq_getD_getElem?,Array.getElem?_append];simp
    simp_all
   |succ i=>
    have e:(#[a.eval f]++c.args.map a.eval).getD (i+1) undef=(c.args.map a.eval).getD i undef:=by rw[Array.getD_eq_getD_getElem?,Array.getElem?_append];simp
    simp_all) h2
  obtain⟨l',vs,e1,g,tmps,assign,body,e2,e3⟩:=hy
  rw[hev]at e1
  have e4:l=l'/\c.args.map a.eval=vs:=by
   have h0:=congrArg (λz:Array Value=>z.toList) e1
   simp only[Array.toList_append,List.cons_append,List.cons.injEq]at h0
   refine⟨?_,Array.toList_inj.1 h0.2⟩
   have:=h0.1
   simpa using this
  obtain⟨rfl,rfl⟩:=e4
  refine⟨l,g,tmps,assign,body,by grind[Rn],e3.mono λe w'=>?_⟩
  rintro⟨M',s,htr,hb,hr⟩
  refine⟨M',s,λid hid hn=>?_,hb,hr⟩
  obtain⟨i,hi,rfl⟩:=aG.1 hid
  by_cases h0:i∈keys K0
  ·exact htr _ (aG.2 ⟨i,h0,rfl⟩)
  ·exact absurd (aG.2 ⟨i,je.2 ⟨hi,h0⟩,rfl⟩) hn
 cases out with
 |ret d=>
  intro N M a w m h1 h2 next Q hn
  obtain⟨l,g,tmps,assign,body,r1,r2⟩:=key N M a w m h1 h2
  refine .inr ⟨l,g,tmps,assign,body,r1,r2.mono λe w'=>?_⟩
  rintro⟨M',s,htr,hb,v,rfl,hv⟩
  grind
 |pan d=>
  intro N M a w m h1 h2 next Q hn
  obtain⟨l,g,tmps,assign,body,r1,r2⟩:=key N M a w m h1 h2
  refine .inr ⟨l,g,tmps,assign,body,r1,r2.mono λe w'=>?_⟩
  rintro⟨M',s,htr,hb,v,rfl,hv⟩
  grind
theorem zg{F F':aS}{w w':World}{d:D}{v:Value}(hd:d.flat=true)(h:DRel F w d v):DRel F' w' d v:=by
 have L:∀ds:List D,D.flat.go ds=true->∀d∈ds,D.flat d=true:=by
  intro ds
  induction ds with
  |nil=>simp
  |cons x r ih=>
   intro h d hd
   simp[D.flat.go]at h
   grind
 induction h with
 |val v=>exact .val v
 |str s=>exact .str s
 |iface t d v h ih=>exact .iface _ _ _ (ih (by grind[D.flat]))
 |tuple ds vs hl hh ih=>exact .tuple _ _ hl λi d he=>ih i d he (L ds (by grind[D.flat]) d (List.mem_of_getElem? he))
 |agg ds vs hl hh ih=>exact .agg _ _ hl λi d he=>ih i d he (L ds (by grind[D.flat]) d (List.mem_of_getElem? he))
 |_=>simp[D.flat]at hd
def FV(R:List Nat)(N:aS)(M:Mem):aS:=λb o=>N b o\/∃id ow,M id=some ow/\ow.has b o/\id ∉ R
theorem zh{R:List Nat}{N:aS}{M:Mem}(b o:Nat)(h:FV R N M b o):Fb N M b o:=by
 rcases h with h |⟨id,ow,h1,h2,_⟩
 ·exact .inl h
 ·exact .inr ⟨id,ow,h1,h2⟩
theorem OE{R:List Nat}{N:aS}{M:Mem}{w:World}(m:bT N M w):bT (FV R N M) yA w:=by
 refine⟨by simp[yA],by simp[yA],?_,λg cs h=>⟨λo ho=>.inl ((m.glob g cs h).1 o ho),(m.glob g cs h).2.1,λj v hj=>⟨?_,((m.glob g cs h).2.2 j v hj).2⟩⟩⟩
 ·intro b x h
  rcases zh b x h with hN |⟨id,ow,e1,e2⟩
  ·exact m.foes b x hN
  ·exact(m.dom id ow b x e1 e2).1
 ·intro hq
  rcases zh _ _ hq with hN |⟨id,ow,e1,e2⟩
  ·exact((m.glob g cs h).2.2 j v hj).1 hN
  ·exact m.globFree h hj e1 e2
theorem yE{K:Heap}:∀{as:List AV} {ds:List D},qL K as=some ds->ds.length=as.length/\∀(i:Nat) d,ds[i]? = some d->∃x,as[i]? = some x/\FI K x=some d
 | [],ds,h=>by grind[qL]
 |v::r,ds,h=>by
  simp[qL]at h
  split at h
  ·split at h
   ·rename_i hds
    obtain⟨k1,k2⟩:=yE hds
    grind
   ·simp at h
  ·simp at h
theorem Eb{K:Heap}{x:AV}{id:Nat}:∀{as:List AV},x∈as->id∈jO K [x]->id∈jO K as
 |y::r,h,hi=>by
  rcases List.mem_cons.1 h with rfl |h
  ·cases x with
   |ptr i off=>
    simp only[jO,List.append_nil,List.mem_cons,List.mem_append]at hi ⊢
    rcases hi with hi |hi
    ·exact .inl hi
    ·exact .inr (.inl hi)
   |own i vr sz off len=>
    simp only[jO,List.mem_cons,List.not_mem_nil,or_false]at hi ⊢
    exact .inl hi
   |agg cs=>
    simp only[jO,List.append_nil,List.mem_append]at hi ⊢
    exact .inl hi
   |_=>exact absurd hi (by simp[jO])
  ·have:=Eb h hi
   cases y<;>simp[jO,this]
theorem xk{x:AV}{id:Nat}:∀{cs:List AV},x∈cs->id∈rV [x]->id∈rV cs
 |y::r,h,hi=>by
  rcases List.mem_cons.1 h with rfl |h
  ·cases x<;>simp[rV]at hi ⊢ <;> simp[hi]
  ·have:=xk h hi
   cases y<;>simp[rV,this]
theorem Iu{K:Heap}{v:AV}{p:Prop}(h:lenOk K v p):lenOk K v True/\p:=by
 cases v with
 |own id vr sz off len=>
  revert h
  simp[lenOk]
  grind
 |_=>exact⟨trivial,h⟩
theorem xm{K:Heap}:∀{l:List AV} {p:Prop},zS K l p->(∀v∈l,lenOk K v True)/\p
 | [],_,h=>⟨by simp,h⟩
 |v::r,p,h=>by
  obtain⟨h1,h2⟩:=Iu (show lenOk K v (zS K r p)from h)
  obtain⟨h3,h4⟩:=xm h2
  simp_all
def Ec(K:Heap)(v:AV):Prop:=match v with
 | .agg cs=>∀c∈cs,lenOk K c True
 | .ptr id off=>(match K.get id with |some (.cells cs)=>∀c∈cs.drop off,lenOk K c True |_=>True)
 |v=>lenOk K v True
theorem Ak{K:Heap}:∀{l:List AV} {p:Prop},kR K l p->(∀v∈l,Ec K v)/\p
 | [],_,h=>⟨by simp,h⟩
 |v::r,p,h=>by
  have:Ec K v/\kR K r p:=by
   cases v
   case agg cs=>exact xm h
   case ptr id off=>
    revert h
    simp only[kR,Ec]
    cases K.get id with
    |none=>exact λh=>⟨trivial,h⟩
    |some b=>cases b<;>first |exact λh=>⟨trivial,h⟩ |exact λh=>xm h
   all_goals exact Iu h
  obtain⟨h3,h4⟩:=Ak this.2
  exact⟨λx hx=>by rcases List.mem_cons.1 hx with rfl |hx;exact this.1;exact h3 x hx,h4⟩
theorem oC{K:Heap}:∀{as:List AV} {ds:List D},nG K as=some ds->ds.length=as.length/\∀(i:Nat) d,ds[i]? = some d->∃x,as[i]? = some x/\nZ K x=some d
 | [],ds,h=>by grind[nG]
 |v::r,ds,h=>by
  simp[nG]at h
  split at h
  ·split at h
   ·rename_i hds
    obtain⟨k1,k2⟩:=oC hds
    grind
   ·simp at h
  ·simp at h
theorem qf{K:Heap}{R:List Nat}{N:aS}{M:Mem}{w:World}(m:bT N M w)(hb:∀id∈R,∀blk,K.get id=some blk->eP N M w id blk){x:AV}{d:D}{v:Value}(hx:nZ K x=some d)(hp:∀id∈rV [x],id∈R)(hl:lenOk K x True)(hr:aF N M w x v):DRel (FV R N M) w d v:=by
 have less:∀{d:D} {v:Value},DRel (Fb N M) w d v->DRel (FV R N M) w d v:=λh=>h.keep (fJ.less λb o h=>zh b o h)
 unfold nZ at hx
 split at hx<;>try exact less (hr.toD hx)
 rename_i id vr sz off len
 split at hx<;>try(simp at hx;done)
 rename_i vr' sz' es hK
 ·simp only[Option.some.injEq]at hx;subst hx
  have hid:id∈R:=hp id (by simp[rV])
  simp only[lenOk,hK]at hl
  obtain⟨⟨⟨rfl,hs⟩,hl⟩,_⟩:=hl
  have hs:=hs.symm
  subst hs
  have hll:((es.drop off).take len).length=len:=by simp;omega
  cases hr with
  |own _ _ _ _ _ av cap ha ha'=>
   rcases hb id hid _ hK with⟨b,arr,t,hM,hrow,hle,hsz,hcell⟩ |⟨hM,he0⟩
   ·obtain⟨p1,p2,p3,arr2,t2,p4,p5⟩:=(ha b _ hM).2 rfl
    by_cases h0:len=0
    ·subst h0
     rw[List.take_zero]
     exact .sl0 _ _ _ p2
    ·obtain rfl:=p3 (by omega)
     have hmul:(off+len) * sz<=es.length * sz:=Nat.mul_le_mul_right _ hl
     have key:∀i j e d,((es.drop off).take len)[i]? = some e->e[j]? = some d->off * sz+i * sz+j<arr.size/\DRel (Fb N M) w d (arr.getD (off * sz+i * sz+j) undef)/\(arr.getD (off * sz+i * sz+j) undef).oneCell'=true:=by
      intro i j e d he hd
      rw[List.getElem?_take]at he
      split at he
      ·rename_i hlt
       rw[List.getElem?_drop]at he
       have h2:=o9 hsz he hd
       grind
      ·simp at he
     refine .sl _ _ b (off * sz) cap len (λi j=>arr.getD (off * sz+i * sz+j) undef) hll.symm p1 p2 (λe he=>hsz e (List.mem_of_mem_drop (List.mem_of_mem_take he))) (λi j e d he hd=>?_) λi j e d he hd=>less (key i j e d he hd).2.1
     obtain⟨h1,h2,h3⟩:=key i j e d he hd
     refine⟨?_,by rw[dG hrow,bi undef h1],h3⟩
     rintro(hN |⟨id',ow',q1,q2,q3⟩)
     ·exact(m.dom id _ b _ hM (by simp[Own.has])).2 hN
     ·exact m.disj id id' _ ow' b _ (λe=>q3 (e ▸ hid)) hM q1 (by simp[Own.has]) q2
   ·subst he0
    obtain⟨hz0,_,hz1⟩:=(ha' _ hM).2 rfl
    subst hz0 hz1
    rw[List.take_zero]
    exact .sl0 _ _ _ (Nat.zero_le _)
theorem Iw{K:Heap}{N:aS}{M:Mem}{w:World}{x:AV}{d:D}{v:Value}(hx:nZ K x=some d)(hs:d.scalar=true)(hr:aF N M w x v):v.oneCell'=true:=by
 unfold nZ at hx
 split at hx
 ·cases hr;rfl
 ·exact gJ (x:=.data d) (.data _ _ (hr.toD hx)) hs
theorem LJ{K:Heap}{R:List Nat}{N:aS}{M:Mem}{w:World}(m:bT N M w)(hb:∀id∈R,∀blk,K.get id=some blk->eP N M w id blk){x:AV}{d:D}{v:Value}(hx:FI K x=some d)(hp:∀id∈jO K [x],id∈R)(hl:Ec K x)(hr:aF N M w x v):DRel (FV R N M) w d v:=by
 have less:∀{d:D} {v:Value},DRel (Fb N M) w d v->DRel (FV R N M) w d v:=λh=>h.keep (fJ.less λb o h=>zh b o h)
 unfold FI at hx
 split at hx
 ·rename_i id off
  split at hx
  ·rename_i cs hK
   split at hx
   ·rename_i ds hds
    split at hx
    ·rename_i hsc
     simp only[Option.some.injEq]at hx;subst hx
     have hid:=hp id (by simp[jO])
     obtain⟨b,arr,t,e1,e2,e3,e4⟩:=hb id hid _ hK
     cases hr with
     |ptr _ _ a ha=>
      rw[ha b e1]
      obtain⟨k1,k2⟩:=oC hds
      simp only[Ec,hK]at hl
      have key:∀j d,ds[j]? = some d->off+j<arr.size/\DRel (FV R N M) w d (arr.getD (off+j) undef)/\(d.scalar=true->(arr.getD (off+j) undef).oneCell'=true):=by
       intro j d hj
       obtain⟨c,q0,q2⟩:=k2 j d hj
       have q1:=q0
       rw[List.getElem?_drop]at q1
       have:=(List.getElem?_eq_some_iff.1 q1).1
       have hm:=List.mem_of_getElem? q0
       exact⟨by omega,qf m hb q2 (λi hi=>hp i (by simp only[jO,hK,List.append_nil,List.mem_cons];exact .inr (xk hm hi))) (hl c hm) (e4 _ c q1),λhs=>Iw q2 hs (e4 _ c q1)⟩
      refine .ptr ds b off (λj=>arr.getD (off+j) undef) (λj d hj=>?_) (λj d hj=>(key j d hj).2.1)
      obtain⟨h1,h2,h3⟩:=key j d hj
      refine⟨?_,by rw[dG e2,bi undef h1],?_⟩
      ·rintro(hN |⟨id',ow',p1,p2,p3⟩)
       ·exact(m.dom id _ b (off+j) e1 (by simp[Own.has])).2 hN
       ·refine m.disj id id' _ ow' b (off+j) (λe=>p3 (e ▸ hid)) e1 p1 (by simp[Own.has]) p2
      ·exact h3 (List.all_eq_true.1 hsc d (List.mem_of_getElem? hj))
    ·simp at hx
   ·simp at hx
  ·simp at hx
 ·rename_i cs
  split at hx
  ·rename_i ds hds
   simp only[Option.some.injEq]at hx;subst hx
   obtain⟨k1,k2⟩:=oC hds
   cases hr with
   |agg _ vs hlen hh=>
    refine .agg _ _ (by omega) λi d hd=>?_
    obtain⟨c,q1,q2⟩:=k2 i d hd
    exact qf m hb q2 (λid h=>hp id (by simp only[jO,List.append_nil];exact xk (List.mem_of_getElem? q1) h)) (hl c (List.mem_of_getElem? q1)) (hh i c q1)
  ·simp at hx
 ·rename_i hnp hna
  refine qf m hb hx (λid h=>hp id ?_) ?_ hr
  ·cases x<;>first |exact absurd h List.not_mem_nil |exact h
  ·cases x with
   |agg cs=>exact(hna cs rfl).elim
   |ptr i off=>exact(hnp i off rfl).elim
   |_=>exact hl
theorem OG{o:Oper}{c:Call}{f:Operand}{fid:FuncId}{pre caps:List AV}{ds:List D}{out:lY}{env:Env}{K:Heap}(ho:o.op = .call c)(hc:c.callee = .value f)(hf:Ai (ev T env 0 f) fid pre caps)
  (hin:allIn (fP env K o) (jO K (pre++iT T env c++caps))=true) (hlen:∀v∈pre++iT T env c++caps,Ec K v) (hds:qL K (pre++iT T env c++caps)=some ds) (hp:PCall P fid ds out) (hfl:(match out with | .ret d=>d | .pan d=>d).flat=true) :
  match out with | .ret d=>FP P o env K false (.data d) [] [] [] | .pan d=>FP P o env K true (.data d) [] [] []:=by
 have hin:=bG.1 hin
 have args:∀(N:aS) (M:Mem) (a:Act) (w:World),bT N M w->(∀id∈fP env K o,∀blk,K.get id=some blk->eP N M w id blk)->∀args:Array Value,args.size=(pre++iT T env c++caps).length->(∀(i:Nat) x,(pre++iT T env c++caps)[i]? = some x->aF N M w x (args.getD i undef)) ->
   args.size=ds.length/\∀(i:Nat) d,ds[i]? = some d->DRel (FV (fP env K o) N M) w d (args.getD i undef):=by
  intro N M a w m h2 args r2 r3
  obtain⟨k1,k2⟩:=yE hds
  refine⟨by omega,λi d hd=>?_⟩
  obtain⟨x,e1,e2⟩:=k2 i d hd
  exact LJ m h2 e2 (λid hid=>hin id (Eb (List.mem_of_getElem? e1) hid)) (hlen x (List.mem_of_getElem? e1)) (r3 i x e1)
 rcases hp with⟨hfn,hp⟩ |⟨d,rfl,hp⟩
 rotate_left
 ·intro N M a w m h1 h2 next Q hn
  obtain⟨as,r1,r2,r3⟩:=xh ho hc hf m h1
  obtain⟨k1,k2⟩:=args N M a w m h2 as r2 r3
  obtain⟨v,e1,e2⟩:=hp _ w as (OE m) k1 k2
  refine .inl ?_
  simp only[Oper.wp,r1,e1,Oper.upon_value]
  exact hn v M w (Step.refl M w) (by simp) (.data _ _ (zg hfl e2)) (by simp[Heap.get])
 have key:∀(N:aS) (M:Mem) (a:Act) (w:World),bT N M w->(∀j,Operand.tmp j∈o.op.operands->aF N M w (env.get j) (a.tmps.getD j undef))->(∀id∈fP env K o,∀blk,K.get id=some blk->eP N M w id blk) ->
   ∃args,(execOp a.eval o).run P w = .ok (.enter fid args) w/\Calls P fid args w λe w'=>Step yA w yA w' []/\out.rel (FV (fP env K o) N M) w' e:=by
  intro N M a w m h1 h2
  obtain⟨as,r1,r2,r3⟩:=Aj (P:=P) ho hc hf m h1 hfn
  obtain⟨k1,k2⟩:=args N M a w m h2 as r2 r3
  exact⟨as,r1,hp _ w as (OE m) k1 k2⟩
 cases out with
 |ret d=>
  intro N M a w m h1 h2 next Q hn
  obtain⟨args,r1,r2⟩:=key N M a w m h1 h2
  refine .inl ?_
  simp only[Oper.wp,r1,Oper.upon_enter]
  refine r2.mono λe w'=>?_
  rintro⟨s,v,rfl,hv⟩
  exact hn v M w' (s.of_mem0 M) (by simp) (.data _ _ (zg hfl hv)) (by simp[Heap.get])
 |pan d=>
  intro N M a w m h1 h2 next Q hn
  obtain⟨args,r1,r2⟩:=key N M a w m h1 h2
  refine .inl ?_
  simp only[Oper.wp,r1,Oper.upon_enter]
  refine r2.mono λe w'=>?_
  rintro⟨s,v,rfl,hv⟩
  exact hn v M w' (s.of_mem0 M) (by simp) (.data _ _ (zg hfl hv)) (by simp[Heap.get])
theorem YV{ρ:Operand->Value}{o:Oper}{c:Call}(ho:o.op = .call c)(hc:c.callee = .builtin .len):execOp ρ o=(do pure (.value (<-Builtin.len_ c.argTypes o.type (c.args.map ρ)))):=by
 rw[jP ho];cases c;subst hc;rfl
theorem YW{ρ:Operand->Value}{o:Oper}{c:Call}(ho:o.op = .call c)(hc:c.callee = .builtin .max):execOp ρ o=(do pure (.value (<-Builtin.max_ c.argTypes o.type (c.args.map ρ)))):=by
 rw[jP ho];cases c;subst hc;rfl
theorem YX{ρ:Operand->Value}{o:Oper}{c:Call}(ho:o.op = .call c)(hc:c.callee = .builtin .min):execOp ρ o=(do pure (.value (<-Builtin.min_ c.argTypes o.type (c.args.map ρ)))):=by
 rw[jP ho];cases c;subst hc;rfl
def zc5(T:Tbl)(env:Env)(K K':Heap)(o:Oper):Wr->Prop
 | .no=>True
 | .new d=>d∈fV T env K K' o/\d∈wids T env K K' o
 | .st id | .tk id=>id∈wids T env K K' o
structure z6l(P:Program)(T:Tbl)(o:Oper)(env:Env)(K:Heap)(pn:Bool)(r:AV)(W nw:List Nat)(Δ:Heap):Prop where
 fresh:∀d∈nw,bI d=false/\fU d env=false/\pK d K=false
 dom:∀id,id∈W↔∃b,Δ.get id=some b
 sub:∀d∈nw,d∈W
 wids:∀id∈W,id∈wids T env K (uU K Δ) o
 nids:∀d∈nw,d∈fV T env K (uU K Δ) o
 eff:FP P o env K pn r W nw Δ
def gQ(P:Program)(T:Tbl)(o:Oper)(env:Env)(K:Heap)(next pan:Next):Prop:=
 ∃pn r W nw Δ,(match pn with |true=>pan r (uU K Δ) |false=>next r (uU K Δ))/\z6l P T o env K pn r W nw Δ
theorem gQ.old{P:Program}{T:Tbl}{o:Oper}{env:Env}{K:Heap}{next pan:Next}(hr:fP env K o=ja env (tmpsOf o.op.operands.toList))
  (h:(∃r wr δ,next r (upd K δ)/\pX env K wr/\WrD wr δ/\zc5 T env K (upd K δ) o wr/\wO P o env K r wr δ)\/(∃p,pan p K/\z6h P o env K p)):gQ P T o env K next pan:=by
 rcases h with⟨r,wr,δ,h1,h2,h3,h4,h5⟩ |⟨p,h1,h2⟩
 ·refine⟨false,r,wr.ids,wr.nw,dl δ,by grind[Lu],⟨?_,?_,?_,?_,?_,h5.eff hr⟩⟩
  ·intro d hd
   cases wr<;>simp[Wr.nw]at hd
   subst hd;exact h2
  ·intro id
   constructor
   ·intro hi;obtain⟨b,hb⟩:=h3.names id hi;exact⟨b,UE.2 hb⟩
   ·rintro⟨b,hb⟩;exact h3.back id b (UE.1 hb)
  ·intro d hd;cases wr<;>simp[Wr.nw]at hd ⊢;grind[Wr.ids]
  ·intro id hi
   rw[Lu]
   cases wr<;>simp[Wr.ids]at hi<;>subst hi<;>first |exact h4.2 |exact h4
  ·intro d hd
   rw[Lu]
   cases wr<;>simp[Wr.nw]at hd
   subst hd;exact h4.1
 ·exact⟨true,p,[],[],[],h1,⟨by simp,by simp[Heap.get],by simp,by simp,by simp,h2.eff hr⟩⟩
theorem gQ.val{P:Program}{T:Tbl}{o:Oper}{env:Env}{K:Heap}{next pan:Next}{r:AV}(hr:fP env K o=ja env (tmpsOf o.op.operands.toList))(h:next r K)
  (k:∀(N:aS) (M:Mem) (a:Act) (w:World),bT N M w->(∀j,Operand.tmp j∈o.op.operands->aF N M w (env.get j) (a.tmps.getD j undef))->(∀j,Operand.tmp j∈o.op.operands->Hk N M w K (env.get j)) ->
   ∃z,(execOp a.eval o).run P w = .ok (.value z) w/\aF N M w r z):gQ P T o env K next pan:=
 .old hr (.inl ⟨r,.no,none,h,trivial,.inl ⟨rfl,rfl⟩,trivial,wO.pure k⟩)
theorem gQ.val0{P:Program}{T:Tbl}{o:Oper}{env:Env}{K:Heap}{next pan:Next}{r:AV}(h:next r K)
  (k:∀(N:aS) (M:Mem) (a:Act) (w:World),bT N M w->(∀j,Operand.tmp j∈o.op.operands->aF N M w (env.get j) (a.tmps.getD j undef))->∃z,(execOp a.eval o).run P w = .ok (.value z) w/\aF N M w r z):gQ P T o env K next pan:=by
 refine⟨false,_,[],[],[],h,⟨by simp,by simp[Heap.get],by simp,by simp,by simp,?_⟩⟩
 intro N M a w m h1 _ next' Q hn
 obtain⟨z,hz,hzr⟩:=k N M a w m h1
 refine .inl ?_
 unfold Oper.wp
 rw[hz]
 exact hn z M w (Step.refl M w) (by simp) hzr (by simp[Heap.get])
include hT
omit hT in
theorem YY{sz off:Nat}{e ds:List D}(he:e.length=sz)(ho:off+ds.length<=sz):(zch sz e off ds).length=sz:=by
 unfold zch
 split
 ·rename_i h;exact Nat.eq_of_beq_eq_true h
 ·simp;omega
omit hT in
theorem YZ{sz off j:Nat}{e ds:List D}{d:D}(he:e.length=sz)(ho:off+ds.length<=sz)(h:(zch sz e off ds)[j]? = some d) :
  (off<=j/\j<off+ds.length/\ds[j-off]? = some d)\/(¬(off<=j/\j<off+ds.length)/\e[j]? = some d):=by
 unfold zch at h
 split at h
 ·rename_i hb
  have hb:=Nat.eq_of_beq_eq_true hb
  have hj:=(List.getElem?_eq_some_iff.1 h).1
  exact .inl ⟨by omega,by omega,by rw[show j-off=j by omega];exact h⟩
 ·rw[List.getElem?_append]at h
  simp only[List.length_take]at h
  split at h
  ·rename_i hlt
   rw[List.getElem?_take,if_pos (by omega)]at h
   exact .inr ⟨by omega,h⟩
  ·rename_i hge
   rw[List.getElem?_append]at h
   split at h
   ·rename_i hlt
    rw[show min off e.length=off by omega]at h hlt
    exact .inl ⟨by omega,by omega,h⟩
   ·rename_i hge2
    rw[List.getElem?_drop]at h
    rw[show off+ds.length+(j-min off e.length-ds.length)=j by omega]at h
    exact .inr ⟨by omega,h⟩
theorem UK{o:Oper}{t:TypeId}{x v:Operand}{env:Env}{K:Heap}{next:Next}(ho:o.op = .store t x v)(h:DT T t (ev T env 0 x) (ev T env t v) K next) :
  ∃id blk,next (.data (.val undef)) (K.put id blk)/\id∈(ev T env 0 x).ids/\wO P o env K (.data (.val undef)) (.st id) (some (id,blk)):=by
 unfold DT at h
 split at h
 ·rename_i id off hx
  split at h
  ·rename_i cs hK
   split at h
   ·rename_i hb
    simp only[Bool.and_eq_true]at hb
    obtain⟨b1,b2,b3,b4⟩:=hb
    exact⟨id,_,h,by rw[hx];simp[AV.ids],Uz hT ho hx hK b1 (Nat.eq_of_beq_eq_true b2) (Nat.le_of_ble_eq_true b3) b4⟩
   ·exact h.elim
  ·exact h.elim
 ·rename_i id vr sz' i off hx
  split at h
  ·rename_i vr2 sz es hK
   split at h
   ·rename_i ds hds
    obtain⟨hk,⟨rfl,rfl⟩,hl,hoff,hsc,e0,he0,h⟩:=h
    have hi:i<es.length:=(List.getElem?_eq_some_iff.1 he0).1
    refine⟨id,_,h,by rw[hx];simp[AV.ids],?_⟩
    intro N M a w m h1 h2 next' Q hn
    have hxr:aF N M w (ev T env 0 x) (a.eval x):=dW m 0 x λj e=>h1 j (by rw[ho,e];simp[Op.operands])
    have hvr:aF N M w (ev T env t v) (a.eval v):=dW m t v λj e=>h1 j (by rw[ho,e];simp[Op.operands])
    have hxk:Hk N M w K (ev T env 0 x):=wV 0 x λj e=>h2 j (by rw[ho,e];simp[Op.operands])
    rw[hx]at hxr hxk
    obtain⟨k1,k2⟩:=fF hds
    have hcel:(ev T env t v).celled=true:=by
     generalize ev T env t v=y at hds k1 k2
     cases y with
     |top=>simp[AV.cells,AV.allD,AV.toD?.go,AV.toD?]at hds
     |dfr _=>simp[AV.cells,AV.allD,AV.toD?.go,AV.toD?]at hds
     |data d=>
      cases d with
      |val u=>
       simp[AV.cells,AV.allD,AV.toD?.go,AV.toD?]at hds
       subst hds
       simpa[D.scalar,AV.celled]using hsc
      |_=>rfl
     |_=>rfl
    obtain⟨c1,c2⟩:=hvr.cellsOf hcel
    have hcd:∀(j:Nat) d,ds[j]? = some d->DRel (Fb N M) w d ((a.eval v).cells.getD j undef)/\((a.eval v).cells.getD j undef).oneCell'=true:=by
     intro j d hd
     obtain⟨c,e1,e2⟩:=k2 j d hd
     have:=(c2 j c e1).toD e2
     exact⟨this,gJ (x:=.data d) (.data _ _ this) (List.all_eq_true.1 hsc d (List.mem_of_getElem? hd))⟩
    generalize hav:a.eval x=va at hxr
    cases hxr with
    |eptr _ _ _ _ _ ad ha=>
     obtain⟨b,arr,t',e1,e2,e3,e4,e5⟩:=(hxk id (by simp[AV.men]) _ hK).arrAt he0
     obtain rfl:=(ha b _ e1).2 rfl
     have hel:e0.length=sz':=e4 e0 (List.mem_of_getElem? he0)
     have hbd:(i+1) * sz'<=arr.size:=Nat.le_trans (Nat.mul_le_mul_right _ hi) e3
     rw[Nat.add_mul,Nat.one_mul]at hbd
     obtain⟨arr',r1,r2,r3⟩:=Ij (P:=P) ho hav e2 (run_sizeOf' hT (aZ hk) w) (by rw[c1,<-k1,hl]) (by omega) (λu hu=>by
      obtain⟨j,hj,rfl⟩:=List.mem_iff_getElem.1 hu
      simp only[Array.length_toList]at hj
      have:=(hcd j (ds[j]'(by omega)) (by simp)).2
      simpa[hj]using this)
     simp only[Oper.wp,r1,Oper.upon_skip]
     have hst:Step M w M (World.rewrite w b arr' t') [id]:=Step.rewrite e2 e1 r2 (λj hj=>by exact absurd rfl hj) ⟨0,rfl⟩ (λ_ _=>rfl) (λow' b' o' h hh=>by
      rw[e1]at h;simp only[Option.some.injEq]at h;subst h;exact⟨hh,hh⟩)
     refine hn _ _ _ hst rfl (.data _ _ (.val _)) ?_
     rintro id' blk e
     simp only[Option.some.injEq,Prod.mk.injEq]at e
     obtain⟨rfl,rfl⟩:=e
     have hkeep:∀{y u},DRel (Fb N M) w y u->DRel (Fb N M) (World.rewrite w b arr' t') y u:=λhy=>hy.keep hst.keeps
     refine⟨by simp[Wr.ids],.inl ⟨b,arr',t',e1,dP ((Array.getElem?_eq_some_iff.1 e2).1),by rw[r2];simpa using e3,λe he=>?_,λi' j e d he hd=>?_⟩⟩
     ·rcases List.mem_or_eq_of_mem_set he with h |h
      ·exact e4 e h
      ·rw[h];exact YY hel hoff
     ·rw[List.getElem?_set]at he
      split at he
      ·rename_i hii
       subst hii
       simp only[Option.some.injEq]at he;subst he
       rcases YZ hel hoff hd with⟨g1,g2,g3⟩ |⟨g1,g2⟩
       ·rw[r3,if_pos (by omega),show i * sz'+j-(i * sz'+off)=j-off by omega]
        obtain⟨p1,p2⟩:=hcd (j-off) d g3
        exact⟨hkeep p1,p2⟩
       ·rw[r3,if_neg (by omega)]
        obtain⟨p1,p2⟩:=e5 i j e0 d he0 g2
        exact⟨hkeep p1,p2⟩
      ·rename_i hii
       have hj:j<sz':=by rw[<-e4 e (List.mem_of_getElem? he)];exact(List.getElem?_eq_some_iff.1 hd).1
       have:¬(i * sz'+off<=i' * sz'+j/\i' * sz'+j<i * sz'+off+(T.at t).size):=by
        rintro⟨q1,q2⟩
        rcases Nat.lt_or_gt_of_ne hii with h |h
        ·have:(i+1) * sz'<=i' * sz':=Nat.mul_le_mul_right _ h
         rw[Nat.add_mul]at this;omega
        ·have:(i'+1) * sz'<=i * sz':=Nat.mul_le_mul_right _ h
         rw[Nat.add_mul]at this;omega
       rw[r3,if_neg this]
       obtain⟨p1,p2⟩:=e5 i' j e d he hd
       exact⟨hkeep p1,p2⟩
   ·exact h.elim
  ·exact h.elim
 ·exact h.elim
omit hT in
theorem xn{ρ:Operand->Value}{o:Oper}{c:Call}(ho:o.op = .call c)(hc:c.callee = .builtin .clear):execOp ρ o=(do pure (.value (<-Builtin.clear_ c.argTypes o.type (c.args.map ρ)))):=by
 rw[jP ho];cases c;simp only at hc;subst hc;rfl
theorem Y0{o:Oper}{c:Call}{x:Operand}{env:Env}{K:Heap}{next:Next}(ho:o.op = .call c)(hc:c.callee = .builtin .clear)(hargs:c.args.toList = [x])(hts:1<=c.argTypes.size)
  (h:DX T (c.argTypes.getD 0 0) (ev T env (c.argTypes.getD 0 0) x) K next) :
  ∃id blk,(ev T env (c.argTypes.getD 0 0) x).ids = [id]/\next (.data (.val (.tuple #[]))) (K.put id blk)/\wO P o env K (.data (.val (.tuple #[]))) (.st id) (some (id,blk)):=by
 have hmx:x∈o.op.operands:=zf ho x (by rw[hargs];simp)
 have hA:∀a:Act,c.args.map a.eval = #[a.eval x]:=λa=>by apply Array.toList_inj.1;simp[hargs]
 have hT0:c.argTypes[0]? = some (c.argTypes.getD 0 0):=bi 0 (by omega)
 generalize c.argTypes.getD 0 0=t at h hT0 ⊢
 unfold DX at h
 split at h
 ·rename_i kt et id hty hx
  split at h
  ·rename_i g l es hK
   refine⟨id,_,by rw[hx];rfl,h,λN M a w hm h1 h2 next' Q hn=>?_⟩
   have hxr:aF N M w (ev T env t x) (a.eval x):=dW hm t x λj e=>h1 j (e ▸ hmx)
   have hxk:Hk N M w K (ev T env t x):=wV t x λj e=>h2 j (e ▸ hmx)
   rw[hx]at hxr hxk
   obtain⟨b,mes,clock,e1,e2,e3,est,e4⟩:=hxk id (by simp[AV.men]) _ hK
   generalize hvx:a.eval x=vx at hxr
   cases hxr with
   |map _ r hr=>
    obtain rfl:=hr b e1
    have hb:r<w.heap.size:=(Array.getElem?_eq_some_iff.1 e2).1
    have hrun:(execOp a.eval o).run P w = .ok (.value (.tuple #[])) (World.setObj w r (.map #[] clock)):=by
     rw[xn ho hc,hA,hvx]
     simp only[Builtin.clear_,hT0,List.getElem?_toArray,List.getElem?_cons_zero,Sem.run_bind,run_underlying (tbl_map' hT hty),Result.andThen_ok,MapKept.run_getObj_map e2,MapKept.run_setObj_map _ e2,Sem.run_pure]
     rfl
    simp only[Oper.wp,hrun,Oper.upon_value]
    have hst:Step M w M (World.setObj w r (.map #[] clock)) [id]:=Step.setMap e2 e1
    refine hn _ _ _ hst rfl (.data _ _ (.val _)) ?_
    rintro id' blk e
    simp only[Option.some.injEq,Prod.mk.injEq]at e
    obtain⟨rfl,rfl⟩:=e
    exact⟨by simp[Wr.ids],r,#[],clock,e1,Af hb,rfl,MapKept.stamped_empty _,λi y hy=>by simp at hy⟩
  ·exact h.elim
 ·rename_i e id vr sz len hty hx
  split at h<;>try exact h.elim
  rename_i vr2 sz2 es hK
  split at h<;>try exact h.elim
  rename_i z0 z hk hz
  split at h<;>try exact h.elim
  rename_i ds hds
  split at h<;>try exact h.elim
  rename_i hb
  simp only[Bool.and_eq_true]at hb
  obtain⟨hb1,hb2,hb4⟩:=hb
  have hb1:=Nat.eq_of_beq_eq_true hb1
  have hb2:=Nat.le_of_ble_eq_true hb2
  obtain⟨⟨⟨rfl,rfl⟩,hsz,hle⟩,h⟩:=h
  refine⟨id,_,by rw[hx];rfl,h,λN M a w hm h1 h2 next' Q hn=>?_⟩
  have hxr:aF N M w (ev T env t x) (a.eval x):=dW hm t x λj e=>h1 j (e ▸ hmx)
  have hxk:Hk N M w K (ev T env t x):=wV t x λj e=>h2 j (e ▸ hmx)
  rw[hx]at hxr hxk
  have hbk:=hxk id (by simp[AV.men]) _ hK
  generalize hvx:a.eval x=vx at hxr
  cases hxr with
  |own _ _ _ _ _ av cap ha hnb=>
   have none0:len=0->o.wp P a w next' Q:=by
    intro h0
    subst h0
    have hrun:(execOp a.eval o).run P w = .ok (.value (.tuple #[])) w:=by
     rw[xn ho hc,hA,hvx]
     simp only[Builtin.clear_,hT0,List.getElem?_toArray,List.getElem?_cons_zero,Sem.run_bind,run_underlying (aQ hT hty),Result.andThen_ok,Sem.run_pure]
     cases av<;>rfl
    simp only[Oper.wp,hrun,Oper.upon_value]
    have hst:Step M w M w [id]:=⟨rfl,rfl,rfl,Nat.le_refl _,λ_ _ _=>rfl,λ_ _ _ _ h=>h,λb arr t h=>⟨arr,h,rfl⟩,λ_ _=>rfl,λid hid ow b o h1 h2=>⟨(hm.dom id ow b o h1 h2).1,.inr ⟨id,hid,ow,h1,h2⟩⟩,λi1 h1 i2 h2 hne=>by
     simp_all⟩
    refine hn _ _ _ hst rfl (.data _ _ (.val _)) ?_
    rintro id' blk e
    simp only[Option.some.injEq,Prod.mk.injEq]at e
    obtain⟨rfl,rfl⟩:=e
    grind[Wr.ids]
   rcases hbk with⟨b,arr,t',e1,e2,e3,e4,e5⟩ |⟨e1,_⟩
   rotate_left
   ·simp_all
   by_cases hl0:len=0
   ·exact none0 hl0
   clear none0
   obtain⟨p1,p2,p3,_⟩:=(ha b _ e1).2 rfl
   obtain rfl:=p3 (by omega)
   obtain⟨zv,q1,q2,q3⟩:=kE hT hk (by rw[hz];simp) w
   rw[hz]at q2 q3
   have q2:zv.cells.size=(T.at e).size:=by rw[q2,hb1]
   obtain⟨k1,k2⟩:=fF hds
   have hdl:ds.length=(T.at e).size:=by rw[k1,hb1]
   have hzc:(Builtin.zeroCells zv.cells len).size=len * (T.at e).size:=by simp[Builtin.zeroCells,q2]
   have hcell:∀i,i<len * (T.at e).size->∃d,ds[i % (T.at e).size]? = some d/\DRel (Fb N M) w d ((Builtin.zeroCells zv.cells len).getD i undef)/\((Builtin.zeroCells zv.cells len).getD i undef).oneCell'=true:=by
    intro i hi
    have hm1:i % (T.at e).size<(T.at e).size:=Nat.mod_lt _ hb2
    have hd:ds[i % (T.at e).size]? = some (ds[i % (T.at e).size]'(by omega)):=by simp[hdl,hm1]
    refine⟨_,hd,?_⟩
    have hg:(Builtin.zeroCells zv.cells len).getD i undef=zv.cells.getD (i % (T.at e).size) undef:=by
     simp only[Builtin.zeroCells,q2]
     simp_all
    rw[hg]
    obtain⟨c',f1,f2⟩:=k2 _ _ hd
    have hr:=(q3 N M w _ c' f1).1
    exact⟨hr.toD f2,gJ (x:=.data _) (.data _ _ (hr.toD f2)) (List.all_eq_true.1 hb4 _ (List.mem_of_getElem? hd))⟩
   have hle3:len * (T.at e).size<=arr.size:=Nat.le_trans (by rw[<-hsz];exact Nat.mul_le_mul_right _ hle) e3
   obtain⟨arr',r1,r2,r3⟩:=dY (P:=P) (Builtin.zeroCells zv.cells len).toList w b 0 0 arr t' e2 (by grind) (λv hv=>by
    obtain⟨i,hi,rfl⟩:=List.mem_iff_getElem.1 hv
    have hi':i<len * (T.at e).size:=by simpa[hzc]using hi
    obtain⟨_,_,_,g⟩:=hcell i hi'
    simpa[hzc,hi']using g)
   have hrun:(execOp a.eval o).run P w = .ok (.value (.tuple #[])) (World.rewrite w b arr' t'):=by
    rw[xn ho hc,hA,hvx]
    obtain⟨m,rfl⟩:∃m,len=m+1:=⟨len-1,by omega⟩
    simp only[Builtin.clear_,hT0,List.getElem?_toArray,List.getElem?_cons_zero,Sem.run_bind,run_underlying (aQ hT hty),Result.andThen_ok,q1,Nat.zero_mul,r1,Sem.run_pure]
   simp only[Oper.wp,hrun,Oper.upon_value]
   have hst:Step M w M (World.rewrite w b arr' t') [id]:=Step.rewrite e2 e1 r2 (λj hj=>by exact absurd rfl hj) ⟨0,rfl⟩ (λ_ _=>rfl) (λow' b' o' h hh=>by
    rw[e1]at h;simp only[Option.some.injEq]at h;subst h;exact⟨hh,hh⟩)
   have hkeep:∀{y u},DRel (Fb N M) w y u->DRel (Fb N M) (World.rewrite w b arr' t') y u:=λhy=>hy.keep hst.keeps
   refine hn _ _ _ hst rfl (.data _ _ (.val _)) ?_
   rintro id' blk e'
   simp only[Option.some.injEq,Prod.mk.injEq]at e'
   obtain⟨rfl,rfl⟩:=e'
   have hlen2:(List.replicate len ds++es.drop len).length=es.length:=by simp;omega
   refine⟨by simp[Wr.ids],.inl ⟨b,arr',t',e1,dP ((Array.getElem?_eq_some_iff.1 e2).1),by grind,λq hq=>?_,λi j q d hq hd=>?_⟩⟩
   ·grind
   ·rw[List.getElem?_append]at hq
    simp only[List.length_replicate]at hq
    split at hq
    ·rename_i hi
     rw[List.getElem?_replicate,if_pos hi]at hq
     simp only[Option.some.injEq]at hq;subst hq
     have hj:j<(T.at e).size:=by grind
     have hlt:i * (T.at e).size+j<len * (T.at e).size:=by
      have:(i+1) * (T.at e).size<=len * (T.at e).size:=Nat.mul_le_mul_right _ hi
      grind
     obtain⟨d',g1,g2,g3⟩:=hcell _ hlt
     have hmod:(i * (T.at e).size+j) % (T.at e).size=j:=by rw[Nat.mul_comm,Nat.mul_add_mod,Nat.mod_eq_of_lt hj]
     simp_all
    ·rename_i hi
     rw[List.getElem?_drop,Nat.add_sub_cancel' (by omega)]at hq
     have hmul:len * (T.at e).size<=i * (T.at e).size:=Nat.mul_le_mul_right _ (by omega)
     grind
 ·exact h.elim
theorem Iy{env:Env}{K:Heap}{o:Oper}{next pan:Next}(h:vOp T (PCall P) (ak P) env K o next pan):gQ P T o env K next pan:=by
 have E:∀{N:aS} {M:Mem} {a:Act} {w:World},bT N M w->(∀j,Operand.tmp j∈o.op.operands->aF N M w (env.get j) (a.tmps.getD j undef))->∀t x,x∈o.op.operands->aF N M w (ev T env t x) (a.eval x):=
  λm h1 t x hx=>dW m t x λj e=>h1 j (e ▸ hx)
 have H:∀{N:aS} {M:Mem} {w:World},(∀j,Operand.tmp j∈o.op.operands->Hk N M w K (env.get j))->∀t x,x∈o.op.operands->Hk N M w K (ev T env t x):=
  λh1 t x hx=>wV t x λj e=>h1 j (e ▸ hx)
 unfold vOp at h
 split at h
 ·rename_i x ho
  refine⟨false,_,[],[],[],h,⟨by simp,by simp[Heap.get],by simp,by simp,by simp,?_⟩⟩
  intro N M a w m h1 h2 next' Q hn
  refine .inl ?_
  simp only[Oper.wp,Ut ho,Sem.run_pure,Oper.upon_value]
  exact hn _ M w (Step.refl M w) (by simp) (E m h1 _ x (by rw[ho];simp[Op.operands])) (by simp[Heap.get])
 ·rename_i x ho
  exact gQ.val (by simp only[fP,ho]) h λN M a w m h1 h2=>⟨_,by rw[Ls ho];rfl,E m h1 _ x (by rw[ho];simp[Op.operands])⟩
 ·rename_i c x y ho
  split at h
  ·rename_i b hb
   have hc:∀{N:aS} {M:Mem} {a:Act} {w:World},bT N M w->(∀j,Operand.tmp j∈o.op.operands->aF N M w (env.get j) (a.tmps.getD j undef))->a.eval c = .bool b:=λm h1=>by
    have:=E m h1 o.type c (by rw[ho];simp[Op.operands]);rw[hb]at this;exact this.bool
   cases b with
   |true=>exact gQ.val (by simp only[fP,ho]) h λN M a w m h1 h2=>⟨_,by rw[Ii ho,hc m h1];simp[asBool],E m h1 _ x (by rw[ho];simp[Op.operands])⟩
   |false=>exact gQ.val (by simp only[fP,ho]) h λN M a w m h1 h2=>⟨_,by rw[Ii ho,hc m h1];simp[asBool],E m h1 _ y (by rw[ho];simp[Op.operands])⟩
  ·exact h.elim
 ·rename_i t ho
  split at h
  ·rename_i d hd
   split at h
   ·rename_i z0 z hk hz
    obtain⟨hf,h⟩:=fQ h
    exact .old (by simp only[fP,ho]) <| .inl ⟨.ptr d 0,.new d,some (d,.cells (z0::z)),h,hf,.inr ⟨_,_,rfl,rfl⟩,⟨by simp[fV,ho,hd],by simp[wids,ho,hd]⟩,by rw[<-hz];exact Uy hT ho hk (by rw[hz];simp)⟩
   ·split at h
    ·rename_i hty
     obtain⟨hf,h⟩:=fQ h
     exact .old (by simp only[fP,ho]) <| .inl ⟨.ptr d 0,.new d,some (d,.cells []),h,hf,.inr ⟨_,_,rfl,rfl⟩,⟨by simp[fV,ho,hd],by simp[wids,ho,hd]⟩,Ux hT ho hty⟩
    ·exact h.elim
   ·exact h.elim
  ·exact h.elim
 ·rename_i t x ho
  split at h
  ·rename_i d hd
   split at h
   ·rename_i hc
    obtain⟨hf,h⟩:=fQ h
    exact .old (by simp only[fP,ho]) <| .inl ⟨.ptr d 0,.new d,some (d,.cells (ev T env t x).cells),h,hf,.inr ⟨_,_,rfl,rfl⟩,⟨by simp[fV,ho,hd],by simp[wids,ho,hd]⟩,z6i ho hc hf.2.1⟩
   ·exact h.elim
  ·exact h.elim
 ·rename_i t ps ho
  obtain⟨r,h,hr⟩:=UB hT ho h
  exact .old (by simp only[fP,ho]) <| .inl ⟨r,.no,none,h,trivial,.inl ⟨rfl,rfl⟩,trivial,hr⟩
 ·rename_i t n ps ho
  split at h
  ·rename_i d hd
   obtain⟨r,blk,h,hf,hr⟩:=Dk hT ho h
   exact .old (by simp only[fP,ho]) <| .inl ⟨r,.new d,_,h,hf,.inr ⟨_,_,rfl,rfl⟩,⟨by simp[fV,ho,hd],by simp[wids,ho,hd]⟩,hr⟩
  ·exact h.elim
 ·rename_i t x ho
  obtain⟨r,h,hr⟩:=FM hT h
  refine gQ.val (by simp only[fP,ho]) h λN M a w m h1 h2=>?_
  have hx:x∈o.op.operands:=by rw[ho];simp[Op.operands]
  obtain⟨u,hu,hur⟩:=hr N M w _ (E m h1 0 x hx) (H h2 0 x hx)
  exact⟨u,by rw[Ih ho];simp[hu],hur⟩
 ·rename_i t x v ho
  obtain⟨id,blk,h,hid,hr⟩:=UK hT ho h
  refine .old (by simp only[fP,ho]) <| .inl ⟨_,.st id,some (id,blk),h,trivial,.inr ⟨_,_,rfl,rfl⟩,?_,hr⟩
  simp only[zc5,wids,ho]
  exact hid
 ·rename_i x ho
  have hx:x∈o.op.operands:=by rw[ho];simp[Op.operands]
  have key:∀(y:AV),ev T env 0 x=y->next y K->(∀(N:aS) (M:Mem) (w:World) v,aF N M w y v->∀ρ:Operand->Value,ρ x=v->execOp ρ o=pure (.value v))->gQ P T o env K next pan:=by
   intro y hy hn hk
   refine gQ.val0 hn λN M a w m h1=>⟨a.eval x,?_,?_⟩
   ·have:=E m h1 0 x hx
    rw[hy]at this
    rw[hk N M w _ this a.eval rfl];rfl
   ·have:=E m h1 0 x hx
    rwa[hy]at this
  split at h
  ·rename_i i q heq
   exact key _ heq h λN M w v hv ρ hρ=>by
    cases hv;cases o;simp only at ho;subst ho;simp only[execOp,hρ]
  ·rename_i i heq
   exact key _ heq h λN M w v hv ρ hρ=>by
    cases hv;cases o;simp only at ho;subst ho;simp only[execOp,hρ]
  ·rename_i i vr sz j q heq
   exact key _ heq h λN M w v hv ρ hρ=>by
    cases hv;cases o;simp only at ho;subst ho;simp only[execOp,hρ]
  ·rename_i d heq
   exact key _ heq h λN M w v hv ρ hρ=>by
    cases hv with
    |data _ _ hd=>cases hd;cases o;simp only at ho;subst ho;simp only[execOp,hρ]
  ·rename_i f c heq
   exact key _ heq h λN M w v hv ρ hρ=>by
    cases hv;cases o;simp only at ho;subst ho;simp only[execOp,hρ]
  ·rename_i f c heq
   exact key _ heq h λN M w v hv ρ hρ=>by
    cases hv with
    |data _ _ hd=>cases hd;cases o;simp only at ho;subst ho;simp only[execOp,hρ]
  ·exact h.elim
 ·rename_i op t x y u ho
  split at h
  ·rename_i hk
   obtain⟨r,h,hr⟩:=z6k (P:=P) hT (UH hk) h
   refine gQ.val (by simp only[fP,ho]) h λN M a w m h1 h2=>?_
   obtain⟨z,hz,hzr⟩:=hr N M w _ _ (E m h1 t x (by rw[ho];simp[Op.operands])) (E m h1 t y (by rw[ho];simp[Op.operands]))
   exact⟨z,by rw[wX ho,Sem.run_bind,hz];rfl,hzr⟩
  ·obtain⟨r,h,hr⟩:=z6f (P:=P) h
   refine gQ.val (by simp only[fP,ho]) h λN M a w m h1 h2=>?_
   obtain⟨z,hz,hzr⟩:=hr N M w _ _ t x y (E m h1 t x (by rw[ho];simp[Op.operands])) (E m h1 t y (by rw[ho];simp[Op.operands]))
   exact⟨z,by rw[wX ho,Sem.run_bind,hz];rfl,hzr⟩
 ·rename_i op t x ho
  obtain⟨r,h,hr⟩:=zcx (P:=P) h
  refine gQ.val (by simp only[fP,ho]) h λN M a w m h1 h2=>?_
  obtain⟨z,hz,hzr⟩:=hr N M w _ (E m h1 t x (by rw[ho];simp[Op.operands]))
  exact⟨z,by rw[Uu ho];simp[hz],hzr⟩
 ·rename_i s x f ho
  obtain⟨r,h,hr⟩:=Uk hT h
  refine gQ.val0 h λN M a w m h1=>?_
  obtain⟨z,hz,hzr⟩:=hr N M w _ (E m h1 0 x (by rw[ho];simp[Op.operands]))
  exact⟨z,by rw[Dj ho];simp[hz],hzr⟩
 ·rename_i s x f ho
  obtain⟨r,h,hr⟩:=Q3 hT h
  refine gQ.val (by simp only[fP,ho]) h λN M a w m h1 h2=>?_
  obtain⟨z,hz,hzr⟩:=hr N M w _ (E m h1 0 x (by rw[ho];simp[Op.operands]))
  exact⟨z,by rw[Q8 ho];simp[hz],hzr⟩
 ·rename_i t x i ho
  obtain⟨r,h,hr⟩:=uM hT h
  refine gQ.val (by simp only[fP,ho]) h λN M a w m h1 h2=>?_
  have hx:x∈o.op.operands:=by rw[ho];simp[Op.operands]
  obtain⟨z,hz,hzr⟩:=hr N M w _ _ (E m h1 t x hx) (E m h1 0 i (by rw[ho];simp[Op.operands])) (H h2 t x hx)
  exact⟨z,by rw[rX ho];simp[hz],hzr⟩
 ·rename_i t x i ho
  obtain⟨r,h,hr⟩:=Um hT h
  refine gQ.val (by simp only[fP,ho]) h λN M a w m h1 h2=>?_
  obtain⟨z,hz,hzr⟩:=hr N M w _ _ (E m h1 t x (by rw[ho];simp[Op.operands])) (E m h1 0 i (by rw[ho];simp[Op.operands]))
  exact⟨z,by rw[Q9 ho];simp[hz],hzr⟩
 ·rename_i t x lo hi mx ho
  obtain⟨r,hnx,l,hh,e1,e2,e3,hr⟩:=Un hT h
  have hmx:mx=none:=by cases mx<;>simp at e3 ⊢
  subst hmx
  refine gQ.val (by simp only[fP,ho]) hnx λN M a w m h1 h2=>?_
  have hx:x∈o.op.operands:=by rw[ho];simp[Op.operands]
  have bd:∀(y:Option Operand) (q:Option Int),(∀z,y=some z->z∈o.op.operands)->sU (y.map (ev T env 0))=some q->Ad q (y.map a.eval):=by
   intro y q hy hq
   cases y with
   |none=>simp[sU]at hq;subst hq;trivial
   |some z=>
    have:=E m h1 0 z (hy z rfl)
    simp only[Option.map_some]at hq
    unfold sU at hq
    split at hq
    ·rename_i heq;simp at heq
    ·rename_i k n heq
     simp only[Option.some.injEq]at heq hq
     subst hq
     rw[heq]at this
     exact⟨k,this.int⟩
    ·simp at hq
  obtain⟨z,hz,hzr⟩:=hr N M w _ _ _ (E m h1 t x hx) (H h2 t x hx) (bd lo l (λz e=>by rw[ho];subst e;simp[Op.operands]) e1) (bd hi hh (λz e=>by rw[ho];subst e;simp[Op.operands]) e2)
  exact⟨z,by rw[Rh ho];simp[hz],hzr⟩
 ·rename_i x i ho
  have hx:x∈o.op.operands:=by rw[ho];simp[Op.operands]
  split at h
  ·rename_i vs heq
   split at h
   ·rename_i v hv
    refine gQ.val (by simp only[fP,ho]) h λN M a w m h1 h2=>?_
    have:=E m h1 0 x hx
    rw[heq]at this
    generalize hva:a.eval x=va at this
    cases this with
    |tuple _ us hl hh=>
     have hlt:i<us.size:=by rw[hl];exact(List.getElem?_eq_some_iff.1 hv).1
     exact⟨us.getD i undef,by rw[yB ho,hva];simp only[Instr.extract,bi undef hlt];rfl,hh i v hv⟩
   ·exact h.elim
  ·rename_i vs heq
   split at h
   ·rename_i v hv
    refine gQ.val (by simp only[fP,ho]) h λN M a w m h1 h2=>?_
    have:=E m h1 0 x hx
    rw[heq]at this
    generalize hva:a.eval x=va at this
    cases this with
    |data _ _ hd=>
     cases hd with
     |tuple _ us hl hh=>
      have hlt:i<us.size:=by rw[hl];exact(List.getElem?_eq_some_iff.1 hv).1
      exact⟨us.getD i undef,by rw[yB ho,hva];simp only[Instr.extract,bi undef hlt];rfl,.data _ _ (hh i v hv)⟩
   ·exact h.elim
  ·exact h.elim
 ·rename_i t x ho
  have hx:x∈o.op.operands:=by rw[ho];simp[Op.operands]
  have key:(∀m,P.underlying t≠some (.interface m))->P.underlying t≠none->next (.iface t (ev T env t x)) K->gQ P T o env K next pan:=by
   intro k1 k2 h
   refine gQ.val (by simp only[fP,ho]) h λN M a w m h1 h2=>⟨.iface t (a.eval x),?_,.iface _ _ _ (E m h1 t x hx)⟩
   rw[uP ho]
   cases hu:P.underlying t with
   |none=>exact absurd hu k2
   |some d=>cases d<;>first |exact absurd hu (k1 _) |simp[Instr.makeInterface,run_underlying hu]
  have hd:=(hT t).desc
  split at h
  ·exact h.elim
  ·exact h.elim
  ·rename_i hni hno
   refine key ?_ ?_ h
   ·intro m hm
    cases hty:(T.at t).ty<;>simp only[hty,Lp]at hd hni hno<;>first
     |(rw[hd]at hm;simp at hm;done)
     |(obtain⟨_,hd,_⟩:=hd;rw[hd]at hm;simp at hm;done)
     |(obtain⟨_,_,_,hd⟩:=hd;rw[hd]at hm;simp at hm;done)
     |(exact hni trivial)
     |(exact hno trivial)
     |simp at hni
     |simp at hno
   ·intro hm
    cases hty:(T.at t).ty<;>simp only[hty,Lp]at hd hni hno<;>first
     |(rw[hd]at hm;simp at hm;done)
     |(obtain⟨_,hd,_⟩:=hd;rw[hd]at hm;simp at hm;done)
     |(obtain⟨_,_,_,hd⟩:=hd;rw[hd]at hm;simp at hm;done)
     |(exact hno trivial)
     |simp at hni
     |simp at hno
 ·rename_i f first caps ho
  split at h
  ·rename_i f hfi
   have hfi:first = #[]:=by simpa using hfi
   subst hfi
   refine gQ.val (by simp only[fP,ho]) h λN M a w m h1 h2=>⟨.func (.func f) #[] (caps.map a.eval),by rw[uQ ho];simp[Instr.makeFunc],.fn _ _ _ (by simp) λi c hc=>?_⟩
   simp only[List.getElem?_map,Option.map_eq_some_iff]at hc
   obtain⟨y,hy,rfl⟩:=hc
   have:(caps.map a.eval).getD i undef=a.eval y:=by
    simp only[Array.getD_eq_getD_getElem?,Array.getElem?_map]
    rw[Array.getElem?_toList]at hy
    simp[hy]
   rw[this]
   refine E m h1 0 y ?_
   rw[ho];simp only[Op.operands,Array.mem_append]
   exact .inr (by simpa using List.mem_of_getElem? hy)
  ·rename_i f hfi
   split at h
   ·rename_i hci
    have hci:caps = #[]:=by simpa using hci
    subst hci
    refine gQ.val (by simp only[fP,ho]) h λN M a w m h1 h2=>⟨.func (.func f) (first.map a.eval) #[],by rw[uQ ho];simp[Instr.makeFunc],.bnd _ _ _ (by simp) λi c hc=>?_⟩
    simp only[List.getElem?_map,Option.map_eq_some_iff]at hc
    obtain⟨y,hy,rfl⟩:=hc
    have:(first.map a.eval).getD i undef=a.eval y:=by
     simp only[Array.getD_eq_getD_getElem?,Array.getElem?_map]
     rw[Array.getElem?_toList]at hy
     simp[hy]
    rw[this]
    refine E m h1 0 y ?_
    rw[ho];simp only[Op.operands,Array.mem_append]
    exact .inl (by simpa using List.mem_of_getElem? hy)
   ·exact h.elim
  ·exact h.elim
 ·rename_i x ho
  have hx:x∈o.op.operands:=by rw[ho];simp[Op.operands]
  have key:∀(y:AV),ev T env 0 x=y->pan y K->(∀(N:aS) (M:Mem) (w:World) v,aF N M w y v->∃t u,v = .iface t u)->gQ P T o env K next pan:=by
   intro y hy hp hk
   refine .old (by simp only[fP,ho]) <| .inr ⟨y,hp,λN M a w m h1 h2 next Q hn=>?_⟩
   have:=E m h1 0 x hx
   rw[hy]at this
   obtain⟨t,u,hv⟩:=hk N M w _ this
   have hrun:(execOp a.eval o).run P w = .halt (.panic (a.eval x)) w:=by
    rw[Ri ho,hv];simp[Instr.panic]
   simp only[Oper.wp,hrun,Oper.upon_panic]
   exact hn _ w (Step.refl M w) this
  split at h
  ·rename_i t v heq
   exact key _ heq h λN M w v hv=>by cases hv;exact⟨_,_,rfl⟩
  ·rename_i t v heq
   exact key _ heq h λN M w v hv=>by cases hv with |data _ _ hd=>cases hd;exact⟨_,_,rfl⟩
  ·exact h.elim
 ·rename_i c ho
  split at h
  ·rename_i hc
   split at h
   ·rename_i x hargs hts
    have hts:=Nat.le_of_ble_eq_true hts
    obtain⟨r,h,hr⟩:=z6e hT h
    refine gQ.val (by simp only[fP,ho,hc]) h λN M a w m h1 h2=>?_
    have hx:=zf ho x (by rw[hargs];simp)
    obtain⟨z,hz,hzr⟩:=hr N M w _ c.argTypes o.type (E m h1 _ x hx) (H h2 _ x hx) (bi 0 (by omega))
    refine⟨z,?_,hzr⟩
    have:c.args.map a.eval = #[a.eval x]:=by apply Array.toList_inj.1;simp[hargs]
    rw[YV ho hc,this];simp[hz]
   ·exact h.elim
  ·rename_i hc
   split at h
   ·rename_i x y d hargs hd hts
    obtain⟨r,wr,id,blk,hids,hq,h,hf,hr⟩:=Rj hT ho hc hargs h (Nat.le_of_ble_eq_true hts)
    refine .old (by simp only[fP,ho,hc]) <| .inl ⟨r,wr,_,h,hf,.inr ⟨_,_,hids,rfl⟩,?_,hr⟩
    rcases hq _ rfl with⟨rfl,rfl,sz,e⟩ |⟨rfl,sz,es,e⟩ |⟨rfl,vr,sz,n,e⟩
    ·exact⟨by simp only[fV,ho,hc,hargs,e,hd];simp,by simp only[wids,ho,hc,hargs,e,hd];simp⟩
    ·simp only[zc5,wids,ho,hc,hargs,e,AV.ids];simp
    ·simp only[zc5,wids,ho,hc,hargs,e,AV.ids];simp
   ·exact h.elim
  ·rename_i hc
   split at h
   ·rename_i x hargs hts
    obtain⟨id,blk,hids,h,hr⟩:=Y0 (P:=P) hT ho hc hargs (Nat.le_of_ble_eq_true hts) h
    refine .old (by simp only[fP,ho,hc]) <| .inl ⟨_,.st id,some (id,blk),h,trivial,.inr ⟨_,_,rfl,rfl⟩,?_,hr⟩
    simp only[zc5,wids,ho,hc,hargs,hids];simp
   ·exact h.elim
  ·rename_i hc
   split at h
   ·rename_i v hv
    refine gQ.val (by simp only[fP,ho,hc]) h λN M a w m h1 h2=>?_
    have hr:(c.args.map a.eval).size=(c.args.toList.map (ev T env 0)).length/\∀(i:Nat) x,(c.args.toList.map (ev T env 0))[i]? = some x->aF N M w x ((c.args.map a.eval).getD i undef):=by
     refine⟨by simp,λi x hx=>?_⟩
     simp only[List.getElem?_map,Option.map_eq_some_iff]at hx
     obtain⟨y,hy,rfl⟩:=hx
     have:(c.args.map a.eval).getD i undef=a.eval y:=by
      simp only[Array.getD_eq_getD_getElem?,Array.getElem?_map]
      rw[Array.getElem?_toList]at hy
      simp[hy]
     rw[this]
     exact E m h1 0 y (zf ho y (List.mem_of_getElem? hy))
    obtain⟨z,hz,hzr⟩:=Ur (P:=P) hv (c.args.map a.eval) N M w c.argTypes o.type hr.1 hr.2
    exact⟨z,by rw[YW ho hc];simp only[Sem.run_bind,hz];rfl,hzr⟩
   ·exact h.elim
  ·rename_i hc
   split at h
   ·rename_i v hv
    refine gQ.val (by simp only[fP,ho,hc]) h λN M a w m h1 h2=>?_
    have hr:(c.args.map a.eval).size=(c.args.toList.map (ev T env 0)).length/\∀(i:Nat) x,(c.args.toList.map (ev T env 0))[i]? = some x->aF N M w x ((c.args.map a.eval).getD i undef):=by
     refine⟨by simp,λi x hx=>?_⟩
     simp only[List.getElem?_map,Option.map_eq_some_iff]at hx
     obtain⟨y,hy,rfl⟩:=hx
     have:(c.args.map a.eval).getD i undef=a.eval y:=by
      simp only[Array.getD_eq_getD_getElem?,Array.getElem?_map]
      rw[Array.getElem?_toList]at hy
      simp[hy]
     rw[this]
     exact E m h1 0 y (zf ho y (List.mem_of_getElem? hy))
    obtain⟨z,hz,hzr⟩:=Ur (P:=P) hv (c.args.map a.eval) N M w c.argTypes o.type hr.1 hr.2
    exact⟨z,by rw[YX ho hc];simp only[Sem.run_bind,hz];rfl,hzr⟩
   ·exact h.elim
  ·rename_i f hc
   have lentG:∀{as0:List AV} {K0 K1:Heap} {out:gG} {ρ:List (Nat×Nat)},LentRes P o env K ρ K0 K1 out ->
     (wids T env K (uU K (dD ρ K1)) o=reach K 1000 (ja env (tmpsOf (Op.call c).operands.toList)) (z5x K)++minus (keys (uU K (dD ρ K1))) (keys K)) ->
     bV ρ K0 K1 out.av env K (fP env K o)=true->outGo ρ K1 K next pan out->gQ P T o env K next pan:=by
     intro as0 K0 K1 out ρ he hwr hok h
     have hok':=hok
     simp only[bV,Bool.and_eq_true]at hok
     obtain⟨k1,k2,k3,k4,k5,k6⟩:=hok
     have hinj:=nJ k1
     have hdom:∀id,id∈aO ρ (keys K1)↔∃b,(dD ρ K1).get id=some b:=λid=>by rw[<-kV,dH]
     have hsubs:∀d∈aO ρ (minus (keys K1) (keys K0)),d∈aO ρ (keys K1):=by
      intro d hd
      obtain⟨i,hi,rfl⟩:=aG.1 hd
      exact aG.2 ⟨i,(je.1 hi).1,rfl⟩
     have hnew:∀d∈aO ρ (minus (keys K1) (keys K0)),d∈minus (keys (uU K (dD ρ K1))) (keys K):=by
      intro d hd
      refine je.2 ⟨?_,?_⟩
      ·obtain⟨b,hb⟩:=(hdom d).1 (hsubs d hd)
       exact dH.2 ⟨b,by rw[jf,hb]⟩
      ·intro hk
       obtain⟨b,hb⟩:=dH.1 hk
       rw[(jQ k4 d hd).2.2.2]at hb;simp at hb
     have hw:∀id∈aO ρ (keys K1),id∈wids T env K (uU K (dD ρ K1)) o:=by
      intro id hid
      rw[hwr,List.mem_append]
      by_cases h0:id∈aO ρ (minus (keys K1) (keys K0))
      ·exact .inr (hnew id h0)
      ·left
       obtain⟨i,hi,rfl⟩:=aG.1 hid
       have h0':i∈keys K0:=by
        by_cases h0':i∈keys K0
        ·exact h0'
        ·exact absurd (aG.2 ⟨i,je.2 ⟨hi,h0'⟩,rfl⟩) h0
       have:=bG.1 k3 _ (aG.2 ⟨i,h0',rfl⟩)
       simp only[fP,ho,hc]at this
       exact this
     have hn:∀d∈aO ρ (minus (keys K1) (keys K0)),d∈fV T env K (uU K (dD ρ K1)) o:=by
      intro d hd
      simp only[fV,ho,hc]
      exact hnew d hd
     have hfr:∀d∈aO ρ (minus (keys K1) (keys K0)),bI d=false/\fU d env=false/\pK d K=false:=λd hd=>by
      obtain⟨q1,q2,q3,_⟩:=jQ k4 d hd;exact⟨q1,q2,q3⟩
     cases out with
     |ret x=>exact⟨false,_,_,_,_,by simp only[outGo]at h;rw[pY]at h;exact h,⟨hfr,hdom,hsubs,hw,hn,he⟩⟩
     |pan x=>exact⟨true,_,_,_,_,by simp only[outGo]at h;rw[pY]at h;exact h,⟨hfr,hdom,hsubs,hw,hn,he⟩⟩
   have callD:∀fid pre caps,Ai (ev T env 0 f) fid pre caps->zT (PCall P) (ak P) (fP env K o) fid (pre++iT T env c++caps) env K next pan->gQ P T o env K next pan:=by
    intro fid pre caps hf h
    unfold zT at h
    split at h
    ·exact h.elim
    rename_i hny
    have lent:zU fid (pre++iT T env c++caps)=false->FH (ak P) (fP env K o) fid (pre++iT T env c++caps) env K next pan->gQ P T o env K next pan:=by
     rintro hro ⟨as0,K0,out,K1,ρ,hp,has,hsub,hok,h⟩
     have hp:Il P fid as0 K0 out K1:=by
      rcases hp with hp |⟨rfl,_⟩
      ·exact hp.2
      ·simp at hny
     refine lentG (as0:=as0) (K0:=K0) (YU (T:=T) (env:=env) (K:=K) ho hc hf hp has hsub hok) ?_ hok h
     rcases hf with⟨hf,rfl⟩ |⟨ds,hf,rfl,rfl⟩ |⟨hf,rfl⟩
     ·have hro':zU fid ((c.args.toList.zipIdx.map λx=>ev T env (c.argTypes.getD x.2 0) x.1)++caps)=false:=hro
      simp only[wids,ho,hc,hf,hro']
     ·have hro':zU fid ((c.args.toList.zipIdx.map λx=>ev T env (c.argTypes.getD x.2 0) x.1)++ds.map .data)=false:=hro
      simp only[wids,ho,hc,hf,hro']
     ·simp only[wids,ho,hc,hf]
    split at h
    ·rename_i ds hds
     rcases h with⟨out,hp,h⟩ |h
     ·have:=YT (K:=K) ho hc hf hds hp
      cases out with
      |ret d=>exact⟨false,_,[],[],[],h,⟨by simp,by simp[Heap.get],by simp,by simp,by simp,this⟩⟩
      |pan d=>exact⟨true,_,[],[],[],h,⟨by simp,by simp[Heap.get],by simp,by simp,by simp,this⟩⟩
     ·exact lent (by simp only[zU,hds]) h
    ·rename_i hds
     split at h
     ·unfold z5y at h
      split at h
      ·rename_i ds hin hrd
       obtain⟨hlen,out,hp,h⟩:=Ak h
       cases out with
       |ret d=>exact⟨false,_,[],[],[],h.2,⟨by simp,by simp[Heap.get],by simp,by simp,by simp,OG ho hc hf hin hlen hrd hp h.1⟩⟩
       |pan d=>exact⟨true,_,[],[],[],h.2,⟨by simp,by simp[Heap.get],by simp,by simp,by simp,OG ho hc hf hin hlen hrd hp h.1⟩⟩
      ·exact h.elim
     ·rename_i hro
      exact lent (by simp only[zU,hds,hro]) h
   split at h
   ·rename_i fid caps hf
    exact callD fid [] caps (.inl ⟨hf,rfl⟩) h
   ·rename_i fid ds hf
    exact callD fid [] (ds.map .data) (.inr (.inl ⟨ds,hf,rfl,rfl⟩)) h
   ·rename_i fid first hf
    exact callD fid first [] (.inr (.inr ⟨hf,rfl⟩)) (by rw[List.append_nil];exact h)
   ·rename_i y hf
    obtain⟨as0,K0,out,K1,ρ,hp,has,hsub,hok,h⟩:=h
    have hp:LC (Yields P) as0 K0 out K1:=by
     rcases hp with hp |⟨_,hp⟩
     ·exact absurd rfl hp.1
     ·exact hp
    refine lentG (as0:=as0) (K0:=K0) (UJ (T:=T) (env:=env) (K:=K) ho hc hf hp has hsub hok) ?_ hok h
    simp only[wids,ho,hc,hf]
   ·exact h.elim
  ·exact h.elim
 ·obtain⟨r,wr,δ,h1,h2,h3,h4,h5,h6,h7⟩:=YS (P:=P) hT h
  refine .old h4 <| .inl ⟨r,wr,δ,h1,h2,h3,?_,h7⟩
  cases wr with
  |no=>trivial
  |new d=>exact⟨h5 d rfl,h6 d (by simp[Wr.ids])⟩
  |st i=>exact h6 i (by simp[Wr.ids])
  |tk i=>exact h6 i (by simp[Wr.ids])
end
end Go.Fw
