/- SyntaxBack: what is written is read: processors. -/
import Derived.Test.YtmfehangcmbidaaGreatDoorZSP23
set_option linter.unusedSectionVars false
set_option linter.unusedSimpArgs false
set_option linter.unusedVariables false
namespace Go.Fw.Sy
open Go.Fw Go.Fw.Lx
variable [ae]
theorem Xe(lo hi:Int)(l:List Tk):bV lo hi++l=wd wFrom::(dQ lo++(wd wTo::(dQ hi++sg sSemi::l))):=by simp[bV]
theorem z1q{b:Ln}(h:z7z b)(p:Pr)(l:List Tk):zL p (wd b.name::(dQ b.size++(bV b.lo b.hi++l)))=(true,{ p with lines:=p.lines++[b] },sg sSemi::l):=by
 unfold zL
 rw[wW h.n,AZ,kC h.s,List.cons_append,List.nil_append,CW h.s,AZ,Xe,G9 h.lo h.hi,AZ]
theorem Xf{t:Tb}(h:z8a t)(p:Pr)(l:List Tk):o7 p (wd t.name::sg sEq::(kw 0 t.values++sg sSemi::l))=(true,{ p with tables:=p.tables++[t] },sg sSemi::l):=by
 unfold o7
 rw[wW h.n,AZ,iK,AZ,z1d h.ne h.v,AZ]
theorem ML(l:List Tk):St1 (sg sSemi::l):=⟨⟨by rw[dC];decide,by rw[dC];decide⟩,by rw[dC];decide,by rw[dC];decide⟩
theorem EE{s:Sm}{k:Int}(hk:s.kind=k)(h4:(k != 4)=true)(hn:CV s.name)(h:Yg s)(p:Pr)(l:List Tk):jm k p (wd s.name::sg sEq::(aj s.x++sg sSemi::l))=(true,{ p with stmts:=p.stmts++[s] },sg sSemi::l):=by
 unfold jm
 rw[if_pos h4,wW hn,mi,iK,mi,AZ,h.x.rd.expr _ (ML _),AZ]
 have hi:=h.i
 obtain⟨a,b,c,d⟩:=s
 simp only at hi hk
 subst hi hk;rfl
theorem Xg{s:Sm}(hk:s.kind=4)(hn:s.name = [])(h:Yg s)(p:Pr)(l:List Tk):jm 4 p (aj s.x++sg sSemi::l)=(true,{ p with stmts:=p.stmts++[s] },sg sSemi::l):=by
 unfold jm
 rw[if_neg (by decide),AZ,h.x.rd.expr _ (ML _),AZ]
 have hi:=h.i
 obtain⟨a,b,c,d⟩:=s
 simp only at hi hk hn
 subst hi hk hn;rfl
theorem Yi(s:Sm)(l:List Tk):fA s++l=(if s.kind==1 then [wd XN,wd s.name,sg sEq]else if s.kind==2 then [wd XO,wd s.name,sg sEq]else if s.kind==3 then [wd Gm,wd s.name,sg sEq]else [wd XP])++(aj s.x++sg sSemi::l):=by
 unfold fA;rw[kS];simp only[List.append_assoc,List.cons_append,List.nil_append]
structure z2h{α:Type}(t:List (Str×IM))(g:α->List Tk)(add:Pr->List α->Pr)(b:α):Prop where
 step:∀(p:Pr) (l:List Tk) (n:Nat),dH t (n+1) p (g b++l)=dH t n (add p [b]) l
 pos:0<(g b).length
theorem kD{α:Type}{t:List (Str×IM)}{g:α->List Tk}{add:Pr->List α->Pr}(h0:∀p,add p []=p)(h1:∀p b bs,add (add p [b]) bs=add p (b::bs)) :
  ∀(bs:List α) (p:Pr) (l:List Tk) (n:Nat),(∀b∈bs,z2h t g add b)->(bs.flatMap g++l).length<=n->∃n',l.length<=n'/\dH t n p (bs.flatMap g++l)=dH t n' (add p bs) l
 | [],p,l,n,_,hn=>⟨n,by simpa using hn,by rw[h0];rfl⟩
 |b::bs,p,l,n,h,hn=>by
  have hb:=h b (by simp)
  rw[List.flatMap_cons,List.append_assoc]at hn ⊢
  have hp:=hb.pos
  obtain⟨m,rfl⟩:∃m,n=m+1:=⟨n-1,by rw[List.length_append]at hn;omega⟩
  rw[hb.step]
  obtain⟨n',a,e⟩:=kD h0 h1 bs (add p [b]) l m (λc hc=>h c (by simp[hc])) (by rw[List.length_append]at hn;omega)
  exact⟨n',a,e.trans (by rw[h1])⟩
theorem Jv{b:Bd}(h:W9 b):z2h decls (bdT lu) (λp bs=>{ p with params:=p.params++bs }) b:=
 ⟨λp l n=>pK (w:=lu) (l:=wd b.name::(bV b.lo b.hi++l)) rfl (Xa h p l),by simp[bdT]⟩
theorem Jw{b:Bd}(h:W9 b):z2h decls (bdT kL) (λp bs=>{ p with states:=p.states++bs }) b:=
 ⟨λp l n=>pK (w:=kL) (l:=wd b.name::(bV b.lo b.hi++l)) rfl (Xb h p l),by simp[bdT]⟩
theorem O6{b:Ln}(h:z7z b):z2h decls lnT (λp bs=>{ p with lines:=p.lines++bs }) b:=
 ⟨λp l n=>by
  rw[show lnT b++l=wd DZ::(wd b.name::(dQ b.size++(bV b.lo b.hi++l)))by simp[lnT]]
  exact pK rfl (z1q h p l),by simp[lnT]⟩
theorem Jy{b:Tb}(h:z8a b):z2h decls tbT (λp bs=>{ p with tables:=p.tables++bs }) b:=
 ⟨λp l n=>by
  rw[show tbT b++l=wd uN::(wd b.name::sg sEq::(kw 0 b.values++sg sSemi::l))by simp[tbT]]
  exact pK rfl (Xf h p l),by simp[tbT]⟩
theorem O7{s:Sm}(h:Yg s):z2h stmts fA (λp bs=>{ p with stmts:=p.stmts++bs }) s:=by
 refine⟨λp l n=>?_,by unfold fA;simp only[List.length_append,List.length_cons];omega⟩
 rw[Yi]
 rcases h.k with⟨hk |hk |hk,hn⟩ |⟨hk,hn⟩
 ·rw[if_pos (by rw[hk];rfl)];exact pK rfl (EE hk rfl hn h p l)
 ·rw[if_neg (by rw[hk];decide),if_pos (by rw[hk];rfl)];exact pK rfl (EE hk rfl hn h p l)
 ·rw[if_neg (by rw[hk];decide),if_neg (by rw[hk];decide),if_pos (by rw[hk];rfl)];exact pK rfl (EE hk rfl hn h p l)
 ·rw[if_neg (by rw[hk];decide),if_neg (by rw[hk];decide),if_neg (by rw[hk];decide)];exact pK rfl (Xg hk hn h p l)
theorem Xh{ss:List Sm}(h:∀s∈ss,Yg s)(l:List Tk):∃u r,ss.flatMap fA++sg sEnd::l=u::r/\find u.text decls=none:=by
 cases ss with
 |nil=>exact⟨sg sEnd,l,rfl,rfl⟩
 |cons s ss=>
  rw[List.flatMap_cons,List.append_assoc,Yi]
  rcases(h s (by simp)).k with⟨hk |hk |hk,hn⟩ |⟨hk,hn⟩
  ·rw[if_pos (by rw[hk];rfl)];exact⟨_,_,rfl,rfl⟩
  ·rw[if_neg (by rw[hk];decide),if_pos (by rw[hk];rfl)];exact⟨_,_,rfl,rfl⟩
  ·rw[if_neg (by rw[hk];decide),if_neg (by rw[hk];decide),if_pos (by rw[hk];rfl)];exact⟨_,_,rfl,rfl⟩
  ·rw[if_neg (by rw[hk];decide),if_neg (by rw[hk];decide),if_neg (by rw[hk];decide)];exact⟨_,_,rfl,rfl⟩
theorem z1r{n:Int}(h:n = -1\/qU n)(r:List Tk):(if dJ ((if n == -1 then [wd di]else dQ n)++r)then numM ((if n == -1 then [wd di]else dQ n)++r)else bnd (aF di ((if n == -1 then [wd di]else dQ n)++r)) λ_ l=>((some (-1),l):Option Int×List Tk))=(some n,r):=by
 rcases h with rfl |h
 ·rw[if_pos (show((-1:Int) == -1)=true from rfl),List.cons_append,List.nil_append,if_neg (by simp[dJ,hd]),pJ,mi]
 ·have h1:(n == -1)=false:=by have:=h.1;simp;omega
  rw[h1,if_neg (c:=false=true) Bool.noConfusion,kC h,List.cons_append,List.nil_append,if_pos (by simp[dJ,hd,h.2]),CW h]
def declT(p:Pr):List Tk:=p.params.flatMap (bdT lu)++(p.states.flatMap (bdT kL)++(p.lines.flatMap lnT++p.tables.flatMap tbT))
theorem z1s{p:Pr}(h:EC p){u:Tk}(l:List Tk)(hu:find u.text decls=none):dU decls ⟨p.name,p.latency,p.tail,[],[],[],[],[]⟩ (declT p++u::l)=(true,{ p with stmts:=[] },u::l):=by
 unfold dU
 generalize hN:(declT p++u::l).length=N
 unfold declT at hN ⊢
 simp only[List.append_assoc]at hN ⊢
 obtain⟨n1,h1,e1⟩:=kD (t:=decls) (g:=bdT lu) (add:=λp bs=>{ p with params:=p.params++bs }) (λp=>by simp) (λp b bs=>by simp) p.params ⟨p.name,p.latency,p.tail,[],[],[],[],[]⟩ _ N (λb hb=>Jv (h.params b hb)) (Nat.le_of_eq hN)
 rw[e1]
 obtain⟨n2,h2,e2⟩:=kD (t:=decls) (g:=bdT kL) (add:=λp bs=>{ p with states:=p.states++bs }) (λp=>by simp) (λp b bs=>by simp) p.states ⟨p.name,p.latency,p.tail,[]++p.params,[],[],[],[]⟩ _ n1 (λb hb=>Jw (h.states b hb)) h1
 rw[e2]
 obtain⟨n3,h3,e3⟩:=kD (t:=decls) (g:=lnT) (add:=λp bs=>{ p with lines:=p.lines++bs }) (λp=>by simp) (λp b bs=>by simp) p.lines ⟨p.name,p.latency,p.tail,[]++p.params,[]++p.states,[],[],[]⟩ _ n2 (λb hb=>O6 (h.lines b hb)) h2
 rw[e3]
 obtain⟨n4,h4,e4⟩:=kD (t:=decls) (g:=tbT) (add:=λp bs=>{ p with tables:=p.tables++bs }) (λp=>by simp) (λp b bs=>by simp) p.tables ⟨p.name,p.latency,p.tail,[]++p.params,[]++p.states,[]++p.lines,[],[]⟩ _ n3 (λb hb=>Jy (h.tables b hb)) h3
 rw[e4,MG hu]
 rfl
theorem z6x{p:Pr}(h:EC p)(l:List Tk):dU stmts { p with stmts:=[] } (p.stmts.flatMap fA++sg sEnd::l)=(true,p,sg sEnd::l):=by
 unfold dU
 obtain⟨n1,h1,e1⟩:=kD (t:=stmts) (g:=fA) (add:=λp bs=>{ p with stmts:=p.stmts++bs }) (λp=>by simp) (λp b bs=>by simp) p.stmts { p with stmts:=[] } (sg sEnd::l) _ (λb hb=>O7 (h.stmts b hb)) (Nat.le_refl _)
 rw[e1,MG rfl]
 rfl
theorem z6y(p:Pr)(l:List Tk):fB p++l=wd wProcessor::wd p.name::wd dG::(dQ p.latency++(wd wTail::((if p.tail == -1 then [wd di]else dQ p.tail)++(sg sBra::(declT p++(p.stmts.flatMap fA++sg sEnd::l)))))):=by
 simp only[fB,declT,List.cons_append,List.append_assoc,List.nil_append]
theorem z1t{p:Pr}(h:EC p)(l:List Tk):lN (fB p++l)=(some p,l):=by
 rw[z6y,TP,pJ,mi,wW h.n,mi,pJ,mi,kC h.lat,List.cons_append,List.nil_append,CW h.lat,mi,pJ,mi,z1r h.tl,mi,iK,mi]
 obtain⟨u,r,e,hu⟩:=Xh h.stmts l
 rw[e,z1s h r hu,<-e]
 show seqP (dU stmts { p with stmts:=[] } (p.stmts.flatMap fA++sg sEnd::l)) _=_
 rw[z6x h]
 show bnd (aF sEnd (sg sEnd::l)) (λ_ l=>((some p,l):Option Pr×List Tk))=_
 rw[iK,mi]
theorem Ug:∀ps:List Pr,(∀p∈ps,EC p)->readM (allT ps)=(some ps,[])
 | [],_=>rfl
 |p::ps,h=>by
  have hp:=z1t (h p (by simp)) (allT ps)
  have e:fB p++allT ps=wd wProcessor::((fB p).tail++allT ps):=rfl
  show readM (fB p++allT ps)=_
  rw[e]at hp ⊢
  rw[O3 hp,Ug ps λq hq=>h q (by simp[hq])]
  rfl
end Go.Fw.Sy
