/- The law SyntaxBack. -/
import Derived.Test.YtmfehangcmbidaaGreatDoorZSS20
import Derived.Test.YtmfehangcmbidaaGreatDoorZSP21
set_option linter.unusedSectionVars false
set_option linter.unusedSimpArgs false
set_option linter.unusedVariables false
set_option maxHeartbeats 400000
namespace Go.Proofs.YtmfehangcmbidaaGreatDoor
open Go.Fw Go.Fw.Lx Go.Fw.Sy
set_option maxRecDepth 10000
variable [ae]
theorem nP{l:List Pr}{r:D}(h:Wd l)(e:jU l=r):aA Tryz.prog 11 [prs l] (.ret r):=by
 have:=CP l h.n h.j h.s h.x;rw[e]at this;exact this
theorem EG{l:List Pr}(h:Wd l):aA Tryz.prog 13 [prs l] (.ret (prs (l.map dE))):=fF l h.l h.s h.x
theorem z1z(src:Sy.Str)(l x:List Pr)(p e:Int)(tx:Sy.Str)(qX:aA Tryz.prog 10 [.str src] (.ret (.tuple [prs x,.i p,.i e])))(qT:(e==0)=true->aA Tryz.prog 11 [prs x] (.ret (.tuple [.str tx,.i 0])))(qB:(e==0)=true->aA Tryz.prog 13 [prs x] (.ret (prs (x.map dE))))(qS:(e==0)=true->lenE (λq=>dV q.1 q.2) x (x.map dE)=true)(hS:decide ((src.length:Int)<=2000)=true->(e==0)=true->decide (((x.map Pr.cs).length:Int)>0)=true->False)(qL:aA Tryz.prog 11 [prs l] (.ret (.tuple [.str [],.i 140]))):aA Tryz.prog 3 [.str src,prs l] (.ret (.b true)):=by
 refine af tok hmix ⟨[],[]⟩ Tryz.func3 rfl (by kernel_rfl) (by kernel_rfl) (by kernel_rfl) λhf=>?_
 clear hf
 repeat' ((try(conv=>whnf))<;>first
  |((with_reducible refine kX ?_ ?_);exact rfl)
  |((with_reducible refine lQ ?_ ?_);exact rfl)
  |((with_reducible refine oQ ?_ ?_);kernel_rfl)
  |with_reducible exact trivial
  |with_reducible exact rfl
  |with_reducible refine BrI.tt ?_
  |with_reducible refine BrI.ff ?_
  |with_reducible refine BrI.intro (λh=>?_) (λh=>?_)
  |(exact(hS ‹_› ‹_› ‹_›).elim)
  |((with_reducible refine Lx.gi_step ?_ ?_);kernel_rfl)
  |((with_reducible refine ax ?_ ?_ ?_);rotate_left;(first |exact fF _ (by assumption) (by assumption) (by assumption) |exact fG _ _ |exact bW _ |exact mf |exact qX |exact qT ‹_› |exact qB ‹_› |exact bW l |exact qL |fail))
  |((with_reducible refine dA ?_ ?_);exact rfl)
  |((with_reducible refine dw ?_ ?_ ?_);rotate_left;(first |exact fF _ (by assumption) (by assumption) (by assumption) |exact fG _ _ |exact bW _ |exact mf |exact qX |exact qT ‹_› |exact qB ‹_› |exact bW l |exact qL |fail))
  |(with_reducible refine aG.l _ ?_)
  |((with_reducible refine dO ?_ ?_ ?_ ?_ ?_ ?_)<;>exact rfl)
  |((with_reducible refine eG ?_ ?_ ?_ ?_)<;>exact rfl)
  |((with_reducible refine ni ?_ ?_ ?_);exact rfl;exact rfl)
  |((with_reducible refine aU ?_ ?_ ?_ ?_ ?_);exact rfl;exact rfl;rotate_left;(first |with_reducible exact zF ‹_› |fail))
  |((with_reducible refine bg ?_ ?_);exact rfl)
  |((with_reducible refine app_step' ?_ ?_ ?_ ?_ ?_ ?_ ?_);exact rfl;exact rfl;exact rfl;exact rfl)
  |((with_reducible refine nil_step' ?_ ?_ ?_ ?_);exact rfl;exact rfl)
  |((with_reducible refine aT ?_ ?_ (λhg=>?_) ?_);exact rfl)
  |((with_reducible refine kK ?_ ?_ (λhg=>?_) ?_);exact rfl)
  |((with_reducible refine bQ ?_ ?_);with_reducible exact rfl;with_reducible exact rfl)
  |((with_reducible refine same_step ?_ ?_);with_reducible exact rfl)
  |((with_reducible refine yj ?_ ?_);kernel_rfl)
  |((with_reducible refine aI ?_ ?_);kernel_rfl)
  |((with_reducible refine gY ?_ ?_);kernel_rfl)
  |((with_reducible refine ai ?_);refine⟨[],rfl,?_,trivial⟩;conv=>whnf)
  |((with_reducible refine ret_need ?_ ?_);rotate_left;refine⟨[],rfl,?_,trivial⟩;conv=>whnf)
  |((with_reducible refine pan_need ?_ ?_);rotate_left;refine⟨[],rfl,?_,trivial⟩;conv=>whnf)
  |((with_reducible refine pan_step ?_);refine⟨[],rfl,?_,trivial⟩;conv=>whnf)
  |(with_reducible refine And.intro ?_ ?_)
  |((with_reducible refine qR ?_ ?_ ?_);exact rfl;exact rfl;(first |with_reducible exact map_app |with_reducible exact map_app3 |with_reducible exact map_app4 |exact bT |exact rfl |skip))
  |((with_reducible refine fJ ?_ ?_);exact rfl;(first |with_reducible exact map_app |with_reducible exact map_app3 |with_reducible exact map_app4 |exact bT |exact rfl |skip))
  |((with_reducible refine aO ?_);refine dN ?_ ?_ ?_;exact rfl;exact rfl;(first |exact rfl |skip))
  |exact @rfl AV _
  |exact @rfl Block _
  |exact @rfl (List AV) _
  |exact fK rfl
  |fail)
 all_goals first
  |((exact Bool.noConfusion h))
  |(rfl)
  |((exact Bool.noConfusion ((congrArg Bool.not (qS ‹_›)).symm.trans h:(false:Bool)=true)))
  |skip
theorem z7j(src:Sy.Str)(l x:List Pr)(p e:Int)(tx t:Sy.Str)(qX:aA Tryz.prog 10 [.str src] (.ret (.tuple [prs x,.i p,.i e])))(qT:(e==0)=true->aA Tryz.prog 11 [prs x] (.ret (.tuple [.str tx,.i 0])))(qB:(e==0)=true->aA Tryz.prog 13 [prs x] (.ret (prs (x.map dE))))(qS:(e==0)=true->lenE (λq=>dV q.1 q.2) x (x.map dE)=true)(hS:decide ((src.length:Int)<=2000)=true->(e==0)=true->decide (((x.map Pr.cs).length:Int)>0)=true->False)(qL:aA Tryz.prog 11 [prs l] (.ret (.tuple [.str t,.i 0])))(qP:decide ((t.length:Int)>65536)=false->aA Tryz.prog 10 [.str t] (.ret (.tuple [prs (l.map dE),.i 0,.i 0])))(qA:aA Tryz.prog 11 [prs (l.map dE)] (.ret (.tuple [.str t,.i 0])))(qC:aA Tryz.prog 13 [prs l] (.ret (prs (l.map dE)))):aA Tryz.prog 3 [.str src,prs l] (.ret (.b true)):=by
 refine af tok hmix ⟨[],[]⟩ Tryz.func3 rfl (by kernel_rfl) (by kernel_rfl) (by kernel_rfl) λhf=>?_
 clear hf
 repeat' ((try(conv=>whnf))<;>first
  |((with_reducible refine kX ?_ ?_);exact rfl)
  |((with_reducible refine lQ ?_ ?_);exact rfl)
  |((with_reducible refine oQ ?_ ?_);kernel_rfl)
  |with_reducible exact trivial
  |with_reducible exact rfl
  |with_reducible refine BrI.tt ?_
  |with_reducible refine BrI.ff ?_
  |with_reducible refine BrI.intro (λh=>?_) (λh=>?_)
  |(exact(hS ‹_› ‹_› ‹_›).elim)
  |((with_reducible refine Lx.gi_step ?_ ?_);kernel_rfl)
  |((with_reducible refine ax ?_ ?_ ?_);rotate_left;(first |exact fF _ (by assumption) (by assumption) (by assumption) |exact fG _ _ |exact bW _ |exact mf |exact qX |exact qT ‹_› |exact qB ‹_› |exact bW l |exact qL |exact qP ‹_› |exact qA |exact qC |fail))
  |((with_reducible refine dA ?_ ?_);exact rfl)
  |((with_reducible refine dw ?_ ?_ ?_);rotate_left;(first |exact fF _ (by assumption) (by assumption) (by assumption) |exact fG _ _ |exact bW _ |exact mf |exact qX |exact qT ‹_› |exact qB ‹_› |exact bW l |exact qL |exact qP ‹_› |exact qA |exact qC |fail))
  |(with_reducible refine aG.l _ ?_)
  |((with_reducible refine dO ?_ ?_ ?_ ?_ ?_ ?_)<;>exact rfl)
  |((with_reducible refine eG ?_ ?_ ?_ ?_)<;>exact rfl)
  |((with_reducible refine ni ?_ ?_ ?_);exact rfl;exact rfl)
  |((with_reducible refine aU ?_ ?_ ?_ ?_ ?_);exact rfl;exact rfl;rotate_left;(first |with_reducible exact zF ‹_› |fail))
  |((with_reducible refine bg ?_ ?_);exact rfl)
  |((with_reducible refine app_step' ?_ ?_ ?_ ?_ ?_ ?_ ?_);exact rfl;exact rfl;exact rfl;exact rfl)
  |((with_reducible refine nil_step' ?_ ?_ ?_ ?_);exact rfl;exact rfl)
  |((with_reducible refine aT ?_ ?_ (λhg=>?_) ?_);exact rfl)
  |((with_reducible refine kK ?_ ?_ (λhg=>?_) ?_);exact rfl)
  |((with_reducible refine bQ ?_ ?_);with_reducible exact rfl;with_reducible exact rfl)
  |((with_reducible refine same_step ?_ ?_);with_reducible exact rfl)
  |((with_reducible refine yj ?_ ?_);kernel_rfl)
  |((with_reducible refine aI ?_ ?_);kernel_rfl)
  |((with_reducible refine gY ?_ ?_);kernel_rfl)
  |((with_reducible refine ai ?_);refine⟨[],rfl,?_,trivial⟩;conv=>whnf)
  |((with_reducible refine ret_need ?_ ?_);rotate_left;refine⟨[],rfl,?_,trivial⟩;conv=>whnf)
  |((with_reducible refine pan_need ?_ ?_);rotate_left;refine⟨[],rfl,?_,trivial⟩;conv=>whnf)
  |((with_reducible refine pan_step ?_);refine⟨[],rfl,?_,trivial⟩;conv=>whnf)
  |(with_reducible refine And.intro ?_ ?_)
  |((with_reducible refine qR ?_ ?_ ?_);exact rfl;exact rfl;(first |with_reducible exact map_app |with_reducible exact map_app3 |with_reducible exact map_app4 |exact bT |exact rfl |skip))
  |((with_reducible refine fJ ?_ ?_);exact rfl;(first |with_reducible exact map_app |with_reducible exact map_app3 |with_reducible exact map_app4 |exact bT |exact rfl |skip))
  |((with_reducible refine aO ?_);refine dN ?_ ?_ ?_;exact rfl;exact rfl;(first |exact rfl |skip))
  |exact @rfl AV _
  |exact @rfl Block _
  |exact @rfl (List AV) _
  |exact fK rfl
  |fail)
 all_goals first
  |((exact Bool.noConfusion h))
  |(rfl)
  |((exact Bool.noConfusion ((congrArg Bool.not (qS ‹_›)).symm.trans h:(false:Bool)=true)))
  |((rw[lC,show(t==t)=true from beq_self_eq_true t];rfl))
  |((rw[lC];rfl))
  |skip
theorem z7k(src:Sy.Str)(l x:List Pr)(p:Int)(t:Sy.Str)(qX:aA Tryz.prog 10 [.str src] (.ret (.tuple [prs x,.i p,.i 0])))(hs:decide ((src.length:Int)<=2000)=true)(hx:decide (((x.map Pr.cs).length:Int)>0)=true)(qL:aA Tryz.prog 11 [prs x] (.ret (.tuple [.str t,.i 0])))(qP:decide ((t.length:Int)>65536)=false->aA Tryz.prog 10 [.str t] (.ret (.tuple [prs (x.map dE),.i 0,.i 0])))(qA:aA Tryz.prog 11 [prs (x.map dE)] (.ret (.tuple [.str t,.i 0])))(qC:aA Tryz.prog 13 [prs x] (.ret (prs (x.map dE))))(qE:lenE (λq=>dV q.1 q.2) x (x.map dE)=true):aA Tryz.prog 3 [.str src,prs l] (.ret (.b true)):=by
 refine af tok hmix ⟨[],[]⟩ Tryz.func3 rfl (by kernel_rfl) (by kernel_rfl) (by kernel_rfl) λhf=>?_
 clear hf
 repeat' ((try(conv=>whnf))<;>first
  |((with_reducible refine kX ?_ ?_);exact rfl)
  |((with_reducible refine lQ ?_ ?_);exact rfl)
  |((with_reducible refine oQ ?_ ?_);kernel_rfl)
  |with_reducible exact trivial
  |with_reducible exact rfl
  |with_reducible refine BrI.tt ?_
  |with_reducible refine BrI.ff ?_
  |with_reducible refine BrI.intro (λh=>?_) (λh=>?_)
  |(exact Bool.noConfusion (hs.symm.trans h))
  |(exact Bool.noConfusion (hx.symm.trans h))
  |((with_reducible refine Lx.gi_step ?_ ?_);kernel_rfl)
  |((with_reducible refine ax ?_ ?_ ?_);rotate_left;(first |exact fF _ (by assumption) (by assumption) (by assumption) |exact fG _ _ |exact bW _ |exact mf |exact qX |exact qL |exact qC |exact bW x |exact qP ‹_› |exact qA |fail))
  |((with_reducible refine dA ?_ ?_);exact rfl)
  |((with_reducible refine dw ?_ ?_ ?_);rotate_left;(first |exact fF _ (by assumption) (by assumption) (by assumption) |exact fG _ _ |exact bW _ |exact mf |exact qX |exact qL |exact qC |exact bW x |exact qP ‹_› |exact qA |fail))
  |(with_reducible refine aG.l _ ?_)
  |((with_reducible refine dO ?_ ?_ ?_ ?_ ?_ ?_)<;>exact rfl)
  |((with_reducible refine eG ?_ ?_ ?_ ?_)<;>exact rfl)
  |((with_reducible refine ni ?_ ?_ ?_);exact rfl;exact rfl)
  |((with_reducible refine aU ?_ ?_ ?_ ?_ ?_);exact rfl;exact rfl;rotate_left;(first |with_reducible exact zF ‹_› |fail))
  |((with_reducible refine bg ?_ ?_);exact rfl)
  |((with_reducible refine app_step' ?_ ?_ ?_ ?_ ?_ ?_ ?_);exact rfl;exact rfl;exact rfl;exact rfl)
  |((with_reducible refine nil_step' ?_ ?_ ?_ ?_);exact rfl;exact rfl)
  |((with_reducible refine aT ?_ ?_ (λhg=>?_) ?_);exact rfl)
  |((with_reducible refine kK ?_ ?_ (λhg=>?_) ?_);exact rfl)
  |((with_reducible refine bQ ?_ ?_);with_reducible exact rfl;with_reducible exact rfl)
  |((with_reducible refine same_step ?_ ?_);with_reducible exact rfl)
  |((with_reducible refine yj ?_ ?_);kernel_rfl)
  |((with_reducible refine aI ?_ ?_);kernel_rfl)
  |((with_reducible refine gY ?_ ?_);kernel_rfl)
  |((with_reducible refine ai ?_);refine⟨[],rfl,?_,trivial⟩;conv=>whnf)
  |((with_reducible refine ret_need ?_ ?_);rotate_left;refine⟨[],rfl,?_,trivial⟩;conv=>whnf)
  |((with_reducible refine pan_need ?_ ?_);rotate_left;refine⟨[],rfl,?_,trivial⟩;conv=>whnf)
  |((with_reducible refine pan_step ?_);refine⟨[],rfl,?_,trivial⟩;conv=>whnf)
  |(with_reducible refine And.intro ?_ ?_)
  |((with_reducible refine qR ?_ ?_ ?_);exact rfl;exact rfl;(first |with_reducible exact map_app |with_reducible exact map_app3 |with_reducible exact map_app4 |exact bT |exact rfl |skip))
  |((with_reducible refine fJ ?_ ?_);exact rfl;(first |with_reducible exact map_app |with_reducible exact map_app3 |with_reducible exact map_app4 |exact bT |exact rfl |skip))
  |((with_reducible refine aO ?_);refine dN ?_ ?_ ?_;exact rfl;exact rfl;(first |exact rfl |skip))
  |exact @rfl AV _
  |exact @rfl Block _
  |exact @rfl (List AV) _
  |exact fK rfl
  |fail)
 all_goals first
  |((exact Bool.noConfusion h))
  |(rfl)
  |((exact Bool.noConfusion ((congrArg Bool.not qE).symm.trans h:(false:Bool)=true)))
  |((rw[lC,show(t==t)=true from beq_self_eq_true t];rfl))
  |((rw[lC];rfl))
  |skip
theorem wZ(src:Sy.Str)(l x:List Pr)(p e:Int)(tx:Sy.Str)(hw:(l.map wP).sum<=1073741823)(qX:aA Tryz.prog 10 [.str src] (.ret (.tuple [prs x,.i p,.i e])))(qT:(e==0)=true->aA Tryz.prog 11 [prs x] (.ret (.tuple [.str tx,.i 0])))(qB:(e==0)=true->aA Tryz.prog 13 [prs x] (.ret (prs (x.map dE))))(qS:(e==0)=true->lenE (λq=>dV q.1 q.2) x (x.map dE)=true)(hS:decide ((src.length:Int)<=2000)=true->(e==0)=true->decide (((x.map Pr.cs).length:Int)>0)=true->False):aA Tryz.prog 3 [.str src,prs l] (.ret (.b true)):=by
 have hW:=z1y hw
 cases zaj l with
 |no h=>exact z1z src l x p e tx qX qT qB qS hS (nP hW h)
 |yes t h hp ha=>
  exact z7j src l x p e tx t qX qT qB qS hS (nP hW h) (λhb=>qF (by have:=of_decide_eq_false hb;omega) (hp hb)) (nP (Us hw) ha) (EG hW)
theorem Xm(src:Sy.Str)(l:List Pr)(hs:src.length<=1048576)(hw:(l.map wP).sum<=1073741823):aA Tryz.prog 3 [.str src,prs l] (.ret (.b true)):=by
 have hs':src.length<=1073741823:=by omega
 have bad:∀(p e:Int),(e==0)=false->gU src = .tuple [.sl 8 [],.i p,.i e]->aA Tryz.prog 3 [.str src,prs l] (.ret (.b true)):=λp e he h2=>
  wZ src l [] p e [] hw (qF hs' h2) (λh=>Bool.noConfusion (he.symm.trans h)) (λh=>Bool.noConfusion (he.symm.trans h)) (λh=>Bool.noConfusion (he.symm.trans h)) (λ_ h _=>Bool.noConfusion (he.symm.trans h))
 cases zav src with
 |long h e2=>exact bad _ _ rfl e2
 |lex i h hl e2=>exact bad _ _ rfl e2
 |bad l1 r h hl hr e2=>exact bad _ _ rfl e2
 |ok l1 r x h hl hr e2=>
  have hv:Val l1:=List.all_eq_true.1 (SK hl).2
  have hn:=(SK hl).1
  obtain⟨hO,_⟩:=Yh hv hr
  have hx:=z7h hv hr
  have hB:x.map dE=x:=map_id' λp hp=>(hO p hp).bare
  have hX:(x.map wP).sum<=1073741823:=by omega
  have hW:=z1y hX
  have hP:=O8 hO
  cases hS:decide ((src.length:Int)<=2000)with
  |false=>exact wZ src l x 0 0 _ hw (qF hs' e2) (λ_=>nP hW hP) (λ_=>EG hW) (λ_=>(nI _ _).2 hB.symm) (λh _ _=>Bool.noConfusion (hS.symm.trans h))
  |true=>
   cases hE:decide (((x.map Pr.cs).length:Int)>0)with
   |false=>exact wZ src l x 0 0 _ hw (qF hs' e2) (λ_=>nP hW hP) (λ_=>EG hW) (λ_=>(nI _ _).2 hB.symm) (λ_ _ h=>Bool.noConfusion (hE.symm.trans h))
   |true=>
    cases zaj x with
    |no h=>rw[hP]at h;simp at h
    |yes t h hp ha=>exact z7k src l x 0 t (qF hs' e2) hS hE (nP hW h) (λhb=>qF (by have:=of_decide_eq_false hb;omega) (hp hb)) (nP (Us hX) ha) (EG hW) ((nI _ _).2 hB.symm)
end Go.Proofs.YtmfehangcmbidaaGreatDoor
