/- The law SyntaxParentheses: its walk. -/
import Derived.Test.YtmfehangcmbidaaGreatDoorZSS22
import Derived.Test.YtmfehangcmbidaaGreatDoorZSS21
import Derived.Test.YtmfehangcmbidaaGreatDoorZSD12
set_option linter.unusedSectionVars false
set_option linter.unusedSimpArgs false
set_option linter.unusedVariables false
set_option maxHeartbeats 4000000
namespace Go.Proofs.YtmfehangcmbidaaGreatDoor
open Go.Fw Go.Fw.Lx Go.Fw.Sy
set_option maxRecDepth 10000
variable [ae]
theorem vS(s:Sy.Str)(n:Nat)(hn:n<=3):aB Tryz.prog 19 [.str s,.i (n:Nat)] (.ret (toks (List.replicate n (sg s)))):=by
 refine ag tok hmix ⟨[],[]⟩ Tryz.func19 rfl (by kernel_rfl) (by kernel_rfl) (by kernel_rfl) λhf=>?_
 clear hf
 repeat' ((try(conv=>whnf))<;>first
  |with_reducible exact trivial
  |with_reducible exact rfl
  |with_reducible refine BrI.tt ?_
  |with_reducible refine BrI.ff ?_
  |with_reducible refine BrI.intro (λh=>?_) (λh=>?_)
  |((with_reducible refine aN.mk 0 ?_);refine⟨ik (λ(q:(Nat)×(List Tk))=>match q with |(i,out)=>[(6,.data (.val (.int .i64 (i:Nat)))),(4,.gs 900004 4 (out.map Tk.cs))]) (λ(q:(Nat)×(List Tk))=>match q with |(i,out)=>[(900004,.tok 4 (out.map Tk.cs).length)]) [0,5] (λ(q:(Nat)×(List Tk))=>match q with |(i,out)=>ZV s n i out) (λ(q:(Nat)×(List Tk))=>match q with |(i,out)=>n-i),?_⟩;with_reducible refine bG ((0),([])) ?_ ?_ (λ⟨i,out⟩ hI0=>?_))
  |(with_reducible refine aX ((i+1),(out++[sg s])) ?_ ?_ ?_)
  |(with_reducible refine aF.l _ ?_)
  |((with_reducible refine dD ?_ ?_ ?_ ?_ ?_ ?_)<;>exact rfl)
  |((with_reducible refine dO ?_ ?_ ?_ ?_)<;>exact rfl)
  |((with_reducible refine mi ?_ ?_ ?_);exact rfl;exact rfl)
  |((with_reducible refine bf ?_ ?_ ?_ ?_ ?_);exact rfl;exact rfl;rotate_left;(first |with_reducible exact yU ‹_› |fail))
  |((with_reducible refine bZ ?_ ?_);exact rfl)
  |((with_reducible refine app_step' ?_ ?_ ?_ ?_ ?_ ?_ ?_);exact rfl;exact rfl;exact rfl;exact rfl)
  |((with_reducible refine nil_step' ?_ ?_ ?_ ?_);exact rfl;exact rfl)
  |((with_reducible refine aQ ?_ ?_ (λhg=>?_) ?_);exact rfl)
  |((with_reducible refine ku ?_ ?_ (λhg=>?_) ?_);exact rfl)
  |((with_reducible refine bK ?_ ?_);with_reducible exact rfl;with_reducible exact rfl)
  |((with_reducible refine same_step ?_ ?_);with_reducible exact rfl)
  |((with_reducible refine xw ?_ ?_);kernel_rfl)
  |((with_reducible refine aH ?_ ?_);kernel_rfl)
  |((with_reducible refine gB ?_ ?_);kernel_rfl)
  |((with_reducible refine ai ?_);refine⟨[],rfl,?_,trivial⟩;conv=>whnf)
  |((with_reducible refine ret_need ?_ ?_);rotate_left;refine⟨[],rfl,?_,trivial⟩;conv=>whnf)
  |((with_reducible refine pan_need ?_ ?_);rotate_left;refine⟨[],rfl,?_,trivial⟩;conv=>whnf)
  |((with_reducible refine pan_step ?_);refine⟨[],rfl,?_,trivial⟩;conv=>whnf)
  |(with_reducible refine And.intro ?_ ?_)
  |((with_reducible refine vw ?_ ?_ ?_);exact rfl;exact rfl;(first |with_reducible exact map_app |with_reducible exact map_app3 |with_reducible exact map_app4 |exact dA |exact rfl |skip))
  |((with_reducible refine gq ?_ ?_);exact rfl;(first |with_reducible exact map_app |with_reducible exact map_app3 |with_reducible exact map_app4 |exact dA |exact rfl |skip))
  |((with_reducible refine aJ ?_);refine dC ?_ ?_ ?_;exact rfl;exact rfl;(first |exact rfl |skip))
  |exact @rfl AV _
  |exact @rfl Block _
  |exact @rfl (List AV) _
  |exact gu rfl
  |fail)
 all_goals(try simp only[Bool.cond_true_left,Bool.cond_false_right,Bool.cond_false_left,Bool.cond_true_right,Bool.not_eq_true',Bool.not_eq_false',bne,Ex.css_len,List.length_map,Int.toNat_zero]at *)
 all_goals first
  |omega
  |((exact SK s n))
  |((exact VK hI0 h))
  |((exact congrArg toks (ZC hI0 h)))
  |((exact ZE hI0 hn))
  |((exact ZF rfl))
  |((refine xx ?_;(have:=hI0.le;omega)))
  |(((conv=>whnf);refine xx ?_;(have:=hI0.le;omega)))
  |((exact z4a h))
  |(decide)
  |(rfl)
  |(exfalso;simp_all;done)
  |skip
theorem VT(s:Sy.Str){w:Int}{n:Nat}(hw:w=(n:Nat))(hn:n<=3):aB Tryz.prog 19 [.str s,.i w] (.ret (toks (List.replicate n (sg s)))):=by
 rw[hw];exact vS s n hn
theorem FX(src ts:Sy.Str)(l:List Tk)(x:List Pr)(p e p2 f:Int)(hE:z4l src l e f=true)(qL:aB Tryz.prog 15 [.str src] (.ret (.tuple [toks l,.i p,.i e])))(qP:aB Tryz.prog 10 [.str src] (.ret (.tuple [prs x,.i p2,.i f]))):aB Tryz.prog 7 [.str src,byD ts] (.ret (.b true)):=by
 refine ag tok hmix ⟨[],[]⟩ Tryz.func7 rfl (by kernel_rfl) (by kernel_rfl) (by kernel_rfl) λhf=>?_
 clear hf
 repeat' ((try(conv=>whnf))<;>first
  |with_reducible exact trivial
  |with_reducible exact rfl
  |with_reducible refine BrI.tt ?_
  |with_reducible refine BrI.ff ?_
  |with_reducible refine BrI.intro (λh=>?_) (λh=>?_)
  |(exact Bool.noConfusion (hE.symm.trans h))
  |((with_reducible refine ak ?_ ?_ ?_);rotate_left;(first |exact vS _ _ (by assumption) |exact kG _ (by assumption) (by assumption) |exact mQ _ _ |exact FK |exact qL |exact qP |fail))
  |(with_reducible refine aF.l _ ?_)
  |((with_reducible refine dD ?_ ?_ ?_ ?_ ?_ ?_)<;>exact rfl)
  |((with_reducible refine dO ?_ ?_ ?_ ?_)<;>exact rfl)
  |((with_reducible refine mi ?_ ?_ ?_);exact rfl;exact rfl)
  |((with_reducible refine bf ?_ ?_ ?_ ?_ ?_);exact rfl;exact rfl;rotate_left;(first |with_reducible exact yU ‹_› |fail))
  |((with_reducible refine bZ ?_ ?_);exact rfl)
  |((with_reducible refine app_step' ?_ ?_ ?_ ?_ ?_ ?_ ?_);exact rfl;exact rfl;exact rfl;exact rfl)
  |((with_reducible refine nil_step' ?_ ?_ ?_ ?_);exact rfl;exact rfl)
  |((with_reducible refine aQ ?_ ?_ (λhg=>?_) ?_);exact rfl)
  |((with_reducible refine ku ?_ ?_ (λhg=>?_) ?_);exact rfl)
  |((with_reducible refine bK ?_ ?_);with_reducible exact rfl;with_reducible exact rfl)
  |((with_reducible refine same_step ?_ ?_);with_reducible exact rfl)
  |((with_reducible refine xw ?_ ?_);kernel_rfl)
  |((with_reducible refine aH ?_ ?_);kernel_rfl)
  |((with_reducible refine gB ?_ ?_);kernel_rfl)
  |((with_reducible refine ai ?_);refine⟨[],rfl,?_,trivial⟩;conv=>whnf)
  |((with_reducible refine ret_need ?_ ?_);rotate_left;refine⟨[],rfl,?_,trivial⟩;conv=>whnf)
  |((with_reducible refine pan_need ?_ ?_);rotate_left;refine⟨[],rfl,?_,trivial⟩;conv=>whnf)
  |((with_reducible refine pan_step ?_);refine⟨[],rfl,?_,trivial⟩;conv=>whnf)
  |(with_reducible refine And.intro ?_ ?_)
  |((with_reducible refine vw ?_ ?_ ?_);exact rfl;exact rfl;(first |with_reducible exact map_app |with_reducible exact map_app3 |with_reducible exact map_app4 |exact dA |exact rfl |skip))
  |((with_reducible refine gq ?_ ?_);exact rfl;(first |with_reducible exact map_app |with_reducible exact map_app3 |with_reducible exact map_app4 |exact dA |exact rfl |skip))
  |((with_reducible refine aJ ?_);refine dC ?_ ?_ ?_;exact rfl;exact rfl;(first |exact rfl |skip))
  |exact @rfl AV _
  |exact @rfl Block _
  |exact @rfl (List AV) _
  |exact gu rfl
  |fail)
 all_goals first
  |((exact Bool.noConfusion h))
  |(rfl)
  |skip
theorem z4m(src ts:Sy.Str)(l:List Tk)(x:List Pr)(s:Sy.Str)(hE:z4l src l 0 0=false)(qL:aB Tryz.prog 15 [.str src] (.ret (.tuple [toks l,.i 0,.i 0])))(qP:aB Tryz.prog 10 [.str src] (.ret (.tuple [prs x,.i 0,.i 0])))(hv:Val l)(hw:Wf l)(hl:l.length<=1000)(hz:tsz l<=4000)(qT:∀out i k,PaI l i k out->¬i<l.length->aB Tryz.prog 16 [toks out] (.ret (.tuple [.str (textS out),.i 0]))/\aB Tryz.prog 10 [.str (textS out)] (.ret (.tuple [prs x,.i 0,.i 0]))):aB Tryz.prog 7 [.str src,byD ts] (.ret (.b true)):=by
 refine ag tok hmix ⟨[],[]⟩ Tryz.func7 rfl (by kernel_rfl) (by kernel_rfl) (by kernel_rfl) λhf=>?_
 clear hf
 repeat' ((try(conv=>whnf))<;>first
  |((have hE2:=z4f hI2 hI0 (jU ‹_›) ‹inC l j=false›);(obtain⟨rfl,rfl⟩:=hE2);clear hI2)
  |with_reducible exact trivial
  |with_reducible exact rfl
  |with_reducible refine BrI.tt ?_
  |with_reducible refine BrI.ff ?_
  |with_reducible refine BrI.intro (λh=>?_) (λh=>?_)
  |(exact Bool.noConfusion (hE.symm.trans h))
  |((with_reducible refine z3z ?_ ?_ ?_ ?_);exact rfl;exact rfl;assumption)
  |((refine VQ ?_ ?_ ?_);kernel_rfl;(intro hq;exact hq))
  |((with_reducible refine z4b ?_ ?_ ?_ ?_);exact rfl;exact rfl;(first |exact(zB h).1 |exact(zB ‹_›).1 |exact z8h hg |exact jU h |exact jU hg |exact jU ‹_› |fail))
  |((with_reducible refine aN.mk 2 ?_);refine⟨ik (λ(q:(Nat)×(Nat))=>match q with |(j,d)=>[(16,.data (.val (.int .i64 (j:Nat)))),(17,.data (.val (.int .i64 (d:Nat))))]) (λ(q:(Nat)×(Nat))=>match q with |(j,d)=>[]) [1,5,8,11,12,13,14,15] (λ(q:(Nat)×(Nat))=>match q with |(j,d)=>InJ l i j d) (λ(q:(Nat)×(Nat))=>match q with |(j,d)=>l.length-j),?_⟩;with_reducible refine bG ((i+sk l i),(0)) ?_ ?_ (λ⟨j,d⟩ hI2=>?_))
  |(with_reducible refine aX ((j+1),(d+cw (tkA l j))) ?_ ?_ ?_)
  |((with_reducible refine aN.mk 0 ?_);refine⟨ik (λ(q:(Nat)×(Nat)×(List Tk))=>match q with |(i,k,out)=>[(13,.data (.val (.int .i64 (i:Nat)))),(14,.data (.val (.int .i64 (k:Nat)))),(12,.gs 900012 4 (out.map Tk.cs))]) (λ(q:(Nat)×(Nat)×(List Tk))=>match q with |(i,k,out)=>[(900012,.tok 4 (out.map Tk.cs).length)]) [1,5,8,11] (λ(q:(Nat)×(Nat)×(List Tk))=>match q with |(i,k,out)=>PaI l i k out) (λ(q:(Nat)×(Nat)×(List Tk))=>match q with |(i,k,out)=>l.length-i),?_⟩;with_reducible refine bG ((0),(0),([])) ?_ ?_ (λ⟨i,k,out⟩ hI0=>?_))
  |(with_reducible refine aX ((nxI l i),(nxK l i k),(nxO l ts i k out)) ?_ ?_ ?_)
  |((with_reducible refine ak ?_ ?_ ?_);rotate_left;(first |exact vS _ _ (by assumption) |exact kG _ (by assumption) (by assumption) |exact mQ _ _ |exact FK |exact qL |exact qP |exact(qT out i k hI0 (z4j h)).1 |exact(qT out i k hI0 (z4j ‹_›)).2 |(refine VT _ (n:=nn ts k) ?_ (VL ts k);first |exact WY ‹_› |exact z4k ‹_› |fail) |fail))
  |(with_reducible refine aF.l _ ?_)
  |((with_reducible refine dD ?_ ?_ ?_ ?_ ?_ ?_)<;>exact rfl)
  |((with_reducible refine dO ?_ ?_ ?_ ?_)<;>exact rfl)
  |((with_reducible refine mi ?_ ?_ ?_);exact rfl;exact rfl)
  |((with_reducible refine bf ?_ ?_ ?_ ?_ ?_);exact rfl;exact rfl;rotate_left;(first |with_reducible exact yU ‹_› |fail))
  |((with_reducible refine bZ ?_ ?_);exact rfl)
  |((with_reducible refine app_step' ?_ ?_ ?_ ?_ ?_ ?_ ?_);exact rfl;exact rfl;exact rfl;exact rfl)
  |((with_reducible refine nil_step' ?_ ?_ ?_ ?_);exact rfl;exact rfl)
  |((with_reducible refine aQ ?_ ?_ (λhg=>?_) ?_);exact rfl)
  |((with_reducible refine ku ?_ ?_ (λhg=>?_) ?_);exact rfl)
  |((with_reducible refine bK ?_ ?_);with_reducible exact rfl;with_reducible exact rfl)
  |((with_reducible refine same_step ?_ ?_);with_reducible exact rfl)
  |((with_reducible refine xw ?_ ?_);kernel_rfl)
  |((with_reducible refine aH ?_ ?_);kernel_rfl)
  |((with_reducible refine gB ?_ ?_);kernel_rfl)
  |((with_reducible refine ai ?_);refine⟨[],rfl,?_,trivial⟩;conv=>whnf)
  |((with_reducible refine ret_need ?_ ?_);rotate_left;refine⟨[],rfl,?_,trivial⟩;conv=>whnf)
  |((with_reducible refine pan_need ?_ ?_);rotate_left;refine⟨[],rfl,?_,trivial⟩;conv=>whnf)
  |((with_reducible refine pan_step ?_);refine⟨[],rfl,?_,trivial⟩;conv=>whnf)
  |(with_reducible refine And.intro ?_ ?_)
  |((with_reducible refine vw ?_ ?_ ?_);exact rfl;exact rfl;(first |with_reducible exact map_app |with_reducible exact map_app3 |with_reducible exact map_app4 |exact dA |exact rfl |skip))
  |((with_reducible refine gq ?_ ?_);exact rfl;(first |with_reducible exact map_app |with_reducible exact map_app3 |with_reducible exact map_app4 |exact dA |exact rfl |skip))
  |((with_reducible refine aJ ?_);refine dC ?_ ?_ ?_;exact rfl;exact rfl;(first |exact rfl |skip))
  |exact @rfl AV _
  |exact @rfl Block _
  |exact @rfl (List AV) _
  |exact gu rfl
  |fail)
 all_goals first
  |(((with_reducible refine z6z ?_);(conv=>whnf);refine int_eq ?_;first |with_reducible exact z6q (KI h) (jU ‹_›) hl |with_reducible exact z6r (KI h) |with_reducible exact NM (wS h) (jU ‹_›) hl |((with_reducible refine z8i ?_ hl);exact(zB ‹inC l j=true›).1) |((with_reducible refine z6t hI2 hl ?_);exact h) |((with_reducible refine z6u ?_);exact h) |with_reducible exact z6w hI0 (wS ‹_›) (jU ‹_›) hl |with_reducible exact z6x hI0 (wS ‹_›) (jU ‹_›) hl |fail))
  |(((with_reducible refine Eq.symm ?_);(with_reducible refine Eq.symm ?_);first |(with_reducible exact rfl) |exact z6p (KI h) rfl |exact z6y hI0 (wS ‹_›) (jU ‹_›) hl rfl rfl rfl |(exact Bool.noConfusion h) |(exact(z6v hI0 (jU ‹_›) (wS ‹_›) h).elim) |(refine congrArg (λz=>D.val (Value.bool z)) ?_;rw[Fj];rfl) |rfl |fail))
  |((with_reducible exact z8j (jU ‹_›) hl))
  |((with_reducible exact z8k (wS ‹_›) (jU ‹_›) hl))
  |((with_reducible exact z8l hI0 (wS ‹_›) (jU ‹_›) hl))
  |((with_reducible exact z8m (wS ‹_›) (jU ‹_›) hl))
  |((with_reducible exact z8n (wS ‹_›) (jU ‹_›) hl))
  |((with_reducible exact z8o hI0 (wS ‹_›) (jU ‹_›)))
  |((with_reducible exact z4g hI0 hz hl))
  |((have hb:=ZK hI0 hz hl;(try simp only[List.length_append,KJ,List.length_map,List.length_replicate]);have hc:=WX (l:=l) (a:=some (IntKind.i64.wrap ((i:Int)+1))) (b:=some (IntKind.i64.wrap ((i:Int)+((skipS (tkA l i).text:Nat):Int)))) hl;have hd:=WX (l:=l) (a:=some (IntKind.i64.wrap ((i:Int)+((skipS (tkA l i).text:Nat):Int)))) (b:=some ((en l i:Nat):Int)) hl;have he:=VL ts k;omega))
  |((exact VM hw))
  |((exact VP hI0 (jU ‹_›) (wS h)))
  |((exact ZJ hI2 hI0 (jU ‹_›) ‹inC l j=true›))
  |((exact z6o hI2 hI0 (jU ‹_›) ‹inC l j=true›))
  |((exact VN hI0 hv (jU ‹_›) (KI h)))
  |((refine VO hI0 hv (jU ‹_›) (wS ‹_›).1 (z8p hl ?_ h);first |exact WY ‹_› |exact z4k ‹_› |fail))
  |((exact z6n (jU ‹_›)))
  |(decide)
  |((exact rfl))
  |skip
theorem ZM(src ts:Sy.Str)(hs:src.length<=1048576):aB Tryz.prog 7 [.str src,byD ts] (.ret (.b true)):=by
 have hs':src.length<=1073741823:=by omega
 obtain⟨l,p,e,qL,hL⟩:=RG src
 have early:∀x p2 f,(f != 0)=true->iw src = .tuple [prs x,.i p2,.i f]->aB Tryz.prog 7 [.str src,byD ts] (.ret (.b true)):=λx p2 f hf h=>
  FX src ts l x p e p2 f (by simp only[z4l,wH,hf,Bool.or_true,Bool.true_or]) qL (xG hs' h)
 cases z8c src with
 |long h e2=>exact early [] _ _ rfl e2
 |lex i h hl e2=>exact early [] _ _ rfl e2
 |bad l1 r h hl hr e2=>exact early [] _ _ rfl e2
 |ok l1 r x h hl1 hr e2=>
 cases hE:z4l src l e 0 with
 |true=>exact FX src ts l x p e _ _ hE qL (xG hs' e2)
 |false=>
  have hE2:=hE
  simp only[z4l,wH,Bool.or_eq_false_iff,decide_eq_false_iff_not,List.length_map,bne_eq_false_iff_eq]at hE2
  obtain⟨⟨⟨c1,c2⟩,c3⟩,c4⟩:=hE2
  subst c2
  obtain⟨hb,hl,rfl⟩:=hL rfl
  obtain rfl:l=l1:=by rw[hl]at hl1;injection hl1
  have hv:Val l:=List.all_eq_true.1 (WQ hl).2
  have hn:l.length<=1000:=by omega
  obtain⟨hw,hp⟩:=VJ hv hr
  have hz:tsz l<=4000:=by
   have h1:=hl
   rw[Hm]at h1
   have h2:=(ug _ src 0 l (Nat.le_refl _) h1).2.1
   have h3:=RF l
   unfold tsz
   omega
  refine z4m src ts l x [] hE qL (xG hs' e2) hv hw hn hz λout i k hI hi=>?_
  have hO:Par l out:=by
   have:=hI.p [] (by rw[List.drop_eq_nil_of_le (by omega)];exact .nil)
   simpa using this
  have hso:tsz out<=20000:=by have:=hI.sz;have:=hI.kl;have:=hI.le;omega
  have ho:=Iz out
  have ht:(textS out).length<=tsz out:=Vz
  have hvo:=hI.v.all
  obtain⟨h1,h2⟩:=Vy hvo
  obtain⟨h3,h4⟩:=Vx h2
  refine⟨Zb hvo (by omega) (by omega),xG (by omega) ?_⟩
  cases hX:iU (place 0 (pairs out))with
  |mk o r2=>
   rw[hX,hp out hO]at h3
   obtain rfl:=h3
   exact BB (decide_eq_false (by omega)) h1 hX
end Go.Proofs.YtmfehangcmbidaaGreatDoor
