/- A part of the proof. -/
import Derived.Test.YtgehpmgkaeohaaaGreatDoorZLY
import Derived.Test.YtgehpmgkaeohaaaGreatDoorZSY
set_option linter.all false
set_option maxHeartbeats 400000
namespace Go.Proofs.YtgehpmgkaeohaaaGreatDoor
open Go.Fw Go.Fw.Lx Go.Fw.Sy
set_option maxRecDepth 10000
variable [ae]
theorem zbx(s:Sy.Str)(l:List Tk)(e d:Int)  : PCall Tryz.prog 252 [.ptr [.sl 4 (l.map Tk.cs),.i e,.i d],.str s] (.ret (.b (isT s l))):=by
 refine aj Tryz.func252 ?_
 repeat' ((try conv=>whnf)<;>first
  |((refine sO ?_ ?_ ?_ ?_);exact⟨rfl,rfl⟩;rfl;(simp[mV]at hg;omega))
  |((refine aK ?_ ?_ (λhg=>?_) ?_);rfl)
  |((refine aY ?_ ?_);rfl;rfl)
  |(refine cO ?_;conv=>whnf))
 all_goals (simp only[isT,NK];cases l.isEmpty<;>cases (hd l).kind != 2<;>rfl)
theorem jq(l:List Tk)(e d:Int)  : PCall Tryz.prog 191 [.ptr [.sl 4 (l.map Tk.cs),.i e,.i d]] (.ret (.b (lM l))):=by
 refine aj Tryz.func191 ?_
 repeat' ((try conv=>whnf)<;>first
  |((refine sO ?_ ?_ ?_ ?_);exact⟨rfl,rfl⟩;rfl;(simp[mV]at hg;omega))
  |((refine aK ?_ ?_ (λhg=>?_) ?_);rfl)
  |((refine aY ?_ ?_);rfl;rfl)
  |(refine cO ?_;conv=>whnf))
 all_goals (simp only[lM,NK];cases l.isEmpty<;>cases (hd l).kind==2<;>rfl)
theorem TL   : PCall Tryz.prog 254 [] (.ret (strs words)):=by
 refine aj Tryz.func254 ?_
 repeat' ((try conv=>whnf)<;>first
  |refine aI.l _ ?_
  |(refine cO ?_;conv=>whnf))
 all_goals rfl
theorem Oc(l:List Sy.Str)(v:Sy.Str)  : PCall Tryz.prog 264 [strs l,.str v] (.ret (.i (Gs v l 0))):=by
 refine dh Tryz.func264 λhf=>?_
 have hlen:l.length<=9223372036854775807:=by simpa using(hf (.sl 1 (l.map z3q)) (by simp)).sl.1
 clear hf
 repeat' ((try conv=>whnf)<;>first
  |exact trivial
  |exact ai hd0 ‹_›
  |refine bu hd0 ?_
  |refine aP hd0 ?_
  |refine BrI.intro (λh=>?_) (λh=>?_)
  |((refine au.mk 0 ?_);refine⟨aH (l) 8 (λ(_:Unit)=>[]) (λ(_:Unit)=>[]) [0,1,7] (λi0 r0 _=>Gs v l 0=Gs v r0 i0),?_⟩;refine af () ?_ ?_ (λi0 (_:Unit) hd0 hI0=>?_) (λi0 x0 r0 (_:Unit) hd0 hl0 hI0=>?_))
  |refine ag hd0 () ?_ ?_
  |((refine aB ?_ ?_ ?_ ?_ ?_);rfl;rfl;rotate_left;exact ay hd0)
  |(refine cO ?_;conv=>whnf)
  |refine And.intro ?_ ?_
  |exact @rfl AV _)
 all_goals first
  |(rw[hI0];(try simp only[Gs,Bool.not_true,Bool.not_false,Bool.and_true,Bool.true_and,Bool.and_false,Bool.false_and,Bool.or_true,Bool.true_or,Bool.or_false,Bool.false_or,if_true,if_false,reduceIte,Bool.false_eq_true,Bool.not_not,Bool.not_eq_true',beq_self_eq_true,List.all_cons,List.all_nil,List.any_cons,List.any_nil,List.length_map,bne,eq_self,Int.toNat_zero, *]);first |done |rfl)
  |simp_all[Gs]
theorem Yd(l:List Sy.Str)(v:Sy.Str)  : PCall Tryz.prog 253 [strs l,.str v] (.ret (.b (decide (Gs v l 0>=0)))):=by
 refine aj Tryz.func253 ?_
 repeat' ((try conv=>whnf)<;>first
  |((refine ah ?_ ?_ ?_);rotate_left;exact Oc _ _)
  |(refine cO ?_;conv=>whnf))
theorem uD(l:List Tk)(e d:Int)  : PCall Tryz.prog 232 [.ptr [.sl 4 (l.map Tk.cs),.i e,.i d]] (.ret (.b (z02 l))):=by
 refine aj Tryz.func232 ?_
 repeat' ((try conv=>whnf)<;>first
  |((refine sO ?_ ?_ ?_ ?_);exact⟨rfl,rfl⟩;rfl;(simp[mV]at hg;omega))
  |((refine ah ?_ ?_ ?_);rotate_left;(first |exact TL |exact Yd _ _))
  |((refine uf ?_ ?_ (λhg=>?_) ?_);rfl)
  |((refine aY ?_ ?_);rfl;rfl)
  |refine eQ ?_
  |(refine cO ?_;conv=>whnf))
 all_goals (simp only[z02,NK,z07];cases l.isEmpty<;>cases (hd l).kind==1<;>rfl)
theorem iG(s:Sy.Str)(l:List Tk)(e d:Int)  : ak Tryz.prog 230 [.ptr 1000000 0,.data (.str s)] [(1000000,pB l e d)] (.ret (.data (.b (isT s l)))) [(1000000,pB (bif isT s l then l.drop 1 else l) e d)]:=by
 refine aT Tryz.func230 ?_
 repeat' ((try conv=>whnf)<;>first
  |exact trivial
  |refine BrI.intro (λh=>?_) (λh=>?_)
  |((refine rE ?_ ?_ ?_);exact⟨rfl,rfl⟩;exact zhm (uy h))
  |((refine dE ?_ ?_);rfl)
  |((refine dU ?_ ?_ ?_);rotate_left;exact zbx _ _ _ _)
  |((refine bg ?_);refine fin_step' [(1000000,1000000)] rfl ?_ ?_)
  |refine And.intro ?_ ?_)
 all_goals first
  |(rw[h];exact congrArg (D.sl 4) z06)
  |(rw[h];rfl)
theorem jW(l:List Tk)(e d:Int)  : ak Tryz.prog 231 [.ptr 1000000 0] [(1000000,pB l e d)] (.pan (.data (lS 186 e l))) [(1000000,pB l e d)]:=by
 refine aT Tryz.func231 ?_
 repeat' ((try conv=>whnf)<;>first
  |exact trivial
  |refine BrI.intro (λh=>?_) (λh=>?_)
  |((refine sO ?_ ?_ ?_ ?_);exact⟨rfl,rfl⟩;rfl;(simp at h;omega))
  |((refine dB ?_);refine fin_step' [(1000000,1000000)] rfl ?_ ?_)
  |refine And.intro ?_ ?_)
 all_goals first
  |exact z08 h
  |exact XO h
theorem TM(ws:List Sy.Str)(l:List Tk)(e d:Int)(o:Option Unit)(l':List Tk)(hlen:ws.length<=9223372036854775807)(hM:JW ws l=(o,l')):ak Tryz.prog 188 [.ptr 1000000 0,.gs 1000001 1 (ws.map z3q)] [(1000000,pB l e d),(1000001,.tok 1 (ws.map z3q).length)] (kC 186 (λ_:Unit=>.tuple []) e o l') [(1000000,pB l' e d),(1000001,.tok 1 (ws.map z3q).length)]:=by
 refine aT Tryz.func188 ?_
 repeat' ((try conv=>whnf)<;>first
  |((refine x9 ?_ ?_);exact rfl)
  |((refine xZ ?_ ?_);exact rfl)
  |((refine DF (λs l=>iG s l e d) ?_);refine⟨_,_,_,rfl,rfl,rfl,λhT _=>?_,λhT=>?_⟩)
  |((refine JV (λl=>jW l e d) ?_);refine⟨_,_,rfl,rfl,rfl,?_⟩)
  |((refine jE ?_);(try simp only[Bool.not_true,Bool.not_false,cond_true,cond_false,bne,Bool.not_eq_true',Bool.not_eq_false']at *);(rw[hI0]at hM);(simp only[JW,reduceIte,Bool.false_eq_true, *]at hM);(obtain⟨rfl,rfl⟩:=fG hM);refine gX ?_;(conv=>whnf);refine fin_step' [(1000000,1000000),(1000001,1000001)] rfl ?_ ?_)
  |((refine bD ?_);(try simp only[Bool.not_true,Bool.not_false,cond_true,cond_false,bne,Bool.not_eq_true',Bool.not_eq_false']at *);(rw[hI0]at hM);(simp only[JW,reduceIte,Bool.false_eq_true, *]at hM);(obtain⟨rfl,rfl⟩:=fG hM);refine aV ?_;refine fin_step' [(1000000,1000000),(1000001,1000001)] rfl ?_ ?_)
  |exact trivial
  |exact ai hd0 ‹_›
  |refine bu hd0 ?_
  |refine aP hd0 ?_
  |((refine au.mk 0 ?_);refine⟨aH (ws) 8 (λ(l1:(List Tk))=>[]) (λ(l1:(List Tk))=>[(1000000,pB l1 e d)]) [0,6,7] (λi0 r0 l1=>JW ws l=JW r0 l1),?_⟩;refine af (l) ?_ ?_ (λi0 (l1:(List Tk)) hd0 hI0=>?_) (λi0 x0 r0 (l1:(List Tk)) hd0 hl0 hI0=>?_))
  |refine ag hd0 (l1.drop 1) ?_ ?_
  |((refine aB ?_ ?_ ?_ ?_ ?_);exact rfl;exact rfl;rotate_left;exact ay hd0)
  |refine And.intro ?_ ?_
  |exact @rfl AV _)
 all_goals (rw[hI0];simp only[JW,hT,if_true])
theorem iH(s:Sy.Str)(l:List Tk)(e d:Int)(o:Option Unit)(l':List Tk)(hM:bz s l=(o,l')):ak Tryz.prog 188 [.ptr 1000000 0,.gs 1000001 1 [[.str s]]] [(1000000,pB l e d),(1000001,.tok 1 1)] (kC 186 (λ_:Unit=>.tuple []) e o l') [(1000000,pB l' e d),(1000001,.tok 1 1)]:=
 TM [s] l e d o l' (by simp) (by rw[XM];exact hM)
theorem jX(l:List Tk)(e d:Int)(o:Option (Sy.Str))(l':List Tk)(hM:oV l=(o,l')):ak Tryz.prog 189 [.ptr 1000000 0] [(1000000,pB l e d)] (kC 186 (λs=>.str s) e o l') [(1000000,pB l' e d)]:=by
 refine aT Tryz.func189 ?_
 repeat' ((try conv=>whnf)<;>first
  |((refine JV (λl=>jW l e d) ?_);refine⟨_,_,rfl,rfl,rfl,?_⟩)
  |((refine jE ?_);(try simp only[Bool.not_true,Bool.not_false,cond_true,cond_false,bne,Bool.not_eq_true',Bool.not_eq_false']at *);(simp only[oV,reduceIte,Bool.false_eq_true, *]at hM);(obtain⟨rfl,rfl⟩:=fG hM);refine gX ?_;(conv=>whnf);refine fin_step' [(1000000,1000000)] rfl ?_ ?_)
  |((refine bD ?_);(try simp only[Bool.not_true,Bool.not_false,cond_true,cond_false,bne,Bool.not_eq_true',Bool.not_eq_false']at *);(simp only[oV,reduceIte,Bool.false_eq_true, *]at hM);(obtain⟨rfl,rfl⟩:=fG hM);refine aV ?_;refine fin_step' [(1000000,1000000)] rfl ?_ ?_)
  |exact trivial
  |refine BrI.intro (λh=>?_) (λh=>?_)
  |((refine sO ?_ ?_ ?_ ?_);exact⟨rfl,rfl⟩;exact rfl;(exact Qz (by simpa using h)))
  |((refine rE ?_ ?_ ?_);exact⟨rfl,rfl⟩;exact zhm (Qz (by simpa using h)))
  |((refine dE ?_ ?_);exact rfl)
  |((refine dU ?_ ?_ ?_);rotate_left;exact uD _ _ _)
  |refine And.intro ?_ ?_)
 all_goals exact congrArg (D.sl 4) z06
theorem iR(l:List Tk)(e d:Int)(o:Option (Int))(l':List Tk)(hM:zJ l=(o,l')):ak Tryz.prog 190 [.ptr 1000000 0] [(1000000,pB l e d)] (kC 186 (λn=>.i n) e o l') [(1000000,pB l' e d)]:=by
 refine aT Tryz.func190 ?_
 repeat' ((try conv=>whnf)<;>first
  |((refine JV (λl=>jW l e d) ?_);refine⟨_,_,rfl,rfl,rfl,?_⟩)
  |((refine jE ?_);(try simp only[Bool.not_true,Bool.not_false,cond_true,cond_false,bne,Bool.not_eq_true',Bool.not_eq_false']at *);(simp only[zJ,reduceIte,Bool.false_eq_true, *]at hM);(obtain⟨rfl,rfl⟩:=fG hM);refine gX ?_;(conv=>whnf);refine fin_step' [(1000000,1000000)] rfl ?_ ?_)
  |((refine bD ?_);(try simp only[Bool.not_true,Bool.not_false,cond_true,cond_false,bne,Bool.not_eq_true',Bool.not_eq_false']at *);(simp only[zJ,reduceIte,Bool.false_eq_true, *]at hM);(obtain⟨rfl,rfl⟩:=fG hM);refine aV ?_;refine fin_step' [(1000000,1000000)] rfl ?_ ?_)
  |exact trivial
  |refine BrI.intro (λh=>?_) (λh=>?_)
  |((refine sO ?_ ?_ ?_ ?_);exact⟨rfl,rfl⟩;exact rfl;(exact Cm (by simpa using h)))
  |((refine rE ?_ ?_ ?_);exact⟨rfl,rfl⟩;exact zhm (Cm (by simpa using h)))
  |((refine dE ?_ ?_);exact rfl)
  |((refine dU ?_ ?_ ?_);rotate_left;exact jq _ _ _)
  |refine And.intro ?_ ?_)
 all_goals exact congrArg (D.sl 4) z06
theorem yN(l:List Tk)(e d:Int)(o:Option (Int))(l':List Tk)(hM:Qv l=(o,l')):ak Tryz.prog 236 [.ptr 1000000 0] [(1000000,pB l e d)] (kC 186 (λn=>.i n) e o l') [(1000000,pB l' e d)]:=by
 refine aT Tryz.func236 ?_
 repeat' ((try conv=>whnf)<;>first
  |((refine DF (λs l=>iG s l e d) ?_);refine⟨_,_,_,rfl,rfl,rfl,λhT _=>?_,λhT=>?_⟩)
  |((refine kJ (d:=d) [] (λl=>iR l e d) ?_);refine⟨_,_,rfl,rfl,rfl,λn l1 h_n=>?_,λl1 h_n=>?_⟩)
  |((refine x9 ?_ ?_);exact rfl)
  |((refine xZ ?_ ?_);exact rfl)
  |((refine jE ?_);(try simp only[Bool.not_true,Bool.not_false,cond_true,cond_false,bne,Bool.not_eq_true',Bool.not_eq_false']at *);(simp only[Qv,bnd,reduceIte,Bool.false_eq_true, *]at hM);(obtain⟨rfl,rfl⟩:=fG hM);refine gX ?_;(conv=>whnf);refine fin_step' [(1000000,1000000)] rfl ?_ ?_)
  |((refine bD ?_);(try simp only[Bool.not_true,Bool.not_false,cond_true,cond_false,bne,Bool.not_eq_true',Bool.not_eq_false']at *);(simp only[Qv,bnd,reduceIte,Bool.false_eq_true, *]at hM);(obtain⟨rfl,rfl⟩:=fG hM);refine aV ?_;refine fin_step' [(1000000,1000000)] rfl ?_ ?_)
  |exact trivial
  |refine And.intro ?_ ?_)
theorem KD(u:PM Ex)(e d:Int)(l:List Tk)(o:Option (Ex))(l':List Tk)(hu:(∀l o l',u l=(o,l')->ak Tryz.prog 276 [.ptr 1000000 0] [(1000000,pB l e d)] (kC 186 Ex.d e o l') [(1000000,pB l' e d)]))(hs:Sh u)(hM:prodM u l=(o,l')):ak Tryz.prog 273 [.ptr 1000000 0] [(1000000,pB l e d)] (kC 186 Ex.d e o l') [(1000000,pB l' e d)]:=by
 refine aT Tryz.func273 ?_
 repeat' ((try conv=>whnf)<;>first
  |((refine bK _ _ _ [true,true,true] ?_ ?_ ?_);exact rfl;kernel_rfl)
  |((refine bK _ _ _ [false,false,true,true] ?_ ?_ ?_);exact rfl;kernel_rfl)
  |((refine quiet_step ?_ ?_);kernel_rfl)
  |((refine x9 ?_ ?_);exact rfl)
  |((refine xZ ?_ ?_);exact rfl)
  |((refine DF (λs l=>iG s l e d) ?_);refine⟨_,_,_,rfl,rfl,rfl,λhT _=>?_,λhT=>?_⟩)
  |((refine JV (λl=>jW l e d) ?_);refine⟨_,_,rfl,rfl,rfl,?_⟩)
  |((refine kJ (d:=d) [] (λl=>hu l) ?_);refine⟨_,_,rfl,rfl,rfl,λy l2 h_y=>?_,λl2 h_y=>?_⟩)
  |((refine kJ (d:=d) [] (λl=>iR l e d) ?_);refine⟨_,_,rfl,rfl,rfl,λk l3 h_k=>?_,λl3 h_k=>?_⟩)
  |refine dm (.mk 18 [] 0 k [x],l3,n-1) ?_ ?_ ?_
  |refine dm (ex2 17 x y,l2,n-1) ?_ ?_ ?_
  |((refine bD ?_);(have hE:=zak hM h_y);(obtain⟨rfl,rfl⟩:=hE);refine aV ?_;refine fin_step' [(1000000,1000000)] rfl ?_ ?_)
  |((refine bD ?_);(have hE:=zal hI0 ‹isT qI l1=true› h_y);(obtain⟨rfl,rfl⟩:=hE);refine aV ?_;refine fin_step' [(1000000,1000000)] rfl ?_ ?_)
  |((refine bD ?_);(have hE:=zan hI0 ‹isT qI l1=false› ‹isT pz l1=true› h);(obtain⟨rfl,rfl⟩:=hE);refine aV ?_;refine fin_step' [(1000000,1000000)] rfl ?_ ?_)
  |((refine bD ?_);(have hE:=zao hI0 ‹isT qI l1=false› ‹isT pz l1=true› h h_k);(obtain⟨rfl,rfl⟩:=hE);refine aV ?_;refine fin_step' [(1000000,1000000)] rfl ?_ ?_)
  |((refine jE ?_);(have hE:=zf0 hI0 ‹isT qI l1=false› ‹isT pz l1=false›);(obtain⟨rfl,rfl⟩:=hE);refine gX ?_;(conv=>whnf);refine fin_step' [(1000000,1000000)] rfl ?_ ?_)
  |exact trivial
  |refine BrI.intro (λh=>?_) (λh=>?_)
  |((refine sO ?_ ?_ ?_ ?_);exact⟨rfl,rfl⟩;exact rfl;(exact Cm (by simpa[mV]using hg)))
  |((refine au.mk 0 ?_);refine⟨lG (λ(q:(Ex)×(List Tk)×(Nat))=>match q with |(x,l1,n)=>[]) (λ(q:(Ex)×(List Tk)×(Nat))=>match q with |(x,l1,n)=>[(3,.cells [.data (.i x.kind),.data (.str x.name),.data (.i x.index),.data (.i x.n),.data (.sl 5 (Ex.css x.l))]),(1000000,pB l1 e d)]) [0,2,3] (λ(q:(Ex)×(List Tk)×(Nat))=>match q with |(x,l1,n)=>LI (lN u) (o,l') n x l1) (λ(q:(Ex)×(List Tk)×(Nat))=>match q with |(x,l1,n)=>n),?_⟩;refine eH ((y),(l2),(l2.length)) ?_ ?_ (λ⟨x,l1,n⟩ hI0=>?_))
  |((refine dE ?_ ?_);exact rfl)
  |((refine dU ?_ ?_ ?_);rotate_left;exact jq _ _ _)
  |refine aI.l _ ?_
  |((refine aK ?_ ?_ (λhg=>?_) ?_);exact rfl)
  |((refine aY ?_ ?_);exact rfl;exact rfl)
  |refine eQ ?_
  |((refine eF ?_ ?_);kernel_rfl)
  |refine And.intro ?_ ?_
  |exact @rfl AV _)
 all_goals first
  |exact zfz hM h_y
  |exact zam hs hI0 ‹isT qI l1=true› h_y
  |exact zaq hI0 ‹isT qI l1=false› ‹isT pz l1=true› h h_k
  |exact z05 hI0 ‹isT qI l1=true›
  |exact z05 hI0 ‹isT pz l1=true›
  |exact zke x
  |exact zjx x y
theorem z2e(u:PM Ex)(e d:Int)(l:List Tk)(o:Option (Ex))(l':List Tk)(hu:(∀l o l',(prodM u) l=(o,l')->ak Tryz.prog 273 [.ptr 1000000 0] [(1000000,pB l e d)] (kC 186 Ex.d e o l') [(1000000,pB l' e d)]))(hs:Sh u)(hM:Uf u l=(o,l')):ak Tryz.prog 265 [.ptr 1000000 0] [(1000000,pB l e d)] (kC 186 Ex.d e o l') [(1000000,pB l' e d)]:=by
 refine aT Tryz.func265 ?_
 repeat' ((try conv=>whnf)<;>first
  |((refine bK _ _ _ [true,true,true] ?_ ?_ ?_);exact rfl;kernel_rfl)
  |((refine quiet_step ?_ ?_);kernel_rfl)
  |((refine x9 ?_ ?_);exact rfl)
  |((refine xZ ?_ ?_);exact rfl)
  |((refine DF (λs l=>iG s l e d) ?_);refine⟨_,_,_,rfl,rfl,rfl,λhT _=>?_,λhT=>?_⟩)
  |((refine kJ (d:=d) [] (λl=>hu l) ?_);refine⟨_,_,rfl,rfl,rfl,λy l2 h_y=>?_,λl2 h_y=>?_⟩)
  |refine dm (ex2 15 x y,l2,n-1) ?_ (zf3 hs hI0 ‹isT uw l1=true› h_y) ?_
  |refine dm (ex2 16 x y,l2,n-1) ?_ (zf5 hs hI0 ‹isT uw l1=false› ‹isT pq l1=true› h_y) ?_
  |((refine bD ?_);(have hE:=zf1 hM h_y);(obtain⟨rfl,rfl⟩:=hE);refine aV ?_;refine fin_step' [(1000000,1000000)] rfl ?_ ?_)
  |((refine bD ?_);(have hE:=zf2 hI0 ‹isT uw l1=true› h_y);(obtain⟨rfl,rfl⟩:=hE);refine aV ?_;refine fin_step' [(1000000,1000000)] rfl ?_ ?_)
  |((refine bD ?_);(have hE:=zf4 hI0 ‹isT uw l1=false› ‹isT pq l1=true› h_y);(obtain⟨rfl,rfl⟩:=hE);refine aV ?_;refine fin_step' [(1000000,1000000)] rfl ?_ ?_)
  |((refine jE ?_);(have hE:=zin hI0 ‹isT uw l1=false› ‹isT pq l1=false›);(obtain⟨rfl,rfl⟩:=hE);refine gX ?_;(conv=>whnf);refine fin_step' [(1000000,1000000)] rfl ?_ ?_)
  |exact trivial
  |((refine au.mk 0 ?_);refine⟨lG (λ(q:(Ex)×(List Tk)×(Nat))=>match q with |(x,l1,n)=>[]) (λ(q:(Ex)×(List Tk)×(Nat))=>match q with |(x,l1,n)=>[(3,.cells [.data (.i x.kind),.data (.str x.name),.data (.i x.index),.data (.i x.n),.data (.sl 5 (Ex.css x.l))]),(1000000,pB l1 e d)]) [0,2,3] (λ(q:(Ex)×(List Tk)×(Nat))=>match q with |(x,l1,n)=>LI (Dh u) (o,l') n x l1) (λ(q:(Ex)×(List Tk)×(Nat))=>match q with |(x,l1,n)=>n),?_⟩;refine eH ((y),(l2),(l2.length)) ?_ ?_ (λ⟨x,l1,n⟩ hI0=>?_))
  |refine aI.l _ ?_
  |refine eQ ?_
  |((refine eF ?_ ?_);kernel_rfl)
  |refine And.intro ?_ ?_
  |exact @rfl AV _)
 all_goals first
  |exact zim hM h_y
  |exact z05 hI0 ‹isT uw l1=true›
  |exact z05 hI0 ‹isT pq l1=true›
  |exact zjx x y
theorem TN(u:PM Ex)(e d:Int)(n:Nat)(l:List Tk)(o:Option (Ex))(l':List Tk)(hS:(∀l o l',(Uf u) l=(o,l')->ak Tryz.prog 265 [.ptr 1000000 0] [(1000000,pB l e d)] (kC 186 Ex.d e o l') [(1000000,pB l' e d)]))(hs:Sh u)(hn:l.length<n)(hM:Hl u n l=(o,l')):ak Tryz.prog 255 [.ptr 1000000 0] [(1000000,pB l e d)] (kC 186 Ex.d e o l') [(1000000,pB l' e d)]:=by
 induction n generalizing l o l' with
 |zero=>exact absurd hn (Nat.not_lt_zero _)
 |succ n ih=>?_
 refine aT Tryz.func255 ?_
 repeat' ((try conv=>whnf)<;>first
  |((refine x9 ?_ ?_);exact rfl)
  |((refine xZ ?_ ?_);exact rfl)
  |((refine DF (λs l=>iG s l e d) ?_);refine⟨_,_,_,rfl,rfl,rfl,λhT _=>?_,λhT=>?_⟩)
  |((refine DI (λs l=>iH s l e d) ?_);refine⟨_,_,_,_,rfl,rfl,rfl,rfl,rfl,λhW _=>?_,λhW=>?_⟩)
  |((refine zf7 (d:=d) (λ_=>True) (z5f hs) (λl o l' _=>hS l o l') ?_);refine⟨_,_,rfl,rfl,rfl,trivial,λa l1 h_a _=>?_,λl1 h_a=>?_⟩)
  |((refine zf7 (d:=d) (λl=>l.length<n) (z03 hs n) (λl o l' hl=>ih l o l' hl) ?_);refine⟨_,_,rfl,rfl,rfl,by(simp only[List.length_drop]at *;omega),λc l3 h_c _=>?_,λl3 h_c=>?_⟩)
  |refine wP ?_ ?_ ?_
  |((refine jE ?_);(try simp only[Bool.not_true,Bool.not_false,cond_true,cond_false,bne,Bool.not_eq_true',Bool.not_eq_false']at *);(simp only[Hl,bnd,bz,reduceIte,Bool.false_eq_true, *]at hM);(obtain⟨rfl,rfl⟩:=fG hM);refine gX ?_;(conv=>whnf);refine fin_step' [(1000000,1000000)] rfl ?_ ?_)
  |((refine bD ?_);(try simp only[Bool.not_true,Bool.not_false,cond_true,cond_false,bne,Bool.not_eq_true',Bool.not_eq_false']at *);(simp only[Hl,bnd,bz,reduceIte,Bool.false_eq_true, *]at hM);(obtain⟨rfl,rfl⟩:=fG hM);refine aV ?_;refine fin_step' [(1000000,1000000)] rfl ?_ ?_)
  |exact trivial
  |refine aI.l _ ?_
  |refine And.intro ?_ ?_
  |exact dQ rfl)
 all_goals exact z09
theorem TP(u:PM Ex)(e d:Int)(k:Int)(m:Nat)(l:List Tk)(o:Option (Ex))(l':List Tk)(hE:(∀l o l',(xX u) l=(o,l')->ak Tryz.prog 255 [.ptr 1000000 0] [(1000000,pB l e d)] (kC 186 Ex.d e o l') [(1000000,pB l' e d)]))(hs:Sh u)(hm:m<=2)(hM:rQ u k m false l=(o,l')):ak Tryz.prog 279 [.ptr 1000000 0,.data (.i k),.data (.i (m:Int)),.data (.b false)] [(1000000,pB l e d)] (kC 186 Ex.d e o l') [(1000000,pB l' e d)]:=by
 refine aT Tryz.func279 ?_
 repeat' ((try conv=>whnf)<;>first
  |((refine bK _ _ _ [true,true,true,true] ?_ ?_ ?_);exact rfl;kernel_rfl)
  |((refine quiet_step ?_ ?_);kernel_rfl)
  |((refine xZ ?_ ?_);exact rfl)
  |((refine DI (λs l=>iH s l e d) ?_);refine⟨_,_,_,_,rfl,rfl,rfl,rfl,rfl,λhW _=>?_,λhW=>?_⟩)
  |((refine kJ (d:=d) [] (λl=>hE l) ?_);refine⟨_,_,rfl,rfl,rfl,λx l2 h_x=>?_,λl2 h_x=>?_⟩)
  |refine dm (i+1,xs++[x],l2,j-1) ?_ (z5g hI0 ‹decide ((i:Int)<(m:Int))=true› ‹decide ((i:Int)>0)=true› ‹isT fE l1=true› h_x) (QA hI0 ‹decide ((i:Int)<(m:Int))=true›)
  |refine dm (i+1,xs++[x],l2,j-1) ?_ (z5h hI0 ‹decide ((i:Int)<(m:Int))=true› ‹decide ((i:Int)>0)=false› h_x) (QA hI0 ‹decide ((i:Int)<(m:Int))=true›)
  |((refine bD ?_);(have hE:=XP hM ‹isT Tf l=false›);(obtain⟨rfl,rfl⟩:=hE);refine aV ?_;refine fin_step' [(1000000,1000000)] rfl ?_ ?_)
  |((refine bD ?_);(have hE:=z5i hI0 ‹decide ((i:Int)<(m:Int))=true› ‹decide ((i:Int)>0)=true› ‹isT fE l1=false›);(obtain⟨rfl,rfl⟩:=hE);refine aV ?_;refine fin_step' [(1000000,1000000)] rfl ?_ ?_)
  |((refine bD ?_);(have hE:=z5j hI0 ‹decide ((i:Int)<(m:Int))=true› ‹decide ((i:Int)>0)=true› ‹isT fE l1=true› h_x);(obtain⟨rfl,rfl⟩:=hE);refine aV ?_;refine fin_step' [(1000000,1000000)] rfl ?_ ?_)
  |((refine bD ?_);(have hE:=z5k hI0 ‹decide ((i:Int)<(m:Int))=true› ‹decide ((i:Int)>0)=false› h_x);(obtain⟨rfl,rfl⟩:=hE);refine aV ?_;refine fin_step' [(1000000,1000000)] rfl ?_ ?_)
  |((refine bD ?_);(have hE:=z5m hI0 ‹decide ((i:Int)<(m:Int))=false› ‹isT z01 l1=false›);(obtain⟨rfl,rfl⟩:=hE);refine aV ?_;refine fin_step' [(1000000,1000000)] rfl ?_ ?_)
  |((refine jE ?_);(have hE:=z5l hI0 ‹decide ((i:Int)<(m:Int))=false› ‹isT z01 l1=true›);(obtain⟨rfl,rfl⟩:=hE);refine gX ?_;(conv=>whnf);refine fin_step' [(1000000,1000000)] rfl ?_ ?_)
  |exact trivial
  |refine BrI.intro (λh=>?_) (λh=>?_)
  |((refine au.mk 0 ?_);refine⟨lG (λ(q:(Nat)×(List Ex)×(List Tk)×(Nat))=>match q with |(i,xs,l1,j)=>[(23,.data (.val (.int .i64 (i:Nat))))]) (λ(q:(Nat)×(List Ex)×(List Tk)×(Nat))=>match q with |(i,xs,l1,j)=>[(8,.cells [.data (.i k),.data (.str []),.data (.i 0),.data (.i 0),.gs 900008 5 (xs.map Ex.cs)]),(900008,.tok 5 (xs.map Ex.cs).length),(1000000,pB l1 e d)]) [0,8,22] (λ(q:(Nat)×(List Ex)×(List Tk)×(Nat))=>match q with |(i,xs,l1,j)=>AI u k [] (o,l') m i j xs l1) (λ(q:(Nat)×(List Ex)×(List Tk)×(Nat))=>match q with |(i,xs,l1,j)=>j),?_⟩;refine eH ((0),([]),(l.drop 1),(m)) ?_ ?_ (λ⟨i,xs,l1,j⟩ hI0=>?_))
  |refine aI.l _ ?_
  |((refine bY ?_ ?_ ?_ ?_ ?_ ?_)<;>exact rfl)
  |((refine di ?_ ?_ ?_ ?_)<;>exact rfl)
  |refine wP ?_ ?_ ?_
  |refine eQ ?_
  |((refine eF ?_ ?_);kernel_rfl)
  |refine And.intro ?_ ?_
  |((refine mZ ?_ ?_ ?_);exact rfl;exact rfl;(first |exact bC |skip))
  |((refine gy ?_ ?_);exact rfl;(first |exact bC |skip))
  |exact @rfl AV _
  |exact dQ rfl)
 all_goals first
  |exact zar hM ‹isT Tf l=true›
  |exact QC (z5o ‹decide ((i:Int)<(m:Int))=true› hm)
  |exact XQ hI0 hm
  |exact XR
theorem Ye(u:PM Ex)(e d:Int)(k:Int)(m:Nat)(l:List Tk)(o:Option (Ex))(l':List Tk)(hE:(∀l o l',(xX u) l=(o,l')->ak Tryz.prog 255 [.ptr 1000000 0] [(1000000,pB l e d)] (kC 186 Ex.d e o l') [(1000000,pB l' e d)]))(hs:Sh u)(hm:m<=2)(hM:rQ u k m true l=(o,l')):ak Tryz.prog 279 [.ptr 1000000 0,.data (.i k),.data (.i (m:Int)),.data (.b true)] [(1000000,pB l e d)] (kC 186 Ex.d e o l') [(1000000,pB l' e d)]:=by
 refine aT Tryz.func279 ?_
 repeat' ((try conv=>whnf)<;>first
  |((refine bK _ _ _ [true,true,true,true] ?_ ?_ ?_);exact rfl;kernel_rfl)
  |((refine quiet_step ?_ ?_);kernel_rfl)
  |((refine x9 ?_ ?_);exact rfl)
  |((refine DI (λs l=>iH s l e d) ?_);refine⟨_,_,_,_,rfl,rfl,rfl,rfl,rfl,λhW _=>?_,λhW=>?_⟩)
  |((refine kJ (d:=d) [] (λl=>jX l e d) ?_);refine⟨_,_,rfl,rfl,rfl,λs1 l1 h_s=>?_,λl1 h_s=>?_⟩)
  |((refine kJ (d:=d) [] (λl=>hE l) ?_);refine⟨_,_,rfl,rfl,rfl,λx l2 h_x=>?_,λl2 h_x=>?_⟩)
  |refine dm (i+1,xs++[x],l2,j-1) ?_ (z5g hI0 ‹decide ((i:Int)<(m:Int))=true› ‹decide ((i:Int)>0)=true› ‹isT fE l1=true› h_x) (QA hI0 ‹decide ((i:Int)<(m:Int))=true›)
  |refine dm (i+1,xs++[x],l2,j-1) ?_ (z5h hI0 ‹decide ((i:Int)<(m:Int))=true› ‹decide ((i:Int)>0)=false› h_x) (QA hI0 ‹decide ((i:Int)<(m:Int))=true›)
  |((refine bD ?_);(have hE:=XP hM ‹isT Tf l=false›);(obtain⟨rfl,rfl⟩:=hE);refine aV ?_;refine fin_step' [(1000000,1000000)] rfl ?_ ?_)
  |((refine bD ?_);(have hE:=zat hM ‹isT Tf l=true› h_s);(obtain⟨rfl,rfl⟩:=hE);refine aV ?_;refine fin_step' [(1000000,1000000)] rfl ?_ ?_)
  |((refine bD ?_);(have hE:=zau hM ‹isT Tf l=true› h_s ‹isT fE l1=false›);(obtain⟨rfl,rfl⟩:=hE);refine aV ?_;refine fin_step' [(1000000,1000000)] rfl ?_ ?_)
  |((refine bD ?_);(have hE:=z5i hI0 ‹decide ((i:Int)<(m:Int))=true› ‹decide ((i:Int)>0)=true› ‹isT fE l1=false›);(obtain⟨rfl,rfl⟩:=hE);refine aV ?_;refine fin_step' [(1000000,1000000)] rfl ?_ ?_)
  |((refine bD ?_);(have hE:=z5j hI0 ‹decide ((i:Int)<(m:Int))=true› ‹decide ((i:Int)>0)=true› ‹isT fE l1=true› h_x);(obtain⟨rfl,rfl⟩:=hE);refine aV ?_;refine fin_step' [(1000000,1000000)] rfl ?_ ?_)
  |((refine bD ?_);(have hE:=z5k hI0 ‹decide ((i:Int)<(m:Int))=true› ‹decide ((i:Int)>0)=false› h_x);(obtain⟨rfl,rfl⟩:=hE);refine aV ?_;refine fin_step' [(1000000,1000000)] rfl ?_ ?_)
  |((refine bD ?_);(have hE:=z5m hI0 ‹decide ((i:Int)<(m:Int))=false› ‹isT z01 l1=false›);(obtain⟨rfl,rfl⟩:=hE);refine aV ?_;refine fin_step' [(1000000,1000000)] rfl ?_ ?_)
  |((refine jE ?_);(have hE:=z5l hI0 ‹decide ((i:Int)<(m:Int))=false› ‹isT z01 l1=true›);(obtain⟨rfl,rfl⟩:=hE);refine gX ?_;(conv=>whnf);refine fin_step' [(1000000,1000000)] rfl ?_ ?_)
  |exact trivial
  |refine BrI.intro (λh=>?_) (λh=>?_)
  |((refine au.mk 0 ?_);refine⟨lG (λ(q:(Nat)×(List Ex)×(List Tk)×(Nat))=>match q with |(i,xs,l1,j)=>[(23,.data (.val (.int .i64 (i:Nat))))]) (λ(q:(Nat)×(List Ex)×(List Tk)×(Nat))=>match q with |(i,xs,l1,j)=>[(8,.cells [.data (.i k),.data (.str s1),.data (.i 0),.data (.i 0),.gs 900008 5 (xs.map Ex.cs)]),(900008,.tok 5 (xs.map Ex.cs).length),(1000000,pB l1 e d)]) [0,8,22] (λ(q:(Nat)×(List Ex)×(List Tk)×(Nat))=>match q with |(i,xs,l1,j)=>AI u k s1 (o,l') m i j xs l1) (λ(q:(Nat)×(List Ex)×(List Tk)×(Nat))=>match q with |(i,xs,l1,j)=>j),?_⟩;refine eH ((0),([]),(l1.drop 1),(m)) ?_ ?_ (λ⟨i,xs,l1,j⟩ hI0=>?_))
  |refine aI.l _ ?_
  |((refine bY ?_ ?_ ?_ ?_ ?_ ?_)<;>exact rfl)
  |((refine di ?_ ?_ ?_ ?_)<;>exact rfl)
  |refine wP ?_ ?_ ?_
  |refine eQ ?_
  |((refine eF ?_ ?_);kernel_rfl)
  |refine And.intro ?_ ?_
  |((refine mZ ?_ ?_ ?_);exact rfl;exact rfl;(first |exact bC |skip))
  |((refine gy ?_ ?_);exact rfl;(first |exact bC |skip))
  |exact @rfl AV _
  |exact dQ rfl)
 all_goals first
  |exact zas hM ‹isT Tf l=true› h_s ‹isT fE l1=true›
  |exact QC (z5o ‹decide ((i:Int)<(m:Int))=true› hm)
  |exact XQ hI0 hm
  |exact XR
theorem rG(l:List Tk)(e d:Int)(p:Option D)(thr:Bool)(hp:thr=true\/p=none):nK Tryz.prog 277 [.ptr 1000000 0] p thr [(1000000,.cells [.ptr 1000001 0]),(1000001,pB l e d)] [(1000000,.cells [.ptr 1000001 0]),(1000001,pB l e (IntKind.i64.wrap (d-1)))]:=by
 refine IV tok hmix Tryz.func277 rfl (by kernel_rfl) (by kernel_rfl) (by kernel_rfl) hp ?_
 repeat' ((try conv=>whnf)<;>first
  |exact trivial
  |refine⟨([]:List (Nat×Nat)),?_⟩
  |refine⟨by kernel_rfl,?_⟩
  |refine⟨rfl,?_⟩
  |refine⟨?_,?_⟩)
theorem DN   : ak Tryz.prog 278 [] [] (.ret (.map 1000000)) [(1000000,.map false [.str] (zfy.map zjy))]:=by
 refine aT Tryz.func278 ?_
 repeat' ((try conv=>whnf)<;>first
  |exact trivial
  |((refine bg ?_);refine fin_step' [(1000000,1)] rfl ?_ ?_)
  |refine And.intro ?_ ?_
  |exact @rfl AV _
  |exact @rfl Block _)
 all_goals rfl
theorem Yf(e d:Int)(l:List Tk)(o:Option (Ex))(l':List Tk)(hd0:0<=d)(hd1:d<=63)(hdp:d=63)(hM:Cc none l=(o,l')):ak Tryz.prog 276 [.ptr 1000000 0] [(1000000,pB l e d)] (kC 186 Ex.d e o l') [(1000000,pB l' e d)]:=by
 refine aT Tryz.func276 ?_
 repeat' ((try conv=>whnf)<;>first
  |((refine x9 ?_ ?_);exact rfl)
  |((refine xZ ?_ ?_);exact rfl)
  |((refine DF (λs l=>iG s l e (IntKind.i64.wrap (d+1))) ?_);refine⟨_,_,_,rfl,rfl,rfl,λhT _=>?_,λhT=>?_⟩)
  |((refine JV (λl=>jW l e d) ?_);refine⟨_,_,rfl,rfl,rfl,?_⟩)
  |((refine JV (λl=>jW l e (IntKind.i64.wrap (d+1))) ?_);refine⟨_,_,rfl,rfl,rfl,?_⟩)
  |((refine XL (d:=(IntKind.i64.wrap (d+1))) lM (λl=>(hd l).n) XJ (λl=>iR l e (IntKind.i64.wrap (d+1))) ?_);refine⟨_,_,rfl,rfl,rfl,λ_=>?_,λhN=>absurd (h.symm.trans hN) Bool.noConfusion⟩)
  |((refine XL (d:=(IntKind.i64.wrap (d+1))) z02 (λl=>(hd l).text) XK (λl=>jX l e (IntKind.i64.wrap (d+1))) ?_);refine⟨_,_,rfl,rfl,rfl,λ_=>?_,λhN=>absurd (h.symm.trans hN) Bool.noConfusion⟩)
  |exact absurd h (zaw hdp)
  |((refine NL ?_);(try simp only[Bool.not_true,Bool.not_false,cond_true,cond_false,bne,Bool.not_eq_true',Bool.not_eq_false']at *);(simp only[Cc,bnd,bz,reduceIte,Bool.false_eq_true, *]at hM);(obtain⟨rfl,rfl⟩:=fG hM);refine⟨_,_,_,[(1000000,1),(1000001,1000000)],rG _ _ _ none false (.inr rfl),rfl,⟨rfl,rfl,trivial⟩,rfl,?_⟩;(conv=>whnf);refine fin_step' [(1000000,1000000)] rfl ?_ ?_)
  |((refine bD ?_);(have hE:=QD hM h);(obtain⟨rfl,rfl⟩:=hE);refine aV ?_;refine fin_step' [(1000000,1000000)] rfl ?_ ?_)
  |((refine QE ?_);(try simp only[Bool.not_true,Bool.not_false,cond_true,cond_false,bne,Bool.not_eq_true',Bool.not_eq_false']at *);(simp only[Cc,bnd,bz,reduceIte,Bool.false_eq_true, *]at hM);(obtain⟨rfl,rfl⟩:=fG hM);(refine Eh.pan rfl rfl ?_);refine⟨_,_,_,[(1000000,1),(1000001,1000000)],rG _ _ _ _ true (.inl rfl),rfl,⟨rfl,rfl,trivial⟩,rfl,?_⟩;(refine dB ?_);refine fin_step' [(1000000,1000000)] rfl ?_ ?_)
  |exact trivial
  |refine BrI.intro (λh=>?_) (λh=>?_)
  |((refine dE ?_ ?_);exact rfl)
  |((refine dU ?_ ?_ ?_);rotate_left;(first |exact jq _ _ _ |exact uD _ _ _))
  |refine And.intro ?_ ?_)
 all_goals first
  |rfl
  |exact congrArg D.i (JX hd0 hd1)
theorem Yg(u:PM Ex)(e d:Int)(l:List Tk)(o:Option (Ex))(l':List Tk)(hd0:0<=d)(hd1:d<=63)(hdp:d<63)(hu:(∀l o l',u l=(o,l')->ak Tryz.prog 276 [.ptr 1000000 0] [(1000000,pB l e (IntKind.i64.wrap (d+1)))] (kC 186 Ex.d e o l') [(1000000,pB l' e (IntKind.i64.wrap (d+1)))]))(hE:(∀l o l',(xX u) l=(o,l')->ak Tryz.prog 255 [.ptr 1000000 0] [(1000000,pB l e (IntKind.i64.wrap (d+1)))] (kC 186 Ex.d e o l') [(1000000,pB l' e (IntKind.i64.wrap (d+1)))]))(hA:∀(k n:Int) (b:Bool),0<=n->n<=2->(∀l o l',rQ u k n.toNat b l=(o,l')->ak Tryz.prog 279 [.ptr 1000000 0,.data (.i k),.data (.i n),.data (.b b)] [(1000000,pB l e (IntKind.i64.wrap (d+1)))] (kC 186 Ex.d e o l') [(1000000,pB l' e (IntKind.i64.wrap (d+1)))]))(hM:Cc (some u) l=(o,l')):ak Tryz.prog 276 [.ptr 1000000 0] [(1000000,pB l e d)] (kC 186 Ex.d e o l') [(1000000,pB l' e d)]:=by
 refine aT Tryz.func276 ?_
 repeat' ((try conv=>whnf)<;>first
  |((refine x9 ?_ ?_);exact rfl)
  |((refine xZ ?_ ?_);exact rfl)
  |((refine DF (λs l=>iG s l e (IntKind.i64.wrap (d+1))) ?_);refine⟨_,_,_,rfl,rfl,rfl,λhT _=>?_,λhT=>?_⟩)
  |((refine DI (λs l=>iH s l e (IntKind.i64.wrap (d+1))) ?_);refine⟨_,_,_,_,rfl,rfl,rfl,rfl,rfl,λhW _=>?_,λhW=>?_⟩)
  |((refine JV (λl=>jW l e d) ?_);refine⟨_,_,rfl,rfl,rfl,?_⟩)
  |((refine JV (λl=>jW l e (IntKind.i64.wrap (d+1))) ?_);refine⟨_,_,rfl,rfl,rfl,?_⟩)
  |((refine XL (d:=(IntKind.i64.wrap (d+1))) lM (λl=>(hd l).n) XJ (λl=>iR l e (IntKind.i64.wrap (d+1))) ?_);refine⟨_,_,rfl,rfl,rfl,λ_=>?_,λhN=>absurd (h.symm.trans hN) Bool.noConfusion⟩)
  |((refine XL (d:=(IntKind.i64.wrap (d+1))) z02 (λl=>(hd l).text) XK (λl=>jX l e (IntKind.i64.wrap (d+1))) ?_);refine⟨_,_,rfl,rfl,rfl,λ_=>?_,λhN=>absurd (h.symm.trans hN) Bool.noConfusion⟩)
  |((refine kJ (d:=(IntKind.i64.wrap (d+1))) [] (λl=>hu l) ?_);refine⟨_,_,rfl,rfl,rfl,λx l1 h_x=>?_,λl1 h_x=>?_⟩)
  |((refine kJ (d:=(IntKind.i64.wrap (d+1))) [] (λl=>hE l) ?_);refine⟨_,_,rfl,rfl,rfl,λx l1 h_x=>?_,λl1 h_x=>?_⟩)
  |((refine lentP' (d:=(IntKind.i64.wrap (d+1))) (zf6 (.i f.1) (.i f.2.1) (.b f.2.2)) (λl o l' h=>hA f.1 f.2.1 f.2.2 (z5n he).1 (z5n he).2 l o l' h) ?_);refine⟨_,_,l.drop 1,rfl,rfl,z06,rfl,λx l1 h_x=>?_,λl1 h_x=>?_⟩)
  |exact absurd h (z1b hd0 hdp)
  |((refine NL ?_);(try simp only[Bool.not_true,Bool.not_false,cond_true,cond_false,bne,Bool.not_eq_true',Bool.not_eq_false']at *);(simp only[Cc,bnd,bz,reduceIte,Bool.false_eq_true, *]at hM);(obtain⟨rfl,rfl⟩:=fG hM);refine⟨_,_,_,[(1000000,1),(1000001,1000000)],rG _ _ _ none false (.inr rfl),rfl,⟨rfl,rfl,trivial⟩,rfl,?_⟩;(conv=>whnf);refine fin_step' [(1000000,1000000)] rfl ?_ ?_)
  |((refine bD ?_);(have hE:=QD hM h);(obtain⟨rfl,rfl⟩:=hE);refine aV ?_;refine fin_step' [(1000000,1000000)] rfl ?_ ?_)
  |((refine QE ?_);(try simp only[Bool.not_true,Bool.not_false,cond_true,cond_false,bne,Bool.not_eq_true',Bool.not_eq_false']at *);(simp only[Cc,bnd,bz,reduceIte,Bool.false_eq_true, *]at hM);(obtain⟨rfl,rfl⟩:=fG hM);(refine Eh.pan rfl rfl ?_);refine⟨_,_,_,[(1000000,1),(1000001,1000000)],rG _ _ _ _ true (.inl rfl),rfl,⟨rfl,rfl,trivial⟩,rfl,?_⟩;(refine dB ?_);refine fin_step' [(1000000,1000000)] rfl ?_ ?_)
  |exact trivial
  |refine BrI.intro (λh=>?_) (λh=>?_)
  |refine QB zfy (λf he=>?_) (λhe=>?_)
  |((refine sO ?_ ?_ ?_ ?_);exact⟨rfl,rfl⟩;exact rfl;(exact emp_len' ‹(((l.map Tk.cs).length:Int)==0)=false›))
  |((refine rE ?_ ?_ ?_);exact⟨rfl,rfl⟩;exact zhm (emp_len' ‹(((l.map Tk.cs).length:Int)==0)=false›))
  |((refine dE ?_ ?_);exact rfl)
  |((refine dU ?_ ?_ ?_);rotate_left;(first |exact jq _ _ _ |exact uD _ _ _))
  |((refine fM [(1000000,800000)] (DN) ?_ ?_ ?_ ?_);rotate_left 0;exact rfl;exact trivial;exact rfl)
  |refine aI.l _ ?_
  |((refine aK ?_ ?_ (λhg=>?_) ?_);exact rfl)
  |((refine aY ?_ ?_);exact rfl;exact rfl)
  |refine eQ ?_
  |refine And.intro ?_ ?_)
 all_goals first
  |rfl
  |exact congrArg D.i (JX hd0 hd1)
  |exact z1a
end Go.Proofs.YtgehpmgkaeohaaaGreatDoor
namespace Go.Proofs.YtgehpmgkaeohaaaGreatDoor
open Go.Fw Go.Fw.Lx Go.Fw.Sy
set_option maxRecDepth 10000
variable [ae] {u : PM Ex} {e d : Int}
theorem TQ(hu:∀l o l',u l=(o,l')->ak Tryz.prog 276 [.ptr 1000000 0] [(1000000,pB l e d)] (kC 186 Ex.d e o l') [(1000000,pB l' e d)])(hs:Sh u):∀l o l',(prodM u) l=(o,l')->ak Tryz.prog 273 [.ptr 1000000 0] [(1000000,pB l e d)] (kC 186 Ex.d e o l') [(1000000,pB l' e d)]:=λl o l' h=>KD u e d l o l' hu hs h
theorem zg7(hu:∀l o l',u l=(o,l')->ak Tryz.prog 276 [.ptr 1000000 0] [(1000000,pB l e d)] (kC 186 Ex.d e o l') [(1000000,pB l' e d)])(hs:Sh u):∀l o l',(Uf u) l=(o,l')->ak Tryz.prog 265 [.ptr 1000000 0] [(1000000,pB l e d)] (kC 186 Ex.d e o l') [(1000000,pB l' e d)]:=λl o l' h=>z2e u e d l o l' (TQ hu hs) hs h
theorem H6(hu:∀l o l',u l=(o,l')->ak Tryz.prog 276 [.ptr 1000000 0] [(1000000,pB l e d)] (kC 186 Ex.d e o l') [(1000000,pB l' e d)])(hs:Sh u):∀l o l',(xX u) l=(o,l')->ak Tryz.prog 255 [.ptr 1000000 0] [(1000000,pB l e d)] (kC 186 Ex.d e o l') [(1000000,pB l' e d)]:=λl o l' h=>TN u e d (l.length+1) l o l' (zg7 hu hs) hs (Nat.lt_succ_self _) h
theorem Gi(hu:∀l o l',u l=(o,l')->ak Tryz.prog 276 [.ptr 1000000 0] [(1000000,pB l e d)] (kC 186 Ex.d e o l') [(1000000,pB l' e d)])(hs:Sh u)(k n:Int)(b:Bool)(h0:0<=n)(h2:n<=2):∀l o l',rQ u k n.toNat b l=(o,l')->ak Tryz.prog 279 [.ptr 1000000 0,.data (.i k),.data (.i n),.data (.b b)] [(1000000,pB l e d)] (kC 186 Ex.d e o l') [(1000000,pB l' e d)]:=by
 intro l o l' h
 have hn:((n.toNat:Nat):Int)=n:=Int.toNat_of_nonneg h0
 cases b with
 |false=>have:=TP u e d k n.toNat l o l' (H6 hu hs) hs (by omega) h;rwa[hn]at this
 |true=>have:=Ye u e d k n.toNat l o l' (H6 hu hs) hs (by omega) h;rwa[hn]at this
theorem KE(e:Int):∀(k:Nat) (d:Int),0<=d->d+k=63->∀l o l',(Ti k) l=(o,l')->ak Tryz.prog 276 [.ptr 1000000 0] [(1000000,pB l e d)] (kC 186 Ex.d e o l') [(1000000,pB l' e d)]
 | 0,d,h0,hk,l,o,l',h=>Yf e d l o l' h0 (by omega) (by omega) h
 |k+1,d,h0,hk,l,o,l',h=>by
  have hd:IntKind.i64.wrap (d+1)=d+1:=zav h0 (by omega)
  have ih:=KE e k (IntKind.i64.wrap (d+1)) (by omega) (by omega)
  exact Yg (Ti k) e d l o l' h0 (by omega) (by omega) ih (H6 ih (Ci k)) (λk n b h0 h2=>Gi ih (Ci _) k n b h0 h2) h
theorem Yh(e:Int):∀l o l',(xX (Ti 63)) l=(o,l')->ak Tryz.prog 255 [.ptr 1000000 0] [(1000000,pB l e 0)] (kC 186 Ex.d e o l') [(1000000,pB l' e 0)]:=H6 (KE e 63 0 (by omega) (by omega)) (Ci 63)
theorem CS(l:List Tk)(e d:Int)(o:Option (Int×Int))(l':List Tk)(hM:dV l=(o,l')):ak Tryz.prog 234 [.ptr 1000000 0] [(1000000,pB l e d)] (kC 186 (λb:Int×Int=>.tuple [.i b.1,.i b.2]) e o l') [(1000000,pB l' e d)]:=by
 refine aT Tryz.func234 ?_
 repeat' ((try conv=>whnf)<;>first
  |((refine DI (λs l=>iH s l e d) ?_);refine⟨_,_,_,_,rfl,rfl,rfl,rfl,rfl,λhW _=>?_,λhW=>?_⟩)
  |((refine kJ (d:=d) [] (λl=>yN l e d) ?_);refine⟨_,_,rfl,rfl,rfl,λn l1 h_n=>?_,λl1 h_n=>?_⟩)
  |((refine jE ?_);(try simp only[Bool.not_true,Bool.not_false,cond_true,cond_false,bne,Bool.not_eq_true',Bool.not_eq_false']at *);(simp only[dV,bnd,bz,reduceIte,Bool.false_eq_true, *]at hM);(obtain⟨rfl,rfl⟩:=fG hM);refine gX ?_;(conv=>whnf);refine fin_step' [(1000000,1000000)] rfl ?_ ?_)
  |((refine bD ?_);(try simp only[Bool.not_true,Bool.not_false,cond_true,cond_false,bne,Bool.not_eq_true',Bool.not_eq_false']at *);(simp only[dV,bnd,bz,reduceIte,Bool.false_eq_true, *]at hM);(obtain⟨rfl,rfl⟩:=fG hM);refine aV ?_;refine fin_step' [(1000000,1000000)] rfl ?_ ?_)
  |exact trivial
  |refine aI.l _ ?_
  |refine And.intro ?_ ?_)
theorem Fh(l:List Tk)(e d:Int)(o:Option (Bd))(l':List Tk)(hM:E5 l=(o,l')):ak Tryz.prog 233 [.ptr 1000000 0] [(1000000,pB l e d)] (kC 186 (λb:Bd=>.agg b.cs) e o l') [(1000000,pB l' e d)]:=by
 refine aT Tryz.func233 ?_
 repeat' ((try conv=>whnf)<;>first
  |((refine kJ (d:=d) [] (λl=>jX l e d) ?_);refine⟨_,_,rfl,rfl,rfl,λs l1 h_s=>?_,λl1 h_s=>?_⟩)
  |((refine kJ (d:=d) [] (λl=>CS l e d) ?_);refine⟨_,_,rfl,rfl,rfl,λb l2 h_b=>?_,λl2 h_b=>?_⟩)
  |((refine jE ?_);(try simp only[Bool.not_true,Bool.not_false,cond_true,cond_false,bne,Bool.not_eq_true',Bool.not_eq_false']at *);(simp only[E5,bnd,reduceIte,Bool.false_eq_true, *]at hM);(obtain⟨rfl,rfl⟩:=fG hM);refine gX ?_;(conv=>whnf);refine fin_step' [(1000000,1000000)] rfl ?_ ?_)
  |((refine bD ?_);(try simp only[Bool.not_true,Bool.not_false,cond_true,cond_false,bne,Bool.not_eq_true',Bool.not_eq_false']at *);(simp only[E5,bnd,reduceIte,Bool.false_eq_true, *]at hM);(obtain⟨rfl,rfl⟩:=fG hM);refine aV ?_;refine fin_step' [(1000000,1000000)] rfl ?_ ?_)
  |exact trivial
  |refine And.intro ?_ ?_)
theorem Yi(l:List Tk)(e d:Int)(o:Option (List Int))(l':List Tk)(hl:l.length<=1073741823)(hM:NH l=(o,l')):ak Tryz.prog 235 [.ptr 1000000 0,.fn 236 []] [(1000000,pB l e d)] (kC 186 (λl:List Int=>ints l) e o l') [(1000000,pB l' e d)]:=by
 refine aT Tryz.func235 ?_
 repeat' ((try conv=>whnf)<;>first
  |((refine x9 ?_ ?_);exact rfl)
  |((refine xZ ?_ ?_);exact rfl)
  |((refine DF (λs l=>iG s l e d) ?_);refine⟨_,_,_,rfl,rfl,rfl,λhT _=>?_,λhT=>?_⟩)
  |((refine kJ (d:=d) [] (λl=>yN l e d) ?_);refine⟨_,_,rfl,rfl,rfl,λv l2 h_v=>?_,λl2 h_v=>?_⟩)
  |refine dm (n-1,vs++[v],l2) ?_ (zge hI0 ‹isT fE l1=true› h_v) (zaz hI0 ‹isT fE l1=true›)
  |((refine bD ?_);(have hE:=zax hM h_v);(obtain⟨rfl,rfl⟩:=hE);refine aV ?_;refine fin_step' [(1000000,1000000)] rfl ?_ ?_)
  |((refine bD ?_);(have hE:=zay hI0 ‹isT fE l1=true› h_v);(obtain⟨rfl,rfl⟩:=hE);refine aV ?_;refine fin_step' [(1000000,1000000)] rfl ?_ ?_)
  |((refine jE ?_);(have hE:=zgd hI0 ‹isT fE l1=false›);(obtain⟨rfl,rfl⟩:=hE);refine gX ?_;(conv=>whnf);refine fin_step' [(1000000,1000000)] rfl ?_ ?_)
  |exact trivial
  |((refine au.mk 0 ?_);refine⟨lG (λ(q:(Nat)×(List Int)×(List Tk))=>match q with |(n,vs,l1)=>[(5,.gs 9 1 (vs.map z3p))]) (λ(q:(Nat)×(List Int)×(List Tk))=>match q with |(n,vs,l1)=>[(1000000,pB l1 e d),(9,.tok 1 (vs.map z3p).length)]) [0,1] (λ(q:(Nat)×(List Int)×(List Tk))=>match q with |(n,vs,l1)=>LsI (o,l') n vs l1) (λ(q:(Nat)×(List Int)×(List Tk))=>match q with |(n,vs,l1)=>n),?_⟩;refine eH ((l2.length),([v]),(l2)) ?_ ?_ (λ⟨n,vs,l1⟩ hI0=>?_))
  |refine aI.l _ ?_
  |refine wP ?_ ?_ ?_
  |refine And.intro ?_ ?_
  |((refine mZ ?_ ?_ ?_);exact rfl;exact rfl;(first |exact bC |exact rfl |skip))
  |((refine gy ?_ ?_);exact rfl;(first |exact bC |skip))
  |exact @rfl AV _
  |exact @rfl Block _
  |exact dQ rfl)
 all_goals first
  |exact zgc hl hM h_v
  |exact z1c hI0
theorem Fj(e:Int)(l:List Tk)(p:Pr)(ok:Bool)(p':Pr)(l':List Tk)(hz:Sz p l)(hM:E8 p l=(ok,p',l')):ak Tryz.prog 193 [.ptr 1000000 0,.ptr 1000001 0] [(1000000,pB l e 0),(1000001,xB p),(1000002,.tok 3 (p.params.map Bd.cs).length),(1000003,.tok 3 (p.states.map Bd.cs).length),(1000004,.tok 4 (p.lines.map Ln.cs).length),(1000005,.tok 2 (p.tables.map Tb.cs).length),(1000006,.tok 8 (p.stmts.map Sm.cs).length)] (JY 186 e ok l') [(1000000,pB l' e 0),(1000001,xB p'),(1000002,.tok 3 (p'.params.map Bd.cs).length),(1000003,.tok 3 (p'.states.map Bd.cs).length),(1000004,.tok 4 (p'.lines.map Ln.cs).length),(1000005,.tok 2 (p'.tables.map Tb.cs).length),(1000006,.tok 8 (p'.stmts.map Sm.cs).length)]:=by
 refine aT Tryz.func193 ?_
 repeat' ((try conv=>whnf)<;>first
  |((refine bK _ _ _ [true,true,true,true,true] ?_ ?_ ?_);exact rfl;kernel_rfl)
  |((refine quiet_step ?_ ?_);kernel_rfl)
  |((refine kJ (d:=0) [] (λl=>Fh l e 0) ?_);refine⟨_,_,rfl,rfl,rfl,λb l1 h_b=>?_,λl1 h_b=>?_⟩)
  |((refine uz ?_);(try simp only[Bool.not_true,Bool.not_false,cond_true,cond_false,bne,Bool.not_eq_true',Bool.not_eq_false']at *);(simp only[E8,itB,reduceIte,Bool.false_eq_true, *]at hM);(obtain⟨rfl,rfl,rfl⟩:=lU hM);refine lT ?_;(conv=>whnf);refine fin_step' [(1000000,1000000),(1000001,1000001),(1000002,1000002),(1000003,1000003),(1000004,1000004),(1000005,1000005),(1000006,1000006)] rfl ?_ ?_)
  |((refine yc ?_);(try simp only[Bool.not_true,Bool.not_false,cond_true,cond_false,bne,Bool.not_eq_true',Bool.not_eq_false']at *);(simp only[E8,itB,reduceIte,Bool.false_eq_true, *]at hM);(obtain⟨rfl,rfl,rfl⟩:=lU hM);refine nT ?_;refine fin_step' [(1000000,1000000),(1000001,1000001),(1000002,1000002),(1000003,1000003),(1000004,1000004),(1000005,1000005),(1000006,1000006)] rfl ?_ ?_)
  |exact trivial
  |refine aI.l _ ?_
  |refine wP ?_ ?_ ?_
  |refine eQ ?_
  |((refine eF ?_ ?_);kernel_rfl)
  |refine And.intro ?_ ?_
  |((refine gy ?_ ?_);exact rfl;(first |exact bC |skip))
  |(refine Zu ?_;first |exact rfl |skip)
  |exact dQ rfl)
 all_goals first
  |exact qJ rfl
  |(rw[List.length_map];first |(have:=hz.a;omega) |(have:=hz.b;omega) |(have:=hz.c;omega) |(have:=hz.d;omega) |(have:=hz.e;omega))
theorem Fp(e:Int)(l:List Tk)(p:Pr)(ok:Bool)(p':Pr)(l':List Tk)(hz:Sz p l)(hM:Fa p l=(ok,p',l')):ak Tryz.prog 194 [.ptr 1000000 0,.ptr 1000001 0] [(1000000,pB l e 0),(1000001,xB p),(1000002,.tok 3 (p.params.map Bd.cs).length),(1000003,.tok 3 (p.states.map Bd.cs).length),(1000004,.tok 4 (p.lines.map Ln.cs).length),(1000005,.tok 2 (p.tables.map Tb.cs).length),(1000006,.tok 8 (p.stmts.map Sm.cs).length)] (JY 186 e ok l') [(1000000,pB l' e 0),(1000001,xB p'),(1000002,.tok 3 (p'.params.map Bd.cs).length),(1000003,.tok 3 (p'.states.map Bd.cs).length),(1000004,.tok 4 (p'.lines.map Ln.cs).length),(1000005,.tok 2 (p'.tables.map Tb.cs).length),(1000006,.tok 8 (p'.stmts.map Sm.cs).length)]:=by
 refine aT Tryz.func194 ?_
 repeat' ((try conv=>whnf)<;>first
  |((refine bK _ _ _ [true,true,true,true,true] ?_ ?_ ?_);exact rfl;kernel_rfl)
  |((refine quiet_step ?_ ?_);kernel_rfl)
  |((refine kJ (d:=0) [] (λl=>Fh l e 0) ?_);refine⟨_,_,rfl,rfl,rfl,λb l1 h_b=>?_,λl1 h_b=>?_⟩)
  |((refine uz ?_);(try simp only[Bool.not_true,Bool.not_false,cond_true,cond_false,bne,Bool.not_eq_true',Bool.not_eq_false']at *);(simp only[Fa,itB,reduceIte,Bool.false_eq_true, *]at hM);(obtain⟨rfl,rfl,rfl⟩:=lU hM);refine lT ?_;(conv=>whnf);refine fin_step' [(1000000,1000000),(1000001,1000001),(1000002,1000002),(1000003,1000003),(1000004,1000004),(1000005,1000005),(1000006,1000006)] rfl ?_ ?_)
  |((refine yc ?_);(try simp only[Bool.not_true,Bool.not_false,cond_true,cond_false,bne,Bool.not_eq_true',Bool.not_eq_false']at *);(simp only[Fa,itB,reduceIte,Bool.false_eq_true, *]at hM);(obtain⟨rfl,rfl,rfl⟩:=lU hM);refine nT ?_;refine fin_step' [(1000000,1000000),(1000001,1000001),(1000002,1000002),(1000003,1000003),(1000004,1000004),(1000005,1000005),(1000006,1000006)] rfl ?_ ?_)
  |exact trivial
  |refine aI.l _ ?_
  |refine wP ?_ ?_ ?_
  |refine eQ ?_
  |((refine eF ?_ ?_);kernel_rfl)
  |refine And.intro ?_ ?_
  |((refine gy ?_ ?_);exact rfl;(first |exact bC |skip))
  |(refine Zu ?_;first |exact rfl |skip)
  |exact dQ rfl)
 all_goals first
  |exact qJ rfl
  |(rw[List.length_map];first |(have:=hz.a;omega) |(have:=hz.b;omega) |(have:=hz.c;omega) |(have:=hz.d;omega) |(have:=hz.e;omega))
theorem KF(e:Int)(l:List Tk)(p:Pr)(ok:Bool)(p':Pr)(l':List Tk)(hz:Sz p l)(hM:Tj p l=(ok,p',l')):ak Tryz.prog 195 [.ptr 1000000 0,.ptr 1000001 0] [(1000000,pB l e 0),(1000001,xB p),(1000002,.tok 3 (p.params.map Bd.cs).length),(1000003,.tok 3 (p.states.map Bd.cs).length),(1000004,.tok 4 (p.lines.map Ln.cs).length),(1000005,.tok 2 (p.tables.map Tb.cs).length),(1000006,.tok 8 (p.stmts.map Sm.cs).length)] (JY 186 e ok l') [(1000000,pB l' e 0),(1000001,xB p'),(1000002,.tok 3 (p'.params.map Bd.cs).length),(1000003,.tok 3 (p'.states.map Bd.cs).length),(1000004,.tok 4 (p'.lines.map Ln.cs).length),(1000005,.tok 2 (p'.tables.map Tb.cs).length),(1000006,.tok 8 (p'.stmts.map Sm.cs).length)]:=by
 refine aT Tryz.func195 ?_
 repeat' ((try conv=>whnf)<;>first
  |((refine kJ (d:=0) [] (λl=>jX l e 0) ?_);refine⟨_,_,rfl,rfl,rfl,λs1 l1 h_s1=>?_,λl1 h_s1=>?_⟩)
  |((refine kJ (d:=0) [] (λl=>iR l e 0) ?_);refine⟨_,_,rfl,rfl,rfl,λn l2 h_n=>?_,λl2 h_n=>?_⟩)
  |((refine kJ (d:=0) [] (λl=>CS l e 0) ?_);refine⟨_,_,rfl,rfl,rfl,λb l3 h_b=>?_,λl3 h_b=>?_⟩)
  |((refine uz ?_);(try simp only[Bool.not_true,Bool.not_false,cond_true,cond_false,bne,Bool.not_eq_true',Bool.not_eq_false']at *);(simp only[Tj,itB,reduceIte,Bool.false_eq_true, *]at hM);(obtain⟨rfl,rfl,rfl⟩:=lU hM);refine lT ?_;(conv=>whnf);refine fin_step' [(1000000,1000000),(1000001,1000001),(1000002,1000002),(1000003,1000003),(1000004,1000004),(1000005,1000005),(1000006,1000006)] rfl ?_ ?_)
  |((refine yc ?_);(try simp only[Bool.not_true,Bool.not_false,cond_true,cond_false,bne,Bool.not_eq_true',Bool.not_eq_false']at *);(simp only[Tj,itB,reduceIte,Bool.false_eq_true, *]at hM);(obtain⟨rfl,rfl,rfl⟩:=lU hM);refine nT ?_;refine fin_step' [(1000000,1000000),(1000001,1000001),(1000002,1000002),(1000003,1000003),(1000004,1000004),(1000005,1000005),(1000006,1000006)] rfl ?_ ?_)
  |exact trivial
  |refine aI.l _ ?_
  |refine wP ?_ ?_ ?_
  |refine eQ ?_
  |refine And.intro ?_ ?_
  |((refine gy ?_ ?_);exact rfl;(first |skip))
  |(refine Zu ?_;first |exact rfl |skip)
  |exact dQ rfl)
 all_goals first
  |exact qJ rfl
  |(rw[List.length_map];first |(have:=hz.a;omega) |(have:=hz.b;omega) |(have:=hz.c;omega) |(have:=hz.d;omega) |(have:=hz.e;omega))
theorem Fq(e:Int)(l:List Tk)(p:Pr)(ok:Bool)(p':Pr)(l':List Tk)(hz:Sz p l)(hM:Fe p l=(ok,p',l')):ak Tryz.prog 196 [.ptr 1000000 0,.ptr 1000001 0] [(1000000,pB l e 0),(1000001,xB p),(1000002,.tok 3 (p.params.map Bd.cs).length),(1000003,.tok 3 (p.states.map Bd.cs).length),(1000004,.tok 4 (p.lines.map Ln.cs).length),(1000005,.tok 2 (p.tables.map Tb.cs).length),(1000006,.tok 8 (p.stmts.map Sm.cs).length)] (JY 186 e ok l') [(1000000,pB l' e 0),(1000001,xB p'),(1000002,.tok 3 (p'.params.map Bd.cs).length),(1000003,.tok 3 (p'.states.map Bd.cs).length),(1000004,.tok 4 (p'.lines.map Ln.cs).length),(1000005,.tok 2 (p'.tables.map Tb.cs).length),(1000006,.tok 8 (p'.stmts.map Sm.cs).length)]:=by
 refine aT Tryz.func196 ?_
 repeat' ((try conv=>whnf)<;>first
  |((refine kJ (d:=0) [] (λl=>jX l e 0) ?_);refine⟨_,_,rfl,rfl,rfl,λs1 l1 h_s1=>?_,λl1 h_s1=>?_⟩)
  |((refine DI (λs l=>iH s l e 0) ?_);refine⟨_,_,_,_,rfl,rfl,rfl,rfl,rfl,λhW _=>?_,λhW=>?_⟩)
  |((refine zf9 (d:=0) (zga 236) (λl=>l.length<=1073741823) (λl o l' hl h=>Yi l e 0 o l' hl h) ?_);refine⟨_,_,rfl,rfl,rfl,by(have:=o7 _ _ _ h_s1;have:=hz.a;simp only[List.length_drop];omega),λvs l3 h_vs=>?_,λl3 h_vs=>?_⟩)
  |((refine uz ?_);(try simp only[Bool.not_true,Bool.not_false,cond_true,cond_false,bne,Bool.not_eq_true',Bool.not_eq_false']at *);(simp only[Fe,itB,bz,reduceIte,Bool.false_eq_true, *]at hM);(obtain⟨rfl,rfl,rfl⟩:=lU hM);refine lT ?_;(conv=>whnf);refine fin_step' [(1000000,1000000),(1000001,1000001),(1000002,1000002),(1000003,1000003),(1000004,1000004),(1000005,1000005),(1000006,1000006)] rfl ?_ ?_)
  |((refine yc ?_);(try simp only[Bool.not_true,Bool.not_false,cond_true,cond_false,bne,Bool.not_eq_true',Bool.not_eq_false']at *);(simp only[Fe,itB,bz,reduceIte,Bool.false_eq_true, *]at hM);(obtain⟨rfl,rfl,rfl⟩:=lU hM);refine nT ?_;refine fin_step' [(1000000,1000000),(1000001,1000001),(1000002,1000002),(1000003,1000003),(1000004,1000004),(1000005,1000005),(1000006,1000006)] rfl ?_ ?_)
  |exact trivial
  |refine aI.l _ ?_
  |refine wP ?_ ?_ ?_
  |refine eQ ?_
  |refine And.intro ?_ ?_
  |((refine gy ?_ ?_);exact rfl;(first |skip))
  |(refine Zu ?_;first |exact rfl |skip)
  |exact dQ rfl)
 all_goals first
  |exact qJ rfl
  |(rw[List.length_map];first |(have:=hz.a;omega) |(have:=hz.b;omega) |(have:=hz.c;omega) |(have:=hz.d;omega) |(have:=hz.e;omega))
theorem jY(e:Int)(k:Int)(l:List Tk)(p:Pr)(ok:Bool)(p':Pr)(l':List Tk)(hz:Sz p l)(hM:nS k p l=(ok,p',l')):ak Tryz.prog 237 [.ptr 1000000 0,.ptr 1000001 0,.data (.i k)] [(1000000,pB l e 0),(1000001,xB p),(1000002,.tok 3 (p.params.map Bd.cs).length),(1000003,.tok 3 (p.states.map Bd.cs).length),(1000004,.tok 4 (p.lines.map Ln.cs).length),(1000005,.tok 2 (p.tables.map Tb.cs).length),(1000006,.tok 8 (p.stmts.map Sm.cs).length)] (JY 186 e ok l') [(1000000,pB l' e 0),(1000001,xB p'),(1000002,.tok 3 (p'.params.map Bd.cs).length),(1000003,.tok 3 (p'.states.map Bd.cs).length),(1000004,.tok 4 (p'.lines.map Ln.cs).length),(1000005,.tok 2 (p'.tables.map Tb.cs).length),(1000006,.tok 8 (p'.stmts.map Sm.cs).length)]:=by
 refine aT Tryz.func237 ?_
 repeat' ((try conv=>whnf)<;>first
  |((refine kJ (d:=0) [] (λl=>jX l e 0) ?_);refine⟨_,_,rfl,rfl,rfl,λs1 l1 h_s1=>?_,λl1 h_s1=>?_⟩)
  |((refine DI (λs l=>iH s l e 0) ?_);refine⟨_,_,_,_,rfl,rfl,rfl,rfl,rfl,λhW _=>?_,λhW=>?_⟩)
  |((refine kJ (d:=0) [] (λl=>Yh e l) ?_);refine⟨_,_,rfl,rfl,rfl,λx l3 h_x=>?_,λl3 h_x=>?_⟩)
  |((refine uz ?_);(try simp only[Bool.not_true,Bool.not_false,cond_true,cond_false,bne,Bool.not_eq_true',Bool.not_eq_false']at *);(simp only[nS,itB,bnd,bz,bne,Bool.not_false,Bool.not_true,reduceIte,Bool.false_eq_true, *]at hM);(obtain⟨rfl,rfl,rfl⟩:=lU hM);refine lT ?_;(conv=>whnf);refine fin_step' [(1000000,1000000),(1000001,1000001),(1000002,1000002),(1000003,1000003),(1000004,1000004),(1000005,1000005),(1000006,1000006)] rfl ?_ ?_)
  |((refine yc ?_);(try simp only[Bool.not_true,Bool.not_false,cond_true,cond_false,bne,Bool.not_eq_true',Bool.not_eq_false']at *);(simp only[nS,itB,bnd,bz,bne,Bool.not_false,Bool.not_true,reduceIte,Bool.false_eq_true, *]at hM);(obtain⟨rfl,rfl,rfl⟩:=lU hM);refine nT ?_;refine fin_step' [(1000000,1000000),(1000001,1000001),(1000002,1000002),(1000003,1000003),(1000004,1000004),(1000005,1000005),(1000006,1000006)] rfl ?_ ?_)
  |exact trivial
  |refine BrI.intro (λh=>?_) (λh=>?_)
  |refine aI.l _ ?_
  |refine wP ?_ ?_ ?_
  |refine eQ ?_
  |refine And.intro ?_ ?_
  |((refine gy ?_ ?_);exact rfl;(first |skip))
  |(refine Zu ?_;first |exact rfl |skip)
  |exact dQ rfl)
 all_goals first
  |exact qJ rfl
  |(rw[List.length_map];first |(have:=hz.a;omega) |(have:=hz.b;omega) |(have:=hz.c;omega) |(have:=hz.d;omega) |(have:=hz.e;omega))
theorem QR(e:Int)(l:List Tk)(p:Pr)(ok:Bool)(p':Pr)(l':List Tk)(hz:Sz p l)(hM:(nS 1) p l=(ok,p',l')):ak Tryz.prog 197 [.ptr 1000000 0,.ptr 1000001 0] [(1000000,pB l e 0),(1000001,xB p),(1000002,.tok 3 (p.params.map Bd.cs).length),(1000003,.tok 3 (p.states.map Bd.cs).length),(1000004,.tok 4 (p.lines.map Ln.cs).length),(1000005,.tok 2 (p.tables.map Tb.cs).length),(1000006,.tok 8 (p.stmts.map Sm.cs).length)] (JY 186 e ok l') [(1000000,pB l' e 0),(1000001,xB p'),(1000002,.tok 3 (p'.params.map Bd.cs).length),(1000003,.tok 3 (p'.states.map Bd.cs).length),(1000004,.tok 4 (p'.lines.map Ln.cs).length),(1000005,.tok 2 (p'.tables.map Tb.cs).length),(1000006,.tok 8 (p'.stmts.map Sm.cs).length)]:=by
 refine aT Tryz.func197 ?_
 repeat' ((try conv=>whnf)<;>first
  |((refine wC 237 (nS 1 p l) (λp1 l1=>⟨λhR=>?_,λhR=>?_⟩));(refine lent_step' [(1000000,1000000),(1000001,1000001),(1000002,1000002),(1000003,1000003),(1000004,1000004),(1000005,1000005),(1000006,1000006)] (jY e 1 l p true p1 l1 hz hR) rfl ⟨rfl,rfl,rfl,rfl,rfl,rfl,rfl,trivial⟩ rfl ?_);rotate_left;(refine lent_step' [(1000000,1000000),(1000001,1000001),(1000002,1000002),(1000003,1000003),(1000004,1000004),(1000005,1000005),(1000006,1000006)] (jY e 1 l p false p1 l1 hz hR) rfl ⟨rfl,rfl,rfl,rfl,rfl,rfl,rfl,trivial⟩ rfl ?_))
  |((refine uz ?_);(try simp only[Bool.not_true,Bool.not_false,cond_true,cond_false,bne,Bool.not_eq_true',Bool.not_eq_false']at *);(simp only[hR,reduceIte,Bool.false_eq_true, *]at hM);(obtain⟨rfl,rfl,rfl⟩:=lU hM);refine lT ?_;(conv=>whnf);refine fin_step' [(1000000,1000000),(1000001,1000001),(1000002,1000002),(1000003,1000003),(1000004,1000004),(1000005,1000005),(1000006,1000006)] rfl ?_ ?_)
  |((refine yc ?_);(try simp only[Bool.not_true,Bool.not_false,cond_true,cond_false,bne,Bool.not_eq_true',Bool.not_eq_false']at *);(simp only[hR,reduceIte,Bool.false_eq_true, *]at hM);(obtain⟨rfl,rfl,rfl⟩:=lU hM);refine nT ?_;refine fin_step' [(1000000,1000000),(1000001,1000001),(1000002,1000002),(1000003,1000003),(1000004,1000004),(1000005,1000005),(1000006,1000006)] rfl ?_ ?_)
  |exact trivial
  |refine And.intro ?_ ?_
  |(refine Zu ?_;first |exact rfl |skip)
  |exact @rfl Block _)
theorem QS(e:Int)(l:List Tk)(p:Pr)(ok:Bool)(p':Pr)(l':List Tk)(hz:Sz p l)(hM:(nS 2) p l=(ok,p',l')):ak Tryz.prog 198 [.ptr 1000000 0,.ptr 1000001 0] [(1000000,pB l e 0),(1000001,xB p),(1000002,.tok 3 (p.params.map Bd.cs).length),(1000003,.tok 3 (p.states.map Bd.cs).length),(1000004,.tok 4 (p.lines.map Ln.cs).length),(1000005,.tok 2 (p.tables.map Tb.cs).length),(1000006,.tok 8 (p.stmts.map Sm.cs).length)] (JY 186 e ok l') [(1000000,pB l' e 0),(1000001,xB p'),(1000002,.tok 3 (p'.params.map Bd.cs).length),(1000003,.tok 3 (p'.states.map Bd.cs).length),(1000004,.tok 4 (p'.lines.map Ln.cs).length),(1000005,.tok 2 (p'.tables.map Tb.cs).length),(1000006,.tok 8 (p'.stmts.map Sm.cs).length)]:=by
 refine aT Tryz.func198 ?_
 repeat' ((try conv=>whnf)<;>first
  |((refine wC 237 (nS 2 p l) (λp1 l1=>⟨λhR=>?_,λhR=>?_⟩));(refine lent_step' [(1000000,1000000),(1000001,1000001),(1000002,1000002),(1000003,1000003),(1000004,1000004),(1000005,1000005),(1000006,1000006)] (jY e 2 l p true p1 l1 hz hR) rfl ⟨rfl,rfl,rfl,rfl,rfl,rfl,rfl,trivial⟩ rfl ?_);rotate_left;(refine lent_step' [(1000000,1000000),(1000001,1000001),(1000002,1000002),(1000003,1000003),(1000004,1000004),(1000005,1000005),(1000006,1000006)] (jY e 2 l p false p1 l1 hz hR) rfl ⟨rfl,rfl,rfl,rfl,rfl,rfl,rfl,trivial⟩ rfl ?_))
  |((refine uz ?_);(try simp only[Bool.not_true,Bool.not_false,cond_true,cond_false,bne,Bool.not_eq_true',Bool.not_eq_false']at *);(simp only[hR,reduceIte,Bool.false_eq_true, *]at hM);(obtain⟨rfl,rfl,rfl⟩:=lU hM);refine lT ?_;(conv=>whnf);refine fin_step' [(1000000,1000000),(1000001,1000001),(1000002,1000002),(1000003,1000003),(1000004,1000004),(1000005,1000005),(1000006,1000006)] rfl ?_ ?_)
  |((refine yc ?_);(try simp only[Bool.not_true,Bool.not_false,cond_true,cond_false,bne,Bool.not_eq_true',Bool.not_eq_false']at *);(simp only[hR,reduceIte,Bool.false_eq_true, *]at hM);(obtain⟨rfl,rfl,rfl⟩:=lU hM);refine nT ?_;refine fin_step' [(1000000,1000000),(1000001,1000001),(1000002,1000002),(1000003,1000003),(1000004,1000004),(1000005,1000005),(1000006,1000006)] rfl ?_ ?_)
  |exact trivial
  |refine And.intro ?_ ?_
  |(refine Zu ?_;first |exact rfl |skip)
  |exact @rfl Block _)
theorem KG(e:Int)(l:List Tk)(p:Pr)(ok:Bool)(p':Pr)(l':List Tk)(hz:Sz p l)(hM:(nS 3) p l=(ok,p',l')):ak Tryz.prog 199 [.ptr 1000000 0,.ptr 1000001 0] [(1000000,pB l e 0),(1000001,xB p),(1000002,.tok 3 (p.params.map Bd.cs).length),(1000003,.tok 3 (p.states.map Bd.cs).length),(1000004,.tok 4 (p.lines.map Ln.cs).length),(1000005,.tok 2 (p.tables.map Tb.cs).length),(1000006,.tok 8 (p.stmts.map Sm.cs).length)] (JY 186 e ok l') [(1000000,pB l' e 0),(1000001,xB p'),(1000002,.tok 3 (p'.params.map Bd.cs).length),(1000003,.tok 3 (p'.states.map Bd.cs).length),(1000004,.tok 4 (p'.lines.map Ln.cs).length),(1000005,.tok 2 (p'.tables.map Tb.cs).length),(1000006,.tok 8 (p'.stmts.map Sm.cs).length)]:=by
 refine aT Tryz.func199 ?_
 repeat' ((try conv=>whnf)<;>first
  |((refine wC 237 (nS 3 p l) (λp1 l1=>⟨λhR=>?_,λhR=>?_⟩));(refine lent_step' [(1000000,1000000),(1000001,1000001),(1000002,1000002),(1000003,1000003),(1000004,1000004),(1000005,1000005),(1000006,1000006)] (jY e 3 l p true p1 l1 hz hR) rfl ⟨rfl,rfl,rfl,rfl,rfl,rfl,rfl,trivial⟩ rfl ?_);rotate_left;(refine lent_step' [(1000000,1000000),(1000001,1000001),(1000002,1000002),(1000003,1000003),(1000004,1000004),(1000005,1000005),(1000006,1000006)] (jY e 3 l p false p1 l1 hz hR) rfl ⟨rfl,rfl,rfl,rfl,rfl,rfl,rfl,trivial⟩ rfl ?_))
  |((refine uz ?_);(try simp only[Bool.not_true,Bool.not_false,cond_true,cond_false,bne,Bool.not_eq_true',Bool.not_eq_false']at *);(simp only[hR,reduceIte,Bool.false_eq_true, *]at hM);(obtain⟨rfl,rfl,rfl⟩:=lU hM);refine lT ?_;(conv=>whnf);refine fin_step' [(1000000,1000000),(1000001,1000001),(1000002,1000002),(1000003,1000003),(1000004,1000004),(1000005,1000005),(1000006,1000006)] rfl ?_ ?_)
  |((refine yc ?_);(try simp only[Bool.not_true,Bool.not_false,cond_true,cond_false,bne,Bool.not_eq_true',Bool.not_eq_false']at *);(simp only[hR,reduceIte,Bool.false_eq_true, *]at hM);(obtain⟨rfl,rfl,rfl⟩:=lU hM);refine nT ?_;refine fin_step' [(1000000,1000000),(1000001,1000001),(1000002,1000002),(1000003,1000003),(1000004,1000004),(1000005,1000005),(1000006,1000006)] rfl ?_ ?_)
  |exact trivial
  |refine And.intro ?_ ?_
  |(refine Zu ?_;first |exact rfl |skip)
  |exact @rfl Block _)
theorem QT(e:Int)(l:List Tk)(p:Pr)(ok:Bool)(p':Pr)(l':List Tk)(hz:Sz p l)(hM:(nS 4) p l=(ok,p',l')):ak Tryz.prog 200 [.ptr 1000000 0,.ptr 1000001 0] [(1000000,pB l e 0),(1000001,xB p),(1000002,.tok 3 (p.params.map Bd.cs).length),(1000003,.tok 3 (p.states.map Bd.cs).length),(1000004,.tok 4 (p.lines.map Ln.cs).length),(1000005,.tok 2 (p.tables.map Tb.cs).length),(1000006,.tok 8 (p.stmts.map Sm.cs).length)] (JY 186 e ok l') [(1000000,pB l' e 0),(1000001,xB p'),(1000002,.tok 3 (p'.params.map Bd.cs).length),(1000003,.tok 3 (p'.states.map Bd.cs).length),(1000004,.tok 4 (p'.lines.map Ln.cs).length),(1000005,.tok 2 (p'.tables.map Tb.cs).length),(1000006,.tok 8 (p'.stmts.map Sm.cs).length)]:=by
 refine aT Tryz.func200 ?_
 repeat' ((try conv=>whnf)<;>first
  |((refine wC 237 (nS 4 p l) (λp1 l1=>⟨λhR=>?_,λhR=>?_⟩));(refine lent_step' [(1000000,1000000),(1000001,1000001),(1000002,1000002),(1000003,1000003),(1000004,1000004),(1000005,1000005),(1000006,1000006)] (jY e 4 l p true p1 l1 hz hR) rfl ⟨rfl,rfl,rfl,rfl,rfl,rfl,rfl,trivial⟩ rfl ?_);rotate_left;(refine lent_step' [(1000000,1000000),(1000001,1000001),(1000002,1000002),(1000003,1000003),(1000004,1000004),(1000005,1000005),(1000006,1000006)] (jY e 4 l p false p1 l1 hz hR) rfl ⟨rfl,rfl,rfl,rfl,rfl,rfl,rfl,trivial⟩ rfl ?_))
  |((refine uz ?_);(try simp only[Bool.not_true,Bool.not_false,cond_true,cond_false,bne,Bool.not_eq_true',Bool.not_eq_false']at *);(simp only[hR,reduceIte,Bool.false_eq_true, *]at hM);(obtain⟨rfl,rfl,rfl⟩:=lU hM);refine lT ?_;(conv=>whnf);refine fin_step' [(1000000,1000000),(1000001,1000001),(1000002,1000002),(1000003,1000003),(1000004,1000004),(1000005,1000005),(1000006,1000006)] rfl ?_ ?_)
  |((refine yc ?_);(try simp only[Bool.not_true,Bool.not_false,cond_true,cond_false,bne,Bool.not_eq_true',Bool.not_eq_false']at *);(simp only[hR,reduceIte,Bool.false_eq_true, *]at hM);(obtain⟨rfl,rfl,rfl⟩:=lU hM);refine nT ?_;refine fin_step' [(1000000,1000000),(1000001,1000001),(1000002,1000002),(1000003,1000003),(1000004,1000004),(1000005,1000005),(1000006,1000006)] rfl ?_ ?_)
  |exact trivial
  |refine And.intro ?_ ?_
  |(refine Zu ?_;first |exact rfl |skip)
  |exact @rfl Block _)
end Go.Proofs.YtgehpmgkaeohaaaGreatDoor
namespace Go.Proofs.YtgehpmgkaeohaaaGreatDoor
open Go.Fw Go.Fw.Lx Go.Fw.Sy
set_option maxRecDepth 10000
variable [ae]
theorem CU(e:Int)(l:List Tk)(p:Pr)(ok:Bool)(p':Pr)(l':List Tk)(hz:Sz p l)(hM:jU decls p l=(ok,p',l')):ak Tryz.prog 192 [.ptr 1000000 0,.ptr 1000001 0,.map 1000007] [(1000000,pB l e 0),(1000001,xB p),(1000002,.tok 3 (p.params.map Bd.cs).length),(1000003,.tok 3 (p.states.map Bd.cs).length),(1000004,.tok 4 (p.lines.map Ln.cs).length),(1000005,.tok 2 (p.tables.map Tb.cs).length),(1000006,.tok 8 (p.stmts.map Sm.cs).length),(1000007,.map false [.str] [(.str Qr,.fn 193 []),(.str Qs,.fn 194 []),(.str z0z,.fn 195 []),(.str Qu,.fn 196 [])])] (JY 186 e ok l') [(1000000,pB l' e 0),(1000001,xB p'),(1000002,.tok 3 (p'.params.map Bd.cs).length),(1000003,.tok 3 (p'.states.map Bd.cs).length),(1000004,.tok 4 (p'.lines.map Ln.cs).length),(1000005,.tok 2 (p'.tables.map Tb.cs).length),(1000006,.tok 8 (p'.stmts.map Sm.cs).length),(1000007,.map false [.str] [(.str Qr,.fn 193 []),(.str Qs,.fn 194 []),(.str z0z,.fn 195 []),(.str Qu,.fn 196 [])])]:=by
 refine aT Tryz.func192 ?_
 repeat' ((try conv=>whnf)<;>first
  |((refine EG (.data (.val (.bool false))) ?_ ?_ ?_);rfl;rfl)
  |((refine Jg ?_ ?_);rfl)
  |((refine x9 ?_ ?_);rfl)
  |((refine xZ ?_ ?_);rfl)
  |((refine DF (λs l=>iG s l e 0) ?_);refine⟨_,_,_,rfl,rfl,rfl,λhT _=>?_,λhT=>?_⟩)
  |((refine DI (λs l=>iH s l e 0) ?_);refine⟨_,_,_,_,rfl,rfl,rfl,rfl,rfl,λhW _=>?_,λhW=>?_⟩)
  |((refine wC 193 (E8 p (l1.drop 1)) (λp1 l2=>⟨λhR=>?_,λhR=>?_⟩));(refine lent_step' [(1000000,1000000),(1000001,1000001),(1000002,1000002),(1000003,1000003),(1000004,1000004),(1000005,1000005),(1000006,1000006)] (Fj e (l1.drop 1) p true p1 l2 (hI0.sz.le (by simp)) hR) rfl ⟨rfl,rfl,rfl,rfl,rfl,rfl,rfl,trivial⟩ rfl ?_);rotate_left;(refine lent_step' [(1000000,1000000),(1000001,1000001),(1000002,1000002),(1000003,1000003),(1000004,1000004),(1000005,1000005),(1000006,1000006)] (Fj e (l1.drop 1) p false p1 l2 (hI0.sz.le (by simp)) hR) rfl ⟨rfl,rfl,rfl,rfl,rfl,rfl,rfl,trivial⟩ rfl ?_))
  |((refine wC 194 (Fa p (l1.drop 1)) (λp1 l2=>⟨λhR=>?_,λhR=>?_⟩));(refine lent_step' [(1000000,1000000),(1000001,1000001),(1000002,1000002),(1000003,1000003),(1000004,1000004),(1000005,1000005),(1000006,1000006)] (Fp e (l1.drop 1) p true p1 l2 (hI0.sz.le (by simp)) hR) rfl ⟨rfl,rfl,rfl,rfl,rfl,rfl,rfl,trivial⟩ rfl ?_);rotate_left;(refine lent_step' [(1000000,1000000),(1000001,1000001),(1000002,1000002),(1000003,1000003),(1000004,1000004),(1000005,1000005),(1000006,1000006)] (Fp e (l1.drop 1) p false p1 l2 (hI0.sz.le (by simp)) hR) rfl ⟨rfl,rfl,rfl,rfl,rfl,rfl,rfl,trivial⟩ rfl ?_))
  |((refine wC 195 (Tj p (l1.drop 1)) (λp1 l2=>⟨λhR=>?_,λhR=>?_⟩));(refine lent_step' [(1000000,1000000),(1000001,1000001),(1000002,1000002),(1000003,1000003),(1000004,1000004),(1000005,1000005),(1000006,1000006)] (KF e (l1.drop 1) p true p1 l2 (hI0.sz.le (by simp)) hR) rfl ⟨rfl,rfl,rfl,rfl,rfl,rfl,rfl,trivial⟩ rfl ?_);rotate_left;(refine lent_step' [(1000000,1000000),(1000001,1000001),(1000002,1000002),(1000003,1000003),(1000004,1000004),(1000005,1000005),(1000006,1000006)] (KF e (l1.drop 1) p false p1 l2 (hI0.sz.le (by simp)) hR) rfl ⟨rfl,rfl,rfl,rfl,rfl,rfl,rfl,trivial⟩ rfl ?_))
  |((refine wC 196 (Fe p (l1.drop 1)) (λp1 l2=>⟨λhR=>?_,λhR=>?_⟩));(refine lent_step' [(1000000,1000000),(1000001,1000001),(1000002,1000002),(1000003,1000003),(1000004,1000004),(1000005,1000005),(1000006,1000006)] (Fq e (l1.drop 1) p true p1 l2 (hI0.sz.le (by simp)) hR) rfl ⟨rfl,rfl,rfl,rfl,rfl,rfl,rfl,trivial⟩ rfl ?_);rotate_left;(refine lent_step' [(1000000,1000000),(1000001,1000001),(1000002,1000002),(1000003,1000003),(1000004,1000004),(1000005,1000005),(1000006,1000006)] (Fq e (l1.drop 1) p false p1 l2 (hI0.sz.le (by simp)) hR) rfl ⟨rfl,rfl,rfl,rfl,rfl,rfl,rfl,trivial⟩ rfl ?_))
  |refine dm (n-1,p1,l2.drop 1) ?_ (zj0 hI0 ‹isT (hd l1).text l1=true› (by simp only[find,decls, *,reduceIte,Bool.false_eq_true]) hR (by first |exact Ho hR |exact Hq hR |exact NM hR |exact Ht hR |exact NP hR) ‹isT Dz l2=true›) (zgh hI0 ‹isT (hd l1).text l1=true›)
  |((refine yc ?_);(have hE:=zgf hI0 ‹isT (hd l1).text l1=true› (by simp only[find,decls, *,reduceIte,Bool.false_eq_true]) hR);(obtain⟨rfl,rfl,rfl⟩:=hE);refine nT ?_;refine fin_step' [(1000000,1000000),(1000001,1000001),(1000002,1000002),(1000003,1000003),(1000004,1000004),(1000005,1000005),(1000006,1000006),(1000007,1000007)] rfl ?_ ?_)
  |((refine yc ?_);(have hE:=zgg hI0 ‹isT (hd l1).text l1=true› (by simp only[find,decls, *,reduceIte,Bool.false_eq_true]) hR ‹isT Dz l2=false›);(obtain⟨rfl,rfl,rfl⟩:=hE);refine nT ?_;refine fin_step' [(1000000,1000000),(1000001,1000001),(1000002,1000002),(1000003,1000003),(1000004,1000004),(1000005,1000005),(1000006,1000006),(1000007,1000007)] rfl ?_ ?_)
  |((refine uz ?_);(have hE:=zgi hI0 ‹decide (((l1.map Tk.cs).length:Int)>0)=false›);(obtain⟨rfl,rfl,rfl⟩:=hE);refine lT ?_;(conv=>whnf);refine fin_step' [(1000000,1000000),(1000001,1000001),(1000002,1000002),(1000003,1000003),(1000004,1000004),(1000005,1000005),(1000006,1000006),(1000007,1000007)] rfl ?_ ?_)
  |((refine uz ?_);(have hE:=zgk hI0 ‹isT (hd l1).text l1=false›);(obtain⟨rfl,rfl,rfl⟩:=hE);refine lT ?_;(conv=>whnf);refine fin_step' [(1000000,1000000),(1000001,1000001),(1000002,1000002),(1000003,1000003),(1000004,1000004),(1000005,1000005),(1000006,1000006),(1000007,1000007)] rfl ?_ ?_)
  |((refine uz ?_);(have hE:=zgj hI0 (by simp only[find,decls, *,reduceIte,Bool.false_eq_true]));(obtain⟨rfl,rfl,rfl⟩:=hE);refine lT ?_;(conv=>whnf);refine fin_step' [(1000000,1000000),(1000001,1000001),(1000002,1000002),(1000003,1000003),(1000004,1000004),(1000005,1000005),(1000006,1000006),(1000007,1000007)] rfl ?_ ?_)
  |exact trivial
  |refine BrI.intro (λh=>?_) (λh=>?_)
  |((refine sO ?_ ?_ ?_ ?_);exact⟨rfl,rfl⟩;rfl;exact XT ‹decide (((l1.map Tk.cs).length:Int)>0)=true›)
  |refine zjz (λh1=>?_) (λh0 h1=>?_) (λh0 h00 h1=>?_) (λh0 h00 h000 h1=>?_) (λh0 h00 h000 h0000=>?_)
  |((refine au.mk 0 ?_);refine⟨lG (λ(q:(Nat)×(Pr)×(List Tk))=>match q with |(n,p,l1)=>[]) (λ(q:(Nat)×(Pr)×(List Tk))=>match q with |(n,p,l1)=>[(1000000,pB l1 e 0),(1000001,xB p),(1000002,.tok 3 (p.params.map Bd.cs).length),(1000003,.tok 3 (p.states.map Bd.cs).length),(1000004,.tok 4 (p.lines.map Ln.cs).length),(1000005,.tok 2 (p.tables.map Tb.cs).length),(1000006,.tok 8 (p.stmts.map Sm.cs).length)]) [0,1,2] (λ(q:(Nat)×(Pr)×(List Tk))=>match q with |(n,p,l1)=>ItI decls (ok,p',l') n p l1) (λ(q:(Nat)×(Pr)×(List Tk))=>match q with |(n,p,l1)=>n),?_⟩;refine eH ((l.length),(p),(l)) ?_ ?_ (λ⟨n,p,l1⟩ hI0=>?_))
  |refine aI.l _ ?_
  |refine And.intro ?_ ?_
  |((refine mZ ?_ ?_ ?_);rfl;rfl;(first |exact rfl |skip))
  |((refine bP ?_);refine gZ ?_ ?_ ?_;rfl;rfl;(first |exact rfl |skip))
  |exact @rfl AV _
  |exact @rfl Block _)
 all_goals first
  |rfl
  |exact ItI.start hz hM
theorem CV(e:Int)(l:List Tk)(p:Pr)(ok:Bool)(p':Pr)(l':List Tk)(hz:Sz p l)(hM:jU stmts p l=(ok,p',l')):ak Tryz.prog 192 [.ptr 1000000 0,.ptr 1000001 0,.map 1000007] [(1000000,pB l e 0),(1000001,xB p),(1000002,.tok 3 (p.params.map Bd.cs).length),(1000003,.tok 3 (p.states.map Bd.cs).length),(1000004,.tok 4 (p.lines.map Ln.cs).length),(1000005,.tok 2 (p.tables.map Tb.cs).length),(1000006,.tok 8 (p.stmts.map Sm.cs).length),(1000007,.map false [.str] [(.str zhj,.fn 197 []),(.str zhk,.fn 198 []),(.str z00,.fn 199 []),(.str zhl,.fn 200 [])])] (JY 186 e ok l') [(1000000,pB l' e 0),(1000001,xB p'),(1000002,.tok 3 (p'.params.map Bd.cs).length),(1000003,.tok 3 (p'.states.map Bd.cs).length),(1000004,.tok 4 (p'.lines.map Ln.cs).length),(1000005,.tok 2 (p'.tables.map Tb.cs).length),(1000006,.tok 8 (p'.stmts.map Sm.cs).length),(1000007,.map false [.str] [(.str zhj,.fn 197 []),(.str zhk,.fn 198 []),(.str z00,.fn 199 []),(.str zhl,.fn 200 [])])]:=by
 refine aT Tryz.func192 ?_
 repeat' ((try conv=>whnf)<;>first
  |((with_reducible refine EG (.data (.val (.bool false))) ?_ ?_ ?_);rfl;rfl)
  |((with_reducible refine Jg ?_ ?_);rfl)
  |((with_reducible refine x9 ?_ ?_);rfl)
  |((with_reducible refine xZ ?_ ?_);rfl)
  |((with_reducible refine DF (λs l=>iG s l e 0) ?_);refine⟨_,_,_,rfl,rfl,rfl,λhT _=>?_,λhT=>?_⟩)
  |((with_reducible refine DI (λs l=>iH s l e 0) ?_);refine⟨_,_,_,_,rfl,rfl,rfl,rfl,rfl,λhW _=>?_,λhW=>?_⟩)
  |((with_reducible refine wC 197 (nS 1 p (l1.drop 1)) (λp1 l2=>⟨λhR=>?_,λhR=>?_⟩));(refine lent_step' [(1000000,1000000),(1000001,1000001),(1000002,1000002),(1000003,1000003),(1000004,1000004),(1000005,1000005),(1000006,1000006)] (QR e (l1.drop 1) p true p1 l2 (hI0.sz.le (by simp)) hR) rfl ⟨rfl,rfl,rfl,rfl,rfl,rfl,rfl,trivial⟩ rfl ?_);rotate_left;(refine lent_step' [(1000000,1000000),(1000001,1000001),(1000002,1000002),(1000003,1000003),(1000004,1000004),(1000005,1000005),(1000006,1000006)] (QR e (l1.drop 1) p false p1 l2 (hI0.sz.le (by simp)) hR) rfl ⟨rfl,rfl,rfl,rfl,rfl,rfl,rfl,trivial⟩ rfl ?_))
  |((with_reducible refine wC 198 (nS 2 p (l1.drop 1)) (λp1 l2=>⟨λhR=>?_,λhR=>?_⟩));(refine lent_step' [(1000000,1000000),(1000001,1000001),(1000002,1000002),(1000003,1000003),(1000004,1000004),(1000005,1000005),(1000006,1000006)] (QS e (l1.drop 1) p true p1 l2 (hI0.sz.le (by simp)) hR) rfl ⟨rfl,rfl,rfl,rfl,rfl,rfl,rfl,trivial⟩ rfl ?_);rotate_left;(refine lent_step' [(1000000,1000000),(1000001,1000001),(1000002,1000002),(1000003,1000003),(1000004,1000004),(1000005,1000005),(1000006,1000006)] (QS e (l1.drop 1) p false p1 l2 (hI0.sz.le (by simp)) hR) rfl ⟨rfl,rfl,rfl,rfl,rfl,rfl,rfl,trivial⟩ rfl ?_))
  |((with_reducible refine wC 199 (nS 3 p (l1.drop 1)) (λp1 l2=>⟨λhR=>?_,λhR=>?_⟩));(refine lent_step' [(1000000,1000000),(1000001,1000001),(1000002,1000002),(1000003,1000003),(1000004,1000004),(1000005,1000005),(1000006,1000006)] (KG e (l1.drop 1) p true p1 l2 (hI0.sz.le (by simp)) hR) rfl ⟨rfl,rfl,rfl,rfl,rfl,rfl,rfl,trivial⟩ rfl ?_);rotate_left;(refine lent_step' [(1000000,1000000),(1000001,1000001),(1000002,1000002),(1000003,1000003),(1000004,1000004),(1000005,1000005),(1000006,1000006)] (KG e (l1.drop 1) p false p1 l2 (hI0.sz.le (by simp)) hR) rfl ⟨rfl,rfl,rfl,rfl,rfl,rfl,rfl,trivial⟩ rfl ?_))
  |((with_reducible refine wC 200 (nS 4 p (l1.drop 1)) (λp1 l2=>⟨λhR=>?_,λhR=>?_⟩));(refine lent_step' [(1000000,1000000),(1000001,1000001),(1000002,1000002),(1000003,1000003),(1000004,1000004),(1000005,1000005),(1000006,1000006)] (QT e (l1.drop 1) p true p1 l2 (hI0.sz.le (by simp)) hR) rfl ⟨rfl,rfl,rfl,rfl,rfl,rfl,rfl,trivial⟩ rfl ?_);rotate_left;(refine lent_step' [(1000000,1000000),(1000001,1000001),(1000002,1000002),(1000003,1000003),(1000004,1000004),(1000005,1000005),(1000006,1000006)] (QT e (l1.drop 1) p false p1 l2 (hI0.sz.le (by simp)) hR) rfl ⟨rfl,rfl,rfl,rfl,rfl,rfl,rfl,trivial⟩ rfl ?_))
  |with_reducible refine dm (n-1,p1,l2.drop 1) ?_ (zj0 hI0 ‹isT (hd l1).text l1=true› (by simp only[find,stmts, *,reduceIte,Bool.false_eq_true]) hR (by first |exact Ho hR |exact Hq hR |exact NM hR |exact Ht hR |exact NP hR) ‹isT Dz l2=true›) (zgh hI0 ‹isT (hd l1).text l1=true›)
  |((with_reducible refine yc ?_);(have hE:=zgf hI0 ‹isT (hd l1).text l1=true› (by simp only[find,stmts, *,reduceIte,Bool.false_eq_true]) hR);(obtain⟨rfl,rfl,rfl⟩:=hE);refine nT ?_;refine fin_step' [(1000000,1000000),(1000001,1000001),(1000002,1000002),(1000003,1000003),(1000004,1000004),(1000005,1000005),(1000006,1000006),(1000007,1000007)] rfl ?_ ?_)
  |((with_reducible refine yc ?_);(have hE:=zgg hI0 ‹isT (hd l1).text l1=true› (by simp only[find,stmts, *,reduceIte,Bool.false_eq_true]) hR ‹isT Dz l2=false›);(obtain⟨rfl,rfl,rfl⟩:=hE);refine nT ?_;refine fin_step' [(1000000,1000000),(1000001,1000001),(1000002,1000002),(1000003,1000003),(1000004,1000004),(1000005,1000005),(1000006,1000006),(1000007,1000007)] rfl ?_ ?_)
  |((with_reducible refine uz ?_);(have hE:=zgi hI0 ‹decide (((l1.map Tk.cs).length:Int)>0)=false›);(obtain⟨rfl,rfl,rfl⟩:=hE);refine lT ?_;(conv=>whnf);refine fin_step' [(1000000,1000000),(1000001,1000001),(1000002,1000002),(1000003,1000003),(1000004,1000004),(1000005,1000005),(1000006,1000006),(1000007,1000007)] rfl ?_ ?_)
  |((with_reducible refine uz ?_);(have hE:=zgk hI0 ‹isT (hd l1).text l1=false›);(obtain⟨rfl,rfl,rfl⟩:=hE);refine lT ?_;(conv=>whnf);refine fin_step' [(1000000,1000000),(1000001,1000001),(1000002,1000002),(1000003,1000003),(1000004,1000004),(1000005,1000005),(1000006,1000006),(1000007,1000007)] rfl ?_ ?_)
  |((with_reducible refine uz ?_);(have hE:=zgj hI0 (by simp only[find,stmts, *,reduceIte,Bool.false_eq_true]));(obtain⟨rfl,rfl,rfl⟩:=hE);refine lT ?_;(conv=>whnf);refine fin_step' [(1000000,1000000),(1000001,1000001),(1000002,1000002),(1000003,1000003),(1000004,1000004),(1000005,1000005),(1000006,1000006),(1000007,1000007)] rfl ?_ ?_)
  |with_reducible exact trivial
  |with_reducible refine BrI.intro (λh=>?_) (λh=>?_)
  |((with_reducible refine sO ?_ ?_ ?_ ?_);exact⟨rfl,rfl⟩;rfl;exact XT ‹decide (((l1.map Tk.cs).length:Int)>0)=true›)
  |refine zjz (λh1=>?_) (λh0 h1=>?_) (λh0 h00 h1=>?_) (λh0 h00 h000 h1=>?_) (λh0 h00 h000 h0000=>?_)
  |((with_reducible refine au.mk 0 ?_);refine⟨lG (λ(q:(Nat)×(Pr)×(List Tk))=>match q with |(n,p,l1)=>[]) (λ(q:(Nat)×(Pr)×(List Tk))=>match q with |(n,p,l1)=>[(1000000,pB l1 e 0),(1000001,xB p),(1000002,.tok 3 (p.params.map Bd.cs).length),(1000003,.tok 3 (p.states.map Bd.cs).length),(1000004,.tok 4 (p.lines.map Ln.cs).length),(1000005,.tok 2 (p.tables.map Tb.cs).length),(1000006,.tok 8 (p.stmts.map Sm.cs).length)]) [0,1,2] (λ(q:(Nat)×(Pr)×(List Tk))=>match q with |(n,p,l1)=>ItI stmts (ok,p',l') n p l1) (λ(q:(Nat)×(Pr)×(List Tk))=>match q with |(n,p,l1)=>n),?_⟩;with_reducible refine eH ((l.length),(p),(l)) ?_ ?_ (λ⟨n,p,l1⟩ hI0=>?_))
  |with_reducible refine aI.l _ ?_
  |with_reducible refine And.intro ?_ ?_
  |((with_reducible refine mZ ?_ ?_ ?_);rfl;rfl;(first |exact rfl |skip))
  |((with_reducible refine bP ?_);refine gZ ?_ ?_ ?_;rfl;rfl;(first |exact rfl |skip))
  |exact @rfl AV _
  |exact @rfl Block _)
 all_goals first
  |rfl
  |exact ItI.start hz hM
theorem Yj(l:List Tk)(e:Int)(o:Option (Pr))(l':List Tk)(hl:l.length<=1073741823)(hM:DD l=(o,l')):ak Tryz.prog 141 [.ptr 1000000 0] [(1000000,pB l e 0)] (kC 186 (λp:Pr=>p.d) e o l') [(1000000,pB l' e 0)]:=by
 refine lm tok hmix ⟨[11],[]⟩ Tryz.func141 rfl (by kernel_rfl) (by kernel_rfl) (by kernel_rfl) λhf=>?_
 clear hf
 repeat' ((try conv=>whnf)<;>first
  |((refine DI (λs l=>iH s l e 0) ?_);refine⟨_,_,_,_,rfl,rfl,rfl,rfl,rfl,λhW _=>?_,λhW=>?_⟩)
  |((refine kJ (d:=0) [] (λl=>jX l e 0) ?_);refine⟨_,_,rfl,rfl,rfl,λs1 l1 h_s1=>?_,λl1 h_s1=>?_⟩)
  |((refine XL (d:=0) lM (λl=>(hd l).n) XJ (λl=>iR l e 0) ?_);refine⟨_,_,rfl,rfl,rfl,λ_=>?_,λhN=>absurd (h.symm.trans hN) Bool.noConfusion⟩)
  |((refine kJ (d:=0) [] (λl=>iR l e 0) ?_);refine⟨_,_,rfl,rfl,rfl,λa1 l2 h_a1=>?_,λl2 h_a1=>?_⟩)
  |((refine au.mk 11 ?_);refine⟨⟨Sy.Str×Int×Int×List Tk,λ_=>[],λ(q:Sy.Str×Int×Int×List Tk)=>match q with |(s,a,t,l1)=>[(2,.cells [.data (.str s),.data (.i a),.data (.i t),.gs 900100 3 [],.gs 900101 3 [],.gs 900102 4 [],.gs 900103 2 [],.gs 900104 8 []]),(900100,.tok 3 0),(900101,.tok 3 0),(900102,.tok 4 0),(900103,.tok 2 0),(900104,.tok 8 0),(1000000,pB l1 e 0)],[0,2],λ(q:Sy.Str×Int×Int×List Tk)=>match q with |(s,a,t,l1)=>wF s a t l1=(o,l')/\l1.length<=l.length,λ_=>0⟩,?_,?_⟩;rotate_left;rintro⟨s,a,t,l1⟩ hI)
  |refine⟨(s1,a1,(hd (l2.drop 1)).n,((l2.drop 1).drop 1).drop 1),za2 hM ‹isT gW l=true› h_s1 ‹isT kH l1=true› h_a1 ‹isT Hg l2=true› ‹lM (l2.drop 1)=true› ‹isT z5e ((l2.drop 1).drop 1)=true›,?_⟩
  |refine⟨(s1,a1,-1,((l2.drop 1).drop 1).drop 1),za4 hM ‹isT gW l=true› h_s1 ‹isT kH l1=true› h_a1 ‹isT Hg l2=true› ‹lM (l2.drop 1)=false› ‹isT ww (l2.drop 1)=true› ‹isT z5e ((l2.drop 1).drop 1)=true›,?_⟩
  |((refine wC 192 (jU decls (p0 s a t) l1) (λp1 l2=>⟨λhR1=>?_,λhR1=>?_⟩));(refine lent_step' [(1000000,1000000),(1000001,2),(1000002,900100),(1000003,900101),(1000004,900102),(1000005,900103),(1000006,900104),(1000007,31)] (CU e l1 (p0 s a t) true p1 l2 (sz0 (Nat.le_trans hI.2 hl)) hR1) rfl ⟨rfl,rfl,rfl,rfl,rfl,rfl,rfl,rfl,trivial⟩ rfl ?_);rotate_left;(refine lent_step' [(1000000,1000000),(1000001,2),(1000002,900100),(1000003,900101),(1000004,900102),(1000005,900103),(1000006,900104),(1000007,31)] (CU e l1 (p0 s a t) false p1 l2 (sz0 (Nat.le_trans hI.2 hl)) hR1) rfl ⟨rfl,rfl,rfl,rfl,rfl,rfl,rfl,rfl,trivial⟩ rfl ?_))
  |((refine wC 192 (jU stmts p1 l2) (λp2 l3=>⟨λhR2=>?_,λhR2=>?_⟩));(refine lent_step' [(1000000,1000000),(1000001,2),(1000002,900100),(1000003,900101),(1000004,900102),(1000005,900103),(1000006,900104),(1000007,35)] (CV e l2 p1 true p2 l3 (J4 hR1 (sz0 (Nat.le_trans hI.2 hl))) hR2) rfl ⟨rfl,rfl,rfl,rfl,rfl,rfl,rfl,rfl,trivial⟩ rfl ?_);rotate_left;(refine lent_step' [(1000000,1000000),(1000001,2),(1000002,900100),(1000003,900101),(1000004,900102),(1000005,900103),(1000006,900104),(1000007,35)] (CV e l2 p1 false p2 l3 (J4 hR1 (sz0 (Nat.le_trans hI.2 hl))) hR2) rfl ⟨rfl,rfl,rfl,rfl,rfl,rfl,rfl,rfl,trivial⟩ rfl ?_))
  |((refine bD ?_);(have hE:=za5 hI.1 hR1);(obtain⟨rfl,rfl⟩:=hE);refine aV ?_;refine fin_step' [(1000000,1000000)] rfl ?_ ?_)
  |((refine bD ?_);(have hE:=za6 hI.1 hR1 hR2);(obtain⟨rfl,rfl⟩:=hE);refine aV ?_;refine fin_step' [(1000000,1000000)] rfl ?_ ?_)
  |((refine bD ?_);(have hE:=za7 hI.1 hR1 hR2 ‹isT zcs l3=false›);(obtain⟨rfl,rfl⟩:=hE);refine aV ?_;refine fin_step' [(1000000,1000000)] rfl ?_ ?_)
  |((refine jE ?_);(have hE:=zgl hI.1 hR1 hR2 ‹isT zcs l3=true›);(obtain⟨rfl,rfl⟩:=hE);refine gX ?_;(conv=>whnf);refine fin_step' [(1000000,1000000)] rfl ?_ ?_)
  |((refine bD ?_);(have hE:=za3 hM ‹isT gW l=true› h_s1 ‹isT kH l1=true› h_a1 ‹isT Hg l2=true› ‹lM (l2.drop 1)=true› ‹isT z5e ((l2.drop 1).drop 1)=false›);(obtain⟨rfl,rfl⟩:=hE);refine aV ?_;refine fin_step' [(1000000,1000000)] rfl ?_ ?_)
  |((refine bD ?_);(try simp only[Bool.not_true,Bool.not_false,cond_true,cond_false,bne,Bool.not_eq_true',Bool.not_eq_false']at *);(simp only[zL,bnd,bz,reduceIte,Bool.false_eq_true, *]at hM);(obtain⟨rfl,rfl⟩:=fG hM);refine aV ?_;refine fin_step' [(1000000,1000000)] rfl ?_ ?_)
  |exact trivial
  |refine BrI.intro (λh=>?_) (λh=>?_)
  |refine I4.l ?_
  |((refine dE ?_ ?_);exact rfl)
  |((refine dU ?_ ?_ ?_);rotate_left;exact jq _ _ _)
  |refine aI.l _ ?_
  |((refine bY ?_ ?_ ?_ ?_ ?_ ?_)<;>exact rfl)
  |((refine di ?_ ?_ ?_ ?_)<;>exact rfl)
  |refine And.intro ?_ ?_
  |exact @rfl AV _)
 all_goals rfl
theorem Yk(es:List (List D))(d1 d2:D)(v:Int):yT Tryz.prog 140 [.ptr 1000000 0,.ptr 1000001 0,.ptr 1000002 0] (some (.iface 186 (.agg [.i v]))) [(1000000,.cells [.gs 1000003 8 es]),(1000001,.cells [.data d1]),(1000002,.cells [.data d2]),(1000003,.tok 8 es.length)]
  [(1000000,.cells [.nilsl 8]),(1000001,.cells [.data (.i v)]),(1000002,.cells [.data (.i 140)]),(1000003,.tok 8 es.length)]:=by
 refine dS tok hmix Tryz.func140 rfl (by kernel_rfl) (by kernel_rfl) (by kernel_rfl) ?_
 repeat' ((try conv=>whnf)<;>first
  |exact trivial
  |refine eQ ?_
  |refine⟨([]:List (Nat×Nat)),?_⟩
  |refine⟨by kernel_rfl,?_⟩
  |refine⟨rfl,?_⟩
  |refine⟨?_,?_⟩)
theorem z2f(es:List (List D))(d1 d2:D):yT Tryz.prog 140 [.ptr 1000000 0,.ptr 1000001 0,.ptr 1000002 0] none [(1000000,.cells [.gs 1000003 8 es]),(1000001,.cells [.data d1]),(1000002,.cells [.data d2]),(1000003,.tok 8 es.length)] [(1000000,.cells [.gs 1000003 8 es]),(1000001,.cells [.data d1]),(1000002,.cells [.data d2]),(1000003,.tok 8 es.length)]:=by
 refine dS tok hmix Tryz.func140 rfl (by kernel_rfl) (by kernel_rfl) (by kernel_rfl) ?_
 repeat' ((try conv=>whnf)<;>first
  |exact trivial
  |refine⟨([]:List (Nat×Nat)),?_⟩
  |refine⟨by kernel_rfl,?_⟩
  |refine⟨rfl,?_⟩
  |refine⟨?_,?_⟩)
theorem KH(l:List Tk)(e:Int)(hl:l.length<=1073741823):PCall Tryz.prog 110 [.sl 4 (l.map Tk.cs),.i e] (.ret (z1f e (readM l))):=by
 refine aj Tryz.func110 ?_
 repeat' ((try conv=>whnf)<;>first
  |((refine bK _ _ _ [true,true,true] ?_ ?_ ?_);exact rfl;kernel_rfl)
  |((refine quiet_step ?_ ?_);kernel_rfl)
  |((refine zf9 (d:=0) zba (λl=>l.length<=1073741823) (λl o l' hl h=>Yj l e o l' hl h) ?_);refine⟨_,_,rfl,rfl,rfl,zio hI0,λp l2 h_p=>?_,λl2 h_p=>?_⟩)
  |refine dm (n-1,ps++[p],l2) ?_ (zgo hI0 ‹decide (((l1.map Tk.cs).length:Int)>0)=true› h_p) (za9 hI0 ‹decide (((l1.map Tk.cs).length:Int)>0)=true›)
  |((refine NL ?_);refine⟨_,_,_,[(1000000,4),(1000001,5),(1000002,6),(1000003,900200)],z2f _ _ _,rfl,⟨rfl,rfl,rfl,rfl,trivial⟩,rfl,?_⟩;(rw[zgp hI0 ‹decide (((l1.map Tk.cs).length:Int)>0)=false›]);(conv=>whnf);refine fin_step' [] rfl ?_ ?_)
  |((rw[zgn hI0 ‹decide (((l1.map Tk.cs).length:Int)>0)=true› h_p]);(refine CB ?_);refine⟨_,_,_,[(1000000,4),(1000001,5),(1000002,6),(1000003,900200)],Yk _ _ _ _,rfl,⟨rfl,rfl,rfl,rfl,trivial⟩,rfl,?_⟩;(conv=>whnf);refine fin_step' [] rfl ?_ ?_)
  |exact trivial
  |refine BrI.intro (λh=>?_) (λh=>?_)
  |((refine au.mk 0 ?_);refine⟨lG (λ(q:(Nat)×(List Pr)×(List Tk))=>match q with |(n,ps,l1)=>[]) (λ(q:(Nat)×(List Pr)×(List Tk))=>match q with |(n,ps,l1)=>[(4,.cells [.gs 900200 8 (ps.map Pr.cs)]),(900200,.tok 8 (ps.map Pr.cs).length),(12,pB l1 e 0)]) [4,5,6,7,999999] (λ(q:(Nat)×(List Pr)×(List Tk))=>match q with |(n,ps,l1)=>RdI (readM l) n ps l1) (λ(q:(Nat)×(List Pr)×(List Tk))=>match q with |(n,ps,l1)=>n),?_⟩;refine eH ((l.length),([]),(l)) ?_ ?_ (λ⟨n,ps,l1⟩ hI0=>?_))
  |refine aI.l _ ?_
  |((refine bY ?_ ?_ ?_ ?_ ?_ ?_)<;>exact rfl)
  |((refine di ?_ ?_ ?_ ?_)<;>exact rfl)
  |refine wP ?_ ?_ ?_
  |refine eQ ?_
  |((refine eF ?_ ?_);kernel_rfl)
  |refine And.intro ?_ ?_
  |((refine mZ ?_ ?_ ?_);exact rfl;exact rfl;(first |exact bC |skip))
  |((refine gy ?_ ?_);exact rfl;(first |exact bC |skip))
  |exact @rfl AV _
  |exact dQ rfl)
 all_goals first
  |rfl
  |exact zgm hl
  |exact z1g hI0
theorem TR(s:Sy.Str)(hL:decide ((s.length:Int)>65536)=true):PCall Tryz.prog 58 [.str s] (.ret (.tuple [.sl 8 [],.i 0,.i 2])):=by
 refine aj Tryz.func58 ?_
 repeat' ((try conv=>whnf)<;>first
  |((refine x9 ?_ ?_);rfl)
  |((refine ah ?_ ?_ ?_);rotate_left;exact z2d s hL)
  |(refine cO ?_;conv=>whnf))
 all_goals rfl
theorem Yl(s:Sy.Str)(a:Nat)(hL:decide ((s.length:Int)>65536)=false)(hl:lexR pStep s 0 = .error a):PCall Tryz.prog 58 [.str s] (.ret (.tuple [.sl 8 [],.i (a:Nat),.i 30])):=by
 refine dh Tryz.func58 λhf=>?_
 have hq:=CQ s hL;rw[hl]at hq
 clear hf
 repeat' ((try conv=>whnf)<;>first
  |((refine x9 ?_ ?_);rfl)
  |((refine ah ?_ ?_ ?_);rotate_left;exact hq)
  |(refine cO ?_;conv=>whnf))
 all_goals rfl
theorem z2g(s:Sy.Str)(l:List Tk)(hL:decide ((s.length:Int)>65536)=false)(hl:lexR pStep s 0 = .ok l)(hn:l.length<=1073741823)(hR:(readM l).1=none):PCall Tryz.prog 58 [.str s] (.ret (.tuple [.sl 8 [],.i (at' (s.length:Int) (readM l).2),.i 140])):=by
 refine dh Tryz.func58 λhf=>?_
 have hq:=CQ s hL;rw[hl]at hq
 have hr:=KH l (s.length:Int) hn;rw[Ff hR]at hr
 clear hf
 repeat' ((try conv=>whnf)<;>first
  |((refine xZ ?_ ?_);rfl)
  |((refine ah ?_ ?_ ?_);rotate_left;(first |exact hq |exact hr))
  |(refine cO ?_;conv=>whnf))
theorem z2h(s:Sy.Str)(l:List Tk)(ps:List Pr)(hL:decide ((s.length:Int)>65536)=false)(hl:lexR pStep s 0 = .ok l)(hn:l.length<=1073741823)(hR:(readM l).1=some ps):PCall Tryz.prog 58 [.str s] (.ret (.tuple [prs ps,.i 0,.i 0])):=by
 refine dh Tryz.func58 λhf=>?_
 have hq:=CQ s hL;rw[hl]at hq
 have hr:=KH l (s.length:Int) hn;rw[readD_some hR]at hr
 clear hf
 repeat' ((try conv=>whnf)<;>first
  |((refine xZ ?_ ?_);rfl)
  |((refine ah ?_ ?_ ?_);rotate_left;(first |exact hq |exact hr))
  |(refine cO ?_;conv=>whnf))
theorem TS(s:Sy.Str)(hn:∀l,lexR pStep s 0 = .ok l->l.length<=1073741823):PCall Tryz.prog 58 [.str s] (.ret (parseD s)):=by
 unfold parseD
 cases hL:decide ((s.length:Int)>65536)with
 |true=>exact TR s hL
 |false=>
  cases hl:lexR pStep s 0 with
  |error a=>exact Yl s a hL hl
  |ok l=>
   cases hR:(readM l).1 with
   |none=>simp only[Ff hR];exact z2g s l hL hl (hn l hl) hR
   |some ps=>simp only[readD_some hR];exact z2h s l ps hL hl (hn l hl) hR
end Go.Proofs.YtgehpmgkaeohaaaGreatDoor
namespace Go.Proofs.YtgehpmgkaeohaaaGreatDoor
open Go.Fw Go.Fw.Ref15 Go.Fw.Sy
set_option maxRecDepth 10000
variable [ae]
theorem Oe(x:Ex)  : PCall Tryz.prog 111 [x.d] (.ret (.i (count x))):=by
 revert x;refine Ex.ind λx ih=>?_
 refine dh Tryz.func111 λhf=>?_
 have hlen:=Ex.fits (hf x.d (by simp))
 clear hf
 repeat' ((try conv=>whnf)<;>first
  |refine NS hd0 ?_
  |refine J6 hd0 ?_
  |exact trivial
  |exact ai hd0 ‹_›
  |refine BrI.intro (λh=>?_) (λh=>?_)
  |((refine au.mk 0 ?_);refine⟨aH (x.l) 4 (λ(n:(Int))=>[(3,.data (.val (.int .i64 n)))]) (λ(n:(Int))=>[]) [1] (λi0 r0 n=>fD x.l 1=fD r0 n/\1<=n/\n<=2100),?_⟩;refine af ?_ ?_ ?_ (λi0 (n:(Int)) hd0 hI0=>?_) (λi0 x0 r0 (n:(Int)) hd0 hl0 hI0=>?_))
  |refine ag hd0 ?_ ?_ ?_
  |((refine ah ?_ ?_ ?_);rotate_left;(exact ih _ (bU hd0)))
  |((refine aB ?_ ?_ ?_ ?_ ?_);rfl;rfl;rotate_left;exact eY hd0)
  |refine oK ?_
  |(refine cO ?_;conv=>whnf)
  |refine And.intro ?_ ?_
  |exact @rfl AV _)
 all_goals first
  |decide
  |(rw[z5r,count_eq,hI0.1];rfl)
  |rw[z5r,count_eq,hI0.1,NQ (of_decide_eq_false h)]
  |(have h:=of_decide_eq_true h;have h1:=J5 x0;have h2:=count_le x0;rw[bM (by omega) (by omega)];first |omega |(rw[hI0.1,fD,if_pos h]))
theorem Ym(p:Pr)  : PCall Tryz.prog 59 [p.d] (.ret (.b (fewP p))):=by
 refine dh Tryz.func59 λhf=>?_
 have hq:=Pr.fits (hf p.d (by simp))
 have hlen1:=hq.stmts;have hlen2:=hq.tables
 clear hf
 repeat' ((try conv=>whnf)<;>first
  |exact trivial
  |exact ai hd2 ‹_›
  |exact ai hd0 ‹_›
  |refine bu hd2 ?_
  |refine bu hd0 ?_
  |refine aP hd2 ?_
  |refine aP hd0 ?_
  |refine BrI.intro (λh=>?_) (λh=>?_)
  |((refine au.mk 0 ?_);have hs:=zgr h;refine⟨aH (p.tables) 4 (λ(n:(Int))=>[(3,.data (.val (.int .i64 n)))]) (λ(n:(Int))=>[]) [1] (λi0 r0 n=>NR p.tables 0=NR r0 n/\0<=n/\n+1000 * (r0.length:Int)<=20000),?_⟩;refine af ?_ ?_ ?_ (λi0 (n:(Int)) hd0 hI0=>?_) (λi0 x0 r0 (n:(Int)) hd0 hl0 hI0=>?_))
  |refine ag hd0 ?_ ?_ ?_
  |((refine au.mk 2 ?_);refine⟨aH (p.stmts) 5 (λ(n:(Int))=>[(3,.data (.val (.int .i64 n)))]) (λ(n:(Int))=>[]) [1] (λi2 r2 n=>zct p.stmts (NR p.tables 0)=zct r2 n/\0<=n/\n+1001 * (r2.length:Int)<=100000),?_⟩;refine af ?_ ?_ ?_ (λi2 (n:(Int)) hd2 hI2=>?_) (λi2 x2 r2 (n:(Int)) hd2 hl2 hI2=>?_))
  |refine ag hd2 ?_ ?_ ?_
  |((refine ah ?_ ?_ ?_);rotate_left;exact Oe _)
  |((refine aB ?_ ?_ ?_ ?_ ?_);rfl;rfl;rotate_left;(first |exact ay hd2 |exact ay hd0))
  |refine oK ?_
  |(refine cO ?_;conv=>whnf)
  |refine And.intro ?_ ?_
  |exact @rfl AV _)
 all_goals first
  |exact congrArg D.b (zgs h).symm
  |exact congrArg D.b (zbd h hI2.1).symm
  |(rw[hI0.1];rfl)
  |decide
  |(have:=hs.tables;omega)
  |(have h1:=hI0.2.2;have:=hs.stmts;simp only[List.length_nil]at h1;omega)
  |(have h0:=hI0.2.2;have h1:=Tq (n:=x0.values.length) (by omega);simp only[List.length_map,zbe,List.length_cons]at h0 ⊢;rw[bM (by omega) (by omega)];first |omega |(rw[hI0.1,NR]))
  |(have h0:=hI2.2.2;have h1:=J5 x2.x;have h2:=count_le x2.x;simp only[List.length_cons]at h0;rw[bM (by omega) (by omega)];first |omega |(rw[hI2.1,zct]))
end Go.Proofs.YtgehpmgkaeohaaaGreatDoor
