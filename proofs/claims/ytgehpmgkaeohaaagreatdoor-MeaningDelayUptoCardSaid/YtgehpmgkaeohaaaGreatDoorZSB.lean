/- A part of the proof. -/
import Derived.Test.YtgehpmgkaeohaaaGreatDoorZLY
import Derived.Test.YtgehpmgkaeohaaaGreatDoorZSY
set_option linter.all false
set_option maxHeartbeats 400000
namespace Go.Proofs.YtgehpmgkaeohaaaGreatDoor
open Go.Fw Go.Fw.Lx Go.Fw.Sy
set_option maxRecDepth 10000
variable [ae]
theorem z95(s:Sy.Str)(l:List Tk)(e d:Int)  : PCall Tryz.prog 252 [.ptr [.sl 4 (l.map Tk.cs),.i e,.i d],.str s] (.ret (.b (isT s l))):=by
 refine ak Tryz.func252 ?_
 repeat' ((try conv=>whnf)<;>first
  |((refine sG ?_ ?_ ?_ ?_);exact⟨rfl,rfl⟩;rfl;(simp[mQ]at hg;omega))
  |((refine aK ?_ ?_ (λhg=>?_) ?_);rfl)
  |((refine bf ?_ ?_);rfl;rfl)
  |(refine dm ?_;conv=>whnf))
 all_goals (simp only[isT,Nb];cases l.isEmpty<;>cases (hd l).kind != 2<;>rfl)
theorem jr(l:List Tk)(e d:Int)  : PCall Tryz.prog 191 [.ptr [.sl 4 (l.map Tk.cs),.i e,.i d]] (.ret (.b (lL l))):=by
 refine ak Tryz.func191 ?_
 repeat' ((try conv=>whnf)<;>first
  |((refine sG ?_ ?_ ?_ ?_);exact⟨rfl,rfl⟩;rfl;(simp[mQ]at hg;omega))
  |((refine aK ?_ ?_ (λhg=>?_) ?_);rfl)
  |((refine bf ?_ ?_);rfl;rfl)
  |(refine dm ?_;conv=>whnf))
 all_goals (simp only[lL,Nb];cases l.isEmpty<;>cases (hd l).kind==2<;>rfl)
theorem SL   : PCall Tryz.prog 254 [] (.ret (strs words)):=by
 refine ak Tryz.func254 ?_
 repeat' ((try conv=>whnf)<;>first
  |refine aF.l _ ?_
  |(refine dm ?_;conv=>whnf))
 all_goals rfl
theorem Nz(l:List Sy.Str)(v:Sy.Str)  : PCall Tryz.prog 264 [strs l,.str v] (.ret (.i (FY v l 0))):=by
 refine dJ Tryz.func264 λhf=>?_
 have hlen:l.length<=9223372036854775807:=by simpa using(hf (.sl 1 (l.map z1t)) (by simp)).sl.1
 clear hf
 repeat' ((try conv=>whnf)<;>first
  |exact trivial
  |exact ai hd0 ‹_›
  |refine bM hd0 ?_
  |refine aU hd0 ?_
  |refine BrI.intro (λh=>?_) (λh=>?_)
  |((refine ax.mk 0 ?_);refine⟨aJ (l) 8 (λ(_:Unit)=>[]) (λ(_:Unit)=>[]) [0,1,7] (λi0 r0 _=>FY v l 0=FY v r0 i0),?_⟩;refine af () ?_ ?_ (λi0 (_:Unit) hd0 hI0=>?_) (λi0 x0 r0 (_:Unit) hd0 hl0 hI0=>?_))
  |refine ag hd0 () ?_ ?_
  |((refine aH ?_ ?_ ?_ ?_ ?_);rfl;rfl;rotate_left;exact aG hd0)
  |(refine dm ?_;conv=>whnf)
  |refine And.intro ?_ ?_
  |exact @rfl AV _)
 all_goals first
  |(rw[hI0];(try simp only[FY,Bool.not_true,Bool.not_false,Bool.and_true,Bool.true_and,Bool.and_false,Bool.false_and,Bool.or_true,Bool.true_or,Bool.or_false,Bool.false_or,if_true,if_false,reduceIte,Bool.false_eq_true,Bool.not_not,Bool.not_eq_true',beq_self_eq_true,List.all_cons,List.all_nil,List.any_cons,List.any_nil,List.length_map,bne,eq_self,Int.toNat_zero, *]);first |done |rfl)
  |simp_all[FY]
theorem Xz(l:List Sy.Str)(v:Sy.Str)  : PCall Tryz.prog 253 [strs l,.str v] (.ret (.b (decide (FY v l 0>=0)))):=by
 refine ak Tryz.func253 ?_
 repeat' ((try conv=>whnf)<;>first
  |((refine ah ?_ ?_ ?_);rotate_left;exact Nz _ _)
  |(refine dm ?_;conv=>whnf))
theorem ul(l:List Tk)(e d:Int)  : PCall Tryz.prog 232 [.ptr [.sl 4 (l.map Tk.cs),.i e,.i d]] (.ret (.b (ZP l))):=by
 refine ak Tryz.func232 ?_
 repeat' ((try conv=>whnf)<;>first
  |((refine sG ?_ ?_ ?_ ?_);exact⟨rfl,rfl⟩;rfl;(simp[mQ]at hg;omega))
  |((refine ah ?_ ?_ ?_);rotate_left;(first |exact SL |exact Xz _ _))
  |((refine AQ ?_ ?_ (λhg=>?_) ?_);rfl)
  |((refine bf ?_ ?_);rfl;rfl)
  |refine eU ?_
  |(refine dm ?_;conv=>whnf))
 all_goals (simp only[ZP,Nb,ZV];cases l.isEmpty<;>cases (hd l).kind==1<;>rfl)
theorem iF(s:Sy.Str)(l:List Tk)(e d:Int)  : aj Tryz.prog 230 [.ptr 1000000 0,.data (.str s)] [(1000000,pB l e d)] (.ret (.data (.b (isT s l)))) [(1000000,pB (bif isT s l then l.drop 1 else l) e d)]:=by
 refine aS Tryz.func230 ?_
 repeat' ((try conv=>whnf)<;>first
  |exact trivial
  |refine BrI.intro (λh=>?_) (λh=>?_)
  |((refine ry ?_ ?_ ?_);exact⟨rfl,rfl⟩;exact zfm (ui h))
  |((refine dC ?_ ?_);rfl)
  |((refine dS ?_ ?_ ?_);rotate_left;exact z95 _ _ _ _)
  |((refine bg ?_);refine fin_step' [(1000000,1000000)] rfl ?_ ?_)
  |refine And.intro ?_ ?_)
 all_goals first
  |(rw[h];exact congrArg (D.sl 4) ZU)
  |(rw[h];rfl)
theorem jV(l:List Tk)(e d:Int)  : aj Tryz.prog 231 [.ptr 1000000 0] [(1000000,pB l e d)] (.pan (.data (lQ 186 e l))) [(1000000,pB l e d)]:=by
 refine aS Tryz.func231 ?_
 repeat' ((try conv=>whnf)<;>first
  |exact trivial
  |refine BrI.intro (λh=>?_) (λh=>?_)
  |((refine sG ?_ ?_ ?_ ?_);exact⟨rfl,rfl⟩;rfl;(simp at h;omega))
  |((refine dw ?_);refine fin_step' [(1000000,1000000)] rfl ?_ ?_)
  |refine And.intro ?_ ?_)
 all_goals first
  |exact ZW h
  |exact Xi h
theorem SN(ws:List Sy.Str)(l:List Tk)(e d:Int)(o:Option Unit)(l':List Tk)(hlen:ws.length<=9223372036854775807)(hM:JB ws l=(o,l')):aj Tryz.prog 188 [.ptr 1000000 0,.gs 1000001 1 (ws.map z1t)] [(1000000,pB l e d),(1000001,.tok 1 (ws.map z1t).length)] (kz 186 (λ_:Unit=>.tuple []) e o l') [(1000000,pB l' e d),(1000001,.tok 1 (ws.map z1t).length)]:=by
 refine aS Tryz.func188 ?_
 repeat' ((try conv=>whnf)<;>first
  |((refine xJ ?_ ?_);exact rfl)
  |((refine xI ?_ ?_);exact rfl)
  |((refine Dl (λs l=>iF s l e d) ?_);refine⟨_,_,_,rfl,rfl,rfl,λhT _=>?_,λhT=>?_⟩)
  |((refine JA (λl=>jV l e d) ?_);refine⟨_,_,rfl,rfl,rfl,?_⟩)
  |((refine jD ?_);(try simp only[Bool.not_true,Bool.not_false,cond_true,cond_false,bne,Bool.not_eq_true',Bool.not_eq_false']at *);(rw[hI0]at hM);(simp only[JB,reduceIte,Bool.false_eq_true, *]at hM);(obtain⟨rfl,rfl⟩:=fD hM);refine gY ?_;(conv=>whnf);refine fin_step' [(1000000,1000000),(1000001,1000001)] rfl ?_ ?_)
  |((refine bD ?_);(try simp only[Bool.not_true,Bool.not_false,cond_true,cond_false,bne,Bool.not_eq_true',Bool.not_eq_false']at *);(rw[hI0]at hM);(simp only[JB,reduceIte,Bool.false_eq_true, *]at hM);(obtain⟨rfl,rfl⟩:=fD hM);refine aV ?_;refine fin_step' [(1000000,1000000),(1000001,1000001)] rfl ?_ ?_)
  |exact trivial
  |exact ai hd0 ‹_›
  |refine bM hd0 ?_
  |refine aU hd0 ?_
  |((refine ax.mk 0 ?_);refine⟨aJ (ws) 8 (λ(l1:(List Tk))=>[]) (λ(l1:(List Tk))=>[(1000000,pB l1 e d)]) [0,6,7] (λi0 r0 l1=>JB ws l=JB r0 l1),?_⟩;refine af (l) ?_ ?_ (λi0 (l1:(List Tk)) hd0 hI0=>?_) (λi0 x0 r0 (l1:(List Tk)) hd0 hl0 hI0=>?_))
  |refine ag hd0 (l1.drop 1) ?_ ?_
  |((refine aH ?_ ?_ ?_ ?_ ?_);exact rfl;exact rfl;rotate_left;exact aG hd0)
  |refine And.intro ?_ ?_
  |exact @rfl AV _)
 all_goals (rw[hI0];simp only[JB,hT,if_true])
theorem iG(s:Sy.Str)(l:List Tk)(e d:Int)(o:Option Unit)(l':List Tk)(hM:bu s l=(o,l')):aj Tryz.prog 188 [.ptr 1000000 0,.gs 1000001 1 [[.str s]]] [(1000000,pB l e d),(1000001,.tok 1 1)] (kz 186 (λ_:Unit=>.tuple []) e o l') [(1000000,pB l' e d),(1000001,.tok 1 1)]:=
 SN [s] l e d o l' (by simp) (by rw[Xg];exact hM)
theorem jW(l:List Tk)(e d:Int)(o:Option (Sy.Str))(l':List Tk)(hM:oP l=(o,l')):aj Tryz.prog 189 [.ptr 1000000 0] [(1000000,pB l e d)] (kz 186 (λs=>.str s) e o l') [(1000000,pB l' e d)]:=by
 refine aS Tryz.func189 ?_
 repeat' ((try conv=>whnf)<;>first
  |((refine JA (λl=>jV l e d) ?_);refine⟨_,_,rfl,rfl,rfl,?_⟩)
  |((refine jD ?_);(try simp only[Bool.not_true,Bool.not_false,cond_true,cond_false,bne,Bool.not_eq_true',Bool.not_eq_false']at *);(simp only[oP,reduceIte,Bool.false_eq_true, *]at hM);(obtain⟨rfl,rfl⟩:=fD hM);refine gY ?_;(conv=>whnf);refine fin_step' [(1000000,1000000)] rfl ?_ ?_)
  |((refine bD ?_);(try simp only[Bool.not_true,Bool.not_false,cond_true,cond_false,bne,Bool.not_eq_true',Bool.not_eq_false']at *);(simp only[oP,reduceIte,Bool.false_eq_true, *]at hM);(obtain⟨rfl,rfl⟩:=fD hM);refine aV ?_;refine fin_step' [(1000000,1000000)] rfl ?_ ?_)
  |exact trivial
  |refine BrI.intro (λh=>?_) (λh=>?_)
  |((refine sG ?_ ?_ ?_ ?_);exact⟨rfl,rfl⟩;exact rfl;(exact PX (by simpa using h)))
  |((refine ry ?_ ?_ ?_);exact⟨rfl,rfl⟩;exact zfm (PX (by simpa using h)))
  |((refine dC ?_ ?_);exact rfl)
  |((refine dS ?_ ?_ ?_);rotate_left;exact ul _ _ _)
  |refine And.intro ?_ ?_)
 all_goals exact congrArg (D.sl 4) ZU
theorem iT(l:List Tk)(e d:Int)(o:Option (Int))(l':List Tk)(hM:zl l=(o,l')):aj Tryz.prog 190 [.ptr 1000000 0] [(1000000,pB l e d)] (kz 186 (λn=>.i n) e o l') [(1000000,pB l' e d)]:=by
 refine aS Tryz.func190 ?_
 repeat' ((try conv=>whnf)<;>first
  |((refine JA (λl=>jV l e d) ?_);refine⟨_,_,rfl,rfl,rfl,?_⟩)
  |((refine jD ?_);(try simp only[Bool.not_true,Bool.not_false,cond_true,cond_false,bne,Bool.not_eq_true',Bool.not_eq_false']at *);(simp only[zl,reduceIte,Bool.false_eq_true, *]at hM);(obtain⟨rfl,rfl⟩:=fD hM);refine gY ?_;(conv=>whnf);refine fin_step' [(1000000,1000000)] rfl ?_ ?_)
  |((refine bD ?_);(try simp only[Bool.not_true,Bool.not_false,cond_true,cond_false,bne,Bool.not_eq_true',Bool.not_eq_false']at *);(simp only[zl,reduceIte,Bool.false_eq_true, *]at hM);(obtain⟨rfl,rfl⟩:=fD hM);refine aV ?_;refine fin_step' [(1000000,1000000)] rfl ?_ ?_)
  |exact trivial
  |refine BrI.intro (λh=>?_) (λh=>?_)
  |((refine sG ?_ ?_ ?_ ?_);exact⟨rfl,rfl⟩;exact rfl;(exact BP (by simpa using h)))
  |((refine ry ?_ ?_ ?_);exact⟨rfl,rfl⟩;exact zfm (BP (by simpa using h)))
  |((refine dC ?_ ?_);exact rfl)
  |((refine dS ?_ ?_ ?_);rotate_left;exact jr _ _ _)
  |refine And.intro ?_ ?_)
 all_goals exact congrArg (D.sl 4) ZU
theorem yx(l:List Tk)(e d:Int)(o:Option (Int))(l':List Tk)(hM:PT l=(o,l')):aj Tryz.prog 236 [.ptr 1000000 0] [(1000000,pB l e d)] (kz 186 (λn=>.i n) e o l') [(1000000,pB l' e d)]:=by
 refine aS Tryz.func236 ?_
 repeat' ((try conv=>whnf)<;>first
  |((refine Dl (λs l=>iF s l e d) ?_);refine⟨_,_,_,rfl,rfl,rfl,λhT _=>?_,λhT=>?_⟩)
  |((refine kH (d:=d) [] (λl=>iT l e d) ?_);refine⟨_,_,rfl,rfl,rfl,λn l1 h_n=>?_,λl1 h_n=>?_⟩)
  |((refine xJ ?_ ?_);exact rfl)
  |((refine xI ?_ ?_);exact rfl)
  |((refine jD ?_);(try simp only[Bool.not_true,Bool.not_false,cond_true,cond_false,bne,Bool.not_eq_true',Bool.not_eq_false']at *);(simp only[PT,bnd,reduceIte,Bool.false_eq_true, *]at hM);(obtain⟨rfl,rfl⟩:=fD hM);refine gY ?_;(conv=>whnf);refine fin_step' [(1000000,1000000)] rfl ?_ ?_)
  |((refine bD ?_);(try simp only[Bool.not_true,Bool.not_false,cond_true,cond_false,bne,Bool.not_eq_true',Bool.not_eq_false']at *);(simp only[PT,bnd,reduceIte,Bool.false_eq_true, *]at hM);(obtain⟨rfl,rfl⟩:=fD hM);refine aV ?_;refine fin_step' [(1000000,1000000)] rfl ?_ ?_)
  |exact trivial
  |refine And.intro ?_ ?_)
theorem JW(u:PM Ex)(e d:Int)(l:List Tk)(o:Option (Ex))(l':List Tk)(hu:(∀l o l',u l=(o,l')->aj Tryz.prog 276 [.ptr 1000000 0] [(1000000,pB l e d)] (kz 186 Ex.d e o l') [(1000000,pB l' e d)]))(hs:Sh u)(hM:prodM u l=(o,l')):aj Tryz.prog 273 [.ptr 1000000 0] [(1000000,pB l e d)] (kz 186 Ex.d e o l') [(1000000,pB l' e d)]:=by
 refine aS Tryz.func273 ?_
 repeat' ((try conv=>whnf)<;>first
  |((refine bP _ _ _ [true,true,true] ?_ ?_ ?_);exact rfl;kernel_rfl)
  |((refine bP _ _ _ [false,false,true,true] ?_ ?_ ?_);exact rfl;kernel_rfl)
  |((refine quiet_step ?_ ?_);kernel_rfl)
  |((refine xJ ?_ ?_);exact rfl)
  |((refine xI ?_ ?_);exact rfl)
  |((refine Dl (λs l=>iF s l e d) ?_);refine⟨_,_,_,rfl,rfl,rfl,λhT _=>?_,λhT=>?_⟩)
  |((refine JA (λl=>jV l e d) ?_);refine⟨_,_,rfl,rfl,rfl,?_⟩)
  |((refine kH (d:=d) [] (λl=>hu l) ?_);refine⟨_,_,rfl,rfl,rfl,λy l2 h_y=>?_,λl2 h_y=>?_⟩)
  |((refine kH (d:=d) [] (λl=>iT l e d) ?_);refine⟨_,_,rfl,rfl,rfl,λk l3 h_k=>?_,λl3 h_k=>?_⟩)
  |refine cZ (.mk 18 [] 0 k [x],l3,n-1) ?_ ?_ ?_
  |refine cZ (ex2 17 x y,l2,n-1) ?_ ?_ ?_
  |((refine bD ?_);(have hE:=z8o hM h_y);(obtain⟨rfl,rfl⟩:=hE);refine aV ?_;refine fin_step' [(1000000,1000000)] rfl ?_ ?_)
  |((refine bD ?_);(have hE:=z8p hI0 ‹isT qG l1=true› h_y);(obtain⟨rfl,rfl⟩:=hE);refine aV ?_;refine fin_step' [(1000000,1000000)] rfl ?_ ?_)
  |((refine bD ?_);(have hE:=z8r hI0 ‹isT qG l1=false› ‹isT o9 l1=true› h);(obtain⟨rfl,rfl⟩:=hE);refine aV ?_;refine fin_step' [(1000000,1000000)] rfl ?_ ?_)
  |((refine bD ?_);(have hE:=z8s hI0 ‹isT qG l1=false› ‹isT o9 l1=true› h h_k);(obtain⟨rfl,rfl⟩:=hE);refine aV ?_;refine fin_step' [(1000000,1000000)] rfl ?_ ?_)
  |((refine jD ?_);(have hE:=zd8 hI0 ‹isT qG l1=false› ‹isT o9 l1=false›);(obtain⟨rfl,rfl⟩:=hE);refine gY ?_;(conv=>whnf);refine fin_step' [(1000000,1000000)] rfl ?_ ?_)
  |exact trivial
  |refine BrI.intro (λh=>?_) (λh=>?_)
  |((refine sG ?_ ?_ ?_ ?_);exact⟨rfl,rfl⟩;exact rfl;(exact BP (by simpa[mQ]using hg)))
  |((refine ax.mk 0 ?_);refine⟨lF (λ(q:(Ex)×(List Tk)×(Nat))=>match q with |(x,l1,n)=>[]) (λ(q:(Ex)×(List Tk)×(Nat))=>match q with |(x,l1,n)=>[(3,.cells [.data (.i x.kind),.data (.str x.name),.data (.i x.index),.data (.i x.n),.data (.sl 5 (Ex.css x.l))]),(1000000,pB l1 e d)]) [0,2,3] (λ(q:(Ex)×(List Tk)×(Nat))=>match q with |(x,l1,n)=>LI (lM u) (o,l') n x l1) (λ(q:(Ex)×(List Tk)×(Nat))=>match q with |(x,l1,n)=>n),?_⟩;refine eG ((y),(l2),(l2.length)) ?_ ?_ (λ⟨x,l1,n⟩ hI0=>?_))
  |((refine dC ?_ ?_);exact rfl)
  |((refine dS ?_ ?_ ?_);rotate_left;exact jr _ _ _)
  |refine aF.l _ ?_
  |((refine aK ?_ ?_ (λhg=>?_) ?_);exact rfl)
  |((refine bf ?_ ?_);exact rfl;exact rfl)
  |refine eU ?_
  |((refine eu ?_ ?_);kernel_rfl)
  |refine And.intro ?_ ?_
  |exact @rfl AV _)
 all_goals first
  |exact zd7 hM h_y
  |exact z8q hs hI0 ‹isT qG l1=true› h_y
  |exact z8t hI0 ‹isT qG l1=false› ‹isT o9 l1=true› h h_k
  |exact ZT hI0 ‹isT qG l1=true›
  |exact ZT hI0 ‹isT o9 l1=true›
  |exact zib x
  |exact zhs x y
theorem z0t(u:PM Ex)(e d:Int)(l:List Tk)(o:Option (Ex))(l':List Tk)(hu:(∀l o l',(prodM u) l=(o,l')->aj Tryz.prog 273 [.ptr 1000000 0] [(1000000,pB l e d)] (kz 186 Ex.d e o l') [(1000000,pB l' e d)]))(hs:Sh u)(hM:Tv u l=(o,l')):aj Tryz.prog 265 [.ptr 1000000 0] [(1000000,pB l e d)] (kz 186 Ex.d e o l') [(1000000,pB l' e d)]:=by
 refine aS Tryz.func265 ?_
 repeat' ((try conv=>whnf)<;>first
  |((refine bP _ _ _ [true,true,true] ?_ ?_ ?_);exact rfl;kernel_rfl)
  |((refine quiet_step ?_ ?_);kernel_rfl)
  |((refine xJ ?_ ?_);exact rfl)
  |((refine xI ?_ ?_);exact rfl)
  |((refine Dl (λs l=>iF s l e d) ?_);refine⟨_,_,_,rfl,rfl,rfl,λhT _=>?_,λhT=>?_⟩)
  |((refine kH (d:=d) [] (λl=>hu l) ?_);refine⟨_,_,rfl,rfl,rfl,λy l2 h_y=>?_,λl2 h_y=>?_⟩)
  |refine cZ (ex2 15 x y,l2,n-1) ?_ (zeb hs hI0 ‹isT uh l1=true› h_y) ?_
  |refine cZ (ex2 16 x y,l2,n-1) ?_ (zed hs hI0 ‹isT uh l1=false› ‹isT o8 l1=true› h_y) ?_
  |((refine bD ?_);(have hE:=zd9 hM h_y);(obtain⟨rfl,rfl⟩:=hE);refine aV ?_;refine fin_step' [(1000000,1000000)] rfl ?_ ?_)
  |((refine bD ?_);(have hE:=zea hI0 ‹isT uh l1=true› h_y);(obtain⟨rfl,rfl⟩:=hE);refine aV ?_;refine fin_step' [(1000000,1000000)] rfl ?_ ?_)
  |((refine bD ?_);(have hE:=zec hI0 ‹isT uh l1=false› ‹isT o8 l1=true› h_y);(obtain⟨rfl,rfl⟩:=hE);refine aV ?_;refine fin_step' [(1000000,1000000)] rfl ?_ ?_)
  |((refine jD ?_);(have hE:=zgi hI0 ‹isT uh l1=false› ‹isT o8 l1=false›);(obtain⟨rfl,rfl⟩:=hE);refine gY ?_;(conv=>whnf);refine fin_step' [(1000000,1000000)] rfl ?_ ?_)
  |exact trivial
  |((refine ax.mk 0 ?_);refine⟨lF (λ(q:(Ex)×(List Tk)×(Nat))=>match q with |(x,l1,n)=>[]) (λ(q:(Ex)×(List Tk)×(Nat))=>match q with |(x,l1,n)=>[(3,.cells [.data (.i x.kind),.data (.str x.name),.data (.i x.index),.data (.i x.n),.data (.sl 5 (Ex.css x.l))]),(1000000,pB l1 e d)]) [0,2,3] (λ(q:(Ex)×(List Tk)×(Nat))=>match q with |(x,l1,n)=>LI (CJ u) (o,l') n x l1) (λ(q:(Ex)×(List Tk)×(Nat))=>match q with |(x,l1,n)=>n),?_⟩;refine eG ((y),(l2),(l2.length)) ?_ ?_ (λ⟨x,l1,n⟩ hI0=>?_))
  |refine aF.l _ ?_
  |refine eU ?_
  |((refine eu ?_ ?_);kernel_rfl)
  |refine And.intro ?_ ?_
  |exact @rfl AV _)
 all_goals first
  |exact zgh hM h_y
  |exact ZT hI0 ‹isT uh l1=true›
  |exact ZT hI0 ‹isT o8 l1=true›
  |exact zhs x y
theorem SQ(u:PM Ex)(e d:Int)(n:Nat)(l:List Tk)(o:Option (Ex))(l':List Tk)(hS:(∀l o l',(Tv u) l=(o,l')->aj Tryz.prog 265 [.ptr 1000000 0] [(1000000,pB l e d)] (kz 186 Ex.d e o l') [(1000000,pB l' e d)]))(hs:Sh u)(hn:l.length<n)(hM:GN u n l=(o,l')):aj Tryz.prog 255 [.ptr 1000000 0] [(1000000,pB l e d)] (kz 186 Ex.d e o l') [(1000000,pB l' e d)]:=by
 induction n generalizing l o l' with
 |zero=>exact absurd hn (Nat.not_lt_zero _)
 |succ n ih=>?_
 refine aS Tryz.func255 ?_
 repeat' ((try conv=>whnf)<;>first
  |((refine xJ ?_ ?_);exact rfl)
  |((refine xI ?_ ?_);exact rfl)
  |((refine Dl (λs l=>iF s l e d) ?_);refine⟨_,_,_,rfl,rfl,rfl,λhT _=>?_,λhT=>?_⟩)
  |((refine Dn (λs l=>iG s l e d) ?_);refine⟨_,_,_,_,rfl,rfl,rfl,rfl,rfl,λhW _=>?_,λhW=>?_⟩)
  |((refine zef (d:=d) (λ_=>True) (z3e hs) (λl o l' _=>hS l o l') ?_);refine⟨_,_,rfl,rfl,rfl,trivial,λa l1 h_a _=>?_,λl1 h_a=>?_⟩)
  |((refine zef (d:=d) (λl=>l.length<n) (ZQ hs n) (λl o l' hl=>ih l o l' hl) ?_);refine⟨_,_,rfl,rfl,rfl,by(simp only[List.length_drop]at *;omega),λc l3 h_c _=>?_,λl3 h_c=>?_⟩)
  |refine wz ?_ ?_ ?_
  |((refine jD ?_);(try simp only[Bool.not_true,Bool.not_false,cond_true,cond_false,bne,Bool.not_eq_true',Bool.not_eq_false']at *);(simp only[GN,bnd,bu,reduceIte,Bool.false_eq_true, *]at hM);(obtain⟨rfl,rfl⟩:=fD hM);refine gY ?_;(conv=>whnf);refine fin_step' [(1000000,1000000)] rfl ?_ ?_)
  |((refine bD ?_);(try simp only[Bool.not_true,Bool.not_false,cond_true,cond_false,bne,Bool.not_eq_true',Bool.not_eq_false']at *);(simp only[GN,bnd,bu,reduceIte,Bool.false_eq_true, *]at hM);(obtain⟨rfl,rfl⟩:=fD hM);refine aV ?_;refine fin_step' [(1000000,1000000)] rfl ?_ ?_)
  |exact trivial
  |refine aF.l _ ?_
  |refine And.intro ?_ ?_
  |exact dP rfl)
 all_goals exact ZX
theorem SS(u:PM Ex)(e d:Int)(k:Int)(m:Nat)(l:List Tk)(o:Option (Ex))(l':List Tk)(hE:(∀l o l',(xG u) l=(o,l')->aj Tryz.prog 255 [.ptr 1000000 0] [(1000000,pB l e d)] (kz 186 Ex.d e o l') [(1000000,pB l' e d)]))(hs:Sh u)(hm:m<=2)(hM:rM u k m false l=(o,l')):aj Tryz.prog 279 [.ptr 1000000 0,.data (.i k),.data (.i (m:Int)),.data (.b false)] [(1000000,pB l e d)] (kz 186 Ex.d e o l') [(1000000,pB l' e d)]:=by
 refine aS Tryz.func279 ?_
 repeat' ((try conv=>whnf)<;>first
  |((refine bP _ _ _ [true,true,true,true] ?_ ?_ ?_);exact rfl;kernel_rfl)
  |((refine quiet_step ?_ ?_);kernel_rfl)
  |((refine xI ?_ ?_);exact rfl)
  |((refine Dn (λs l=>iG s l e d) ?_);refine⟨_,_,_,_,rfl,rfl,rfl,rfl,rfl,λhW _=>?_,λhW=>?_⟩)
  |((refine kH (d:=d) [] (λl=>hE l) ?_);refine⟨_,_,rfl,rfl,rfl,λx l2 h_x=>?_,λl2 h_x=>?_⟩)
  |refine cZ (i+1,xs++[x],l2,j-1) ?_ (z3f hI0 ‹decide ((i:Int)<(m:Int))=true› ‹decide ((i:Int)>0)=true› ‹isT fA l1=true› h_x) (PY hI0 ‹decide ((i:Int)<(m:Int))=true›)
  |refine cZ (i+1,xs++[x],l2,j-1) ?_ (z3g hI0 ‹decide ((i:Int)<(m:Int))=true› ‹decide ((i:Int)>0)=false› h_x) (PY hI0 ‹decide ((i:Int)<(m:Int))=true›)
  |((refine bD ?_);(have hE:=Xj hM ‹isT RN l=false›);(obtain⟨rfl,rfl⟩:=hE);refine aV ?_;refine fin_step' [(1000000,1000000)] rfl ?_ ?_)
  |((refine bD ?_);(have hE:=z3h hI0 ‹decide ((i:Int)<(m:Int))=true› ‹decide ((i:Int)>0)=true› ‹isT fA l1=false›);(obtain⟨rfl,rfl⟩:=hE);refine aV ?_;refine fin_step' [(1000000,1000000)] rfl ?_ ?_)
  |((refine bD ?_);(have hE:=z3i hI0 ‹decide ((i:Int)<(m:Int))=true› ‹decide ((i:Int)>0)=true› ‹isT fA l1=true› h_x);(obtain⟨rfl,rfl⟩:=hE);refine aV ?_;refine fin_step' [(1000000,1000000)] rfl ?_ ?_)
  |((refine bD ?_);(have hE:=z3j hI0 ‹decide ((i:Int)<(m:Int))=true› ‹decide ((i:Int)>0)=false› h_x);(obtain⟨rfl,rfl⟩:=hE);refine aV ?_;refine fin_step' [(1000000,1000000)] rfl ?_ ?_)
  |((refine bD ?_);(have hE:=z3l hI0 ‹decide ((i:Int)<(m:Int))=false› ‹isT ZO l1=false›);(obtain⟨rfl,rfl⟩:=hE);refine aV ?_;refine fin_step' [(1000000,1000000)] rfl ?_ ?_)
  |((refine jD ?_);(have hE:=z3k hI0 ‹decide ((i:Int)<(m:Int))=false› ‹isT ZO l1=true›);(obtain⟨rfl,rfl⟩:=hE);refine gY ?_;(conv=>whnf);refine fin_step' [(1000000,1000000)] rfl ?_ ?_)
  |exact trivial
  |refine BrI.intro (λh=>?_) (λh=>?_)
  |((refine ax.mk 0 ?_);refine⟨lF (λ(q:(Nat)×(List Ex)×(List Tk)×(Nat))=>match q with |(i,xs,l1,j)=>[(23,.data (.val (.int .i64 (i:Nat))))]) (λ(q:(Nat)×(List Ex)×(List Tk)×(Nat))=>match q with |(i,xs,l1,j)=>[(8,.cells [.data (.i k),.data (.str []),.data (.i 0),.data (.i 0),.gs 900008 5 (xs.map Ex.cs)]),(900008,.tok 5 (xs.map Ex.cs).length),(1000000,pB l1 e d)]) [0,8,22] (λ(q:(Nat)×(List Ex)×(List Tk)×(Nat))=>match q with |(i,xs,l1,j)=>AI u k [] (o,l') m i j xs l1) (λ(q:(Nat)×(List Ex)×(List Tk)×(Nat))=>match q with |(i,xs,l1,j)=>j),?_⟩;refine eG ((0),([]),(l.drop 1),(m)) ?_ ?_ (λ⟨i,xs,l1,j⟩ hI0=>?_))
  |refine aF.l _ ?_
  |((refine bY ?_ ?_ ?_ ?_ ?_ ?_)<;>exact rfl)
  |((refine cO ?_ ?_ ?_ ?_)<;>exact rfl)
  |refine wz ?_ ?_ ?_
  |refine eU ?_
  |((refine eu ?_ ?_);kernel_rfl)
  |refine And.intro ?_ ?_
  |((refine mY ?_ ?_ ?_);exact rfl;exact rfl;(first |exact bz |skip))
  |((refine gu ?_ ?_);exact rfl;(first |exact bz |skip))
  |exact @rfl AV _
  |exact dP rfl)
 all_goals first
  |exact z8u hM ‹isT RN l=true›
  |exact P5 (z3n ‹decide ((i:Int)<(m:Int))=true› hm)
  |exact Xk hI0 hm
  |exact Xl
theorem XA(u:PM Ex)(e d:Int)(k:Int)(m:Nat)(l:List Tk)(o:Option (Ex))(l':List Tk)(hE:(∀l o l',(xG u) l=(o,l')->aj Tryz.prog 255 [.ptr 1000000 0] [(1000000,pB l e d)] (kz 186 Ex.d e o l') [(1000000,pB l' e d)]))(hs:Sh u)(hm:m<=2)(hM:rM u k m true l=(o,l')):aj Tryz.prog 279 [.ptr 1000000 0,.data (.i k),.data (.i (m:Int)),.data (.b true)] [(1000000,pB l e d)] (kz 186 Ex.d e o l') [(1000000,pB l' e d)]:=by
 refine aS Tryz.func279 ?_
 repeat' ((try conv=>whnf)<;>first
  |((refine bP _ _ _ [true,true,true,true] ?_ ?_ ?_);exact rfl;kernel_rfl)
  |((refine quiet_step ?_ ?_);kernel_rfl)
  |((refine xJ ?_ ?_);exact rfl)
  |((refine Dn (λs l=>iG s l e d) ?_);refine⟨_,_,_,_,rfl,rfl,rfl,rfl,rfl,λhW _=>?_,λhW=>?_⟩)
  |((refine kH (d:=d) [] (λl=>jW l e d) ?_);refine⟨_,_,rfl,rfl,rfl,λs1 l1 h_s=>?_,λl1 h_s=>?_⟩)
  |((refine kH (d:=d) [] (λl=>hE l) ?_);refine⟨_,_,rfl,rfl,rfl,λx l2 h_x=>?_,λl2 h_x=>?_⟩)
  |refine cZ (i+1,xs++[x],l2,j-1) ?_ (z3f hI0 ‹decide ((i:Int)<(m:Int))=true› ‹decide ((i:Int)>0)=true› ‹isT fA l1=true› h_x) (PY hI0 ‹decide ((i:Int)<(m:Int))=true›)
  |refine cZ (i+1,xs++[x],l2,j-1) ?_ (z3g hI0 ‹decide ((i:Int)<(m:Int))=true› ‹decide ((i:Int)>0)=false› h_x) (PY hI0 ‹decide ((i:Int)<(m:Int))=true›)
  |((refine bD ?_);(have hE:=Xj hM ‹isT RN l=false›);(obtain⟨rfl,rfl⟩:=hE);refine aV ?_;refine fin_step' [(1000000,1000000)] rfl ?_ ?_)
  |((refine bD ?_);(have hE:=z8w hM ‹isT RN l=true› h_s);(obtain⟨rfl,rfl⟩:=hE);refine aV ?_;refine fin_step' [(1000000,1000000)] rfl ?_ ?_)
  |((refine bD ?_);(have hE:=z8x hM ‹isT RN l=true› h_s ‹isT fA l1=false›);(obtain⟨rfl,rfl⟩:=hE);refine aV ?_;refine fin_step' [(1000000,1000000)] rfl ?_ ?_)
  |((refine bD ?_);(have hE:=z3h hI0 ‹decide ((i:Int)<(m:Int))=true› ‹decide ((i:Int)>0)=true› ‹isT fA l1=false›);(obtain⟨rfl,rfl⟩:=hE);refine aV ?_;refine fin_step' [(1000000,1000000)] rfl ?_ ?_)
  |((refine bD ?_);(have hE:=z3i hI0 ‹decide ((i:Int)<(m:Int))=true› ‹decide ((i:Int)>0)=true› ‹isT fA l1=true› h_x);(obtain⟨rfl,rfl⟩:=hE);refine aV ?_;refine fin_step' [(1000000,1000000)] rfl ?_ ?_)
  |((refine bD ?_);(have hE:=z3j hI0 ‹decide ((i:Int)<(m:Int))=true› ‹decide ((i:Int)>0)=false› h_x);(obtain⟨rfl,rfl⟩:=hE);refine aV ?_;refine fin_step' [(1000000,1000000)] rfl ?_ ?_)
  |((refine bD ?_);(have hE:=z3l hI0 ‹decide ((i:Int)<(m:Int))=false› ‹isT ZO l1=false›);(obtain⟨rfl,rfl⟩:=hE);refine aV ?_;refine fin_step' [(1000000,1000000)] rfl ?_ ?_)
  |((refine jD ?_);(have hE:=z3k hI0 ‹decide ((i:Int)<(m:Int))=false› ‹isT ZO l1=true›);(obtain⟨rfl,rfl⟩:=hE);refine gY ?_;(conv=>whnf);refine fin_step' [(1000000,1000000)] rfl ?_ ?_)
  |exact trivial
  |refine BrI.intro (λh=>?_) (λh=>?_)
  |((refine ax.mk 0 ?_);refine⟨lF (λ(q:(Nat)×(List Ex)×(List Tk)×(Nat))=>match q with |(i,xs,l1,j)=>[(23,.data (.val (.int .i64 (i:Nat))))]) (λ(q:(Nat)×(List Ex)×(List Tk)×(Nat))=>match q with |(i,xs,l1,j)=>[(8,.cells [.data (.i k),.data (.str s1),.data (.i 0),.data (.i 0),.gs 900008 5 (xs.map Ex.cs)]),(900008,.tok 5 (xs.map Ex.cs).length),(1000000,pB l1 e d)]) [0,8,22] (λ(q:(Nat)×(List Ex)×(List Tk)×(Nat))=>match q with |(i,xs,l1,j)=>AI u k s1 (o,l') m i j xs l1) (λ(q:(Nat)×(List Ex)×(List Tk)×(Nat))=>match q with |(i,xs,l1,j)=>j),?_⟩;refine eG ((0),([]),(l1.drop 1),(m)) ?_ ?_ (λ⟨i,xs,l1,j⟩ hI0=>?_))
  |refine aF.l _ ?_
  |((refine bY ?_ ?_ ?_ ?_ ?_ ?_)<;>exact rfl)
  |((refine cO ?_ ?_ ?_ ?_)<;>exact rfl)
  |refine wz ?_ ?_ ?_
  |refine eU ?_
  |((refine eu ?_ ?_);kernel_rfl)
  |refine And.intro ?_ ?_
  |((refine mY ?_ ?_ ?_);exact rfl;exact rfl;(first |exact bz |skip))
  |((refine gu ?_ ?_);exact rfl;(first |exact bz |skip))
  |exact @rfl AV _
  |exact dP rfl)
 all_goals first
  |exact z8v hM ‹isT RN l=true› h_s ‹isT fA l1=true›
  |exact P5 (z3n ‹decide ((i:Int)<(m:Int))=true› hm)
  |exact Xk hI0 hm
  |exact Xl
theorem rD(l:List Tk)(e d:Int)(p:Option D)(thr:Bool)(hp:thr=true\/p=none):nH Tryz.prog 277 [.ptr 1000000 0] p thr [(1000000,.cells [.ptr 1000001 0]),(1000001,pB l e d)] [(1000000,.cells [.ptr 1000001 0]),(1000001,pB l e (IntKind.i64.wrap (d-1)))]:=by
 refine Iy tok hmix Tryz.func277 rfl (by kernel_rfl) (by kernel_rfl) (by kernel_rfl) hp ?_
 repeat' ((try conv=>whnf)<;>first
  |exact trivial
  |refine⟨([]:List (Nat×Nat)),?_⟩
  |refine⟨by kernel_rfl,?_⟩
  |refine⟨rfl,?_⟩
  |refine⟨?_,?_⟩)
theorem Du   : aj Tryz.prog 278 [] [] (.ret (.map 1000000)) [(1000000,.map false [.str] (zd6.map zht))]:=by
 refine aS Tryz.func278 ?_
 repeat' ((try conv=>whnf)<;>first
  |exact trivial
  |((refine bg ?_);refine fin_step' [(1000000,1)] rfl ?_ ?_)
  |refine And.intro ?_ ?_
  |exact @rfl AV _
  |exact @rfl Block _)
 all_goals rfl
theorem XB(e d:Int)(l:List Tk)(o:Option (Ex))(l':List Tk)(hd0:0<=d)(hd1:d<=63)(hdp:d=63)(hM:BK none l=(o,l')):aj Tryz.prog 276 [.ptr 1000000 0] [(1000000,pB l e d)] (kz 186 Ex.d e o l') [(1000000,pB l' e d)]:=by
 refine aS Tryz.func276 ?_
 repeat' ((try conv=>whnf)<;>first
  |((refine xJ ?_ ?_);exact rfl)
  |((refine xI ?_ ?_);exact rfl)
  |((refine Dl (λs l=>iF s l e (IntKind.i64.wrap (d+1))) ?_);refine⟨_,_,_,rfl,rfl,rfl,λhT _=>?_,λhT=>?_⟩)
  |((refine JA (λl=>jV l e d) ?_);refine⟨_,_,rfl,rfl,rfl,?_⟩)
  |((refine JA (λl=>jV l e (IntKind.i64.wrap (d+1))) ?_);refine⟨_,_,rfl,rfl,rfl,?_⟩)
  |((refine Xf (d:=(IntKind.i64.wrap (d+1))) lL (λl=>(hd l).n) Xd (λl=>iT l e (IntKind.i64.wrap (d+1))) ?_);refine⟨_,_,rfl,rfl,rfl,λ_=>?_,λhN=>absurd (h.symm.trans hN) Bool.noConfusion⟩)
  |((refine Xf (d:=(IntKind.i64.wrap (d+1))) ZP (λl=>(hd l).text) Xe (λl=>jW l e (IntKind.i64.wrap (d+1))) ?_);refine⟨_,_,rfl,rfl,rfl,λ_=>?_,λhN=>absurd (h.symm.trans hN) Bool.noConfusion⟩)
  |exact absurd h (z8z hdp)
  |((refine Nc ?_);(try simp only[Bool.not_true,Bool.not_false,cond_true,cond_false,bne,Bool.not_eq_true',Bool.not_eq_false']at *);(simp only[BK,bnd,bu,reduceIte,Bool.false_eq_true, *]at hM);(obtain⟨rfl,rfl⟩:=fD hM);refine⟨_,_,_,[(1000000,1),(1000001,1000000)],rD _ _ _ none false (.inr rfl),rfl,⟨rfl,rfl,trivial⟩,rfl,?_⟩;(conv=>whnf);refine fin_step' [(1000000,1000000)] rfl ?_ ?_)
  |((refine bD ?_);(have hE:=P6 hM h);(obtain⟨rfl,rfl⟩:=hE);refine aV ?_;refine fin_step' [(1000000,1000000)] rfl ?_ ?_)
  |((refine P7 ?_);(try simp only[Bool.not_true,Bool.not_false,cond_true,cond_false,bne,Bool.not_eq_true',Bool.not_eq_false']at *);(simp only[BK,bnd,bu,reduceIte,Bool.false_eq_true, *]at hM);(obtain⟨rfl,rfl⟩:=fD hM);(refine DZ.pan rfl rfl ?_);refine⟨_,_,_,[(1000000,1),(1000001,1000000)],rD _ _ _ _ true (.inl rfl),rfl,⟨rfl,rfl,trivial⟩,rfl,?_⟩;(refine dw ?_);refine fin_step' [(1000000,1000000)] rfl ?_ ?_)
  |exact trivial
  |refine BrI.intro (λh=>?_) (λh=>?_)
  |((refine dC ?_ ?_);exact rfl)
  |((refine dS ?_ ?_ ?_);rotate_left;(first |exact jr _ _ _ |exact ul _ _ _))
  |refine And.intro ?_ ?_)
 all_goals first
  |rfl
  |exact congrArg D.i (JC hd0 hd1)
theorem XC(u:PM Ex)(e d:Int)(l:List Tk)(o:Option (Ex))(l':List Tk)(hd0:0<=d)(hd1:d<=63)(hdp:d<63)(hu:(∀l o l',u l=(o,l')->aj Tryz.prog 276 [.ptr 1000000 0] [(1000000,pB l e (IntKind.i64.wrap (d+1)))] (kz 186 Ex.d e o l') [(1000000,pB l' e (IntKind.i64.wrap (d+1)))]))(hE:(∀l o l',(xG u) l=(o,l')->aj Tryz.prog 255 [.ptr 1000000 0] [(1000000,pB l e (IntKind.i64.wrap (d+1)))] (kz 186 Ex.d e o l') [(1000000,pB l' e (IntKind.i64.wrap (d+1)))]))(hA:∀(k n:Int) (b:Bool),0<=n->n<=2->(∀l o l',rM u k n.toNat b l=(o,l')->aj Tryz.prog 279 [.ptr 1000000 0,.data (.i k),.data (.i n),.data (.b b)] [(1000000,pB l e (IntKind.i64.wrap (d+1)))] (kz 186 Ex.d e o l') [(1000000,pB l' e (IntKind.i64.wrap (d+1)))]))(hM:BK (some u) l=(o,l')):aj Tryz.prog 276 [.ptr 1000000 0] [(1000000,pB l e d)] (kz 186 Ex.d e o l') [(1000000,pB l' e d)]:=by
 refine aS Tryz.func276 ?_
 repeat' ((try conv=>whnf)<;>first
  |((refine xJ ?_ ?_);exact rfl)
  |((refine xI ?_ ?_);exact rfl)
  |((refine Dl (λs l=>iF s l e (IntKind.i64.wrap (d+1))) ?_);refine⟨_,_,_,rfl,rfl,rfl,λhT _=>?_,λhT=>?_⟩)
  |((refine Dn (λs l=>iG s l e (IntKind.i64.wrap (d+1))) ?_);refine⟨_,_,_,_,rfl,rfl,rfl,rfl,rfl,λhW _=>?_,λhW=>?_⟩)
  |((refine JA (λl=>jV l e d) ?_);refine⟨_,_,rfl,rfl,rfl,?_⟩)
  |((refine JA (λl=>jV l e (IntKind.i64.wrap (d+1))) ?_);refine⟨_,_,rfl,rfl,rfl,?_⟩)
  |((refine Xf (d:=(IntKind.i64.wrap (d+1))) lL (λl=>(hd l).n) Xd (λl=>iT l e (IntKind.i64.wrap (d+1))) ?_);refine⟨_,_,rfl,rfl,rfl,λ_=>?_,λhN=>absurd (h.symm.trans hN) Bool.noConfusion⟩)
  |((refine Xf (d:=(IntKind.i64.wrap (d+1))) ZP (λl=>(hd l).text) Xe (λl=>jW l e (IntKind.i64.wrap (d+1))) ?_);refine⟨_,_,rfl,rfl,rfl,λ_=>?_,λhN=>absurd (h.symm.trans hN) Bool.noConfusion⟩)
  |((refine kH (d:=(IntKind.i64.wrap (d+1))) [] (λl=>hu l) ?_);refine⟨_,_,rfl,rfl,rfl,λx l1 h_x=>?_,λl1 h_x=>?_⟩)
  |((refine kH (d:=(IntKind.i64.wrap (d+1))) [] (λl=>hE l) ?_);refine⟨_,_,rfl,rfl,rfl,λx l1 h_x=>?_,λl1 h_x=>?_⟩)
  |((refine lentP' (d:=(IntKind.i64.wrap (d+1))) (zee (.i f.1) (.i f.2.1) (.b f.2.2)) (λl o l' h=>hA f.1 f.2.1 f.2.2 (z3m he).1 (z3m he).2 l o l' h) ?_);refine⟨_,_,l.drop 1,rfl,rfl,ZU,rfl,λx l1 h_x=>?_,λl1 h_x=>?_⟩)
  |exact absurd h (ZZ hd0 hdp)
  |((refine Nc ?_);(try simp only[Bool.not_true,Bool.not_false,cond_true,cond_false,bne,Bool.not_eq_true',Bool.not_eq_false']at *);(simp only[BK,bnd,bu,reduceIte,Bool.false_eq_true, *]at hM);(obtain⟨rfl,rfl⟩:=fD hM);refine⟨_,_,_,[(1000000,1),(1000001,1000000)],rD _ _ _ none false (.inr rfl),rfl,⟨rfl,rfl,trivial⟩,rfl,?_⟩;(conv=>whnf);refine fin_step' [(1000000,1000000)] rfl ?_ ?_)
  |((refine bD ?_);(have hE:=P6 hM h);(obtain⟨rfl,rfl⟩:=hE);refine aV ?_;refine fin_step' [(1000000,1000000)] rfl ?_ ?_)
  |((refine P7 ?_);(try simp only[Bool.not_true,Bool.not_false,cond_true,cond_false,bne,Bool.not_eq_true',Bool.not_eq_false']at *);(simp only[BK,bnd,bu,reduceIte,Bool.false_eq_true, *]at hM);(obtain⟨rfl,rfl⟩:=fD hM);(refine DZ.pan rfl rfl ?_);refine⟨_,_,_,[(1000000,1),(1000001,1000000)],rD _ _ _ _ true (.inl rfl),rfl,⟨rfl,rfl,trivial⟩,rfl,?_⟩;(refine dw ?_);refine fin_step' [(1000000,1000000)] rfl ?_ ?_)
  |exact trivial
  |refine BrI.intro (λh=>?_) (λh=>?_)
  |refine PZ zd6 (λf he=>?_) (λhe=>?_)
  |((refine sG ?_ ?_ ?_ ?_);exact⟨rfl,rfl⟩;exact rfl;(exact emp_len' ‹(((l.map Tk.cs).length:Int)==0)=false›))
  |((refine ry ?_ ?_ ?_);exact⟨rfl,rfl⟩;exact zfm (emp_len' ‹(((l.map Tk.cs).length:Int)==0)=false›))
  |((refine dC ?_ ?_);exact rfl)
  |((refine dS ?_ ?_ ?_);rotate_left;(first |exact jr _ _ _ |exact ul _ _ _))
  |((refine fH [(1000000,800000)] (Du) ?_ ?_ ?_ ?_);rotate_left 0;exact rfl;exact trivial;exact rfl)
  |refine aF.l _ ?_
  |((refine aK ?_ ?_ (λhg=>?_) ?_);exact rfl)
  |((refine bf ?_ ?_);exact rfl;exact rfl)
  |refine eU ?_
  |refine And.intro ?_ ?_)
 all_goals first
  |rfl
  |exact congrArg D.i (JC hd0 hd1)
  |exact ZY
end Go.Proofs.YtgehpmgkaeohaaaGreatDoor
namespace Go.Proofs.YtgehpmgkaeohaaaGreatDoor
open Go.Fw Go.Fw.Lx Go.Fw.Sy
set_option maxRecDepth 10000
variable [ae] {u : PM Ex} {e d : Int}
theorem SV(hu:∀l o l',u l=(o,l')->aj Tryz.prog 276 [.ptr 1000000 0] [(1000000,pB l e d)] (kz 186 Ex.d e o l') [(1000000,pB l' e d)])(hs:Sh u):∀l o l',(prodM u) l=(o,l')->aj Tryz.prog 273 [.ptr 1000000 0] [(1000000,pB l e d)] (kz 186 Ex.d e o l') [(1000000,pB l' e d)]:=λl o l' h=>JW u e d l o l' hu hs h
theorem ze7(hu:∀l o l',u l=(o,l')->aj Tryz.prog 276 [.ptr 1000000 0] [(1000000,pB l e d)] (kz 186 Ex.d e o l') [(1000000,pB l' e d)])(hs:Sh u):∀l o l',(Tv u) l=(o,l')->aj Tryz.prog 265 [.ptr 1000000 0] [(1000000,pB l e d)] (kz 186 Ex.d e o l') [(1000000,pB l' e d)]:=λl o l' h=>z0t u e d l o l' (SV hu hs) hs h
theorem G8(hu:∀l o l',u l=(o,l')->aj Tryz.prog 276 [.ptr 1000000 0] [(1000000,pB l e d)] (kz 186 Ex.d e o l') [(1000000,pB l' e d)])(hs:Sh u):∀l o l',(xG u) l=(o,l')->aj Tryz.prog 255 [.ptr 1000000 0] [(1000000,pB l e d)] (kz 186 Ex.d e o l') [(1000000,pB l' e d)]:=λl o l' h=>SQ u e d (l.length+1) l o l' (ze7 hu hs) hs (Nat.lt_succ_self _) h
theorem FP(hu:∀l o l',u l=(o,l')->aj Tryz.prog 276 [.ptr 1000000 0] [(1000000,pB l e d)] (kz 186 Ex.d e o l') [(1000000,pB l' e d)])(hs:Sh u)(k n:Int)(b:Bool)(h0:0<=n)(h2:n<=2):∀l o l',rM u k n.toNat b l=(o,l')->aj Tryz.prog 279 [.ptr 1000000 0,.data (.i k),.data (.i n),.data (.b b)] [(1000000,pB l e d)] (kz 186 Ex.d e o l') [(1000000,pB l' e d)]:=by
 intro l o l' h
 have hn:((n.toNat:Nat):Int)=n:=Int.toNat_of_nonneg h0
 cases b with
 |false=>have:=SS u e d k n.toNat l o l' (G8 hu hs) hs (by omega) h;rwa[hn]at this
 |true=>have:=XA u e d k n.toNat l o l' (G8 hu hs) hs (by omega) h;rwa[hn]at this
theorem JX(e:Int):∀(k:Nat) (d:Int),0<=d->d+k=63->∀l o l',(RQ k) l=(o,l')->aj Tryz.prog 276 [.ptr 1000000 0] [(1000000,pB l e d)] (kz 186 Ex.d e o l') [(1000000,pB l' e d)]
 | 0,d,h0,hk,l,o,l',h=>XB e d l o l' h0 (by omega) (by omega) h
 |k+1,d,h0,hk,l,o,l',h=>by
  have hd:IntKind.i64.wrap (d+1)=d+1:=z8y h0 (by omega)
  have ih:=JX e k (IntKind.i64.wrap (d+1)) (by omega) (by omega)
  exact XC (RQ k) e d l o l' h0 (by omega) (by omega) ih (G8 ih (BN k)) (λk n b h0 h2=>FP ih (BN _) k n b h0 h2) h
theorem XD(e:Int):∀l o l',(xG (RQ 63)) l=(o,l')->aj Tryz.prog 255 [.ptr 1000000 0] [(1000000,pB l e 0)] (kz 186 Ex.d e o l') [(1000000,pB l' e 0)]:=G8 (JX e 63 0 (by omega) (by omega)) (BN 63)
theorem Cc(l:List Tk)(e d:Int)(o:Option (Int×Int))(l':List Tk)(hM:dU l=(o,l')):aj Tryz.prog 234 [.ptr 1000000 0] [(1000000,pB l e d)] (kz 186 (λb:Int×Int=>.tuple [.i b.1,.i b.2]) e o l') [(1000000,pB l' e d)]:=by
 refine aS Tryz.func234 ?_
 repeat' ((try conv=>whnf)<;>first
  |((refine Dn (λs l=>iG s l e d) ?_);refine⟨_,_,_,_,rfl,rfl,rfl,rfl,rfl,λhW _=>?_,λhW=>?_⟩)
  |((refine kH (d:=d) [] (λl=>yx l e d) ?_);refine⟨_,_,rfl,rfl,rfl,λn l1 h_n=>?_,λl1 h_n=>?_⟩)
  |((refine jD ?_);(try simp only[Bool.not_true,Bool.not_false,cond_true,cond_false,bne,Bool.not_eq_true',Bool.not_eq_false']at *);(simp only[dU,bnd,bu,reduceIte,Bool.false_eq_true, *]at hM);(obtain⟨rfl,rfl⟩:=fD hM);refine gY ?_;(conv=>whnf);refine fin_step' [(1000000,1000000)] rfl ?_ ?_)
  |((refine bD ?_);(try simp only[Bool.not_true,Bool.not_false,cond_true,cond_false,bne,Bool.not_eq_true',Bool.not_eq_false']at *);(simp only[dU,bnd,bu,reduceIte,Bool.false_eq_true, *]at hM);(obtain⟨rfl,rfl⟩:=fD hM);refine aV ?_;refine fin_step' [(1000000,1000000)] rfl ?_ ?_)
  |exact trivial
  |refine aF.l _ ?_
  |refine And.intro ?_ ?_)
theorem EP(l:List Tk)(e d:Int)(o:Option (Bd))(l':List Tk)(hM:EJ l=(o,l')):aj Tryz.prog 233 [.ptr 1000000 0] [(1000000,pB l e d)] (kz 186 (λb:Bd=>.agg b.cs) e o l') [(1000000,pB l' e d)]:=by
 refine aS Tryz.func233 ?_
 repeat' ((try conv=>whnf)<;>first
  |((refine kH (d:=d) [] (λl=>jW l e d) ?_);refine⟨_,_,rfl,rfl,rfl,λs l1 h_s=>?_,λl1 h_s=>?_⟩)
  |((refine kH (d:=d) [] (λl=>Cc l e d) ?_);refine⟨_,_,rfl,rfl,rfl,λb l2 h_b=>?_,λl2 h_b=>?_⟩)
  |((refine jD ?_);(try simp only[Bool.not_true,Bool.not_false,cond_true,cond_false,bne,Bool.not_eq_true',Bool.not_eq_false']at *);(simp only[EJ,bnd,reduceIte,Bool.false_eq_true, *]at hM);(obtain⟨rfl,rfl⟩:=fD hM);refine gY ?_;(conv=>whnf);refine fin_step' [(1000000,1000000)] rfl ?_ ?_)
  |((refine bD ?_);(try simp only[Bool.not_true,Bool.not_false,cond_true,cond_false,bne,Bool.not_eq_true',Bool.not_eq_false']at *);(simp only[EJ,bnd,reduceIte,Bool.false_eq_true, *]at hM);(obtain⟨rfl,rfl⟩:=fD hM);refine aV ?_;refine fin_step' [(1000000,1000000)] rfl ?_ ?_)
  |exact trivial
  |refine And.intro ?_ ?_)
theorem XE(l:List Tk)(e d:Int)(o:Option (List Int))(l':List Tk)(hl:l.length<=1073741823)(hM:MX l=(o,l')):aj Tryz.prog 235 [.ptr 1000000 0,.fn 236 []] [(1000000,pB l e d)] (kz 186 (λl:List Int=>ints l) e o l') [(1000000,pB l' e d)]:=by
 refine aS Tryz.func235 ?_
 repeat' ((try conv=>whnf)<;>first
  |((refine xJ ?_ ?_);exact rfl)
  |((refine xI ?_ ?_);exact rfl)
  |((refine Dl (λs l=>iF s l e d) ?_);refine⟨_,_,_,rfl,rfl,rfl,λhT _=>?_,λhT=>?_⟩)
  |((refine kH (d:=d) [] (λl=>yx l e d) ?_);refine⟨_,_,rfl,rfl,rfl,λv l2 h_v=>?_,λl2 h_v=>?_⟩)
  |refine cZ (n-1,vs++[v],l2) ?_ (zem hI0 ‹isT fA l1=true› h_v) (z9a hI0 ‹isT fA l1=true›)
  |((refine bD ?_);(have hE:=z81 hM h_v);(obtain⟨rfl,rfl⟩:=hE);refine aV ?_;refine fin_step' [(1000000,1000000)] rfl ?_ ?_)
  |((refine bD ?_);(have hE:=z88 hI0 ‹isT fA l1=true› h_v);(obtain⟨rfl,rfl⟩:=hE);refine aV ?_;refine fin_step' [(1000000,1000000)] rfl ?_ ?_)
  |((refine jD ?_);(have hE:=zel hI0 ‹isT fA l1=false›);(obtain⟨rfl,rfl⟩:=hE);refine gY ?_;(conv=>whnf);refine fin_step' [(1000000,1000000)] rfl ?_ ?_)
  |exact trivial
  |((refine ax.mk 0 ?_);refine⟨lF (λ(q:(Nat)×(List Int)×(List Tk))=>match q with |(n,vs,l1)=>[(5,.gs 9 1 (vs.map z5k))]) (λ(q:(Nat)×(List Int)×(List Tk))=>match q with |(n,vs,l1)=>[(1000000,pB l1 e d),(9,.tok 1 (vs.map z5k).length)]) [0,1] (λ(q:(Nat)×(List Int)×(List Tk))=>match q with |(n,vs,l1)=>LsI (o,l') n vs l1) (λ(q:(Nat)×(List Int)×(List Tk))=>match q with |(n,vs,l1)=>n),?_⟩;refine eG ((l2.length),([v]),(l2)) ?_ ?_ (λ⟨n,vs,l1⟩ hI0=>?_))
  |refine aF.l _ ?_
  |refine wz ?_ ?_ ?_
  |refine And.intro ?_ ?_
  |((refine mY ?_ ?_ ?_);exact rfl;exact rfl;(first |exact bz |exact rfl |skip))
  |((refine gu ?_ ?_);exact rfl;(first |exact bz |skip))
  |exact @rfl AV _
  |exact @rfl Block _
  |exact dP rfl)
 all_goals first
  |exact zek hl hM h_v
  |exact Z4 hI0
theorem EQ(e:Int)(l:List Tk)(p:Pr)(ok:Bool)(p':Pr)(l':List Tk)(hz:Sz p l)(hM:EK p l=(ok,p',l')):aj Tryz.prog 193 [.ptr 1000000 0,.ptr 1000001 0] [(1000000,pB l e 0),(1000001,xB p),(1000002,.tok 3 (p.params.map Bd.cs).length),(1000003,.tok 3 (p.states.map Bd.cs).length),(1000004,.tok 4 (p.lines.map Ln.cs).length),(1000005,.tok 2 (p.tables.map Tb.cs).length),(1000006,.tok 8 (p.stmts.map Sm.cs).length)] (JD 186 e ok l') [(1000000,pB l' e 0),(1000001,xB p'),(1000002,.tok 3 (p'.params.map Bd.cs).length),(1000003,.tok 3 (p'.states.map Bd.cs).length),(1000004,.tok 4 (p'.lines.map Ln.cs).length),(1000005,.tok 2 (p'.tables.map Tb.cs).length),(1000006,.tok 8 (p'.stmts.map Sm.cs).length)]:=by
 refine aS Tryz.func193 ?_
 repeat' ((try conv=>whnf)<;>first
  |((refine bP _ _ _ [true,true,true,true,true] ?_ ?_ ?_);exact rfl;kernel_rfl)
  |((refine quiet_step ?_ ?_);kernel_rfl)
  |((refine kH (d:=0) [] (λl=>EP l e 0) ?_);refine⟨_,_,rfl,rfl,rfl,λb l1 h_b=>?_,λl1 h_b=>?_⟩)
  |((refine uj ?_);(try simp only[Bool.not_true,Bool.not_false,cond_true,cond_false,bne,Bool.not_eq_true',Bool.not_eq_false']at *);(simp only[EK,itB,reduceIte,Bool.false_eq_true, *]at hM);(obtain⟨rfl,rfl,rfl⟩:=lT hM);refine lS ?_;(conv=>whnf);refine fin_step' [(1000000,1000000),(1000001,1000001),(1000002,1000002),(1000003,1000003),(1000004,1000004),(1000005,1000005),(1000006,1000006)] rfl ?_ ?_)
  |((refine xK ?_);(try simp only[Bool.not_true,Bool.not_false,cond_true,cond_false,bne,Bool.not_eq_true',Bool.not_eq_false']at *);(simp only[EK,itB,reduceIte,Bool.false_eq_true, *]at hM);(obtain⟨rfl,rfl,rfl⟩:=lT hM);refine nP ?_;refine fin_step' [(1000000,1000000),(1000001,1000001),(1000002,1000002),(1000003,1000003),(1000004,1000004),(1000005,1000005),(1000006,1000006)] rfl ?_ ?_)
  |exact trivial
  |refine aF.l _ ?_
  |refine wz ?_ ?_ ?_
  |refine eU ?_
  |((refine eu ?_ ?_);kernel_rfl)
  |refine And.intro ?_ ?_
  |((refine gu ?_ ?_);exact rfl;(first |exact bz |skip))
  |(refine YM ?_;first |exact rfl |skip)
  |exact dP rfl)
 all_goals first
  |exact qH rfl
  |(rw[List.length_map];first |(have:=hz.a;omega) |(have:=hz.b;omega) |(have:=hz.c;omega) |(have:=hz.d;omega) |(have:=hz.e;omega))
theorem ER(e:Int)(l:List Tk)(p:Pr)(ok:Bool)(p':Pr)(l':List Tk)(hz:Sz p l)(hM:EL p l=(ok,p',l')):aj Tryz.prog 194 [.ptr 1000000 0,.ptr 1000001 0] [(1000000,pB l e 0),(1000001,xB p),(1000002,.tok 3 (p.params.map Bd.cs).length),(1000003,.tok 3 (p.states.map Bd.cs).length),(1000004,.tok 4 (p.lines.map Ln.cs).length),(1000005,.tok 2 (p.tables.map Tb.cs).length),(1000006,.tok 8 (p.stmts.map Sm.cs).length)] (JD 186 e ok l') [(1000000,pB l' e 0),(1000001,xB p'),(1000002,.tok 3 (p'.params.map Bd.cs).length),(1000003,.tok 3 (p'.states.map Bd.cs).length),(1000004,.tok 4 (p'.lines.map Ln.cs).length),(1000005,.tok 2 (p'.tables.map Tb.cs).length),(1000006,.tok 8 (p'.stmts.map Sm.cs).length)]:=by
 refine aS Tryz.func194 ?_
 repeat' ((try conv=>whnf)<;>first
  |((refine bP _ _ _ [true,true,true,true,true] ?_ ?_ ?_);exact rfl;kernel_rfl)
  |((refine quiet_step ?_ ?_);kernel_rfl)
  |((refine kH (d:=0) [] (λl=>EP l e 0) ?_);refine⟨_,_,rfl,rfl,rfl,λb l1 h_b=>?_,λl1 h_b=>?_⟩)
  |((refine uj ?_);(try simp only[Bool.not_true,Bool.not_false,cond_true,cond_false,bne,Bool.not_eq_true',Bool.not_eq_false']at *);(simp only[EL,itB,reduceIte,Bool.false_eq_true, *]at hM);(obtain⟨rfl,rfl,rfl⟩:=lT hM);refine lS ?_;(conv=>whnf);refine fin_step' [(1000000,1000000),(1000001,1000001),(1000002,1000002),(1000003,1000003),(1000004,1000004),(1000005,1000005),(1000006,1000006)] rfl ?_ ?_)
  |((refine xK ?_);(try simp only[Bool.not_true,Bool.not_false,cond_true,cond_false,bne,Bool.not_eq_true',Bool.not_eq_false']at *);(simp only[EL,itB,reduceIte,Bool.false_eq_true, *]at hM);(obtain⟨rfl,rfl,rfl⟩:=lT hM);refine nP ?_;refine fin_step' [(1000000,1000000),(1000001,1000001),(1000002,1000002),(1000003,1000003),(1000004,1000004),(1000005,1000005),(1000006,1000006)] rfl ?_ ?_)
  |exact trivial
  |refine aF.l _ ?_
  |refine wz ?_ ?_ ?_
  |refine eU ?_
  |((refine eu ?_ ?_);kernel_rfl)
  |refine And.intro ?_ ?_
  |((refine gu ?_ ?_);exact rfl;(first |exact bz |skip))
  |(refine YM ?_;first |exact rfl |skip)
  |exact dP rfl)
 all_goals first
  |exact qH rfl
  |(rw[List.length_map];first |(have:=hz.a;omega) |(have:=hz.b;omega) |(have:=hz.c;omega) |(have:=hz.d;omega) |(have:=hz.e;omega))
theorem JY(e:Int)(l:List Tk)(p:Pr)(ok:Bool)(p':Pr)(l':List Tk)(hz:Sz p l)(hM:RS p l=(ok,p',l')):aj Tryz.prog 195 [.ptr 1000000 0,.ptr 1000001 0] [(1000000,pB l e 0),(1000001,xB p),(1000002,.tok 3 (p.params.map Bd.cs).length),(1000003,.tok 3 (p.states.map Bd.cs).length),(1000004,.tok 4 (p.lines.map Ln.cs).length),(1000005,.tok 2 (p.tables.map Tb.cs).length),(1000006,.tok 8 (p.stmts.map Sm.cs).length)] (JD 186 e ok l') [(1000000,pB l' e 0),(1000001,xB p'),(1000002,.tok 3 (p'.params.map Bd.cs).length),(1000003,.tok 3 (p'.states.map Bd.cs).length),(1000004,.tok 4 (p'.lines.map Ln.cs).length),(1000005,.tok 2 (p'.tables.map Tb.cs).length),(1000006,.tok 8 (p'.stmts.map Sm.cs).length)]:=by
 refine aS Tryz.func195 ?_
 repeat' ((try conv=>whnf)<;>first
  |((refine kH (d:=0) [] (λl=>jW l e 0) ?_);refine⟨_,_,rfl,rfl,rfl,λs1 l1 h_s1=>?_,λl1 h_s1=>?_⟩)
  |((refine kH (d:=0) [] (λl=>iT l e 0) ?_);refine⟨_,_,rfl,rfl,rfl,λn l2 h_n=>?_,λl2 h_n=>?_⟩)
  |((refine kH (d:=0) [] (λl=>Cc l e 0) ?_);refine⟨_,_,rfl,rfl,rfl,λb l3 h_b=>?_,λl3 h_b=>?_⟩)
  |((refine uj ?_);(try simp only[Bool.not_true,Bool.not_false,cond_true,cond_false,bne,Bool.not_eq_true',Bool.not_eq_false']at *);(simp only[RS,itB,reduceIte,Bool.false_eq_true, *]at hM);(obtain⟨rfl,rfl,rfl⟩:=lT hM);refine lS ?_;(conv=>whnf);refine fin_step' [(1000000,1000000),(1000001,1000001),(1000002,1000002),(1000003,1000003),(1000004,1000004),(1000005,1000005),(1000006,1000006)] rfl ?_ ?_)
  |((refine xK ?_);(try simp only[Bool.not_true,Bool.not_false,cond_true,cond_false,bne,Bool.not_eq_true',Bool.not_eq_false']at *);(simp only[RS,itB,reduceIte,Bool.false_eq_true, *]at hM);(obtain⟨rfl,rfl,rfl⟩:=lT hM);refine nP ?_;refine fin_step' [(1000000,1000000),(1000001,1000001),(1000002,1000002),(1000003,1000003),(1000004,1000004),(1000005,1000005),(1000006,1000006)] rfl ?_ ?_)
  |exact trivial
  |refine aF.l _ ?_
  |refine wz ?_ ?_ ?_
  |refine eU ?_
  |refine And.intro ?_ ?_
  |((refine gu ?_ ?_);exact rfl;(first |skip))
  |(refine YM ?_;first |exact rfl |skip)
  |exact dP rfl)
 all_goals first
  |exact qH rfl
  |(rw[List.length_map];first |(have:=hz.a;omega) |(have:=hz.b;omega) |(have:=hz.c;omega) |(have:=hz.d;omega) |(have:=hz.e;omega))
theorem ES(e:Int)(l:List Tk)(p:Pr)(ok:Bool)(p':Pr)(l':List Tk)(hz:Sz p l)(hM:EM p l=(ok,p',l')):aj Tryz.prog 196 [.ptr 1000000 0,.ptr 1000001 0] [(1000000,pB l e 0),(1000001,xB p),(1000002,.tok 3 (p.params.map Bd.cs).length),(1000003,.tok 3 (p.states.map Bd.cs).length),(1000004,.tok 4 (p.lines.map Ln.cs).length),(1000005,.tok 2 (p.tables.map Tb.cs).length),(1000006,.tok 8 (p.stmts.map Sm.cs).length)] (JD 186 e ok l') [(1000000,pB l' e 0),(1000001,xB p'),(1000002,.tok 3 (p'.params.map Bd.cs).length),(1000003,.tok 3 (p'.states.map Bd.cs).length),(1000004,.tok 4 (p'.lines.map Ln.cs).length),(1000005,.tok 2 (p'.tables.map Tb.cs).length),(1000006,.tok 8 (p'.stmts.map Sm.cs).length)]:=by
 refine aS Tryz.func196 ?_
 repeat' ((try conv=>whnf)<;>first
  |((refine kH (d:=0) [] (λl=>jW l e 0) ?_);refine⟨_,_,rfl,rfl,rfl,λs1 l1 h_s1=>?_,λl1 h_s1=>?_⟩)
  |((refine Dn (λs l=>iG s l e 0) ?_);refine⟨_,_,_,_,rfl,rfl,rfl,rfl,rfl,λhW _=>?_,λhW=>?_⟩)
  |((refine zeh (d:=0) (zei 236) (λl=>l.length<=1073741823) (λl o l' hl h=>XE l e 0 o l' hl h) ?_);refine⟨_,_,rfl,rfl,rfl,by(have:=oV _ _ _ h_s1;have:=hz.a;simp only[List.length_drop];omega),λvs l3 h_vs=>?_,λl3 h_vs=>?_⟩)
  |((refine uj ?_);(try simp only[Bool.not_true,Bool.not_false,cond_true,cond_false,bne,Bool.not_eq_true',Bool.not_eq_false']at *);(simp only[EM,itB,bu,reduceIte,Bool.false_eq_true, *]at hM);(obtain⟨rfl,rfl,rfl⟩:=lT hM);refine lS ?_;(conv=>whnf);refine fin_step' [(1000000,1000000),(1000001,1000001),(1000002,1000002),(1000003,1000003),(1000004,1000004),(1000005,1000005),(1000006,1000006)] rfl ?_ ?_)
  |((refine xK ?_);(try simp only[Bool.not_true,Bool.not_false,cond_true,cond_false,bne,Bool.not_eq_true',Bool.not_eq_false']at *);(simp only[EM,itB,bu,reduceIte,Bool.false_eq_true, *]at hM);(obtain⟨rfl,rfl,rfl⟩:=lT hM);refine nP ?_;refine fin_step' [(1000000,1000000),(1000001,1000001),(1000002,1000002),(1000003,1000003),(1000004,1000004),(1000005,1000005),(1000006,1000006)] rfl ?_ ?_)
  |exact trivial
  |refine aF.l _ ?_
  |refine wz ?_ ?_ ?_
  |refine eU ?_
  |refine And.intro ?_ ?_
  |((refine gu ?_ ?_);exact rfl;(first |skip))
  |(refine YM ?_;first |exact rfl |skip)
  |exact dP rfl)
 all_goals first
  |exact qH rfl
  |(rw[List.length_map];first |(have:=hz.a;omega) |(have:=hz.b;omega) |(have:=hz.c;omega) |(have:=hz.d;omega) |(have:=hz.e;omega))
theorem jX(e:Int)(k:Int)(l:List Tk)(p:Pr)(ok:Bool)(p':Pr)(l':List Tk)(hz:Sz p l)(hM:nO k p l=(ok,p',l')):aj Tryz.prog 237 [.ptr 1000000 0,.ptr 1000001 0,.data (.i k)] [(1000000,pB l e 0),(1000001,xB p),(1000002,.tok 3 (p.params.map Bd.cs).length),(1000003,.tok 3 (p.states.map Bd.cs).length),(1000004,.tok 4 (p.lines.map Ln.cs).length),(1000005,.tok 2 (p.tables.map Tb.cs).length),(1000006,.tok 8 (p.stmts.map Sm.cs).length)] (JD 186 e ok l') [(1000000,pB l' e 0),(1000001,xB p'),(1000002,.tok 3 (p'.params.map Bd.cs).length),(1000003,.tok 3 (p'.states.map Bd.cs).length),(1000004,.tok 4 (p'.lines.map Ln.cs).length),(1000005,.tok 2 (p'.tables.map Tb.cs).length),(1000006,.tok 8 (p'.stmts.map Sm.cs).length)]:=by
 refine aS Tryz.func237 ?_
 repeat' ((try conv=>whnf)<;>first
  |((refine kH (d:=0) [] (λl=>jW l e 0) ?_);refine⟨_,_,rfl,rfl,rfl,λs1 l1 h_s1=>?_,λl1 h_s1=>?_⟩)
  |((refine Dn (λs l=>iG s l e 0) ?_);refine⟨_,_,_,_,rfl,rfl,rfl,rfl,rfl,λhW _=>?_,λhW=>?_⟩)
  |((refine kH (d:=0) [] (λl=>XD e l) ?_);refine⟨_,_,rfl,rfl,rfl,λx l3 h_x=>?_,λl3 h_x=>?_⟩)
  |((refine uj ?_);(try simp only[Bool.not_true,Bool.not_false,cond_true,cond_false,bne,Bool.not_eq_true',Bool.not_eq_false']at *);(simp only[nO,itB,bnd,bu,bne,Bool.not_false,Bool.not_true,reduceIte,Bool.false_eq_true, *]at hM);(obtain⟨rfl,rfl,rfl⟩:=lT hM);refine lS ?_;(conv=>whnf);refine fin_step' [(1000000,1000000),(1000001,1000001),(1000002,1000002),(1000003,1000003),(1000004,1000004),(1000005,1000005),(1000006,1000006)] rfl ?_ ?_)
  |((refine xK ?_);(try simp only[Bool.not_true,Bool.not_false,cond_true,cond_false,bne,Bool.not_eq_true',Bool.not_eq_false']at *);(simp only[nO,itB,bnd,bu,bne,Bool.not_false,Bool.not_true,reduceIte,Bool.false_eq_true, *]at hM);(obtain⟨rfl,rfl,rfl⟩:=lT hM);refine nP ?_;refine fin_step' [(1000000,1000000),(1000001,1000001),(1000002,1000002),(1000003,1000003),(1000004,1000004),(1000005,1000005),(1000006,1000006)] rfl ?_ ?_)
  |exact trivial
  |refine BrI.intro (λh=>?_) (λh=>?_)
  |refine aF.l _ ?_
  |refine wz ?_ ?_ ?_
  |refine eU ?_
  |refine And.intro ?_ ?_
  |((refine gu ?_ ?_);exact rfl;(first |skip))
  |(refine YM ?_;first |exact rfl |skip)
  |exact dP rfl)
 all_goals first
  |exact qH rfl
  |(rw[List.length_map];first |(have:=hz.a;omega) |(have:=hz.b;omega) |(have:=hz.c;omega) |(have:=hz.d;omega) |(have:=hz.e;omega))
theorem Qh(e:Int)(l:List Tk)(p:Pr)(ok:Bool)(p':Pr)(l':List Tk)(hz:Sz p l)(hM:(nO 1) p l=(ok,p',l')):aj Tryz.prog 197 [.ptr 1000000 0,.ptr 1000001 0] [(1000000,pB l e 0),(1000001,xB p),(1000002,.tok 3 (p.params.map Bd.cs).length),(1000003,.tok 3 (p.states.map Bd.cs).length),(1000004,.tok 4 (p.lines.map Ln.cs).length),(1000005,.tok 2 (p.tables.map Tb.cs).length),(1000006,.tok 8 (p.stmts.map Sm.cs).length)] (JD 186 e ok l') [(1000000,pB l' e 0),(1000001,xB p'),(1000002,.tok 3 (p'.params.map Bd.cs).length),(1000003,.tok 3 (p'.states.map Bd.cs).length),(1000004,.tok 4 (p'.lines.map Ln.cs).length),(1000005,.tok 2 (p'.tables.map Tb.cs).length),(1000006,.tok 8 (p'.stmts.map Sm.cs).length)]:=by
 refine aS Tryz.func197 ?_
 repeat' ((try conv=>whnf)<;>first
  |((refine vU 237 (nO 1 p l) (λp1 l1=>⟨λhR=>?_,λhR=>?_⟩));(refine lent_step' [(1000000,1000000),(1000001,1000001),(1000002,1000002),(1000003,1000003),(1000004,1000004),(1000005,1000005),(1000006,1000006)] (jX e 1 l p true p1 l1 hz hR) rfl ⟨rfl,rfl,rfl,rfl,rfl,rfl,rfl,trivial⟩ rfl ?_);rotate_left;(refine lent_step' [(1000000,1000000),(1000001,1000001),(1000002,1000002),(1000003,1000003),(1000004,1000004),(1000005,1000005),(1000006,1000006)] (jX e 1 l p false p1 l1 hz hR) rfl ⟨rfl,rfl,rfl,rfl,rfl,rfl,rfl,trivial⟩ rfl ?_))
  |((refine uj ?_);(try simp only[Bool.not_true,Bool.not_false,cond_true,cond_false,bne,Bool.not_eq_true',Bool.not_eq_false']at *);(simp only[hR,reduceIte,Bool.false_eq_true, *]at hM);(obtain⟨rfl,rfl,rfl⟩:=lT hM);refine lS ?_;(conv=>whnf);refine fin_step' [(1000000,1000000),(1000001,1000001),(1000002,1000002),(1000003,1000003),(1000004,1000004),(1000005,1000005),(1000006,1000006)] rfl ?_ ?_)
  |((refine xK ?_);(try simp only[Bool.not_true,Bool.not_false,cond_true,cond_false,bne,Bool.not_eq_true',Bool.not_eq_false']at *);(simp only[hR,reduceIte,Bool.false_eq_true, *]at hM);(obtain⟨rfl,rfl,rfl⟩:=lT hM);refine nP ?_;refine fin_step' [(1000000,1000000),(1000001,1000001),(1000002,1000002),(1000003,1000003),(1000004,1000004),(1000005,1000005),(1000006,1000006)] rfl ?_ ?_)
  |exact trivial
  |refine And.intro ?_ ?_
  |(refine YM ?_;first |exact rfl |skip)
  |exact @rfl Block _)
theorem Qi(e:Int)(l:List Tk)(p:Pr)(ok:Bool)(p':Pr)(l':List Tk)(hz:Sz p l)(hM:(nO 2) p l=(ok,p',l')):aj Tryz.prog 198 [.ptr 1000000 0,.ptr 1000001 0] [(1000000,pB l e 0),(1000001,xB p),(1000002,.tok 3 (p.params.map Bd.cs).length),(1000003,.tok 3 (p.states.map Bd.cs).length),(1000004,.tok 4 (p.lines.map Ln.cs).length),(1000005,.tok 2 (p.tables.map Tb.cs).length),(1000006,.tok 8 (p.stmts.map Sm.cs).length)] (JD 186 e ok l') [(1000000,pB l' e 0),(1000001,xB p'),(1000002,.tok 3 (p'.params.map Bd.cs).length),(1000003,.tok 3 (p'.states.map Bd.cs).length),(1000004,.tok 4 (p'.lines.map Ln.cs).length),(1000005,.tok 2 (p'.tables.map Tb.cs).length),(1000006,.tok 8 (p'.stmts.map Sm.cs).length)]:=by
 refine aS Tryz.func198 ?_
 repeat' ((try conv=>whnf)<;>first
  |((refine vU 237 (nO 2 p l) (λp1 l1=>⟨λhR=>?_,λhR=>?_⟩));(refine lent_step' [(1000000,1000000),(1000001,1000001),(1000002,1000002),(1000003,1000003),(1000004,1000004),(1000005,1000005),(1000006,1000006)] (jX e 2 l p true p1 l1 hz hR) rfl ⟨rfl,rfl,rfl,rfl,rfl,rfl,rfl,trivial⟩ rfl ?_);rotate_left;(refine lent_step' [(1000000,1000000),(1000001,1000001),(1000002,1000002),(1000003,1000003),(1000004,1000004),(1000005,1000005),(1000006,1000006)] (jX e 2 l p false p1 l1 hz hR) rfl ⟨rfl,rfl,rfl,rfl,rfl,rfl,rfl,trivial⟩ rfl ?_))
  |((refine uj ?_);(try simp only[Bool.not_true,Bool.not_false,cond_true,cond_false,bne,Bool.not_eq_true',Bool.not_eq_false']at *);(simp only[hR,reduceIte,Bool.false_eq_true, *]at hM);(obtain⟨rfl,rfl,rfl⟩:=lT hM);refine lS ?_;(conv=>whnf);refine fin_step' [(1000000,1000000),(1000001,1000001),(1000002,1000002),(1000003,1000003),(1000004,1000004),(1000005,1000005),(1000006,1000006)] rfl ?_ ?_)
  |((refine xK ?_);(try simp only[Bool.not_true,Bool.not_false,cond_true,cond_false,bne,Bool.not_eq_true',Bool.not_eq_false']at *);(simp only[hR,reduceIte,Bool.false_eq_true, *]at hM);(obtain⟨rfl,rfl,rfl⟩:=lT hM);refine nP ?_;refine fin_step' [(1000000,1000000),(1000001,1000001),(1000002,1000002),(1000003,1000003),(1000004,1000004),(1000005,1000005),(1000006,1000006)] rfl ?_ ?_)
  |exact trivial
  |refine And.intro ?_ ?_
  |(refine YM ?_;first |exact rfl |skip)
  |exact @rfl Block _)
theorem JZ(e:Int)(l:List Tk)(p:Pr)(ok:Bool)(p':Pr)(l':List Tk)(hz:Sz p l)(hM:(nO 3) p l=(ok,p',l')):aj Tryz.prog 199 [.ptr 1000000 0,.ptr 1000001 0] [(1000000,pB l e 0),(1000001,xB p),(1000002,.tok 3 (p.params.map Bd.cs).length),(1000003,.tok 3 (p.states.map Bd.cs).length),(1000004,.tok 4 (p.lines.map Ln.cs).length),(1000005,.tok 2 (p.tables.map Tb.cs).length),(1000006,.tok 8 (p.stmts.map Sm.cs).length)] (JD 186 e ok l') [(1000000,pB l' e 0),(1000001,xB p'),(1000002,.tok 3 (p'.params.map Bd.cs).length),(1000003,.tok 3 (p'.states.map Bd.cs).length),(1000004,.tok 4 (p'.lines.map Ln.cs).length),(1000005,.tok 2 (p'.tables.map Tb.cs).length),(1000006,.tok 8 (p'.stmts.map Sm.cs).length)]:=by
 refine aS Tryz.func199 ?_
 repeat' ((try conv=>whnf)<;>first
  |((refine vU 237 (nO 3 p l) (λp1 l1=>⟨λhR=>?_,λhR=>?_⟩));(refine lent_step' [(1000000,1000000),(1000001,1000001),(1000002,1000002),(1000003,1000003),(1000004,1000004),(1000005,1000005),(1000006,1000006)] (jX e 3 l p true p1 l1 hz hR) rfl ⟨rfl,rfl,rfl,rfl,rfl,rfl,rfl,trivial⟩ rfl ?_);rotate_left;(refine lent_step' [(1000000,1000000),(1000001,1000001),(1000002,1000002),(1000003,1000003),(1000004,1000004),(1000005,1000005),(1000006,1000006)] (jX e 3 l p false p1 l1 hz hR) rfl ⟨rfl,rfl,rfl,rfl,rfl,rfl,rfl,trivial⟩ rfl ?_))
  |((refine uj ?_);(try simp only[Bool.not_true,Bool.not_false,cond_true,cond_false,bne,Bool.not_eq_true',Bool.not_eq_false']at *);(simp only[hR,reduceIte,Bool.false_eq_true, *]at hM);(obtain⟨rfl,rfl,rfl⟩:=lT hM);refine lS ?_;(conv=>whnf);refine fin_step' [(1000000,1000000),(1000001,1000001),(1000002,1000002),(1000003,1000003),(1000004,1000004),(1000005,1000005),(1000006,1000006)] rfl ?_ ?_)
  |((refine xK ?_);(try simp only[Bool.not_true,Bool.not_false,cond_true,cond_false,bne,Bool.not_eq_true',Bool.not_eq_false']at *);(simp only[hR,reduceIte,Bool.false_eq_true, *]at hM);(obtain⟨rfl,rfl,rfl⟩:=lT hM);refine nP ?_;refine fin_step' [(1000000,1000000),(1000001,1000001),(1000002,1000002),(1000003,1000003),(1000004,1000004),(1000005,1000005),(1000006,1000006)] rfl ?_ ?_)
  |exact trivial
  |refine And.intro ?_ ?_
  |(refine YM ?_;first |exact rfl |skip)
  |exact @rfl Block _)
theorem Qj(e:Int)(l:List Tk)(p:Pr)(ok:Bool)(p':Pr)(l':List Tk)(hz:Sz p l)(hM:(nO 4) p l=(ok,p',l')):aj Tryz.prog 200 [.ptr 1000000 0,.ptr 1000001 0] [(1000000,pB l e 0),(1000001,xB p),(1000002,.tok 3 (p.params.map Bd.cs).length),(1000003,.tok 3 (p.states.map Bd.cs).length),(1000004,.tok 4 (p.lines.map Ln.cs).length),(1000005,.tok 2 (p.tables.map Tb.cs).length),(1000006,.tok 8 (p.stmts.map Sm.cs).length)] (JD 186 e ok l') [(1000000,pB l' e 0),(1000001,xB p'),(1000002,.tok 3 (p'.params.map Bd.cs).length),(1000003,.tok 3 (p'.states.map Bd.cs).length),(1000004,.tok 4 (p'.lines.map Ln.cs).length),(1000005,.tok 2 (p'.tables.map Tb.cs).length),(1000006,.tok 8 (p'.stmts.map Sm.cs).length)]:=by
 refine aS Tryz.func200 ?_
 repeat' ((try conv=>whnf)<;>first
  |((refine vU 237 (nO 4 p l) (λp1 l1=>⟨λhR=>?_,λhR=>?_⟩));(refine lent_step' [(1000000,1000000),(1000001,1000001),(1000002,1000002),(1000003,1000003),(1000004,1000004),(1000005,1000005),(1000006,1000006)] (jX e 4 l p true p1 l1 hz hR) rfl ⟨rfl,rfl,rfl,rfl,rfl,rfl,rfl,trivial⟩ rfl ?_);rotate_left;(refine lent_step' [(1000000,1000000),(1000001,1000001),(1000002,1000002),(1000003,1000003),(1000004,1000004),(1000005,1000005),(1000006,1000006)] (jX e 4 l p false p1 l1 hz hR) rfl ⟨rfl,rfl,rfl,rfl,rfl,rfl,rfl,trivial⟩ rfl ?_))
  |((refine uj ?_);(try simp only[Bool.not_true,Bool.not_false,cond_true,cond_false,bne,Bool.not_eq_true',Bool.not_eq_false']at *);(simp only[hR,reduceIte,Bool.false_eq_true, *]at hM);(obtain⟨rfl,rfl,rfl⟩:=lT hM);refine lS ?_;(conv=>whnf);refine fin_step' [(1000000,1000000),(1000001,1000001),(1000002,1000002),(1000003,1000003),(1000004,1000004),(1000005,1000005),(1000006,1000006)] rfl ?_ ?_)
  |((refine xK ?_);(try simp only[Bool.not_true,Bool.not_false,cond_true,cond_false,bne,Bool.not_eq_true',Bool.not_eq_false']at *);(simp only[hR,reduceIte,Bool.false_eq_true, *]at hM);(obtain⟨rfl,rfl,rfl⟩:=lT hM);refine nP ?_;refine fin_step' [(1000000,1000000),(1000001,1000001),(1000002,1000002),(1000003,1000003),(1000004,1000004),(1000005,1000005),(1000006,1000006)] rfl ?_ ?_)
  |exact trivial
  |refine And.intro ?_ ?_
  |(refine YM ?_;first |exact rfl |skip)
  |exact @rfl Block _)
end Go.Proofs.YtgehpmgkaeohaaaGreatDoor
namespace Go.Proofs.YtgehpmgkaeohaaaGreatDoor
open Go.Fw Go.Fw.Lx Go.Fw.Sy
set_option maxRecDepth 10000
variable [ae]
theorem Ce(e:Int)(l:List Tk)(p:Pr)(ok:Bool)(p':Pr)(l':List Tk)(hz:Sz p l)(hM:jT decls p l=(ok,p',l')):aj Tryz.prog 192 [.ptr 1000000 0,.ptr 1000001 0,.map 1000007] [(1000000,pB l e 0),(1000001,xB p),(1000002,.tok 3 (p.params.map Bd.cs).length),(1000003,.tok 3 (p.states.map Bd.cs).length),(1000004,.tok 4 (p.lines.map Ln.cs).length),(1000005,.tok 2 (p.tables.map Tb.cs).length),(1000006,.tok 8 (p.stmts.map Sm.cs).length),(1000007,.map false [.str] [(.str PQ,.fn 193 []),(.str PR,.fn 194 []),(.str ZM,.fn 195 []),(.str PS,.fn 196 [])])] (JD 186 e ok l') [(1000000,pB l' e 0),(1000001,xB p'),(1000002,.tok 3 (p'.params.map Bd.cs).length),(1000003,.tok 3 (p'.states.map Bd.cs).length),(1000004,.tok 4 (p'.lines.map Ln.cs).length),(1000005,.tok 2 (p'.tables.map Tb.cs).length),(1000006,.tok 8 (p'.stmts.map Sm.cs).length),(1000007,.map false [.str] [(.str PQ,.fn 193 []),(.str PR,.fn 194 []),(.str ZM,.fn 195 []),(.str PS,.fn 196 [])])]:=by
 refine aS Tryz.func192 ?_
 repeat' ((try conv=>whnf)<;>first
  |((refine Ej (.data (.val (.bool false))) ?_ ?_ ?_);rfl;rfl)
  |((refine IU ?_ ?_);rfl)
  |((refine xJ ?_ ?_);rfl)
  |((refine xI ?_ ?_);rfl)
  |((refine Dl (λs l=>iF s l e 0) ?_);refine⟨_,_,_,rfl,rfl,rfl,λhT _=>?_,λhT=>?_⟩)
  |((refine Dn (λs l=>iG s l e 0) ?_);refine⟨_,_,_,_,rfl,rfl,rfl,rfl,rfl,λhW _=>?_,λhW=>?_⟩)
  |((refine vU 193 (EK p (l1.drop 1)) (λp1 l2=>⟨λhR=>?_,λhR=>?_⟩));(refine lent_step' [(1000000,1000000),(1000001,1000001),(1000002,1000002),(1000003,1000003),(1000004,1000004),(1000005,1000005),(1000006,1000006)] (EQ e (l1.drop 1) p true p1 l2 (hI0.sz.le (by simp)) hR) rfl ⟨rfl,rfl,rfl,rfl,rfl,rfl,rfl,trivial⟩ rfl ?_);rotate_left;(refine lent_step' [(1000000,1000000),(1000001,1000001),(1000002,1000002),(1000003,1000003),(1000004,1000004),(1000005,1000005),(1000006,1000006)] (EQ e (l1.drop 1) p false p1 l2 (hI0.sz.le (by simp)) hR) rfl ⟨rfl,rfl,rfl,rfl,rfl,rfl,rfl,trivial⟩ rfl ?_))
  |((refine vU 194 (EL p (l1.drop 1)) (λp1 l2=>⟨λhR=>?_,λhR=>?_⟩));(refine lent_step' [(1000000,1000000),(1000001,1000001),(1000002,1000002),(1000003,1000003),(1000004,1000004),(1000005,1000005),(1000006,1000006)] (ER e (l1.drop 1) p true p1 l2 (hI0.sz.le (by simp)) hR) rfl ⟨rfl,rfl,rfl,rfl,rfl,rfl,rfl,trivial⟩ rfl ?_);rotate_left;(refine lent_step' [(1000000,1000000),(1000001,1000001),(1000002,1000002),(1000003,1000003),(1000004,1000004),(1000005,1000005),(1000006,1000006)] (ER e (l1.drop 1) p false p1 l2 (hI0.sz.le (by simp)) hR) rfl ⟨rfl,rfl,rfl,rfl,rfl,rfl,rfl,trivial⟩ rfl ?_))
  |((refine vU 195 (RS p (l1.drop 1)) (λp1 l2=>⟨λhR=>?_,λhR=>?_⟩));(refine lent_step' [(1000000,1000000),(1000001,1000001),(1000002,1000002),(1000003,1000003),(1000004,1000004),(1000005,1000005),(1000006,1000006)] (JY e (l1.drop 1) p true p1 l2 (hI0.sz.le (by simp)) hR) rfl ⟨rfl,rfl,rfl,rfl,rfl,rfl,rfl,trivial⟩ rfl ?_);rotate_left;(refine lent_step' [(1000000,1000000),(1000001,1000001),(1000002,1000002),(1000003,1000003),(1000004,1000004),(1000005,1000005),(1000006,1000006)] (JY e (l1.drop 1) p false p1 l2 (hI0.sz.le (by simp)) hR) rfl ⟨rfl,rfl,rfl,rfl,rfl,rfl,rfl,trivial⟩ rfl ?_))
  |((refine vU 196 (EM p (l1.drop 1)) (λp1 l2=>⟨λhR=>?_,λhR=>?_⟩));(refine lent_step' [(1000000,1000000),(1000001,1000001),(1000002,1000002),(1000003,1000003),(1000004,1000004),(1000005,1000005),(1000006,1000006)] (ES e (l1.drop 1) p true p1 l2 (hI0.sz.le (by simp)) hR) rfl ⟨rfl,rfl,rfl,rfl,rfl,rfl,rfl,trivial⟩ rfl ?_);rotate_left;(refine lent_step' [(1000000,1000000),(1000001,1000001),(1000002,1000002),(1000003,1000003),(1000004,1000004),(1000005,1000005),(1000006,1000006)] (ES e (l1.drop 1) p false p1 l2 (hI0.sz.le (by simp)) hR) rfl ⟨rfl,rfl,rfl,rfl,rfl,rfl,rfl,trivial⟩ rfl ?_))
  |refine cZ (n-1,p1,l2.drop 1) ?_ (zhv hI0 ‹isT (hd l1).text l1=true› (by simp only[find,decls, *,reduceIte,Bool.false_eq_true]) hR (by first |exact GU hR |exact GV hR |exact Nh hR |exact GX hR |exact Nj hR) ‹isT Di l2=true›) (zep hI0 ‹isT (hd l1).text l1=true›)
  |((refine xK ?_);(have hE:=zen hI0 ‹isT (hd l1).text l1=true› (by simp only[find,decls, *,reduceIte,Bool.false_eq_true]) hR);(obtain⟨rfl,rfl,rfl⟩:=hE);refine nP ?_;refine fin_step' [(1000000,1000000),(1000001,1000001),(1000002,1000002),(1000003,1000003),(1000004,1000004),(1000005,1000005),(1000006,1000006),(1000007,1000007)] rfl ?_ ?_)
  |((refine xK ?_);(have hE:=zeo hI0 ‹isT (hd l1).text l1=true› (by simp only[find,decls, *,reduceIte,Bool.false_eq_true]) hR ‹isT Di l2=false›);(obtain⟨rfl,rfl,rfl⟩:=hE);refine nP ?_;refine fin_step' [(1000000,1000000),(1000001,1000001),(1000002,1000002),(1000003,1000003),(1000004,1000004),(1000005,1000005),(1000006,1000006),(1000007,1000007)] rfl ?_ ?_)
  |((refine uj ?_);(have hE:=zeq hI0 ‹decide (((l1.map Tk.cs).length:Int)>0)=false›);(obtain⟨rfl,rfl,rfl⟩:=hE);refine lS ?_;(conv=>whnf);refine fin_step' [(1000000,1000000),(1000001,1000001),(1000002,1000002),(1000003,1000003),(1000004,1000004),(1000005,1000005),(1000006,1000006),(1000007,1000007)] rfl ?_ ?_)
  |((refine uj ?_);(have hE:=zes hI0 ‹isT (hd l1).text l1=false›);(obtain⟨rfl,rfl,rfl⟩:=hE);refine lS ?_;(conv=>whnf);refine fin_step' [(1000000,1000000),(1000001,1000001),(1000002,1000002),(1000003,1000003),(1000004,1000004),(1000005,1000005),(1000006,1000006),(1000007,1000007)] rfl ?_ ?_)
  |((refine uj ?_);(have hE:=zer hI0 (by simp only[find,decls, *,reduceIte,Bool.false_eq_true]));(obtain⟨rfl,rfl,rfl⟩:=hE);refine lS ?_;(conv=>whnf);refine fin_step' [(1000000,1000000),(1000001,1000001),(1000002,1000002),(1000003,1000003),(1000004,1000004),(1000005,1000005),(1000006,1000006),(1000007,1000007)] rfl ?_ ?_)
  |exact trivial
  |refine BrI.intro (λh=>?_) (λh=>?_)
  |((refine sG ?_ ?_ ?_ ?_);exact⟨rfl,rfl⟩;rfl;exact Xm ‹decide (((l1.map Tk.cs).length:Int)>0)=true›)
  |refine zhu (λh1=>?_) (λh0 h1=>?_) (λh0 h00 h1=>?_) (λh0 h00 h000 h1=>?_) (λh0 h00 h000 h0000=>?_)
  |((refine ax.mk 0 ?_);refine⟨lF (λ(q:(Nat)×(Pr)×(List Tk))=>match q with |(n,p,l1)=>[]) (λ(q:(Nat)×(Pr)×(List Tk))=>match q with |(n,p,l1)=>[(1000000,pB l1 e 0),(1000001,xB p),(1000002,.tok 3 (p.params.map Bd.cs).length),(1000003,.tok 3 (p.states.map Bd.cs).length),(1000004,.tok 4 (p.lines.map Ln.cs).length),(1000005,.tok 2 (p.tables.map Tb.cs).length),(1000006,.tok 8 (p.stmts.map Sm.cs).length)]) [0,1,2] (λ(q:(Nat)×(Pr)×(List Tk))=>match q with |(n,p,l1)=>ItI decls (ok,p',l') n p l1) (λ(q:(Nat)×(Pr)×(List Tk))=>match q with |(n,p,l1)=>n),?_⟩;refine eG ((l.length),(p),(l)) ?_ ?_ (λ⟨n,p,l1⟩ hI0=>?_))
  |refine aF.l _ ?_
  |refine And.intro ?_ ?_
  |((refine mY ?_ ?_ ?_);rfl;rfl;(first |exact rfl |skip))
  |((refine bQ ?_);refine ig ?_ ?_ ?_;rfl;rfl;(first |exact rfl |skip))
  |exact @rfl AV _
  |exact @rfl Block _)
 all_goals first
  |rfl
  |exact ItI.start hz hM
theorem Cf(e:Int)(l:List Tk)(p:Pr)(ok:Bool)(p':Pr)(l':List Tk)(hz:Sz p l)(hM:jT stmts p l=(ok,p',l')):aj Tryz.prog 192 [.ptr 1000000 0,.ptr 1000001 0,.map 1000007] [(1000000,pB l e 0),(1000001,xB p),(1000002,.tok 3 (p.params.map Bd.cs).length),(1000003,.tok 3 (p.states.map Bd.cs).length),(1000004,.tok 4 (p.lines.map Ln.cs).length),(1000005,.tok 2 (p.tables.map Tb.cs).length),(1000006,.tok 8 (p.stmts.map Sm.cs).length),(1000007,.map false [.str] [(.str zfj,.fn 197 []),(.str zfk,.fn 198 []),(.str ZN,.fn 199 []),(.str zfl,.fn 200 [])])] (JD 186 e ok l') [(1000000,pB l' e 0),(1000001,xB p'),(1000002,.tok 3 (p'.params.map Bd.cs).length),(1000003,.tok 3 (p'.states.map Bd.cs).length),(1000004,.tok 4 (p'.lines.map Ln.cs).length),(1000005,.tok 2 (p'.tables.map Tb.cs).length),(1000006,.tok 8 (p'.stmts.map Sm.cs).length),(1000007,.map false [.str] [(.str zfj,.fn 197 []),(.str zfk,.fn 198 []),(.str ZN,.fn 199 []),(.str zfl,.fn 200 [])])]:=by
 refine aS Tryz.func192 ?_
 repeat' ((try conv=>whnf)<;>first
  |((with_reducible refine Ej (.data (.val (.bool false))) ?_ ?_ ?_);rfl;rfl)
  |((with_reducible refine IU ?_ ?_);rfl)
  |((with_reducible refine xJ ?_ ?_);rfl)
  |((with_reducible refine xI ?_ ?_);rfl)
  |((with_reducible refine Dl (λs l=>iF s l e 0) ?_);refine⟨_,_,_,rfl,rfl,rfl,λhT _=>?_,λhT=>?_⟩)
  |((with_reducible refine Dn (λs l=>iG s l e 0) ?_);refine⟨_,_,_,_,rfl,rfl,rfl,rfl,rfl,λhW _=>?_,λhW=>?_⟩)
  |((with_reducible refine vU 197 (nO 1 p (l1.drop 1)) (λp1 l2=>⟨λhR=>?_,λhR=>?_⟩));(refine lent_step' [(1000000,1000000),(1000001,1000001),(1000002,1000002),(1000003,1000003),(1000004,1000004),(1000005,1000005),(1000006,1000006)] (Qh e (l1.drop 1) p true p1 l2 (hI0.sz.le (by simp)) hR) rfl ⟨rfl,rfl,rfl,rfl,rfl,rfl,rfl,trivial⟩ rfl ?_);rotate_left;(refine lent_step' [(1000000,1000000),(1000001,1000001),(1000002,1000002),(1000003,1000003),(1000004,1000004),(1000005,1000005),(1000006,1000006)] (Qh e (l1.drop 1) p false p1 l2 (hI0.sz.le (by simp)) hR) rfl ⟨rfl,rfl,rfl,rfl,rfl,rfl,rfl,trivial⟩ rfl ?_))
  |((with_reducible refine vU 198 (nO 2 p (l1.drop 1)) (λp1 l2=>⟨λhR=>?_,λhR=>?_⟩));(refine lent_step' [(1000000,1000000),(1000001,1000001),(1000002,1000002),(1000003,1000003),(1000004,1000004),(1000005,1000005),(1000006,1000006)] (Qi e (l1.drop 1) p true p1 l2 (hI0.sz.le (by simp)) hR) rfl ⟨rfl,rfl,rfl,rfl,rfl,rfl,rfl,trivial⟩ rfl ?_);rotate_left;(refine lent_step' [(1000000,1000000),(1000001,1000001),(1000002,1000002),(1000003,1000003),(1000004,1000004),(1000005,1000005),(1000006,1000006)] (Qi e (l1.drop 1) p false p1 l2 (hI0.sz.le (by simp)) hR) rfl ⟨rfl,rfl,rfl,rfl,rfl,rfl,rfl,trivial⟩ rfl ?_))
  |((with_reducible refine vU 199 (nO 3 p (l1.drop 1)) (λp1 l2=>⟨λhR=>?_,λhR=>?_⟩));(refine lent_step' [(1000000,1000000),(1000001,1000001),(1000002,1000002),(1000003,1000003),(1000004,1000004),(1000005,1000005),(1000006,1000006)] (JZ e (l1.drop 1) p true p1 l2 (hI0.sz.le (by simp)) hR) rfl ⟨rfl,rfl,rfl,rfl,rfl,rfl,rfl,trivial⟩ rfl ?_);rotate_left;(refine lent_step' [(1000000,1000000),(1000001,1000001),(1000002,1000002),(1000003,1000003),(1000004,1000004),(1000005,1000005),(1000006,1000006)] (JZ e (l1.drop 1) p false p1 l2 (hI0.sz.le (by simp)) hR) rfl ⟨rfl,rfl,rfl,rfl,rfl,rfl,rfl,trivial⟩ rfl ?_))
  |((with_reducible refine vU 200 (nO 4 p (l1.drop 1)) (λp1 l2=>⟨λhR=>?_,λhR=>?_⟩));(refine lent_step' [(1000000,1000000),(1000001,1000001),(1000002,1000002),(1000003,1000003),(1000004,1000004),(1000005,1000005),(1000006,1000006)] (Qj e (l1.drop 1) p true p1 l2 (hI0.sz.le (by simp)) hR) rfl ⟨rfl,rfl,rfl,rfl,rfl,rfl,rfl,trivial⟩ rfl ?_);rotate_left;(refine lent_step' [(1000000,1000000),(1000001,1000001),(1000002,1000002),(1000003,1000003),(1000004,1000004),(1000005,1000005),(1000006,1000006)] (Qj e (l1.drop 1) p false p1 l2 (hI0.sz.le (by simp)) hR) rfl ⟨rfl,rfl,rfl,rfl,rfl,rfl,rfl,trivial⟩ rfl ?_))
  |with_reducible refine cZ (n-1,p1,l2.drop 1) ?_ (zhv hI0 ‹isT (hd l1).text l1=true› (by simp only[find,stmts, *,reduceIte,Bool.false_eq_true]) hR (by first |exact GU hR |exact GV hR |exact Nh hR |exact GX hR |exact Nj hR) ‹isT Di l2=true›) (zep hI0 ‹isT (hd l1).text l1=true›)
  |((with_reducible refine xK ?_);(have hE:=zen hI0 ‹isT (hd l1).text l1=true› (by simp only[find,stmts, *,reduceIte,Bool.false_eq_true]) hR);(obtain⟨rfl,rfl,rfl⟩:=hE);refine nP ?_;refine fin_step' [(1000000,1000000),(1000001,1000001),(1000002,1000002),(1000003,1000003),(1000004,1000004),(1000005,1000005),(1000006,1000006),(1000007,1000007)] rfl ?_ ?_)
  |((with_reducible refine xK ?_);(have hE:=zeo hI0 ‹isT (hd l1).text l1=true› (by simp only[find,stmts, *,reduceIte,Bool.false_eq_true]) hR ‹isT Di l2=false›);(obtain⟨rfl,rfl,rfl⟩:=hE);refine nP ?_;refine fin_step' [(1000000,1000000),(1000001,1000001),(1000002,1000002),(1000003,1000003),(1000004,1000004),(1000005,1000005),(1000006,1000006),(1000007,1000007)] rfl ?_ ?_)
  |((with_reducible refine uj ?_);(have hE:=zeq hI0 ‹decide (((l1.map Tk.cs).length:Int)>0)=false›);(obtain⟨rfl,rfl,rfl⟩:=hE);refine lS ?_;(conv=>whnf);refine fin_step' [(1000000,1000000),(1000001,1000001),(1000002,1000002),(1000003,1000003),(1000004,1000004),(1000005,1000005),(1000006,1000006),(1000007,1000007)] rfl ?_ ?_)
  |((with_reducible refine uj ?_);(have hE:=zes hI0 ‹isT (hd l1).text l1=false›);(obtain⟨rfl,rfl,rfl⟩:=hE);refine lS ?_;(conv=>whnf);refine fin_step' [(1000000,1000000),(1000001,1000001),(1000002,1000002),(1000003,1000003),(1000004,1000004),(1000005,1000005),(1000006,1000006),(1000007,1000007)] rfl ?_ ?_)
  |((with_reducible refine uj ?_);(have hE:=zer hI0 (by simp only[find,stmts, *,reduceIte,Bool.false_eq_true]));(obtain⟨rfl,rfl,rfl⟩:=hE);refine lS ?_;(conv=>whnf);refine fin_step' [(1000000,1000000),(1000001,1000001),(1000002,1000002),(1000003,1000003),(1000004,1000004),(1000005,1000005),(1000006,1000006),(1000007,1000007)] rfl ?_ ?_)
  |with_reducible exact trivial
  |with_reducible refine BrI.intro (λh=>?_) (λh=>?_)
  |((with_reducible refine sG ?_ ?_ ?_ ?_);exact⟨rfl,rfl⟩;rfl;exact Xm ‹decide (((l1.map Tk.cs).length:Int)>0)=true›)
  |refine zhu (λh1=>?_) (λh0 h1=>?_) (λh0 h00 h1=>?_) (λh0 h00 h000 h1=>?_) (λh0 h00 h000 h0000=>?_)
  |((with_reducible refine ax.mk 0 ?_);refine⟨lF (λ(q:(Nat)×(Pr)×(List Tk))=>match q with |(n,p,l1)=>[]) (λ(q:(Nat)×(Pr)×(List Tk))=>match q with |(n,p,l1)=>[(1000000,pB l1 e 0),(1000001,xB p),(1000002,.tok 3 (p.params.map Bd.cs).length),(1000003,.tok 3 (p.states.map Bd.cs).length),(1000004,.tok 4 (p.lines.map Ln.cs).length),(1000005,.tok 2 (p.tables.map Tb.cs).length),(1000006,.tok 8 (p.stmts.map Sm.cs).length)]) [0,1,2] (λ(q:(Nat)×(Pr)×(List Tk))=>match q with |(n,p,l1)=>ItI stmts (ok,p',l') n p l1) (λ(q:(Nat)×(Pr)×(List Tk))=>match q with |(n,p,l1)=>n),?_⟩;with_reducible refine eG ((l.length),(p),(l)) ?_ ?_ (λ⟨n,p,l1⟩ hI0=>?_))
  |with_reducible refine aF.l _ ?_
  |with_reducible refine And.intro ?_ ?_
  |((with_reducible refine mY ?_ ?_ ?_);rfl;rfl;(first |exact rfl |skip))
  |((with_reducible refine bQ ?_);refine ig ?_ ?_ ?_;rfl;rfl;(first |exact rfl |skip))
  |exact @rfl AV _
  |exact @rfl Block _)
 all_goals first
  |rfl
  |exact ItI.start hz hM
theorem XF(l:List Tk)(e:Int)(o:Option (Pr))(l':List Tk)(hl:l.length<=1073741823)(hM:Dk l=(o,l')):aj Tryz.prog 141 [.ptr 1000000 0] [(1000000,pB l e 0)] (kz 186 (λp:Pr=>p.d) e o l') [(1000000,pB l' e 0)]:=by
 refine lh tok hmix ⟨[11],[]⟩ Tryz.func141 rfl (by kernel_rfl) (by kernel_rfl) (by kernel_rfl) λhf=>?_
 clear hf
 repeat' ((try conv=>whnf)<;>first
  |((refine Dn (λs l=>iG s l e 0) ?_);refine⟨_,_,_,_,rfl,rfl,rfl,rfl,rfl,λhW _=>?_,λhW=>?_⟩)
  |((refine kH (d:=0) [] (λl=>jW l e 0) ?_);refine⟨_,_,rfl,rfl,rfl,λs1 l1 h_s1=>?_,λl1 h_s1=>?_⟩)
  |((refine Xf (d:=0) lL (λl=>(hd l).n) Xd (λl=>iT l e 0) ?_);refine⟨_,_,rfl,rfl,rfl,λ_=>?_,λhN=>absurd (h.symm.trans hN) Bool.noConfusion⟩)
  |((refine kH (d:=0) [] (λl=>iT l e 0) ?_);refine⟨_,_,rfl,rfl,rfl,λa1 l2 h_a1=>?_,λl2 h_a1=>?_⟩)
  |((refine ax.mk 11 ?_);refine⟨⟨Sy.Str×Int×Int×List Tk,λ_=>[],λ(q:Sy.Str×Int×Int×List Tk)=>match q with |(s,a,t,l1)=>[(2,.cells [.data (.str s),.data (.i a),.data (.i t),.gs 900100 3 [],.gs 900101 3 [],.gs 900102 4 [],.gs 900103 2 [],.gs 900104 8 []]),(900100,.tok 3 0),(900101,.tok 3 0),(900102,.tok 4 0),(900103,.tok 2 0),(900104,.tok 8 0),(1000000,pB l1 e 0)],[0,2],λ(q:Sy.Str×Int×Int×List Tk)=>match q with |(s,a,t,l1)=>vV s a t l1=(o,l')/\l1.length<=l.length,λ_=>0⟩,?_,?_⟩;rotate_left;rintro⟨s,a,t,l1⟩ hI)
  |refine⟨(s1,a1,(hd (l2.drop 1)).n,((l2.drop 1).drop 1).drop 1),z9d hM ‹isT gX l=true› h_s1 ‹isT kG l1=true› h_a1 ‹isT GM l2=true› ‹lL (l2.drop 1)=true› ‹isT z3d ((l2.drop 1).drop 1)=true›,?_⟩
  |refine⟨(s1,a1,-1,((l2.drop 1).drop 1).drop 1),z9f hM ‹isT gX l=true› h_s1 ‹isT kG l1=true› h_a1 ‹isT GM l2=true› ‹lL (l2.drop 1)=false› ‹isT vP (l2.drop 1)=true› ‹isT z3d ((l2.drop 1).drop 1)=true›,?_⟩
  |((refine vU 192 (jT decls (p0 s a t) l1) (λp1 l2=>⟨λhR1=>?_,λhR1=>?_⟩));(refine lent_step' [(1000000,1000000),(1000001,2),(1000002,900100),(1000003,900101),(1000004,900102),(1000005,900103),(1000006,900104),(1000007,31)] (Ce e l1 (p0 s a t) true p1 l2 (sz0 (Nat.le_trans hI.2 hl)) hR1) rfl ⟨rfl,rfl,rfl,rfl,rfl,rfl,rfl,rfl,trivial⟩ rfl ?_);rotate_left;(refine lent_step' [(1000000,1000000),(1000001,2),(1000002,900100),(1000003,900101),(1000004,900102),(1000005,900103),(1000006,900104),(1000007,31)] (Ce e l1 (p0 s a t) false p1 l2 (sz0 (Nat.le_trans hI.2 hl)) hR1) rfl ⟨rfl,rfl,rfl,rfl,rfl,rfl,rfl,rfl,trivial⟩ rfl ?_))
  |((refine vU 192 (jT stmts p1 l2) (λp2 l3=>⟨λhR2=>?_,λhR2=>?_⟩));(refine lent_step' [(1000000,1000000),(1000001,2),(1000002,900100),(1000003,900101),(1000004,900102),(1000005,900103),(1000006,900104),(1000007,35)] (Cf e l2 p1 true p2 l3 (JG hR1 (sz0 (Nat.le_trans hI.2 hl))) hR2) rfl ⟨rfl,rfl,rfl,rfl,rfl,rfl,rfl,rfl,trivial⟩ rfl ?_);rotate_left;(refine lent_step' [(1000000,1000000),(1000001,2),(1000002,900100),(1000003,900101),(1000004,900102),(1000005,900103),(1000006,900104),(1000007,35)] (Cf e l2 p1 false p2 l3 (JG hR1 (sz0 (Nat.le_trans hI.2 hl))) hR2) rfl ⟨rfl,rfl,rfl,rfl,rfl,rfl,rfl,rfl,trivial⟩ rfl ?_))
  |((refine bD ?_);(have hE:=z9g hI.1 hR1);(obtain⟨rfl,rfl⟩:=hE);refine aV ?_;refine fin_step' [(1000000,1000000)] rfl ?_ ?_)
  |((refine bD ?_);(have hE:=z9h hI.1 hR1 hR2);(obtain⟨rfl,rfl⟩:=hE);refine aV ?_;refine fin_step' [(1000000,1000000)] rfl ?_ ?_)
  |((refine bD ?_);(have hE:=z9i hI.1 hR1 hR2 ‹isT za1 l3=false›);(obtain⟨rfl,rfl⟩:=hE);refine aV ?_;refine fin_step' [(1000000,1000000)] rfl ?_ ?_)
  |((refine jD ?_);(have hE:=zet hI.1 hR1 hR2 ‹isT za1 l3=true›);(obtain⟨rfl,rfl⟩:=hE);refine gY ?_;(conv=>whnf);refine fin_step' [(1000000,1000000)] rfl ?_ ?_)
  |((refine bD ?_);(have hE:=z9e hM ‹isT gX l=true› h_s1 ‹isT kG l1=true› h_a1 ‹isT GM l2=true› ‹lL (l2.drop 1)=true› ‹isT z3d ((l2.drop 1).drop 1)=false›);(obtain⟨rfl,rfl⟩:=hE);refine aV ?_;refine fin_step' [(1000000,1000000)] rfl ?_ ?_)
  |((refine bD ?_);(try simp only[Bool.not_true,Bool.not_false,cond_true,cond_false,bne,Bool.not_eq_true',Bool.not_eq_false']at *);(simp only[zo,bnd,bu,reduceIte,Bool.false_eq_true, *]at hM);(obtain⟨rfl,rfl⟩:=fD hM);refine aV ?_;refine fin_step' [(1000000,1000000)] rfl ?_ ?_)
  |exact trivial
  |refine BrI.intro (λh=>?_) (λh=>?_)
  |refine Hl.l ?_
  |((refine dC ?_ ?_);exact rfl)
  |((refine dS ?_ ?_ ?_);rotate_left;exact jr _ _ _)
  |refine aF.l _ ?_
  |((refine bY ?_ ?_ ?_ ?_ ?_ ?_)<;>exact rfl)
  |((refine cO ?_ ?_ ?_ ?_)<;>exact rfl)
  |refine And.intro ?_ ?_
  |exact @rfl AV _)
 all_goals rfl
theorem XG(es:List (List D))(d1 d2:D)(v:Int):yE Tryz.prog 140 [.ptr 1000000 0,.ptr 1000001 0,.ptr 1000002 0] (some (.iface 186 (.agg [.i v]))) [(1000000,.cells [.gs 1000003 8 es]),(1000001,.cells [.data d1]),(1000002,.cells [.data d2]),(1000003,.tok 8 es.length)]
  [(1000000,.cells [.nilsl 8]),(1000001,.cells [.data (.i v)]),(1000002,.cells [.data (.i 140)]),(1000003,.tok 8 es.length)]:=by
 refine dR tok hmix Tryz.func140 rfl (by kernel_rfl) (by kernel_rfl) (by kernel_rfl) ?_
 repeat' ((try conv=>whnf)<;>first
  |exact trivial
  |refine eU ?_
  |refine⟨([]:List (Nat×Nat)),?_⟩
  |refine⟨by kernel_rfl,?_⟩
  |refine⟨rfl,?_⟩
  |refine⟨?_,?_⟩)
theorem z0u(es:List (List D))(d1 d2:D):yE Tryz.prog 140 [.ptr 1000000 0,.ptr 1000001 0,.ptr 1000002 0] none [(1000000,.cells [.gs 1000003 8 es]),(1000001,.cells [.data d1]),(1000002,.cells [.data d2]),(1000003,.tok 8 es.length)] [(1000000,.cells [.gs 1000003 8 es]),(1000001,.cells [.data d1]),(1000002,.cells [.data d2]),(1000003,.tok 8 es.length)]:=by
 refine dR tok hmix Tryz.func140 rfl (by kernel_rfl) (by kernel_rfl) (by kernel_rfl) ?_
 repeat' ((try conv=>whnf)<;>first
  |exact trivial
  |refine⟨([]:List (Nat×Nat)),?_⟩
  |refine⟨by kernel_rfl,?_⟩
  |refine⟨rfl,?_⟩
  |refine⟨?_,?_⟩)
theorem J3(l:List Tk)(e:Int)(hl:l.length<=1073741823):PCall Tryz.prog 110 [.sl 4 (l.map Tk.cs),.i e] (.ret (Z8 e (readM l))):=by
 refine ak Tryz.func110 ?_
 repeat' ((try conv=>whnf)<;>first
  |((refine bP _ _ _ [true,true,true] ?_ ?_ ?_);exact rfl;kernel_rfl)
  |((refine quiet_step ?_ ?_);kernel_rfl)
  |((refine zeh (d:=0) z9l (λl=>l.length<=1073741823) (λl o l' hl h=>XF l e o l' hl h) ?_);refine⟨_,_,rfl,rfl,rfl,zgj hI0,λp l2 h_p=>?_,λl2 h_p=>?_⟩)
  |refine cZ (n-1,ps++[p],l2) ?_ (zew hI0 ‹decide (((l1.map Tk.cs).length:Int)>0)=true› h_p) (z9k hI0 ‹decide (((l1.map Tk.cs).length:Int)>0)=true›)
  |((refine Nc ?_);refine⟨_,_,_,[(1000000,4),(1000001,5),(1000002,6),(1000003,900200)],z0u _ _ _,rfl,⟨rfl,rfl,rfl,rfl,trivial⟩,rfl,?_⟩;(rw[zex hI0 ‹decide (((l1.map Tk.cs).length:Int)>0)=false›]);(conv=>whnf);refine fin_step' [] rfl ?_ ?_)
  |((rw[zev hI0 ‹decide (((l1.map Tk.cs).length:Int)>0)=true› h_p]);(refine BQ ?_);refine⟨_,_,_,[(1000000,4),(1000001,5),(1000002,6),(1000003,900200)],XG _ _ _ _,rfl,⟨rfl,rfl,rfl,rfl,trivial⟩,rfl,?_⟩;(conv=>whnf);refine fin_step' [] rfl ?_ ?_)
  |exact trivial
  |refine BrI.intro (λh=>?_) (λh=>?_)
  |((refine ax.mk 0 ?_);refine⟨lF (λ(q:(Nat)×(List Pr)×(List Tk))=>match q with |(n,ps,l1)=>[]) (λ(q:(Nat)×(List Pr)×(List Tk))=>match q with |(n,ps,l1)=>[(4,.cells [.gs 900200 8 (ps.map Pr.cs)]),(900200,.tok 8 (ps.map Pr.cs).length),(12,pB l1 e 0)]) [4,5,6,7,999999] (λ(q:(Nat)×(List Pr)×(List Tk))=>match q with |(n,ps,l1)=>RdI (readM l) n ps l1) (λ(q:(Nat)×(List Pr)×(List Tk))=>match q with |(n,ps,l1)=>n),?_⟩;refine eG ((l.length),([]),(l)) ?_ ?_ (λ⟨n,ps,l1⟩ hI0=>?_))
  |refine aF.l _ ?_
  |((refine bY ?_ ?_ ?_ ?_ ?_ ?_)<;>exact rfl)
  |((refine cO ?_ ?_ ?_ ?_)<;>exact rfl)
  |refine wz ?_ ?_ ?_
  |refine eU ?_
  |((refine eu ?_ ?_);kernel_rfl)
  |refine And.intro ?_ ?_
  |((refine mY ?_ ?_ ?_);exact rfl;exact rfl;(first |exact bz |skip))
  |((refine gu ?_ ?_);exact rfl;(first |exact bz |skip))
  |exact @rfl AV _
  |exact dP rfl)
 all_goals first
  |rfl
  |exact zeu hl
  |exact Z9 hI0
theorem SX(s:Sy.Str)(hL:decide ((s.length:Int)>65536)=true):PCall Tryz.prog 58 [.str s] (.ret (.tuple [.sl 8 [],.i 0,.i 2])):=by
 refine ak Tryz.func58 ?_
 repeat' ((try conv=>whnf)<;>first
  |((refine xJ ?_ ?_);rfl)
  |((refine ah ?_ ?_ ?_);rotate_left;exact z0s s hL)
  |(refine dm ?_;conv=>whnf))
 all_goals rfl
theorem XH(s:Sy.Str)(a:Nat)(hL:decide ((s.length:Int)>65536)=false)(hl:lexR pStep s 0 = .error a):PCall Tryz.prog 58 [.str s] (.ret (.tuple [.sl 8 [],.i (a:Nat),.i 30])):=by
 refine dJ Tryz.func58 λhf=>?_
 have hq:=Cb s hL;rw[hl]at hq
 clear hf
 repeat' ((try conv=>whnf)<;>first
  |((refine xJ ?_ ?_);rfl)
  |((refine ah ?_ ?_ ?_);rotate_left;exact hq)
  |(refine dm ?_;conv=>whnf))
 all_goals rfl
theorem z0v(s:Sy.Str)(l:List Tk)(hL:decide ((s.length:Int)>65536)=false)(hl:lexR pStep s 0 = .ok l)(hn:l.length<=1073741823)(hR:(readM l).1=none):PCall Tryz.prog 58 [.str s] (.ret (.tuple [.sl 8 [],.i (at' (s.length:Int) (readM l).2),.i 140])):=by
 refine dJ Tryz.func58 λhf=>?_
 have hq:=Cb s hL;rw[hl]at hq
 have hr:=J3 l (s.length:Int) hn;rw[EN hR]at hr
 clear hf
 repeat' ((try conv=>whnf)<;>first
  |((refine xI ?_ ?_);rfl)
  |((refine ah ?_ ?_ ?_);rotate_left;(first |exact hq |exact hr))
  |(refine dm ?_;conv=>whnf))
theorem z0w(s:Sy.Str)(l:List Tk)(ps:List Pr)(hL:decide ((s.length:Int)>65536)=false)(hl:lexR pStep s 0 = .ok l)(hn:l.length<=1073741823)(hR:(readM l).1=some ps):PCall Tryz.prog 58 [.str s] (.ret (.tuple [prs ps,.i 0,.i 0])):=by
 refine dJ Tryz.func58 λhf=>?_
 have hq:=Cb s hL;rw[hl]at hq
 have hr:=J3 l (s.length:Int) hn;rw[readD_some hR]at hr
 clear hf
 repeat' ((try conv=>whnf)<;>first
  |((refine xI ?_ ?_);rfl)
  |((refine ah ?_ ?_ ?_);rotate_left;(first |exact hq |exact hr))
  |(refine dm ?_;conv=>whnf))
theorem SY(s:Sy.Str)(hn:∀l,lexR pStep s 0 = .ok l->l.length<=1073741823):PCall Tryz.prog 58 [.str s] (.ret (parseD s)):=by
 unfold parseD
 cases hL:decide ((s.length:Int)>65536)with
 |true=>exact SX s hL
 |false=>
  cases hl:lexR pStep s 0 with
  |error a=>exact XH s a hL hl
  |ok l=>
   cases hR:(readM l).1 with
   |none=>simp only[EN hR];exact z0v s l hL hl (hn l hl) hR
   |some ps=>simp only[readD_some hR];exact z0w s l ps hL hl (hn l hl) hR
end Go.Proofs.YtgehpmgkaeohaaaGreatDoor
namespace Go.Proofs.YtgehpmgkaeohaaaGreatDoor
open Go.Fw Go.Fw.Ref15 Go.Fw.Sy
set_option maxRecDepth 10000
variable [ae]
end Go.Proofs.YtgehpmgkaeohaaaGreatDoor
