/- A part of the proof. -/
import Derived.Test.YtgehpmgkaeohaaaGreatDoorZE
import Derived.Test.YtgehpmgkaeohaaaGreatDoorZNX
import Derived.Test.YtgehpmgkaeohaaaGreatDoorZDB
set_option linter.all false
set_option maxHeartbeats 4000000
namespace Go.Proofs.YtgehpmgkaeohaaaGreatDoor
open Go.Fw
set_option maxRecDepth 10000
variable [ae]
theorem HY(s sub:List UInt8)(hs:s.length<4294967281):PCall Tryz.prog 104 [.str s,.str sub] (.ret (.b (Lib.contains s sub))):=
 NE ⟨_,Tryz.func104,by kernel_rfl,by kernel_rfl⟩ ⟨_,rfl⟩ (λa b m w h1 h2=>Tryz.strings_Contains a b m w h1 h2) s sub hs
theorem Tz(n:Nat)(hn:n<=1073741824):ak Tryz.prog 133 [.nilsl 3,.data (.val (.int .i64 n))] [] (.ret (.gs 1000000 3 [])) [(1000000,.tok 3 0)]:=
 zab tok Tryz.growB ⟨_,Tryz.func133,by kernel_rfl,by kernel_rfl⟩ (Nat.ne_of_beq_eq_false rfl) (by kernel_rfl) (by decide +kernel) (by kernel_rfl) (by omega) (by kernel_rfl) n (by
  have:(Tryz.T.at (Tryz.growB_ren.t 25)).bytes=32:=by kernel_rfl
  rw[this];omega) (by omega)
end Go.Proofs.YtgehpmgkaeohaaaGreatDoor
namespace Go.Proofs.YtgehpmgkaeohaaaGreatDoor
open Go.Fw Go.Fw.Nam Go.Fw.Ref15
set_option maxRecDepth 10000
variable [ae]
theorem NW(c:UInt8)  : PCall Tryz.prog 131 [D.u8 c] (.ret (.i (cls c))):=by
 refine aj Tryz.func131 ?_
 repeat' ((try conv=>whnf)<;>first
  |with_reducible refine BrI.intro (λh=>?_) (λh=>?_)
  |((refine ah ?_ ?_ ?_);rotate_left;exact nz _ _)
  |(refine cO ?_;conv=>whnf)
  |fail)
 all_goals(try simp only[csmp]at *)
 all_goals (refine congrArg (λz=>D.val (Value.int IntKind.i64 z)) ?_;simp only[cls,Ref03.letter,Ref03.figure,if_true,if_false,Bool.false_eq_true,reduceIte, *];first |done |exact(if_pos (by assumption)).symm |exact(if_neg (ne_true_of_eq_false (by assumption))).symm)
theorem uC(s:Str)  : PCall Tryz.prog 103 [.str s] (.ret (.b (ui s))):=by
 refine aj Tryz.func103 ?_
 repeat' ((try conv=>whnf)<;>first
  |with_reducible exact trivial
  |with_reducible exact ai hd0 ‹_›
  |((refine eU hd0 ?_ ?_);exact rfl)
  |((refine dM hd0 ?_ ?_);exact rfl)
  |with_reducible refine BrI.intro (λh=>?_) (λh=>?_)
  |((refine Gj ?_ ?_ ?_);decide;(simp[mV]at hg;have:=List.length_pos_iff.2 hg.1;omega))
  |((with_reducible refine au.mk 0 ?_);have hlen:s.length<=9223372036854775807:=(by simp only[Bool.cond_true_left,Bool.or_eq_false_iff,decide_eq_false_iff_not]at h;omega);refine⟨aH (s) 20 (λ(_:Unit)=>[]) (λ(_:Unit)=>[]) [0,19] (λi0 r0 _=>ui s=r0.all Bo),?_⟩;refine af () ?_ ?_ (λi0 (_:Unit) hd0 hI0=>?_) (λi0 x0 r0 (_:Unit) hd0 hl0 hI0=>?_))
  |refine ag hd0 () ?_ ?_
  |((refine ah ?_ ?_ ?_);rotate_left;exact NW _)
  |refine VH hd0 ?_
  |((refine aK ?_ ?_ (λhg=>?_) ?_);rfl)
  |((refine aY ?_ ?_);with_reducible exact rfl;with_reducible exact rfl)
  |(refine cO ?_;conv=>whnf)
  |with_reducible refine And.intro ?_ ?_
  |exact @rfl AV _
  |fail)
 all_goals(try simp only[csmp]at *)
 all_goals first
  |(rw[hI0];(try simp only[ui,Bo,Bool.not_true,Bool.not_false,Bool.and_true,Bool.true_and,Bool.and_false,Bool.false_and,Bool.or_true,Bool.true_or,Bool.or_false,Bool.false_or,if_true,if_false,reduceIte,Bool.false_eq_true,Bool.not_not,Bool.not_eq_true',beq_self_eq_true,List.all_cons,List.all_nil,List.any_cons,List.any_nil,List.length_map,bne,eq_self,Int.toNat_zero, *]);first |done |rfl)
  |(simp only[ui,Bo,Bool.not_true,Bool.not_false,Bool.and_true,Bool.true_and,Bool.and_false,Bool.false_and,Bool.or_true,Bool.true_or,Bool.or_false,Bool.false_or,if_true,if_false,reduceIte,Bool.false_eq_true,Bool.not_not,Bool.not_eq_true',beq_self_eq_true,List.all_cons,List.all_nil,List.any_cons,List.any_nil,List.length_map,bne,eq_self,Int.toNat_zero, *];done)
theorem fH(l:List Pe)(name:Str)(k i f:Int)(hl:l.length<=1073741824):ak Tryz.prog 102 [.ptr 1000000 0,.data (.str name),.data (.i k),.data (.i i),.data (.i f)] [(1000000,.cells [.gs 1000001 1 (l.map nmC),.gs 1000002 3 (l.map enC)]),(1000001,.tok 1 (l.map nmC).length),(1000002,.tok 3 (l.map enC).length)] (.ret (.data (.tuple []))) [(1000000,.cells [.gs 1000001 1 ((l++[(name,En.mk k i f)]).map nmC),.gs 1000002 3 ((l++[(name,En.mk k i f)]).map enC)]),(1000001,.tok 1 ((l++[(name,En.mk k i f)]).map nmC).length),(1000002,.tok 3 ((l++[(name,En.mk k i f)]).map enC).length)]:=by
 refine aT Tryz.func102 ?_
 repeat' ((try conv=>whnf)<;>first
  |with_reducible exact trivial
  |((refine bg ?_);refine fin_step' [] rfl ?_ ?_)
  |refine aI.l _ ?_
  |refine wP ?_ ?_ ?_
  |refine eQ ?_
  |with_reducible refine And.intro ?_ ?_
  |((with_reducible refine gy ?_ ?_);rfl;(first |skip))
  |((with_reducible refine bP ?_);refine gZ ?_ ?_ ?_;rfl;rfl;(first |skip))
  |exact dQ rfl
  |fail)
 all_goals(try simp only[csmp]at *)
 all_goals first
  |omega
  |(simp only[List.map_append,List.map_cons,List.map_nil];rfl)
theorem nC(s:Str):PCall Tryz.prog 104 [.str Py,.str ([32]++s++[32])] (.ret (.b (Lib.contains Py ([32]++s++[32])))):=HY _ _ (by decide)
theorem Fg(p:Pr)(hp:p.Small)(hN:(p.name::jw (decl p)).all nmOk=true)(hU:uniq (decl p)):ak Tryz.prog 53 [.data p.d] [] (.ret (.map 1000000)) [(1000000,.map false [.str] (mkM (decl p)))]:=by
 refine pg Tryz.func53 λhf=>?_
 have hq:=Pr.fits (xy.data (hf (.data p.d) (by simp)))
 have hlen1:=hq.params;have hlen2:=hq.states;have hlen3:=hq.lines;have hlen4:=hq.tables;have hlen5:=hq.stmts
 have ht1:=Po hp;have ht2:=Pq hp;have ht3:=Pv hp;have ht4:=Px hp;have ht5:=Gm hp
 have hld:(decl p).length<=9223372036854775807:=by omega
 have hle:(p.name::jw (decl p)).length<=9223372036854775807:=by simp[jw];omega
 clear hf
 repeat' ((try conv=>whnf)<;>first
  |exact trivial
  |exact ai hd12 ‹_›
  |exact ai hd10 ‹_›
  |exact ai hd8 ‹_›
  |exact ai hd6 ‹_›
  |exact ai hd4 ‹_›
  |exact ai hd2 ‹_›
  |exact ai hd0 ‹_›
  |refine bu hd12 ?_
  |refine bu hd8 ?_
  |refine bu hd6 ?_
  |refine bu hd4 ?_
  |refine bu hd2 ?_
  |refine bu hd0 ?_
  |refine aP hd12 ?_
  |refine aP hd8 ?_
  |refine aP hd6 ?_
  |refine aP hd4 ?_
  |refine aP hd2 ?_
  |refine aP hd0 ?_
  |((refine eU hd10 ?_ ?_);exact rfl)
  |((refine dM hd10 ?_ ?_);exact rfl)
  |refine BrI.intro (λh=>?_) (λh=>?_)
  |refine aU (gB _ _) (λh=>?_) (λh=>?_)
  |exact xI (by have hk:=Bv (s:=x10) (by simpa[mV]using hg);simp;omega)
  |refine opt_none (Bz (VN hU hI12)) ?_
  |((refine au.mk 0 ?_);refine⟨aH (p.params) 24 (λ(a0:(List Pe))=>[]) (λ(a0:(List Pe))=>[(1,.cells (p.cs.map .data)),(3,.cells [.gs 700001 1 (a0.map nmC),.gs 700002 3 (a0.map enC)]),(700001,.tok 1 (a0.map nmC).length),(700002,.tok 3 (a0.map enC).length)]) [1,3,22,23] (λi0 r0 a0=>a0++kN 3 (bounds r0) i0=T1 p),?_⟩;refine af ([]) ?_ ?_ (λi0 (a0:(List Pe)) hd0 hI0=>?_) (λi0 x0 r0 (a0:(List Pe)) hd0 hl0 hI0=>?_))
  |refine ag hd0 (a0++[(x0.name,En.mk 3 i0 0)]) ?_ ?_
  |((refine au.mk 2 ?_);refine⟨aH (p.states) 37 (λ(a2:(List Pe))=>[]) (λ(a2:(List Pe))=>[(1,.cells (p.cs.map .data)),(3,.cells [.gs 700001 1 (a2.map nmC),.gs 700002 3 (a2.map enC)]),(700001,.tok 1 (a2.map nmC).length),(700002,.tok 3 (a2.map enC).length)]) [1,3,35,36] (λi2 r2 a2=>a2++kN 4 (bounds r2) i2=T2 p),?_⟩;refine af (a0) ?_ ?_ (λi2 (a2:(List Pe)) hd2 hI2=>?_) (λi2 x2 r2 (a2:(List Pe)) hd2 hl2 hI2=>?_))
  |refine ag hd2 (a2++[(x2.name,En.mk 4 i2 0)]) ?_ ?_
  |((refine au.mk 4 ?_);refine⟨aH (p.lines) 50 (λ(a4:(List Pe))=>[]) (λ(a4:(List Pe))=>[(1,.cells (p.cs.map .data)),(3,.cells [.gs 700001 1 (a4.map nmC),.gs 700002 3 (a4.map enC)]),(700001,.tok 1 (a4.map nmC).length),(700002,.tok 3 (a4.map enC).length)]) [1,3,48,49] (λi4 r4 a4=>a4++kN 8 (r4.map (·.name)) i4=T3 p),?_⟩;refine af (a2) ?_ ?_ (λi4 (a4:(List Pe)) hd4 hI4=>?_) (λi4 x4 r4 (a4:(List Pe)) hd4 hl4 hI4=>?_))
  |refine ag hd4 (a4++[(x4.name,En.mk 8 i4 0)]) ?_ ?_
  |((refine au.mk 6 ?_);refine⟨aH (p.tables) 63 (λ(a6:(List Pe))=>[]) (λ(a6:(List Pe))=>[(1,.cells (p.cs.map .data)),(3,.cells [.gs 700001 1 (a6.map nmC),.gs 700002 3 (a6.map enC)]),(700001,.tok 1 (a6.map nmC).length),(700002,.tok 3 (a6.map enC).length)]) [1,3,61,62] (λi6 r6 a6=>a6++kN 9 (r6.map (·.name)) i6=T4 p),?_⟩;refine af (a4) ?_ ?_ (λi6 (a6:(List Pe)) hd6 hI6=>?_) (λi6 x6 r6 (a6:(List Pe)) hd6 hl6 hI6=>?_))
  |refine ag hd6 (a6++[(x6.name,En.mk 9 i6 0)]) ?_ ?_
  |((refine au.mk 8 ?_);refine⟨aH (p.stmts) 76 (λ(a8:(List Pe))=>[]) (λ(a8:(List Pe))=>[(1,.cells (p.cs.map .data)),(3,.cells [.gs 700001 1 (a8.map nmC),.gs 700002 3 (a8.map enC)]),(700001,.tok 1 (a8.map nmC).length),(700002,.tok 3 (a8.map enC).length)]) [1,3,74,75] (λi8 r8 a8=>a8++Bq r8 i8=decl p),?_⟩;refine af (a6) ?_ ?_ (λi8 (a8:(List Pe)) hd8 hI8=>?_) (λi8 x8 r8 (a8:(List Pe)) hd8 hl8 hI8=>?_))
  |refine ag hd8 (?_) ?_ ?_
  |((refine au.mk 10 ?_);have he8:a8=decl p:=(by simpa[Bq]using hI8);subst he8;refine⟨aH (p.name::jw (decl p)) 98 (λ(_:Unit)=>[(96,.gs 93 1 ((p.name::jw (decl p)).map z3q)),(97,.data (.val (.int .i64 ((p.name::jw (decl p)).length:Nat))))]) (λ(_:Unit)=>[(1,.cells (p.cs.map .data)),(3,.cells [.gs 700001 1 ((decl p).map nmC),.gs 700002 3 ((decl p).map enC)]),(700001,.tok 1 ((decl p).map nmC).length),(700002,.tok 3 ((decl p).map enC).length)]) [3] (λi10 r10 _=>r10.all nmOk=true),?_⟩;refine af () ?_ ?_ (λi10 (_:Unit) hd10 hI10=>?_) (λi10 x10 r10 (_:Unit) hd10 hl10 hI10=>?_))
  |refine ag hd10 () ?_ ?_
  |((refine au.mk 12 ?_);refine⟨aH (decl p) 117 (λ(d:(List Pe))=>[]) (λ(d:(List Pe))=>[(1,.cells (p.cs.map .data)),(3,.cells [.gs 700001 1 ((decl p).map nmC),.gs 700002 3 ((decl p).map enC)]),(700001,.tok 1 ((decl p).map nmC).length),(700002,.tok 3 ((decl p).map enC).length),(113,.map false [.str] (mkM d))]) [3,16,115,116] (λi12 r12 d=>d++r12=decl p),?_⟩;refine af ([]) ?_ ?_ (λi12 (d:(List Pe)) hd12 hI12=>?_) (λi12 x12 r12 (d:(List Pe)) hd12 hl12 hI12=>?_))
  |refine ag hd12 (d++[x12]) ?_ ?_
  |((refine ah ?_ ?_ ?_);rotate_left;(first |exact uC _ |exact nC _))
  |((refine lent_step' [(1000000,3),(1000001,700001),(1000002,700002)] (fH a0 x0.name 3 i0 0 (iD hI0 (by omega))) ?_ ?_ ?_ ?_);rotate_left 0;rfl;(exact⟨rfl,rfl,rfl,trivial⟩);rfl)
  |((refine lent_step' [(1000000,3),(1000001,700001),(1000002,700002)] (fH a2 x2.name 4 i2 0 (iD hI2 (by omega))) ?_ ?_ ?_ ?_);rotate_left 0;rfl;(exact⟨rfl,rfl,rfl,trivial⟩);rfl)
  |((refine lent_step' [(1000000,3),(1000001,700001),(1000002,700002)] (fH a4 x4.name 8 i4 0 (iD hI4 (by omega))) ?_ ?_ ?_ ?_);rotate_left 0;rfl;(exact⟨rfl,rfl,rfl,trivial⟩);rfl)
  |((refine lent_step' [(1000000,3),(1000001,700001),(1000002,700002)] (fH a6 x6.name 9 i6 0 (iD hI6 (by omega))) ?_ ?_ ?_ ?_);rotate_left 0;rfl;(exact⟨rfl,rfl,rfl,trivial⟩);rfl)
  |((refine lent_step' [(1000000,3),(1000001,700001),(1000002,700002)] (fH a8 x8.name 5 i8 (IntKind.i64.wrap ((i8:Int)+1)) (iD hI8 (by omega))) ?_ ?_ ?_ ?_);rotate_left 0;rfl;(exact⟨rfl,rfl,rfl,trivial⟩);rfl)
  |((refine bg ?_);refine fin_step' [(1000000,113)] rfl ?_ ?_)
  |refine aI.l _ ?_
  |((refine bY ?_ ?_ ?_ ?_ ?_ ?_)<;>exact rfl)
  |((refine di ?_ ?_ ?_ ?_)<;>exact rfl)
  |((refine aB ?_ ?_ ?_ ?_ ?_);rfl;rfl;rotate_left;(first |exact ay hd12 |exact ay hd10 |exact ay hd8 |exact ay hd6 |exact ay hd4 |exact ay hd2 |exact ay hd0))
  |refine oK ?_
  |refine wP ?_ ?_ ?_
  |((refine aK ?_ ?_ (λhg=>?_) ?_);rfl)
  |((refine aY ?_ ?_);rfl;rfl)
  |((refine gu ?_ ?_);rfl)
  |refine And.intro ?_ ?_
  |((refine mZ ?_ ?_ ?_);rfl;rfl;(first |exact rfl |skip))
  |exact @rfl AV _
  |exact @rfl Block _
  |exact @rfl (List AV) _
  |exact dQ rfl
  |fail)
 all_goals first
  |omega
  |exact absurd h (by decide)
  |(exfalso;simp only[List.all_cons,Bool.and_eq_true]at hI10;have hk:=hI10.1;simp only[nmOk]at hk;(try simp only[Bool.cond_false_right]at h);rw[hk]at h;exact absurd h (by decide))
  |((try(conv=>whnf));exact congrArg (Block.map false [KS.str]) (Jh (VN hU hI12)))
  |((try(conv=>whnf));exact congrArg (λl=>Block.map false [KS.str] (mkM l)) (by simpa using hI12))
  |((try(conv=>whnf));exact congrArg (λz:Nat=>AV.data (D.val (Value.int IntKind.i64 (z:Int)))) (by show([[D.str p.name]]++List.map nmC (decl p)).length=_;simp[jw]))
  |rfl
  |((refine Eq.symm ?_);(refine Eq.symm ?_);rw[T2,<-hI0];simp[bounds,kN];done)
  |((refine Eq.symm ?_);(refine Eq.symm ?_);rw[T3,<-hI2];simp[bounds,kN,lines];done)
  |((refine Eq.symm ?_);(refine Eq.symm ?_);rw[T4,<-hI4];simp[kN,tables];done)
  |((refine Eq.symm ?_);(refine Eq.symm ?_);rw[decl,<-hI6];simp[kN];done)
  |(have hz:=iD hI8 ht5;(try simp only[List.length_map]);omega)
  |(show [[D.str p.name]]++List.map nmC (decl p)=_;simp[jw];done)
  |((refine Eq.symm ?_);(refine Eq.symm ?_);rw[<-hI12];simp;done)
  |(simp only[List.all_cons,Bool.and_eq_true]at hI10;exact hI10.2)
  |((refine Eq.symm ?_);(refine Eq.symm ?_);rw[<-hI6];simp only[kN,bounds,List.map_cons,List.append_assoc,List.cons_append,List.nil_append];done)
  |((refine Eq.symm ?_);(refine Eq.symm ?_);rw[<-hI4];simp only[kN,bounds,List.map_cons,List.append_assoc,List.cons_append,List.nil_append];done)
  |((refine Eq.symm ?_);(refine Eq.symm ?_);rw[<-hI2];simp only[kN,bounds,List.map_cons,List.append_assoc,List.cons_append,List.nil_append];done)
  |((refine Eq.symm ?_);(refine Eq.symm ?_);rw[<-hI0];simp only[kN,bounds,List.map_cons,List.append_assoc,List.cons_append,List.nil_append];done)
  |((refine Eq.symm ?_);(refine Eq.symm ?_);rw[<-hI8];simp only[Bq,h,Bool.false_eq_true,if_false];done)
  |((refine Eq.symm ?_);(refine Eq.symm ?_);rw[show IntKind.i64.wrap ((i8:Int)+1)=(i8:Int)+1 from bM (by omega) (by omega),<-hI8];simp only[Bq,h,if_true,List.append_assoc,List.cons_append,List.nil_append];done)
theorem Kq(p:Pr)(hp:p.Small)(hN:(p.name::jw (decl p)).all nmOk=false):ak Tryz.prog 53 [.data p.d] [] (.pan (.data (.iface 34 (.i 150)))) []:=by
 refine pg Tryz.func53 λhf=>?_
 have hq:=Pr.fits (xy.data (hf (.data p.d) (by simp)))
 have hlen1:=hq.params;have hlen2:=hq.states;have hlen3:=hq.lines;have hlen4:=hq.tables;have hlen5:=hq.stmts
 have ht1:=Po hp;have ht2:=Pq hp;have ht3:=Pv hp;have ht4:=Px hp;have ht5:=Gm hp
 have hld:(decl p).length<=9223372036854775807:=by omega
 have hle:(p.name::jw (decl p)).length<=9223372036854775807:=by simp[jw];omega
 clear hf
 repeat' ((try conv=>whnf)<;>first
  |exact trivial
  |exact ai hd10 ‹_›
  |exact ai hd8 ‹_›
  |exact ai hd6 ‹_›
  |exact ai hd4 ‹_›
  |exact ai hd2 ‹_›
  |exact ai hd0 ‹_›
  |refine bu hd8 ?_
  |refine bu hd6 ?_
  |refine bu hd4 ?_
  |refine bu hd2 ?_
  |refine bu hd0 ?_
  |refine aP hd8 ?_
  |refine aP hd6 ?_
  |refine aP hd4 ?_
  |refine aP hd2 ?_
  |refine aP hd0 ?_
  |((refine eU hd10 ?_ ?_);exact rfl)
  |((refine dM hd10 ?_ ?_);exact rfl)
  |refine BrI.intro (λh=>?_) (λh=>?_)
  |refine aU (gB _ _) (λh=>?_) (λh=>?_)
  |exact xI (by have hk:=Bv (s:=x10) (by simpa[mV]using hg);simp;omega)
  |exact absurd hI10 (by decide)
  |((refine au.mk 0 ?_);refine⟨aH (p.params) 24 (λ(a0:(List Pe))=>[]) (λ(a0:(List Pe))=>[(1,.cells (p.cs.map .data)),(3,.cells [.gs 700001 1 (a0.map nmC),.gs 700002 3 (a0.map enC)]),(700001,.tok 1 (a0.map nmC).length),(700002,.tok 3 (a0.map enC).length)]) [1,3,22,23] (λi0 r0 a0=>a0++kN 3 (bounds r0) i0=T1 p),?_⟩;refine af ([]) ?_ ?_ (λi0 (a0:(List Pe)) hd0 hI0=>?_) (λi0 x0 r0 (a0:(List Pe)) hd0 hl0 hI0=>?_))
  |refine ag hd0 (a0++[(x0.name,En.mk 3 i0 0)]) ?_ ?_
  |((refine au.mk 2 ?_);refine⟨aH (p.states) 37 (λ(a2:(List Pe))=>[]) (λ(a2:(List Pe))=>[(1,.cells (p.cs.map .data)),(3,.cells [.gs 700001 1 (a2.map nmC),.gs 700002 3 (a2.map enC)]),(700001,.tok 1 (a2.map nmC).length),(700002,.tok 3 (a2.map enC).length)]) [1,3,35,36] (λi2 r2 a2=>a2++kN 4 (bounds r2) i2=T2 p),?_⟩;refine af (a0) ?_ ?_ (λi2 (a2:(List Pe)) hd2 hI2=>?_) (λi2 x2 r2 (a2:(List Pe)) hd2 hl2 hI2=>?_))
  |refine ag hd2 (a2++[(x2.name,En.mk 4 i2 0)]) ?_ ?_
  |((refine au.mk 4 ?_);refine⟨aH (p.lines) 50 (λ(a4:(List Pe))=>[]) (λ(a4:(List Pe))=>[(1,.cells (p.cs.map .data)),(3,.cells [.gs 700001 1 (a4.map nmC),.gs 700002 3 (a4.map enC)]),(700001,.tok 1 (a4.map nmC).length),(700002,.tok 3 (a4.map enC).length)]) [1,3,48,49] (λi4 r4 a4=>a4++kN 8 (r4.map (·.name)) i4=T3 p),?_⟩;refine af (a2) ?_ ?_ (λi4 (a4:(List Pe)) hd4 hI4=>?_) (λi4 x4 r4 (a4:(List Pe)) hd4 hl4 hI4=>?_))
  |refine ag hd4 (a4++[(x4.name,En.mk 8 i4 0)]) ?_ ?_
  |((refine au.mk 6 ?_);refine⟨aH (p.tables) 63 (λ(a6:(List Pe))=>[]) (λ(a6:(List Pe))=>[(1,.cells (p.cs.map .data)),(3,.cells [.gs 700001 1 (a6.map nmC),.gs 700002 3 (a6.map enC)]),(700001,.tok 1 (a6.map nmC).length),(700002,.tok 3 (a6.map enC).length)]) [1,3,61,62] (λi6 r6 a6=>a6++kN 9 (r6.map (·.name)) i6=T4 p),?_⟩;refine af (a4) ?_ ?_ (λi6 (a6:(List Pe)) hd6 hI6=>?_) (λi6 x6 r6 (a6:(List Pe)) hd6 hl6 hI6=>?_))
  |refine ag hd6 (a6++[(x6.name,En.mk 9 i6 0)]) ?_ ?_
  |((refine au.mk 8 ?_);refine⟨aH (p.stmts) 76 (λ(a8:(List Pe))=>[]) (λ(a8:(List Pe))=>[(1,.cells (p.cs.map .data)),(3,.cells [.gs 700001 1 (a8.map nmC),.gs 700002 3 (a8.map enC)]),(700001,.tok 1 (a8.map nmC).length),(700002,.tok 3 (a8.map enC).length)]) [1,3,74,75] (λi8 r8 a8=>a8++Bq r8 i8=decl p),?_⟩;refine af (a6) ?_ ?_ (λi8 (a8:(List Pe)) hd8 hI8=>?_) (λi8 x8 r8 (a8:(List Pe)) hd8 hl8 hI8=>?_))
  |refine ag hd8 (?_) ?_ ?_
  |((refine au.mk 10 ?_);have he8:a8=decl p:=(by simpa[Bq]using hI8);subst he8;refine⟨aH (p.name::jw (decl p)) 98 (λ(_:Unit)=>[(96,.gs 93 1 ((p.name::jw (decl p)).map z3q)),(97,.data (.val (.int .i64 ((p.name::jw (decl p)).length:Nat))))]) (λ(_:Unit)=>[(1,.cells (p.cs.map .data)),(3,.cells [.gs 700001 1 ((decl p).map nmC),.gs 700002 3 ((decl p).map enC)]),(700001,.tok 1 ((decl p).map nmC).length),(700002,.tok 3 ((decl p).map enC).length)]) [3] (λi10 r10 _=>r10.all nmOk=false),?_⟩;refine af () ?_ ?_ (λi10 (_:Unit) hd10 hI10=>?_) (λi10 x10 r10 (_:Unit) hd10 hl10 hI10=>?_))
  |refine ag hd10 () ?_ ?_
  |((refine ah ?_ ?_ ?_);rotate_left;(first |exact uC _ |exact nC _))
  |((refine lent_step' [(1000000,3),(1000001,700001),(1000002,700002)] (fH a0 x0.name 3 i0 0 (iD hI0 (by omega))) ?_ ?_ ?_ ?_);rotate_left 0;exact rfl;(exact⟨rfl,rfl,rfl,trivial⟩);exact rfl)
  |((refine lent_step' [(1000000,3),(1000001,700001),(1000002,700002)] (fH a2 x2.name 4 i2 0 (iD hI2 (by omega))) ?_ ?_ ?_ ?_);rotate_left 0;exact rfl;(exact⟨rfl,rfl,rfl,trivial⟩);exact rfl)
  |((refine lent_step' [(1000000,3),(1000001,700001),(1000002,700002)] (fH a4 x4.name 8 i4 0 (iD hI4 (by omega))) ?_ ?_ ?_ ?_);rotate_left 0;exact rfl;(exact⟨rfl,rfl,rfl,trivial⟩);exact rfl)
  |((refine lent_step' [(1000000,3),(1000001,700001),(1000002,700002)] (fH a6 x6.name 9 i6 0 (iD hI6 (by omega))) ?_ ?_ ?_ ?_);rotate_left 0;exact rfl;(exact⟨rfl,rfl,rfl,trivial⟩);exact rfl)
  |((refine lent_step' [(1000000,3),(1000001,700001),(1000002,700002)] (fH a8 x8.name 5 i8 (IntKind.i64.wrap ((i8:Int)+1)) (iD hI8 (by omega))) ?_ ?_ ?_ ?_);rotate_left 0;exact rfl;(exact⟨rfl,rfl,rfl,trivial⟩);exact rfl)
  |((refine dB ?_);refine fin_step' [] rfl ?_ ?_)
  |refine aI.l _ ?_
  |((refine bY ?_ ?_ ?_ ?_ ?_ ?_)<;>exact rfl)
  |((refine di ?_ ?_ ?_ ?_)<;>exact rfl)
  |((refine aB ?_ ?_ ?_ ?_ ?_);exact rfl;exact rfl;rotate_left;(first |exact ay hd10 |exact ay hd8 |exact ay hd6 |exact ay hd4 |exact ay hd2 |exact ay hd0))
  |refine oK ?_
  |refine wP ?_ ?_ ?_
  |((refine aK ?_ ?_ (λhg=>?_) ?_);exact rfl)
  |((refine aY ?_ ?_);exact rfl;exact rfl)
  |((refine gu ?_ ?_);exact rfl)
  |refine And.intro ?_ ?_
  |((refine mZ ?_ ?_ ?_);exact rfl;exact rfl;(first |exact rfl |skip))
  |exact @rfl AV _
  |exact @rfl (List AV) _
  |exact dQ rfl
  |fail)
 all_goals first
  |omega
  |(simp only[List.all_cons]at hI10;have hk:nmOk x10=true:=(by simp only[nmOk];first |exact h |(simp only[Bool.cond_false_right]at h;exact h));rw[hk]at hI10;exact hI10)
  |((try(conv=>whnf));exact congrArg (λz:Nat=>AV.data (D.val (Value.int IntKind.i64 (z:Int)))) (by show([[D.str p.name]]++List.map nmC (decl p)).length=_;simp[jw]))
  |rfl
  |((refine Eq.symm ?_);(refine Eq.symm ?_);rw[T2,<-hI0];simp[bounds,kN];done)
  |((refine Eq.symm ?_);(refine Eq.symm ?_);rw[T3,<-hI2];simp[bounds,kN,lines];done)
  |((refine Eq.symm ?_);(refine Eq.symm ?_);rw[T4,<-hI4];simp[kN,tables];done)
  |((refine Eq.symm ?_);(refine Eq.symm ?_);rw[decl,<-hI6];simp[kN];done)
  |(have hz:=iD hI8 ht5;(try simp only[List.length_map]);omega)
  |(show [[D.str p.name]]++List.map nmC (decl p)=_;simp[jw];done)
  |((refine Eq.symm ?_);(refine Eq.symm ?_);rw[<-hI6];simp only[kN,bounds,List.map_cons,List.append_assoc,List.cons_append,List.nil_append];done)
  |((refine Eq.symm ?_);(refine Eq.symm ?_);rw[<-hI4];simp only[kN,bounds,List.map_cons,List.append_assoc,List.cons_append,List.nil_append];done)
  |((refine Eq.symm ?_);(refine Eq.symm ?_);rw[<-hI2];simp only[kN,bounds,List.map_cons,List.append_assoc,List.cons_append,List.nil_append];done)
  |((refine Eq.symm ?_);(refine Eq.symm ?_);rw[<-hI0];simp only[kN,bounds,List.map_cons,List.append_assoc,List.cons_append,List.nil_append];done)
  |((refine Eq.symm ?_);(refine Eq.symm ?_);rw[<-hI8];simp only[Bq,h,Bool.false_eq_true,if_false];done)
  |((refine Eq.symm ?_);(refine Eq.symm ?_);rw[show IntKind.i64.wrap ((i8:Int)+1)=(i8:Int)+1 from bM (by omega) (by omega),<-hI8];simp only[Bq,h,if_true,List.append_assoc,List.cons_append,List.nil_append];done)
theorem Kr(p:Pr)(hp:p.Small)(hN:(p.name::jw (decl p)).all nmOk=true)(hU:¬uniq (decl p)):ak Tryz.prog 53 [.data p.d] [] (.pan (.data (.iface 34 (.i 151)))) []:=by
 refine pg Tryz.func53 λhf=>?_
 have hq:=Pr.fits (xy.data (hf (.data p.d) (by simp)))
 have hlen1:=hq.params;have hlen2:=hq.states;have hlen3:=hq.lines;have hlen4:=hq.tables;have hlen5:=hq.stmts
 have ht1:=Po hp;have ht2:=Pq hp;have ht3:=Pv hp;have ht4:=Px hp;have ht5:=Gm hp
 have hld:(decl p).length<=9223372036854775807:=by omega
 have hle:(p.name::jw (decl p)).length<=9223372036854775807:=by simp[jw];omega
 clear hf
 repeat' ((try conv=>whnf)<;>first
  |exact trivial
  |exact ai hd12 ‹_›
  |exact ai hd10 ‹_›
  |exact ai hd8 ‹_›
  |exact ai hd6 ‹_›
  |exact ai hd4 ‹_›
  |exact ai hd2 ‹_›
  |exact ai hd0 ‹_›
  |refine bu hd12 ?_
  |refine bu hd8 ?_
  |refine bu hd6 ?_
  |refine bu hd4 ?_
  |refine bu hd2 ?_
  |refine bu hd0 ?_
  |refine aP hd12 ?_
  |refine aP hd8 ?_
  |refine aP hd6 ?_
  |refine aP hd4 ?_
  |refine aP hd2 ?_
  |refine aP hd0 ?_
  |((refine eU hd10 ?_ ?_);exact rfl)
  |((refine dM hd10 ?_ ?_);exact rfl)
  |refine BrI.intro (λh=>?_) (λh=>?_)
  |refine aU (gB _ _) (λh=>?_) (λh=>?_)
  |exact xI (by have hk:=Bv (s:=x10) (by simpa[mV]using hg);simp;omega)
  |exact absurd (by have hz:=hI12.1;simp only[List.append_nil]at hz;exact hz ▸ hI12.2) hU
  |refine VL (λe hm=>?_) (λhm=>?_)
  |((refine au.mk 0 ?_);refine⟨aH (p.params) 24 (λ(a0:(List Pe))=>[]) (λ(a0:(List Pe))=>[(1,.cells (p.cs.map .data)),(3,.cells [.gs 700001 1 (a0.map nmC),.gs 700002 3 (a0.map enC)]),(700001,.tok 1 (a0.map nmC).length),(700002,.tok 3 (a0.map enC).length)]) [1,3,22,23] (λi0 r0 a0=>a0++kN 3 (bounds r0) i0=T1 p),?_⟩;refine af ([]) ?_ ?_ (λi0 (a0:(List Pe)) hd0 hI0=>?_) (λi0 x0 r0 (a0:(List Pe)) hd0 hl0 hI0=>?_))
  |refine ag hd0 (a0++[(x0.name,En.mk 3 i0 0)]) ?_ ?_
  |((refine au.mk 2 ?_);refine⟨aH (p.states) 37 (λ(a2:(List Pe))=>[]) (λ(a2:(List Pe))=>[(1,.cells (p.cs.map .data)),(3,.cells [.gs 700001 1 (a2.map nmC),.gs 700002 3 (a2.map enC)]),(700001,.tok 1 (a2.map nmC).length),(700002,.tok 3 (a2.map enC).length)]) [1,3,35,36] (λi2 r2 a2=>a2++kN 4 (bounds r2) i2=T2 p),?_⟩;refine af (a0) ?_ ?_ (λi2 (a2:(List Pe)) hd2 hI2=>?_) (λi2 x2 r2 (a2:(List Pe)) hd2 hl2 hI2=>?_))
  |refine ag hd2 (a2++[(x2.name,En.mk 4 i2 0)]) ?_ ?_
  |((refine au.mk 4 ?_);refine⟨aH (p.lines) 50 (λ(a4:(List Pe))=>[]) (λ(a4:(List Pe))=>[(1,.cells (p.cs.map .data)),(3,.cells [.gs 700001 1 (a4.map nmC),.gs 700002 3 (a4.map enC)]),(700001,.tok 1 (a4.map nmC).length),(700002,.tok 3 (a4.map enC).length)]) [1,3,48,49] (λi4 r4 a4=>a4++kN 8 (r4.map (·.name)) i4=T3 p),?_⟩;refine af (a2) ?_ ?_ (λi4 (a4:(List Pe)) hd4 hI4=>?_) (λi4 x4 r4 (a4:(List Pe)) hd4 hl4 hI4=>?_))
  |refine ag hd4 (a4++[(x4.name,En.mk 8 i4 0)]) ?_ ?_
  |((refine au.mk 6 ?_);refine⟨aH (p.tables) 63 (λ(a6:(List Pe))=>[]) (λ(a6:(List Pe))=>[(1,.cells (p.cs.map .data)),(3,.cells [.gs 700001 1 (a6.map nmC),.gs 700002 3 (a6.map enC)]),(700001,.tok 1 (a6.map nmC).length),(700002,.tok 3 (a6.map enC).length)]) [1,3,61,62] (λi6 r6 a6=>a6++kN 9 (r6.map (·.name)) i6=T4 p),?_⟩;refine af (a4) ?_ ?_ (λi6 (a6:(List Pe)) hd6 hI6=>?_) (λi6 x6 r6 (a6:(List Pe)) hd6 hl6 hI6=>?_))
  |refine ag hd6 (a6++[(x6.name,En.mk 9 i6 0)]) ?_ ?_
  |((refine au.mk 8 ?_);refine⟨aH (p.stmts) 76 (λ(a8:(List Pe))=>[]) (λ(a8:(List Pe))=>[(1,.cells (p.cs.map .data)),(3,.cells [.gs 700001 1 (a8.map nmC),.gs 700002 3 (a8.map enC)]),(700001,.tok 1 (a8.map nmC).length),(700002,.tok 3 (a8.map enC).length)]) [1,3,74,75] (λi8 r8 a8=>a8++Bq r8 i8=decl p),?_⟩;refine af (a6) ?_ ?_ (λi8 (a8:(List Pe)) hd8 hI8=>?_) (λi8 x8 r8 (a8:(List Pe)) hd8 hl8 hI8=>?_))
  |refine ag hd8 (?_) ?_ ?_
  |((refine au.mk 10 ?_);have he8:a8=decl p:=(by simpa[Bq]using hI8);subst he8;refine⟨aH (p.name::jw (decl p)) 98 (λ(_:Unit)=>[(96,.gs 93 1 ((p.name::jw (decl p)).map z3q)),(97,.data (.val (.int .i64 ((p.name::jw (decl p)).length:Nat))))]) (λ(_:Unit)=>[(1,.cells (p.cs.map .data)),(3,.cells [.gs 700001 1 ((decl p).map nmC),.gs 700002 3 ((decl p).map enC)]),(700001,.tok 1 ((decl p).map nmC).length),(700002,.tok 3 ((decl p).map enC).length)]) [3] (λi10 r10 _=>r10.all nmOk=true),?_⟩;refine af () ?_ ?_ (λi10 (_:Unit) hd10 hI10=>?_) (λi10 x10 r10 (_:Unit) hd10 hl10 hI10=>?_))
  |refine ag hd10 () ?_ ?_
  |((refine au.mk 12 ?_);refine⟨aH (decl p) 117 (λ(d:(List Pe))=>[]) (λ(d:(List Pe))=>[(1,.cells (p.cs.map .data)),(3,.cells [.gs 700001 1 ((decl p).map nmC),.gs 700002 3 ((decl p).map enC)]),(700001,.tok 1 ((decl p).map nmC).length),(700002,.tok 3 ((decl p).map enC).length),(113,.map false [.str] (mkM d))]) [3,16,115,116] (λi12 r12 d=>d++r12=decl p/\uniq d),?_⟩;refine af ([]) ?_ ?_ (λi12 (d:(List Pe)) hd12 hI12=>?_) (λi12 x12 r12 (d:(List Pe)) hd12 hl12 hI12=>?_))
  |refine ag hd12 (d++[x12]) ?_ ?_
  |((refine ah ?_ ?_ ?_);rotate_left;(first |exact uC _ |exact nC _))
  |((refine lent_step' [(1000000,3),(1000001,700001),(1000002,700002)] (fH a0 x0.name 3 i0 0 (iD hI0 (by omega))) ?_ ?_ ?_ ?_);rotate_left 0;exact rfl;(exact⟨rfl,rfl,rfl,trivial⟩);exact rfl)
  |((refine lent_step' [(1000000,3),(1000001,700001),(1000002,700002)] (fH a2 x2.name 4 i2 0 (iD hI2 (by omega))) ?_ ?_ ?_ ?_);rotate_left 0;exact rfl;(exact⟨rfl,rfl,rfl,trivial⟩);exact rfl)
  |((refine lent_step' [(1000000,3),(1000001,700001),(1000002,700002)] (fH a4 x4.name 8 i4 0 (iD hI4 (by omega))) ?_ ?_ ?_ ?_);rotate_left 0;exact rfl;(exact⟨rfl,rfl,rfl,trivial⟩);exact rfl)
  |((refine lent_step' [(1000000,3),(1000001,700001),(1000002,700002)] (fH a6 x6.name 9 i6 0 (iD hI6 (by omega))) ?_ ?_ ?_ ?_);rotate_left 0;exact rfl;(exact⟨rfl,rfl,rfl,trivial⟩);exact rfl)
  |((refine lent_step' [(1000000,3),(1000001,700001),(1000002,700002)] (fH a8 x8.name 5 i8 (IntKind.i64.wrap ((i8:Int)+1)) (iD hI8 (by omega))) ?_ ?_ ?_ ?_);rotate_left 0;exact rfl;(exact⟨rfl,rfl,rfl,trivial⟩);exact rfl)
  |((refine dB ?_);refine fin_step' [] rfl ?_ ?_)
  |refine aI.l _ ?_
  |((refine bY ?_ ?_ ?_ ?_ ?_ ?_)<;>exact rfl)
  |((refine di ?_ ?_ ?_ ?_)<;>exact rfl)
  |((refine aB ?_ ?_ ?_ ?_ ?_);exact rfl;exact rfl;rotate_left;(first |exact ay hd12 |exact ay hd10 |exact ay hd8 |exact ay hd6 |exact ay hd4 |exact ay hd2 |exact ay hd0))
  |refine oK ?_
  |refine wP ?_ ?_ ?_
  |((refine aK ?_ ?_ (λhg=>?_) ?_);exact rfl)
  |((refine aY ?_ ?_);exact rfl;exact rfl)
  |((refine gu ?_ ?_);exact rfl)
  |refine And.intro ?_ ?_
  |((refine mZ ?_ ?_ ?_);exact rfl;exact rfl;(first |exact rfl |skip))
  |exact @rfl AV _
  |exact @rfl Block _
  |exact @rfl (List AV) _
  |exact dQ rfl
  |fail)
 all_goals first
  |omega
  |exact absurd h (by decide)
  |(exfalso;simp only[List.all_cons,Bool.and_eq_true]at hI10;have hk:=hI10.1;simp only[nmOk]at hk;(try simp only[Bool.cond_false_right]at h);rw[hk]at h;exact absurd h (by decide))
  |((try(conv=>whnf));exact congrArg (Block.map false [KS.str]) (Jh hm))
  |((try(conv=>whnf));exact congrArg (λz:Nat=>AV.data (D.val (Value.int IntKind.i64 (z:Int)))) (by show([[D.str p.name]]++List.map nmC (decl p)).length=_;simp[jw]))
  |rfl
  |exact VM hI12.2 hm
  |exact List.nodup_nil
  |((refine Eq.symm ?_);(refine Eq.symm ?_);rw[T2,<-hI0];simp[bounds,kN];done)
  |((refine Eq.symm ?_);(refine Eq.symm ?_);rw[T3,<-hI2];simp[bounds,kN,lines];done)
  |((refine Eq.symm ?_);(refine Eq.symm ?_);rw[T4,<-hI4];simp[kN,tables];done)
  |((refine Eq.symm ?_);(refine Eq.symm ?_);rw[decl,<-hI6];simp[kN];done)
  |(have hz:=iD hI8 ht5;(try simp only[List.length_map]);omega)
  |(show [[D.str p.name]]++List.map nmC (decl p)=_;simp[jw];done)
  |((refine Eq.symm ?_);(refine Eq.symm ?_);rw[<-hI12.1];simp;done)
  |(simp only[List.all_cons,Bool.and_eq_true]at hI10;exact hI10.2)
  |((refine Eq.symm ?_);(refine Eq.symm ?_);rw[<-hI6];simp only[kN,bounds,List.map_cons,List.append_assoc,List.cons_append,List.nil_append];done)
  |((refine Eq.symm ?_);(refine Eq.symm ?_);rw[<-hI4];simp only[kN,bounds,List.map_cons,List.append_assoc,List.cons_append,List.nil_append];done)
  |((refine Eq.symm ?_);(refine Eq.symm ?_);rw[<-hI2];simp only[kN,bounds,List.map_cons,List.append_assoc,List.cons_append,List.nil_append];done)
  |((refine Eq.symm ?_);(refine Eq.symm ?_);rw[<-hI0];simp only[kN,bounds,List.map_cons,List.append_assoc,List.cons_append,List.nil_append];done)
  |((refine Eq.symm ?_);(refine Eq.symm ?_);rw[<-hI8];simp only[Bq,h,Bool.false_eq_true,if_false];done)
  |((refine Eq.symm ?_);(refine Eq.symm ?_);rw[show IntKind.i64.wrap ((i8:Int)+1)=(i8:Int)+1 from bM (by omega) (by omega),<-hI8];simp only[Bq,h,if_true,List.append_assoc,List.cons_append,List.nil_append];done)
theorem Kt(ls:List (List Bd))(hs:lens ls<=1073741824)(hn:ls.length<=1073741824):ak Tryz.prog 105 [.gs 1000001 1 (ls.map zdw)] [(1000001,.tok 1 (ls.map zdw).length)] (.ret (.gs 1000000 3 (ls.flatten.map Bd.cs))) [(1000000,.tok 3 (ls.flatten.map Bd.cs).length),(1000001,.tok 1 (ls.map zdw).length)]:=by
 refine pg Tryz.func105 λhf=>?_
 have hlen:ls.length<=9223372036854775807:=by omega
 clear hf
 repeat' ((try conv=>whnf)<;>first
  |with_reducible exact trivial
  |with_reducible exact ai hd2 ‹_›
  |with_reducible exact ai hd0 ‹_›
  |refine bu hd2 ?_
  |refine bu hd0 ?_
  |refine aP hd2 ?_
  |refine aP hd0 ?_
  |with_reducible refine BrI.intro (λh=>?_) (λh=>?_)
  |((with_reducible refine au.mk 0 ?_);refine⟨aH (ls) 11 (λ(n:(Nat))=>[(3,.data (.val (.int .i64 (n:Int))))]) (λ(n:(Nat))=>[(1000001,.tok 1 (ls.map zdw).length)]) [0,9,10] (λi0 r0 n=>lens ls=n+lens r0),?_⟩;refine af (0) ?_ ?_ (λi0 (n:(Nat)) hd0 hI0=>?_) (λi0 x0 r0 (n:(Nat)) hd0 hl0 hI0=>?_))
  |refine ag hd0 (n+x0.length) ?_ ?_
  |((with_reducible refine au.mk 2 ?_);refine⟨aH (ls) 27 (λ(out:(List Bd))=>[(6,.gs 800000 3 (out.map Bd.cs))]) (λ(out:(List Bd))=>[(1000001,.tok 1 (ls.map zdw).length),(800000,.tok 3 (out.map Bd.cs).length)]) [25,26] (λi2 r2 out=>ls.flatten=out++r2.flatten),?_⟩;refine af [] ?_ ?_ (λi2 (out:(List Bd)) hd2 hI2=>?_) (λi2 x2 r2 (out:(List Bd)) hd2 hl2 hI2=>?_))
  |refine ag hd2 ?_ ?_ ?_
  |((refine fM [(1000000,800000)] (Tz n (by rw[Zy]at hI0;omega)) ?_ ?_ ?_ ?_);rotate_left 0;rfl;exact trivial;rfl)
  |((refine bg ?_);refine fin_step' [(1000000,800000),(1000001,1000001)] rfl ?_ ?_)
  |((with_reducible refine aB ?_ ?_ ?_ ?_ ?_);rfl;rfl;rotate_left;(first |with_reducible exact ay hd2 |with_reducible exact ay hd0))
  |refine wP ?_ ?_ ?_
  |with_reducible refine And.intro ?_ ?_
  |((with_reducible refine mZ ?_ ?_ ?_);rfl;rfl;(first |with_reducible exact VE |exact rfl |skip))
  |((with_reducible refine gy ?_ ?_);rfl;(first |with_reducible exact VE |skip))
  |((with_reducible refine bP ?_);refine gZ ?_ ?_ ?_;rfl;rfl;(first |skip))
  |exact @rfl AV _
  |exact @rfl Block _
  |fail)
 all_goals(try simp only[csmp]at *)
 all_goals first
  |omega
  |(rw[lens_cons]at hI0;omega)
  |(have hq:=congrArg List.length hI2;simp only[VO,List.length_append,lens_cons,List.length_map]at hq ⊢;omega)
  |(rw[hI2];simp;done)
  |(exfalso;rw[lens_cons]at hI0;rw[zu (b:=x0.length) (by omega),decide_eq_true_eq]at h;omega)
  |(rw[lens_cons]at hI0;(try(conv=>whnf));exact congrArg (λz=>AV.data (D.val (Value.int IntKind.i64 z))) (zu (b:=x0.length) (by omega)))
  |rfl
theorem yM(p:Pr)(hp:p.Small):PCall Tryz.prog 54 [p.d] (lF 34 (Nam.ranged p) 161):=by
 refine dh Tryz.func54 λhf=>?_
 have hq:=Pr.fits (hf p.d (by simp))
 have hs1:=hp.params;have hs2:=hp.states;have hs3:=hp.lines;have hlb:=Zz hp
 have hlen3:=hq.lines;have hlen4:=hq.tables;have hlen5:=hq.stmts
 have hlen2:(allB p).length<=9223372036854775807:=by omega
 clear hf
 repeat' ((try conv=>whnf)<;>first
  |with_reducible exact trivial
  |with_reducible exact ai hd6 ‹_›
  |with_reducible exact ai hd4 ‹_›
  |with_reducible exact ai hd2 ‹_›
  |with_reducible exact ai hd0 ‹_›
  |refine bu hd6 ?_
  |refine bu hd4 ?_
  |refine bu hd0 ?_
  |refine aP hd6 ?_
  |refine aP hd4 ?_
  |refine aP hd0 ?_
  |((refine eU hd2 ?_ ?_);exact rfl)
  |((refine dM hd2 ?_ ?_);exact rfl)
  |refine aU (gB _ _) (λh=>?_) (λh=>?_)
  |refine aU (Tu _) (λh=>?_) (λh=>?_)
  |((with_reducible refine au.mk 0 ?_);refine⟨aH (p.lines) 20 (λ(out:(List Bd))=>[(2,.gs 800000 3 (out.map Bd.cs))]) (λ(out:(List Bd))=>[(1,.cells (p.cs.map .data)),(800000,.tok 3 (out.map Bd.cs).length)]) [1,18,19] (λi0 r0 out=>allB p=out++r0.map lnB),?_⟩;refine af ([p.params,p.states].flatten) ?_ ?_ (λi0 (out:(List Bd)) hd0 hI0=>?_) (λi0 x0 r0 (out:(List Bd)) hd0 hl0 hI0=>?_))
  |refine ag hd0 (out++[lnB x0]) ?_ ?_
  |((with_reducible refine au.mk 2 ?_);have hob:out=allB p:=(by simpa using hI0.symm);subst hob;refine⟨aH (allB p) 35 (λ(_:Unit)=>[(33,.gs 800000 3 ((allB p).map Bd.cs)),(34,.data (.val (.int .i64 ((allB p).length:Nat))))]) (λ(_:Unit)=>[(1,.cells (p.cs.map .data))]) [1] (λi2 r2 _=>Nam.ranged p=(r2.all bd1&&(p.tables.all tb2&&p.stmts.all sm2))),?_⟩;refine af () ?_ ?_ (λi2 (_:Unit) hd2 hI2=>?_) (λi2 x2 r2 (_:Unit) hd2 hl2 hI2=>?_))
  |refine ag hd2 () ?_ ?_
  |((with_reducible refine au.mk 4 ?_);refine⟨aH (p.tables) 59 (λ(_:Unit)=>[]) (λ(_:Unit)=>[(1,.cells (p.cs.map .data))]) [1,57,58] (λi4 r4 _=>Nam.ranged p=(r4.all tb2&&p.stmts.all sm2)),?_⟩;refine af () ?_ ?_ (λi4 (_:Unit) hd4 hI4=>?_) (λi4 x4 r4 (_:Unit) hd4 hl4 hI4=>?_))
  |refine ag hd4 () ?_ ?_
  |((with_reducible refine au.mk 6 ?_);refine⟨aH (p.stmts) 72 (λ(_:Unit)=>[]) (λ(_:Unit)=>[(1,.cells (p.cs.map .data))]) [70,71] (λi6 r6 _=>Nam.ranged p=r6.all sm2),?_⟩;refine af () ?_ ?_ (λi6 (_:Unit) hd6 hI6=>?_) (λi6 x6 r6 (_:Unit) hd6 hl6 hI6=>?_))
  |refine ag hd6 () ?_ ?_
  |((refine ah ?_ ?_ ?_);rotate_left;(first |exact CG _ |exact yZ _))
  |((refine fM [(1000000,800000),(1000001,15)] (Kt [p.params,p.states] (by simp[lens];omega) (by simp)) ?_ ?_ ?_ ?_);rotate_left 0;rfl;(exact⟨rfl,trivial⟩);rfl)
  |refine aI.l _ ?_
  |((with_reducible refine aB ?_ ?_ ?_ ?_ ?_);rfl;rfl;rotate_left;(first |with_reducible exact ay hd6 |with_reducible exact ay hd4 |with_reducible exact ay hd2 |with_reducible exact ay hd0))
  |refine oK ?_
  |refine wP ?_ ?_ ?_
  |((refine aK ?_ ?_ (λhg=>?_) ?_);rfl)
  |((refine aY ?_ ?_);with_reducible exact rfl;with_reducible exact rfl)
  |((refine gu ?_ ?_);with_reducible exact rfl)
  |((refine mf ?_ ?_);rotate_left;refine⟨[],rfl,?_,trivial⟩;conv=>whnf)
  |((refine mg ?_ ?_);rotate_left;refine⟨[],rfl,?_,trivial⟩;conv=>whnf)
  |with_reducible refine And.intro ?_ ?_
  |((with_reducible refine mZ ?_ ?_ ?_);rfl;rfl;(first |exact rfl |skip))
  |((with_reducible refine gy ?_ ?_);rfl;(first |skip))
  |exact @rfl AV _
  |exact @rfl (List AV) _
  |exact dQ rfl
  |fail)
 all_goals(try simp only[csmp]at *)
 all_goals first
  |(have hz:=congrArg List.length hI0;(try simp only[List.length_map,List.length_append,List.length_cons]at hz ⊢);omega)
  |rfl
  |(refine Eq.trans ?_ bC;rfl)
  |(rw[hI0];simp;done)
  |(rw[hI6];simp only[List.all_cons,List.all_nil,bd1,tb2,sm2,h,Bool.true_and,Bool.false_and,Bool.not_false,Bool.not_true];done)
  |(rw[hI4];simp only[List.all_cons,List.all_nil,bd1,tb2,sm2,h,Bool.true_and,Bool.false_and,Bool.not_false,Bool.not_true];done)
  |(rw[hI2];simp only[List.all_cons,List.all_nil,bd1,tb2,sm2,h,Bool.true_and,Bool.false_and,Bool.not_false,Bool.not_true];done)
  |(rw[hI6];simp only[List.all_cons,List.all_nil,Bool.true_and,Bool.false_and];done)
  |(rw[hI4];simp only[List.all_cons,List.all_nil,Bool.true_and,Bool.false_and];done)
  |(rw[hI2];simp only[List.all_cons,List.all_nil,Bool.true_and,Bool.false_and];done)
theorem jV(c0 c1 c2 c3 c4 c5 c6 c7 e0:AV)(e:Int):yT Tryz.prog 50 [.ptr 1000000 0,.ptr 1000001 0] (some (.iface 34 (.i e))) [(1000000,.cells [c0,c1,c2,c3,c4,c5,c6,c7]),(1000001,.cells [e0])]
  [(1000000,.cells [.data (.str []),.data (.i 0),.data (.i 0),.nilsl 3,.nilsl 3,.nilsl 4,.nilsl 2,.nilsl 8]),(1000001,.cells [.data (.i e)])]:=by
 refine dS tok hmix Tryz.func50 rfl (by kernel_rfl) (by kernel_rfl) (by kernel_rfl) ?_
 repeat' ((try conv=>whnf)<;>first
  |exact trivial
  |refine⟨([]:List (Nat×Nat)),?_⟩
  |refine⟨by kernel_rfl,?_⟩
  |refine⟨rfl,?_⟩
  |refine⟨?_,?_⟩
  |fail)
theorem wH(c0 c1 c2 c3 c4 c5 c6 c7 e0:AV)(e:Int)(n:Nat):yT Tryz.prog 50 [.ptr 1000000 0,.ptr 1000001 0] (some (.iface 34 (.i e))) [(1000000,.cells [c0,c1,c2,c3,c4,c5,c6,c7]),(1000001,.cells [e0]),(1000002,.tok 8 n)]
  [(1000000,.cells [.data (.str []),.data (.i 0),.data (.i 0),.nilsl 3,.nilsl 3,.nilsl 4,.nilsl 2,.nilsl 8]),(1000001,.cells [.data (.i e)]),(1000002,.tok 8 n)]:=by
 refine dS tok hmix Tryz.func50 rfl (by kernel_rfl) (by kernel_rfl) (by kernel_rfl) ?_
 repeat' ((try conv=>whnf)<;>first
  |exact trivial
  |refine⟨([]:List (Nat×Nat)),?_⟩
  |refine⟨by kernel_rfl,?_⟩
  |refine⟨rfl,?_⟩
  |refine⟨?_,?_⟩
  |fail)
theorem NY(d0 d1 d2 d3 d4 d5 d6 d7 d8:D):yT Tryz.prog 50 [.ptr 1000000 0,.ptr 1000001 0] none [(1000000,.cells [.data d0,.data d1,.data d2,.data d3,.data d4,.data d5,.data d6,.data d7]),(1000001,.cells [.data d8])]
  [(1000000,.cells [.data d0,.data d1,.data d2,.data d3,.data d4,.data d5,.data d6,.data d7]),(1000001,.cells [.data d8])]:=by
 refine dS tok hmix Tryz.func50 rfl (by kernel_rfl) (by kernel_rfl) (by kernel_rfl) ?_
 repeat' ((try conv=>whnf)<;>first
  |exact trivial
  |refine⟨([]:List (Nat×Nat)),?_⟩
  |refine⟨by kernel_rfl,?_⟩
  |refine⟨rfl,?_⟩
  |refine⟨?_,?_⟩
  |fail)
theorem Ku(p:Pr)(hF:Nam.formed p=false):PCall Tryz.prog 25 [p.d] (.ret (.tuple [Pr.none.d,.i 1])):=by
 refine aj Tryz.func25 ?_
 repeat' ((try conv=>whnf)<;>first
  |refine aU (iY _) (λh=>?_) (λh=>?_)
  |exact Bool.noConfusion (hF.symm.trans h)
  |((refine qx ?_);(refine⟨_,_,_,[(1000000,2),(1000001,3)],jV (.data (.str [])) (.data (.i 0)) (.data (.i 0)) (.nilsl 3) (.nilsl 3) (.nilsl 4) (.nilsl 2) (.nilsl 8) (.data (.i 0)) 1,rfl,⟨rfl,rfl,trivial⟩,?_,?_⟩);kernel_rfl)
  |refine⟨([]:List (Nat×Nat)),rfl,?_,trivial⟩
  |fail)
 all_goals rfl
theorem Kv(p:Pr)(hF:Nam.formed p=true)(hL:Nam.limited p=false)(hn:∀s∈p.stmts,Ref15.nodes s.x<=1073741824):PCall Tryz.prog 25 [p.d] (.ret (.tuple [Pr.none.d,.i 2])):=by
 refine aj Tryz.func25 ?_
 repeat' ((try conv=>whnf)<;>first
  |refine aU (iY _) (λh=>?_) (λh=>?_)
  |refine aU (jo _ (by assumption)) (λh=>?_) (λh=>?_)
  |exact Bool.noConfusion (hF.symm.trans h)
  |exact Bool.noConfusion (hL.symm.trans h)
  |((refine qx ?_);(refine⟨_,_,_,[(1000000,2),(1000001,3)],jV (.data (.str [])) (.data (.i 0)) (.data (.i 0)) (.nilsl 3) (.nilsl 3) (.nilsl 4) (.nilsl 2) (.nilsl 8) (.data (.i 0)) 2,rfl,⟨rfl,rfl,trivial⟩,?_,?_⟩);kernel_rfl)
  |refine⟨([]:List (Nat×Nat)),rfl,?_,trivial⟩
  |fail)
 all_goals rfl
theorem Kw(p:Pr)(hF:Nam.formed p=true)(hL:Nam.limited p=true)(hn:∀s∈p.stmts,Ref15.nodes s.x<=1073741824)(hp:p.Small)(hN:(p.name::jw (decl p)).all Nam.nmOk=false):PCall Tryz.prog 25 [p.d] (.ret (.tuple [Pr.none.d,.i 150])):=by
 refine aj Tryz.func25 ?_
 repeat' ((try conv=>whnf)<;>first
  |refine aU (iY _) (λh=>?_) (λh=>?_)
  |refine aU (jo _ (by assumption)) (λh=>?_) (λh=>?_)
  |exact Bool.noConfusion (hF.symm.trans h)
  |exact Bool.noConfusion (hL.symm.trans h)
  |((refine qx ?_);(refine⟨_,_,_,[(1000000,2),(1000001,3)],jV (.data (.str [])) (.data (.i 0)) (.data (.i 0)) (.nilsl 3) (.nilsl 3) (.nilsl 4) (.nilsl 2) (.nilsl 8) (.data (.i 0)) 150,rfl,⟨rfl,rfl,trivial⟩,?_,?_⟩);kernel_rfl)
  |refine⟨([]:List (Nat×Nat)),rfl,?_,trivial⟩
  |((refine fM [] (Kq p hp hN) ?_ ?_ ?_ ?_);rotate_left 0;rfl;exact trivial;rfl)
  |fail)
 all_goals rfl
theorem Ky(p:Pr)(hF:Nam.formed p=true)(hL:Nam.limited p=true)(hn:∀s∈p.stmts,Ref15.nodes s.x<=1073741824)(hp:p.Small)(hN:(p.name::jw (decl p)).all Nam.nmOk=true)(hU:¬uniq (decl p)):PCall Tryz.prog 25 [p.d] (.ret (.tuple [Pr.none.d,.i 151])):=by
 refine aj Tryz.func25 ?_
 repeat' ((try conv=>whnf)<;>first
  |refine aU (iY _) (λh=>?_) (λh=>?_)
  |refine aU (jo _ (by assumption)) (λh=>?_) (λh=>?_)
  |exact Bool.noConfusion (hF.symm.trans h)
  |exact Bool.noConfusion (hL.symm.trans h)
  |((refine qx ?_);(refine⟨_,_,_,[(1000000,2),(1000001,3)],jV (.data (.str [])) (.data (.i 0)) (.data (.i 0)) (.nilsl 3) (.nilsl 3) (.nilsl 4) (.nilsl 2) (.nilsl 8) (.data (.i 0)) 151,rfl,⟨rfl,rfl,trivial⟩,?_,?_⟩);kernel_rfl)
  |refine⟨([]:List (Nat×Nat)),rfl,?_,trivial⟩
  |((refine fM [] (Kr p hp hN hU) ?_ ?_ ?_ ?_);rotate_left 0;rfl;exact trivial;rfl)
  |fail)
 all_goals rfl
theorem Kz(p:Pr)(hF:Nam.formed p=true)(hL:Nam.limited p=true)(hn:∀s∈p.stmts,Ref15.nodes s.x<=1073741824)(hp:p.Small)(hN:(p.name::jw (decl p)).all Nam.nmOk=true)(hU:uniq (decl p))(hR:Nam.ranged p=false):PCall Tryz.prog 25 [p.d] (.ret (.tuple [Pr.none.d,.i 161])):=by
 refine aj Tryz.func25 ?_
 repeat' ((try conv=>whnf)<;>first
  |refine aU (iY _) (λh=>?_) (λh=>?_)
  |refine aU (jo _ (by assumption)) (λh=>?_) (λh=>?_)
  |refine aU (yM _ (by assumption)) (λh=>?_) (λh=>?_)
  |exact Bool.noConfusion (hF.symm.trans h)
  |exact Bool.noConfusion (hL.symm.trans h)
  |exact Bool.noConfusion (hR.symm.trans h)
  |((refine qx ?_);(refine⟨_,_,_,[(1000000,2),(1000001,3)],jV (.data (.str [])) (.data (.i 0)) (.data (.i 0)) (.nilsl 3) (.nilsl 3) (.nilsl 4) (.nilsl 2) (.nilsl 8) (.data (.i 0)) 161,rfl,⟨rfl,rfl,trivial⟩,?_,?_⟩);kernel_rfl)
  |refine⟨([]:List (Nat×Nat)),rfl,?_,trivial⟩
  |((refine fM [(1000000,800000)] (Fg p hp hN hU) ?_ ?_ ?_ ?_);rotate_left 0;rfl;exact trivial;rfl)
  |fail)
 all_goals rfl
theorem QL(x:Ex)(l:List Pe)(i:Int)(hx:nodes x<=1073741824)(hv:Gp l i x=true):ak Tryz.prog 55 [.data x.d,.ptr 1000000 0,.ptr 1000001 0,.ptr 1000002 0] [(1000000,.cells [.map 1000003]),(1000001,.cells [.data (.i i)]),(1000002,.cells [.fn 55 [.ptr 1000000 0,.ptr 1000001 0,.ptr 1000002 0]]),(1000003,.map false [.str] (mkM l))] (.ret (.data (vis l x).d)) [(1000000,.cells [.map 1000003]),(1000001,.cells [.data (.i i)]),(1000002,.cells [.fn 55 [.ptr 1000000 0,.ptr 1000001 0,.ptr 1000002 0]]),(1000003,.map false [.str] (mkM l))]:=by
 revert x;refine Ex.ind λx ih hx hv=>?_
 refine pg Tryz.func55 λhf=>?_
 have hlen:=Ex.fits (xy.data (hf (.data x.d) (by simp)))
 have hN:=nodes_eq x
 have hL:=len_nodes x.l
 clear hf
 repeat' ((try conv=>whnf)<;>first
  |with_reducible exact trivial
  |with_reducible exact ai hd0 ‹_›
  |refine kG hd0 ?_
  |refine iw hd0 ?_
  |with_reducible refine BrI.intro (λh=>?_) (λh=>?_)
  |refine aU (gB _ _) (λh=>?_) (λh=>?_)
  |exact Bool.noConfusion (h:false=true)
  |refine VP (λe he=>?_) (λhe=>?_)
  |((with_reducible refine au.mk 0 ?_);refine⟨aH (x.l) 89 (λ(out:(List Ex))=>[]) (λ(out:(List Ex))=>[(1000000,.cells [.map 1000003]),(1000001,.cells [.data (.i i)]),(1000002,.cells [.fn 55 [.ptr 1000000 0,.ptr 1000001 0,.ptr 1000002 0]]),(1000003,.map false [.str] (mkM l)),(5,.cells [.data (.i 0),.data (.str []),.data (.i 0),.data (.i 0),.nilsl 5]),(6,.cells [.data (.i (Gn l x.kind x.name)),.data (.str x.name),.data (.i (ZA l x.kind x.name)),.data (.i x.n),.gs 900006 5 (out.map Ex.cs)]),(900006,.tok 5 (out.map Ex.cs).length)]) [3,5,6,87,88] (λi0 r0 out=>uj l i r0=true/\YG l x.l=out++YG l r0/\nodesL r0<=1073741824/\out.length=i0),?_⟩;refine af ([]) ?_ ?_ (λi0 (out:(List Ex)) hd0 hI0=>?_) (λi0 x0 r0 (out:(List Ex)) hd0 hl0 hI0=>?_))
  |refine ag hd0 (out++[vis l x0]) ?_ ?_
  |((refine ah ?_ ?_ ?_);rotate_left;exact yh _)
  |((refine lent_step' [(1000000,1000000),(1000001,1000001),(1000002,1000002),(1000003,1000003)] (ih x0 (bU hd0) (by have:=hI0.2.2.1;simp only[nodesL]at this;omega) (by have:=hI0.1;simp only[uj,Bool.and_eq_true]at this;exact this.1)) ?_ ?_ ?_ ?_);rotate_left 0;rfl;(exact⟨rfl,rfl,rfl,rfl,trivial⟩);rfl)
  |((refine bg ?_);refine fin_step' [(1000000,1000000),(1000001,1000001),(1000002,1000002),(1000003,1000003)] rfl ?_ ?_)
  |refine aI.l _ ?_
  |((refine bY ?_ ?_ ?_ ?_ ?_ ?_)<;>exact rfl)
  |((refine di ?_ ?_ ?_ ?_)<;>exact rfl)
  |((with_reducible refine aB ?_ ?_ ?_ ?_ ?_);rfl;rfl;rotate_left;(with_reducible exact eY hd0))
  |refine oK ?_
  |refine wP ?_ ?_ ?_
  |((refine gu ?_ ?_);with_reducible exact rfl)
  |refine eQ ?_
  |with_reducible refine And.intro ?_ ?_
  |((with_reducible refine mZ ?_ ?_ ?_);rfl;rfl;(first |exact bC |skip))
  |((with_reducible refine gy ?_ ?_);rfl;(first |exact bC |skip))
  |exact @rfl AV _
  |exact dQ rfl
  |fail)
 all_goals(try simp only[csmp]at *)
 all_goals first
  |omega
  |(exfalso;have hv2:=hv;rw[Gq,Bool.and_eq_true]at hv2;have hk:=hv2.1;clear hv2 hv ih hN hL hlen hx;simp_all[vok,eok,arr];done)
  |(refine congrArg (λz=>AV.data (D.i z)) ?_;simp only[Gn,ZA,he,if_true, *];done)
  |(refine congrArg (λz=>AV.data (D.i z)) ?_;simp only[Gn,ZA,h,Bool.false_eq_true,if_false,reduceIte];done)
  |((try(conv=>whnf));rw[z3s,hI0.2.1];simp only[YG,List.append_nil,Ex.css_map];rfl)
  |(have hv2:=hv;rw[Gq,Bool.and_eq_true]at hv2;exact hv2.2)
  |(simp only[nodesL]at hI0;omega)
  |(simp only[uj,Bool.and_eq_true]at hI0;exact hI0.1.2)
  |((refine Eq.symm ?_);(refine Eq.symm ?_);rw[hI0.2.1];simp only[YG,List.append_assoc,List.cons_append,List.nil_append];done)
  |(simp only[List.length_append,List.length_cons,List.length_nil];omega)
  |rfl
theorem X6(x:Ex)(l:List Pe)(i:Int)(hx:nodes x<=1073741824)(hv:Gp l i x=false):ak Tryz.prog 55 [.data x.d,.ptr 1000000 0,.ptr 1000001 0,.ptr 1000002 0] [(1000000,.cells [.map 1000003]),(1000001,.cells [.data (.i i)]),(1000002,.cells [.fn 55 [.ptr 1000000 0,.ptr 1000001 0,.ptr 1000002 0]]),(1000003,.map false [.str] (mkM l))] (.pan (.data (.iface 34 (.i 150)))) [(1000000,.cells [.map 1000003]),(1000001,.cells [.data (.i i)]),(1000002,.cells [.fn 55 [.ptr 1000000 0,.ptr 1000001 0,.ptr 1000002 0]]),(1000003,.map false [.str] (mkM l))]:=by
 revert x;refine Ex.ind λx ih hx hv=>?_
 refine pg Tryz.func55 λhf=>?_
 have hlen:=Ex.fits (xy.data (hf (.data x.d) (by simp)))
 have hN:=nodes_eq x
 have hL:=len_nodes x.l
 clear hf
 repeat' ((try conv=>whnf)<;>first
  |with_reducible exact trivial
  |with_reducible exact ai hd0 ‹_›
  |refine kG hd0 ?_
  |refine iw hd0 ?_
  |with_reducible refine BrI.intro (λh=>?_) (λh=>?_)
  |refine aU (gB _ _) (λh=>?_) (λh=>?_)
  |((refine rest_step _ _ _ [true,true,true,true] ?_ ?_);kernel_rfl)
  |((refine quiet_step ?_ ?_);kernel_rfl)
  |exact Bool.noConfusion (h:false=true)
  |exact Bool.noConfusion (VQ.symm.trans hI0.1)
  |(obtain⟨hq1,hq2,hq3⟩:=hI0;rcases SE hq1 with⟨hb1,hb2⟩ |hb1<;>clear hq1)
  |refine VP (λe he=>?_) (λhe=>?_)
  |((with_reducible refine au.mk 0 ?_);refine⟨aH (x.l) 89 (λ(out:(List Ex))=>[]) (λ(out:(List Ex))=>[(1000000,.cells [.map 1000003]),(1000001,.cells [.data (.i i)]),(1000002,.cells [.fn 55 [.ptr 1000000 0,.ptr 1000001 0,.ptr 1000002 0]]),(1000003,.map false [.str] (mkM l)),(5,.cells [.data (.i 0),.data (.str []),.data (.i 0),.data (.i 0),.nilsl 5]),(6,.cells [.data (.i (Gn l x.kind x.name)),.data (.str x.name),.data (.i (ZA l x.kind x.name)),.data (.i x.n),.gs 900006 5 (out.map Ex.cs)]),(900006,.tok 5 (out.map Ex.cs).length)]) [3,5,6,87,88] (λi0 r0 out=>uj l i r0=false/\nodesL r0<=1073741824/\out.length=i0),?_⟩;refine af ([]) ?_ ?_ (λi0 (out:(List Ex)) hd0 hI0=>?_) (λi0 x0 r0 (out:(List Ex)) hd0 hl0 hI0=>?_))
  |refine ag hd0 (out++[vis l x0]) ?_ ?_
  |((refine ah ?_ ?_ ?_);rotate_left;exact yh _)
  |((refine lent_step' [(1000000,1000000),(1000001,1000001),(1000002,1000002),(1000003,1000003)] (QL x0 l i (by simp only[nodesL]at hq2;omega) hb1) ?_ ?_ ?_ ?_);rotate_left 0;rfl;(exact⟨rfl,rfl,rfl,rfl,trivial⟩);rfl)
  |((refine lent_step' [(1000000,1000000),(1000001,1000001),(1000002,1000002),(1000003,1000003)] (ih x0 (bU hd0) (by simp only[nodesL]at hq2;omega) hb1) ?_ ?_ ?_ ?_);rotate_left 0;rfl;(exact⟨rfl,rfl,rfl,rfl,trivial⟩);rfl)
  |((refine dB ?_);refine fin_step' [(1000000,1000000),(1000001,1000001),(1000002,1000002),(1000003,1000003)] rfl ?_ ?_)
  |refine aI.l _ ?_
  |((refine bY ?_ ?_ ?_ ?_ ?_ ?_)<;>exact rfl)
  |((refine di ?_ ?_ ?_ ?_)<;>exact rfl)
  |((with_reducible refine aB ?_ ?_ ?_ ?_ ?_);rfl;rfl;rotate_left;(with_reducible exact eY hd0))
  |refine oK ?_
  |refine wP ?_ ?_ ?_
  |((refine gu ?_ ?_);with_reducible exact rfl)
  |refine eQ ?_
  |((refine eF ?_ ?_);kernel_rfl)
  |with_reducible refine And.intro ?_ ?_
  |((with_reducible refine mZ ?_ ?_ ?_);rfl;rfl;(first |exact bC |skip))
  |((with_reducible refine gy ?_ ?_);rfl;(first |exact bC |skip))
  |exact @rfl AV _
  |exact @rfl Block _
  |exact dQ rfl
  |fail)
 all_goals(try simp only[csmp]at *)
 all_goals first
  |omega
  |(refine congrArg (λz=>AV.data (D.i z)) ?_;simp only[Gn,ZA,he,if_true, *];done)
  |(refine congrArg (λz=>AV.data (D.i z)) ?_;simp only[Gn,ZA,h,Bool.false_eq_true,if_false,reduceIte];done)
  |(simp only[nodesL]at hq2;omega)
  |(simp only[List.length_append,List.length_cons,List.length_nil];omega)
  |rfl
  |((refine Eq.symm ?_);(refine Eq.symm ?_);have hv2:=hv;rw[Gq]at hv2;clear hv ih hN hL hlen hx;simp_all[vok,eok,arr];done)
theorem NZ(p:Pr)(hF:Nam.formed p=true)(hL:Nam.limited p=true)(hn:∀s∈p.stmts,Ref15.nodes s.x<=1073741824)(hp:p.Small)(hN:(p.name::jw (decl p)).all Nam.nmOk=true)(hU:uniq (decl p))(hR:Nam.ranged p=true):PCall Tryz.prog 25 [p.d] (.ret (.tuple [(Ref15.fin p [] (Jj (decl p) p.stmts 0 [] false)).1.d,.i (Ref15.fin p [] (Jj (decl p) p.stmts 0 [] false)).2])):=by
 refine dh Tryz.func25 λhf=>?_
 have hlen:=(Pr.fits (hf p.d (by simp))).stmts
 have hps:=hp.stmts
 clear hf
 repeat' ((try conv=>whnf)<;>first
  |exact trivial
  |exact ai hd0 ‹_›
  |refine bu hd0 ?_
  |refine aP hd0 ?_
  |refine BrI.intro (λh=>?_) (λh=>?_)
  |refine aU (iY _) (λh=>?_) (λh=>?_)
  |refine aU (jo _ (by assumption)) (λh=>?_) (λh=>?_)
  |refine aU (yM _ (by assumption)) (λh=>?_) (λh=>?_)
  |refine aU (gB _ _) (λh=>?_) (λh=>?_)
  |exact Bool.noConfusion (h:false=true)
  |exact Bool.noConfusion (hF.symm.trans h)
  |exact Bool.noConfusion (hL.symm.trans h)
  |exact Bool.noConfusion (hR.symm.trans h)
  |((refine rest_step _ _ _ [true,false,true] ?_ ?_);kernel_rfl)
  |((refine quiet_step ?_ ?_);kernel_rfl)
  |((refine aK ?_ (.data (.b (nN dn e.kind e.index))) (λhg=>?_) ?_);exact rfl)
  |((refine VR ?_ ?_);assumption)
  |refine ZB (λhd=>?_) (λhd=>?_)
  |refine VP (λe he=>?_) (λhe=>?_)
  |((refine qx ?_);(refine⟨_,_,_,[(1000000,2),(1000001,3),(1000002,700003)],wH (.data (.str p.name)) (.data (.i p.latency)) (.data (.i p.tail)) (.data (.sl 3 (p.params.map Bd.cs))) (.data (.sl 3 (p.states.map Bd.cs))) (.data (.sl 4 (p.lines.map Ln.cs))) (.data (.sl 2 (p.tables.map Tb.cs))) (.gs 1000002 8 (ts.map Sm.cs)) (.data (.i 0)) 150 (ts.map Sm.cs).length,rfl,⟨rfl,rfl,rfl,trivial⟩,?_,?_⟩);kernel_rfl)
  |((refine qx ?_);(refine⟨_,_,_,[(1000000,2),(1000001,3),(1000002,700003)],wH (.data (.str p.name)) (.data (.i p.latency)) (.data (.i p.tail)) (.data (.sl 3 (p.params.map Bd.cs))) (.data (.sl 3 (p.states.map Bd.cs))) (.data (.sl 4 (p.lines.map Ln.cs))) (.data (.sl 2 (p.tables.map Tb.cs))) (.gs 1000002 8 (ts.map Sm.cs)) (.data (.i 0)) 151 (ts.map Sm.cs).length,rfl,⟨rfl,rfl,rfl,trivial⟩,?_,?_⟩);kernel_rfl)
  |((refine⟨_,_,_,[(1000000,2),(1000001,3)],NY (.str p.name) (.i p.latency) (.i p.tail) (.sl 3 (p.params.map Bd.cs)) (.sl 3 (p.states.map Bd.cs)) (.sl 4 (p.lines.map Ln.cs)) (.sl 2 (p.tables.map Tb.cs)) (.sl 8 (ts.map Sm.cs)) (.i 0),rfl,⟨rfl,rfl,trivial⟩,?_,?_⟩);kernel_rfl)
  |refine⟨([]:List (Nat×Nat)),rfl,?_,trivial⟩
  |((refine VV (decl p) hd0 hI0 (λhvb hq1 hq2=>?_) (λhvb hq1 hq2=>?_))<;>clear hI0)
  |((refine au.mk 0 ?_);refine⟨aH (p.stmts) 29 (λ(q:(Bool)×(List Sm)×(List (Int×Int)))=>match q with |(out,ts,dn)=>[(6,.data (.val (.bool out)))]) (λ(q:(Bool)×(List Sm)×(List (Int×Int)))=>match q with |(out,ts,dn)=>[(2,.cells [.data (.str p.name),.data (.i p.latency),.data (.i p.tail),.data (.sl 3 (p.params.map Bd.cs)),.data (.sl 3 (p.states.map Bd.cs)),.data (.sl 4 (p.lines.map Ln.cs)),.data (.sl 2 (p.tables.map Tb.cs)),.gs 700003 8 (ts.map Sm.cs)]),(700003,.tok 8 (ts.map Sm.cs).length),(3,.cells [.data (.i 0)]),(4,.cells [.map 800000]),(800000,.map false [.str] (mkM (decl p))),(25,.map true [.int .i64,.int .i64] (dn.map dnC))]) [2,3,4,5,27,28,999999] (λi0 r0 q=>match q with |(out,ts,dn)=>Ref15.fin p [] (Jj (decl p) p.stmts 0 [] false)=Ref15.fin p ts (Jj (decl p) r0 i0 dn out)/\ts.length=i0),?_⟩;refine af (?_,([]),([])) ?_ ?_ (λi0 ⟨out,ts,dn⟩ hd0 hI0=>?_) (λi0 x0 r0 ⟨out,ts,dn⟩ hd0 hl0 hI0=>?_))
  |refine ag hd0 (?_,(ts++[outS (decl p) x0]),(xJ (decl p) x0 dn)) ?_ ?_
  |((refine fM [(1000000,800000)] (Fg p hp hN hU) ?_ ?_ ?_ ?_);rotate_left 0;exact rfl;exact trivial;exact rfl)
  |((refine lent_step' [(1000000,4),(1000001,7),(1000002,9),(1000003,800000)] (QL x0.x (decl p) i0 (hn _ (bU hd0)) hvb) ?_ ?_ ?_ ?_);rotate_left 0;exact rfl;(exact⟨rfl,rfl,rfl,rfl,trivial⟩);exact rfl)
  |((refine lent_step' [(1000000,4),(1000001,7),(1000002,9),(1000003,800000)] (X6 x0.x (decl p) i0 (hn _ (bU hd0)) hvb) ?_ ?_ ?_ ?_);rotate_left 0;exact rfl;(exact⟨rfl,rfl,rfl,rfl,trivial⟩);exact rfl)
  |refine aI.l _ ?_
  |((refine bY ?_ ?_ ?_ ?_ ?_ ?_)<;>exact rfl)
  |((refine di ?_ ?_ ?_ ?_)<;>exact rfl)
  |((refine aB ?_ ?_ ?_ ?_ ?_);exact rfl;exact rfl;rotate_left;exact ay hd0)
  |refine oK ?_
  |refine wP ?_ ?_ ?_
  |((refine gu ?_ ?_);exact rfl)
  |refine eQ ?_
  |((refine eF ?_ ?_);kernel_rfl)
  |refine And.intro ?_ ?_
  |((refine mZ ?_ ?_ ?_);exact rfl;exact rfl;(first |skip))
  |((refine gy ?_ ?_);exact rfl;(first |skip))
  |exact @rfl AV _
  |exact @rfl Block _
  |exact dQ rfl
  |fail)
 all_goals first
  |rfl
  |(rw[hd];rfl)
  |(refine SG (o:=out) (b:=!nN dn e.kind e.index) ?_ h;assumption)
  |(refine zhy ?_;assumption)
  |(refine zhz ?_ (vP he ?_)<;>assumption)
  |(refine hq1.trans (z3t (z7v hvb ?_ (vP he ?_) ?_))<;>assumption)
  |(refine hq1.trans (z3t (stop_ok' hvb ?_ ?_))<;>assumption)
  |(simp only[List.length_append,List.length_cons,List.length_nil];omega)
  |(rw[List.length_map];have:=oJ hd0;omega)
  |((conv=>whnf);first |(refine zdx ?_;assumption) |(refine zdy (o:=out) ?_ (vP he ?_) ?_<;>assumption) |(refine BB (x:={ p with stmts:=ts }) (hI0.1.trans (z7y ?_));assumption) |(refine BB (x:=Pr.none) (hI0.1.trans (z7z ?_));assumption) |(refine BB (x:=Pr.none) (hq1.trans (BA (ZC hvb) ?_));decide) |(refine BB (x:=Pr.none) (hq1.trans (BA (VS hvb ?_ he) ?_))<;>first |assumption |decide) |(refine BB (x:=Pr.none) (hq1.trans (BA (VT hvb ?_ he ?_) ?_))<;>first |assumption |decide) |(refine BB (x:=Pr.none) (hq1.trans (BA (VU hvb ?_ (vP he ?_) ?_) ?_))<;>first |assumption |decide) |(refine BB (x:=Pr.none) (hq1.trans (BA (ZE hvb ?_ ?_) ?_))<;>first |assumption |decide))
theorem iZ(p:Pr)(hp:p.Small)(hn:∀s∈p.stmts,Ref15.nodes s.x<=1073741824):PCall Tryz.prog 25 [p.d] (.ret (.tuple [(resolveC p).1.d,.i (resolveC p).2])):=by
 unfold resolveC
 cases hF:Nam.formed p with
 |false=>exact Ku p hF
 |true=>
  cases hL:Nam.limited p with
  |false=>exact Kv p hF hL hn
  |true=>
   cases hN:(p.name::jw (decl p)).all Nam.nmOk with
   |false=>exact Kw p hF hL hn hp hN
   |true=>
    cases hU:Dw (jw (decl p))with
    |false=>exact Ky p hF hL hn hp hN (λh=>by rw[qy.2 h]at hU;simp at hU)
    |true=>
     cases hR:Nam.ranged p with
     |false=>exact Kz p hF hL hn hp hN (qy.1 hU) hR
     |true=>exact NZ p hF hL hn hp hN (qy.1 hU) hR
end Go.Proofs.YtgehpmgkaeohaaaGreatDoor
