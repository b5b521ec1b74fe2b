/- A part of the proof. -/
import Derived.Test.YtgehpmgkaeohaaaGreatDoorZMB
import Derived.Test.YtgehpmgkaeohaaaGreatDoorZSB
import Derived.Test.YtgehpmgkaeohaaaGreatDoorZLZ
import Derived.Test.YtgehpmgkaeohaaaGreatDoorZWA
set_option linter.all false
set_option maxHeartbeats 8000000
namespace Go.Proofs.YtgehpmgkaeohaaaGreatDoor
open Go.Fw Go.Fw.Ref15 Go.Fw.Rg Go.Fw.Tl Go.Fw.Mn
set_option maxRecDepth 10000
variable [ae]
theorem H9(s t:Mn.St)  : PCall Tryz.prog 15 [s.d,t.d] (.ret (.b (wG s t))):=by
 refine dh Tryz.func15 λhf=>?_
 have hlen:s.lines.length<=9223372036854775807:=by simpa using((hf s.d (by simp)).agg (.sl 1 (s.lines.map lC)) (by simp)).sl.1
 clear hf
 repeat' ((try conv=>whnf)<;>first
  |exact trivial
  |exact ai hd0 ‹_›
  |((refine eU hd0 ?_ ?_);(assumption))
  |((refine dM hd0 ?_ ?_);(assumption))
  |refine BrI.intro (λh=>?_) (λh=>?_)
  |((refine au.mk 0 ?_);have hz:=zbi h;have hk0:(s.lines.zip t.lines).length=(s.lines.map lC).length:=(by rw[ze1 hz.1,List.length_map]);have hlz:(s.lines.zip t.lines).length<=9223372036854775807:=(by rw[ze1 hz.1];exact hlen);refine⟨aH (s.lines.zip t.lines) 5 (λ(_:Unit)=>[]) (λ(_:Unit)=>[]) [2,3] (λi0 r0 _=>wG s t=r0.all λq=>Rg.intsE q.1 q.2),?_⟩;refine af () ?_ ?_ (λi0 (_:Unit) hd0 hI0=>?_) (λi0 x0 r0 (_:Unit) hd0 hl0 hI0=>?_))
  |refine ag hd0 () ?_ ?_
  |((refine ah ?_ ?_ ?_);rotate_left;exact yt _ _)
  |((refine aB ?_ ?_ ?_ ?_ ?_);rfl;rfl;rotate_left;(first |exact jI hd0 |exact jJ hd0))
  |refine eQ ?_
  |(refine cO ?_;conv=>whnf)
  |refine And.intro ?_ ?_
  |exact @rfl AV _
  |fail)
 all_goals first
  |exact congrArg D.b (zgu h)
  |exact congrArg D.b (zbj hI0 h)
  |exact z1m hI0 h
  |exact hz.2
  |exact congrArg D.b hI0.symm
theorem Yv(s:Mn.St)  : PCall Tryz.prog 19 [s.d] (.ret (.b (Mn.fewStM s))):=by
 refine dh Tryz.func19 λhf=>?_
 have hlen:s.lines.length<=9223372036854775807:=by simpa using((hf s.d (by simp)).agg (.sl 1 (s.lines.map lC)) (by simp)).sl.1
 clear hf
 repeat' ((try conv=>whnf)<;>first
  |exact trivial
  |exact ai hd0 ‹_›
  |refine xH hd0 ?_
  |refine ug hd0 ?_
  |refine BrI.intro (λh=>?_) (λh=>?_)
  |((refine au.mk 0 ?_);refine⟨aH (s.lines) 3 (λ(_:Unit)=>[]) (λ(_:Unit)=>[]) [1] (λi0 r0 _=>(s.lines.take 20).all uB=(r0.take (20-i0)).all uB),?_⟩;refine af () ?_ ?_ (λi0 (_:Unit) hd0 hI0=>?_) (λi0 x0 r0 (_:Unit) hd0 hl0 hI0=>?_))
  |refine ag hd0 () ?_ ?_
  |((refine aB ?_ ?_ ?_ ?_ ?_);rfl;rfl;rotate_left;exact ay hd0)
  |(refine cO ?_;conv=>whnf)
  |refine And.intro ?_ ?_
  |exact @rfl AV _
  |fail)
 all_goals first
  |exact congrArg D.b (X0 hI0 (.inl rfl))
  |exact congrArg D.b (X0 hI0 (.inr (to0 h)))
  |exact congrArg D.b (zgv hI0 ‹decide ((i0:Int)<20)=true› h)
  |exact z1o hI0 ‹decide ((i0:Int)<20)=true› h
theorem z2u(p:Pr)  : PCall Tryz.prog 28 [p.d] (.ret (.b (Mn.fewPrM p))):=by
 refine dh Tryz.func28 λhf=>?_
 have hq:=Pr.fits (hf p.d (by simp))
 have hlen:=hq.lines
 clear hf
 repeat' ((try conv=>whnf)<;>first
  |exact trivial
  |exact ai hd0 ‹_›
  |refine xH hd0 ?_
  |refine ug hd0 ?_
  |refine BrI.intro (λh=>?_) (λh=>?_)
  |((refine au.mk 0 ?_);refine⟨aH (p.lines) 3 (λ(_:Unit)=>[]) (λ(_:Unit)=>[]) [1] (λi0 r0 _=>(p.lines.take 20).all uA=(r0.take (20-i0)).all uA),?_⟩;refine af () ?_ ?_ (λi0 (_:Unit) hd0 hI0=>?_) (λi0 x0 r0 (_:Unit) hd0 hl0 hI0=>?_))
  |refine ag hd0 () ?_ ?_
  |((refine ah ?_ ?_ ?_);rotate_left;exact Ym _)
  |((refine aB ?_ ?_ ?_ ?_ ?_);rfl;rfl;rotate_left;exact ay hd0)
  |(refine cO ?_;conv=>whnf)
  |refine And.intro ?_ ?_
  |exact @rfl AV _
  |fail)
 all_goals first
  |exact congrArg D.b (X3 hI0 (.inl rfl))
  |exact congrArg D.b (X3 hI0 (.inr (to0 h)))
  |exact congrArg D.b (zgw hI0 ‹decide ((i0:Int)<20)=true› h)
  |exact z1p hI0 ‹decide ((i0:Int)<20)=true› h
theorem yw(p:Pr)(A:Fr)  : PCall Tryz.prog 10 [p.d,.sl 1 (A.params.map aC),.sl 1 (A.inp.map aC),.sl 1 (A.side.map aC),(⟨A.vals,A.lines⟩:Mn.St).d] (.ret (.b (zhn p A))):=by
 refine aj Tryz.func10 ?_
 repeat' ((try conv=>whnf)<;>first
  |((refine ah ?_ ?_ ?_);rotate_left;(first |exact z2u _ |exact Yv _))
  |((refine aK ?_ ?_ (λhg=>?_) ?_);rfl)
  |((refine aY ?_ ?_);rfl;rfl)
  |(refine cO ?_;conv=>whnf)
  |fail)
 all_goals simp only[zhn,List.length_map]
theorem zi1{k:Nat}{b:Str}(hk:Nat.ble k 1000=true)(hb:b.length<=1000):((k+List.length b:Nat):Int)<=IntKind.i64.max:=by
 have:=Nat.le_of_ble_eq_true hk
 show((k+List.length b:Nat):Int)<=9223372036854775807
 omega
theorem zi2{k:Nat}{l b:Str}(hk:Nat.ble k 1000=true)(hl:Nat.ble l.length 1000=true)(hb:b.length<=1000):(((l++b).length+k:Nat):Int)<=IntKind.i64.max:=by
 have:=Nat.le_of_ble_eq_true hk
 have:=Nat.le_of_ble_eq_true hl
 show(((l++b).length+k:Nat):Int)<=9223372036854775807
 rw[List.length_append];omega
theorem Yx(b:Str)(p q:Pr)(hb:b.length<=1000)(h1:PCall Tryz.prog 58 [.str (X4 b)] (.ret (.tuple [.sl 8 [p.cs],.i 0,.i 0])))(h2:PCall Tryz.prog 25 [p.d] (.ret (.tuple [q.d,.i 0]))):PCall Tryz.prog 27 [.str b] (.ret (.tuple [q.d,.b true])):=by
 refine aj Tryz.func27 ?_
 repeat' ((try conv=>whnf)<;>first
  |exact Bool.noConfusion (show false=true from h)
  |refine BrI.intro (λh=>?_) (λh=>?_)
  |refine⟨p.cs,⟨Int.le_refl _,rfl⟩,?_⟩
  |((refine ah ?_ ?_ ?_);rotate_left;(first |exact h1 |exact h2))
  |refine oK ?_
  |(refine cO ?_;conv=>whnf)
  |refine And.intro ?_ ?_
  |fail)
 all_goals first
  |exact zi1 rfl hb
  |exact zi2 rfl rfl hb
  |rfl
theorem zce(b:Str)(n o:Int)(p:Pr)(f x:Mn.St)(h1:PCall Tryz.prog 27 [.str b] (.ret (.tuple [p.d,.b true])))(h2:PCall Tryz.prog 11 [p.d] (.ret (.tuple [f.d,.i 0])))(h3:PCall Tryz.prog 13 [p.d,.sl 1 [],.sl 1 [[.i n]],.sl 1 [[.i 0]],f.d] (.ret (.tuple [.i o,x.d,.i 0]))):PCall Tryz.prog 26 [.str b,.i n,(⟨[],[]⟩:Mn.St).d] (.ret (.tuple [.i o,x.d,.b true])):=by
 refine aj Tryz.func26 ?_
 repeat' ((try conv=>whnf)<;>first
  |exact Bool.noConfusion (show true=false from h)
  |refine BrI.intro (λh=>?_) (λh=>?_)
  |((refine ah ?_ ?_ ?_);rotate_left;(first |exact h1 |exact h2 |exact h3))
  |refine aI.l _ ?_
  |refine eQ ?_
  |(refine cO ?_;conv=>whnf)
  |fail)
 all_goals rfl
theorem zcf(b:Str)(n o:Int)(p:Pr)(f s x:Mn.St)(h1:PCall Tryz.prog 27 [.str b] (.ret (.tuple [p.d,.b true])))(h2:PCall Tryz.prog 11 [p.d] (.ret (.tuple [f.d,.i 0])))(h3:PCall Tryz.prog 13 [p.d,.sl 1 [],.sl 1 [[.i n]],.sl 1 [[.i 0]],s.d] (.ret (.tuple [.i o,x.d,.i 0])))(hz:(IntKind.i64.wrap ((((s.vals.map aC).length:Nat):Int)+(((s.lines.map lC).length:Nat):Int))==0)=false):PCall Tryz.prog 26 [.str b,.i n,s.d] (.ret (.tuple [.i o,x.d,.b true])):=by
 refine aj Tryz.func26 ?_
 repeat' ((try conv=>whnf)<;>first
  |exact Bool.noConfusion (hz.symm.trans h)
  |refine BrI.intro (λh=>?_) (λh=>?_)
  |((refine ah ?_ ?_ ?_);rotate_left;(first |exact h1 |exact h2 |exact h3))
  |refine aI.l _ ?_
  |refine eQ ?_
  |(refine cO ?_;conv=>whnf)
  |fail)
 all_goals rfl
theorem z2v(p:Pr)(c1:PCall Tryz.prog 26 [.str zj2,.i 7,noS.d] (.ret (.tuple [.i 7,noS.d,.b true])))(c2:PCall Tryz.prog 26 [.str zj3,.i 0,(⟨[3],[]⟩:Mn.St).d] (.ret (.tuple [.i 8,(⟨[4],[]⟩:Mn.St).d,.b true])))(c3:PCall Tryz.prog 26 [.str zj4,.i 0,noS.d] (.ret (.tuple [.i (-4),noS.d,.b true])))(c4:PCall Tryz.prog 26 [.str zj5,.i 100,noS.d] (.ret (.tuple [.i 6,noS.d,.b true])))(c5:PCall Tryz.prog 26 [.str zj6,.i 5,(⟨[],[[3,4]]⟩:Mn.St).d] (.ret (.tuple [.i 4,(⟨[],[[5,3]]⟩:Mn.St).d,.b true])))(c6:PCall Tryz.prog 27 [.str z1s] (.ret (.tuple [p.d,.b true])))(s6:PCall Tryz.prog 11 [p.d] (.ret (.tuple [(⟨[2],[]⟩:Mn.St).d,.i 0])))(s0:PCall Tryz.prog 11 [(Pr.none:Pr).d] (.ret (.tuple [noS.d,.i 150])))(t1:PCall Tryz.prog 13 [p.d,.sl 1 [],.sl 1 [[.i 0]],.sl 1 [[.i 0]],(⟨[6],[]⟩:Mn.St).d] (.ret (.tuple [.i 0,noS.d,.i 180])))(t2:PCall Tryz.prog 13 [p.d,.sl 1 [],.sl 1 [[.i 0],[.i 0]],.sl 1 [[.i 0]],(⟨[2],[]⟩:Mn.St).d] (.ret (.tuple [.i 0,noS.d,.i 1]))):PCall Tryz.prog 9 [] (.ret (.b true)):=by
 refine aj Tryz.func9 ?_
 repeat' ((try conv=>whnf)<;>first
  |((refine Lx.gi_step ?_ ?_);kernel_rfl)
  |((refine ah ?_ ?_ ?_);rotate_left;(first |exact c1 |exact c2 |exact c3 |exact c4 |exact c5 |exact c6 |exact s6 |exact s0 |exact t1 |exact t2 |exact H9 ⟨[4],[]⟩ ⟨[4],[]⟩ |exact H9 ⟨[],[[5,3]]⟩ ⟨[],[[5,3]]⟩ |exact H9 ⟨[2],[]⟩ ⟨[2],[]⟩))
  |refine aI.l _ ?_
  |((refine aK ?_ ?_ (λhg=>?_) ?_);rfl)
  |((refine aY ?_ ?_);rfl;rfl)
  |(refine cO ?_;conv=>whnf)
  |fail)
 all_goals rfl
theorem zhf{s t:Mn.St}(h:wG s t=true):s=t:=by
 rw[wG,Bool.and_eq_true]at h
 obtain⟨a,b⟩:=s
 obtain⟨c,d⟩:=t
 have h1:a=c:=(Rg.lenE_iff Rg.intE_iff _ _).1 h.1
 have h2:b=d:=(Rg.lenE_iff (λx y=>Rg.lenE_iff Rg.intE_iff x y) _ _).1 h.2
 rw[h1,h2]
theorem YB{b:Str}(h:okB b=true):PCall Tryz.prog 27 [.str b] (.ret (.tuple [(CE b).d,.b true]))/\iE (CE b):=by
 simp only[okB,Bool.and_eq_true]at h
 obtain⟨h1,h2,h3,h4⟩:=h
 obtain⟨hl,hn,hp⟩:=zg4 h1
 have g:=yg h2
 have hb:b.length<=1000:=by
  have:(X4 b).length=zj1.length+b.length+zg3.length:=by rw[X4,List.length_append,List.length_append]
  omega
 have c1:=TS (X4 b) hn
 rw[hp]at c1
 have c2:=iZ (prB b) g.sm g.hn
 rw[eq_of_beq h4]at c2
 exact⟨Yx b (prB b) (CE b) hb c1 c2,yg h3⟩
theorem KU{p:Pr}(g:iE p)(h:jy p=0):PCall Tryz.prog 11 [p.d] (.ret (.tuple [(lL p).d,.i 0])):=by
 have:=FB p g
 rw[JO,if_neg (by rw[h];decide)]at this
 exact this
theorem wM{b:Str}{n o:Int}{s x:Mn.St}(h:NV b n s o x=true):PCall Tryz.prog 26 [.str b,.i n,s.d] (.ret (.tuple [.i o,x.d,.b true])):=by
 simp only[NV,Bool.and_eq_true]at h
 obtain⟨h1,h2,h3,h4,h5,h6,h7⟩:=h
 obtain⟨c1,g⟩:=YB h1
 have h2:=eq_of_beq h2
 have c2:=KU g h2
 have hsm:=X5 h5
 have hq:=wL (CE b) (zcu n (DJ b s)) g ⟨by show 0<=_;omega,by show 1<=_;omega,by show 1<=_;omega⟩ hsm
 rw[yY,if_neg (by rw[h2];decide),if_neg (by simpa using h3),if_neg (by rw[h4];decide),zhf h7,eq_of_beq h6]at hq
 cases q:(Nat.beq s.vals.length 0&&Nat.beq s.lines.length 0)with
 |true=>
  have e:DJ b s=lL (CE b):=by rw[DJ,if_pos q]
  rw[e]at hq
  simp only[Bool.and_eq_true,Nat.beq_eq,List.length_eq_zero_iff]at q
  obtain⟨v,l⟩:=s
  obtain⟨rfl,rfl⟩:=q
  exact zce b n o (CE b) (lL (CE b)) x c1 c2 hq
 |false=>
  have e:DJ b s=s:=by rw[DJ,if_neg (by rw[q];decide)]
  rw[e]at hq
  rw[e]at hsm
  refine zcf b n o (CE b) (lL (CE b)) s x c1 c2 hq ?_
  have h1:=hsm.vals;have h2:=hsm.lines
  rw[List.length_map,List.length_map,bM (by omega) (by omega)]
  have hq:¬(s.vals.length=0/\s.lines.length=0):=λe=>by
   rw[e.1,e.2]at q;exact absurd q (by decide)
  simp only[beq_eq_false_iff_ne,ne_eq]
  omega
theorem Uc:PCall Tryz.prog 9 [] (.ret (.b true)):=by
 obtain⟨c6,g⟩:=YB at6
 have s6:=KU g zkf
 rw[zkg]at s6
 have gn:iE Pr.none:=yg (by kernel_rfl)
 have s0:=FB Pr.none gn
 have e0:JO Pr.none=(noS,150):=by kernel_rfl
 rw[e0]at s0
 have t1:=wL (CE z1s) (zcu 0 ⟨[6],[]⟩) g ⟨by decide,by decide,by decide⟩ (X5 (by kernel_rfl))
 rw[zkh]at t1
 have t2:=wL (CE z1s) ⟨[],[0,0],[0],[2],[],[]⟩ g ⟨by decide,by decide,by decide⟩ (X5 (by kernel_rfl))
 rw[zki]at t2
 exact z2v (CE z1s) (wM at1) (wM at2) (wM at3) (wM at4) (wM at5) c6 s6 s0 t1 t2
theorem zA4{i v s o:Nat}{l:List Int}:AV.own i v s o (0+(l.map aC).length)=AV.own i v s o l.length:=by rw[Nat.zero_add,List.length_map]
theorem zk8{n:Int}(hn:0<=n/\n<=4096):AV.data (D.i (IntKind.i64.wrap (n+1)))=AV.data (D.i ((n+1).toNat:Int)):=by
 rw[bM (by omega) (by omega),Int.toNat_of_nonneg (by omega)]
theorem zAv(x:Mn.St):wG x x=true:=by
 rw[wG,show Rg.intsE x.vals x.vals=true from(Rg.lenE_iff Rg.intE_iff _ _).2 rfl,show Rg.lenE (λq=>Rg.intsE q.1 q.2) x.lines x.lines=true from(Rg.lenE_iff (λx y=>Rg.lenE_iff Rg.intE_iff x y) _ _).2 rfl];rfl
theorem zBd{n m o:Int}{x:Mn.St}(h:0<=n)(h2:n<=m):D.b (bif bif bif bif (0:Int)==0 then o==o else false then wG x x else false then decide (n>=0)else false then decide (n<=m)else false)=D.b true:=by
 rw[zAv,decide_eq_true h2,show decide (n>=0)=true from decide_eq_true h,show(o==o)=true from beq_self_eq_true o];rfl
theorem zAw{l:List Int}:l.map aC=((l.map aC).drop 0).take l.length:=by rw[List.drop_zero,List.take_of_length_le (by simp)]
theorem zAl(p:Pr)(A:Fr)(t:List Int)(hs:PCall Tryz.prog 9 [] (.ret (.b true)))(hw:(bif !(zhn p A)then true else decide ((t.length:Int)>60))=true):PCall Tryz.prog 6 [p.d,.sl 1 (A.params.map aC),.sl 1 (A.inp.map aC),.sl 1 (A.side.map aC),.sl 1 (t.map aC),(⟨A.vals,A.lines⟩:Mn.St).d] (.ret (.b true)):=by
 refine aj Tryz.func6 ?_
 repeat' ((try conv=>whnf)<;>first
  |exact Bool.noConfusion (show false=true from h)
  |exact Bool.noConfusion (hw.symm.trans (by simpa only [List.length_map]using h))
  |refine BrI.intro (λh=>?_) (λh=>?_)
  |((refine ah ?_ ?_ ?_);rotate_left;(first |exact hs |exact yw p A))
  |(refine cO ?_;conv=>whnf)
  |fail)
theorem zAm(p:Pr)(A:Fr)(t:List Int)(n o d e:Int)(x:Mn.St)(hs:PCall Tryz.prog 9 [] (.ret (.b true)))(h0:PCall Tryz.prog 24 [p.d] (.ret (.tuple [.i n,.i d])))(h1:PCall Tryz.prog 13 [p.d,.sl 1 (A.params.map aC),.sl 1 (A.inp.map aC),.sl 1 (A.side.map aC),(⟨A.vals,A.lines⟩:Mn.St).d] (.ret (.tuple [.i o,x.d,.i e])))(he:(bif d != 0 then true else e != 0)=true):PCall Tryz.prog 6 [p.d,.sl 1 (A.params.map aC),.sl 1 (A.inp.map aC),.sl 1 (A.side.map aC),.sl 1 (t.map aC),(⟨A.vals,A.lines⟩:Mn.St).d] (.ret (.b true)):=by
 refine aj Tryz.func6 ?_
 repeat' ((try conv=>whnf)<;>first
  |exact Bool.noConfusion (show false=true from h)
  |exact Bool.noConfusion (he.symm.trans h)
  |refine BrI.intro (λh=>?_) (λh=>?_)
  |((refine ah ?_ ?_ ?_);rotate_left;(first |exact hs |exact yw p A |exact h0 |exact h1))
  |(refine cO ?_;conv=>whnf)
  |fail)
theorem zAx(p:Pr)(A:Fr)(t:List Int)(n o:Int)(x:Mn.St)(hs:PCall Tryz.prog 9 [] (.ret (.b true)))(h0:PCall Tryz.prog 24 [p.d] (.ret (.tuple [.i n,.i 0])))(h1:∀I S,zAs n A I S->PCall Tryz.prog 13 [p.d,.sl 1 (A.params.map aC),.sl 1 (I.map aC),.sl 1 (S.map aC),(⟨A.vals,A.lines⟩:Mn.St).d] (.ret (.tuple [.i o,x.d,.i 0])))(hn:0<=n/\n<=4096)(hp:n<=p.latency)(hA:zAs n A A.inp A.side)(hi:A.inp.length<=1073741824)(hj:A.side.length<=1073741824)(hi0:A.inp = []->False)(hj0:A.side = []->False):PCall Tryz.prog 6 [p.d,.sl 1 (A.params.map aC),.sl 1 (A.inp.map aC),.sl 1 (A.side.map aC),.sl 1 (t.map aC),(⟨A.vals,A.lines⟩:Mn.St).d] (.ret (.b true)):=by
 refine tZ tok hmix ⟨[15],[]⟩ Tryz.func6 rfl (by kernel_rfl) (by kernel_rfl) (by kernel_rfl) λhf=>?_
 clear hf
 repeat' ((try conv=>whnf)<;>first
  |exact Bool.noConfusion (show false=true from h)
  |refine aI.r 57 ?_
  |refine aI.r 60 ?_
  |obtain⟨hlt,hle,hok⟩:=hI
  |exact trivial
  |refine BrI.intro (λh=>?_) (λh=>?_)
  |((refine yG ?_ ?_ ?_ ?_ ?_ ?_ ?_ ?_);rfl;rfl;rfl;exact dQ rfl;rfl;exact Nat.zero_le _;(rw[List.length_map];first |exact hi |exact hj))
  |((refine au.mk 0 ?_);refine⟨⟨Nat×List Int×List Int,λs=>[(18,.data (.i (s.1:Int))),(2,.own 57 1 1 0 s.2.1.length),(3,.own 60 1 1 0 s.2.2.length)],λs=>[(57,.arr 1 1 (s.2.1.map aC)),(60,.arr 1 1 (s.2.2.map aC))],[1,4,6,11,12,13,15,16],λs=>AhI n A s,λs=>A.inp.length-s.1⟩,?_,λs hI=>?_⟩)
  |refine⟨(s.1+1,s.2.1.set s.1 (t.getD s.1 0),s.2.2.set s.1 (-1-t.getD s.1 0)),zA9 ⟨hlt,hle,hok⟩ hi (zAb (i:=s.1) (I:=s.2.1) (S:=s.2.2) (o:=t) (by assumption)).1 (zAy (v:=t.getD s.1 0) (by assumption)),zBc hok (zAb (i:=s.1) (I:=s.2.1) (S:=s.2.2) (o:=t) (by assumption)).1,?_⟩
  |refine⟨(s.1+1,s.2),zA3 ⟨hlt,hle,hok⟩ hi (zAb (i:=s.1) (I:=s.2.1) (S:=s.2.2) (o:=t) (by assumption)).1,zBc hok (zAb (i:=s.1) (I:=s.2.1) (S:=s.2.2) (o:=t) (by assumption)).1,?_⟩
  |refine⟨((n+1).toNat,A.inp,A.side),zAt hn hA,?_⟩
  |exact zBe hle
  |exact zAu
  |exact zAz
  |exact zBb (zAy (v:=t.getD s.1 0) (by assumption))
  |refine⟨aC (s.2.1.getD s.1 0),zBa (zAb (i:=s.1) (I:=s.2.1) (S:=s.2.2) (o:=t) (by assumption)).1,?_⟩
  |refine⟨aC (s.2.2.getD s.1 0),zBa (zAb (i:=s.1) (I:=s.2.1) (S:=s.2.2) (o:=t) (by assumption)).2.1,?_⟩
  |((refine au.mk 15 ?_);refine⟨⟨List Int×List Int,λq=>[(2,.data (.sl 1 (q.1.map aC))),(3,.data (.sl 1 (q.2.map aC)))],λ_=>[],[1,6,11,12,13,15,16],λq=>zAs n A q.1 q.2,λ_=>0⟩,?_,λq hq=>?_⟩)
  |refine I4.l ?_
  |refine⟨(s.2.1,s.2.2),hok,?_⟩
  |exact zAw
  |exact zA4
  |exact zk8 hn
  |refine⟨aC (t.getD s.1 0),zA8 (zAb (i:=s.1) (I:=s.2.1) (S:=s.2.2) (o:=t) (by assumption)).2.2,?_⟩
  |((refine ah ?_ ?_ ?_);rotate_left;(first |exact hs |exact yw p A |exact h0 |exact h1 A.inp A.side hA |exact h1 q.1 q.2 hq |exact H9 x x))
  |refine oK ?_
  |((refine aK ?_ ?_ (λhg=>?_) ?_);rfl)
  |((refine aY ?_ ?_);rfl;rfl)
  |refine eQ ?_
  |(refine cO ?_;conv=>whnf)
  |refine And.intro ?_ ?_
  |exact @rfl AV _
  |exact @rfl Block _
  |exact dQ rfl
  |fail)
 all_goals first
  |exact Int.natCast_nonneg _
  |exact zBd hn.1 hp
  |(simp;done)
  |exact Int.ofNat_lt.2 (zAb (i:=s.1) (I:=s.2.1) (S:=s.2.2) (o:=t) (by assumption)).1
  |exact Int.ofNat_lt.2 (zAb (i:=s.1) (I:=s.2.1) (S:=s.2.2) (o:=t) (by assumption)).2.1
  |rfl
theorem zAn(p:Pr)(A:Fr)(t:List Int)(g:iE p)(ha:ASm A)(hs:(⟨A.vals,A.lines⟩:Mn.St).Sm) :
  PCall Tryz.prog 6 [p.d,.sl 1 (A.params.map aC),.sl 1 (A.inp.map aC),.sl 1 (A.side.map aC),.sl 1 (t.map aC),(⟨A.vals,A.lines⟩:Mn.St).d] (.ret (.b true)):=by
 have c0:=Uc
 have c1:=wL p A g ha hs
 have c2:=yO p g
 cases hw:(bif !(zhn p A)then true else decide ((t.length:Int)>60))with
 |true=>exact zAl p A t c0 hw
 |false=>
  cases he:(bif (oQ p).2 != 0 then true else(yY p A).2.2 != 0)with
  |true=>exact zAm p A t _ _ _ _ _ c0 c2 c1 he
  |false=>
   have h0:(yY p A).2.2=0:=by
    cases q:(oQ p).2 != 0
    ·rw[q]at he;simpa using he
    ·rw[q]at he;cases he
   obtain⟨q0,q1,q2,q3⟩:=z0s h0
   have hst:=zAg h0
   obtain⟨-,l0,l1,l2⟩:=zAe h0 hst
   rw[l2]at c2
   have hR:=Xy (Mn.chkZ q0).1.res
   have hA:=Qp hR q1 q2
   refine zAx p A t (YH p) (stepM p A).1 (stepM p A).2 c0 c2 (λI S hI=>?_) ⟨l0,by omega⟩ l1 hst ha.inp ha.sid (λe=>?_) (λe=>?_)
   ·have:=wL p (zAf A I S) g ⟨ha.par,by show I.length<=_;rw[hI.li];exact ha.inp,by show S.length<=_;rw[hI.ls];exact ha.sid⟩ hs
    rw[(zAe h0 hI).1,q3]at this
    exact this
   ·have:=hA.inp;rw[e]at this;simp at this;omega
   ·have:=hA.sid;rw[e]at this;simp at this;omega
end Go.Proofs.YtgehpmgkaeohaaaGreatDoor
