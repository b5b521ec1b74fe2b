/- A part of the proof. -/
import Derived.Test.YtgehpmgkaeohaaaGreatDoorZMB
import Derived.Test.YtgehpmgkaeohaaaGreatDoorZSB
import Derived.Test.YtgehpmgkaeohaaaGreatDoorZLZ
import Derived.Test.YtgehpmgkaeohaaaGreatDoorZWA
set_option linter.all false
set_option maxHeartbeats 8000000
namespace Go.Proofs.YtgehpmgkaeohaaaGreatDoor
open Go.Fw Go.Fw.Ref15 Go.Fw.Rg Go.Fw.Tl Go.Fw.Mn
set_option maxRecDepth 10000
variable [ae]
theorem Hf(s t:Mn.St)  : PCall Tryz.prog 15 [s.d,t.d] (.ret (.b (vW s t))):=by
 refine dJ Tryz.func15 λhf=>?_
 have hlen:s.lines.length<=9223372036854775807:=by simpa using((hf s.d (by simp)).agg (.sl 1 (s.lines.map lC)) (by simp)).sl.1
 clear hf
 repeat' ((try conv=>whnf)<;>first
  |exact trivial
  |exact ai hd0 ‹_›
  |((refine eP hd0 ?_ ?_);(assumption))
  |((refine dL hd0 ?_ ?_);(assumption))
  |refine BrI.intro (λh=>?_) (λh=>?_)
  |((refine ax.mk 0 ?_);have hz:=z9m h;have hk0:(s.lines.zip t.lines).length=(s.lines.map lC).length:=(by rw[zc9 hz.1,List.length_map]);have hlz:(s.lines.zip t.lines).length<=9223372036854775807:=(by rw[zc9 hz.1];exact hlen);refine⟨aJ (s.lines.zip t.lines) 5 (λ(_:Unit)=>[]) (λ(_:Unit)=>[]) [2,3] (λi0 r0 _=>vW s t=r0.all λq=>Rg.intsE q.1 q.2),?_⟩;refine af () ?_ ?_ (λi0 (_:Unit) hd0 hI0=>?_) (λi0 x0 r0 (_:Unit) hd0 hl0 hI0=>?_))
  |refine ag hd0 () ?_ ?_
  |((refine ah ?_ ?_ ?_);rotate_left;exact SE _ _)
  |((refine aH ?_ ?_ ?_ ?_ ?_);rfl;rfl;rotate_left;(first |exact jH hd0 |exact jI hd0))
  |refine eU ?_
  |(refine dm ?_;conv=>whnf)
  |refine And.intro ?_ ?_
  |exact @rfl AV _
  |fail)
 all_goals first
  |exact congrArg D.b (zey h)
  |exact congrArg D.b (z9n hI0 h)
  |exact z0a hI0 h
  |exact hz.2
  |exact congrArg D.b hI0.symm
theorem zgy{k:Nat}{b:Str}(hk:Nat.ble k 1000=true)(hb:b.length<=1000):((k+List.length b:Nat):Int)<=IntKind.i64.max:=by
 have:=Nat.le_of_ble_eq_true hk
 show((k+List.length b:Nat):Int)<=9223372036854775807
 omega
theorem zgz{k:Nat}{l b:Str}(hk:Nat.ble k 1000=true)(hl:Nat.ble l.length 1000=true)(hb:b.length<=1000):(((l++b).length+k:Nat):Int)<=IntKind.i64.max:=by
 have:=Nat.le_of_ble_eq_true hk
 have:=Nat.le_of_ble_eq_true hl
 show(((l++b).length+k:Nat):Int)<=9223372036854775807
 rw[List.length_append];omega
theorem XP(b:Str)(p q:Pr)(hb:b.length<=1000)(h1:PCall Tryz.prog 58 [.str (Xp b)] (.ret (.tuple [.sl 8 [p.cs],.i 0,.i 0])))(h2:PCall Tryz.prog 25 [p.d] (.ret (.tuple [q.d,.i 0]))):PCall Tryz.prog 27 [.str b] (.ret (.tuple [q.d,.b true])):=by
 refine ak Tryz.func27 ?_
 repeat' ((try conv=>whnf)<;>first
  |exact Bool.noConfusion (show false=true from h)
  |refine BrI.intro (λh=>?_) (λh=>?_)
  |refine⟨p.cs,⟨Int.le_refl _,rfl⟩,?_⟩
  |((refine ah ?_ ?_ ?_);rotate_left;(first |exact h1 |exact h2))
  |refine pF ?_
  |(refine dm ?_;conv=>whnf)
  |refine And.intro ?_ ?_
  |fail)
 all_goals first
  |exact zgy rfl hb
  |exact zgz rfl rfl hb
  |rfl
theorem zan(b:Str)(n o:Int)(p:Pr)(f x:Mn.St)(h1:PCall Tryz.prog 27 [.str b] (.ret (.tuple [p.d,.b true])))(h2:PCall Tryz.prog 11 [p.d] (.ret (.tuple [f.d,.i 0])))(h3:PCall Tryz.prog 13 [p.d,.sl 1 [],.sl 1 [[.i n]],.sl 1 [[.i 0]],f.d] (.ret (.tuple [.i o,x.d,.i 0]))):PCall Tryz.prog 26 [.str b,.i n,(⟨[],[]⟩:Mn.St).d] (.ret (.tuple [.i o,x.d,.b true])):=by
 refine ak Tryz.func26 ?_
 repeat' ((try conv=>whnf)<;>first
  |exact Bool.noConfusion (show true=false from h)
  |refine BrI.intro (λh=>?_) (λh=>?_)
  |((refine ah ?_ ?_ ?_);rotate_left;(first |exact h1 |exact h2 |exact h3))
  |refine aF.l _ ?_
  |refine eU ?_
  |(refine dm ?_;conv=>whnf)
  |fail)
 all_goals rfl
theorem zao(b:Str)(n o:Int)(p:Pr)(f s x:Mn.St)(h1:PCall Tryz.prog 27 [.str b] (.ret (.tuple [p.d,.b true])))(h2:PCall Tryz.prog 11 [p.d] (.ret (.tuple [f.d,.i 0])))(h3:PCall Tryz.prog 13 [p.d,.sl 1 [],.sl 1 [[.i n]],.sl 1 [[.i 0]],s.d] (.ret (.tuple [.i o,x.d,.i 0])))(hz:(IntKind.i64.wrap ((((s.vals.map aC).length:Nat):Int)+(((s.lines.map lC).length:Nat):Int))==0)=false):PCall Tryz.prog 26 [.str b,.i n,s.d] (.ret (.tuple [.i o,x.d,.b true])):=by
 refine ak Tryz.func26 ?_
 repeat' ((try conv=>whnf)<;>first
  |exact Bool.noConfusion (hz.symm.trans h)
  |refine BrI.intro (λh=>?_) (λh=>?_)
  |((refine ah ?_ ?_ ?_);rotate_left;(first |exact h1 |exact h2 |exact h3))
  |refine aF.l _ ?_
  |refine eU ?_
  |(refine dm ?_;conv=>whnf)
  |fail)
 all_goals rfl
theorem z08(p:Pr)(c1:PCall Tryz.prog 26 [.str zhz,.i 7,noS.d] (.ret (.tuple [.i 7,noS.d,.b true])))(c2:PCall Tryz.prog 26 [.str zh0,.i 0,(⟨[3],[]⟩:Mn.St).d] (.ret (.tuple [.i 8,(⟨[4],[]⟩:Mn.St).d,.b true])))(c3:PCall Tryz.prog 26 [.str zh1,.i 0,noS.d] (.ret (.tuple [.i (-4),noS.d,.b true])))(c4:PCall Tryz.prog 26 [.str zh2,.i 100,noS.d] (.ret (.tuple [.i 6,noS.d,.b true])))(c5:PCall Tryz.prog 26 [.str zh3,.i 5,(⟨[],[[3,4]]⟩:Mn.St).d] (.ret (.tuple [.i 4,(⟨[],[[5,3]]⟩:Mn.St).d,.b true])))(c6:PCall Tryz.prog 27 [.str z0d] (.ret (.tuple [p.d,.b true])))(s6:PCall Tryz.prog 11 [p.d] (.ret (.tuple [(⟨[2],[]⟩:Mn.St).d,.i 0])))(s0:PCall Tryz.prog 11 [(Pr.none:Pr).d] (.ret (.tuple [noS.d,.i 150])))(t1:PCall Tryz.prog 13 [p.d,.sl 1 [],.sl 1 [[.i 0]],.sl 1 [[.i 0]],(⟨[6],[]⟩:Mn.St).d] (.ret (.tuple [.i 0,noS.d,.i 180])))(t2:PCall Tryz.prog 13 [p.d,.sl 1 [],.sl 1 [[.i 0],[.i 0]],.sl 1 [[.i 0]],(⟨[2],[]⟩:Mn.St).d] (.ret (.tuple [.i 0,noS.d,.i 1]))):PCall Tryz.prog 9 [] (.ret (.b true)):=by
 refine ak Tryz.func9 ?_
 repeat' ((try conv=>whnf)<;>first
  |((refine Lx.gi_step ?_ ?_);kernel_rfl)
  |((refine ah ?_ ?_ ?_);rotate_left;(first |exact c1 |exact c2 |exact c3 |exact c4 |exact c5 |exact c6 |exact s6 |exact s0 |exact t1 |exact t2 |exact Hf ⟨[4],[]⟩ ⟨[4],[]⟩ |exact Hf ⟨[],[[5,3]]⟩ ⟨[],[[5,3]]⟩ |exact Hf ⟨[2],[]⟩ ⟨[2],[]⟩))
  |refine aF.l _ ?_
  |((refine aK ?_ ?_ (λhg=>?_) ?_);rfl)
  |((refine bf ?_ ?_);rfl;rfl)
  |(refine dm ?_;conv=>whnf)
  |fail)
 all_goals rfl
theorem zff{s t:Mn.St}(h:vW s t=true):s=t:=by
 rw[vW,Bool.and_eq_true]at h
 obtain⟨a,b⟩:=s
 obtain⟨c,d⟩:=t
 have h1:a=c:=(Rg.lenE_iff Rg.intE_iff _ _).1 h.1
 have h2:b=d:=(Rg.lenE_iff (λx y=>Rg.lenE_iff Rg.intE_iff x y) _ _).1 h.2
 rw[h1,h2]
theorem XQ{b:Str}(h:okB b=true):PCall Tryz.prog 27 [.str b] (.ret (.tuple [(BR b).d,.b true]))/\ja (BR b):=by
 simp only[okB,Bool.and_eq_true]at h
 obtain⟨h1,h2,h3,h4⟩:=h
 obtain⟨hl,hn,hp⟩:=ze4 h1
 have g:=xM h2
 have hb:b.length<=1000:=by
  have:(Xp b).length=zhy.length+b.length+ze3.length:=by rw[Xp,List.length_append,List.length_append]
  omega
 have c1:=SY (Xp b) hn
 rw[hp]at c1
 have c2:=gB (prB b) g.sm g.hn
 rw[eq_of_beq h4]at c2
 exact⟨XP b (prB b) (BR b) hb c1 c2,xM h3⟩
theorem Kr{p:Pr}(g:ja p)(h:jo p=0):PCall Tryz.prog 11 [p.d] (.ret (.tuple [(lK p).d,.i 0])):=by
 have:=xQ p g
 rw[BD,if_neg (by rw[h];decide)]at this
 exact this
theorem wu{b:Str}{n o:Int}{s x:Mn.St}(h:Nk b n s o x=true):PCall Tryz.prog 26 [.str b,.i n,s.d] (.ret (.tuple [.i o,x.d,.b true])):=by
 simp only[Nk,Bool.and_eq_true]at h
 obtain⟨h1,h2,h3,h4,h5,h6,h7⟩:=h
 obtain⟨c1,g⟩:=XQ h1
 have h2:=eq_of_beq h2
 have c2:=Kr g h2
 have hsm:=Xq h5
 have hq:=wo (BR b) (za2 n (Dp b s)) g ⟨by show 0<=_;omega,by show 1<=_;omega,by show 1<=_;omega⟩ hsm
 rw[GG,if_neg (by rw[h2];decide),if_neg (by simpa using h3),if_neg (by rw[h4];decide),zff h7,eq_of_beq h6]at hq
 cases q:(Nat.beq s.vals.length 0&&Nat.beq s.lines.length 0)with
 |true=>
  have e:Dp b s=lK (BR b):=by rw[Dp,if_pos q]
  rw[e]at hq
  simp only[Bool.and_eq_true,Nat.beq_eq,List.length_eq_zero_iff]at q
  obtain⟨v,l⟩:=s
  obtain⟨rfl,rfl⟩:=q
  exact zan b n o (BR b) (lK (BR b)) x c1 c2 hq
 |false=>
  have e:Dp b s=s:=by rw[Dp,if_neg (by rw[q];decide)]
  rw[e]at hq
  rw[e]at hsm
  refine zao b n o (BR b) (lK (BR b)) s x c1 c2 hq ?_
  have h1:=hsm.vals;have h2:=hsm.lines
  rw[List.length_map,List.length_map,bC (by omega) (by omega)]
  have hq:¬(s.vals.length=0/\s.lines.length=0):=λe=>by
   rw[e.1,e.2]at q;exact absurd q (by decide)
  simp only[beq_eq_false_iff_ne,ne_eq]
  omega
theorem Tq:PCall Tryz.prog 9 [] (.ret (.b true)):=by
 obtain⟨c6,g⟩:=XQ at6
 have s6:=Kr g zif
 rw[zih]at s6
 have gn:ja Pr.none:=xM (by kernel_rfl)
 have s0:=xQ Pr.none gn
 have e0:BD Pr.none=(noS,150):=by kernel_rfl
 rw[e0]at s0
 have t1:=wo (BR z0d) (za2 0 ⟨[6],[]⟩) g ⟨by decide,by decide,by decide⟩ (Xq (by kernel_rfl))
 rw[zii]at t1
 have t2:=wo (BR z0d) ⟨[],[0,0],[0],[2],[],[]⟩ g ⟨by decide,by decide,by decide⟩ (Xq (by kernel_rfl))
 rw[zij]at t2
 exact z08 (BR z0d) (wu at1) (wu at2) (wu at3) (wu at4) (wu at5) c6 s6 s0 t1 t2
theorem z09(xs:List Int)(a b:Int)(n k:Nat)(hs:PCall Tryz.prog 9 [] (.ret (.b true)))(ha:0<=a/\a<=255)(hb:0<=b/\b<=255)(hn:n=1+a.toNat % 30)(hk:k=b.toNat % n)(hx:zfn xs)(hl:xs.length<=1073741824)(h0:PCall Tryz.prog 25 [(dlP n k).d] (.ret (.tuple [(dlP n k).d,.i 0])))(h1:PCall Tryz.prog 11 [(dlP n k).d] (.ret (.tuple [(⟨[],[List.replicate n 0]⟩:Mn.St).d,.i 0])))(h2:∀i l x,DlI xs n i l -> -2147483648<=x/\x<=2147483647->PCall Tryz.prog 13 [(dlP n k).d,.sl 1 [],.sl 1 [[.i (IntKind.i64.wrap x)]],.sl 1 [[.i 0]],(⟨[],[l]⟩:Mn.St).d] (.ret (.tuple [.i (l.getD k 0),(⟨[],[x::l.dropLast]⟩:Mn.St).d,.i 0]))):PCall Tryz.prog 8 [.sl 1 (xs.map ze1),.val (.int .u8 a),.val (.int .u8 b)] (.ret (.b true)):=by
 refine oD tok hmix ⟨[7],[]⟩ Tryz.func8 rfl (by kernel_rfl) (by kernel_rfl) (by kernel_rfl) λhf=>?_
 have hl_a:xs.length<=9223372036854775807:=by omega
 have hkn:k<n:=by rw[hk];exact Nat.mod_lt _ (by omega)
 clear hf
 repeat' ((try conv=>whnf)<;>first
  |exact Bool.noConfusion (show false=true from h)
  |exact(zgm hI0 hx hkn (by assumption) h).elim
  |exact(zgn hI0 hkn (by assumption) h).elim
  |exact trivial
  |exact ai hd0 ‹_›
  |refine bM hd0 ?_
  |refine aU hd0 ?_
  |refine BrI.intro (λh=>?_) (λh=>?_)
  |((refine ax.mk 7 ?_);refine⟨⟨Unit,λ_=>[(7,.data (.i n)),(8,.data (.i k))],λ_=>[],[0,6],λ_=>True,λ_=>0⟩,?_,λ_ _=>?_⟩)
  |refine Hl.l ?_
  |refine⟨(),trivial,?_⟩
  |exact congrArg (λv=>AV.data (D.i v)) (zgk ha hn)
  |exact congrArg (λv=>AV.data (D.i v)) (zie ha hb hn hk)
  |refine⟨ze1 (xs.getD (i0-1-k) 0),ze2 hl0 hl (by assumption),?_⟩
  |((refine ax.mk 0 ?_);refine⟨aJ (xs) 68 (λ(l:(List Int))=>[]) (λ(l:(List Int))=>[(12,.cells [.data (.sl 1 []),.data (.sl 1 [lC l])])]) [0,8,10,12,66,67] (λi0 r0 l=>DlI xs n i0 l),?_⟩;refine af (List.replicate n 0) ?_ ?_ (λi0 (l:(List Int)) hd0 hI0=>?_) (λi0 x0 r0 (l:(List Int)) hd0 hl0 hI0=>?_))
  |refine ag hd0 (x0::l.dropLast) ?_ ?_
  |((refine ah ?_ ?_ ?_);rotate_left;(first |exact hs |exact h0 |exact h1 |exact h2 i0 l x0 hI0 (hx x0 (bK hd0))))
  |refine aF.l _ ?_
  |((refine aH ?_ ?_ ?_ ?_ ?_);rfl;rfl;rotate_left;exact aG hd0)
  |(refine dm ?_;conv=>whnf)
  |refine And.intro ?_ ?_
  |exact @rfl AV _
  |fail)
 all_goals first
  |exact zic xs n
  |exact z9p hI0 (by omega) hd0 (hx x0 (bK hd0))
  |decide
  |(rw[zgk ha hn];omega)
theorem XR(xs:List Int)(a b:Int)(ha:0<=a/\a<=255)(hb:0<=b/\b<=255)(hx:zfn xs)(hl:xs.length<=1073741824):PCall Tryz.prog 8 [.sl 1 (xs.map ze1),.val (.int .u8 a),.val (.int .u8 b)] (.ret (.b true)):=by
 obtain⟨n,hn⟩:∃n,n=1+a.toNat % 30:=⟨_,rfl⟩
 obtain⟨k,hk⟩:∃k,k=b.toNat % n:=⟨_,rfl⟩
 have h1:1<=n:=by omega
 have h2:n<=30:=by omega
 have h3:k<n:=by rw[hk];exact Nat.mod_lt _ h1
 have g:=z9r n k
 have c0:=gB (dlP n k) g.sm g.hn
 rw[(z9o h1 h2 h3).1]at c0
 have c1:=xQ (dlP n k) g
 rw[z0c h1 h2 h3]at c1
 refine z09 xs a b n k Tq ha hb hn hk hx hl c0 c1 λi l x hI hs=>?_
 have c2:=wo (dlP n k) (dlF x l) g ⟨by show 0<=_;omega,by show 1<=_;omega,by show 1<=_;omega⟩ ⟨by show 0<=_;omega,by show 1<=_;omega,λm hm=>by
  obtain rfl:m=l:=by simpa using hm
  have:=hI.len;omega⟩
 rw[z9q h1 h2 h3 hI hs]at c2
 rw[zhx hs]
 exact c2
end Go.Proofs.YtgehpmgkaeohaaaGreatDoor
