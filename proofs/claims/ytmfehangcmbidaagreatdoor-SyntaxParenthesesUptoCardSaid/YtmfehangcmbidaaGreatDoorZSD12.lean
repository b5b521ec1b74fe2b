/- The law SyntaxParentheses: its loops over the tokens. -/
import Derived.Test.YtmfehangcmbidaaGreatDoorZSD11
import Derived.Test.YtmfehangcmbidaaGreatDoorZSP21
set_option linter.unusedSectionVars false
set_option linter.unusedSimpArgs false
set_option linter.unusedVariables false
namespace Go.Fw.Sy
open Go.Fw Go.Fw.Lx
variable [ae]
abbrev tkA(l:List Tk)(i:Nat):Tk:=Sy.hd (l.drop i)
def sk(l:List Tk)(i:Nat):Nat:=kN (tkA l i)
def nsm(t:Tk):Bool:=!(t.kind==3&&t.text==bP)
def exl(l:List Tk)(i:Nat):List Tk:=(l.drop (i+sk l i)).takeWhile nsm
def en(l:List Tk)(i:Nat):Nat:=i+sk l i+(exl l i).length
def nn(ts:Str)(k:Nat):Nat:=if k<ts.length then(ts.getD k 0).toNat % 4 else 0
theorem VL(ts:Str)(k:Nat):nn ts k<=3:=by unfold nn;split<;>omega
theorem xI{l:List Tk}{i:Nat}(h:i<l.length):l.drop i=tkA l i::l.drop (i+1):=by
 have e:=List.drop_eq_getElem_cons h
 unfold tkA;rw[e];rfl
theorem z4b{b0:Bool}{a b i:Nat}{l:List Tk}{q:List D->Prop}(h1:b0=true)(h2:a=b)(h3:i<l.length)(h:q (tkA l i).cs) :
  (b0=true/\a=b)/\∃c,(0<=(i:Int)/\(l.map Tk.cs)[(i:Int).toNat]? = some c)/\q c:=
 ⟨⟨h1,h2⟩,_,dF (xI h3),h⟩
theorem jU{l:List Tk}{i:Nat}(h:decide ((i:Int)<((l.map Tk.cs).length:Int))=true):i<l.length:=by
 have:=of_decide_eq_true h;rw[List.length_map]at this;omega
theorem Wf.tok_of{t:Tk}{c:List Tk}(h:Wf (t::c))(ht:kN t=0):Wf c:=by
 cases h with
 |tok h r=>exact r
 |st ht' he hs r=>omega
theorem Wf.st_of{t:Tk}{x:List Tk}(h:Wf (t::x))(ht:kN t≠0):∃mid e s c,x=mid++(e++s::c)/\kN t=mid.length+1/\Qs e/\KE s/\Wf (s::c):=by
 generalize hX:t::x=y at h
 cases h with
 |nil=>cases hX
 |tok h r=>injection hX with h1 h2;subst h1;exact absurd h ht
 |st ht' he hs r=>injection hX with h1 h2;subst h1;exact⟨_,_,_,_,h2,ht',he,hs,r⟩
theorem BD:∀{e:List Tk} {s:Tk} {c:List Tk},Qs e->KE s->(e++s::c).takeWhile nsm=e
 | [],s,c,_,hs=>by
  rw[List.nil_append,List.takeWhile_cons]
  have:nsm s=false:=by unfold nsm;unfold KE at hs;rw[hs];rfl
  rw[this];rfl
 |t::e,s,c,he,hs=>by
  have h1:nsm t=true:=by have:=he t (by simp);unfold Qt at this;unfold nsm;rw[this];rfl
  rw[List.cons_append,List.takeWhile_cons,h1,if_pos rfl,BD (λx hx=>he x (by simp[hx])) hs]
structure StA(l:List Tk)(i:Nat)(s:Tk)(c:List Tk):Prop where
 d:l.drop i=tkA l i::((l.drop (i+1)).take (sk l i-1)++(exl l i++s::c))
 m:sk l i=((l.drop (i+1)).take (sk l i-1)).length+1
 q:Qs (exl l i)
 sm:KE s
 w:Wf (s::c)
 x:l.drop (i+sk l i)=exl l i++s::c
 e:l.drop (en l i)=s::c
 n:en l i<l.length
theorem st_of{l:List Tk}{i:Nat}(hi:i<l.length)(hw:Wf (l.drop i))(hs:sk l i≠0):∃s c,StA l i s c:=by
 have hd:=xI hi
 rw[hd]at hw
 obtain⟨mid,e,s,c,h1,h2,h3,h4,h5⟩:=hw.st_of hs
 have hk:sk l i=mid.length+1:=h2
 have hx:l.drop (i+sk l i)=e++s::c:=by
  rw[hk,show i+(mid.length+1)=(i+1)+mid.length by omega,<-List.drop_drop,h1,List.drop_left]
 have he:exl l i=e:=by unfold exl;rw[hx,BD h3 h4]
 have hm:(l.drop (i+1)).take (sk l i-1)=mid:=by rw[hk,h1];simp
 have hn:l.drop (en l i)=s::c:=by unfold en;rw[he,<-List.drop_drop,hx,List.drop_left]
 refine⟨s,c,?_,?_,by rw[he];exact h3,h4,h5,by rw[he];exact hx,hn,?_⟩
 ·rw[hm,he,hd,h1]
 ·rw[hm];exact hk
 ·have:=congrArg List.length hn
  rw[List.length_drop,List.length_cons]at this;omega
structure PaI(l:List Tk)(i k:Nat)(out:List Tk):Prop where
 w:Wf (l.drop i)
 p:∀c',Par (l.drop i) c'->Par l (out++c')
 le:i<=l.length
 kl:k<=i
 sz:tsz out+tsz (l.drop i)<=tsz l+12 * k
 v:Val out
theorem VM{l:List Tk}(hw:Wf l):PaI l 0 0 []:=⟨hw,λc' h=>h,Nat.zero_le _,Nat.le_refl _,by simp[tsz],λt h=>by simp at h⟩
theorem z4c{l:List Tk}{i:Nat}(hv:Val l)(hi:i<l.length):valid (tkA l i)=true:=by
 have h:tkA l i∈l.drop i:=by rw[xI hi];simp
 exact hv _ (List.mem_of_mem_drop h)
theorem z4d{l out:List Tk}{i k:Nat}(h:PaI l i k out)(hv:Val l)(hi:i<l.length)(hs:sk l i=0):PaI l (i+1) k (out++[tkA l i]):=by
 have hd:=xI hi
 obtain⟨w,p,le,hk,sz,v⟩:=h
 rw[hd]at w p sz
 refine⟨w.tok_of hs,λc' hc=>?_,hi,by omega,?_,v.and (.cons (z4c hv hi) .nil)⟩
 ·have:=p (tkA l i::c') (.tok hs hc)
  simpa using this
 ·rw[pK]at sz;rw[Iy,pK,SI];omega
theorem ZG(n:Nat)(e:List Tk):tsz (par n e)=tsz e+4 * n:=by
 induction n with
 |zero=>simp[par]
 |succ n ih=>rw[Zu,pK,Iy,pK,SI,z7r,z7r,ih];simp only[List.length_cons,List.length_nil];omega
theorem ZH{n:Nat}{e:List Tk}(h:Val e):Val (par n e):=by
 induction n with
 |zero=>simpa[par]using h
 |succ n ih=>rw[Zu];exact .cons rfl (ih.and (.cons rfl .nil))
theorem z6m{l out:List Tk}{i k n:Nat}(h:PaI l i k out)(hv:Val l)(hi:i<l.length)(hs:sk l i≠0)(hn:cnt (exl l i)+n<=60)(h3:n<=3):PaI l (en l i) (k+1) (out++(tkA l i::((l.drop (i+1)).take (sk l i-1)++par n (exl l i)))):=by
 obtain⟨w,p,le,hk,sz,v⟩:=h
 obtain⟨s,c,S⟩:=st_of hi w hs
 rw[S.d]at p sz
 have hvd:Val (tkA l i::((l.drop (i+1)).take (sk l i-1)++(exl l i++s::c))):=by rw[<-S.d];exact λt ht=>hv t (List.mem_of_mem_drop ht)
 refine⟨by rw[S.e];exact S.w,λc' hc=>?_,Nat.le_of_lt S.n,?_,?_,?_⟩
 ·rw[S.e]at hc
  have:=p _ (.st (n:=n) S.m S.q S.sm hn hc)
  simpa using this
 ·have:1<=sk l i:=by omega
  unfold en;omega
 ·rw[S.e]
  simp only[Iy,pK,ZG]at sz ⊢
  omega
 ·refine v.and (.cons (hvd _ (by simp)) (Val.and (λt ht=>hvd t (by simp[ht])) (ZH λt ht=>hvd t (by simp[ht]))))
def nxI(l:List Tk)(i:Nat):Nat:=if sk l i=0 then i+1 else en l i
def nxK(l:List Tk)(i k:Nat):Nat:=if sk l i=0 then k else k+1
def nxO(l:List Tk)(ts:Str)(i k:Nat)(out:List Tk):List Tk:=if sk l i=0 then out++[tkA l i]else out++(tkA l i::((l.drop (i+1)).take (sk l i-1)++par (nn ts k) (exl l i)))
theorem VN{l out:List Tk}{ts:Str}{i k:Nat}(h:PaI l i k out)(hv:Val l)(hi:i<l.length)(hs:sk l i=0):PaI l (nxI l i) (nxK l i k) (nxO l ts i k out):=by
 unfold nxI nxK nxO;rw[if_pos hs,if_pos hs,if_pos hs];exact z4d h hv hi hs
theorem VO{l out:List Tk}{ts:Str}{i k:Nat}(h:PaI l i k out)(hv:Val l)(hi:i<l.length)(hs:sk l i≠0)(hn:cnt (exl l i)+nn ts k<=60):PaI l (nxI l i) (nxK l i k) (nxO l ts i k out):=by
 unfold nxI nxK nxO;rw[if_neg hs,if_neg hs,if_neg hs];exact z6m h hv hi hs hn (VL ts k)
theorem z6n{l:List Tk}{i:Nat}(hi:i<l.length):l.length-nxI l i<l.length-i:=by
 have:i<nxI l i:=by
  unfold nxI;split
  ·omega
  ·unfold en;omega
 omega
structure InJ(l:List Tk)(i j d:Nat):Prop where
 z:sk l i≠0
 lo:i+sk l i<=j
 hi:j<=en l i
 dc:d=cnt ((exl l i).take (j-(i+sk l i)))
 n:en l i<l.length
variable {l : List Tk} {i : Nat} {j : Nat}
theorem VP{l out:List Tk}{i k:Nat}(h:PaI l i k out)(hi:i<l.length)(hs':sk l i≠0/\sk l i=skipS (tkA l i).text):InJ l i (i+sk l i) 0:=by
 have hs:=hs'.1
 obtain⟨s,c,S⟩:=st_of hi h.w hs
 exact⟨hs,Nat.le_refl _,by unfold en;omega,by simp[cnt],S.n⟩
abbrev inC(l:List Tk)(j:Nat):Bool:=bif decide ((j:Int)<((l.map Tk.cs).length:Int))then(bif (tkA l j).kind != 3 then true else(tkA l j).text != [59])else false
theorem zB(h:inC l j=true):j<l.length/\nsm (tkA l j)=true:=by
 unfold inC at h
 cases h1:decide ((j:Int)<((l.map Tk.cs).length:Int))with
 |false=>rw[h1]at h;cases h
 |true=>
  rw[h1,cond_true]at h
  refine⟨jU h1,?_⟩
  unfold nsm
  cases h2:(tkA l j).kind != 3 with
  |true=>
   have:((tkA l j).kind==3)=false:=by simpa[bne]using h2
   rw[this];rfl
  |false=>
   rw[h2,cond_false]at h
   have:((tkA l j).text==bP)=false:=by simpa[bne]using h
   rw[this,Bool.and_false];rfl
theorem z4e(h:inC l j=false)(hj:j<l.length):nsm (tkA l j)=false:=by
 unfold inC at h
 rw[show decide ((j:Int)<((l.map Tk.cs).length:Int))=true from decide_eq_true (by rw[List.length_map];omega),cond_true]at h
 unfold nsm
 cases h2:(tkA l j).kind != 3 with
 |true=>rw[h2]at h;cases h
 |false=>
  rw[h2,cond_false]at h
  have h3:((tkA l j).kind==3)=true:=by simpa[bne]using h2
  have h4:((tkA l j).text==bP)=true:=by simpa[bne]using h
  rw[h3,h4];rfl
theorem ZI{l out:List Tk}{i j d k:Nat}(h:InJ l i j d)(hP:PaI l i k out)(hi:i<l.length):(j<en l i->nsm (tkA l j)=true/\(exl l i).drop (j-(i+sk l i))=tkA l j::(exl l i).drop (j+1-(i+sk l i)))/\(j=en l i->nsm (tkA l j)=false):=by
 obtain⟨s,c,S⟩:=st_of hi hP.w h.z
 have lo:=h.lo
 have hj:l.drop j=((l.drop (i+sk l i)).drop (j-(i+sk l i))):=by rw[List.drop_drop,show i+sk l i+(j-(i+sk l i))=j by omega]
 refine⟨λhlt=>?_,λhe=>?_⟩
 ·have hl:j-(i+sk l i)<(exl l i).length:=by unfold en at hlt;omega
  rw[S.x,List.drop_append_of_le_length (by omega)]at hj
  have hd:=List.drop_eq_getElem_cons hl
  have ht:tkA l j=(exl l i)[j-(i+sk l i)]:=by
   unfold tkA;rw[hj,hd];rfl
  refine⟨?_,?_⟩
  ·have:=S.q _ (List.getElem_mem hl)
   rw[<-ht]at this
   unfold Qt at this;unfold nsm;rw[this];rfl
  ·rw[hd,ht,show j+1-(i+sk l i)=j-(i+sk l i)+1 by omega]
 ·have:tkA l j=s:=by unfold tkA;rw[he,S.e];rfl
  rw[this]
  have:=S.sm
  unfold KE at this;unfold nsm;rw[this];rfl
theorem in_lt{l out:List Tk}{i j d k:Nat}(h:InJ l i j d)(hP:PaI l i k out)(hi:i<l.length)(hc:inC l j=true):j<en l i:=by
 have:=(zB hc).2
 rcases Nat.lt_or_eq_of_le h.hi with h1 |h1
 ·exact h1
 ·rw[(ZI h hP hi).2 h1]at this;cases this
theorem ZJ{l out:List Tk}{i j d k:Nat}(h:InJ l i j d)(hP:PaI l i k out)(hi:i<l.length)(hc:inC l j=true):InJ l i (j+1) (d+cw (tkA l j)):=by
 have hlt:=in_lt h hP hi hc
 have hd:=((ZI h hP hi).1 hlt).2
 obtain⟨s,lo,hi',e,n⟩:=h
 refine⟨s,by omega,hlt,?_,n⟩
 rw[e,show j+1-(i+sk l i)=(j-(i+sk l i))+1 by omega,List.take_add,hd,jF]
 simp[cnt]
theorem z4f{l out:List Tk}{i j d k:Nat}(h:InJ l i j d)(hP:PaI l i k out)(hi:i<l.length)(hc:inC l j=false):j=en l i/\d=cnt (exl l i):=by
 have hj:j=en l i:=by
  rcases Nat.lt_or_eq_of_le h.hi with h1 |h1
  ·have:=z4e hc (Nat.lt_trans h1 h.n)
   rw[((ZI h hP hi).1 h1).1]at this;cases this
  ·exact h1
 refine⟨hj,?_⟩
 rw[h.dc,hj,show en l i-(i+sk l i)=(exl l i).length by unfold en;omega,List.take_length]
theorem z6o{l out:List Tk}{i j d k:Nat}(h:InJ l i j d)(hP:PaI l i k out)(hi:i<l.length)(hc:inC l j=true):l.length-(j+1)<l.length-j:=by
 have:=(zB hc).1;omega
theorem VQ{t:Str}{M:List (D×D)}{F:D->Prop}{G:Prop}(hM:M = [(.str Qm,.i 1),(.str Qk,.i 3),(.str Ql,.i 3),(.str yY,.i 3)])(hz:F (.i 0)->G)(h:F (.i (skipS t:Nat))):DJ (BL (.str t) M) F G:=by
 subst hM
 simp only[BL,fE,sameS]
 unfold skipS at h
 cases h1:t==Qm with
 |true=>rw[h1]at h;exact h
 |false=>
  rw[h1]at h
  cases h2:t==Qk with
  |true=>rw[h2]at h;exact h
  |false=>
   rw[h2]at h
   cases h3:t==Ql with
   |true=>rw[h3]at h;exact h
   |false=>
    rw[h3]at h
    cases h4:t==yY with
    |true=>rw[h4]at h;exact h
    |false=>rw[h4]at h;exact hz h
theorem z8h{b:Bool}(h:(lX (decide ((j:Int)<((l.map Tk.cs).length:Int))) true&&b)=true):j<l.length:=by
 simp only[Bool.and_eq_true]at h
 exact jU (by simpa[lX]using h.1)
theorem KI(h:(bif (tkA l i).kind != 1 then true else((skipS (tkA l i).text:Nat):Int)==0)=true):sk l i=0:=by
 unfold sk kN
 cases h1:(tkA l i).kind != 1 with
 |true=>
  have:((tkA l i).kind==1)=false:=by simpa[bne]using h1
  rw[this];rfl
 |false=>
  rw[h1,cond_false,beq_iff_eq]at h
  split
  ·omega
  ·rfl
theorem wS(h:(bif (tkA l i).kind != 1 then true else((skipS (tkA l i).text:Nat):Int)==0)=false):sk l i≠0/\sk l i=skipS (tkA l i).text:=by
 unfold sk kN
 cases h1:(tkA l i).kind != 1 with
 |true=>rw[h1]at h;cases h
 |false=>
  have h2:((tkA l i).kind==1)=true:=by simpa[bne]using h1
  rw[h1,cond_false]at h
  have h3:((skipS (tkA l i).text:Nat):Int)≠0:=by simpa using h
  rw[h2,if_pos rfl]
  exact⟨by omega,rfl⟩
theorem z4g{l out:List Tk}{i k:Nat}(h:PaI l i k out)(hz:tsz l<=4000)(hl:l.length<=1000):(out.map Tk.cs).length<=1073741824:=by
 have:=h.sz;have:=h.kl;have:=h.le;have:=Iz out
 rw[List.length_map];omega
theorem ZK{l out:List Tk}{i k:Nat}(h:PaI l i k out)(hz:tsz l<=4000)(hl:l.length<=1000):out.length<=20000:=by
 have:=h.sz;have:=h.kl;have:=h.le;have:=Iz out
 omega
theorem KJ(sz:Nat):∀(n:Nat) (ds:List D),(chunks sz n ds).length=n
 | 0,_=>rfl
 |n+1,ds=>by rw[chunks,List.length_cons,KJ sz n]
theorem z6p{l out:List Tk}{ts:Str}{i k:Nat}{e:List D}(hs:sk l i=0)(he:e=(tkA l i).cs):out.map Tk.cs++[e]=(nxO l ts i k out).map Tk.cs:=by
 unfold nxO;rw[if_pos hs,he,List.map_append];rfl
theorem z6q(hs:sk l i=0)(hi:i<l.length)(hl:l.length<=1000):IntKind.i64.wrap ((i:Int)+1)=((nxI l i:Nat):Int):=by
 unfold nxI;rw[if_pos hs,dX (by omega) (by omega)];rfl
theorem z6r{i k:Nat}(hs:sk l i=0):(k:Int)=((nxK l i k:Nat):Int):=by
 unfold nxK;rw[if_pos hs]
theorem VR(s:Str):skipS s<=3:=by unfold skipS;(repeat' split)<;>omega
theorem NM(hs:sk l i≠0/\sk l i=skipS (tkA l i).text)(hi:i<l.length)(hl:l.length<=1000):IntKind.i64.wrap ((i:Int)+((skipS (tkA l i).text:Nat):Int))=((i+sk l i:Nat):Int):=by
 have:=VR (tkA l i).text
 rw[hs.2,dX (by omega) (by omega)];rfl
theorem z4h(i:Nat):(exl l i).length<=l.length:=by
 unfold exl
 have h1:=(List.takeWhile_sublist nsm (l:=l.drop (i+sk l i))).length_le
 have h2:=List.length_drop (i:=i+sk l i) (l:=l)
 omega
theorem z6s(t:Tk):cw t<=1:=by unfold cw;split<;>omega
theorem cnt_le(c:List Tk):cnt c<=c.length:=by
 induction c with
 |nil=>exact Nat.le_refl _
 |cons t c ih=>rw[eH,List.length_cons];have:=z6s t;omega
theorem z4i{i j d:Nat}(h:InJ l i j d)(hl:l.length<=1000):d<=1000:=by
 rw[h.dc]
 have h1:=cnt_le ((exl l i).take (j-(i+sk l i)))
 have h2:=z4h (l:=l) i
 rw[List.length_take]at h1
 omega
theorem z6t{i j d:Nat}(hI:InJ l i j d)(hl:l.length<=1000)(h:(bif (tkA l j).text==[40]then true else(tkA l j).text==[45])=true):IntKind.i64.wrap ((d:Int)+1)=((d+cw (tkA l j):Nat):Int):=by
 have:=z4i hI hl
 have e:cw (tkA l j)=1:=by
  unfold cw
  rw[if_pos]
  cases h1:(tkA l j).text==sPar with
  |true=>rfl
  |false=>rw[show((tkA l j).text==[40])=false from h1]at h;exact h
 rw[e,dX (by omega) (by omega)];rfl
theorem z6u{j d:Nat}(h:(bif (tkA l j).text==[40]then true else(tkA l j).text==[45])=false):(d:Int)=((d+cw (tkA l j):Nat):Int):=by
 have e:cw (tkA l j)=0:=by
  unfold cw
  rw[if_neg]
  cases h1:(tkA l j).text==sPar with
  |true=>rw[show((tkA l j).text==[40])=true from h1]at h;cases h
  |false=>
   rw[show((tkA l j).text==[40])=false from h1,cond_false]at h
   rw[show((tkA l j).text==dh)=false from h];decide
 rw[e];rfl
theorem z4j(h:decide ((i:Int)<((l.map Tk.cs).length:Int))=false):¬i<l.length:=by
 have:=of_decide_eq_false h;rw[List.length_map]at this;omega
theorem z8i(h:j<l.length)(hl:l.length<=1000):IntKind.i64.wrap ((j:Int)+1)=((j+1:Nat):Int):=by
 rw[dX (by omega) (by omega)];rfl
section
variable {l out : List Tk} {i k : Nat}
theorem VS(h:PaI l i k out)(hi:i<l.length)(hs:sk l i≠0/\sk l i=skipS (tkA l i).text):en l i<l.length:=by
 obtain⟨s,c,S⟩:=st_of hi h.w hs.1
 exact S.n
theorem z6v(h:PaI l i k out)(hi:i<l.length)(hs:sk l i≠0/\sk l i=skipS (tkA l i).text)(hc:decide (((en l i:Nat):Int)>=((l.map Tk.cs).length:Int))=true):False:=by
 have:=VS h hi hs
 have:=of_decide_eq_true hc
 rw[List.length_map]at this;omega
theorem ZL(hi:i<l.length)(hl:l.length<=1000):IntKind.i64.wrap ((i:Int)+1)=((i+1:Nat):Int):=by rw[dX (by omega) (by omega)];rfl
theorem z8j(hi:i<l.length)(hl:l.length<=1000):0<=IntKind.i64.wrap ((i:Int)+1):=by rw[ZL hi hl];omega
theorem z8k(hs:sk l i≠0/\sk l i=skipS (tkA l i).text)(hi:i<l.length)(hl:l.length<=1000):IntKind.i64.wrap ((i:Int)+1)<=IntKind.i64.wrap ((i:Int)+((skipS (tkA l i).text:Nat):Int)):=by
 rw[ZL hi hl,NM hs hi hl];have:=hs.1;omega
theorem z8l(h:PaI l i k out)(hs:sk l i≠0/\sk l i=skipS (tkA l i).text)(hi:i<l.length)(hl:l.length<=1000):IntKind.i64.wrap ((i:Int)+((skipS (tkA l i).text:Nat):Int))<=((l.map Tk.cs).length:Int):=by
 have:=VS h hi hs
 rw[NM hs hi hl,List.length_map];unfold en at this;omega
theorem z8m(hs:sk l i≠0/\sk l i=skipS (tkA l i).text)(hi:i<l.length)(hl:l.length<=1000):0<=IntKind.i64.wrap ((i:Int)+((skipS (tkA l i).text:Nat):Int)):=by
 rw[NM hs hi hl];omega
theorem z8n(hs:sk l i≠0/\sk l i=skipS (tkA l i).text)(hi:i<l.length)(hl:l.length<=1000):IntKind.i64.wrap ((i:Int)+((skipS (tkA l i).text:Nat):Int))<=((en l i:Nat):Int):=by
 rw[NM hs hi hl];unfold en;omega
theorem z8o(h:PaI l i k out)(hs:sk l i≠0/\sk l i=skipS (tkA l i).text)(hi:i<l.length):((en l i:Nat):Int)<=((l.map Tk.cs).length:Int):=by
 have:=VS h hi hs
 rw[List.length_map];omega
theorem WX{a b:Option Int}(hl:l.length<=1000):(cut a b (l.map Tk.cs)).length<=1000:=by
 have h1:(l.map Tk.cs).length<=1000:=by rw[List.length_map];exact hl
 unfold cut
 cases a<;>cases b<;>simp only[List.length_drop,List.length_take]<;>omega
theorem WY{ts:Str}{k:Nat}(h:decide ((k:Int)<((ts.map λc=>[D.u8 c]).length:Int))=true):(IntKind.i64.wrap ((ts.getD k 0).toNat:Int)).tmod 4=((nn ts k:Nat):Int):=by
 have:=of_decide_eq_true h
 rw[List.length_map]at this
 have hc:(ts.getD k 0).toNat<256:=(ts.getD k 0).toNat_lt
 unfold nn
 rw[if_pos (by omega),dX (by omega) (by omega),Int.tmod_eq_emod_of_nonneg (by omega)];rfl
theorem z4k{ts:Str}{k:Nat}(h:decide ((k:Int)<((ts.map λc=>[D.u8 c]).length:Int))=false):(0:Int)=((nn ts k:Nat):Int):=by
 have:=of_decide_eq_false h
 rw[List.length_map]at this
 unfold nn
 rw[if_neg (by omega)];rfl
theorem z8p{ts:Str}{w:Int}(hl:l.length<=1000)(hw:w=((nn ts k:Nat):Int))(h:decide (IntKind.i64.wrap (((cnt (exl l i):Nat):Int)+w)>60)=false):cnt (exl l i)+nn ts k<=60:=by
 have h1:=of_decide_eq_false h
 have h2:=cnt_le (exl l i)
 have h3:=z4h (l:=l) i
 have h4:=VL ts k
 rw[hw,dX (by omega) (by omega)]at h1
 omega
theorem z6w(h:PaI l i k out)(hs:sk l i≠0/\sk l i=skipS (tkA l i).text)(hi:i<l.length)(hl:l.length<=1000):IntKind.i64.wrap (IntKind.i64.wrap (((en l i:Nat):Int)-1)+1)=((nxI l i:Nat):Int):=by
 have:=VS h hi hs
 unfold nxI
 rw[if_neg hs.1,dX (n:=((en l i:Nat):Int)-1) (by omega) (by omega),dX (by omega) (by omega)]
 omega
theorem z6x(h:PaI l i k out)(hs:sk l i≠0/\sk l i=skipS (tkA l i).text)(hi:i<l.length)(hl:l.length<=1000):IntKind.i64.wrap ((k:Int)+1)=((nxK l i k:Nat):Int):=by
 have:=h.kl
 unfold nxK
 rw[if_neg hs.1,dX (by omega) (by omega)]
 omega
theorem z6y{ts:Str}{e:List D}{a b:Int}(h:PaI l i k out)(hs:sk l i≠0/\sk l i=skipS (tkA l i).text)(hi:i<l.length)(hl:l.length<=1000)(he:e=(tkA l i).cs)(ha:a=IntKind.i64.wrap ((i:Int)+1))(hb:b=IntKind.i64.wrap ((i:Int)+((skipS (tkA l i).text:Nat):Int))) :
  ((((out.map Tk.cs++[e])++cut (some a) (some b) (l.map Tk.cs))++(List.replicate (nn ts k) (sg sPar)).map Tk.cs)++cut (some b) (some ((en l i:Nat):Int)) (l.map Tk.cs))++(List.replicate (nn ts k) (sg sKet)).map Tk.cs=(nxO l ts i k out).map Tk.cs:=by
 obtain⟨s,c,S⟩:=st_of hi h.w hs.1
 rw[ha,hb,ZL hi hl,NM hs hi hl]
 have e1:cut (some ((i+1:Nat):Int)) (some ((i+sk l i:Nat):Int)) (l.map Tk.cs)=((l.drop (i+1)).take (sk l i-1)).map Tk.cs:=by
  show((l.map Tk.cs).take (i+sk l i)).drop (i+1)=_
  have:=hs.1
  rw[List.map_take,List.map_drop,List.drop_take]
  congr 1;omega
 have e2:cut (some ((i+sk l i:Nat):Int)) (some ((en l i:Nat):Int)) (l.map Tk.cs)=(exl l i).map Tk.cs:=by
  show((l.map Tk.cs).take (en l i)).drop (i+sk l i)=_
  have hX:((l.drop (i+sk l i)).take (exl l i).length)=exl l i:=by rw[S.x,List.take_left]
  rw[List.drop_take,<-List.map_drop,<-List.map_take,show en l i-(i+sk l i)=(exl l i).length by unfold en;omega,hX]
 rw[e1,e2,he]
 unfold nxO
 rw[if_neg hs.1]
 unfold par
 simp only[List.map_append,List.map_cons,List.append_assoc,List.cons_append,List.nil_append]
end
theorem z6z{v:AV}{k:AV->Prop}(h:k v):fc v k:=by rw[rq];exact h
theorem int_eq{a b:Int}(h:a=b):AV.data (D.val (.int .i64 a))=AV.data (D.val (.int .i64 b)):=by rw[h]
def z4l(src:Str)(l:List Tk)(e f:Int):Bool:=bif bif bif decide ((src.length:Int)>2000)then true else e != 0 then true else f != 0 then true else decide (((l.map Tk.cs).length:Int)>1000)
end Go.Fw.Sy
