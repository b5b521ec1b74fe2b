/- A part of the proof. -/
import Derived.Lib.Join
import Derived.Test.YtgehpmgkaeohaaaGreatDoorZLL
import Derived.Test.YtgehpmgkaeohaaaGreatDoorZE
set_option linter.all false
namespace Go.Fw.Lx
variable [ae]
structure Tk where
 kind:Int
 text:Str
 n:Int
 pos:Int
abbrev Tk.cs(t:Tk):List D:=[.i t.kind,.str t.text,.i t.n,.i t.pos]
abbrev Tk.d(t:Tk):D:=.agg [.i t.kind,.str t.text,.i t.n,.i t.pos]
abbrev iC(n:Int):List D:=[.i n]
abbrev toks(l:List Tk):D:=.sl 4 (l.map Tk.cs)
def signs:Str:=[123,125,40,41,59,44,61,58,46,60,62,33,43,45,42,47]
def cls(c:UInt8):Int:=
 if Ref03.letter c then 2 else if Ref03.figure c then 3 else if(c.toNat:Int)==95 then 5
 else if((c.toNat:Int)==32 || (c.toNat:Int)==9 || (c.toNat:Int)==10 || (c.toNat:Int)==13)then 1
 else if decide (Lib.indexByte signs c>=0)then 4 else 0
def Bo(c:UInt8):Bool:=!(cls c != 2&&cls c != 3&&cls c != 5)
def ui(s:Str):Bool:=!((s==[] || decide ((s.length:Int)>32)) || cls (s.getD 0 0) != 2)&&s.all Bo
def valid(t:Tk):Bool:=
 if t.kind==1 then ui t.text&&t.n==0
 else if t.kind==2 then(t.text==[]&&decide (t.n>=0))&&decide (t.n<=1099511627776)
 else if t.kind==3 then((t.text.length:Int)==1&&cls (t.text.getD 0 0)==4)&&t.n==0 else false
def idxFrom(v:Int):List Int->Int->Int
 | [],_=>-1
 |x::r,i=>if v==x then i else idxFrom v r (i+1)
def has(l:List Int)(v:Int):Bool:=decide (idxFrom v l 0>=0)
def run(ks:List Int)(s:Str)(a:Nat):Str:=(s.drop a).takeWhile λc=>has ks (cls c)
def at'(t:Tk)(a:Nat):Tk:={ t with pos:=a }
theorem z5b{l:List UInt8}{n:Nat}{q:UInt8->Prop}(h:n<l.length)(h4:q (l.getD n 0)):∃c,(0<=(n:Int)/\l[(n:Int).toNat]? = some c)/\q c:=
 ⟨_,⟨by omega,by simp_all⟩,h4⟩
theorem z5c{p:Prop}[Decidable p]{b:Bool}(h:(bif decide p then b else false)=true):p/\b=true:=by
 simp_all
theorem zfo{p:Prop}[Decidable p]{b:Bool}(h:(bif decide p then b else false)=false):¬p\/(p/\b=false):=by
 grind
theorem zfp{a b:Nat}(h:mV (decide ((a:Int)<(b:Int))) true=true):a<b:=by grind[mV]
theorem zfq{s:Str}{a n:Nat}:cut (some (a:Int)) (some (n:Int)) s=(s.take n).drop a:=rfl
theorem jD{s:Str}{v:Int}(h:Lib.atoiAll s = .ok v):-9223372036854775808<=v/\v<=9223372036854775807:=by
 cases s with
 |nil=>cases h
 |cons c r=>
  grind[Lib.atoiAll]
theorem G8{x y:Operand}{q:Prop}(h1:(isConst x || isConst y)=true)(h2:q):(isConst x || isConst y)=true/\q:=⟨h1,h2⟩
theorem z0w{k:Bool}{n:Int}{m:Nat}{q:Prop}(h:k=true/\(0<=n/\n<(m:Int))/\q):k=true/\(0<=n/\n<(m:Int))/\q:=h
inductive St where
 |skip (k:Nat) |tok (k:Nat) (t:Tk) |bad
variable {st : Str → St}
def tw(ks:List Int)(s:Str):Str:=s.takeWhile λc=>has ks (cls c)
def cmt(s:Str):Nat:=if 0<=Lib.indexByte s 10 then(Lib.indexByte s 10).toNat else s.length
def G9(t:Str):St:=match Lib.atoiAll t with
 | .ok v=>if Lib.itoa v==t then(if valid ⟨2,[],v,0⟩then .tok t.length ⟨2,[],v,0⟩else .bad)else .bad
 |_=>.bad
def BZ(t:Str):St:=if valid ⟨1,t,0,0⟩then .tok t.length ⟨1,t,0,0⟩else .bad
def EZ(s:Str):St:=if Lib.hasPrefix s [47,47]then .skip (cmt s)else(if valid ⟨3,s.take 1,0,0⟩then .tok 1 ⟨3,s.take 1,0,0⟩else .bad)
def pStep(s:Str):St:=match cls (s.getD 0 0)with
 | 1=>.skip (tw [1] s).length
 | 2=>BZ (tw [2,3,5] s)
 | 3=>G9 (tw [3] s)
 | 4=>EZ s
 |_=>.bad
def lexG(st:Str->St):Nat->Str->Nat->Except Nat (List Tk)
 | 0,_,_=>.ok []
 |n+1,s,a=>match s with
  | []=>.ok []
  |c::r=>match st (c::r)with
   | .skip k=>lexG st n ((c::r).drop k) (a+k)
   | .tok k t=>(match lexG st n ((c::r).drop k) (a+k)with | .ok l=>.ok (at' t a::l) | .error e=>.error e)
   | .bad=>.error a
def lexR(st:Str->St)(s:Str)(a:Nat):Except Nat (List Tk):=lexG st s.length s a
def Pos(st:Str->St):Prop:=∀c r,(∀k,st (c::r) = .skip k->1<=k)/\∀k t,st (c::r) = .tok k t->1<=k
theorem wu(hp:Pos st):∀(n m:Nat) (s:Str) (a:Nat),s.length<=n->s.length<=m->lexG st n s a=lexG st m s a
 | 0,m,s,a,hn,hm=>by
  have:s = []:=List.length_eq_zero_iff.1 (by omega)
  subst this
  cases m<;>rfl
 |n+1,0,s,a,hn,hm=>by
  have:s = []:=List.length_eq_zero_iff.1 (by omega)
  subst this
  rfl
 |n+1,m+1,[],a,hn,hm=>rfl
 |n+1,m+1,c::r,a,hn,hm=>by
  simp[lexG]
  cases hs:st (c::r)with
  |skip k=>
   have:=(hp c r).1 k hs
   exact wu hp n m _ _ (by grind) (by grind)
  |tok k t=>
   have:=(hp c r).2 k t hs
   simp[wu hp n m ((c::r).drop k) (a+k) (by grind) (by grind)]
  |bad=>rfl
theorem z0x{a:Nat}:lexR st [] a = .ok []:=rfl
theorem Cb(hp:Pos st){s:Str}(hs:s ≠ [])(a:Nat):lexR st s a=match st s with
  | .skip k=>lexR st (s.drop k) (a+k)
  | .tok k t=>(match lexR st (s.drop k) (a+k)with | .ok l=>.ok (at' t a::l) | .error e=>.error e)
  | .bad=>.error a:=by
 cases s with
 |nil=>simp_all
 |cons c r=>
  simp only[lexR]
  show lexG st (r.length+1) (c::r) a=_
  simp only[lexG]
  cases hs:st (c::r)with
  |skip k=>
   have:=(hp c r).1 k hs
   exact wu hp _ _ _ _ (by simp_all) (Nat.le_refl _)
  |tok k t=>
   have:=(hp c r).2 k t hs
   simp[wu hp r.length ((c::r).drop k).length ((c::r).drop k) (a+k) (by simp_all) (Nat.le_refl _)]
  |bad=>rfl
def fin(ts:List Tk):Except Nat (List Tk)->Except Nat (List Tk)
 | .ok l=>.ok (ts++l)
 | .error e=>.error e
def XD:Except Nat (List Tk)->D
 | .ok l=>.tuple [toks l,.i 0,.i 0]
 | .error a=>.tuple [.sl 4 [],.i (a:Nat),.i 30]
theorem index_le{c:UInt8}:∀s:Str,Lib.indexByte s c<=(s.length:Int)
 | []=>by grind[Lib.indexByte]
 |x::r=>by
  have:=index_le (c:=c) r
  grind[Lib.indexByte]
theorem zac{src:Str}{a:Nat}(ha:a<=src.length)(hs:src.length<=1073741824)(h:decide (Lib.indexByte (src.drop a) 10>=0)=true):D.val (.int .i64 (IntKind.i64.wrap ((a:Int)+Lib.indexByte (src.drop a) 10)))=D.i ((a+cmt (src.drop a):Nat):Int):=by
 have h:=of_decide_eq_true h
 have h2:=index_le (c:=10) (src.drop a)
 rw[List.length_drop]at h2
 rw[bM (by omega) (by omega),cmt]
 grind
theorem zad{src:Str}{a:Nat}(ha:a<=src.length)(h:decide (Lib.indexByte (src.drop a) 10>=0)=false):D.val (.int .i64 (src.length:Int))=D.i ((a+cmt (src.drop a):Nat):Int):=by
 have h:=of_decide_eq_false h
 rw[cmt,if_neg h]
 simp_all
theorem S9{l h:Option Int}{n:Nat}{q:Prop}(hh:sV l h n/\q):sV l h n/\q:=hh
theorem zil{a:Nat}(h:a<=1073741824):IntKind.i64.wrap ((a:Int)+1)=((a+1:Nat):Int):=by
 grind[bM]
theorem zfr(k v:Int):has [k] v=(v==k):=by
 grind[has,idxFrom]
theorem zjq(x y z v:Int):has [x,y,z] v=(v==x || v==y || v==z):=by
 grind[has,idxFrom]
theorem XE(c:UInt8):cls c=0\/cls c=1\/cls c=2\/cls c=3\/cls c=4\/cls c=5:=by
 grind[cls]
theorem XF{c:UInt8}(h:cls c=3):48<=c.toNat/\c.toNat<=57:=by
 unfold cls at h
 split at h
 ·simp at h
 split at h
 ·rename_i hf
  simp[Ref03.figure]at hf
  omega
 omega
def Tc(t:Tk):Except Nat (List Tk)->Except Nat (List Tk)
 | .ok l=>.ok (t::l)
 | .error e=>.error e
theorem fin_cons(ts:List Tk)(t:Tk)(r:Except Nat (List Tk)):fin ts (Tc t r)=fin (ts++[t]) r:=by
 cases r<;>simp[fin,Tc]
theorem zae(r:Except Nat (List Tk)):fin [] r=r:=by cases r<;>rfl
theorem Ha{ks:List Int}{c:UInt8}{r:Str}(h:has ks (cls c)=true):1<=(tw ks (c::r)).length:=by
 simp only[tw,List.takeWhile_cons,h,if_true,List.length_cons];omega
theorem XG{s:Str}(h:Lib.hasPrefix s [47,47]=true):1<=cmt s:=by
 cases s with
 |nil=>simp[Lib.hasPrefix]at h
 |cons c r=>
  have hc:c=47:=by
   simp[Lib.hasPrefix]at h;exact h.1.symm
  have hi:Lib.indexByte (47::r) 10 = -1\/1<=Lib.indexByte (47::r) 10:=by
   have:=Lib.indexByte_ge r 10
   simp[Lib.indexByte]
   grind
  grind[cmt]
theorem zaf:Pos pStep:=by
 intro c r
 have e:(c::r).getD 0 0=c:=rfl
 constructor
 ·intro k hk
  unfold pStep at hk
  split at hk
  ·grind[Ha,zfr]
  ·grind[BZ]
  ·grind[G9]
  ·grind[EZ,XG]
  ·cases hk
 ·intro k t hk
  unfold pStep at hk
  split at hk<;>try(cases hk)
  ·grind[BZ,Ha,zjq]
  ·grind[G9,Ha,zfr]
  ·grind[EZ]
def zjr{α:Type}:Lib.NumEnd α->Bool
 | .ok _=>false
 | .range=>false
 |_=>true
theorem yK:∀(l:Str) (acc:Nat),(∀c∈l,cls c=3)->zjr (Lib.parseUint10 acc l)=false
 | [],acc,_=>by rfl
 |c::r,acc,h=>by
  have hc:=XF (h c (by simp))
  simp[Lib.parseUint10,hc]
  split<;>try rfl
  split
  ·rfl
  ·exact yK r _ (λx hx=>h x (List.mem_cons_of_mem _ hx))
theorem NG{t:Str}(hne:t ≠ [])(h:∀c∈t,cls c=3):zjr (Lib.atoiAll t)=false:=by
 cases t with
 |nil=>simp_all
 |cons c r=>
  have hc:=XF (h c (by simp))
  have h0:¬(c.toNat=43\/c.toNat=45):=by omega
  simp[Lib.atoiAll,if_neg h0,Lib.parseMag,if_neg (List.cons_ne_nil c r)]
  have hn:=yK (c::r) 0 h
  rcases hp:Lib.parseUint10 0 (c::r)with u |_ |_
  ·simp only
   split
   ·rfl
   ·split<;>rfl
  ·rw[hp]at hn;cases hn
  ·rfl
theorem z5d{p:UInt8->Bool}{c:UInt8}:∀{l:Str},c∈l.takeWhile p->p c=true
 |x::r,h=>by
  rw[List.takeWhile_cons]at h
  split at h
  ·rename_i hx
   rcases List.mem_cons.1 h with rfl |h
   ·exact hx
   ·exact z5d h
  ·simp at h
theorem Td{c:UInt8}(h:cls c=4):valid ⟨3,[c],0,0⟩=true:=by simp[valid,h]
theorem zfs{ks:List Int}{s:Str}{c:UInt8}(h:c∈tw ks s):has ks (cls c)=true:=by
 exact z5d (p:=λc=>has ks (cls c)) h
inductive At(src:Str)(a:Nat):Prop where
 |space (hc:cls (src.getD a 0)=1) (hk:1<=(Lx.run [1] src a).length) (e:lexR pStep (src.drop a) a=lexR pStep (src.drop (a+(Lx.run [1] src a).length)) (a+(Lx.run [1] src a).length))
 |name (hc:cls (src.getD a 0)=2) (hv:(!valid ⟨1,Lx.run [2,3,5] src a,0,0⟩)=false) (hk:1<=(Lx.run [2,3,5] src a).length) (e:lexR pStep (src.drop a) a=Tc (at' ⟨1,Lx.run [2,3,5] src a,0,0⟩ a) (lexR pStep (src.drop (a+(Lx.run [2,3,5] src a).length)) (a+(Lx.run [2,3,5] src a).length)))
 |name' (hc:cls (src.getD a 0)=2) (hv:(!valid ⟨1,Lx.run [2,3,5] src a,0,0⟩)=true) (e:lexR pStep (src.drop a) a = .error a)
 |num (v:Int) (hc:cls (src.getD a 0)=3) (hv:Lib.atoiAll (Lx.run [3] src a) = .ok v) (hi:(!(Lib.itoa v==Lx.run [3] src a))=false) (hw:(!valid ⟨2,[],v,0⟩)=false) (hk:1<=(Lx.run [3] src a).length) (e:lexR pStep (src.drop a) a=Tc (at' ⟨2,[],v,0⟩ a) (lexR pStep (src.drop (a+(Lx.run [3] src a).length)) (a+(Lx.run [3] src a).length)))
 |num1 (v:Int) (hc:cls (src.getD a 0)=3) (hv:Lib.atoiAll (Lx.run [3] src a) = .ok v) (hi:(!(Lib.itoa v==Lx.run [3] src a))=true) (e:lexR pStep (src.drop a) a = .error a)
 |num2 (v:Int) (hc:cls (src.getD a 0)=3) (hv:Lib.atoiAll (Lx.run [3] src a) = .ok v) (hi:(!(Lib.itoa v==Lx.run [3] src a))=false) (hw:(!valid ⟨2,[],v,0⟩)=true) (e:lexR pStep (src.drop a) a = .error a)
 |num3 (hc:cls (src.getD a 0)=3) (hv:Lib.atoiAll (Lx.run [3] src a) = .range) (e:lexR pStep (src.drop a) a = .error a)
 |cmt (hc:cls (src.getD a 0)=4) (hp:Lib.hasPrefix (src.drop a) [47,47]=true) (hk:1<=Lx.cmt (src.drop a)) (hl:a+Lx.cmt (src.drop a)<=src.length) (e:lexR pStep (src.drop a) a=lexR pStep (src.drop (a+Lx.cmt (src.drop a))) (a+Lx.cmt (src.drop a)))
 |sign (hc:cls (src.getD a 0)=4) (hp:Lib.hasPrefix (src.drop a) [47,47]=false) (hw:(!valid ⟨3,(src.take (a+1)).drop a,0,0⟩)=false) (hk:((src.take (a+1)).drop a).length=1) (e:lexR pStep (src.drop a) a=Tc (at' ⟨3,(src.take (a+1)).drop a,0,0⟩ a) (lexR pStep (src.drop (a+((src.take (a+1)).drop a).length)) (a+((src.take (a+1)).drop a).length)))
 |low (hc:cls (src.getD a 0)=5) (e:lexR pStep (src.drop a) a = .error a)
 |other (hc:cls (src.getD a 0)=0) (e:lexR pStep (src.drop a) a = .error a)
variable {src : Str} {a : Nat}
theorem Hf{a k:Nat}{t:Tk}(hlt:a<src.length)(h:pStep (src.drop a) = .tok k t):lexR pStep (src.drop a) a=Tc (at' t a) (lexR pStep (src.drop (a+k)) (a+k)):=by
 rw[Cb zaf (by simp_all),h]
 simp
 rfl
theorem JQ{a k:Nat}(hlt:a<src.length)(h:pStep (src.drop a) = .skip k):lexR pStep (src.drop a) a=lexR pStep (src.drop (a+k)) (a+k):=by
 grind[Cb,zaf,drop_cons,List.drop_drop]
theorem rC(hlt:a<src.length)(h:pStep (src.drop a) = .bad):lexR pStep (src.drop a) a = .error a:=by
 grind[Cb,zaf,drop_cons]
theorem z0y(hlt:a<src.length):At src a:=by
 have hd:=drop_cons hlt
 have e0:(src.drop a).getD 0 0=src.getD a 0:=by rw[hd];rfl
 have hp:pStep (src.drop a)=match cls (src.getD a 0)with
  | 1=>.skip (tw [1] (src.drop a)).length
  | 2=>BZ (tw [2,3,5] (src.drop a))
  | 3=>G9 (tw [3] (src.drop a))
  | 4=>EZ (src.drop a)
  |_=>.bad:=by rw[<-e0];rfl
 have t1:(src.drop a).take 1=(src.take (a+1)).drop a:=by rw[List.drop_take,Nat.add_sub_cancel_left]
 have t2:((src.take (a+1)).drop a).length=1:=by rw[<-t1];simp;omega
 have hd1:∀ks,has ks (cls (src.getD a 0))=true->1<=(Lx.run ks src a).length:=λks h=>by
  show 1<=(tw ks (src.drop a)).length
  rw[hd];exact Ha h
 rcases XE (src.getD a 0)with hc |hc |hc |hc |hc |hc
 ·rw[hc]at hp
  exact .other hc (rC hlt hp)
 ·rw[hc]at hp
  exact .space hc (hd1 _ (by rw[zfr,hc];rfl)) (JQ hlt hp)
 ·rw[hc]at hp
  have hp:pStep (src.drop a)=BZ (Lx.run [2,3,5] src a):=hp
  cases hv:valid ⟨1,Lx.run [2,3,5] src a,0,0⟩with
  |true=>
   refine .name hc (by rw[hv];rfl) (hd1 _ (by rw[zjq,hc];rfl)) (Hf hlt (by rw[hp,BZ,hv];rfl))
  |false=>exact .name' hc (by rw[hv];rfl) (rC hlt (by rw[hp,BZ,hv];rfl))
 ·rw[hc]at hp
  have hp:pStep (src.drop a)=G9 (Lx.run [3] src a):=hp
  have h1:=hd1 [3] (by rw[zfr,hc];rfl)
  have hdg:∀c∈Lx.run [3] src a,cls c=3:=λc hcm=>by
   have:=zfs (ks:=[3]) (s:=src.drop a) hcm
   rw[zfr]at this;simpa using this
  have hn:=NG (λe=>by rw[e]at h1;simp at h1) hdg
  rcases hv:Lib.atoiAll (Lx.run [3] src a)with v |_ |_
  rotate_left
  ·rw[hv]at hn;cases hn
  ·exact .num3 hc hv (rC hlt (by rw[hp,G9,hv]))
  ·cases hi:(Lib.itoa v==Lx.run [3] src a)with
   |false=>exact .num1 v hc hv (by rw[hi];rfl) (rC hlt (by rw[hp,G9,hv];simp only[hi];rfl))
   |true=>
    cases hw:valid ⟨2,[],v,0⟩with
    |false=>exact .num2 v hc hv (by rw[hi];rfl) (by rw[hw];rfl) (rC hlt (by rw[hp,G9,hv];simp only[hi,hw];rfl))
    |true=>exact .num v hc hv (by rw[hi];rfl) (by rw[hw];rfl) h1 (Hf hlt (by rw[hp,G9,hv];simp only[hi,hw];rfl))
 ·rw[hc]at hp
  cases hq:Lib.hasPrefix (src.drop a) [47,47]with
  |true=>
   refine .cmt hc hq (XG hq) ?_ (JQ hlt (by rw[hp,EZ,hq];rfl))
   have:=index_le (c:=10) (src.drop a)
   grind[List.length_drop,Lx.cmt]
  |false=>
   have hw:valid ⟨3,(src.take (a+1)).drop a,0,0⟩=true:=by
    rw[<-t1,hd]
    exact Td hc
   refine .sign hc hq (by rw[hw];rfl) t2 ?_
   grind[Hf,EZ]
 ·rw[hc]at hp
  exact .low hc (rC hlt hp)
theorem JR(h:decide ((a:Int)<(src.length:Int))=true):a<src.length:=by simpa using h
theorem zah{ts:List Tk}(hI:a<=src.length/\ts.length<=a/\lexR pStep src 0=fin ts (lexR pStep (src.drop a) a))(h:decide ((a:Int)<(src.length:Int))=false):D.tuple [toks ts,.i 0,.i 0]=XD (lexR pStep src 0):=by
 have h:=of_decide_eq_false h
 rw[hI.2.2,List.drop_eq_nil_of_le (by omega),z0x]
 simp[fin];rfl
theorem xW{ts:List Tk}(hI:a<=src.length/\ts.length<=a/\lexR pStep src 0=fin ts (lexR pStep (src.drop a) a))(e:lexR pStep (src.drop a) a = .error a):D.tuple [.sl 4 [],.i (a:Nat),.i 30]=XD (lexR pStep src 0):=by
 rw[hI.2.2,e];rfl
end Go.Fw.Lx
