/- A part of the proof. -/
import Derived.Shelf.Spec.SlicesGrow
import Derived.Shelf.Strings.Search3
import Derived.Shelf.Small.Strs
import Derived.Shelf.SlGeneric
import Derived.Shelf.LaysM
import Derived.Shelf.Strconv.Itoa3
import Derived.Shelf.LaysC
import Derived.Shelf.Strconv.AtoiAll
import Derived.Shelf.Strings.Search1
import Derived.Shelf.Strings.Search2
import Derived.Shelf.Strings.Prefix
import Derived.Test.YtgehpmgkaeohaaaGreatDoorZK6
import Derived.Test.YtgehpmgkaeohaaaGreatDoorZDA
set_option linter.all false
namespace Go.Fw
open Go.Shelf Go.Proofs
variable [ae]
theorem zfn{args:Array Value}{a b:Value}(hl:args.size=2)(h0:args.getD 0 undef=a)(h1:args.getD 1 undef=b):args = #[a,b]:=by
 obtain⟨l⟩:=args
 match l,hl with
 | [x,y],_=>simp at h0 h1;subst h0;subst h1;rfl
theorem NE{P:Program}{f:FuncId}{g:Nat}(he:lZ P f)(hg:∃m,rU g=some [.int .i64 m])
  (h:∀(s sub:ByteArray) (m:Int) (w:World),s.size<4294967281->w.cell? ⟨g,0,none⟩=some (.int .i64 m)->Calls P f #[.string s,.string sub] w λe w'=>e = .returned (.bool (Lib.contains s.data.toList sub.data.toList))/\w'=w)
  (s sub:List UInt8) (hs:s.length<4294967281):PCall P f [.str s,.str sub] (.ret (.b (Lib.contains s sub))):=by
 refine .inl ⟨he,λN w args m hl hr=>?_⟩
 obtain⟨i,hg⟩:=hg
 have h0:=hr 0 _ rfl
 have h1:=hr 1 _ rfl
 have e0:args.getD 0 undef = .string ⟨s.toArray⟩:=by generalize args.getD 0 undef=v at h0;cases h0;rfl
 have e1:args.getD 1 undef = .string ⟨sub.toArray⟩:=by generalize args.getD 1 undef=v at h1;cases h1;rfl
 rw[zfn hl e0 e1]
 refine(h ⟨s.toArray⟩ ⟨sub.toArray⟩ i w (by simpa[ByteArray.size]using hs) ((m.glob g _ hg).2.2 0 _ rfl).2.1).mono λe w'=>?_
 rintro⟨rfl,rfl⟩
 exact⟨Step.refl _ _,_,rfl,.val _⟩
theorem Dy(cs:Array Value)(n:Nat):(Builtin.zeroCells cs n).size=n * cs.size:=by
 simp[Builtin.zeroCells]
theorem zab{P:Program}{T:Tbl}(hT:iQ P T){ρ:Ren}(L:Lays8.n4 P ρ)(he:lZ P (ρ.f 4))(hy:ρ.f 4≠yx){sz sz':Nat}(hk:T.known (ρ.t 25)=true)(hz:(T.at (ρ.t 25)).zero ≠ [])(hs:(T.at (ρ.t 25)).size=sz)(h0:0<sz)
  (hzs:(T.at (ρ.t 25)).zero.length=sz) (n:Nat) (hn:n * (T.at (ρ.t 25)).bytes<=140737488355328) (hn2:n<=4611686018427387904) :
  ak P (ρ.f 4) [.nilsl sz',.data (.val (.int .i64 n))] [] (.ret (.gs 1000000 sz [])) [(1000000,.tok sz 0)]:=by
 refine .inl ⟨hy,he,λN M w args m hM hl ha _=>?_⟩
 have a0:=ha 0 _ rfl
 have a1:=(ha 1 _ rfl).int
 have e0:args.getD 0 undef = .slice none 0 0:=by generalize args.getD 0 undef=v at a0;cases a0;rfl
 rw[zfn hl e0 a1]
 have key:∀id∈keys [],Tr M M id:=by simp[keys]
 have b1:∀(M':Mem) (w':World),eP N M' w' 1000000 (.tok sz 0)->∀id blk,Heap.get [(1000000,Block.tok sz 0)] id=some blk->eP N M' w' id blk:=by
  intro M' w' h id blk e
  rw[Heap.get_cons]at e
  split at e
  ·rename_i q;subst q;simp only[Option.some.injEq]at e;subst e;exact h
  ·simp[Heap.get]at e
 rcases Nat.eq_zero_or_pos n with hn0 |hn0
 ·subst hn0
  refine(Any8.slices_Grow_room L none 0 0 0 w (by omega) (by omega) (by omega) (by omega)).mono λe w'=>?_
  rintro⟨rfl,rfl⟩
  refine⟨M.set 1000000 (some .nil),?_,by simp[keys],b1 _ _ (.inl ⟨Mem.set_same _ _ _,rfl⟩),_,rfl,.gs _ _ _ _ _ _ (.sl0 _ _ _ (by simp[maxLen])) (λ_=>⟨rfl,rfl⟩) λb lo e=>?_⟩
  ·refine⟨rfl,rfl,rfl,Nat.le_refl _,λ_ _ _=>rfl,λ_ _ _ _ h=>h,λb arr t h=>⟨arr,h,rfl⟩,λid hid=>Mem.set_other _ _ _ _ (by simpa[keys]using hid),?_,?_⟩
   ·intro id hid ow' b o e1 e2
    simp only[keys,List.mem_singleton]at hid;subst hid
    rw[Mem.set_same]at e1;simp only[Option.some.injEq]at e1;subst e1;exact e2.elim
   ·intro id hid id' hid' hne
    simp only[keys,List.mem_singleton]at hid hid';exact absurd (hid.trans hid'.symm) hne
  ·rw[Mem.set_same]at e;simp at e
 ·obtain⟨i,h1,h2,h3,h4⟩:=(hT (ρ.t 25)).info (aZ hk)
  obtain⟨z,h5,h6,h7⟩:=h4 hz
  have hzc:z.cells.size=sz:=by rw[<-Array.length_toList,h6,List.length_map,hzs]
  have hle:=grownCap_le_maxLen w (0+n) 0 (ρ.t 25) (by unfold maxLen;omega)
  have hge:=grownCap_ge w (0+n) 0 (ρ.t 25)
  refine(Any8.slices_Grow_grow L i z h1 h5 (by omega) none 0 0 n [] w (by omega) (by omega) (by rw[h3];simpa using hn) (by omega) (by simp) (λ_=>rfl) (by simp)).mono λe w'=>?_
  rintro⟨rfl,rfl⟩
  have hst:=(Step.drew M w).trans0 (Step.alloc M w.drew 1000000 (.cells ((([]:List Value).toArray++Builtin.zeroCells z.cells (0+n-0))++Builtin.zeroCells z.cells (grownCap w (0+n) 0 (ρ.t 25)-(0+n))) (ρ.t 25)) (.tail w.drew.heap.size (0 * sz)) λb x h=>h.1)
  have hrow:=pV w.drew ((([]:List Value).toArray++Builtin.zeroCells z.cells (0+n-0))++Builtin.zeroCells z.cells (grownCap w (0+n) 0 (ρ.t 25)-(0+n))) (ρ.t 25)
  refine⟨_,hst,by simp[keys],b1 _ _ (.inr ⟨_,_,_,Mem.set_same _ _ _,hrow⟩),_,rfl,.gs _ _ _ _ _ _ (.sl0 _ _ _ hle) (λe=>?_) λb lo e=>?_⟩
  ·rw[Mem.set_same]at e;simp at e
  ·rw[Mem.set_same]at e;simp only[Option.some.injEq,Own.tail.injEq]at e
   obtain⟨rfl,rfl⟩:=e
   refine⟨by simp,λ_=>⟨rfl,_,_,hrow,?_⟩⟩
   simp only[Array.size_append,Dy,hzc,List.size_toArray,List.length_nil]
   rw[Nat.zero_add,<-Nat.add_mul]
   congr 1;omega
end Go.Fw
namespace Go.Proofs
open Go.Shelf
def Tryz.lays137_ren:Go.Shelf.Ren:=⟨λ| 137=>181 | 217=>220 | 266=>243 |n=>n,λ| 9=>9 | 5=>5 | 3=>3 |n=>n,λ|n=>n⟩
theorem Tryz.lays137:Go.Proofs.Lays.n137 Tryz.prog Tryz.lays137_ren:={
 mixed:=by kernel_rfl
 f137:=Tryz.func181.trans (congrArg some (by kernel_rfl))
 f217:=Tryz.func220.trans (congrArg some (by kernel_rfl))
 f266:=Tryz.func243.trans (congrArg some (by kernel_rfl))
 t3:=Tryz.underlying3
 a3:=Tryz.isAgg3
 z3:=Tryz.sizeOf3
 v3:=Tryz.zeroValue3
 t5:=Tryz.underlying5
 a5:=Tryz.isAgg5
 z5:=Tryz.sizeOf5
 v5:=Tryz.zeroValue5
 t9:=Tryz.underlying9
 a9:=Tryz.isAgg9
 z9:=Tryz.sizeOf9
 v9:=Tryz.zeroValue9 }
open Go.RowKit in
theorem Tryz.strings_IndexByte(s:ByteArray)(c:Int)(w:World) :
  Calls Tryz.prog 181 #[.string s,.int .u8 c] w λe w'=>e = .returned (.int .i64 (Lib.indexByte s.data.toList c.toNat.toUInt8))/\w'=w:=Any.strings_IndexByte Tryz.lays137 s c w
def Tryz.laysM171_ren:Go.Shelf.Ren:=⟨λ| 171=>186 | 243=>228 | 246=>251 | 283=>260 | 284=>261 | 285=>262 | 286=>263 | 129=>269 | 317=>268 | 318=>270 | 319=>271 | 320=>272 | 337=>274 | 338=>275 |n=>n,λ| 3=>3 | 9=>9 | 2=>2 | 4=>4 | 171=>265 | 0=>0 | 53=>258 | 37=>249 | 5=>5 | 173=>268 | 212=>276 | 51=>244 | 20=>20 | 213=>277 | 46=>233 | 232=>280 | 233=>281 |n=>n,λ| 17=>4 | 18=>5 | 19=>6 |n=>n⟩
theorem Tryz.laysM171:Go.Proofs.LaysM.n171 Tryz.prog Tryz.laysM171_ren:={
 mixed:=by kernel_rfl
 f129:=Tryz.func269.trans (congrArg some (by kernel_rfl))
 f171:=Tryz.func186.trans (congrArg some (by kernel_rfl))
 f243:=Tryz.func228.trans (congrArg some (by kernel_rfl))
 f246:=Tryz.func251.trans (congrArg some (by kernel_rfl))
 f283:=Tryz.func260.trans (congrArg some (by kernel_rfl))
 f284:=Tryz.func261.trans (congrArg some (by kernel_rfl))
 f285:=Tryz.func262.trans (congrArg some (by kernel_rfl))
 f286:=Tryz.func263.trans (congrArg some (by kernel_rfl))
 f317:=Tryz.func268.trans (congrArg some (by kernel_rfl))
 f318:=Tryz.func270.trans (congrArg some (by kernel_rfl))
 f319:=Tryz.func271.trans (congrArg some (by kernel_rfl))
 f320:=Tryz.func272.trans (congrArg some (by kernel_rfl))
 f337:=Tryz.func274.trans (congrArg some (by kernel_rfl))
 f338:=Tryz.func275.trans (congrArg some (by kernel_rfl))
 t0:=Tryz.underlying0
 a0:=Tryz.isAgg0
 z0:=Tryz.sizeOf0
 v0:=Tryz.zeroValue0
 t2:=Tryz.underlying2
 a2:=Tryz.isAgg2
 z2:=Tryz.sizeOf2
 v2:=Tryz.zeroValue2
 t3:=Tryz.underlying3
 a3:=Tryz.isAgg3
 z3:=Tryz.sizeOf3
 v3:=Tryz.zeroValue3
 t4:=Tryz.underlying4
 a4:=Tryz.isAgg4
 z4:=Tryz.sizeOf4
 v4:=Tryz.zeroValue4
 t5:=Tryz.underlying5
 a5:=Tryz.isAgg5
 z5:=Tryz.sizeOf5
 v5:=Tryz.zeroValue5
 t9:=Tryz.underlying9
 a9:=Tryz.isAgg9
 z9:=Tryz.sizeOf9
 v9:=Tryz.zeroValue9
 t20:=Tryz.underlying20
 a20:=Tryz.isAgg20
 z20:=Tryz.sizeOf20
 v20:=Tryz.zeroValue20
 t37:=Tryz.underlying249
 a37:=Tryz.isAgg249
 z37:=Tryz.sizeOf249
 v37:=Tryz.zeroValue249
 t46:=Tryz.underlying233
 a46:=Tryz.isAgg233
 z46:=Tryz.sizeOf233
 v46:=Tryz.zeroValue233
 t51:=Tryz.underlying244
 a51:=Tryz.isAgg244
 z51:=Tryz.sizeOf244
 v51:=Tryz.zeroValue244
 t53:=Tryz.underlying258
 a53:=Tryz.isAgg258
 z53:=Tryz.sizeOf258
 v53:=Tryz.zeroValue258
 t171:=Tryz.underlying265
 a171:=Tryz.isAgg265
 z171:=Tryz.sizeOf265
 v171:=Tryz.zeroValue265
 t173:=Tryz.underlying268
 a173:=Tryz.isAgg268
 z173:=Tryz.sizeOf268
 v173:=Tryz.zeroValue268
 t212:=Tryz.underlying276
 a212:=Tryz.isAgg276
 z212:=Tryz.sizeOf276
 v212:=Tryz.zeroValue276
 t213:=Tryz.underlying277
 a213:=Tryz.isAgg277
 z213:=Tryz.sizeOf277
 t232:=Tryz.underlying280
 a232:=Tryz.isAgg280
 z232:=Tryz.sizeOf280
 v232:=Tryz.zeroValue280
 t233:=Tryz.underlying281
 a233:=Tryz.isAgg281
 z233:=Tryz.sizeOf281
 v233:=Tryz.zeroValue281
 g17:=by kernel_rfl
 g18:=by kernel_rfl
 g19:=by kernel_rfl
 i0:=by kernel_rfl
 i2:=by kernel_rfl
 i3:=by kernel_rfl
 i4:=by kernel_rfl
 i5:=by kernel_rfl
 i9:=by kernel_rfl
 i20:=by kernel_rfl
 i37:=by kernel_rfl
 i46:=by kernel_rfl
 i51:=by kernel_rfl
 i53:=by kernel_rfl
 i171:=by kernel_rfl
 i173:=by kernel_rfl
 i212:=by kernel_rfl
 i232:=by kernel_rfl
 i233:=by kernel_rfl
 m17:=by kernel_rfl
 m18:=by kernel_rfl
 m19:=by kernel_rfl }
open Go.RowKit Go.Sort Go.Lib in
theorem Tryz.strconv_Itoa(n:Int)(h0:-9223372036854775808<=n)(h1:n<=9223372036854775807)(w:World)(htab:Lib.TabIs Tryz.prog w "internal/strconv.uint64pow10" .u64 Lib.pow10Tab) :
  Calls Tryz.prog 186 #[.int .i64 n] w λe w'=>e = .returned (.string ⟨(Lib.itoa n).toArray⟩)/\∃k os,w'=grow (w.drewN k) os:=Any.strconv_Itoa Tryz.laysM171 n h0 h1 w htab
def Tryz.laysC172_ren:Go.Shelf.Ren:=⟨λ| 172=>185 | 244=>226 | 245=>227 | 247=>246 | 279=>247 | 280=>248 | 281=>249 | 282=>250 | 287=>257 | 316=>258 | 171=>186 | 205=>259 | 321=>266 | 322=>267 | 243=>228 | 246=>251 | 283=>260 | 284=>261 | 285=>262 | 286=>263 | 129=>269 | 317=>268 | 318=>270 | 319=>271 | 320=>272 | 337=>274 | 338=>275 |n=>n,λ| 9=>9 | 3=>3 | 75=>211 | 76=>212 | 4=>4 | 5=>5 | 167=>248 | 37=>249 | 0=>0 | 85=>250 | 2=>2 | 168=>252 | 53=>258 | 175=>259 | 46=>233 | 210=>263 | 127=>271 | 145=>274 | 143=>272 | 21=>21 | 171=>265 | 173=>268 | 212=>276 | 51=>244 | 20=>20 | 213=>277 | 232=>280 | 233=>281 | 80=>216 |n=>n,λ| 15=>2 | 16=>3 | 17=>4 | 18=>5 | 19=>6 |n=>n⟩
theorem Tryz.laysC172:Go.Proofs.LaysC.n172 Tryz.prog Tryz.laysC172_ren:={
 mixed:=by kernel_rfl
 f129:=Tryz.func269.trans (congrArg some (by kernel_rfl))
 f171:=Tryz.func186.trans (congrArg some (by kernel_rfl))
 f172:=Tryz.func185.trans (congrArg some (by kernel_rfl))
 f205:=Tryz.func259.trans (congrArg some (by kernel_rfl))
 f243:=Tryz.func228.trans (congrArg some (by kernel_rfl))
 f244:=Tryz.func226.trans (congrArg some (by kernel_rfl))
 f245:=Tryz.func227.trans (congrArg some (by kernel_rfl))
 f246:=Tryz.func251.trans (congrArg some (by kernel_rfl))
 f247:=Tryz.func246.trans (congrArg some (by kernel_rfl))
 f279:=Tryz.func247.trans (congrArg some (by kernel_rfl))
 f280:=Tryz.func248.trans (congrArg some (by kernel_rfl))
 f281:=Tryz.func249.trans (congrArg some (by kernel_rfl))
 f282:=Tryz.func250.trans (congrArg some (by kernel_rfl))
 f283:=Tryz.func260.trans (congrArg some (by kernel_rfl))
 f284:=Tryz.func261.trans (congrArg some (by kernel_rfl))
 f285:=Tryz.func262.trans (congrArg some (by kernel_rfl))
 f286:=Tryz.func263.trans (congrArg some (by kernel_rfl))
 f287:=Tryz.func257.trans (congrArg some (by kernel_rfl))
 f316:=Tryz.func258.trans (congrArg some (by kernel_rfl))
 f317:=Tryz.func268.trans (congrArg some (by kernel_rfl))
 f318:=Tryz.func270.trans (congrArg some (by kernel_rfl))
 f319:=Tryz.func271.trans (congrArg some (by kernel_rfl))
 f320:=Tryz.func272.trans (congrArg some (by kernel_rfl))
 f321:=Tryz.func266.trans (congrArg some (by kernel_rfl))
 f322:=Tryz.func267.trans (congrArg some (by kernel_rfl))
 f337:=Tryz.func274.trans (congrArg some (by kernel_rfl))
 f338:=Tryz.func275.trans (congrArg some (by kernel_rfl))
 t0:=Tryz.underlying0
 a0:=Tryz.isAgg0
 z0:=Tryz.sizeOf0
 v0:=Tryz.zeroValue0
 t2:=Tryz.underlying2
 a2:=Tryz.isAgg2
 z2:=Tryz.sizeOf2
 v2:=Tryz.zeroValue2
 t3:=Tryz.underlying3
 a3:=Tryz.isAgg3
 z3:=Tryz.sizeOf3
 v3:=Tryz.zeroValue3
 t4:=Tryz.underlying4
 a4:=Tryz.isAgg4
 z4:=Tryz.sizeOf4
 v4:=Tryz.zeroValue4
 t5:=Tryz.underlying5
 a5:=Tryz.isAgg5
 z5:=Tryz.sizeOf5
 v5:=Tryz.zeroValue5
 t9:=Tryz.underlying9
 a9:=Tryz.isAgg9
 z9:=Tryz.sizeOf9
 v9:=Tryz.zeroValue9
 t20:=Tryz.underlying20
 a20:=Tryz.isAgg20
 z20:=Tryz.sizeOf20
 v20:=Tryz.zeroValue20
 t21:=Tryz.underlying21
 a21:=Tryz.isAgg21
 z21:=Tryz.sizeOf21
 v21:=Tryz.zeroValue21
 t37:=Tryz.underlying249
 a37:=Tryz.isAgg249
 z37:=Tryz.sizeOf249
 v37:=Tryz.zeroValue249
 t46:=Tryz.underlying233
 a46:=Tryz.isAgg233
 z46:=Tryz.sizeOf233
 v46:=Tryz.zeroValue233
 t51:=Tryz.underlying244
 a51:=Tryz.isAgg244
 z51:=Tryz.sizeOf244
 v51:=Tryz.zeroValue244
 t53:=Tryz.underlying258
 a53:=Tryz.isAgg258
 z53:=Tryz.sizeOf258
 v53:=Tryz.zeroValue258
 t75:=Tryz.underlying211
 a75:=Tryz.isAgg211
 z75:=Tryz.sizeOf211
 v75:=Tryz.zeroValue211
 t76:=Tryz.underlying212
 a76:=Tryz.isAgg212
 z76:=Tryz.sizeOf212
 v76:=Tryz.zeroValue212
 t85:=Tryz.underlying250
 a85:=Tryz.isAgg250
 z85:=Tryz.sizeOf250
 v85:=Tryz.zeroValue250
 t127:=Tryz.underlying271
 a127:=Tryz.isAgg271
 z127:=Tryz.sizeOf271
 v127:=Tryz.zeroValue271
 t143:=Tryz.underlying272
 a143:=Tryz.isAgg272
 z143:=Tryz.sizeOf272
 v143:=Tryz.zeroValue272
 t145:=Tryz.underlying274
 a145:=Tryz.isAgg274
 z145:=Tryz.sizeOf274
 v145:=Tryz.zeroValue274
 t167:=Tryz.underlying248
 a167:=Tryz.isAgg248
 z167:=Tryz.sizeOf248
 v167:=Tryz.zeroValue248
 t168:=Tryz.underlying252
 a168:=Tryz.isAgg252
 z168:=Tryz.sizeOf252
 v168:=Tryz.zeroValue252
 t171:=Tryz.underlying265
 a171:=Tryz.isAgg265
 z171:=Tryz.sizeOf265
 v171:=Tryz.zeroValue265
 t173:=Tryz.underlying268
 a173:=Tryz.isAgg268
 z173:=Tryz.sizeOf268
 v173:=Tryz.zeroValue268
 t175:=Tryz.underlying259
 a175:=Tryz.isAgg259
 z175:=Tryz.sizeOf259
 v175:=Tryz.zeroValue259
 t210:=Tryz.underlying263
 a210:=Tryz.isAgg263
 z210:=Tryz.sizeOf263
 v210:=Tryz.zeroValue263
 t212:=Tryz.underlying276
 a212:=Tryz.isAgg276
 z212:=Tryz.sizeOf276
 v212:=Tryz.zeroValue276
 t213:=Tryz.underlying277
 a213:=Tryz.isAgg277
 z213:=Tryz.sizeOf277
 t232:=Tryz.underlying280
 a232:=Tryz.isAgg280
 z232:=Tryz.sizeOf280
 v232:=Tryz.zeroValue280
 t233:=Tryz.underlying281
 a233:=Tryz.isAgg281
 z233:=Tryz.sizeOf281
 v233:=Tryz.zeroValue281
 g15:=by kernel_rfl
 g16:=by kernel_rfl
 g17:=by kernel_rfl
 g18:=by kernel_rfl
 g19:=by kernel_rfl
 t80:=Tryz.underlying216
 a80:=Tryz.isAgg216
 z80:=Tryz.sizeOf216
 v80:=Tryz.zeroValue216
 i0:=by kernel_rfl
 i2:=by kernel_rfl
 i3:=by kernel_rfl
 i4:=by kernel_rfl
 i5:=by kernel_rfl
 i9:=by kernel_rfl
 i20:=by kernel_rfl
 i21:=by kernel_rfl
 i37:=by kernel_rfl
 i46:=by kernel_rfl
 i51:=by kernel_rfl
 i53:=by kernel_rfl
 i75:=by kernel_rfl
 i76:=by kernel_rfl
 i80:=by kernel_rfl
 i85:=by kernel_rfl
 i127:=by kernel_rfl
 i143:=by kernel_rfl
 i145:=by kernel_rfl
 i167:=by kernel_rfl
 i168:=by kernel_rfl
 i171:=by kernel_rfl
 i173:=by kernel_rfl
 i175:=by kernel_rfl
 i210:=by kernel_rfl
 i212:=by kernel_rfl
 i232:=by kernel_rfl
 i233:=by kernel_rfl
 m15:=by kernel_rfl
 m16:=by kernel_rfl
 m17:=by kernel_rfl
 m18:=by kernel_rfl
 m19:=by kernel_rfl
 c0:=by kernel_rfl
 c2:=by kernel_rfl
 c3:=by kernel_rfl
 c4:=by kernel_rfl
 c5:=by kernel_rfl
 c9:=by kernel_rfl
 c20:=by kernel_rfl
 c21:=by kernel_rfl
 c37:=by kernel_rfl
 c46:=by kernel_rfl
 c51:=by kernel_rfl
 c53:=by kernel_rfl
 c75:=by kernel_rfl
 c76:=by kernel_rfl
 c80:=by kernel_rfl
 c85:=by kernel_rfl
 c127:=by kernel_rfl
 c143:=by kernel_rfl
 c145:=by kernel_rfl
 c167:=by kernel_rfl
 c168:=by kernel_rfl
 c171:=by kernel_rfl
 c173:=by kernel_rfl
 c175:=by kernel_rfl
 c210:=by kernel_rfl
 c212:=by kernel_rfl
 c213:=by kernel_rfl
 c232:=by kernel_rfl
 c233:=by kernel_rfl }
open Go.RowKit in
theorem Tryz.strconv_Atoi_ok(s:ByteArray)(hmax:s.size<=9223372036854775806)(v:Int)(h:Lib.atoiAll s.data.toList = .ok v)(w:World) :
  Calls Tryz.prog 185 #[.string s] w λe w'=>e = .returned (.tuple #[.int .i64 v,.nilIface])/\(w'=w\/∃t,w'=Lib.bytesWorld w 5 t):=Any.strconv_Atoi_ok Tryz.laysC172 s hmax v h w
open Go.RowKit in
theorem Tryz.strconv_Atoi_range(s:ByteArray)(hlim:s.size<=281474976710656)(h:Lib.atoiAll s.data.toList = .range)(ev:Value)(w:World)(hv:w.cell? ⟨3,0,none⟩=some ev)(hev:ev = .nilIface\/∃te pe,ev = .iface te pe) :
  Calls Tryz.prog 185 #[.string s] w λe w'=>∃N,e = .returned (.tuple #[.int .i64 (Lib.atoiSat s.data.toList),.iface 252 (.pointer (some ⟨N,0,none⟩))])/\w.heap.size<=N/\w'.heap[N]? = some (.cells #[.string ⟨#[65,116,111,105]⟩,.string s,ev] 263 (0,0))/\Below w.heap.size w w':=Any.strconv_Atoi_range Tryz.laysC172 s hlim h ev w hv hev
def Tryz.lays144_ren:Go.Shelf.Ren:=⟨λ| 144=>104 | 143=>132 | 219=>182 | 217=>220 | 225=>221 | 224=>222 | 267=>223 | 266=>243 | 314=>244 |n=>n,λ| 9=>9 | 4=>4 | 3=>3 | 5=>5 | 46=>233 | 146=>245 | 51=>244 |n=>n,λ| 1=>1 |n=>n⟩
theorem Tryz.lays144:Go.Proofs.Lays.n144 Tryz.prog Tryz.lays144_ren:={
 mixed:=by kernel_rfl
 f143:=Tryz.func132.trans (congrArg some (by kernel_rfl))
 f144:=Tryz.func104.trans (congrArg some (by kernel_rfl))
 f217:=Tryz.func220.trans (congrArg some (by kernel_rfl))
 f219:=Tryz.func182.trans (congrArg some (by kernel_rfl))
 f224:=Tryz.func222.trans (congrArg some (by kernel_rfl))
 f225:=Tryz.func221.trans (congrArg some (by kernel_rfl))
 f266:=Tryz.func243.trans (congrArg some (by kernel_rfl))
 f267:=Tryz.func223.trans (congrArg some (by kernel_rfl))
 f314:=Tryz.func244.trans (congrArg some (by kernel_rfl))
 t3:=Tryz.underlying3
 a3:=Tryz.isAgg3
 z3:=Tryz.sizeOf3
 v3:=Tryz.zeroValue3
 t4:=Tryz.underlying4
 a4:=Tryz.isAgg4
 z4:=Tryz.sizeOf4
 v4:=Tryz.zeroValue4
 t5:=Tryz.underlying5
 a5:=Tryz.isAgg5
 z5:=Tryz.sizeOf5
 v5:=Tryz.zeroValue5
 t9:=Tryz.underlying9
 a9:=Tryz.isAgg9
 z9:=Tryz.sizeOf9
 v9:=Tryz.zeroValue9
 t46:=Tryz.underlying233
 a46:=Tryz.isAgg233
 z46:=Tryz.sizeOf233
 v46:=Tryz.zeroValue233
 t51:=Tryz.underlying244
 a51:=Tryz.isAgg244
 z51:=Tryz.sizeOf244
 v51:=Tryz.zeroValue244
 t146:=Tryz.underlying245
 a146:=Tryz.isAgg245
 z146:=Tryz.sizeOf245
 v146:=Tryz.zeroValue245
 g1:=by kernel_rfl }
open Go.RowKit Go.Lib in
theorem Tryz.strings_Contains(s sub:ByteArray)(m:Int)(w:World)(hs:s.size<4294967281)(hm:w.cell? ⟨1,0,none⟩=some (.int .i64 m)) :
  Calls Tryz.prog 104 #[.string s,.string sub] w λe w'=>e = .returned (.bool (Lib.contains s.data.toList sub.data.toList))/\w'=w:=Any.strings_Contains Tryz.lays144 s sub m w hs hm
def Tryz.lays99_ren:Go.Shelf.Ren:=⟨λ| 99=>187 | 206=>229 |n=>n,λ| 9=>9 | 4=>4 | 3=>3 |n=>n,λ|n=>n⟩
theorem Tryz.lays99:Go.Proofs.Lays.n99 Tryz.prog Tryz.lays99_ren:={
 mixed:=by kernel_rfl
 f99:=Tryz.func187.trans (congrArg some (by kernel_rfl))
 f206:=Tryz.func229.trans (congrArg some (by kernel_rfl))
 t3:=Tryz.underlying3
 a3:=Tryz.isAgg3
 z3:=Tryz.sizeOf3
 v3:=Tryz.zeroValue3
 t4:=Tryz.underlying4
 a4:=Tryz.isAgg4
 z4:=Tryz.sizeOf4
 v4:=Tryz.zeroValue4
 t9:=Tryz.underlying9
 a9:=Tryz.isAgg9
 z9:=Tryz.sizeOf9
 v9:=Tryz.zeroValue9 }
open Go.RowKit Go.Lib in
theorem Tryz.strings_HasPrefix(s p:ByteArray)(w:World) :
  Calls Tryz.prog 187 #[.string s,.string p] w λe w'=>e = .returned (.bool (Lib.hasPrefix s.data.toList p.data.toList))/\w'=w:=Any.strings_HasPrefix Tryz.lays99 s p w
def Tryz.growB_ren:Go.Shelf.Ren:=⟨λ| 4=>133 |n=>n,λ| 22=>22 | 25=>68 | 3=>3 | 4=>4 | 9=>9 | 20=>20 | 0=>0 |n=>n,λ|n=>n⟩
theorem Tryz.growB:Go.Proofs.Lays8.n4 Tryz.prog Tryz.growB_ren:={
 mixed:=by kernel_rfl
 f4:=⟨Tryz.f133.name,by decide,Tryz.func133.trans (congrArg some (by kernel_rfl))⟩
 t0:=Tryz.underlying0
 a0:=Tryz.isAgg0
 z0:=Tryz.sizeOf0
 v0:=Tryz.zeroValue0
 t3:=Tryz.underlying3
 a3:=Tryz.isAgg3
 z3:=Tryz.sizeOf3
 v3:=Tryz.zeroValue3
 t4:=Tryz.underlying4
 a4:=Tryz.isAgg4
 z4:=Tryz.sizeOf4
 v4:=Tryz.zeroValue4
 t9:=Tryz.underlying9
 a9:=Tryz.isAgg9
 z9:=Tryz.sizeOf9
 v9:=Tryz.zeroValue9
 t20:=Tryz.underlying20
 a20:=Tryz.isAgg20
 z20:=Tryz.sizeOf20
 v20:=Tryz.zeroValue20
 t22:=Tryz.underlying22
 a22:=Tryz.isAgg22
 z22:=Tryz.sizeOf22
 v22:=Tryz.zeroValue22 }
end Go.Proofs
namespace Go.Fw
open Go.Shelf Go.Proofs Go.RowKit Go.Sort
variable [ae]
theorem xU{w w':World}(h:Below w.heap.size w w'):Step yA w yA w' []:=by
 refine⟨h.os,h.tape,h.output,h.size,λb hb _=>h.block b hb,λb o u _ hc=>?_,λb arr t hr=>⟨arr,?_,rfl⟩,λ_ _=>rfl,by simp,by simp⟩
 ·have hb:=block_lt hc
  simp only[World.cell?]at hc ⊢
  rw[h.block b hb];exact hc
 ·have hb:b<w.heap.size:=(Array.getElem?_eq_some_iff.1 hr).1
  show w'.heap[b]? = _
  rw[h.block b hb];exact hr
theorem BU{F:aS}{w:World}{s:List UInt8}{v:Value}(h:DRel F w (.str s) v):v = .string ⟨s.toArray⟩:=by cases h;rfl
theorem XC{F:aS}{w:World}{x v:Value}(h:DRel F w (.val x) v):v=x:=by cases h;rfl
theorem args1'{args:Array Value}{a:Value}(hl:args.size=1)(h0:args.getD 0 undef=a):args = #[a]:=by
 obtain⟨l⟩:=args
 match l,hl with
 | [x],_=>simp at h0;subst h0;rfl
theorem args2'{args:Array Value}{a b:Value}(hl:args.size=2)(h0:args.getD 0 undef=a)(h1:args.getD 1 undef=b):args = #[a,b]:=by
 obtain⟨l⟩:=args
 match l,hl with
 | [x,y],_=>simp at h0 h1;subst h0;subst h1;rfl
theorem below_grow(w:World)(k:Nat)(os:Array Obj):Below w.heap.size w (grow (w.drewN k) os):=by
 refine⟨rfl,rfl,rfl,?_,λj hj=>?_⟩
 ·show w.heap.size<=(w.heap++os).size
  simp
 ·show(w.heap++os)[j]? = _
  rw[Array.getElem?_append_left hj]
end Go.Fw
namespace Go.Proofs.YtgehpmgkaeohaaaGreatDoor
open Go.Fw Go.Shelf Go.Proofs Go.RowKit Go.Sort
set_option maxRecDepth 10000
variable [ae]
theorem BV(n:Int)(h0:-9223372036854775808<=n)(h1:n<=9223372036854775807):PCall Tryz.prog 186 [.i n] (.ret (.str (Lib.itoa n))):=by
 refine .inl ⟨⟨_,Tryz.func186,by kernel_rfl,by kernel_rfl⟩,λN w args m hl hr=>?_⟩
 rw[args1' hl (XC (hr 0 _ rfl))]
 have htab:Lib.TabIs Tryz.prog w "internal/strconv.uint64pow10" .u64 Lib.pow10Tab:=by
  obtain⟨t,fr,hh⟩:=(m.glob 4 _ rfl).2.1
  have hg:Tryz.prog.globalNamed "internal/strconv.uint64pow10" = some 4:=by kernel_rfl
  simp only[Lib.TabIs,World.var?,hg,Option.bind_some,hh]
 refine(Tryz.strconv_Itoa n h0 h1 w htab).mono λe w'=>?_
 rintro⟨rfl,k,os,rfl⟩
 exact⟨xU (below_grow w k os),_,rfl,.str _⟩
theorem BX(s p:List UInt8):PCall Tryz.prog 187 [.str s,.str p] (.ret (.b (Lib.hasPrefix s p))):=by
 refine .inl ⟨⟨_,Tryz.func187,by kernel_rfl,by kernel_rfl⟩,λN w args m hl hr=>?_⟩
 rw[args2' hl (BU (hr 0 _ rfl)) (BU (hr 1 _ rfl))]
 refine(Tryz.strings_HasPrefix ⟨s.toArray⟩ ⟨p.toArray⟩ w).mono λe w'=>?_
 rintro⟨rfl,rfl⟩
 exact⟨Step.refl _ _,_,rfl,.val _⟩
theorem nz(s:List UInt8)(c:UInt8):PCall Tryz.prog 181 [.str s,.val (.int .u8 c.toNat)] (.ret (.i (Lib.indexByte s c))):=by
 refine .inl ⟨⟨_,Tryz.func181,by kernel_rfl,by kernel_rfl⟩,λN w args m hl hr=>?_⟩
 rw[args2' hl (BU (hr 0 _ rfl)) (XC (hr 1 _ rfl))]
 refine(Tryz.strings_IndexByte ⟨s.toArray⟩ c.toNat w).mono λe w'=>?_
 rintro⟨rfl,rfl⟩
 refine⟨Step.refl _ _,_,rfl,?_⟩
 simp only[Int.toNat_natCast,UInt8.ofNat_toNat,Nat.toUInt8_eq]
 exact .val _
theorem NF(s:List UInt8)(v:Int)(hs:s.length<=9223372036854775806)(h:Lib.atoiAll s = .ok v):PCall Tryz.prog 185 [.str s] (.ret (.tuple [.i v,.val .nilIface])):=by
 refine .inl ⟨⟨_,Tryz.func185,by kernel_rfl,by kernel_rfl⟩,λN w args m hl hr=>?_⟩
 rw[args1' hl (BU (hr 0 _ rfl))]
 refine(Tryz.strconv_Atoi_ok ⟨s.toArray⟩ hs v h w).mono λe w'=>?_
 rintro⟨rfl,hw⟩
 refine⟨?_,_,rfl,.tuple _ _ (by simp) λi d hd=>?_⟩
 ·rcases hw with rfl |⟨t,rfl⟩
  ·exact Step.refl _ _
  ·exact xU (Lib.bytesWorld_below w _ t)
 ·match i with
  | 0=>simp at hd;subst hd;exact .val _
  | 1=>simp at hd;subst hd;exact .val _
  |i+2=>simp at hd
theorem SY(s:List UInt8)(hs:s.length<=281474976710656)(h:Lib.atoiAll s = .range):PCall Tryz.prog 185 [.str s] (.ret (.tuple [.i (Lib.atoiSat s),.iface 252 (.ptr [])])):=by
 refine .inl ⟨⟨_,Tryz.func185,by kernel_rfl,by kernel_rfl⟩,λN w args m hl hr=>?_⟩
 rw[args1' hl (BU (hr 0 _ rfl))]
 have hc:=((m.glob 3 _ rfl).2.2 0 _ rfl).2.1
 refine(Tryz.strconv_Atoi_range ⟨s.toArray⟩ hs h _ w hc (.inr ⟨_,_,rfl⟩)).mono λe w'=>?_
 rintro⟨b,rfl,_,_,hw⟩
 refine⟨xU hw,_,rfl,.tuple _ _ (by simp) λi d hd=>?_⟩
 match i with
 | 0=>simp at hd;subst hd;exact .val _
 | 1=>simp at hd;subst hd;exact .iface _ _ _ (.ptr _ b 0 (λ_=>undef) (by simp) (by simp))
 |i+2=>simp at hd
end Go.Proofs.YtgehpmgkaeohaaaGreatDoor
