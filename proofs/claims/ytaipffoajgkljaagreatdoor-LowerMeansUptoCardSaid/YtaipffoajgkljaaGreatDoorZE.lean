/- A part of the proof. -/
import Derived.Shelf.Spec.SlicesGrow
import Derived.Shelf.Strings.Search3
import Derived.Shelf.Small.Strs
import Derived.Shelf.SlGeneric
import Derived.Shelf.Strings.Search1
import Derived.Shelf.Strings.Search2
import Derived.Test.YtaipffoajgkljaaGreatDoorProg
import Derived.Test.YtaipffoajgkljaaGreatDoorZKA
set_option linter.all false
namespace Go.Fw
open Go.Shelf Go.Proofs
variable [af] {P : Program}
theorem z8n{args:Array Value}{a b:Value}(hl:args.size=2)(h0:args.getD 0 undef=a)(h1:args.getD 1 undef=b):args = #[a,b]:=by
 obtain⟨l⟩:=args
 match l,hl with
 | [x,y],_=>simp at h0 h1;subst h0;subst h1;rfl
theorem MW{f:FuncId}{g:Nat}(he:kT P f)(hg:∃m,rH g=some [.int .i64 m])
  (h:∀(s sub:ByteArray) (m:Int) (w:World),s.size<4294967281->w.cell? ⟨g,0,none⟩=some (.int .i64 m)->Calls P f #[.string s,.string sub] w λe w'=>e = .returned (.bool (Lib.contains s.data.toList sub.data.toList))/\w'=w)
  (s sub:List UInt8) (hs:s.length<4294967281):PCall P f [.str s,.str sub] (.ret (.b (Lib.contains s sub))):=by
 refine .inl ⟨he,λN w args m hl hr=>?_⟩
 obtain⟨i,hg⟩:=hg
 have h0:=hr 0 _ rfl
 have h1:=hr 1 _ rfl
 have e0:args.getD 0 undef = .string ⟨s.toArray⟩:=by generalize args.getD 0 undef=v at h0;cases h0;rfl
 have e1:args.getD 1 undef = .string ⟨sub.toArray⟩:=by generalize args.getD 1 undef=v at h1;cases h1;rfl
 rw[z8n hl e0 e1]
 refine(h ⟨s.toArray⟩ ⟨sub.toArray⟩ i w (by simpa[ByteArray.size]using hs) ((m.glob g _ hg).2.2 0 _ rfl).2.1).mono λe w'=>?_
 rintro⟨rfl,rfl⟩
 exact⟨Step.refl _ _,_,rfl,.val _⟩
theorem JA{f:FuncId}(he:kT P f)
  (h:∀(s:ByteArray) (c:Int) (w:World),Calls P f #[.string s,.int .u8 c] w λe w'=>e = .returned (.int .i64 (Lib.indexByte s.data.toList c.toNat.toUInt8))/\w'=w)
  (s:List UInt8) (c:UInt8):PCall P f [.str s,.val (.int .u8 c.toNat)] (.ret (.i (Lib.indexByte s c))):=by
 refine .inl ⟨he,λN w args m hl hr=>?_⟩
 have h0:=hr 0 _ rfl
 have h1:=hr 1 _ rfl
 have e0:args.getD 0 undef = .string ⟨s.toArray⟩:=by generalize args.getD 0 undef=v at h0;cases h0;rfl
 have e1:args.getD 1 undef = .int .u8 c.toNat:=by generalize args.getD 1 undef=v at h1;cases h1;rfl
 rw[z8n hl e0 e1]
 refine(h ⟨s.toArray⟩ c.toNat w).mono λe w'=>?_
 rintro⟨rfl,rfl⟩
 refine⟨Step.refl _ _,_,rfl,?_⟩
 simp only[Int.toNat_natCast,UInt8.ofNat_toNat,Nat.toUInt8_eq]
 exact .val _
theorem Cm(cs:Array Value)(n:Nat):(Builtin.zeroCells cs n).size=n * cs.size:=by
 simp[Builtin.zeroCells]
theorem WZ{T:Tbl}(hT:iZ P T){ρ:Ren}(L:Lays8.n4 P ρ)(he:kT P (ρ.f 4))(hy:ρ.f 4≠xK){sz sz':Nat}(hk:T.known (ρ.t 25)=true)(hz:(T.at (ρ.t 25)).zero ≠ [])(hs:(T.at (ρ.t 25)).size=sz)(h0:0<sz)
  (hzs:(T.at (ρ.t 25)).zero.length=sz) (n:Nat) (hn:n * (T.at (ρ.t 25)).bytes<=140737488355328) (hn2:n<=4611686018427387904) :
  LCall P (ρ.f 4) [.nilsl sz',.data (.val (.int .i64 n))] [] (.ret (.gs 1000000 sz [])) [(1000000,.tok sz 0)]:=by
 refine .inl ⟨hy,he,λN M w args m hM hl ha _=>?_⟩
 have a0:=ha 0 _ rfl
 have a1:=(ha 1 _ rfl).int
 have e0:args.getD 0 undef = .slice none 0 0:=by generalize args.getD 0 undef=v at a0;cases a0;rfl
 rw[z8n hl e0 a1]
 have key:∀id∈keys [],Tr M M id:=by simp[keys]
 have b1:∀(M':Mem) (w':World),eX N M' w' 1000000 (.tok sz 0)->∀id blk,Heap.get [(1000000,Block.tok sz 0)] id=some blk->eX N M' w' id blk:=by
  intro M' w' h id blk e
  rw[Heap.get_cons]at e
  split at e
  ·rename_i q;subst q;simp only[Option.some.injEq]at e;subst e;exact h
  ·simp[Heap.get]at e
 rcases Nat.eq_zero_or_pos n with hn0 |hn0
 ·subst hn0
  refine(Any8.slices_Grow_room L none 0 0 0 w (by omega) (by omega) (by omega) (by omega)).mono λe w'=>?_
  rintro⟨rfl,rfl⟩
  refine⟨M.set 1000000 (some .nil),?_,by simp[keys],b1 _ _ (.inl ⟨Mem.set_same _ _ _,rfl⟩),_,rfl,.gs _ _ _ _ _ _ (.sl0 _ _ _ (by simp[maxLen])) (λ_=>⟨rfl,rfl⟩) λb lo e=>?_⟩
  ·refine⟨rfl,rfl,rfl,Nat.le_refl _,λ_ _ _=>rfl,λ_ _ _ _ h=>h,λb arr t h=>⟨arr,h,rfl⟩,λid hid=>Mem.set_other _ _ _ _ (by simpa[keys]using hid),?_,?_⟩
   ·intro id hid ow' b o e1 e2
    simp only[keys,List.mem_singleton]at hid;subst hid
    rw[Mem.set_same]at e1;simp only[Option.some.injEq]at e1;subst e1;exact e2.elim
   ·intro id hid id' hid' hne
    simp only[keys,List.mem_singleton]at hid hid';exact absurd (hid.trans hid'.symm) hne
  ·rw[Mem.set_same]at e;simp at e
 ·obtain⟨i,h1,h2,h3,h4⟩:=(hT (ρ.t 25)).info (bu hk)
  obtain⟨z,h5,h6,h7⟩:=h4 hz
  have hzc:z.cells.size=sz:=by rw[<-Array.length_toList,h6,List.length_map,hzs]
  have hle:=grownCap_le_maxLen w (0+n) 0 (ρ.t 25) (by unfold maxLen;omega)
  have hge:=grownCap_ge w (0+n) 0 (ρ.t 25)
  refine(Any8.slices_Grow_grow L i z h1 h5 (by omega) none 0 0 n [] w (by omega) (by omega) (by rw[h3];simpa using hn) (by omega) (by simp) (λ_=>rfl) (by simp)).mono λe w'=>?_
  rintro⟨rfl,rfl⟩
  have hst:=(Step.drew M w).trans0 (Step.alloc M w.drew 1000000 (.cells ((([]:List Value).toArray++Builtin.zeroCells z.cells (0+n-0))++Builtin.zeroCells z.cells (grownCap w (0+n) 0 (ρ.t 25)-(0+n))) (ρ.t 25)) (.tail w.drew.heap.size (0 * sz)) λb x h=>h.1)
  have hrow:=pO w.drew ((([]:List Value).toArray++Builtin.zeroCells z.cells (0+n-0))++Builtin.zeroCells z.cells (grownCap w (0+n) 0 (ρ.t 25)-(0+n))) (ρ.t 25)
  refine⟨_,hst,by simp[keys],b1 _ _ (.inr ⟨_,_,_,Mem.set_same _ _ _,hrow⟩),_,rfl,.gs _ _ _ _ _ _ (.sl0 _ _ _ hle) (λe=>?_) λb lo e=>?_⟩
  ·rw[Mem.set_same]at e;simp at e
  ·rw[Mem.set_same]at e;simp only[Option.some.injEq,Own.tail.injEq]at e
   obtain⟨rfl,rfl⟩:=e
   refine⟨by simp,λ_=>⟨rfl,_,_,hrow,?_⟩⟩
   simp only[Array.size_append,Cm,hzc,List.size_toArray,List.length_nil]
   rw[Nat.zero_add,<-Nat.add_mul]
   congr 1;omega
end Go.Fw
namespace Go.Proofs
open Go.Shelf
def Tryz.lays137_ren:Go.Shelf.Ren:=⟨λ| 137=>159 | 217=>161 | 266=>165 |n=>n,λ| 9=>9 | 5=>5 | 3=>3 |n=>n,λ|n=>n⟩
theorem Tryz.lays137:Go.Proofs.Lays.n137 Tryz.prog Tryz.lays137_ren:={
 mixed:=by kernel_rfl
 f137:=Tryz.func159.trans (congrArg some (by kernel_rfl))
 f217:=Tryz.func161.trans (congrArg some (by kernel_rfl))
 f266:=Tryz.func165.trans (congrArg some (by kernel_rfl))
 t3:=Tryz.underlying3
 a3:=Tryz.isAgg3
 z3:=Tryz.sizeOf3
 v3:=Tryz.zeroValue3
 t5:=Tryz.underlying5
 a5:=Tryz.isAgg5
 z5:=Tryz.sizeOf5
 v5:=Tryz.zeroValue5
 t9:=Tryz.underlying9
 a9:=Tryz.isAgg9
 z9:=Tryz.sizeOf9
 v9:=Tryz.zeroValue9 }
open Go.RowKit in
theorem Tryz.strings_IndexByte(s:ByteArray)(c:Int)(w:World) :
  Calls Tryz.prog 159 #[.string s,.int .u8 c] w λe w'=>e = .returned (.int .i64 (Lib.indexByte s.data.toList c.toNat.toUInt8))/\w'=w:=Any.strings_IndexByte Tryz.lays137 s c w
def Tryz.lays144_ren:Go.Shelf.Ren:=⟨λ| 144=>130 | 143=>157 | 219=>160 | 217=>161 | 225=>162 | 224=>163 | 267=>164 | 266=>165 | 314=>166 |n=>n,λ| 9=>9 | 4=>4 | 3=>3 | 5=>5 | 46=>181 | 146=>183 | 51=>182 |n=>n,λ| 1=>1 |n=>n⟩
theorem Tryz.lays144:Go.Proofs.Lays.n144 Tryz.prog Tryz.lays144_ren:={
 mixed:=by kernel_rfl
 f143:=Tryz.func157.trans (congrArg some (by kernel_rfl))
 f144:=Tryz.func130.trans (congrArg some (by kernel_rfl))
 f217:=Tryz.func161.trans (congrArg some (by kernel_rfl))
 f219:=Tryz.func160.trans (congrArg some (by kernel_rfl))
 f224:=Tryz.func163.trans (congrArg some (by kernel_rfl))
 f225:=Tryz.func162.trans (congrArg some (by kernel_rfl))
 f266:=Tryz.func165.trans (congrArg some (by kernel_rfl))
 f267:=Tryz.func164.trans (congrArg some (by kernel_rfl))
 f314:=Tryz.func166.trans (congrArg some (by kernel_rfl))
 t3:=Tryz.underlying3
 a3:=Tryz.isAgg3
 z3:=Tryz.sizeOf3
 v3:=Tryz.zeroValue3
 t4:=Tryz.underlying4
 a4:=Tryz.isAgg4
 z4:=Tryz.sizeOf4
 v4:=Tryz.zeroValue4
 t5:=Tryz.underlying5
 a5:=Tryz.isAgg5
 z5:=Tryz.sizeOf5
 v5:=Tryz.zeroValue5
 t9:=Tryz.underlying9
 a9:=Tryz.isAgg9
 z9:=Tryz.sizeOf9
 v9:=Tryz.zeroValue9
 t46:=Tryz.underlying181
 a46:=Tryz.isAgg181
 z46:=Tryz.sizeOf181
 v46:=Tryz.zeroValue181
 t51:=Tryz.underlying182
 a51:=Tryz.isAgg182
 z51:=Tryz.sizeOf182
 v51:=Tryz.zeroValue182
 t146:=Tryz.underlying183
 a146:=Tryz.isAgg183
 z146:=Tryz.sizeOf183
 v146:=Tryz.zeroValue183
 g1:=by kernel_rfl }
open Go.RowKit Go.Lib in
theorem Tryz.strings_Contains(s sub:ByteArray)(m:Int)(w:World)(hs:s.size<4294967281)(hm:w.cell? ⟨1,0,none⟩=some (.int .i64 m)) :
  Calls Tryz.prog 130 #[.string s,.string sub] w λe w'=>e = .returned (.bool (Lib.contains s.data.toList sub.data.toList))/\w'=w:=Any.strings_Contains Tryz.lays144 s sub m w hs hm
def Tryz.growB_ren:Go.Shelf.Ren:=⟨λ| 4=>95 |n=>n,λ| 22=>22 | 25=>57 | 3=>3 | 4=>4 | 9=>9 | 20=>20 | 0=>0 |n=>n,λ|n=>n⟩
theorem Tryz.growB:Go.Proofs.Lays8.n4 Tryz.prog Tryz.growB_ren:={
 mixed:=by kernel_rfl
 f4:=⟨Tryz.f95.name,by decide,Tryz.func95.trans (congrArg some (by kernel_rfl))⟩
 t0:=Tryz.underlying0
 a0:=Tryz.isAgg0
 z0:=Tryz.sizeOf0
 v0:=Tryz.zeroValue0
 t3:=Tryz.underlying3
 a3:=Tryz.isAgg3
 z3:=Tryz.sizeOf3
 v3:=Tryz.zeroValue3
 t4:=Tryz.underlying4
 a4:=Tryz.isAgg4
 z4:=Tryz.sizeOf4
 v4:=Tryz.zeroValue4
 t9:=Tryz.underlying9
 a9:=Tryz.isAgg9
 z9:=Tryz.sizeOf9
 v9:=Tryz.zeroValue9
 t20:=Tryz.underlying20
 a20:=Tryz.isAgg20
 z20:=Tryz.sizeOf20
 v20:=Tryz.zeroValue20
 t22:=Tryz.underlying22
 a22:=Tryz.isAgg22
 z22:=Tryz.sizeOf22
 v22:=Tryz.zeroValue22 }
end Go.Proofs
