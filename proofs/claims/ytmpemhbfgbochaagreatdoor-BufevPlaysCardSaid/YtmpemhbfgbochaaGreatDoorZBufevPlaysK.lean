/-
  The library laid at this seat (written by the shelf's own tool).
-/
import Derived.Shelf.Strings.OnBuilder
import Derived.Shelf.Strconv.Itoa0
import Derived.Shelf.Strconv.Itoa1
import Derived.Shelf.LaysM
import Derived.Shelf.Strconv.Itoa2
import Derived.Shelf.Strconv.Itoa3
import Derived.Test.YtmpemhbfgbochaaGreatDoorProg
import Derived.Lib.Walk
import Derived.Lib.ItoaMem
import Derived.WalkKit
import Derived.BigCall
import Derived.BigGuard
import Derived.Test.YtmpemhbfgbochaaGreatDoorZBufevPlaysJ
set_option linter.unusedSimpArgs false
set_option linter.unusedVariables false
set_option linter.unnecessarySimpa false
set_option maxRecDepth 8000
set_option maxHeartbeats 2000000
open Go.RX.Hd (yv y2 n1 fk sk sr tH callE heldK qo qk qn qt qz qv endH thenN slots)
namespace Go.Proofs
open Go.Shelf
def Tryz.lays156_ren:Go.Shelf.Ren:=⟨fun | 156=>168 | 165=>220 | 166=>221 | 169=>222 | 240=>243 | 241=>244 | 276=>251 | 277=>252 | n=>n,fun | 31=>137 | 9=>9 | 3=>3 | 4=>4 | 0=>0 | 20=>20 | 72=>296 | 76=>299 | 70=>294 | 37=>30 | 75=>298 | 127=>322 | 164=>328 | 5=>5 | 80=>301 | n=>n,fun | n=>n⟩
theorem Tryz.lays156:Go.Proofs.Lays.n156 Tryz.prog Tryz.lays156_ren:={
  mixed:=by kernel_rfl
  f156:=Tryz.func168.trans (congrArg some (by kernel_rfl))
  f165:=Tryz.func220.trans (congrArg some (by kernel_rfl))
  f166:=Tryz.func221.trans (congrArg some (by kernel_rfl))
  f169:=Tryz.func222.trans (congrArg some (by kernel_rfl))
  f240:=Tryz.func243.trans (congrArg some (by kernel_rfl))
  f241:=Tryz.func244.trans (congrArg some (by kernel_rfl))
  f276:=Tryz.func251.trans (congrArg some (by kernel_rfl))
  f277:=Tryz.func252.trans (congrArg some (by kernel_rfl))
  t0:=Tryz.underlying0
  a0:=Tryz.isAgg0
  z0:=Tryz.sizeOf0
  v0:=Tryz.zeroValue0
  t3:=Tryz.underlying3
  a3:=Tryz.isAgg3
  z3:=Tryz.sizeOf3
  v3:=Tryz.zeroValue3
  t4:=Tryz.underlying4
  a4:=Tryz.isAgg4
  z4:=Tryz.sizeOf4
  v4:=Tryz.zeroValue4
  t9:=Tryz.underlying9
  a9:=Tryz.isAgg9
  z9:=Tryz.sizeOf9
  v9:=Tryz.zeroValue9
  t20:=Tryz.underlying20
  a20:=Tryz.isAgg20
  z20:=Tryz.sizeOf20
  v20:=Tryz.zeroValue20
  t31:=Tryz.underlying137
  a31:=Tryz.isAgg137
  z31:=Tryz.sizeOf137
  v31:=Tryz.zeroValue137
  t37:=Tryz.underlying30
  a37:=Tryz.isAgg30
  z37:=Tryz.sizeOf30
  v37:=Tryz.zeroValue30
  t70:=Tryz.underlying294
  a70:=Tryz.isAgg294
  z70:=Tryz.sizeOf294
  v70:=Tryz.zeroValue294
  t72:=Tryz.underlying296
  a72:=Tryz.isAgg296
  z72:=Tryz.sizeOf296
  v72:=Tryz.zeroValue296
  t75:=Tryz.underlying298
  a75:=Tryz.isAgg298
  z75:=Tryz.sizeOf298
  v75:=Tryz.zeroValue298
  t76:=Tryz.underlying299
  a76:=Tryz.isAgg299
  z76:=Tryz.sizeOf299
  v76:=Tryz.zeroValue299
  t127:=Tryz.underlying322
  a127:=Tryz.isAgg322
  z127:=Tryz.sizeOf322
  v127:=Tryz.zeroValue322
  t164:=Tryz.underlying328
  a164:=Tryz.isAgg328
  z164:=Tryz.sizeOf328
  v164:=Tryz.zeroValue328 }
theorem Tryz.Builder_Extra_156:Builder.Extra Tryz.prog Tryz.lays156_ren:={
  sizeBuilder:=by kernel_rfl
  liesBuilder:=by kernel_rfl
  t5:=Tryz.underlying5
  a5:=Tryz.isAgg5
  z5:=Tryz.sizeOf5
  v5:=Tryz.zeroValue5
  infoByte:=by kernel_rfl
  cellsByte:=by kernel_rfl
  sizeByte:=by kernel_rfl
  neB5:=by decide }
open Go.RowKit in
theorem Tryz.strings_Join (bk o c:Nat) (xs:List ByteArray) (sep:ByteArray) (w:World) (hcells:∀ (j:Nat) x,xs[j]?=some x→w.cell? ⟨bk,o + j,none⟩=some (.string x)) (hbk:bk < w.heap.size) (hN:xs.length≤140737488355328) (hcap:xs.length≤c) (hlen:(Lib.join (xs.map (·.data.toList)) sep.data.toList).length≤140737488355328) :
    Calls Tryz.prog 168 #[.slice (some ⟨bk,o,none⟩) xs.length c,.string sep] w fun e w'=>e=.returned (.string ⟨(Lib.join (xs.map (·.data.toList)) sep.data.toList).toArray⟩)∧Below w.heap.size w w':=Any.strings_Join Tryz.lays156 Tryz.Builder_Extra_156 bk o c xs sep w hcells hbk hN hcap hlen
def Tryz.lays283_ren:Go.Shelf.Ren:=⟨fun | 283=>238 | n=>n,fun | 3=>3 | 9=>9 | 4=>4 | n=>n,fun | n=>n⟩
theorem Tryz.lays283:Go.Proofs.Lays.n283 Tryz.prog Tryz.lays283_ren:={
  mixed:=by kernel_rfl
  f283:=Tryz.func238.trans (congrArg some (by kernel_rfl))
  t3:=Tryz.underlying3
  a3:=Tryz.isAgg3
  z3:=Tryz.sizeOf3
  v3:=Tryz.zeroValue3
  t4:=Tryz.underlying4
  a4:=Tryz.isAgg4
  z4:=Tryz.sizeOf4
  v4:=Tryz.zeroValue4
  t9:=Tryz.underlying9
  a9:=Tryz.isAgg9
  z9:=Tryz.sizeOf9
  v9:=Tryz.zeroValue9 }
open Go.Lib in
theorem Tryz.internal_strconv_small (i:Nat) (h:i < 100) (w:World) :
    Calls Tryz.prog 238 #[.int .i64 i] w fun e w'=>e=.returned (.string ⟨(Lib.decDigits i).toArray⟩)∧w'=w:=Any.internal_strconv_small Tryz.lays283 i h w
def Tryz.laysM284_ren:Go.Shelf.Ren:=⟨fun | 284=>239 | 129=>247 | 317=>246 | 318=>248 | n=>n,fun | 53=>29 | 3=>3 | 212=>324 | 0=>0 | 4=>4 | 46=>321 | 5=>5 | 9=>9 | n=>n,fun | 17=>1 | n=>n⟩
theorem Tryz.laysM284:Go.Proofs.LaysM.n284 Tryz.prog Tryz.laysM284_ren:={
  mixed:=by kernel_rfl
  f129:=Tryz.func247.trans (congrArg some (by kernel_rfl))
  f284:=Tryz.func239.trans (congrArg some (by kernel_rfl))
  f317:=Tryz.func246.trans (congrArg some (by kernel_rfl))
  f318:=Tryz.func248.trans (congrArg some (by kernel_rfl))
  t0:=Tryz.underlying0
  a0:=Tryz.isAgg0
  z0:=Tryz.sizeOf0
  v0:=Tryz.zeroValue0
  t3:=Tryz.underlying3
  a3:=Tryz.isAgg3
  z3:=Tryz.sizeOf3
  v3:=Tryz.zeroValue3
  t4:=Tryz.underlying4
  a4:=Tryz.isAgg4
  z4:=Tryz.sizeOf4
  v4:=Tryz.zeroValue4
  t5:=Tryz.underlying5
  a5:=Tryz.isAgg5
  z5:=Tryz.sizeOf5
  v5:=Tryz.zeroValue5
  t9:=Tryz.underlying9
  a9:=Tryz.isAgg9
  z9:=Tryz.sizeOf9
  v9:=Tryz.zeroValue9
  t46:=Tryz.underlying321
  a46:=Tryz.isAgg321
  z46:=Tryz.sizeOf321
  v46:=Tryz.zeroValue321
  t53:=Tryz.underlying29
  a53:=Tryz.isAgg29
  z53:=Tryz.sizeOf29
  v53:=Tryz.zeroValue29
  t212:=Tryz.underlying324
  a212:=Tryz.isAgg324
  z212:=Tryz.sizeOf324
  v212:=Tryz.zeroValue324
  g17:=by kernel_rfl
  i0:=by kernel_rfl
  i3:=by kernel_rfl
  i4:=by kernel_rfl
  i5:=by kernel_rfl
  i9:=by kernel_rfl
  i46:=by kernel_rfl
  i53:=by kernel_rfl
  i212:=by kernel_rfl
  m17:=by kernel_rfl }
open Go.Lib in
theorem Tryz.internal_strconv_numDigits (u : Nat) (h1 : 1 ≤ u) (h2 : u < 18446744073709551616) (w : World) (htab : Lib.TabIs Tryz.prog w "internal/strconv.uint64pow10" .u64 Lib.pow10Tab) :
    Calls Tryz.prog 239 #[.int .u64 u] w fun e w'=>e=.returned (.int .i64 (Lib.nDigits u))∧w'=w:=Any.internal_strconv_numDigits Tryz.laysM284 u h1 h2 w htab
def Tryz.lays285_ren:Go.Shelf.Ren:=⟨fun | 285=>240 | n=>n,fun | 37=>30 | 53=>29 | 3=>3 | 4=>4 | 51=>325 | 9=>9 | 5=>5 | 0=>0 | n=>n,fun | n=>n⟩
theorem Tryz.lays285:Go.Proofs.Lays.n285 Tryz.prog Tryz.lays285_ren:={
  mixed:=by kernel_rfl
  f285:=Tryz.func240.trans (congrArg some (by kernel_rfl))
  t0:=Tryz.underlying0
  a0:=Tryz.isAgg0
  z0:=Tryz.sizeOf0
  v0:=Tryz.zeroValue0
  t3:=Tryz.underlying3
  a3:=Tryz.isAgg3
  z3:=Tryz.sizeOf3
  v3:=Tryz.zeroValue3
  t4:=Tryz.underlying4
  a4:=Tryz.isAgg4
  z4:=Tryz.sizeOf4
  v4:=Tryz.zeroValue4
  t5:=Tryz.underlying5
  a5:=Tryz.isAgg5
  z5:=Tryz.sizeOf5
  v5:=Tryz.zeroValue5
  t9:=Tryz.underlying9
  a9:=Tryz.isAgg9
  z9:=Tryz.sizeOf9
  v9:=Tryz.zeroValue9
  t37:=Tryz.underlying30
  a37:=Tryz.isAgg30
  z37:=Tryz.sizeOf30
  v37:=Tryz.zeroValue30
  t51:=Tryz.underlying325
  a51:=Tryz.isAgg325
  z51:=Tryz.sizeOf325
  v51:=Tryz.zeroValue325
  t53:=Tryz.underlying29
  a53:=Tryz.isAgg29
  z53:=Tryz.sizeOf29
  v53:=Tryz.zeroValue29 }
open Go.RowKit Go.Sort Go.Lib in
theorem Tryz.internal_strconv_formatBase10 (blk off cap:Nat) (u:Nat) (d:Array UInt8) (w:World) (hH:Holds (fun (b:UInt8)=>Value.int .u8 (b.toNat:Int)) w blk off d) (hu:u < 10 ^ d.size) (hu64:u < 18446744073709551616) (hsz:d.size < 4611686018427387904) :
    Calls Tryz.prog 240 #[.slice (some ⟨blk,off,none⟩) d.size cap,.int .u64 u] w fun e w' =>
      e=.returned (.tuple #[])∧∃ (n v':Nat) (dk:Array UInt8),w'=(putRow (fun (b:UInt8)=>Value.int .u8 (b.toNat:Int)) w blk off dk).drewN n∧FmtInv d.size u 0 v' dk:=Any.internal_strconv_formatBase10 Tryz.lays285 blk off cap u d w hH hu hu64 hsz
def Tryz.laysM171_ren:Go.Shelf.Ren:=⟨fun | 171=>166 | 243=>217 | 246=>242 | 283=>238 | 284=>239 | 285=>240 | 286=>241 | 129=>247 | 317=>246 | 318=>248 | 319=>249 | 320=>250 | 337=>253 | 338=>254 | n=>n,fun | 3=>3 | 9=>9 | 2=>2 | 4=>4 | 171=>316 | 0=>0 | 53=>29 | 37=>30 | 5=>5 | 173=>318 | 212=>324 | 51=>325 | 20=>20 | 213=>326 | 46=>321 | 232=>331 | 233=>332 | n=>n,fun | 17=>1 | 18=>3 | 19=>4 | n=>n⟩
theorem Tryz.laysM171:Go.Proofs.LaysM.n171 Tryz.prog Tryz.laysM171_ren:={
  mixed:=by kernel_rfl
  f129:=Tryz.func247.trans (congrArg some (by kernel_rfl))
  f171:=Tryz.func166.trans (congrArg some (by kernel_rfl))
  f243:=Tryz.func217.trans (congrArg some (by kernel_rfl))
  f246:=Tryz.func242.trans (congrArg some (by kernel_rfl))
  f283:=Tryz.func238.trans (congrArg some (by kernel_rfl))
  f284:=Tryz.func239.trans (congrArg some (by kernel_rfl))
  f285:=Tryz.func240.trans (congrArg some (by kernel_rfl))
  f286:=Tryz.func241.trans (congrArg some (by kernel_rfl))
  f317:=Tryz.func246.trans (congrArg some (by kernel_rfl))
  f318:=Tryz.func248.trans (congrArg some (by kernel_rfl))
  f319:=Tryz.func249.trans (congrArg some (by kernel_rfl))
  f320:=Tryz.func250.trans (congrArg some (by kernel_rfl))
  f337:=Tryz.func253.trans (congrArg some (by kernel_rfl))
  f338:=Tryz.func254.trans (congrArg some (by kernel_rfl))
  t0:=Tryz.underlying0
  a0:=Tryz.isAgg0
  z0:=Tryz.sizeOf0
  v0:=Tryz.zeroValue0
  t2:=Tryz.underlying2
  a2:=Tryz.isAgg2
  z2:=Tryz.sizeOf2
  v2:=Tryz.zeroValue2
  t3:=Tryz.underlying3
  a3:=Tryz.isAgg3
  z3:=Tryz.sizeOf3
  v3:=Tryz.zeroValue3
  t4:=Tryz.underlying4
  a4:=Tryz.isAgg4
  z4:=Tryz.sizeOf4
  v4:=Tryz.zeroValue4
  t5:=Tryz.underlying5
  a5:=Tryz.isAgg5
  z5:=Tryz.sizeOf5
  v5:=Tryz.zeroValue5
  t9:=Tryz.underlying9
  a9:=Tryz.isAgg9
  z9:=Tryz.sizeOf9
  v9:=Tryz.zeroValue9
  t20:=Tryz.underlying20
  a20:=Tryz.isAgg20
  z20:=Tryz.sizeOf20
  v20:=Tryz.zeroValue20
  t37:=Tryz.underlying30
  a37:=Tryz.isAgg30
  z37:=Tryz.sizeOf30
  v37:=Tryz.zeroValue30
  t46:=Tryz.underlying321
  a46:=Tryz.isAgg321
  z46:=Tryz.sizeOf321
  v46:=Tryz.zeroValue321
  t51:=Tryz.underlying325
  a51:=Tryz.isAgg325
  z51:=Tryz.sizeOf325
  v51:=Tryz.zeroValue325
  t53:=Tryz.underlying29
  a53:=Tryz.isAgg29
  z53:=Tryz.sizeOf29
  v53:=Tryz.zeroValue29
  t171:=Tryz.underlying316
  a171:=Tryz.isAgg316
  z171:=Tryz.sizeOf316
  v171:=Tryz.zeroValue316
  t173:=Tryz.underlying318
  a173:=Tryz.isAgg318
  z173:=Tryz.sizeOf318
  v173:=Tryz.zeroValue318
  t212:=Tryz.underlying324
  a212:=Tryz.isAgg324
  z212:=Tryz.sizeOf324
  v212:=Tryz.zeroValue324
  t213:=Tryz.underlying326
  a213:=Tryz.isAgg326
  z213:=Tryz.sizeOf326
  t232:=Tryz.underlying331
  a232:=Tryz.isAgg331
  z232:=Tryz.sizeOf331
  v232:=Tryz.zeroValue331
  t233:=Tryz.underlying332
  a233:=Tryz.isAgg332
  z233:=Tryz.sizeOf332
  v233:=Tryz.zeroValue332
  g17:=by kernel_rfl
  g18:=by kernel_rfl
  g19:=by kernel_rfl
  i0:=by kernel_rfl
  i2:=by kernel_rfl
  i3:=by kernel_rfl
  i4:=by kernel_rfl
  i5:=by kernel_rfl
  i9:=by kernel_rfl
  i20:=by kernel_rfl
  i37:=by kernel_rfl
  i46:=by kernel_rfl
  i51:=by kernel_rfl
  i53:=by kernel_rfl
  i171:=by kernel_rfl
  i173:=by kernel_rfl
  i212:=by kernel_rfl
  i232:=by kernel_rfl
  i233:=by kernel_rfl
  m17:=by kernel_rfl
  m18:=by kernel_rfl
  m19:=by kernel_rfl }
open Go.RowKit Go.Sort Go.Lib in
theorem Tryz.strconv_Itoa (n : Int) (h0 : -9223372036854775808 ≤ n) (h1 : n ≤ 9223372036854775807) (w : World) (htab : Lib.TabIs Tryz.prog w "internal/strconv.uint64pow10" .u64 Lib.pow10Tab) :
    Calls Tryz.prog 166 #[.int .i64 n] w fun e w'=>e=.returned (.string ⟨(Lib.itoa n).toArray⟩)∧∃ k os,w'=grow (w.drewN k) os:=Any.strconv_Itoa Tryz.laysM171 n h0 h1 w htab
end Go.Proofs
namespace Go.Proofs.YtmpemhbfgbochaaGreatDoor
open Go.Shelf Go.RowKit Go.Sort Go.Lib
theorem holds0 (w:World) (T:TypeId) (nd:Nat) (hs:nd≤24):Holds (fun (b:UInt8)=>Value.int .u8 (b.toNat:Int)) (w.alloc (.cells zeros24 T)) w.heap.size 0 (Array.replicate nd (0:UInt8)):=fun j hj=>by
  have hj':j < nd:=by simpa using hj
  refine ⟨?_,World.frozen?_alloc_new _ _ _ _⟩
  rw [World.cell?_alloc_new,zeros24_at _ (by omega),getElem!_pos _ j hj]
  simp
theorem fin0 (w:World) (o:Obj) (dk:Array UInt8) (k:Nat):∃ os,(putRow (fun (b:UInt8)=>Value.int .u8 (b.toNat:Int)) (w.alloc o) w.heap.size 0 dk).drewN k=grow (w.drewN k) os:=by
  rw [alloc_eq_grow]
  obtain ⟨os',_,e⟩:=putRow_grow_new (fun (b:UInt8)=>Value.int .u8 (b.toNat:Int)) w #[o] w.heap.size 0 dk (Nat.le_refl _)
  exact ⟨os',by rw [e];rfl⟩
set_option maxHeartbeats 6400000 in
set_option maxRecDepth 100000 in
theorem isFmtUint (u : Nat) (hu64 : u < 18446744073709551616) (w : World) (htab : Lib.TabIs Tryz.prog w "internal/strconv.uint64pow10" .u64 Lib.pow10Tab) :
    Calls Tryz.prog 216 #[.int .u64 (u:Int),.int .i64 10] w fun e w'=>e=.returned (.string ⟨(Lib.decDigits u).toArray⟩)∧∃ k os,w'=grow (w.drewN k) os:=by
  have e238:∀ args w,(callFunc 238 args).run Tryz.prog w=.ok (.enter 238 args) w:=enters_of Tryz.func238 (by kernel_rfl) rfl
  have e239:∀ args w,(callFunc 239 args).run Tryz.prog w=.ok (.enter 239 args) w:=enters_of Tryz.func239 (by kernel_rfl) rfl
  have e240:∀ args w,(callFunc 240 args).run Tryz.prog w=.ok (.enter 240 args) w:=enters_of Tryz.func240 (by kernel_rfl) rfl
  by_cases hs:u < 100
  · go_enter Tryz.func216,Tryz.ntmps216
    go_wp2_with (go_at_call 238;refine (Tryz.internal_strconv_small u hs _).mono ?_;rintro e w' ⟨rfl,rfl⟩)
    go_ret
    exact ⟨rfl,0,#[],by simp [World.drewN_zero]⟩
  · have hu1:1≤u:=by omega
    have hnd20:Lib.nDigits u≤20:=by have:=Lib.numDigits_eq u hu1 hu64;split at this<;>omega
    have hal:Tryz.prog.arrayLen 316=24:=by simp [Program.arrayLen,Tryz.underlying316]
    have hsl1:∀ W,(Instr.sliceAt 316 (.pointer (some ⟨w.heap.size,0,none⟩)) none (some (.int .i64 (Lib.nDigits u:Int))) none).run Tryz.prog W=.ok (.slice (some ⟨w.heap.size,0,none⟩) (Lib.nDigits u) 24) W:=fun W=>by
      rw [run_sliceAt_array_h W 316 ⟨w.heap.size,0,none⟩ (by simp [Program.arrayLen,Program.elem,Tryz.underlying316]) .i64 (Lib.nDigits u:Int) (by omega) (by rw [hal];omega)]
      go_simp
    have hH0:=holds0 w 316 (Lib.nDigits u) (by omega)
    have hfmt:=Tryz.internal_strconv_formatBase10 w.heap.size 0 24 u (Array.replicate (Lib.nDigits u) 0) (w.alloc (.cells Lib.zeros24 316)) hH0 (by rw [Array.size_replicate];exact Lib.lt_pow_nDigits u) hu64 (by rw [Array.size_replicate];omega)
    rw [Array.size_replicate] at hfmt
    have HH0:=Lib.hid hH0
    clear hH0 hal
    go_enter Tryz.func216,Tryz.ntmps216
    go_wp2_with (first
      | (go_at_call 239;refine (Tryz.internal_strconv_numDigits u hu1 hu64 _ (Lib.tabIs_alloc htab _)).mono ?_;rintro e w' ⟨rfl,rfl⟩))
    go_at_call 240
    refine hfmt.mono ?_
    rintro e w' ⟨rfl,k,v',dk,rfl,hF⟩
    have hcv:(convert 30 9 (.slice (some ⟨w.heap.size,0,none⟩) (Lib.nDigits u) 24)).run Tryz.prog ((putRow (fun (b:UInt8)=>Value.int .u8 (b.toNat:Int)) (w.alloc (.cells Lib.zeros24 316)) w.heap.size 0 dk).drewN k)=.ok (.string ⟨(Lib.decDigits u).toArray⟩) ((putRow (fun (b:UInt8)=>Value.int .u8 (b.toNat:Int)) (w.alloc (.cells Lib.zeros24 316)) w.heap.size 0 dk).drewN k):=by
      have h:=run_convert_bytes_back (P:=Tryz.prog) ((putRow (fun (b:UInt8)=>Value.int .u8 (b.toNat:Int)) (w.alloc (.cells Lib.zeros24 316)) w.heap.size 0 dk).drewN k) 30 9 5 ⟨w.heap.size,0,none⟩ 24 (Lib.decDigits u) Tryz.underlying30 Tryz.underlying5 Tryz.underlying9 (fun j hj=>by
        rw [Lib.row_is_numeral hF j hj,Lib.add_plain,World.cell?_drewN]
        exact cell?_putRow (fun (b:UInt8)=>Value.int .u8 (b.toNat:Int)) _ w.heap.size 0 _ dk HH0.out (by rw [hF.size,Array.size_replicate]) j (by rw [hF.size];rw [Lib.decDigits_length] at hj;exact hj))
      rw [Lib.decDigits_length] at h
      exact h
    go_wp2
    go_ret
    obtain ⟨os,eo⟩:=fin0 w (.cells Lib.zeros24 316) dk k
    exact ⟨rfl,k,os,eo⟩
theorem sFmtUint (u : Nat) (hu64 : u < 18446744073709551616) (w : World) (htab : Lib.TabIs Tryz.prog w "internal/strconv.uint64pow10" .u64 Lib.pow10Tab) :
    Calls Tryz.prog 165 #[.int .u64 (u:Int),.int .i64 10] w fun e w'=>e=.returned (.string ⟨(Lib.decDigits u).toArray⟩)∧∃ k os,w'=grow (w.drewN k) os:=by
  have e216:∀ args w,(callFunc 216 args).run Tryz.prog w=.ok (.enter 216 args) w:=enters_of Tryz.func216 (by kernel_rfl) rfl
  go_enter Tryz.func165,Tryz.ntmps165
  go_wp2_with (go_at_call 216;refine (isFmtUint u hu64 _ htab).mono ?_;rintro e w' ⟨rfl,k,os,rfl⟩)
  go_ret
  exact ⟨rfl,k,os,rfl⟩
end Go.Proofs.YtmpemhbfgbochaaGreatDoor
namespace Go.Proofs.YtmpemhbfgbochaaGreatDoor
open Go.RX Go.RowKit
namespace Wo
theorem hp_below {w w':World} (h:Below w.heap.size w w'):Sub (hp w) (hp w'):=fun k c e=>by
 unfold hp at e ⊢
 have hb:k.1 < w.heap.size:=Decidable.byContradiction fun h=>by
  rw [Array.getElem?_eq_none (by omega)] at e
  cases k.2<;>simp [hpo] at e
 rw [h.block _ hb];exact e
theorem satBelow {E w w':World} {L:List SP} (s:Sat E L w) (h:Below w.heap.size w w'):Sat E L w' :=
 ⟨⟨h.os.trans s.1.1,Nat.zero_le _⟩,h.tape.trans s.2.1,h.output.trans s.2.2.1,s.2.2.2.up (hp_below h)⟩
theorem growBelow {w:World} (k:Nat) (os:Array Obj):Below w.heap.size w (Go.Sort.grow (w.drewN k) os):=⟨rfl,rfl,rfl,by simp [Go.Sort.grow],fun b hb=>Array.getElem?_append_left hb⟩
def Tb (L : List SP) : Prop := ∀ w : World, sep L (hp w) → Lib.TabIs Tryz.prog w "internal/strconv.uint64pow10" .u64 Lib.pow10Tab
theorem Tb.mono {L M:List SP} (h:Tb L) (e:∀ k,sep M k→sep L k):Tb M:=fun w s=>h w (e _ s)
theorem itoa_ct (L:List SP) (hT:Tb L) (n:Nat) (hn:n≤9223372036854775807):Ct Tryz.prog 166 #[.int .i64 (n:Int)] L (fun _:Unit=>.string (str (dgB n))) (fun _=>L):=fun E w s =>
 Calls.mono (Tryz.strconv_Itoa (n:Int) (by omega) (by omega) w (hT w s.2.2.2)) fun e w' ⟨he,k,os,hw⟩=>⟨(),by rw [he,Lib.itoa_nonneg],by subst hw;exact satBelow s (growBelow k os)⟩
theorem fmtu_ct (L:List SP) (hT:Tb L) (n:Nat) (hn:n≤18446744073709551615):Ct Tryz.prog 165 #[.int .u64 (n:Int),.int .i64 10] L (fun _:Unit=>.string (str (dgB n))) (fun _=>L):=fun E w s =>
 Calls.mono (sFmtUint n (by omega) w (hT w s.2.2.2)) fun e w' ⟨he,k,os,hw⟩=>⟨(),he,by subst hw;exact satBelow s (growBelow k os)⟩
theorem hp_lt {w:World} {b:Nat} {q:Option Nat} {c:Ce} (h:hp w (b,q)=some c):b < w.heap.size:=Decidable.byContradiction fun hn=>by
 unfold hp at h;rw [Array.getElem?_eq_none (by show w.heap.size≤b;omega)] at h
 cases q<;>simp [hpo] at h
theorem join_ct (L:List SP) (ad:Option Addr) (c:Nat) (xs:List (List UInt8)) (sp:List UInt8) (hR:RdS L 1 ad xs.length (xs.map fun s=>Value.string (str s))) (h0:0 < xs.length) (hc:xs.length≤c) (hN:xs.length≤140737488355328) (hl:(Lib.join xs sp).length≤140737488355328) :
  Ct Tryz.prog 168 #[.slice ad xs.length c,.string (str sp)] L (fun _:Unit=>.string (str (Lib.join xs sp))) (fun _=>L):=fun E w s=>by
 obtain ⟨_,hv⟩:=hR _ s.2.2.2
 rcases hv with h | ⟨b,o,rfl,hv⟩
 ·omega
 have hcell:∀ (j:Nat) x,(xs.map str)[j]?=some x→w.cell? ⟨b,o + j,none⟩=some (.string x):=fun j x hx=>by
  rw [List.getElem?_map] at hx
  cases hj:xs[j]? with
  | none=>rw [hj] at hx;cases hx
  | some y =>
   rw [hj] at hx;simp only [Option.map_some,Option.some.injEq] at hx;subst hx
   obtain ⟨fr,hh⟩:=hv j (.string (str y)) (by rw [List.getElem?_map,hj];rfl)
   exact cell_hp hh
 have hb:b < w.heap.size:=by
  obtain ⟨fr,hh⟩:=hv 0 _ (by rw [List.getElem?_map,List.getElem?_eq_getElem h0];rfl)
  exact hp_lt hh
 have hm:(xs.map str).map (·.data.toList)=xs:=by
  rw [List.map_map];exact (List.map_congr_left fun x _=>by simp).trans (List.map_id' _)
 have:=Tryz.strings_Join b o c (xs.map str) (str sp) w hcell hb (by rw [List.length_map];exact hN) (by rw [List.length_map];exact hc) (by rw [hm];exact hl)
 rw [hm,List.length_map] at this;exact Calls.mono this fun e w' ⟨he,hw⟩=>⟨(),he,satBelow s hw⟩
end Wo
end Go.Proofs.YtmpemhbfgbochaaGreatDoor
namespace Go.Proofs.YtmpemhbfgbochaaGreatDoor
open Go.RX Fx
namespace Wo
open Rf
theorem end_eq {e:EndA} {q:Nat} (hq:e.what=(q:Int)) (p:Option Nat):encE e p=[.int .i64 (q:Int),.int .i64 e.fd,ptr p,.bool e.wr,.bool e.shut,.int .u64 e.inn,.int .u64 e.out]:=by rw [←hq]
theorem words_ct (L:List SP) (hT:Tb L) (e:EndA) (q:Nat) (hq:e.what=(q:Int)) (hq3:q≤3) (p:Option Nat) (hp:p.isSome=e.rd) (cap:Nat) (hc:cap≤65536) (hl:e.b.length≤cap):Ct Tryz.prog 167 #[.agg (encE e p).toArray] (RgO p cap e.b::L) (fun q_:Option Addr×Nat=>.slice q_.1 (wordsA e cap).length q_.2) (fun q_:Option Addr×Nat=>own 9 1 q_.1 (wordsA e cap).length q_.2 (VLs (wordsA e cap))::RgO p cap e.b::L):=by
 refine Ct.o1 Tryz.func167 ?_;intro E
 show Hd E 41 _ _ _ _
 rw [end_eq hq];refine sr fun _ K1=>?_
 refine Hd.box rfl rfl (fun b1=>?_);refine yv y_as<|fk [(1,_)] K1 ?_;refine sr fun _ K2=>?_
 refine Hd.bslice (vs:=[(0,_),(1,_),(2,_),(3,_)]) rfl (by exact bsS4 ..) (fun b4=>?_);refine yv (y_f 0 3 Tryz.underlying195 sz3)<|yv (y_l1 ag3 rfl)<|yv (y_idxS Tryz.underlying137 sz9 rfl rfl (by omega)) ?_;refine yv (y_load1 (v:=.string (str (kindB (q:Int)))) ag9 rfl (Rd.pt1 (cs:=kindsV) pkk (by rw [show (0 + q * 1)=q by omega];exact kinds_at hq3))) ?_;refine Hd.bslice (vs:=[(0,_)]) rfl (by exact bs167_9 ..) (fun b9=>?_);refine Hd.ptOwn (m:=1) pkk rfl (by decide) ?_;refine yv y_as<|fk [(1,_),(3,_)] K2 ?_
 obtain ⟨W1,hW1⟩:∃ W1,[kindB (q:Int)]++(if e.shut=true then [sShut] else [])=W1:=⟨_,rfl⟩
 have hW1l:W1.length≤2:=by rw [←hW1];split<;>simp
 refine Hd.cutK (ι:=Option Addr×Nat) [(1,_)] (fun s=>[(3,.slice s.1 W1.length s.2)]) (fun s=>own 9 1 s.1 W1.length s.2 (VLs W1)::pt b1 [.int .i64 (q:Int),.int .i64 e.fd,ptr p,.bool e.wr,.bool e.shut,.int .u64 e.inn,.int .u64 e.out] 195::RgO p cap e.b::L) ?_ ?_ ⟨rfl,trivial⟩
 ·refine sr fun _ K3=>?_
  refine yv (y_f 4 4 Tryz.underlying195 sz4)<|yv (y_l1 ag4 rfl)<|fk [(1,_),(3,_),(11,_)] K3 ?_;refine qz ?_ ?_<;>intro hc0<;>try simp only [hyZ] at hc0
  ·rw [if_pos hc0] at hW1
   refine Hd.region<|yv y_mv<|Hd.bslice (vs:=[(0,_)]) rfl (by exact bsS1 ..) (fun b13=>?_);refine Hd.append Tryz.underlying137 ty9 rfl rfl rfl pkk (by exact RdS.rd (Rd.pt pkk (fun j v e=>by simpa using e)) rfl) (by simp [Value.oneCell'];done) (by simp only [maxLen];omega) (by omega) (fun ad14 cap14=>?_);refine yv y_as<|Hd.nil<|slots [(1,_),(3,_)] sbq ?_;refine thenN ?_;exact Hd.meet (ad14,cap14) ⟨by rw [←hW1];rfl,by repeat (first | exact trivial | refine ⟨rfl,?_⟩)⟩ (Ent.sep (.eq pkk (own_eq3 (by rw [←hW1];rfl) rfl (by rw [←hW1];rfl)) enn))
  rw [if_neg (by simpa using hc0),List.append_nil] at hW1;refine Hd.skip<|thenN ?_;exact Hd.meet (some ⟨b9,0,none⟩,1) ⟨by rw [←hW1];rfl,by repeat (first | exact trivial | refine ⟨rfl,?_⟩)⟩ (Ent.sep (.eq pkk (own_eq3 (by rw [←hW1];rfl) rfl (by rw [←hW1];rfl)) enn))
 rintro ⟨ad,c⟩;dsimp only
 have hwa:wordsA e cap=W1++[ringB e cap]:=by unfold wordsA;rw [hq,←hW1];simp only [List.append_assoc]
 refine Hd.seq fun _ K4=>?_
 refine sr fun _ K5=>?_
 refine yv (y_f 2 193 Tryz.underlying195 sz193)<|yv (y_l1 ag193 rfl)<|yv (y_eql_pointer Tryz.underlying193 rfl rfl) ?_;refine fk [(1,_),(3,_),(17,_)] K5 ?_;refine qz ?_ ?_<;>intro hc1<;>try simp only [hyZ] at hc1
 ·have hpn:p=none:=by cases p with
   | none=>rfl
   | some _=>cases hc1
  have hrd:e.rd=false:=by rw [←hp,hpn];rfl
  have hrg:ringB e cap=[45]:=by unfold ringB;rw [if_neg (by rw [hrd];decide)]
  rw [hrg] at hwa;refine sr fun _ K6=>?_
  refine yv y_mv<|Hd.bslice (vs:=[(0,_)]) rfl (by exact bsS1 ..) (fun b19=>?_);refine Hd.append Tryz.underlying137 ty9 rfl rfl rfl pkk (by exact RdS.rd (Rd.pt pkk (fun j v e=>by simpa using e)) rfl) (by simp [Value.oneCell'];done) (by simp only [maxLen];omega) (by omega) (fun ad20 cap20=>?_);refine yv y_as<|fk [(2,_)] K6 ?_;refine Hd.ret<|Hd.thenRet<|Hd.ret1 rfl (ad20,cap20) (by rw [hwa,List.length_append];rfl) (Ent.sep ?_);exact .eq pkk (own_eq3 (by rw [hwa,List.length_append];rfl) rfl (by rw [hwa];exact vls_snoc rfl)) enn
 obtain ⟨rb,rfl⟩:∃ rb,p=some rb:=by cases p with
  | none=>cases hc1
  | some rb=>exact ⟨rb,rfl⟩
 have hrd:e.rd=true:=hp.symm
 rw [show RgO (some rb) cap e.b=Rg rb cap e.b from rfl]
 have hrg:ringB e cap=hexB e.b++([47]++dgB cap):=by unfold ringB;rw [if_pos hrd]
 rw [hrg] at hwa
 have hhl:=hexB_len e.b
 have hdl:=dg_20 (n:=cap) (by omega)
 have htk:e.b.take (Int.toNat (e.b.length:Int))=e.b:=by rw [Int.toNat_natCast,List.take_length]
 refine qv K4<|Hd.seq fun _ K7=>?_
 refine Hd.drawsH ([pt b1 [.int .i64 (q:Int),.int .i64 e.fd,ptr (some rb),.bool e.wr,.bool e.shut,.int .u64 e.inn,.int .u64 e.out] 195]) (fun _=>true) mixed ?_;simp only [List.length,Nat.zero_add,Nat.reduceAdd];refine tH 0 rfl y_mv<|tH 1 rfl (y_f 2 193 Tryz.underlying195 sz193)<|tH 2 rfl (y_l1 ag193 rfl)<|tH 3 rfl (y_f 2 193 Tryz.underlying195 sz193)<|tH 4 rfl (y_l1 ag193 rfl)<|tH 9 rfl (y_f 2 193 Tryz.underlying195 sz193)<|tH 10 rfl (y_l1 ag193 rfl)<|tH 12 rfl (y_f 2 193 Tryz.underlying195 sz193)<|tH 13 rfl (y_l1 ag193 rfl)<|qo 5 ?_;refine callE rfl fk150 (rlen_ct _ rb cap e.b) sq ?_;intro _;refine qk<|qo 6 ?_;refine callE rfl fk219 (rlook_ct _ rb cap e.b (e.b.length:Int)) sq ?_;rintro ⟨ba,bc⟩;dsimp only;rw [htk];refine qk<|qo 7 ?_;refine Hd.call rfl fk218 (hex_ct _ e.b (by omega) ba bc (by exact RdS.own pkk)) ?_
 intro _;refine qk<|tH 8 rfl (y_addstr rfl rfl (by simp;omega)) ?_;refine qo 11 ?_;refine callE rfl fk150 (rlen_ct _ rb cap e.b) sq ?_;intro _;refine qk<|qo 14 ?_;refine callE rfl fk151 (rroom_ct _ rb cap e.b) sq ?_;intro _;refine qk<|tH 15 rfl (y_to (v':=.int .i64 (cap:Int)) (y_addn rfl rfl (by simp only [InK];omega)) (by (refine congrArg (Value.int .i64) ?_;omega))) ?_;refine qo 16 ?_;refine Hd.call rfl fk166 (itoa_ct _ (by exact Tb.mono hT sq) cap (by omega)) ?_;intro _;refine qk<|tH 17 rfl (y_addstr rfl rfl (by simp;omega)) ?_;refine qo 18 ?_;refine Hd.bslice (vs:=[(0,_)]) rfl (by exact bs167_39 ..) (fun b39=>?_);refine qk<|qo 19 ?_;refine Hd.append Tryz.underlying137 ty9 rfl rfl rfl pkk (by exact RdS.rd (Rd.pt pkk (fun j v e=>by simpa using e)) rfl) (by simp [Value.oneCell'];done) (by simp only [maxLen];omega) (by omega) (fun ad40 cap40=>?_)
 refine qk<|tH 20 rfl y_as<|endH kq ?_;refine sk [(2,_)] K7 ?_;refine Hd.ret ?_;rw [show RgO (some rb) cap e.b=Rg rb cap e.b from rfl];refine Hd.ret1 rfl (ad40,cap40) (by rw [hwa,List.length_append];rfl) (Ent.sep ?_);exact .eq pkk (own_eq3 (by rw [hwa,List.length_append];rfl) rfl (by rw [hwa];exact vls_snoc (by rfl))) enn
theorem fdC_pl {t:Int→Option (Nat×Nat)} {k:Nat} (hk:k < 96):((fdC t).drop (k * 3)).take 3=plc (t (k:Int)):=by
 apply List.ext_getElem?;intro j
 by_cases hj:j < 3
 ·rw [List.getElem?_take_of_lt hj,List.getElem?_drop]
  obtain ⟨v,hv⟩:∃ v,(plc (t (k:Int)))[j]?=some v:=⟨_,List.getElem?_eq_getElem (by rw [plc_len];exact hj)⟩
  have:=fdC_at (tl:=[]) hk rfl hv
  rw [List.append_nil] at this;rw [this,hv]
 ·rw [List.getElem?_eq_none (by simp;omega),List.getElem?_eq_none (by rw [plc_len];omega)]
theorem plc_0 (o:Option (Nat×Nat)):(plc o)[0 + 0]?=some (.bool o.isSome):=by cases o<;>rfl
theorem wFds_ct (L:List SP) (wb:Nat) (w:WA):Ct Tryz.prog 80 #[.pointer (some ⟨wb,0,none⟩)] (WorldP wb w::L) (fun q_:Option Addr×Nat=>.slice q_.1 (fdsW w).length q_.2) (fun q_:Option Addr×Nat=>own 3 1 q_.1 (fdsW w).length q_.2 ((fdsW w).map (Value.int .i64))::WorldP wb w::L):=by
 refine Ct.o1 Tryz.func80 ?_;intro E
 show Hd E 25 _ _ _ _
 refine Hd.world .here (fun i hw hrs=>?_);refine sr fun _ K1=>?_
 refine yv y_as<|fk [(0,_)] K1 ?_;refine sr fun _ K2=>?_
 refine yv y_as<|fk [(0,_),(3,_)] K2 ?_;refine Hd.seq fun _ K3=>?_
 refine sr fun _ K4=>?_
 refine yv y_mv<|callE rfl fk114 (wnone_ct _ wb w.at w i.rs.length i) sq ?_;intro _;refine yv (y_not rfl)<|fk [(0,_),(3,_),(8,_)] K4 ?_;refine Hd.condT rfl ?_;refine sr fun _ K5=>?_
 refine yv y_mv<|yv y_np<|yv (y_f 0 183 Tryz.underlying186 sz183)<|yv (y_loadn (us:=fdC w.at) ag183 rfl (Rd.pt pkk (fun j v e=>by rw [Nat.zero_add];exact (List.getElem?_append_left (List.getElem?_eq_some_iff.1 e).1).trans e)) (by rw [fdC_len];exact sz183)) ?_;refine yv y_mv<|fk [(3,_),(12,_),(13,_)] K5 ?_;refine Hd.block<|Hd.loopK (ι:=Nat×Option Addr×Nat) [(12,_)] (fun q_=>[(3,.slice q_.2.1 (fdsN w q_.1).length q_.2.2),(13,.int .i64 (q_.1:Int))]) (fun q_=>pu (q_.1≤96)::own 3 1 q_.2.1 (fdsN w q_.1).length q_.2.2 ((fdsN w q_.1).map (Value.int .i64))::WoL wb w i L) (fun q_=>96 - q_.1) (0,none,0) sbq sbq (fun q t=>Ent.sep (.pure (Nat.zero_le _) (.ownNil enn)) q t) ?_;rintro ⟨k,ad,c⟩
 try dsimp only
 refine Hd.pure (fun hp0=>?_)
 try dsimp only at hp0
 refine sr fun _ K6=>?_
 refine yv (y_lss rfl rfl) ?_;refine fk [(3,_),(12,_),(13,_),(14,_)] K6 ?_;refine Hd.seq fun _ K7=>?_
 refine qz ?_ ?_<;>intro hc1<;>try simp only [hyZ] at hc1
 ·have hk:k < 96:=by omega
  have hs:=fdsN_succ w k
  have hl:=fdsN_le w k
  refine qv K7<|Hd.seq fun _ K8=>?_
  refine Hd.block<|sr fun _ K9=>?_
  refine yv y_mv<|yv (y_indexn (us:=plc (w.at (k:Int))) Tryz.underlying183 ag182 sz182 rfl rfl (by omega) (fdC_pl hk)) ?_;refine Hd.alloc zr182 (fun b5=>?_);refine yv y_as<|Hd.storeA (us:=plc (w.at (k:Int))) (by rw [plc_len];exact sz182) rfl rfl rfl (plc_one _) pkk (by rw [plc_len];rfl) ?_;refine fk [(3,_),(4,_),(5,_),(12,_),(13,_)] K9 ?_;refine sr fun _ K10=>?_
  refine yv (y_f 0 4 Tryz.underlying182 sz4)<|yv (y_load1 (v:=.bool (w.at (k:Int)).isSome) ag4 rfl (Rd.pt1 pkk (plc_0 _))) ?_;refine fk [(3,_),(4,_),(12,_),(13,_),(18,_)] K10 ?_;refine qz ?_ ?_<;>intro hc2<;>try simp only [hyZ] at hc2
  ·rw [if_pos hc2] at hs
   refine Hd.region<|yv y_mv<|yv y_mv<|Hd.bslice (vs:=[(0,_)]) rfl (by exact bs80_21 ..) (fun b21=>?_);refine Hd.append Tryz.underlying94 ty3 rfl rfl rfl pkk (by exact RdS.rd (Rd.pt pkk (fun j v e=>by simpa using e)) rfl) (by simp [Value.oneCell'];done) (by simp only [maxLen];omega) (by omega) (fun ad22 cap22=>?_);refine yv y_as<|Hd.nil<|slots [(3,_),(12,_),(13,_)] sbq ?_;refine Hd.inB<|Hd.toK K8 ?_;refine Hd.region<|yv (y_addn rfl rfl (by simp only [InK];omega)) ?_;refine yv y_mv<|Hd.nil<|slots [(3,_),(12,_),(13,_)] sbq ?_;refine thenN<|Hd.again (k + 1,ad22,cap22) (by show 96 - (k + 1) < 96 - k;omega) (by (try dsimp only);rw [hs,List.length_append];repeat (first | exact trivial | refine ⟨rfl,?_⟩)) (fun q t=>?_);rw [hs];exact Ent.sep (.pure (show k + 1≤96 by omega) (.eq pkk (own_eq3 (by rw [List.length_append];rfl) rfl (by rw [List.map_append];rfl)) enn)) q t
  rw [if_neg (by simpa using hc2),List.append_nil] at hs;refine Hd.skip<|Hd.inB<|Hd.toK K8 ?_;refine Hd.region<|yv (y_addn rfl rfl (by simp only [InK];omega)) ?_;refine yv y_mv<|Hd.nil<|slots [(3,_),(12,_),(13,_)] sbq ?_;refine thenN<|Hd.again (k + 1,ad,c) (by show 96 - (k + 1) < 96 - k;omega) (by (try dsimp only);rw [hs];repeat (first | exact trivial | refine ⟨rfl,?_⟩)) (fun q t=>?_);rw [hs];exact Ent.sep (.pure (show k + 1≤96 by omega) enn) q t
 obtain rfl:k=96:=by omega
 refine Hd.exit<|Hd.thenExit<|Hd.thenExit<|Hd.inBexit<|Hd.toK K3 ?_;refine sr fun _ K11=>?_
 refine yv y_mv<|yv y_as<|fk [(2,_)] K11 ?_;refine Hd.ret ?_;rw [show fdsW w=fdsN w 96 from rfl];refine Hd.ret1 rfl (ad,c) rfl (fun q s=>?_);exact Ent.sep (show Ent _ (own 3 1 ad (fdsN w 96).length c ((fdsN w 96).map (Value.int .i64))::WorldP wb w::L) from .pick pkk (.ex i (.pure ⟨hw,hrs⟩ enn))) q s
theorem sHandled_ct (L:List SP) (sb:Nat) (hd:List Bool) (ct:List Int) (hl:hd.length=32) (hcl:ct.length=32) (s:Nat) (h1:1≤s) (h2:s < 32):Ct Tryz.prog 169 #[.pointer (some ⟨sb,0,none⟩),.int .i64 (s:Int)] (SigP sb hd ct::L) (fun _:Unit=>.bool (hd.getD s false)) (fun _:Unit=>SigP sb hd ct::L):=by
 refine Ct.o2 Tryz.func169 ?_;intro E
 show Hd E 17 _ _ _ _
 have hm0:mayE (s:Int)=0:=mayE_0.2 (by omega)
 refine sr fun _ K1=>?_
 refine yv y_as<|fk [(0,_),(1,_)] K1 ?_;refine sr fun _ K2=>?_
 refine yv y_mv<|yv y_mv<|callE rfl fk215 (may_ct _ sb (s:Int)) sq ?_;intro _;rw [hm0];refine yv (y_to (v':=.bool true) (y_eqlT rfl rfl) (by rfl)) ?_;refine yv y_mv ?_;apply Hd.andg 7 9 16 [] rfl sbq
 ·intro hg1_9
  try simp only [hyZ] at hg1_9
  simp only [List.take];refine y2 y_mv<|y2 y_mv<|y2 y_np<|y2 (y_f 0 99 Tryz.underlying270 sz99)<|y2 (y_idxA Tryz.underlying99 sz4 rfl rfl (by omega)) ?_;refine y2 (y_load1 ag4 rfl (Rd.pt1 pkk (by exact sg_hd hl h2 (by omega)))) ?_;refine yv (y_pickT rfl rfl) ?_;exact Hd.mn
 ·intro hg1_9
  try simp only [hyZ] at hg1_9
  simp only [List.take];refine n1<|n1<|n1<|n1<|n1<|n1<|yv (y_pickF rfl rfl) ?_;exact Hd.mn
 simp only [List.drop];refine yv y_as<|fk [(4,_)] K2 ?_;refine Hd.ret ?_;exact Hd.ret1 rfl () (by rfl) sq
theorem joinO_ct (L L':List SP) (et:TypeId) (ad:Option Addr) (c:Nat) (xs:List (List UInt8)) (sp:List UInt8) (p:Pick L (own et 1 ad xs.length c (VLs xs)) L') (h0:0 < xs.length) (hN:xs.length≤140737488355328) (hl:(Lib.join xs sp).length≤140737488355328) :
  Ct Tryz.prog 168 #[.slice ad xs.length c,.string (str sp)] L (fun _:Unit=>.string (str (Lib.join xs sp))) (fun _=>L):=fun E w s=>by
 obtain ⟨h1,_,x⟩:=sep.one p s.2.2.2
 exact join_ct L ad c xs sp (RdS.own p) h0 (own_le x).1 hN hl E w s
theorem wireD_len {n:Nat} {x:WireA} (hn:n≤1000) (hx:WfW x) (hw:∀ m∈x.wt,m < 1000):(wireD n x).length≤300100:=by
 have hdn:=dg_20 (n:=n) (by omega)
 have he0:=endB_len hx.cap (Nat.le_trans (hx.le 0 (by decide)) hx.cap)
 have he1:=endB_len hx.cap (Nat.le_trans (hx.le 1 (by decide)) hx.cap)
 have hwl1:=wtB_len (l:=x.wt) fun m hm=>by have:=hw m hm;omega
 have hb2:=hx.bl
 have hdb:=dg_20 (n:=x.bl.toNat) (by omega)
 unfold wireD
 split<;>split<;>simp only [List.length_append,List.length_cons,List.length_nil]<;>omega
theorem wImage_ct (L:List SP) (hT:Tb L) (wb:Nat) (w:WA) (hn:InK .u64 w.now) (hb:∀ c∈w.ct,0≤c∧c≤2000000000):Ct Tryz.prog 87 #[.pointer (some ⟨wb,0,none⟩)] (WorldP wb w::L) (fun q_:Option Addr×Nat=>.slice q_.1 (imgW w).length q_.2) (fun q_:Option Addr×Nat=>own 9 1 q_.1 (imgW w).length q_.2 (VLs (imgW w))::WorldP wb w::L):=by
 refine Ct.o1 Tryz.func87 ?_;intro E
 show Hd E 180 _ _ _ _
 refine Hd.world .here (fun i hw hrs=>?_)
 obtain ⟨nw,hnw⟩:∃ n:Nat,w.now=(n:Int):=⟨w.now.toNat,by simp only [InK] at hn;omega⟩
 have hnb:nw≤18446744073709551615:=by simp only [InK] at hn;omega
 have hnt:w.now.toNat=nw:=by omega
 have hnl:=dg_20 hnb
 refine sr fun _ K1=>?_
 refine yv y_as<|fk [(0,_)] K1 ?_;refine Hd.seq fun _ K2=>?_
 refine sr fun _ K3=>?_
 refine yv y_mv<|callE rfl fk114 (wnone_ct _ wb w.at w i.rs.length i) sq ?_;intro _;refine fk [(0,_),(14,_)] K3 ?_;refine Hd.condF rfl ?_;refine qv K2<|sr fun _ K4=>?_
 refine yv y_mv<|yv y_np<|yv (y_f 290 29 Tryz.underlying186 sz29)<|yv (y_load1 (v:=.int .u64 (nw:Int)) ag29 rfl (Rd.pt1 pkk (woT_at (j:=2) (by omega) (by rw [←hnw];rfl)))) ?_;refine Hd.call rfl fk165 (fmtu_ct _ (by exact Tb.mono hT sq) nw hnb) ?_;intro _;refine yv (y_addstr rfl rfl (by simp;omega)) ?_;refine Hd.bslice (vs:=[(0,_)]) rfl (by exact bs87_21 ..) (fun b21=>?_);refine Hd.ptOwn (m:=1) pkk rfl (by decide) ?_;refine yv y_as<|fk [(0,_),(3,_)] K4 ?_;refine Hd.seq fun _ K5=>?_
 refine sr fun _ K6=>?_
 refine yv y_mv<|yv y_np<|yv (y_f 0 183 Tryz.underlying186 sz183)<|yv (y_loadn (us:=fdC w.at) ag183 rfl (Rd.pt pkk (fun j v e=>by rw [Nat.zero_add];exact (List.getElem?_append_left (List.getElem?_eq_some_iff.1 e).1).trans e)) (by rw [fdC_len];exact sz183)) ?_;refine yv y_mv<|fk [(0,_),(3,_),(25,_),(26,_)] K6 ?_;refine Hd.block<|Hd.loopK (ι:=Nat×Option Addr×Nat) [(0,_),(25,_)] (fun q_=>[(3,.slice q_.2.1 (imgF w q_.1).length q_.2.2),(26,.int .i64 (q_.1:Int))]) (fun q_=>pu (q_.1≤96)::own 9 1 q_.2.1 (imgF w q_.1).length q_.2.2 (VLs (imgF w q_.1))::WoL wb w i L) (fun q_=>96 - q_.1) (0,some ⟨b21,0,none⟩,1) sbq sbq (fun q t=>Ent.sep (.pure (Nat.zero_le _) (.eq (A:=own 9 1 (some ⟨b21,0,none⟩) 1 1 [.string (str ([110,111,119,32]++dgB nw))]) pkk (own_eq3 rfl rfl (by show _=VLs (imgF w 0);unfold imgF;rw [hnt];rfl)) enn)) q t) ?_
 rintro ⟨k,ad,c⟩
 try dsimp only
 refine Hd.pure (fun hp0=>?_)
 try dsimp only at hp0
 refine sr fun _ K7=>?_
 refine yv (y_lss rfl rfl) ?_;refine fk [(0,_),(3,_),(25,_),(26,_),(27,_)] K7 ?_;refine Hd.seq fun _ K8=>?_
 refine qz ?_ ?_<;>intro hc1<;>try simp only [hyZ] at hc1
 ·have hk:k < 96:=by omega
  have hs:=imgF_s w k
  have hl:=imgF_le w k
  refine qv K8<|Hd.seq fun _ K9=>?_
  refine Hd.block<|sr fun _ K10=>?_
  refine yv y_mv<|yv (y_indexn (us:=plc (w.at (k:Int))) Tryz.underlying183 ag182 sz182 rfl rfl (by omega) (fdC_pl hk)) ?_;refine Hd.alloc zr182 (fun b5=>?_);refine yv y_as<|Hd.storeA (us:=plc (w.at (k:Int))) (by rw [plc_len];exact sz182) rfl rfl rfl (plc_one _) pkk (by rw [plc_len];rfl) ?_;refine fk [(0,_),(3,_),(4,_),(5,_),(25,_),(26,_)] K10 ?_;refine sr fun _ K11=>?_
  refine yv (y_f 0 4 Tryz.underlying182 sz4)<|yv (y_load1 (v:=.bool (w.at (k:Int)).isSome) ag4 rfl (Rd.pt1 pkk (plc_0 _))) ?_;refine fk [(0,_),(3,_),(4,_),(5,_),(25,_),(26,_),(31,_)] K11 ?_;refine qz ?_ ?_<;>intro hc2<;>try simp only [hyZ] at hc2
  ·obtain ⟨n,kk,ho⟩:∃ n kk,w.at (k:Int)=some (n,kk):=by
    cases h:w.at (k:Int) with
    | none=>rw [h] at hc2;exact absurd hc2 (by simp)
    | some p=>exact ⟨p.1,p.2,rfl⟩
   obtain ⟨hkk,hn1,x,hx⟩:=at_open hw ho
   have hbl:=hw.wf x (List.mem_of_getElem? hx)
   have hK:fdK w n kk=if 0 < x.bl then 2 else kk:=by unfold fdK;rw [hx];rfl
   have hf:fdB w k=[sFd++(dgB k++(sWire2++(dgB n++(sEnd++dgB (fdK w n kk)))))]:=by unfold fdB;rw [ho]
   have hKb:fdK w n kk≤2:=by rw [hK];split<;>omega
   have h1l:=dg_20 (n:=k) (by omega)
   have h2l:=dg_20 (n:=n) (by omega)
   have h3l:=dg_20 (n:=fdK w n kk) (by omega)
   obtain ⟨xb,hxb⟩:=rs_at hrs hx
   have hil:n < i.rs.length:=(List.getElem?_eq_some_iff.1 hxb).1
   rw [hf] at hs;rw [ho];refine sr fun _ K12=>?_
   refine yv (y_f 2 3 Tryz.underlying182 sz3)<|yv (y_l1 ag3 rfl)<|yv y_as<|fk [(0,_),(3,_),(4,_),(5,_),(6,_),(25,_),(26,_)] K12 ?_;refine Hd.cutK (ι:=Unit) [(0,_),(3,_),(4,_),(5,_),(25,_),(26,_)] (fun _=>[(6,.int .i64 (fdK w n kk:Int))]) (fun _=>pt b5 (plc (some (n,kk))) 182::own 9 1 ad (imgF w k).length c (VLs (imgF w k))::WoL wb w i L) ?_ ?_ ⟨rfl,rfl,rfl,rfl,rfl,rfl,trivial⟩
   ·refine Hd.seq fun _ K13=>?_
    refine Hd.wOut pkk hxb ?_;refine Hd.wire .here 0 (by omega) (fun i2 hi2=>?_);refine Hd.drawsH ([pt b5 (plc (some (n,kk))) 182,WoH wb w.at w i.rs.length i,own 189 1 i.wa i.rs.length i.wc (pws i.rs),WireH xb x i2]) (fun _=>true) mixed ?_;simp only [List.length,Nat.zero_add,Nat.reduceAdd];refine tH 0 rfl y_mv<|tH 1 rfl y_np<|tH 2 rfl (y_f 288 184 Tryz.underlying186 sz184)<|tH 3 rfl (y_load1 ag184 rfl (Rd.pt1 pkk (by exact woT_at (j:=0) (by omega) rfl))) ?_;refine tH 4 rfl (y_f 1 3 Tryz.underlying182 sz3)<|tH 5 rfl (y_l1 ag3 rfl)<|tH 6 rfl (y_idxR Tryz.underlying184 sz189 rfl rfl (by omega) (by exact RdS.own pkk)) ?_;refine tH 7 rfl (y_loadR1 ag189 rfl (by exact RdS.own pkk) (by exact pws_at hxb)) ?_;refine tH 8 rfl y_np<|tH 9 rfl (y_f 15 3 Tryz.underlying198 sz3)<|tH 10 rfl (y_l1 ag3 rfl)<|tH 11 rfl (y_gtr rfl rfl) ?_
    refine endH kq ?_;refine sk [(0,_),(3,_),(4,_),(5,_),(6,_),(25,_),(26,_),(45,_)] K13 ?_;refine qz ?_ ?_<;>intro hc3<;>try simp only [hyZ] at hc3
    ·refine Hd.region ?_
     refine yv y_as<|Hd.nil<|slots [(0,_),(3,_),(4,_),(5,_),(6,_),(25,_),(26,_)] sbq ?_;refine thenN ?_;exact Hd.meet () ⟨by rw [hK,if_pos (by simpa using hc3)];rfl,by repeat (first | exact trivial | refine ⟨rfl,?_⟩)⟩ (fun q s=>Ent.sep enn q (wol_back (L:=pt b5 (plc (some (n,kk))) 182::own 9 1 ad (imgF w k).length c (VLs (imgF w k))::L) hxb q (wire_fold (k:=0) hi2 (by omega) q (Ent.sep enn q s))))
    refine Hd.skip<|thenN ?_;exact Hd.meet () ⟨by rw [hK,if_neg (by simpa using hc3)];rfl,by repeat (first | exact trivial | refine ⟨rfl,?_⟩)⟩ (fun q s=>Ent.sep enn q (wol_back (L:=pt b5 (plc (some (n,kk))) 182::own 9 1 ad (imgF w k).length c (VLs (imgF w k))::L) hxb q (wire_fold (k:=0) hi2 (by omega) q (Ent.sep enn q s))))
   intro _;refine Hd.drawsH ([pt b5 (plc (some (n,kk))) 182]) (fun _=>true) mixed ?_;simp only [List.length,Nat.zero_add,Nat.reduceAdd];refine tH 0 rfl y_mv<|tH 1 rfl y_mv<|tH 5 rfl (y_f 1 3 Tryz.underlying182 sz3)<|tH 6 rfl (y_l1 ag3 rfl)<|tH 10 rfl y_mv<|qo 2 ?_;refine Hd.call rfl fk166 (itoa_ct _ (by exact Tb.mono hT sq) k (by omega)) ?_;intro _;refine qk<|tH 3 rfl (y_addstr rfl rfl (by simp;omega)) ?_;refine tH 4 rfl (y_addstr rfl rfl (by simp;omega)) ?_;refine qo 7 ?_;refine Hd.call rfl fk166 (itoa_ct _ (by exact Tb.mono hT sq) n (by omega)) ?_;intro _;refine qk<|tH 8 rfl (y_addstr rfl rfl (by simp;omega)) ?_;refine tH 9 rfl (y_addstr rfl rfl (by simp;omega)) ?_;refine qo 11 ?_;refine Hd.call rfl fk166 (itoa_ct _ (by exact Tb.mono hT sq) (fdK w n kk) (by omega)) ?_;intro _;refine qk<|tH 12 rfl (y_addstr rfl rfl (by simp;omega)) ?_
   refine qo 13 ?_;refine Hd.bslice (vs:=[(0,_)]) rfl (by exact bs87_59 ..) (fun b59=>?_);refine qk<|qo 14 ?_;refine Hd.append Tryz.underlying137 ty9 rfl rfl rfl pkk (by exact RdS.rd (Rd.pt pkk (fun j v e=>by simpa using e)) rfl) (by simp [Value.oneCell'];done) (by simp only [maxLen];omega) (by omega) (fun ad60 cap60=>?_);refine qk<|tH 15 rfl y_as<|endH kq ?_;refine slots [(0,_),(3,_),(25,_),(26,_)] sbq ?_;refine Hd.inB<|Hd.toK K9 ?_;refine Hd.region<|yv (y_addn rfl rfl (by simp only [InK];omega)) ?_;refine yv y_mv<|Hd.nil<|slots [(0,_),(3,_),(25,_),(26,_)] sbq ?_;refine thenN<|Hd.again (k + 1,ad60,cap60) (by show 96 - (k + 1) < 96 - k;omega) (by (try dsimp only);rw [hs,List.length_append];repeat (first | exact trivial | refine ⟨rfl,?_⟩)) (fun q t=>?_);rw [hs];exact Ent.sep (.pure (show k + 1≤96 by omega) (.eq pkk (own_eq3 (by rw [List.length_append];rfl) rfl (by exact vls_snoc (by rfl))) enn)) q t
  have hf:fdB w k=[]:=by
   unfold fdB
   cases h:w.at (k:Int) with
   | none=>rfl
   | some p=>rw [h] at hc2;exact absurd hc2 (by simp)
  rw [hf,List.append_nil] at hs;refine Hd.skip<|Hd.inB<|Hd.toK K9 ?_;refine Hd.region<|yv (y_addn rfl rfl (by simp only [InK];omega)) ?_;refine yv y_mv<|Hd.nil<|slots [(0,_),(3,_),(25,_),(26,_)] sbq ?_;refine thenN<|Hd.again (k + 1,ad,c) (by show 96 - (k + 1) < 96 - k;omega) (by (try dsimp only);rw [hs];repeat (first | exact trivial | refine ⟨rfl,?_⟩)) (fun q t=>?_);rw [hs];exact Ent.sep (.pure (show k + 1≤96 by omega) enn) q t
 obtain rfl:k=96:=by omega
 refine Hd.exit<|Hd.thenExit<|Hd.thenExit<|Hd.inBexit<|Hd.toK K5 ?_;refine Hd.seq fun _ K14=>?_
 refine Hd.seq fun _ K15=>?_
 rw [imgN_0 w];refine Hd.region<|yv y_mv<|yv y_np<|yv (y_f 288 184 Tryz.underlying186 sz184)<|yv (y_load1 ag184 rfl (Rd.pt1 pkk (by exact woT_at (j:=0) (by omega) rfl))) ?_;refine yv (y_len Tryz.underlying184 rfl) ?_;refine yv y_mv<|fk [(0,_),(3,_),(65,_),(66,_),(67,_)] K15 ?_;refine Hd.block<|Hd.loopK (ι:=Nat×Option Addr×Nat) [(0,_),(65,_),(66,_)] (fun q_=>[(3,.slice q_.2.1 (imgN w q_.1).length q_.2.2),(67,.int .i64 (q_.1:Int))]) (fun q_=>pu (q_.1≤i.rs.length)::own 9 1 q_.2.1 (imgN w q_.1).length q_.2.2 (VLs (imgN w q_.1))::WoL wb w i L) (fun q_=>i.rs.length - q_.1) (0,ad,c) sbq sbq (Ent.sep (.pure (by omega) enn)) ?_;rintro ⟨n,ad,c⟩
 try dsimp only
 refine Hd.pure (fun hp1=>?_)
 try dsimp only at hp1
 refine sr fun _ K16=>?_
 refine yv (y_lss rfl rfl) ?_;refine fk [(0,_),(3,_),(65,_),(66,_),(67,_),(68,_)] K16 ?_;refine Hd.seq fun _ K17=>?_
 refine qz ?_ ?_<;>intro hc4<;>try simp only [hyZ] at hc4
 ·have hrl:i.rs.length=w.ws.length:=by rw [←hrs,List.length_map]
  have hwl:=hw.len
  have hn1:n < w.ws.length:=by omega
  obtain ⟨x,hx⟩:∃ x,w.ws[n]?=some x:=⟨_,List.getElem?_eq_getElem hn1⟩
  obtain ⟨xb,hxb⟩:=rs_at hrs hx
  have hxw:=hw.wf x (List.mem_of_getElem? hx)
  have hwt:=wt_bd hw hx
  have hl:=imgN_le w n
  have hs:=imgN_s w n
  have hdn:=dg_20 (n:=n) (by omega)
  have hwr:wr1L w n=[spJ (wireWs n x)]:=by unfold wr1L;rw [hx];rfl
  rw [hwr] at hs;refine qv K17<|Hd.seq fun _ K18=>?_
  refine Hd.block<|sr fun _ K19=>?_
  refine yv y_mv<|yv (y_idxR Tryz.underlying184 sz189 rfl rfl (by omega) (by exact RdS.own pkk)) ?_;refine yv (y_loadR1 (v:=ptr (some xb)) ag189 rfl (RdS.own pkk) (pws_at hxb)) ?_;refine yv y_as<|yv y_as<|fk [(0,_),(3,_),(7,_),(8,_),(65,_),(66,_),(67,_)] K19 ?_;refine sr fun _ K20=>?_
  refine yv y_mv<|Hd.call rfl fk166 (itoa_ct _ (by exact Tb.mono hT sq) n (by omega)) ?_;intro _;refine Hd.bslice (vs:=[(0,_),(1,_)]) rfl (by exact bsS2 ..) (fun b74=>?_);refine Hd.ptOwn (m:=2) pkk rfl (by decide) ?_;refine yv y_as<|fk [(0,_),(3,_),(8,_),(9,_),(65,_),(66,_),(67,_)] K20 ?_;refine Hd.wOut pkk hxb ?_;refine Hd.wire .here 0 (by omega) (fun i2 hi2=>?_)
  obtain ⟨W1,hW1⟩:∃ W1,[sWire,dgB n]++(if 0 < x.bl then [sListen,dgB x.bl.toNat]++x.wt.map dgB else wordsA (x.e 0) x.cap++wordsA (x.e 1) x.cap)=W1:=⟨_,rfl⟩
  have hwl2:∀ e:EndA,(wordsA e x.cap).length≤3:=fun e=>by unfold wordsA;simp only [List.length_append,List.length_singleton];split<;>simp
  have hb2:=hxw.bl
  have hW1l:W1.length≤100:=by
   have:=hwl2 (x.e 0)
   have:=hwl2 (x.e 1)
   rw [←hW1]
   split<;>simp only [List.length_append,List.length_cons,List.length_nil,List.length_map]<;>omega
  refine Hd.cutK (ι:=Option Addr×Nat) [(0,_),(3,_),(8,_),(65,_),(66,_),(67,_)] (fun s=>[(9,.slice s.1 W1.length s.2)]) (fun s=>own 9 1 s.1 W1.length s.2 (VLs W1)::WireL xb x i2 0 (WoR wb n w i (own 9 1 ad (imgN w n).length c (VLs (imgN w n))::L))) ?_ ?_ ⟨rfl,rfl,rfl,rfl,rfl,rfl,trivial⟩
  ·refine sr fun _ K21=>?_
   refine yv y_mv<|yv y_np<|yv (y_f 15 3 Tryz.underlying198 sz3)<|yv (y_l1 ag3 rfl)<|yv (y_gtr rfl rfl) ?_;refine fk [(0,_),(3,_),(8,_),(9,_),(65,_),(66,_),(67,_),(79,_)] K21 ?_;refine qz ?_ ?_<;>intro hc5<;>try simp only [hyZ] at hc5
   ·have hbt:x.bl=((x.bl.toNat:Nat):Int):=by omega
    rw [if_pos hc5] at hW1
    have hdb:=dg_20 (n:=x.bl.toNat) (by omega)
    refine sr fun _ K22=>?_
    refine yv y_mv<|yv y_mv<|yv y_np<|yv (y_f 15 3 Tryz.underlying198 sz3)<|yv (y_to (v':=.int .i64 ((x.bl.toNat:Nat):Int)) (y_l1 ag3 rfl) (by exact congrArg (Value.int .i64) hbt)) ?_;refine Hd.call rfl fk166 (itoa_ct _ (by exact Tb.mono hT sq) x.bl.toNat (by omega)) ?_;intro _;refine Hd.bslice (vs:=[(0,_),(1,_)]) rfl (by exact bsS2 ..) (fun b86=>?_);refine Hd.append Tryz.underlying137 ty9 rfl rfl rfl pkk (by exact RdS.rd (Rd.pt pkk (fun j v e=>by simpa using e)) rfl) (by simp [Value.oneCell'];done) (by simp only [maxLen];omega) (by omega) (fun ad87 cap87=>?_);refine yv y_as<|fk [(0,_),(3,_),(8,_),(9,_),(65,_),(66,_),(67,_)] K22 ?_;refine sr fun _ K23=>?_
    refine yv y_mv<|yv y_np<|yv (y_f 16 94 Tryz.underlying198 sz94)<|yv (y_l1 ag94 rfl)<|yv (y_len Tryz.underlying94 rfl) ?_;refine yv y_mv<|fk [(0,_),(3,_),(8,_),(9,_),(65,_),(66,_),(67,_),(91,_),(92,_),(93,_)] K23 ?_;refine Hd.block<|Hd.loopK (ι:=Nat×Option Addr×Nat) [(0,_),(3,_),(8,_),(65,_),(66,_),(67,_),(91,_),(92,_)] (fun q_=>[(9,.slice q_.2.1 (([sWire,dgB n]++[sListen,dgB x.bl.toNat]++(x.wt.take q_.1).map dgB)).length q_.2.2),(93,.int .i64 (q_.1:Int))]) (fun q_=>pu (q_.1≤x.wt.length)::own 9 1 q_.2.1 (([sWire,dgB n]++[sListen,dgB x.bl.toNat]++(x.wt.take q_.1).map dgB)).length q_.2.2 (VLs (([sWire,dgB n]++[sListen,dgB x.bl.toNat]++(x.wt.take q_.1).map dgB)))::WireL xb x i2 0 (WoR wb n w i (own 9 1 ad (imgN w n).length c (VLs (imgN w n))::L))) (fun q_=>x.wt.length - q_.1) (0,ad87,cap87) sbq sbq (fun q s=>Ent.sep (.pure (Nat.zero_le _) (.eq (A:=own 9 1 ad87 (2 + 2) cap87 ([.string (str sWire),.string (str (dgB n))]++[.string (str sListen),.string (str (dgB x.bl.toNat))])) pkk (own_eq3 rfl rfl rfl) enn)) q s) ?_
    rintro ⟨q,la,lc⟩
    try dsimp only
    refine Hd.pure (fun hp2=>?_)
    try dsimp only at hp2
    refine sr fun _ K24=>?_
    refine yv (y_lss rfl rfl) ?_;refine fk [(0,_),(3,_),(8,_),(9,_),(65,_),(66,_),(67,_),(91,_),(92,_),(93,_),(94,_)] K24 ?_;refine Hd.seq fun _ K25=>?_
    refine qz ?_ ?_<;>intro hc6<;>try simp only [hyZ] at hc6
    ·have hq:q < x.wt.length:=by omega
     obtain ⟨m,hm⟩:∃ m,x.wt[q]?=some m:=⟨_,List.getElem?_eq_getElem hq⟩
     have hmb:=hwt m (List.mem_of_getElem? hm)
     have hdm:=dg_20 (n:=m) (by omega)
     have htq:(x.wt.take (q + 1)).map dgB=(x.wt.take q).map dgB++[dgB m]:=by rw [List.take_add_one,hm,Option.toList_some,List.map_append];rfl
     have htl:(([sWire,dgB n]++[sListen,dgB x.bl.toNat]++(x.wt.take q).map dgB)).length=q + 4:=by simp only [List.length_append,List.length_map,List.length_take,List.length_cons,List.length_nil];omega
     have htn:(([sWire,dgB n]++[sListen,dgB x.bl.toNat]++(x.wt.take q).map dgB)++[dgB m]).length=(([sWire,dgB n]++[sListen,dgB x.bl.toNat]++(x.wt.take q).map dgB)).length + 1:=List.length_append
     refine qv K25<|Hd.seq fun _ K26=>?_
     refine Hd.block<|sr fun _ K27=>?_
     refine yv (y_idxR Tryz.underlying94 sz3 rfl rfl (by omega) (by exact RdS.own pkk)) ?_;refine yv (y_loadR1 (v:=.int .i64 (m:Int)) ag3 rfl (RdS.own pkk) (by rw [Nat.mul_one,List.getElem?_map,hm];rfl)) ?_;refine yv y_as<|fk [(0,_),(3,_),(8,_),(9,_),(11,_),(65,_),(66,_),(67,_),(91,_),(92,_),(93,_)] K27 ?_;refine Hd.region<|yv y_mv<|yv y_mv<|Hd.call rfl fk166 (itoa_ct _ (by exact Tb.mono hT sq) m (by omega)) ?_;intro _;refine Hd.bslice (vs:=[(0,_)]) rfl (by exact bs87_100 ..) (fun b100=>?_);refine Hd.append Tryz.underlying137 ty9 rfl rfl rfl pkk (by exact RdS.rd (Rd.pt pkk (fun j v e=>by simpa using e)) rfl) (by simp [Value.oneCell'];done) (by simp only [maxLen];omega) (by omega) (fun ad101 cap101=>?_);refine yv y_as<|Hd.nil<|slots [(0,_),(3,_),(8,_),(9,_),(65,_),(66,_),(67,_),(91,_),(92,_),(93,_)] sbq ?_;refine Hd.inB ?_
     refine Hd.toK K26 ?_;refine Hd.region<|yv (y_addn rfl rfl (by simp only [InK];omega)) ?_;refine yv y_mv<|Hd.nil<|slots [(0,_),(3,_),(8,_),(9,_),(65,_),(66,_),(67,_),(91,_),(92,_),(93,_)] sbq ?_;refine thenN<|Hd.again (q + 1,ad101,cap101) (by show x.wt.length - (q + 1) < x.wt.length - q;omega) (by (try dsimp only);rw [htq,←List.append_assoc,htn];repeat (first | exact trivial | refine ⟨rfl,?_⟩)) (fun q' s=>?_);rw [htq,←List.append_assoc];exact Ent.sep (.pure (show q + 1≤x.wt.length by omega) (.eq pkk (own_eq3 (by exact htn.symm) rfl (by exact vls_snoc rfl)) enn)) q' s
    obtain rfl:q=x.wt.length:=by omega
    rw [List.take_length]
    have hWe:([sWire,dgB n]++[sListen,dgB x.bl.toNat]++x.wt.map dgB)=W1:=by rw [←hW1];rfl
    refine Hd.exit<|Hd.thenExit<|Hd.thenExit<|Hd.inBexit<|thenN ?_;exact Hd.meet (la,lc) ⟨by rw [←hWe];rfl,by repeat (first | exact trivial | refine ⟨rfl,?_⟩)⟩ (Ent.sep (.eq pkk (own_eq3 (by rw [←hWe]) rfl (by rw [←hWe])) enn))
   rw [if_neg (by omega)] at hW1
   obtain ⟨w0,hw0⟩:∃ q:Nat,(x.e 0).what=(q:Int):=⟨(x.e 0).what.toNat,by have:=(hxw.what 0 (by decide)).1;omega⟩
   obtain ⟨w1,hw1⟩:∃ q:Nat,(x.e 1).what=(q:Int):=⟨(x.e 1).what.toNat,by have:=(hxw.what 1 (by decide)).1;omega⟩
   have hv0:w0≤3:=by have:=(hxw.what 0 (by decide)).2;omega
   have hv1:w1≤3:=by have:=(hxw.what 1 (by decide)).2;omega
   have hl20:=hwl2 (x.e 0)
   have hl21:=hwl2 (x.e (1 - 0))
   refine Hd.drawsH ([WireH xb x i2]) (fun _=>true) mixed ?_;simp only [List.length,Nat.zero_add,Nat.reduceAdd];refine tH 0 rfl y_mv<|tH 1 rfl y_mv<|tH 2 rfl y_np<|tH 3 rfl (y_f 0 196 Tryz.underlying198 sz196)<|tH 4 rfl (y_idxA Tryz.underlying196 sz195 rfl rfl (by decide)) ?_;refine tH 5 rfl (y_loadn (us:=[_,_,_,_,_,_,_]) ag195 rfl (Rd.pt pkk (by intro j v e;rcases j with _|_|_|_|_|_|_|_|_|_|_|_|j<;>first | exact e | exact absurd e (by simp))) (by exact sz195)) ?_;refine tH 8 rfl y_mv<|tH 9 rfl y_np<|tH 10 rfl (y_f 0 196 Tryz.underlying198 sz196)<|tH 11 rfl (y_idxA Tryz.underlying196 sz195 rfl rfl (by decide)) ?_;refine tH 12 rfl (y_loadn (us:=[_,_,_,_,_,_,_]) ag195 rfl (Rd.pt pkk (by intro j v e;rcases j with _|_|_|_|_|_|_|_|_|_|_|_|j<;>first | exact e | exact absurd e (by simp))) (by exact sz195)) ?_
   refine qo 6 ?_;refine callE rfl fk167 (words_ct _ ?hT1 (x.e 0) w0 hw0 hv0 (i2.p 0) (hi2.rd 0 (by decide)) x.cap hxw.cap (hxw.le 0 (by decide))) sq ?_
   case hT1=>exact Tb.mono hT sq
   rintro ⟨ea,ec⟩;dsimp only;refine qk<|qo 7 ?_;refine Hd.append Tryz.underlying137 ty9 rfl rfl rfl pkk (by exact RdS.own pkk) (by simp [Value.oneCell'];done) (by simp only [maxLen];omega) (by omega) (fun ad110 cap110=>?_);refine qk<|qo 13 ?_;refine callE rfl fk167 (words_ct _ ?hT2 (x.e (1 - 0)) w1 hw1 hv1 (i2.p (1 - 0)) (hi2.rd 1 (by decide)) x.cap hxw.cap (hxw.le 1 (by decide))) sq ?_
   case hT2=>exact Tb.mono hT sq
   rintro ⟨fa,fc⟩;dsimp only;refine qk<|qo 14 ?_;refine Hd.append Tryz.underlying137 ty9 rfl rfl rfl pkk (by exact RdS.own pkk) (by simp [Value.oneCell'];done) (by simp only [maxLen];omega) (by omega) (fun ad117 cap117=>?_);refine qk<|tH 15 rfl y_as<|endH kq ?_;refine slots [(0,_),(3,_),(8,_),(9,_),(65,_),(66,_),(67,_)] sbq ?_;refine thenN<|Hd.meet (ad117,cap117) ⟨?_,by repeat (first | exact trivial | refine ⟨rfl,?_⟩)⟩ (Ent.sep (.eq pkk (own_eq3 ?_ rfl ?_) enn))
   ·rw [←hW1];refine congrArg (fun z=>some (Value.slice ad117 z cap117)) ?_;simp only [List.length_append,List.length_cons,List.length_nil,Nat.sub_zero];omega
   ·rw [←hW1];simp only [List.length_append,List.length_cons,List.length_nil,Nat.sub_zero];omega
   ·rw [←hW1];simp
  rintro ⟨la,lc⟩;dsimp only
  obtain ⟨W2,hW2⟩:∃ W2,wireWs n x=W2:=⟨_,rfl⟩
  have hWW:W2=W1++if x.rs=true then [sReset] else []:=by rw [←hW2,←hW1];unfold wireWs;simp only [List.append_assoc]
  have hW2l:W2.length≤101:=by rw [hWW];split<;>simp only [List.length_append,List.length_cons,List.length_nil]<;>omega
  have hW2p:0 < W2.length:=by rw [←hW2];unfold wireWs;simp
  have hjl:(Lib.join W2 [32]).length≤140737488355328:=by
   have h1:=wireD_len (n:=n) (by omega) hxw hwt
   rw [←wireB_eq] at h1;rw [←hW2];exact Nat.le_trans h1 (by decide)
  rw [hW2] at hs;refine Hd.cutK (ι:=Option Addr×Nat) [(0,_),(3,_),(65,_),(66,_),(67,_)] (fun s=>[(9,.slice s.1 W2.length s.2)]) (fun s=>own 9 1 s.1 W2.length s.2 (VLs W2)::WireL xb x i2 0 (WoR wb n w i (own 9 1 ad (imgN w n).length c (VLs (imgN w n))::L))) ?_ ?_ ⟨rfl,rfl,rfl,rfl,rfl,trivial⟩
  ·refine sr fun _ K28=>?_
   refine yv y_mv<|yv y_np<|yv (y_f 14 4 Tryz.underlying198 sz4)<|yv (y_l1 ag4 rfl)<|fk [(0,_),(3,_),(9,_),(65,_),(66,_),(67,_),(121,_)] K28 ?_;refine qz ?_ ?_<;>intro hc7<;>try simp only [hyZ] at hc7
   ·rw [if_pos hc7] at hWW
    refine Hd.region<|yv y_mv<|Hd.bslice (vs:=[(0,_)]) rfl (by exact bsS1 ..) (fun b123=>?_);refine Hd.append Tryz.underlying137 ty9 rfl rfl rfl pkk (by exact RdS.rd (Rd.pt pkk (fun j v e=>by simpa using e)) rfl) (by simp [Value.oneCell'];done) (by simp only [maxLen];omega) (by omega) (fun ad124 cap124=>?_);refine yv y_as<|Hd.nil<|slots [(0,_),(3,_),(9,_),(65,_),(66,_),(67,_)] sbq ?_;refine thenN<|Hd.meet (ad124,cap124) ⟨by rw [hWW,List.length_append];rfl,by repeat (first | exact trivial | refine ⟨rfl,?_⟩)⟩ (Ent.sep (.eq pkk (own_eq3 (by rw [hWW,List.length_append];rfl) rfl (by rw [hWW];exact vls_snoc rfl)) enn))
   rw [if_neg (by simpa using hc7),List.append_nil] at hWW;refine Hd.skip<|thenN ?_;exact Hd.meet (la,lc) ⟨by rw [hWW];rfl,by repeat (first | exact trivial | refine ⟨rfl,?_⟩)⟩ (Ent.sep (.eq pkk (own_eq3 (by rw [hWW]) rfl (by rw [hWW])) enn))
  rintro ⟨ja,jc⟩;dsimp only;refine Hd.region<|yv y_mv<|yv y_mv<|Hd.call rfl fk168 (joinO_ct _ _ _ ja jc W2 [32] (by exact pkk) hW2p (by omega) hjl) ?_;intro _;refine Hd.bslice (vs:=[(0,_)]) rfl (by exact bs87_128 ..) (fun b128=>?_);refine Hd.append Tryz.underlying137 ty9 rfl rfl rfl pkk (by exact RdS.rd (Rd.pt pkk (fun j v e=>by simpa using e)) rfl) (by simp [Value.oneCell'];done) (by simp only [maxLen];omega) (by omega) (fun ad129 cap129=>?_);refine yv y_as<|Hd.nil<|slots [(0,_),(3,_),(65,_),(66,_),(67,_)] sbq ?_;refine Hd.inB<|Hd.toK K18 ?_;refine Hd.region<|yv (y_addn rfl rfl (by simp only [InK];omega)) ?_;refine yv y_mv<|Hd.nil<|slots [(0,_),(3,_),(65,_),(66,_),(67,_)] sbq ?_;refine thenN ?_
  have hfin:Lib.join W2 [32]=spJ W2:=rfl
  refine Hd.again (n + 1,ad129,cap129) (by show i.rs.length - (n + 1) < i.rs.length - n;omega) (by (try dsimp only);rw [hs,List.length_append];repeat (first | exact trivial | refine ⟨rfl,?_⟩)) (fun q s=>?_);rw [hs];exact Ent.sep (.pure (show n + 1≤i.rs.length by omega) (.eq (A:=own 9 1 ad129 ((imgN w n).length + 1) cap129 (VLs (imgN w n)++[.string (str (Lib.join W2 [32]))])) pkk (own_eq3 (by rw [List.length_append];rfl) rfl (by exact vls_snoc rfl)) enn)) q (wol_back (L:=own 9 1 ad129 ((imgN w n).length + 1) cap129 (VLs (imgN w n)++[.string (str (Lib.join W2 [32]))])::L) hxb q (wire_fold (k:=0) hi2 (by omega) q (Ent.sep enn q s)))
 have hrl:i.rs.length=w.ws.length:=by rw [←hrs,List.length_map]
 obtain rfl:n=i.rs.length:=by omega
 rw [hrl,imgS_0 w];refine Hd.exit<|Hd.thenExit<|Hd.thenExit<|Hd.inBexit<|Hd.toK K14 ?_;refine Hd.seq fun _ K29=>?_
 refine sr fun _ K30=>?_
 refine yv y_as<|fk [(0,_),(3,_),(12,_)] K30 ?_;refine Hd.block<|Hd.loopK (ι:=Nat×Option Addr×Nat) [(0,_)] (fun q_=>[(3,.slice q_.2.1 (imgS w q_.1).length q_.2.2),(12,.int .i64 ((q_.1 + 1:Nat):Int))]) (fun q_=>pu (q_.1≤31)::own 9 1 q_.2.1 (imgS w q_.1).length q_.2.2 (VLs (imgS w q_.1))::WoL wb w i L) (fun q_=>31 - q_.1) (0,ad,c) sbq sbq (Ent.sep (.pure (by omega) enn)) ?_;rintro ⟨s,ad,c⟩
 try dsimp only
 refine Hd.pure (fun hp3=>?_)
 try dsimp only at hp3
 refine Hd.seq fun _ K31=>?_
 refine sr fun _ K32=>?_
 refine yv y_mv<|yv (y_leq rfl rfl) ?_;refine fk [(0,_),(3,_),(12,_),(132,_)] K32 ?_;refine qz ?_ ?_<;>intro hc8<;>try simp only [hyZ] at hc8
 ·have hsk:s < 31:=by omega
  have hss:=imgS_s w s
  have hsl:=imgS_le w s
  have hwl:=hw.len
  have hhd:=hw.hdl
  have hcl:=hw.ctl
  have hcb:0≤w.ct.getD (s + 1) 0∧w.ct.getD (s + 1) 0≤2000000000:=by
   rw [List.getD_eq_getElem?_getD,List.getElem?_eq_getElem (show s + 1 < w.ct.length by omega)];exact hb _ (List.getElem_mem _)
  obtain ⟨ck,hck⟩:∃ ck:Nat,w.ct.getD (s + 1) 0=(ck:Int):=⟨(w.ct.getD (s + 1) 0).toNat,by omega⟩
  have hcn:(w.ct.getD (s + 1) 0).toNat=ck:=by omega
  have hcs:cntS w.ct ((s + 1:Nat):Int)=(ck:Int):=by
   rw [←hck];unfold cntS;rw [if_pos (by omega)]
   rfl
  have h1l:=dg_20 (n:=s + 1) (by omega)
  have h2l:=dg_20 (n:=ck) (by omega)
  refine qv K31<|Hd.seq fun _ K33=>?_
  refine Hd.block<|sr fun _ K34=>?_
  refine yv y_mv<|yv y_np<|yv (y_f 289 179 Tryz.underlying186 sz179)<|yv (y_load1 (v:=ptr (some i.sb)) ag179 rfl (Rd.pt1 pkk (woT_at (j:=1) (by omega) rfl))) ?_;refine yv y_mv<|callE rfl fk169 (sHandled_ct _ i.sb w.hd w.ct hhd hcl (s + 1) (by omega) (by omega)) sq ?_;intro _;refine fk [(0,_),(3,_),(12,_),(140,_)] K34 ?_;refine qz ?_ ?_<;>intro hc9<;>try simp only [hyZ] at hc9
  ·have hsg:sgB w (s + 1)=[sSignal++(dgB (s + 1)++([32]++dgB ck))]:=by unfold sgB;rw [if_pos hc9,hcn]
   rw [hsg] at hss;refine Hd.drawsH ([WoH wb w.at w i.rs.length i]) (fun _=>true) mixed ?_;simp only [List.length,Nat.zero_add,Nat.reduceAdd];refine tH 0 rfl y_mv<|tH 1 rfl y_mv<|tH 5 rfl y_mv<|tH 6 rfl y_np<|tH 7 rfl (y_f 289 179 Tryz.underlying186 sz179)<|tH 8 rfl (y_load1 (v:=ptr (some i.sb)) ag179 rfl (Rd.pt1 pkk (woT_at (j:=1) (by omega) rfl))) ?_;refine tH 9 rfl y_mv<|qo 2 ?_;refine Hd.call rfl fk166 (itoa_ct _ (by exact Tb.mono hT sq) (s + 1) (by omega)) ?_;intro _;refine qk<|tH 3 rfl (y_addstr rfl rfl (by simp;omega)) ?_;refine tH 4 rfl (y_addstr rfl rfl (by simp;omega)) ?_;refine qo 10 ?_;refine callE rfl fk164 (count_ct _ i.sb w.hd w.ct hhd hcl ((s + 1:Nat):Int)) sq ?_;intro _;rw [hcs];refine qk<|qo 11 ?_;refine Hd.call rfl fk166 (itoa_ct _ (by exact Tb.mono hT sq) ck (by omega)) ?_
   intro _;refine qk<|tH 12 rfl (y_addstr rfl rfl (by simp;omega)) ?_;refine qo 13 ?_;refine Hd.bslice (vs:=[(0,_)]) rfl (by exact bs87_154 ..) (fun b154=>?_);refine qk<|qo 14 ?_;refine Hd.append Tryz.underlying137 ty9 rfl rfl rfl pkk (by exact RdS.rd (Rd.pt pkk (fun j v e=>by simpa using e)) rfl) (by simp [Value.oneCell'];done) (by simp only [maxLen];omega) (by omega) (fun ad155 cap155=>?_);refine qk<|tH 15 rfl y_as<|endH kq ?_;refine slots [(0,_),(3,_),(12,_)] sbq ?_;refine Hd.inB<|Hd.toK K33 ?_;refine Hd.region<|yv y_mv<|yv (y_addn rfl rfl (by simp only [InK];omega)) ?_;refine yv y_as<|Hd.nil<|slots [(0,_),(3,_),(12,_)] sbq ?_;refine thenN<|Hd.again (s + 1,ad155,cap155) (by show 31 - (s + 1) < 31 - s;omega) (by (try dsimp only);rw [hss,List.length_append];repeat (first | exact trivial | refine ⟨rfl,?_⟩)) (fun q t=>?_)
   rw [hss];exact Ent.sep (.pure (show s + 1≤31 by omega) (.eq pkk (own_eq3 (by rw [List.length_append];rfl) rfl (by exact vls_snoc (by rfl))) enn)) q t
  have hsg:sgB w (s + 1)=[]:=by unfold sgB;rw [if_neg (by simpa using hc9)]
  rw [hsg,List.append_nil] at hss;refine Hd.skip<|Hd.inB<|Hd.toK K33 ?_;refine Hd.region<|yv y_mv<|yv (y_addn rfl rfl (by simp only [InK];omega)) ?_;refine yv y_as<|Hd.nil<|slots [(0,_),(3,_),(12,_)] sbq ?_;refine thenN<|Hd.again (s + 1,ad,c) (by show 31 - (s + 1) < 31 - s;omega) (by (try dsimp only);rw [hss];repeat (first | exact trivial | refine ⟨rfl,?_⟩)) (fun q t=>?_);rw [hss];exact Ent.sep (.pure (show s + 1≤31 by omega) enn) q t
 obtain rfl:s=31:=by omega
 have hall:=img_all w
 have hsl:=imgS_le w 31
 have hwl:=hw.len
 have hntw:=hw.nt
 obtain ⟨o,ho⟩:∃ o,w.nt=o:=⟨_,rfl⟩
 rw [ho] at hntw;refine Hd.exit<|Hd.thenExit<|Hd.thenExit<|Hd.inBexit<|Hd.toK K29 ?_;refine Hd.seq fun _ K35=>?_
 refine sr fun _ K36=>?_
 refine yv y_mv<|yv y_np<|yv (y_f 291 182 Tryz.underlying186 sz182)<|yv (y_f 0 4 Tryz.underlying182 sz4)<|yv (y_load1 (v:=.bool o.isSome) ag4 rfl (Rd.pt1 pkk (woT_nt (j:=0) (by omega) (by rw [ho];exact plc_0 o)))) ?_;refine fk [(0,_),(3,_),(160,_)] K36 ?_;refine qz ?_ ?_<;>intro hc10<;>try simp only [hyZ] at hc10
 ·obtain ⟨n,k,rfl⟩:∃ n k,o=some (n,k):=by
   cases o with
   | none=>cases hc10
   | some p=>exact ⟨p.1,p.2,rfl⟩
  obtain ⟨hk2,x,hx,_⟩:=hntw n k rfl
  have hn1:=(List.getElem?_eq_some_iff.1 hx).1
  have h1l:=dg_20 (n:=n) (by omega)
  have h2l:=dg_20 (n:=k) (by omega)
  have hnb2:ntB w=[sNotice++(dgB n++([32]++dgB k))]:=by unfold ntB;rw [ho]
  rw [hnb2] at hall;refine Hd.drawsH ([WoH wb w.at w i.rs.length i]) (fun _=>true) mixed ?_;simp only [List.length,Nat.zero_add,Nat.reduceAdd];refine tH 0 rfl y_mv<|tH 1 rfl y_mv<|tH 2 rfl y_np<|tH 3 rfl (y_f 291 182 Tryz.underlying186 sz182)<|tH 4 rfl (y_f 1 3 Tryz.underlying182 sz3)<|tH 5 rfl (y_load1 (v:=.int .i64 (n:Int)) ag3 rfl (Rd.pt1 pkk (woT_nt (j:=1) (by omega) (by rw [ho];rfl)))) ?_;refine tH 9 rfl y_mv<|tH 10 rfl y_np<|tH 11 rfl (y_f 291 182 Tryz.underlying186 sz182)<|tH 12 rfl (y_f 2 3 Tryz.underlying182 sz3)<|tH 13 rfl (y_load1 (v:=.int .i64 (k:Int)) ag3 rfl (Rd.pt1 pkk (woT_nt (j:=2) (by omega) (by rw [ho];rfl)))) ?_;refine qo 6 ?_;refine Hd.call rfl fk166 (itoa_ct _ (by exact Tb.mono hT sq) n (by omega)) ?_;intro _;refine qk<|tH 7 rfl (y_addstr rfl rfl (by simp;omega)) ?_
  refine tH 8 rfl (y_addstr rfl rfl (by simp;omega)) ?_;refine qo 14 ?_;refine Hd.call rfl fk166 (itoa_ct _ (by exact Tb.mono hT sq) k (by omega)) ?_;intro _;refine qk<|tH 15 rfl (y_addstr rfl rfl (by simp;omega)) ?_;refine qo 16 ?_;refine Hd.bslice (vs:=[(0,_)]) rfl (by exact bs87_177 ..) (fun b177=>?_);refine qk<|qo 17 ?_;refine Hd.append Tryz.underlying137 ty9 rfl rfl rfl pkk (by exact RdS.rd (Rd.pt pkk (fun j v e=>by simpa using e)) rfl) (by simp [Value.oneCell'];done) (by simp only [maxLen];omega) (by omega) (fun ad178 cap178=>?_);refine qk<|tH 18 rfl y_as<|endH kq ?_;refine sk [(3,_)] K35 ?_;refine sr fun _ K37=>?_
  refine yv y_mv<|yv y_as<|fk [(2,_)] K37 ?_;refine Hd.ret<|Hd.ret1 rfl (ad178,cap178) (by rw [hall,List.length_append];rfl) (fun q s=>?_);rw [hall];exact Ent.sep (show Ent _ (own 9 1 ad178 (imgS w 31++[sNotice++(dgB n++([32]++dgB k))]).length cap178 (VLs (imgS w 31++[sNotice++(dgB n++([32]++dgB k))]))::WorldP wb w::L) from .eq pkk (own_eq3 (by rw [List.length_append];rfl) rfl (by exact vls_snoc (by rfl))) (.ex i (.pure ⟨hw,hrs⟩ enn))) q s
 have hno:o=none:=by
  cases o with
  | none=>rfl
  | some p=>cases hc10
 have hnb2:ntB w=[]:=by unfold ntB;rw [ho,hno]
 rw [hnb2,List.append_nil] at hall;refine qv K35<|sr fun _ K38=>?_
 refine yv y_mv<|yv y_as<|fk [(2,_)] K38 ?_;refine Hd.ret<|Hd.ret1 rfl (ad,c) (by rw [hall];rfl) (fun q s=>?_);rw [hall];exact Ent.sep (show Ent _ (own 9 1 ad (imgS w 31).length c (VLs (imgS w 31))::WorldP wb w::L) from .pick pkk (.ex i (.pure ⟨hw,hrs⟩ enn))) q s
end Wo
end Go.Proofs.YtmpemhbfgbochaaGreatDoor
namespace Go.Proofs.YtmpemhbfgbochaaGreatDoor
open Go.RX Fx
namespace Wo
theorem wnow_ct (L:List SP) (wb:Nat) (w:WA):Ct Tryz.prog 82 #[.pointer (some ⟨wb,0,none⟩)] (WorldP wb w::L) (fun _:Unit=>.int .u64 w.now) (fun _:Unit=>WorldP wb w::L):=by
 refine Ct.o1 Tryz.func82 ?_;intro E
 show Hd E 9 _ _ _ _
 refine Hd.world .here (fun i hw hrs=>?_);refine sr fun _ K1=>?_
 refine yv y_as<|fk [(0,_)] K1 ?_;refine Hd.seq fun _ K2=>?_
 refine sr fun _ K3=>?_
 refine yv y_mv<|callE rfl fk114 (wnone_ct _ wb w.at w i.rs.length i) sq ?_;intro _;refine fk [(0,_),(4,_)] K3 ?_;refine Hd.condF rfl ?_;refine qv K2<|sr fun _ K4=>?_
 refine yv y_mv<|yv y_np<|yv (y_f 290 29 Tryz.underlying186 sz29)<|yv (y_load1 ag29 rfl (Rd.pt1 pkk (by exact woT_at (j:=2) (by omega) rfl))) ?_;refine yv y_as<|fk [(2,_)] K4 ?_;refine Hd.ret ?_;exact Hd.ret1 rfl () rfl (Ent.sep (.ex i (.pure ⟨hw,hrs⟩ enn)))
theorem wpend_ct (L:List SP) (wb:Nat) (w:WA) (hb:∀ c∈w.ct,0≤c∧c≤2000000000):Ct Tryz.prog 83 #[.pointer (some ⟨wb,0,none⟩)] (WorldP wb w::L) (fun _:Unit=>.int .i64 (pendN w)) (fun _:Unit=>WorldP wb w::L):=by
 refine Ct.o1 Tryz.func83 ?_;intro E
 show Hd E 10 _ _ _ _
 refine Hd.world .here (fun i hw hrs=>?_);refine sr fun _ K1=>?_
 refine yv y_as<|fk [(0,_)] K1 ?_;refine Hd.seq fun _ K2=>?_
 refine sr fun _ K3=>?_
 refine yv y_mv<|callE rfl fk114 (wnone_ct _ wb w.at w i.rs.length i) sq ?_;intro _;refine fk [(0,_),(4,_)] K3 ?_;refine Hd.condF rfl ?_;refine qv K2<|sr fun _ K4=>?_
 refine yv y_mv<|yv y_np<|yv (y_f 289 179 Tryz.underlying186 sz179)<|yv (y_load1 ag179 rfl (Rd.pt1 pkk (by exact woT_at (j:=1) (by omega) rfl))) ?_;refine callE rfl fk163 (pending_ct _ i.sb w.hd w.ct hw.hdl hw.ctl hb) sq ?_;intro _;refine yv y_as<|fk [(2,_)] K4 ?_;refine Hd.ret ?_;exact Hd.ret1 rfl () rfl (Ent.sep (.ex i (.pure ⟨hw,hrs⟩ enn)))
theorem wcount_ct (L:List SP) (wb:Nat) (w:WA) (s:Int):Ct Tryz.prog 85 #[.pointer (some ⟨wb,0,none⟩),.int .i64 s] (WorldP wb w::L) (fun _:Unit=>.int .i64 (cntS w.ct s)) (fun _:Unit=>WorldP wb w::L):=by
 refine Ct.o2 Tryz.func85 ?_;intro E
 show Hd E 13 _ _ _ _
 refine Hd.world .here (fun i hw hrs=>?_);refine sr fun _ K1=>?_
 refine yv y_as<|fk [(0,_),(1,_)] K1 ?_;refine Hd.seq fun _ K2=>?_
 refine sr fun _ K3=>?_
 refine yv y_mv<|callE rfl fk114 (wnone_ct _ wb w.at w i.rs.length i) sq ?_;intro _;refine fk [(0,_),(1,_),(6,_)] K3 ?_;refine Hd.condF rfl ?_;refine qv K2<|sr fun _ K4=>?_
 refine yv y_mv<|yv y_np<|yv (y_f 289 179 Tryz.underlying186 sz179)<|yv (y_load1 ag179 rfl (Rd.pt1 pkk (by exact woT_at (j:=1) (by omega) rfl))) ?_;refine yv y_mv<|callE rfl fk164 (count_ct _ i.sb w.hd w.ct hw.hdl hw.ctl s) sq ?_;intro _;refine yv y_as<|fk [(4,_)] K4 ?_;refine Hd.ret ?_;exact Hd.ret1 rfl () rfl (Ent.sep (.ex i (.pure ⟨hw,hrs⟩ enn)))
theorem sep_pu {p:Prop} {L:List SP} {k:PH} (h:sep (pu p::L) k):sep L k:=by
 obtain ⟨h1,h2,_,_,b,x,y⟩:=h
 exact y.up b
theorem rd_rw {L L':List SP} {b o:Nat} {w:WA} {us:List Value} (p:Pick L (Rf.RwP b w) L') (h:∀ n ad c j v,us[j]?=some v→(Rf.RwC w n ad c)[o + j]?=some v):Rd L b o us:=fun k s j v e=>by
 obtain ⟨h1,s1,i,x⟩:=sep.one p s
 have x2:=sep_pu x
 obtain ⟨fr,hh⟩:=Rd.pt (L:=Rf.RwL b w i []) (b:=b) (o:=o) (us:=us) Pick.here (fun j v e=>h _ _ _ j v e) h1 x2 j v e
 exact ⟨fr,s1 _ _ hh⟩
theorem rd_rwnow {L L':List SP} {b o:Nat} {w:WA} (p:Pick L (Rf.RwP b w) L') (ho:o=1):Rd L b o [.int .u64 w.now]:=rd_rw p fun n ad c j v e=>by
 subst ho
 cases j with
 | zero=>simpa using e
 | succ j=>simp at e
theorem rd_rwct {L L':List SP} {b o s:Nat} {w:WA} (p:Pick L (Rf.RwP b w) L') (hw:WOk w) (hs:s < 32) (ho:o=34 + s):Rd L b o [.int .i64 (w.ct.getD s 0)]:=rd_rw p fun n ad c j v e=>by
 cases j with
 | zero =>
  simp only [List.getElem?_cons_zero,Option.some.injEq] at e;subst e;exact Rf.rc_ct hw.hdl hw.ctl hs (by omega)
 | succ j=>simp at e
theorem imgW_len {w:WA} (hw:WOk w):(imgW w).length≤1000000:=by
 rw [img_all,List.length_append]
 have h1:=imgS_le w 31
 have h2:=hw.len
 have h3:(ntB w).length≤1:=by unfold ntB;split<;>simp
 omega
theorem alike_ct (L:List SP) (hT:Tb L) (pb wb rb:Nat) (w:WA) (hw:WOk w) (hn:InK .u64 w.now) (hb:∀ c∈w.ct,0≤c∧c≤2000000000):Ct Tryz.prog 37 #[.pointer (some ⟨pb,0,none⟩)] (BoP pb wb rb::WorldP wb w::Rf.RwP rb w::L) (fun _:Unit=>.bool true) (fun _:Unit=>BoP pb wb rb::WorldP wb w::Rf.RwP rb w::L):=by
 refine Ct.o1 Tryz.func37 ?_;intro E
 show Hd E 125 _ _ _ _
 have hfl:(fdsW w).length≤96:=by unfold fdsW;rw [List.length_map];exact Nat.le_trans (List.length_filter_le _ _) (by simp)
 refine sr fun _ K1=>?_
 refine yv y_as<|fk [(0,_)] K1 ?_;refine sr fun _ K2=>?_
 refine yv y_mv<|yv y_np<|yv (y_f 0 37 Tryz.underlying40 sz37)<|yv (y_l1 ag37 rfl)<|callE rfl fk80 (wFds_ct _ wb w) sq ?_;rintro ⟨la,lc⟩;dsimp only;refine yv y_as<|fk [(0,_),(3,_)] K2 ?_;refine sr fun _ K3=>?_
 refine yv y_mv<|yv y_np<|yv (y_f 1 38 Tryz.underlying40 sz38)<|yv (y_l1 ag38 rfl)<|callE rfl fk81 (Rf.rFds_ct _ rb w hw) sq ?_;rintro ⟨ma,mc⟩;dsimp only;refine yv y_as<|fk [(0,_),(3,_),(4,_)] K3 ?_;refine Hd.seq fun _ K4=>?_
 refine Hd.seq fun _ K5=>?_
 refine Hd.quiet mixed kq ?_;refine Hq.yv y_mv ?_;refine Hq.yv (y_len Tryz.underlying94 rfl) ?_;refine Hq.yv y_mv ?_;refine Hq.yv (y_len Tryz.underlying94 rfl) ?_;refine Hq.yv (y_to (v':=.bool false) (y_neq rfl rfl) (by (simp))) ?_;refine Hq.yv y_mv ?_;refine Hq.yg rfl rfl y_mv ?_;refine Hq.yg rfl rfl y_np ?_;refine Hq.yg rfl rfl (y_f 0 37 Tryz.underlying40 sz37) ?_;refine Hq.yg rfl rfl (y_l1 ag37 rfl) ?_;refine Hq.unguard rfl rfl ?_;refine Hq.call rfl fk82 ((wnow_ct _ wb w).swap sq sq) ?_;refine Hq.yg rfl rfl y_mv ?_;refine Hq.yg rfl rfl y_np ?_;refine Hq.yg rfl rfl (y_f 1 38 Tryz.underlying40 sz38) ?_;refine Hq.yg rfl rfl (y_l1 ag38 rfl) ?_;refine Hq.yg rfl rfl y_np ?_;refine Hq.yg rfl rfl (y_f 1 29 Tryz.underlying102 sz29) ?_;refine Hq.yg rfl rfl (y_load1 ag29 rfl (rd_rwnow pkk rfl)) ?_;refine Hq.yg rfl rfl (y_to (v':=.bool false) (y_neq rfl rfl) (by (simp))) ?_
 refine Hq.yv (y_pickF rfl rfl) ?_;refine Hq.yv y_mv ?_;refine Hq.yg rfl rfl y_mv ?_;refine Hq.yg rfl rfl y_np ?_;refine Hq.yg rfl rfl (y_f 0 37 Tryz.underlying40 sz37) ?_;refine Hq.yg rfl rfl (y_l1 ag37 rfl) ?_;refine Hq.unguard rfl rfl ?_;refine Hq.call rfl fk83 ((wpend_ct _ wb w hb).swap sq sq) ?_;refine Hq.yg rfl rfl y_mv ?_;refine Hq.yg rfl rfl y_np ?_;refine Hq.yg rfl rfl (y_f 1 38 Tryz.underlying40 sz38) ?_;refine Hq.yg rfl rfl (y_l1 ag38 rfl) ?_;refine Hq.unguard rfl rfl ?_;refine Hq.call rfl fk84 ((Rf.rPending_ct _ rb w hw hb).swap sq sq) ?_;refine Hq.yg rfl rfl (y_to (v':=.bool false) (y_neq rfl rfl) (by (simp))) ?_;refine Hq.yv (y_pickF rfl rfl) ?_;refine Hq.nil ?_;refine sk [(0,_),(3,_),(4,_),(50,_)] K5 ?_;refine Hd.condF rfl ?_;refine qv K4<|Hd.seq fun _ K6=>?_
 refine sr fun _ K7=>?_
 refine yv y_as<|fk [(0,_),(3,_),(4,_),(5,_)] K7 ?_;refine Hd.block<|Hd.loopK (ι:=Nat) [(0,_),(3,_),(4,_)] (fun s=>[(5,.int .i64 ((s:Int) - 1))]) (fun s=>pu (s≤34)::own 3 1 la (fdsW w).length lc ((fdsW w).map (Value.int .i64))::own 3 1 ma (fdsW w).length mc ((fdsW w).map (Value.int .i64))::BoP pb wb rb::WorldP wb w::Rf.RwP rb w::L) (fun s=>34 - s) 0 sbq sbq (Ent.sep (.pure (by omega) enn)) ?_;intro s
 try dsimp only
 refine Hd.pure (fun hp0=>?_)
 try dsimp only at hp0
 refine Hd.seq fun _ K8=>?_
 refine sr fun _ K9=>?_
 refine yv y_mv<|yv (y_leq rfl rfl) ?_;refine fk [(0,_),(3,_),(4,_),(5,_),(52,_)] K9 ?_;refine qz ?_ ?_<;>intro hc1<;>try simp only [hyZ] at hc1
 ·refine qv K8 ?_
  refine Hd.seq fun _ K10=>?_
  refine Hd.block<|sr fun _ K11=>?_
  refine yv y_as<|fk [(0,_),(3,_),(4,_),(5,_),(6,_)] K11 ?_;refine Hd.cutK (ι:=Unit) [(0,_),(3,_),(4,_),(5,_)] (fun _=>[(6,.int .i64 (cntS w.ct ((s:Int) - 1)))]) (fun _=>own 3 1 la (fdsW w).length lc ((fdsW w).map (Value.int .i64))::own 3 1 ma (fdsW w).length mc ((fdsW w).map (Value.int .i64))::BoP pb wb rb::WorldP wb w::Rf.RwP rb w::L) ?_ ?_ ⟨rfl,rfl,rfl,rfl,trivial⟩
  ·refine sr fun _ K12=>?_
   refine yv y_mv<|yv (y_gtr rfl rfl) ?_;refine yv y_mv ?_;apply Hd.andg 3 57 60 [(0,_),(3,_),(4,_),(5,_),(6,_)] rfl sbq
   ·intro hg9_57
    try simp only [hyZ] at hg9_57
    simp only [List.take];refine y2 y_mv<|y2 (y_leq rfl rfl) ?_;refine yv (y_pickT rfl rfl) ?_;exact Hd.mn
   ·intro hg9_57
    try simp only [hyZ] at hg9_57
    simp only [List.take];refine n1<|n1<|yv (y_pickF rfl rfl) ?_;exact Hd.mn
   simp only [List.drop];refine fk [(0,_),(3,_),(4,_),(5,_),(6,_),(60,_)] K12 ?_;refine qz ?_ ?_<;>intro hc2<;>try simp only [hyZ] at hc2
   ·obtain ⟨k,hk⟩:∃ k:Nat,(s:Int) - 1=(k:Int):=⟨s - 1,by omega⟩
    rw [hk];rw [hk] at hc2;refine Hd.region<|yv y_mv<|yv y_np<|yv (y_f 1 38 Tryz.underlying40 sz38)<|yv (y_l1 ag38 rfl)<|yv y_mv<|yv y_np<|yv (y_f 34 100 Tryz.underlying102 sz100)<|yv (y_idxA Tryz.underlying100 sz3 rfl rfl (by omega)) ?_;refine yv (y_load1 ag3 rfl (rd_rwct pkk hw (s:=k) (by omega) (by omega))) ?_;refine yv y_as<|Hd.nil<|slots [(0,_),(3,_),(4,_),(5,_),(6,_)] sbq ?_;refine thenN ?_;exact Hd.meet () ⟨congrArg (fun z=>some (Value.int .i64 z)) (by unfold cntS;rw [if_pos (by omega),Int.toNat_natCast]),by repeat (first | exact trivial | refine ⟨rfl,?_⟩)⟩ sq
   refine Hd.skip<|thenN ?_;exact Hd.meet () ⟨congrArg (fun z=>some (Value.int .i64 z)) (by unfold cntS;rw [if_neg (by omega)]),by repeat (first | exact trivial | refine ⟨rfl,?_⟩)⟩ sq
  intro _;refine sr fun _ K13=>?_
  refine yv y_mv<|yv y_np<|yv (y_f 0 37 Tryz.underlying40 sz37)<|yv (y_l1 ag37 rfl)<|yv y_mv<|callE rfl fk85 (wcount_ct _ wb w ((s:Int) - 1)) sq ?_;intro _;refine yv y_mv<|yv (y_to (v':=.bool false) (y_neq rfl rfl) (by (simp))) ?_;refine fk [(0,_),(3,_),(4,_),(5,_),(77,_)] K13 ?_;refine Hd.condF rfl ?_;refine Hd.skip<|Hd.inB<|Hd.toK K10 ?_;refine Hd.region<|yv y_mv<|yv (y_to (v':=.int .i64 (((s + 1:Nat):Int) - 1)) (y_add rfl rfl) (by (congr 1;rw [wrap_i64];omega))) ?_;refine yv y_as<|Hd.nil<|slots [(0,_),(3,_),(4,_),(5,_)] sbq ?_;refine thenN ?_;exact Hd.again (s + 1) (by omega) sbq (Ent.sep (.pure (by omega) enn))
 refine Hd.exit<|Hd.thenExit<|Hd.thenExit<|Hd.inBexit<|Hd.toK K6 ?_;refine Hd.seq fun _ K14=>?_
 refine sr fun _ K15=>?_
 refine yv y_mv<|yv (y_len Tryz.underlying94 rfl) ?_;refine yv y_mv<|fk [(0,_),(3,_),(4,_),(79,_),(80,_)] K15 ?_;refine Hd.block<|Hd.loopK (ι:=Nat) [(0,_),(3,_),(4,_),(79,_)] (fun k=>[(80,.int .i64 (k:Int))]) (fun k=>pu (k≤(fdsW w).length)::own 3 1 la (fdsW w).length lc ((fdsW w).map (Value.int .i64))::own 3 1 ma (fdsW w).length mc ((fdsW w).map (Value.int .i64))::BoP pb wb rb::WorldP wb w::Rf.RwP rb w::L) (fun k=>(fdsW w).length - k) 0 sbq sbq (Ent.sep (.pure (by omega) enn)) ?_;intro k
 try dsimp only
 refine Hd.pure (fun hp1=>?_)
 try dsimp only at hp1
 refine sr fun _ K16=>?_
 refine yv (y_lss rfl rfl) ?_;refine fk [(0,_),(3,_),(4,_),(79,_),(80,_),(81,_)] K16 ?_;refine Hd.seq fun _ K17=>?_
 refine qz ?_ ?_<;>intro hc4<;>try simp only [hyZ] at hc4
 ·have hk:k < (fdsW w).length:=by omega
  obtain ⟨f,hf⟩:∃ f,(fdsW w)[k]?=some f:=⟨_,List.getElem?_eq_getElem hk⟩
  have hfd:((fdsW w).map (Value.int .i64))[k * 1]?=some (.int .i64 f):=by rw [Nat.mul_one,List.getElem?_map,hf];rfl
  refine qv K17<|Hd.seq fun _ K18=>?_
  refine Hd.block<|sr fun _ K19=>?_
  refine yv y_mv<|yv y_as<|fk [(0,_),(3,_),(4,_),(7,_),(79,_),(80,_)] K19 ?_;refine Hd.seq fun _ K20=>?_
  refine Hd.quiet mixed kq ?_;refine Hq.yv y_mv ?_;refine Hq.yv y_mv ?_;refine Hq.yv (y_idxR Tryz.underlying94 sz3 rfl rfl (by omega) (by exact RdS.own pkk)) ?_;refine Hq.yv (y_loadR1 ag3 rfl (by exact RdS.own pkk) (by exact hfd)) ?_;refine Hq.yv y_mv ?_;refine Hq.yv y_mv ?_;refine Hq.yv (y_idxR Tryz.underlying94 sz3 rfl rfl (by omega) (by exact RdS.own pkk)) ?_;refine Hq.yv (y_loadR1 ag3 rfl (by exact RdS.own pkk) (by exact hfd)) ?_;refine Hq.yv (y_to (v':=.bool false) (y_neq rfl rfl) (by (simp))) ?_;refine Hq.yv y_mv ?_;refine Hq.yg rfl rfl y_mv ?_;refine Hq.yg rfl rfl y_np ?_;refine Hq.yg rfl rfl (y_f 0 37 Tryz.underlying40 sz37) ?_;refine Hq.yg rfl rfl (y_l1 ag37 rfl) ?_;refine Hq.yg rfl rfl y_mv ?_;refine Hq.yg rfl rfl y_mv ?_;refine Hq.yg rfl rfl (y_idxR Tryz.underlying94 sz3 rfl rfl (by omega) (by exact RdS.own pkk)) ?_;refine Hq.yg rfl rfl (y_loadR1 ag3 rfl (by exact RdS.own pkk) (by exact hfd)) ?_
  refine Hq.unguard rfl rfl ?_;refine Hq.call rfl fk62 ((wready_ct _ wb w f).swap sq sq) ?_;refine Hq.yg rfl rfl y_mv ?_;refine Hq.yg rfl rfl y_np ?_;refine Hq.yg rfl rfl (y_f 1 38 Tryz.underlying40 sz38) ?_;refine Hq.yg rfl rfl (y_l1 ag38 rfl) ?_;refine Hq.yg rfl rfl y_mv ?_;refine Hq.yg rfl rfl y_mv ?_;refine Hq.yg rfl rfl (y_idxR Tryz.underlying94 sz3 rfl rfl (by omega) (by exact RdS.own pkk)) ?_;refine Hq.yg rfl rfl (y_loadR1 ag3 rfl (by exact RdS.own pkk) (by exact hfd)) ?_;refine Hq.unguard rfl rfl ?_;refine Hq.call rfl fk63 ((Rf.rReady_ct _ rb w hw f).swap sq sq) ?_;refine Hq.yg rfl rfl (y_to (v':=.bool false) (y_neq_agg rfl rfl eqt112 rfl ⟨rfl,rfl⟩) (by (simp [allEq,eqv]))) ?_;refine Hq.yv (y_pickF rfl rfl) ?_;refine Hq.nil ?_;refine sk [(0,_),(3,_),(4,_),(79,_),(80,_),(112,_)] K20 ?_;refine Hd.condF rfl ?_;refine Hd.skip<|Hd.inB<|Hd.toK K18 ?_
  refine Hd.region<|yv (y_addn rfl rfl (by simp only [InK];omega)) ?_;refine yv y_mv<|Hd.nil<|slots [(0,_),(3,_),(4,_),(79,_),(80,_)] sbq ?_;refine thenN ?_;exact Hd.again (k + 1) (by omega) sbq (Ent.sep (.pure (by omega) enn))
 refine Hd.exit<|Hd.thenExit<|Hd.thenExit<|Hd.inBexit<|Hd.toK K14 ?_;refine Hd.seq fun _ K21=>?_
 refine Hd.drawsH ([BoP pb wb rb]) (fun _=>true) mixed ?_;simp only [List.length,Nat.zero_add,Nat.reduceAdd];refine tH 0 rfl y_mv<|tH 1 rfl y_np<|tH 2 rfl (y_f 0 37 Tryz.underlying40 sz37)<|tH 3 rfl (y_l1 ag37 rfl)<|tH 5 rfl y_mv<|tH 6 rfl y_np<|tH 7 rfl (y_f 1 38 Tryz.underlying40 sz38)<|tH 8 rfl (y_l1 ag38 rfl)<|qo 4 ?_;refine callE rfl fk87 (wImage_ct _ ?hT1 wb w hn hb) sq ?_
 case hT1=>exact Tb.mono hT sq
 rintro ⟨ia,ic⟩;dsimp only;refine qk<|qo 9 ?_;refine callE rfl fk88 (Rf.rImage_ct _ rb w hw hn hb) sq ?_;rintro ⟨ja,jc⟩;dsimp only;refine qk<|qo 10 ?_;refine callE rfl fk86 (Rf.rSameS_ct _ ia ic (imgW w) ?h1 (imgW_len hw) ja jc (imgW w) ?h2 (imgW_len hw)) sq ?_
 case h1=>exact RdS.own (ad:=ia) (us:=Rf.VLs (imgW w)) pkk
 case h2=>exact RdS.own (ad:=ja) (us:=Rf.VLs (imgW w)) pkk
 intro _;refine qk<|tH 11 rfl y_as<|endH kq ?_;refine sk [(2,_)] K21 ?_;refine Hd.ret ?_;exact Hd.ret1 rfl () (by simp;rfl) sq
end Wo
end Go.Proofs.YtmpemhbfgbochaaGreatDoor
namespace Go.Proofs.YtmpemhbfgbochaaGreatDoor
open Go.RX Fx
namespace Bu
open Wo
theorem bplays_ct (L:List SP) (hT:Tb L) (a1:Option Addr) (c1:Nat) (fs:List Ov) (hF:RdS L 5 a1 fs.length (fs.flatMap encO)) (hFo:∀ o∈fs,OvOk L o) (fd:Int) (hfd:InK .i64 fd) (a2:Option Addr) (c2:Nat) (xs:List Cv) (hX:RdS L 13 a2 xs.length (xs.flatMap encC)) (hXo:∀ p∈xs,CvOk L p):Ct Tryz.prog 3 #[.slice a1 fs.length c1,.int .i64 fd,.slice a2 xs.length c2] (L) (fun _:Unit=>.bool true) (fun _:Unit=>L):=by
 refine Ct.o3 Tryz.func3 ?_;intro E
 show Hd E 289 _ _ _ _
 refine sr fun _ K1=>?_
 refine yv y_as<|fk [(0,_),(1,_),(2,_)] K1 ?_;refine sr fun _ K2=>?_
 refine callE rfl fk5 (alive_ct _) sq ?_;intro _;refine yv y_as<|fk [(0,_),(1,_),(2,_),(7,_)] K2 ?_;refine Hd.seq fun _ K3=>?_
 refine sr fun _ K4=>?_
 refine yv y_mv<|yv y_mv<|callE rfl fk6 (great26_ct _ a1 c1 fs ?hF a2 c2 xs ?hX) sq ?_
 case hF=>exact RdS.mono hF sq
 case hX=>exact RdS.mono hX sq
 intro g;refine Hd.pure fun hg=>?_
 refine yv (y_gtr rfl rfl) ?_;refine yv y_mv ?_;apply Hd.org 3 27 30 [(0,_),(1,_),(2,_),(7,_)] rfl sbq
 ·intro hg2_27
  try simp only [hyZ] at hg2_27
  simp only [List.take];refine n1<|n1<|yv (y_pickT rfl rfl) ?_;exact Hd.mn
 ·intro hg2_27
  try simp only [hyZ] at hg2_27
  simp only [List.take];refine y2 y_mv<|y2 (y_not rfl)<|yv (y_pickF rfl rfl) ?_;exact Hd.mn
 simp only [List.drop];refine fk [(0,_),(1,_),(2,_),(7,_),(30,_)] K4 ?_;refine qz ?_ ?_<;>intro hc0<;>try simp only [hyZ] at hc0
 ·refine sr fun _ K5=>?_
  refine yv y_mv<|yv y_as<|fk [(6,_)] K5 ?_;refine Hd.ret<|Hd.thenRet ?_;exact Hd.ret1 rfl () rfl sq
 have hg0:¬ 0 < g:=by omega
 obtain ⟨⟨hfl,hfd0⟩,hxl,hxd⟩:=hg hg0
 refine qv K3<|sr fun _ K6=>?_
 refine callE rfl fk7 (fresh_ct _) sq ?_;rintro ⟨pb,wb,rb⟩;dsimp only;refine yv y_as<|fk [(0,_),(1,_),(2,_),(7,_),(8,_)] K6 ?_;refine Hd.seq fun _ K7=>?_
 refine sr fun _ K8=>?_
 refine yv y_as<|fk [(0,_),(1,_),(2,_),(7,_),(8,_),(9,_)] K8 ?_;refine Hd.block<|Hd.loopK (ι:=Nat) [(0,_),(1,_),(2,_),(7,_),(8,_)] (fun i=>[(9,.int .i64 (i:Int))]) (fun i=>pu (i≤fs.length∧Lo (100 * i) (runA newA (fs.take i)))::BoP pb wb rb::WorldP wb (runA newA (fs.take i))::Rf.RwP rb (runA newA (fs.take i))::L) (fun i=>fs.length - i) 0 sbq sbq (Ent.sep (.pure ⟨Nat.zero_le _,newA_lo⟩ enn)) ?_;intro i
 try dsimp only
 refine Hd.pure (fun hp0=>?_)
 try dsimp only at hp0
 refine Hd.seq fun _ K9=>?_
 refine sr fun _ K10=>?_
 refine yv y_mv<|yv y_mv<|yv (y_len Tryz.underlying22 rfl) ?_;refine yv (y_lss rfl rfl) ?_;refine fk [(0,_),(1,_),(2,_),(7,_),(8,_),(9,_),(36,_)] K10 ?_;refine qz ?_ ?_<;>intro hc1<;>try simp only [hyZ] at hc1
 ·have hi:i < fs.length:=by omega
  obtain ⟨o,ho⟩:∃ o,fs[i]?=some o:=⟨_,List.getElem?_eq_getElem hi⟩
  have hoo:=hFo o (List.mem_of_getElem? ho)
  have hod:=hfd0 o (List.mem_of_getElem? ho)
  have hrs:runA newA (fs.take (i + 1))=doA (runA newA (fs.take i)) o:=by rw [List.take_add_one,ho];exact runA_snoc _ _ _
  refine Hd.wokW (.there .here) (fun hw=>?_)
  have hst:=(do_stp hw o (by have:=hoo.t;simp only [InK] at this;omega) (100 * i) (by omega) hp0.2).1
  rw [←hrs] at hst;refine qv K9<|Hd.seq fun _ K11=>?_
  refine Hd.block<|sr fun _ K12=>?_
  refine yv y_mv<|yv y_mv<|yv y_mv<|yv (y_idxR Tryz.underlying22 sz32 rfl rfl hi (RdS.mono hF sq)) ?_;refine yv (y_loadRn (vs:=encO o) ag32 rfl (RdS.mono hF sq) (flat_cells encO 5 (fun _=>rfl) ho) sz32 (by simp)) ?_;refine callE rfl fk8 (do_ct _ pb wb rb _ (100 * i) (by omega) hp0.2 o hoo.t hod ?hD hoo.c) sq ?_
  case hD=>exact RdS.mono hoo.rd sq
  intro _;rw [←hrs];refine yv y_as<|fk [(0,_),(1,_),(2,_),(7,_),(8,_),(9,_),(10,_)] K12 ?_;refine sr fun _ K13=>?_
  refine yv y_mv<|yv (y_not rfl)<|fk [(0,_),(1,_),(2,_),(7,_),(8,_),(9,_),(46,_)] K13 ?_;refine Hd.condF rfl ?_;refine Hd.skip<|Hd.inB<|Hd.toK K11 ?_;refine Hd.region<|yv y_mv<|yv (y_addn rfl rfl (by simp only [InK];omega)) ?_;refine yv y_as<|Hd.nil<|slots [(0,_),(1,_),(2,_),(7,_),(8,_),(9,_)] sbq ?_;refine thenN ?_;exact Hd.again (i + 1) (by omega) sbq (Ent.sep (.pure ⟨hi,hst⟩ enn))
 obtain rfl:i=fs.length:=by omega
 rw [List.take_of_length_le (Nat.le_refl _)] at hp0 ⊢
 obtain ⟨w,hrw⟩:∃ w,runA newA fs=w:=⟨_,rfl⟩
 rw [hrw] at hp0 ⊢;refine Hd.wokW (.there .here) (fun hw0=>?_)
 have hlo0:=hp0.2.mono (show 100 * fs.length≤4000 by omega)
 obtain ⟨op,hop⟩:∃ op,(readyR w fd).op=op:=⟨_,rfl⟩
 refine Hd.exit<|Hd.thenExit<|Hd.thenExit<|Hd.inBexit<|Hd.toK K7 ?_;refine sr fun _ K14=>?_
 refine yv y_mv<|yv y_np<|yv (y_f 0 37 Tryz.underlying40 sz37)<|yv (y_l1 ag37 rfl)<|yv y_mv<|callE rfl fk9 (bnewA_ct _ wb w fd op hop) sq ?_;intro bb;refine yv y_mv<|yv (y_to (v':=(if op=true then Value.pointer (some ⟨bb,0,none⟩) else Value.pointer none)) y_ex (by rfl)) ?_;refine yv (y_to (v':=.int .i64 (if op=true then 0 else 110)) y_ex (by rfl)) ?_;refine yv y_as<|yv y_as<|fk [(1,_),(2,_),(7,_),(8,_),(11,_),(12,_)] K14 ?_;refine sr fun _ K15=>?_
 refine yv y_mv<|yv y_np<|yv (y_f 1 38 Tryz.underlying40 sz38)<|yv (y_l1 ag38 rfl)<|yv y_mv<|callE rfl fk10 (ropen26_ct _ rb w hw0 fd) sq ?_;intro _;rw [hop];refine yv y_as<|fk [(1,_),(2,_),(7,_),(8,_),(11,_),(12,_),(13,_)] K15 ?_;refine Hd.seq fun _ K16=>?_
 refine sr fun _ K17=>?_
 refine yv y_mv<|yv (y_not rfl)<|yv y_mv ?_;apply Hd.org 3 64 67 [(1,_),(2,_),(7,_),(8,_),(11,_),(12,_),(13,_)] rfl sbq
 ·intro hg13_64
  try simp only [hyZ] at hg13_64
  simp only [List.take];refine n1<|n1<|yv (y_pickT rfl rfl) ?_;exact Hd.mn
 ·intro hg13_64
  try simp only [hyZ] at hg13_64
  simp only [List.take];refine y2 y_mv<|y2 (y_neq rfl rfl) ?_;refine yv (y_pickF rfl rfl) ?_;exact Hd.mn
 simp only [List.drop];refine fk [(1,_),(2,_),(7,_),(8,_),(11,_),(12,_),(13,_),(67,_)] K17 ?_;refine qz ?_ ?_<;>intro hc3<;>try simp only [hyZ] at hc3
 ·obtain rfl:op=false:=by
   cases op
   ·rfl
   ·rcases hc3 with h | h
    ·cases h
    ·exact absurd rfl h
  simp only [Bool.false_eq_true,if_false,List.nil_append];refine sr fun _ K18=>?_
  refine yv y_mv<|yv (y_not rfl)<|yv y_mv ?_;apply Hd.andg 3 70 73 [(11,_)] rfl sbq
  ·intro hg14_70
   try simp only [hyZ] at hg14_70
   simp only [List.take];refine y2 y_mv<|y2 (y_eqlT rfl rfl) ?_;refine yv (y_pickT rfl rfl) ?_;exact Hd.mn
  ·intro hg14_70
   try simp only [hyZ] at hg14_70
   simp only [List.take];refine n1<|n1<|yv (y_pickF rfl rfl) ?_;exact Hd.mn
  simp only [List.drop];refine yv y_mv ?_;apply Hd.andg 3 74 77 [] rfl sbq
  ·intro hg14_74
   try simp only [hyZ] at hg14_74
   simp only [List.take];refine y2 y_mv<|y2 (y_eql_pointer Tryz.underlying33 rfl rfl) ?_;refine yv (y_pickT rfl rfl) ?_;exact Hd.mn
  ·intro hg14_74
   try simp only [hyZ] at hg14_74
   simp only [List.take];refine n1<|n1<|yv (y_pickF rfl rfl) ?_;exact Hd.mn
  simp only [List.drop];refine yv y_as<|fk [(6,_)] K18 ?_;refine Hd.ret<|Hd.thenRet ?_;exact Hd.ret1 rfl () (by rfl) sq
 obtain rfl:op=true:=by
  cases op
  ·exfalso;simp at hc3
  ·rfl
 simp only [if_true,List.cons_append,List.nil_append];refine qv K16<|sr fun _ K19=>?_
 refine yv y_mv<|callE rfl fk11 (rnew26_ct _ fd) sq ?_;intro cb;refine yv y_as<|fk [(1,_),(2,_),(7,_),(8,_),(11,_),(14,_)] K19 ?_;refine Hd.seq fun _ K20=>?_
 refine sr fun _ K21=>?_
 refine yv y_as<|fk [(1,_),(2,_),(7,_),(8,_),(11,_),(14,_),(15,_)] K21 ?_;refine Hd.block<|Hd.loopK (ι:=Nat×WA×BfA) [(1,_),(2,_),(7,_),(8,_),(11,_),(14,_)] (fun q_=>[(15,.int .i64 (q_.1:Int))]) (fun q_=>pu (q_.1≤xs.length∧PbI (4000 + 200 * q_.1) fd q_.2.1 q_.2.2)::BufP bb wb q_.2.2::WorldP wb q_.2.1::RbP cb q_.2.2::Rf.RwP rb q_.2.1::BoP pb wb rb::L) (fun q_=>xs.length - q_.1) (0,w,newB fd) sbq sbq (fun q t=>Ent.sep (.pure ⟨Nat.zero_le _,(show PbI (4000 + 200 * 0) fd w (newB fd) from ⟨hw0,hlo0,bok_new fd,rfl,rfl⟩)⟩ enn) q t) ?_;rintro ⟨i,w,x⟩
 try dsimp only
 refine Hd.pure (fun hp1=>?_)
 try dsimp only at hp1
 refine Hd.seq fun _ K22=>?_
 refine sr fun _ K23=>?_
 refine yv y_mv<|yv y_mv<|yv (y_len Tryz.underlying23 rfl) ?_;refine yv (y_lss rfl rfl) ?_;refine fk [(1,_),(2,_),(7,_),(8,_),(11,_),(14,_),(15,_),(83,_)] K23 ?_;refine qz ?_ ?_<;>intro hc4<;>try simp only [hyZ] at hc4
 ·have hi:i < xs.length:=by omega
  obtain ⟨o,ho⟩:∃ o,xs[i]?=some o:=⟨_,List.getElem?_eq_getElem hi⟩
  have hoo:=hXo o (List.mem_of_getElem? ho)
  have hod:=hxd o (List.mem_of_getElem? ho)
  obtain ⟨_,hI⟩:=hp1
  have hw:=hI.ok
  have hbk:=hI.b
  refine Hd.bufLe pkk (fun hcl=>?_);refine qv K22<|Hd.seq fun _ K24=>?_
  refine Hd.block<|sr fun _ K25=>?_
  refine yv y_mv<|yv y_mv<|yv (y_idxR Tryz.underlying23 sz45 rfl rfl (by omega) (by exact RdS.mono hX sq)) ?_;refine yv (y_loadRn (vs:=encC o) ag45 rfl (RdS.mono hX sq) (flat_cells encC 13 (fun _=>rfl) ho) sz45 (by simp)) ?_;refine Hd.alloc zr45 (fun b16=>?_);refine Hd.storeA (us:=encC o) sz45 rfl rfl rfl (by simp [Value.oneCell']) pkk (by exact rfl) ?_;refine fk [(1,_),(2,_),(7,_),(8,_),(11,_),(14,_),(15,_),(16,_)] K25 ?_;refine sr fun _ K26=>?_
  refine yv y_as<|fk [(1,_),(2,_),(7,_),(8,_),(11,_),(14,_),(15,_),(16,_),(17,_)] K26 ?_;refine Hd.cutK (ι:=PbX (4000 + 200 * (i + 1)) fd) [(1,_),(2,_),(7,_),(8,_),(11,_),(14,_),(15,_)] (fun _=>[(17,.bool true)]) (fun q=>BufP bb wb q.1.2::WorldP wb q.1.1::RbP cb q.1.2::Rf.RwP rb q.1.1::BoP pb wb rb::L) ?_ ?_ ⟨rfl,rfl,rfl,rfl,rfl,rfl,rfl,trivial⟩
  ·refine sr fun _ K27=>?_
   refine yv (y_f 0 3 Tryz.underlying45 sz3)<|yv (y_l1 ag3 rfl)<|fk [(1,_),(2,_),(7,_),(8,_),(11,_),(14,_),(15,_),(16,_),(17,_),(91,_)] K27 ?_;refine Hd.block<|sr fun _ K28=>?_
   refine yv (y_eql rfl rfl) ?_;refine yv y_as<|fk [(1,_),(2,_),(7,_),(8,_),(11,_),(14,_),(15,_),(16,_),(17,_),(91,_),(92,_)] K28 ?_;refine qz ?_ ?_<;>intro hc5<;>try simp only [hyZ] at hc5
   ·refine Hd.drawsH ([pt b16 (encC o) 45]) (fun _=>true) mixed ?_
    simp only [List.length,Nat.zero_add,Nat.reduceAdd];refine tH 0 rfl y_mv<|tH 1 rfl (y_f 1 29 Tryz.underlying45 sz29)<|tH 2 rfl (y_l1 ag29 rfl)<|tH 3 rfl (y_f 2 3 Tryz.underlying45 sz3)<|tH 4 rfl (y_l1 ag3 rfl)<|tH 6 rfl y_mv<|tH 7 rfl (y_f 1 29 Tryz.underlying45 sz29)<|tH 8 rfl (y_l1 ag29 rfl)<|tH 9 rfl (y_f 2 3 Tryz.underlying45 sz3)<|tH 10 rfl (y_l1 ag3 rfl)<|qo 5 ?_;refine callE rfl fk12 (enable_ct _ bb wb x hbk.tm o.now o.sd hoo.now) sq ?_;intro _;refine qk<|qo 11 ?_;refine callE rfl fk13 (renable_ct _ cb x hbk.tm o.now o.sd hoo.now hoo.sd) sq ?_;intro _;refine qk<|tH 12 rfl (y_eqlT rfl rfl) ?_;refine tH 13 rfl y_as<|endH kq ?_;refine slots [(1,_),(2,_),(7,_),(8,_),(11,_),(14,_),(15,_),(17,_)] sbq ?_;refine Hd.inB<|thenN ?_;exact Hd.meet ⟨(w,enB x o.now o.sd),⟨hw,hI.lo.mono (by omega),bok_en hbk hoo.now o.sd,(en_h x o.now o.sd).trans hI.h1,(en_fd x o.now o.sd).trans hI.fd⟩⟩ ⟨(by rfl),by repeat (first | exact trivial | refine ⟨rfl,?_⟩)⟩ sq
   refine sr fun _ K29=>?_
   refine yv (y_eql rfl rfl) ?_;refine yv y_as<|fk [(1,_),(2,_),(7,_),(8,_),(11,_),(14,_),(15,_),(16,_),(17,_),(91,_),(107,_)] K29 ?_;refine qz ?_ ?_<;>intro hc6<;>try simp only [hyZ] at hc6
   ·refine Hd.drawsH ([pt b16 (encC o) 45]) (fun _=>true) mixed ?_
    simp only [List.length,Nat.zero_add,Nat.reduceAdd];refine tH 0 rfl y_mv<|tH 1 rfl (y_f 2 3 Tryz.underlying45 sz3)<|tH 2 rfl (y_l1 ag3 rfl)<|tH 4 rfl y_mv<|tH 5 rfl (y_f 2 3 Tryz.underlying45 sz3)<|tH 6 rfl (y_l1 ag3 rfl)<|qo 3 ?_;refine callE rfl fk14 (disable_ct _ bb wb x o.sd) sq ?_;intro _;refine qk<|qo 7 ?_;refine callE rfl fk15 (rdisable_ct _ cb x o.sd hoo.sd) sq ?_;intro _;refine qk<|tH 8 rfl (y_eqlT rfl rfl) ?_;refine tH 9 rfl y_as<|endH kq ?_;refine slots [(1,_),(2,_),(7,_),(8,_),(11,_),(14,_),(15,_),(17,_)] sbq ?_;refine Hd.inB<|thenN ?_;exact Hd.meet ⟨(w,disB x o.sd),⟨hw,hI.lo.mono (by omega),bok_dis hbk o.sd,(dis_h x o.sd).trans hI.h1,(dis_fd x o.sd).trans hI.fd⟩⟩ ⟨(by rfl),by repeat (first | exact trivial | refine ⟨rfl,?_⟩)⟩ sq
   refine sr fun _ K30=>?_
   refine yv (y_eql rfl rfl) ?_;refine yv y_as<|fk [(1,_),(2,_),(7,_),(8,_),(11,_),(14,_),(15,_),(16,_),(17,_),(91,_),(118,_)] K30 ?_;refine qz ?_ ?_<;>intro hc7<;>try simp only [hyZ] at hc7
   ·refine Hd.drawsH ([pt b16 (encC o) 45]) (fun _=>true) mixed ?_
    simp only [List.length,Nat.zero_add,Nat.reduceAdd];refine tH 0 rfl y_mv<|tH 1 rfl (y_f 2 3 Tryz.underlying45 sz3)<|tH 2 rfl (y_l1 ag3 rfl)<|tH 3 rfl (y_f 3 3 Tryz.underlying45 sz3)<|tH 4 rfl (y_l1 ag3 rfl)<|tH 5 rfl (y_f 4 3 Tryz.underlying45 sz3)<|tH 6 rfl (y_l1 ag3 rfl)<|tH 8 rfl y_mv<|tH 9 rfl (y_f 2 3 Tryz.underlying45 sz3)<|tH 10 rfl (y_l1 ag3 rfl)<|tH 11 rfl (y_f 3 3 Tryz.underlying45 sz3)<|tH 12 rfl (y_l1 ag3 rfl)<|tH 13 rfl (y_f 4 3 Tryz.underlying45 sz3)<|tH 14 rfl (y_l1 ag3 rfl)<|qo 7 ?_;refine callE rfl fk16 (marks_ct _ bb wb x o.sd o.n o.m) sq ?_;intro _;refine qk<|qo 15 ?_;refine callE rfl fk17 (rmarks_ct _ cb x hI.h1 o.sd o.n o.m) sq ?_;intro _;refine qk<|tH 16 rfl (y_eqlT rfl rfl) ?_;refine tH 17 rfl y_as ?_
    refine endH kq ?_;refine slots [(1,_),(2,_),(7,_),(8,_),(11,_),(14,_),(15,_),(17,_)] sbq ?_;refine Hd.inB<|thenN ?_;exact Hd.meet ⟨(w,mrkB x o.sd o.n o.m),⟨hw,hI.lo.mono (by omega),bok_mrk hbk o.sd o.n o.m,mrk_h hI.h1 o.sd o.n o.m,(mrk_fd x o.sd o.n o.m).trans hI.fd⟩⟩ ⟨(by rfl),by repeat (first | exact trivial | refine ⟨rfl,?_⟩)⟩ sq
   refine sr fun _ K31=>?_
   refine yv (y_eql rfl rfl) ?_;refine yv y_as<|fk [(1,_),(2,_),(7,_),(8,_),(11,_),(14,_),(15,_),(16,_),(17,_),(91,_),(137,_)] K31 ?_;refine qz ?_ ?_<;>intro hc8<;>try simp only [hyZ] at hc8
   ·refine sr fun _ K32=>?_
    refine yv y_mv<|yv (y_f 1 29 Tryz.underlying45 sz29)<|yv (y_l1 ag29 rfl)<|yv (y_f 5 29 Tryz.underlying45 sz29)<|yv (y_l1 ag29 rfl)<|yv (y_f 6 29 Tryz.underlying45 sz29)<|yv (y_l1 ag29 rfl)<|callE rfl fk18 (timeouts_ct _ bb wb x o.now o.t o.u hoo.now hoo.t hoo.u) sq ?_;intro _;refine fk [(1,_),(2,_),(7,_),(8,_),(11,_),(14,_),(15,_),(16,_),(17,_)] K32 ?_;refine Hd.region<|yv y_mv<|yv (y_f 1 29 Tryz.underlying45 sz29)<|yv (y_l1 ag29 rfl)<|yv (y_f 5 29 Tryz.underlying45 sz29)<|yv (y_l1 ag29 rfl)<|yv (y_f 6 29 Tryz.underlying45 sz29)<|yv (y_l1 ag29 rfl)<|callE rfl fk19 (rtimeouts_ct _ cb x o.now o.t o.u hoo.now hoo.t hoo.u) sq ?_;intro _;refine Hd.nil<|slots [(1,_),(2,_),(7,_),(8,_),(11,_),(14,_),(15,_),(17,_)] sbq ?_;refine Hd.inB ?_
    refine thenN ?_;exact Hd.meet ⟨(w,tmB x o.now o.t o.u),⟨hw,hI.lo.mono (by omega),bok_tms hbk hoo.now hoo.t hoo.u,hI.h1,hI.fd⟩⟩ ⟨(by rfl),by repeat (first | exact trivial | refine ⟨rfl,?_⟩)⟩ sq
   refine sr fun _ K33=>?_
   refine yv (y_eql rfl rfl) ?_;refine yv y_as<|fk [(1,_),(2,_),(7,_),(8,_),(11,_),(14,_),(15,_),(16,_),(17,_),(91,_),(155,_)] K33 ?_;refine qz ?_ ?_<;>intro hc9<;>try simp only [hyZ] at hc9
   ·refine Hd.drawsH ([pt b16 (encC o) 45]) (fun _=>true) mixed ?_
    simp only [List.length,Nat.zero_add,Nat.reduceAdd];refine tH 0 rfl y_mv<|tH 1 rfl (y_f 1 29 Tryz.underlying45 sz29)<|tH 2 rfl (y_l1 ag29 rfl)<|tH 3 rfl (y_f 7 30 Tryz.underlying45 sz30)<|tH 4 rfl (y_l1 ag30 rfl)<|tH 6 rfl y_mv<|tH 7 rfl (y_f 1 29 Tryz.underlying45 sz29)<|tH 8 rfl (y_l1 ag29 rfl)<|tH 9 rfl (y_f 7 30 Tryz.underlying45 sz30)<|tH 10 rfl (y_l1 ag30 rfl)<|qo 5 ?_;refine callE rfl fk20 (bwrite_ct _ bb wb x hbk.tm o.now hoo.now o.ad o.b.length o.c o.b rfl ?hD hoo.c (by omega)) sq ?_
    case hD=>exact RdS.mono hoo.rd sq
    intro _;refine qk<|qo 11 ?_;refine callE rfl fk21 (rbwrite_ct _ cb x hbk.tm (hcl 1 (by decide)) o.now hoo.now o.ad o.c o.b ?hD hoo.c (by omega)) sq ?_
    case hD=>exact RdS.mono hoo.rd sq
    intro _;refine qk<|tH 12 rfl (y_eqlT rfl rfl) ?_;refine tH 13 rfl y_as<|endH kq ?_;refine slots [(1,_),(2,_),(7,_),(8,_),(11,_),(14,_),(15,_),(17,_)] sbq ?_;refine Hd.inB<|thenN ?_;exact Hd.meet ⟨(w,wrB x o.now o.b),⟨hw,hI.lo.mono (by omega),bok_put hbk hoo.now o.b,(wr_h x o.now o.b).trans hI.h1,(wr_fd x o.now o.b).trans hI.fd⟩⟩ ⟨(by rfl),by repeat (first | exact trivial | refine ⟨rfl,?_⟩)⟩ sq
   refine sr fun _ K34=>?_
   refine yv (y_eql rfl rfl) ?_;refine yv y_as<|fk [(1,_),(2,_),(7,_),(8,_),(11,_),(14,_),(15,_),(16,_),(17,_),(91,_),(170,_)] K34 ?_;refine qz ?_ ?_<;>intro hc10<;>try simp only [hyZ] at hc10
   ·refine Hd.drawsH ([pt b16 (encC o) 45]) (fun _=>true) mixed ?_
    simp only [List.length,Nat.zero_add,Nat.reduceAdd];refine tH 0 rfl y_mv<|tH 1 rfl (y_f 3 3 Tryz.underlying45 sz3)<|tH 2 rfl (y_l1 ag3 rfl)<|tH 5 rfl y_mv<|tH 6 rfl (y_f 3 3 Tryz.underlying45 sz3)<|tH 7 rfl (y_l1 ag3 rfl)<|qo 3 ?_;refine callE rfl fk22 (bread_ct _ bb wb x o.n (by have:=hoo.n;simp only [InK] at this;omega)) sq ?_;rintro ⟨ra,rc⟩;dsimp only;refine qk<|Hd.eitherH 4 8 rfl rfl kq ?_ ?_
    ·refine yv (y_strOf (l:=_) kq Tryz.underlying9 rfl (by exact RdS.own pkk)) ?_
     refine qk<|qo 8 ?_;refine callE rfl fk23 (rbread_ct _ cb x o.n) sq ?_;rintro ⟨sa,sc⟩;dsimp only;refine qk<|qo 9 ?_;refine yv (y_strOf (l:=_) kq Tryz.underlying9 rfl (by exact RdS.own pkk)) ?_;refine qk<|tH 10 rfl (y_eqlstr rfl rfl) ?_;refine tH 11 rfl y_as<|endH kq ?_;refine slots [(1,_),(2,_),(7,_),(8,_),(11,_),(14,_),(15,_),(17,_)] sbq ?_;refine Hd.inB<|thenN ?_;exact Hd.meet ⟨(w,readB x o.n),⟨hw,hI.lo.mono (by omega),bok_get hbk o.n,(rd_h x o.n).trans hI.h1,(rd_fd x o.n).trans hI.fd⟩⟩ ⟨(by exact congrArg some (congrArg Value.bool (by simp))),by repeat (first | exact trivial | refine ⟨rfl,?_⟩)⟩ sq
    refine callE rfl fk23 (rbread_ct _ cb x o.n) sq ?_;rintro ⟨sa,sc⟩;dsimp only;refine qk<|Hd.eitherH 4 9 rfl rfl kq ?_ ?_
    ·refine yv (y_strOf (l:=_) kq Tryz.underlying9 rfl (by exact RdS.own pkk)) ?_
     refine qk<|qo 9 ?_;refine yv (y_strOf (l:=_) kq Tryz.underlying9 rfl (by exact RdS.own pkk)) ?_;refine qk<|tH 10 rfl (y_eqlstr rfl rfl) ?_;refine tH 11 rfl y_as<|endH kq ?_;refine slots [(1,_),(2,_),(7,_),(8,_),(11,_),(14,_),(15,_),(17,_)] sbq ?_;refine Hd.inB<|thenN ?_;exact Hd.meet ⟨(w,readB x o.n),⟨hw,hI.lo.mono (by omega),bok_get hbk o.n,(rd_h x o.n).trans hI.h1,(rd_fd x o.n).trans hI.fd⟩⟩ ⟨(by exact congrArg some (congrArg Value.bool (by simp))),by repeat (first | exact trivial | refine ⟨rfl,?_⟩)⟩ sq
    refine yv (y_strOf (l:=_) kq Tryz.underlying9 rfl (by exact RdS.own pkk)) ?_;refine qk<|qo 4 ?_;refine yv (y_strOf (l:=_) kq Tryz.underlying9 rfl (by exact RdS.own pkk)) ?_;refine qk<|tH 10 rfl (y_eqlstr rfl rfl) ?_;refine tH 11 rfl y_as<|endH kq ?_;refine slots [(1,_),(2,_),(7,_),(8,_),(11,_),(14,_),(15,_),(17,_)] sbq ?_;refine Hd.inB<|thenN ?_;exact Hd.meet ⟨(w,readB x o.n),⟨hw,hI.lo.mono (by omega),bok_get hbk o.n,(rd_h x o.n).trans hI.h1,(rd_fd x o.n).trans hI.fd⟩⟩ ⟨(by exact congrArg some (congrArg Value.bool (by simp))),by repeat (first | exact trivial | refine ⟨rfl,?_⟩)⟩ sq
   refine sr fun _ K35=>?_
   refine yv (y_eql rfl rfl) ?_;refine yv y_as<|fk [(1,_),(2,_),(7,_),(8,_),(11,_),(14,_),(15,_),(16,_),(17,_),(91,_),(183,_)] K35 ?_;refine qz ?_ ?_<;>intro hc11<;>try simp only [hyZ] at hc11
   ·refine sr fun _ K36=>?_
    refine yv y_mv<|yv (y_f 1 29 Tryz.underlying45 sz29)<|yv (y_l1 ag29 rfl)<|yv (y_f 2 3 Tryz.underlying45 sz3)<|yv (y_l1 ag3 rfl)<|yv (y_f 3 3 Tryz.underlying45 sz3)<|yv (y_l1 ag3 rfl)<|yv (y_f 4 3 Tryz.underlying45 sz3)<|yv (y_l1 ag3 rfl)<|callE rfl fk24 (step_ct _ bb wb x w hbk.tm hbk.hi o.now o.sd o.n o.m hoo.now (by have:=hoo.n;simp only [InK] at this;omega) hoo.m) sq ?_;intro _;refine Hd.alloc zr58 (fun b18=>?_);refine Hd.storeA (us:=encT (stepS x w o.now o.sd o.n o.m).t) sz58 rfl rfl rfl (by simp [Value.oneCell']) pkk (by exact rfl) ?_;refine fk [(1,_),(2,_),(7,_),(8,_),(11,_),(14,_),(15,_),(16,_),(18,_)] K36 ?_;refine Hd.drawsH ([pt b18 (encT (stepS x w o.now o.sd o.n o.m).t) 58,BoP pb wb rb,pt b16 (encC o) 45]) (fun _=>true) mixed ?_;simp only [List.length,Nat.zero_add,Nat.reduceAdd]
    refine tH 0 rfl (y_loadn (us:=encT (stepS x w o.now o.sd o.n o.m).t) ag58 rfl (Rd.pt pkk (fun j v e=>by rw [Nat.zero_add];exact e)) (by exact sz58)) ?_;refine tH 1 rfl y_mv<|tH 2 rfl y_mv<|tH 3 rfl y_np<|tH 4 rfl (y_f 1 38 Tryz.underlying40 sz38)<|tH 5 rfl (y_l1 ag38 rfl)<|tH 6 rfl (y_f 1 29 Tryz.underlying45 sz29)<|tH 7 rfl (y_l1 ag29 rfl)<|tH 8 rfl (y_f 2 3 Tryz.underlying45 sz3)<|tH 9 rfl (y_l1 ag3 rfl)<|tH 10 rfl (y_f 3 3 Tryz.underlying45 sz3)<|tH 11 rfl (y_l1 ag3 rfl)<|tH 12 rfl (y_f 4 3 Tryz.underlying45 sz3)<|tH 13 rfl (y_l1 ag3 rfl)<|qo 14 ?_;refine callE rfl fk26 (rstep26_ct _ cb rb x w hw hbk.tm hbk.hi hcl o.now o.sd o.n o.m hoo.now hoo.n hoo.m) sq ?_;intro _;refine qk<|qo 15 ?_;refine callE rfl fk25 (told_ct _ (stepS x w o.now o.sd o.n o.m).t) sq ?_
    intro _;refine qk<|tH 16 rfl y_as<|endH kq ?_;refine slots [(1,_),(2,_),(7,_),(8,_),(11,_),(14,_),(15,_),(17,_)] sbq ?_;refine Hd.inB<|thenN<|Hd.wokW pkk (fun hw2=>?_);exact Hd.meet ⟨((stepS x w o.now o.sd o.n o.m).w,(stepS x w o.now o.sd o.n o.m).x),⟨hw2,(step_stp hw x o.now o.sd o.n o.m (4000 + 200 * i) (by omega) hI.lo).1.mono (by omega),bok_step hbk hoo.now w o.sd o.n o.m,(step_h x w o.now o.sd o.n o.m).trans hI.h1,(step_fd x w o.now o.sd o.n o.m).trans hI.fd⟩⟩ ⟨(by rfl),by repeat (first | exact trivial | refine ⟨rfl,?_⟩)⟩ sq
   refine sr fun _ K37=>?_
   refine yv (y_eql rfl rfl) ?_;refine yv y_as<|fk [(1,_),(2,_),(7,_),(8,_),(11,_),(14,_),(15,_),(16,_),(17,_),(91,_),(211,_)] K37 ?_;refine qz ?_ ?_<;>intro hc12<;>try simp only [hyZ] at hc12
   ·refine sr fun _ K38=>?_
    refine yv y_mv<|yv (y_f 1 29 Tryz.underlying45 sz29)<|yv (y_l1 ag29 rfl)<|callE rfl fk27 (late_ct _ bb wb x o.now) sq ?_;intro _;refine Hd.alloc zr58 (fun b19=>?_);refine Hd.storeA (us:=encT { noT with ev:=lateT x o.now (sidesA 6) }) sz58 rfl rfl rfl (by simp [Value.oneCell']) pkk (by exact rfl) ?_;refine fk [(1,_),(2,_),(7,_),(8,_),(11,_),(14,_),(15,_),(16,_),(19,_)] K38 ?_;refine Hd.drawsH ([pt b19 (encT { noT with ev:=lateT x o.now (sidesA 6) }) 58,pt b16 (encC o) 45]) (fun _=>true) mixed ?_;simp only [List.length,Nat.zero_add,Nat.reduceAdd];refine tH 0 rfl (y_loadn (us:=encT { noT with ev:=lateT x o.now (sidesA 6) }) ag58 rfl (Rd.pt pkk (fun j v e=>by rw [Nat.zero_add];exact e)) (by exact sz58)) ?_;refine tH 1 rfl y_mv<|tH 2 rfl (y_f 1 29 Tryz.underlying45 sz29)<|tH 3 rfl (y_l1 ag29 rfl)<|qo 4 ?_;refine callE rfl fk28 (rlate_ct _ cb x o.now) sq ?_
    intro _;refine qk<|qo 5 ?_;refine callE rfl fk25 (told_ct _ { noT with ev:=lateT x o.now (sidesA 6) }) sq ?_;intro _;refine qk<|tH 6 rfl y_as<|endH kq ?_;refine slots [(1,_),(2,_),(7,_),(8,_),(11,_),(14,_),(15,_),(17,_)] sbq ?_;refine Hd.inB<|thenN ?_;exact Hd.meet ⟨(w,effB (ltF o.now) x (sidesA 6)),⟨hw,hI.lo.mono (by omega),bok_late hbk o.now _,(lt_h x o.now _).trans hI.h1,hI.fd⟩⟩ ⟨(by rfl),by repeat (first | exact trivial | refine ⟨rfl,?_⟩)⟩ sq
   refine sr fun _ K39=>?_
   refine yv (y_eql rfl rfl) ?_;refine yv y_as<|fk [(1,_),(2,_),(7,_),(8,_),(11,_),(14,_),(15,_),(16,_),(17,_),(223,_)] K39 ?_;refine qz ?_ ?_<;>intro hc13<;>try simp only [hyZ] at hc13
   ·refine Hd.region ?_
    refine yv y_mv<|yv (y_f 8 32 Tryz.underlying45 sz32)<|yv (y_loadn (us:=[_,_,_,_,_]) ag32 rfl (Rd.pt pkk (by intro j v e;rcases j with _|_|_|_|_|_|_|_|_|_|_|_|j<;>first | exact e | exact absurd e (by simp))) (by exact sz32)) ?_;refine callE rfl fk8 (do_ct _ pb wb rb w (4000 + 200 * i) (by omega) hI.lo o.x hoo.x.t hod.2 ?hD hoo.x.c) sq ?_
    case hD=>exact RdS.mono hoo.x.rd sq
    intro _;refine yv y_as<|Hd.nil<|slots [(1,_),(2,_),(7,_),(8,_),(11,_),(14,_),(15,_),(17,_)] sbq ?_;refine Hd.inB<|thenN<|Hd.wokW pkk (fun hw2=>?_);exact Hd.meet ⟨(doA w o.x,x),⟨hw2,(do_stp hw o.x (by have:=hoo.x.t;simp only [InK] at this;omega) (4000 + 200 * i) (by omega) hI.lo).1.mono (by omega),hbk,hI.h1,hI.fd⟩⟩ sbq sq
   refine Hd.skip<|Hd.inB<|thenN ?_;exact Hd.meet ⟨(w,x),⟨hw,hI.lo.mono (by omega),hbk,hI.h1,hI.fd⟩⟩ sbq sq
  rintro ⟨⟨w2,x2⟩,hI2⟩;dsimp only at hI2 ⊢
  have hw2:=hI2.ok
  have hnow:=hI2.lo.now
  have hb2:=hI2.lo.bd (B:=2000000000) (by omega)
  refine sr fun _ K40=>?_
  refine yv y_mv<|callE rfl fk29 (lens_ct _ bb wb x2) sq ?_;intro _;refine yv y_mv<|yv (y_to (v':=.int .i64 ((x2.s 0).c.length:Int)) y_ex (by rfl)) ?_;refine yv (y_to (v':=.int .i64 ((x2.s 1).c.length:Int)) y_ex (by rfl)) ?_;refine yv y_as<|yv y_as<|fk [(1,_),(2,_),(7,_),(8,_),(11,_),(14,_),(15,_),(17,_),(20,_),(21,_)] K40 ?_;refine Hd.seq fun _ K41=>?_
  refine Hd.rb pkk (fun ri=>?_);refine Hd.region<|yv y_mv<|yv (y_to (v':=.bool false) (y_not rfl) (by rfl)) ?_;refine yv y_mv<|y2 y_mv<|y2 y_mv<|y2 y_np<|y2 (y_f 1 69 Tryz.underlying71 sz69)<|y2 (y_f 0 30 Tryz.underlying69 sz30)<|y2 (y_l1 ag30 rfl)<|y2 (y_len Tryz.underlying30 rfl) ?_;refine y2 (y_to (v':=.bool false) (y_neq rfl rfl) (by (simp))) ?_;refine yv (y_pickF rfl rfl) ?_;refine yv y_mv<|y2 y_mv<|y2 y_mv<|y2 y_np<|y2 (y_f 8 69 Tryz.underlying71 sz69)<|y2 (y_f 0 30 Tryz.underlying69 sz30)<|y2 (y_l1 ag30 rfl)<|y2 (y_len Tryz.underlying30 rfl) ?_;refine y2 (y_to (v':=.bool false) (y_neq rfl rfl) (by (simp))) ?_;refine yv (y_pickF rfl rfl) ?_;refine yv y_mv<|y2 y_mv<|Hd.heap (RbP cb x2::_) (fun q s=>rb_fold (i:=ri) q (by exact Ent.sep enn q s)) ?_
  refine Hd.unguard rfl rfl ?_;refine callE rfl fk30 (wants_ct _ bb wb x2) sq ?_;intro _;refine y2 y_mv<|Hd.unguard rfl rfl ?_;refine callE rfl fk31 (rwants26_ct _ cb x2) sq ?_;intro _;refine y2 (y_to (v':=.bool false) (y_neq rfl rfl) (by (simp))) ?_;refine yv (y_pickF rfl rfl) ?_;refine yv y_mv<|y2 y_mv<|Hd.unguard rfl rfl ?_;refine callE rfl fk32 (enabled_ct _ bb wb x2) sq ?_;intro _;refine y2 y_mv<|Hd.unguard rfl rfl ?_;refine callE rfl fk33 (renabled_ct _ cb x2) sq ?_;intro _;refine y2 (y_to (v':=.bool false) (y_neq rfl rfl) (by (simp))) ?_;refine yv (y_pickF rfl rfl) ?_;refine yv y_mv<|y2 y_mv<|Hd.unguard rfl rfl ?_;refine callE rfl fk34 (deadline_ct _ bb wb x2) sq ?_;intro _;refine y2 y_mv<|Hd.unguard rfl rfl ?_;refine callE rfl fk35 (rdeadline26_ct _ cb x2) sq ?_;intro _;refine y2 (y_to (v':=.bool false) (y_neq rfl rfl) (by (simp))) ?_
  refine yv (y_pickF rfl rfl) ?_;refine yv y_mv<|y2 y_mv<|Hd.unguard rfl rfl ?_;refine callE rfl fk36 (bfd_ct _ bb wb x2) sq ?_;intro _;refine y2 y_mv<|y2 (y_to (v':=.bool false) (y_neq rfl rfl) (by (rw [hI2.fd];simp))) ?_;refine yv (y_pickF rfl rfl) ?_;refine yv y_mv<|y2 y_mv<|Hd.unguard rfl rfl ?_;refine callE rfl fk37 (alike_ct _ ?hT1 pb wb rb w2 hw2 hnow hb2) sq ?_
  case hT1=>exact Tb.mono hT sq
  intro _;refine y2 (y_to (v':=.bool false) (y_not rfl) (by rfl)) ?_;refine yv (y_pickF rfl rfl) ?_;refine fk [(1,_),(2,_),(7,_),(8,_),(11,_),(14,_),(15,_),(287,_)] K41 ?_;refine Hd.condF rfl ?_;refine Hd.skip<|Hd.inB<|Hd.toK K24 ?_;refine Hd.region<|yv y_mv<|yv (y_addn rfl rfl (by simp only [InK];omega)) ?_;refine yv y_as<|Hd.nil<|slots [(1,_),(2,_),(7,_),(8,_),(11,_),(14,_),(15,_)] sbq ?_;refine thenN ?_;exact Hd.again (i + 1,w2,x2) (by omega) sbq (Ent.sep (.pure ⟨hi,hI2⟩ enn))
 refine Hd.exit<|Hd.thenExit<|Hd.thenExit<|Hd.inBexit<|Hd.toK K20 ?_;refine sr fun _ K42=>?_
 refine yv y_mv<|yv y_as<|fk [(6,_)] K42 ?_;refine Hd.ret ?_;exact Hd.ret1 rfl () rfl sq
end Bu
end Go.Proofs.YtmpemhbfgbochaaGreatDoor
namespace Go.Proofs.YtmpemhbfgbochaaGreatDoor
open Go.RX Go.ChangeShapes Go.WideShapes Go.ChangeAt Go.RowKit
abbrev shO:Sh:=.struct (.fld (.int .i64) (.fld (.int .i64) (.fld (.int .i64) (.fld (.int .u64) (.fld (.slice (.int .u8)) .nil)))))
def cvO (y:shO.T):Wo.Ov:=⟨y.1,y.2.1,y.2.2.1,y.2.2.2.1,y.2.2.2.2.1.ad,y.2.2.2.2.1.cap,y.2.2.2.2.1.l.map u8of⟩
theorem enc_cvO (y:shO.T):Wo.encO (cvO y)=shO.enc y:=by
 show [_,_,_,_,Value.slice _ (y.2.2.2.2.1.l.map u8of).length _]=_
 rw [List.length_map];rfl
theorem ok_cvO {W:World} {y:shO.T} (h:shO.ok W y):Wo.OvOk [Old W] (cvO y) :=
 ⟨rd_u8 h.2.2.2.2.1,by show (List.map u8of _).length≤_;rw [List.length_map];exact h.2.2.2.2.1.2.1,h.1,h.2.1,h.2.2.1,h.2.2.2.1⟩
theorem rd_ops {W:World} {x:(Sh.slice shO).T} (h:(Sh.slice shO).ok W x):RdS [Old W] 5 x.ad (x.l.map cvO).length ((x.l.map cvO).flatMap Wo.encO):=by
 have e:(x.l.map cvO).flatMap Wo.encO=x.l.flatMap shO.enc:=by rw [List.flatMap_map];congr 1;funext y;exact enc_cvO y
 rw [e,List.length_map];exact h.1
theorem ops_ok {W:World} {x:(Sh.slice shO).T} (h:(Sh.slice shO).ok W x):∀ o∈x.l.map cvO,Wo.OvOk [Old W] o:=fun o ho=>by
 obtain ⟨y,hy,rfl⟩:=List.mem_map.1 ho
 exact ok_cvO (h.2.2.2.2 y hy)
abbrev shC:Sh:=.struct (.fld (.int .i64) (.fld (.int .u64) (.fld (.int .i64) (.fld (.int .i64) (.fld (.int .i64) (.fld (.int .u64) (.fld (.int .u64) (.fld (.slice (.int .u8)) (.fld shO .nil)))))))))
def cvC (y:shC.T):Bu.Cv:=⟨y.1,y.2.1,y.2.2.1,y.2.2.2.1,y.2.2.2.2.1,y.2.2.2.2.2.1,y.2.2.2.2.2.2.1,y.2.2.2.2.2.2.2.1.ad,y.2.2.2.2.2.2.2.1.cap,y.2.2.2.2.2.2.2.1.l.map u8of,cvO y.2.2.2.2.2.2.2.2.1⟩
theorem enc_cvC (y:shC.T):Bu.encC (cvC y)=shC.enc y:=by
 show [_,_,_,_,_,_,_,Value.slice _ (y.2.2.2.2.2.2.2.1.l.map u8of).length _,_,_,_,_,Value.slice _ (y.2.2.2.2.2.2.2.2.1.2.2.2.2.1.l.map u8of).length _]=_
 rw [List.length_map,List.length_map];rfl
theorem rd_calls {W:World} {x:(Sh.slice shC).T} (h:(Sh.slice shC).ok W x):RdS [Old W] 13 x.ad (x.l.map cvC).length ((x.l.map cvC).flatMap Bu.encC):=by
 have e:(x.l.map cvC).flatMap Bu.encC=x.l.flatMap shC.enc:=by rw [List.flatMap_map];congr 1;funext y;exact enc_cvC y
 rw [e,List.length_map];exact h.1
theorem calls_ok {W:World} {x:(Sh.slice shC).T} (h:(Sh.slice shC).ok W x):∀ o∈x.l.map cvC,Bu.CvOk [Old W] o:=fun o ho=>by
 obtain ⟨y,hy,rfl⟩:=List.mem_map.1 ho
 have h2:=h.2.2.2.2 y hy
 exact ⟨rd_u8 h2.2.2.2.2.2.2.2.1,by show (List.map u8of _).length≤_;rw [List.length_map];exact h2.2.2.2.2.2.2.2.1.2.1,h2.2.1,h2.2.2.1,h2.2.2.2.1,h2.2.2.2.2.1,h2.2.2.2.2.2.1,h2.2.2.2.2.2.2.1,ok_cvO h2.2.2.2.2.2.2.2.2.1⟩
end Go.Proofs.YtmpemhbfgbochaaGreatDoor
namespace Go.Proofs.YtmpemhbfgbochaaGreatDoor
open Go.RX Go.RowKit
namespace Wo
theorem old_block {W w:World} (h:sep [Old W] (hp w)):∀ k,k < W.heap.size→w.heap[k]?=W.heap[k]?:=fun k hk=>by
 obtain ⟨h1,s1,x⟩:=sep.one .here h
 obtain ⟨o,ho⟩:∃ o,W.heap[k]?=some o:=⟨_,Array.getElem?_eq_getElem hk⟩
 rw [ho];refine hpo_up fun q c hc=>?_
 refine s1 (k,q) c ?_;rw [x (k,q) hk]
 show hpo W.heap[k]? q=some c
 rw [ho];exact hc
theorem tab_old {W : World} (h : Lib.TabIs Tryz.prog W "internal/strconv.uint64pow10" .u64 Lib.pow10Tab) : Tb [Old W] := fun w s => by
 have hb:=old_block s
 unfold Lib.TabIs World.var? at h ⊢
 cases hg : Tryz.prog.globalNamed "internal/strconv.uint64pow10" with
 | none=>rw [hg] at h;simp at h
 | some g =>
  rw [hg] at h;simp only [Option.bind_some] at h ⊢
  have hk:g < W.heap.size:=Decidable.byContradiction fun hn=>by
   rw [Array.getElem?_eq_none (by omega)] at h;simp at h
  rw [hb g hk];exact h
end Wo
end Go.Proofs.YtmpemhbfgbochaaGreatDoor
