/-
  What the proof stands on, part 2: the logic of walks, the walks through the functions, the plain laws. Conditions: as each theorem says. (Merged and shortened by a program.)
-/
import Derived.Shelf.Strings.Builder1
import Derived.Shelf.Strings.Builder2
import Derived.Shelf.Small.Utf8
import Derived.Shelf.Small.Bits
import Derived.Shelf.Small.Strs
import Derived.Shelf.Utf8.RuneCount
import Derived.Shelf.Strconv.Itoa0
import Derived.Shelf.Strconv.Itoa1
import Derived.Shelf.LaysM
import Derived.Shelf.Strconv.Itoa2
import Derived.Shelf.Strconv.Itoa3
import Derived.Shelf.Strings.Search1
import Derived.Shelf.Strings.Search2
import Derived.Shelf.Strings.Search3
import Derived.Shelf.Strings.Cut
import Derived.Shelf.Strings.Count
import Derived.Shelf.Strings.Shaped
import Derived.Shelf.Strings.Split
import Derived.Shelf.Strings.Runes
import Derived.Shelf.Strings.RuneCount
import Derived.Shelf.Strings.IndexAny
import Derived.Shelf.Strings.AsciiSet
import Derived.Shelf.Strings.IndexAnyAll
import Derived.Shelf.Bits.Mul64
import Derived.Ground.Names2Prog
import Derived.Shelf.Slices.Clone
import Derived.Ground.SlgnProg
import Derived.Shelf.SlicesE.Clone
import Derived.Test.YthopmddkpdehiaaGreatDoorProg
import Derived.Lib.ItoaNum
import Derived.Lib.IndexLaws
import Derived.Test.YthopmddkpdehiaaGreatDoorK1
set_option linter.unusedVariables false
set_option linter.unusedSimpArgs false
set_option maxRecDepth 4000
set_option maxHeartbeats 1000000
section
namespace Go.Proofs
open Go.Shelf
def Tryz.lays119_ren:Go.Shelf.Ren:=⟨fun|119=>322|n=>n,fun|21=>21|4=>4|n=>n,fun|n=>n⟩
theorem Tryz.lays119 : Go.Proofs.Lays.n119 Tryz.prog Tryz.lays119_ren := {
 mixed:=by kernel_rfl
 f119:=Tryz.func322.trans (congrArg some b0)
 t4:=Tryz.underlying4
 a4:=Tryz.isAgg4
 z4:=Tryz.sizeOf4
 v4:=Tryz.zeroValue4
 t21:=Tryz.underlying21
 a21:=Tryz.isAgg21
 z21:=Tryz.sizeOf21
 v21:=Tryz.zeroValue21}
theorem Tryz.utf8_ValidRune(r:Int)(w:World):
  Calls Tryz.prog 322 #[.int .i32 r] w fun e w'=>e=.returned (.bool (Lib.validRune r))∧w'=w:=Any.utf8_ValidRune Tryz.lays119 r w
def Tryz.lays137_ren:Go.Shelf.Ren:=⟨fun|137=>308|217=>335|266=>353|n=>n,fun|9=>9|5=>5|3=>3|n=>n,fun|n=>n⟩
theorem Tryz.lays137 : Go.Proofs.Lays.n137 Tryz.prog Tryz.lays137_ren := {
 mixed:=by kernel_rfl
 f137:=Tryz.func308.trans (congrArg some b0)
 f217:=Tryz.func335.trans (congrArg some b0)
 f266:=Tryz.func353.trans (congrArg some b0)
 t3:=Tryz.underlying3
 a3:=Tryz.isAgg3
 z3:=Tryz.sizeOf3
 v3:=Tryz.zeroValue3
 t5:=Tryz.underlying5
 a5:=Tryz.isAgg5
 z5:=Tryz.sizeOf5
 v5:=Tryz.zeroValue5
 t9:=Tryz.underlying9
 a9:=Tryz.isAgg9
 z9:=Tryz.sizeOf9
 v9:=Tryz.zeroValue9}
open Go.RowKit in
theorem Tryz.strings_IndexByte(s:ByteArray)(c:Int)(w:World):
  Calls Tryz.prog 308 #[.string s,.int .u8 c] w fun e w'=>e=.returned (.int .i64 (Lib.indexByte s.data.toList c.toNat.toUInt8))∧w'=w:=Any.strings_IndexByte Tryz.lays137 s c w
def Tryz.laysM171_ren:Go.Shelf.Ren:=⟨fun|171=>129|243=>223|246=>293|283=>325|284=>326|285=>327|286=>328|129=>240|317=>346|318=>347|319=>348|320=>349|337=>362|338=>363|n=>n,fun|3=>3|9=>9|2=>2|4=>4|171=>444|0=>0|53=>345|37=>130|5=>5|173=>446|212=>475|51=>350|20=>20|213=>476|46=>257|232=>510|233=>511|n=>n,fun|17=>2|18=>5|19=>6|n=>n⟩
theorem Tryz.laysM171 : Go.Proofs.LaysM.n171 Tryz.prog Tryz.laysM171_ren := {
 mixed:=by kernel_rfl
 f129:=Tryz.func240.trans (congrArg some b0)
 f171:=Tryz.func129.trans (congrArg some b0)
 f243:=Tryz.func223.trans (congrArg some b0)
 f246:=Tryz.func293.trans (congrArg some b0)
 f283:=Tryz.func325.trans (congrArg some b0)
 f284:=Tryz.func326.trans (congrArg some b0)
 f285:=Tryz.func327.trans (congrArg some b0)
 f286:=Tryz.func328.trans (congrArg some b0)
 f317:=Tryz.func346.trans (congrArg some b0)
 f318:=Tryz.func347.trans (congrArg some b0)
 f319:=Tryz.func348.trans (congrArg some b0)
 f320:=Tryz.func349.trans (congrArg some b0)
 f337:=Tryz.func362.trans (congrArg some b0)
 f338:=Tryz.func363.trans (congrArg some b0)
 t0:=Tryz.underlying0
 a0:=Tryz.isAgg0
 z0:=Tryz.sizeOf0
 v0:=Tryz.zeroValue0
 t2:=Tryz.underlying2
 a2:=Tryz.isAgg2
 z2:=Tryz.sizeOf2
 v2:=Tryz.zeroValue2
 t3:=Tryz.underlying3
 a3:=Tryz.isAgg3
 z3:=Tryz.sizeOf3
 v3:=Tryz.zeroValue3
 t4:=Tryz.underlying4
 a4:=Tryz.isAgg4
 z4:=Tryz.sizeOf4
 v4:=Tryz.zeroValue4
 t5:=Tryz.underlying5
 a5:=Tryz.isAgg5
 z5:=Tryz.sizeOf5
 v5:=Tryz.zeroValue5
 t9:=Tryz.underlying9
 a9:=Tryz.isAgg9
 z9:=Tryz.sizeOf9
 v9:=Tryz.zeroValue9
 t20:=Tryz.underlying20
 a20:=Tryz.isAgg20
 z20:=Tryz.sizeOf20
 v20:=Tryz.zeroValue20
 t37:=Tryz.underlying130
 a37:=Tryz.isAgg130
 z37:=Tryz.sizeOf130
 v37:=Tryz.zeroValue130
 t46:=Tryz.underlying257
 a46:=Tryz.isAgg257
 z46:=Tryz.sizeOf257
 v46:=Tryz.zeroValue257
 t51:=Tryz.underlying350
 a51:=Tryz.isAgg350
 z51:=Tryz.sizeOf350
 v51:=Tryz.zeroValue350
 t53:=Tryz.underlying345
 a53:=Tryz.isAgg345
 z53:=Tryz.sizeOf345
 v53:=Tryz.zeroValue345
 t171:=Tryz.underlying444
 a171:=Tryz.isAgg444
 z171:=Tryz.sizeOf444
 v171:=Tryz.zeroValue444
 t173:=Tryz.underlying446
 a173:=Tryz.isAgg446
 z173:=Tryz.sizeOf446
 v173:=Tryz.zeroValue446
 t212:=Tryz.underlying475
 a212:=Tryz.isAgg475
 z212:=Tryz.sizeOf475
 v212:=Tryz.zeroValue475
 t213:=Tryz.underlying476
 a213:=Tryz.isAgg476
 z213:=Tryz.sizeOf476
 t232:=Tryz.underlying510
 a232:=Tryz.isAgg510
 z232:=Tryz.sizeOf510
 v232:=Tryz.zeroValue510
 t233:=Tryz.underlying511
 a233:=Tryz.isAgg511
 z233:=Tryz.sizeOf511
 v233:=Tryz.zeroValue511
 g17:=by kernel_rfl
 g18:=by kernel_rfl
 g19:=by kernel_rfl
 i0:=by kernel_rfl
 i2:=by kernel_rfl
 i3:=by kernel_rfl
 i4:=by kernel_rfl
 i5:=by kernel_rfl
 i9:=by kernel_rfl
 i20:=by kernel_rfl
 i37:=by kernel_rfl
 i46:=by kernel_rfl
 i51:=by kernel_rfl
 i53:=by kernel_rfl
 i171:=by kernel_rfl
 i173:=by kernel_rfl
 i212:=by kernel_rfl
 i232:=by kernel_rfl
 i233:=by kernel_rfl
 m17:=by kernel_rfl
 m18:=by kernel_rfl
 m19:=by kernel_rfl}
open Go.RowKit Go.Sort Go.Lib in
theorem Tryz.strconv_Itoa(n:Int)(h0: -9223372036854775808≤n)(h1:n≤9223372036854775807)(w:World)(htab:Lib.TabIs Tryz.prog w "internal/strconv.uint64pow10" .u64 Lib.pow10Tab):
  Calls Tryz.prog 129 #[.int .i64 n] w fun e w'=>e=.returned (.string ⟨(Lib.itoa n).toArray⟩)∧∃k os,w'=grow (w.drewN k) os:=Any.strconv_Itoa Tryz.laysM171 n h0 h1 w htab
def Tryz.lays143_ren:Go.Shelf.Ren:=⟨fun|143=>267|219=>311|217=>335|225=>324|224=>323|267=>336|266=>353|314=>354|n=>n,fun|9=>9|3=>3|4=>4|5=>5|46=>257|146=>402|51=>350|n=>n,fun|1=>1|n=>n⟩
theorem Tryz.lays143 : Go.Proofs.Lays.n143 Tryz.prog Tryz.lays143_ren := {
 mixed:=by kernel_rfl
 f143:=Tryz.func267.trans (congrArg some b0)
 f217:=Tryz.func335.trans (congrArg some b0)
 f219:=Tryz.func311.trans (congrArg some b0)
 f224:=Tryz.func323.trans (congrArg some b0)
 f225:=Tryz.func324.trans (congrArg some b0)
 f266:=Tryz.func353.trans (congrArg some b0)
 f267:=Tryz.func336.trans (congrArg some b0)
 f314:=Tryz.func354.trans (congrArg some b0)
 t3:=Tryz.underlying3
 a3:=Tryz.isAgg3
 z3:=Tryz.sizeOf3
 v3:=Tryz.zeroValue3
 t4:=Tryz.underlying4
 a4:=Tryz.isAgg4
 z4:=Tryz.sizeOf4
 v4:=Tryz.zeroValue4
 t5:=Tryz.underlying5
 a5:=Tryz.isAgg5
 z5:=Tryz.sizeOf5
 v5:=Tryz.zeroValue5
 t9:=Tryz.underlying9
 a9:=Tryz.isAgg9
 z9:=Tryz.sizeOf9
 v9:=Tryz.zeroValue9
 t46:=Tryz.underlying257
 a46:=Tryz.isAgg257
 z46:=Tryz.sizeOf257
 v46:=Tryz.zeroValue257
 t51:=Tryz.underlying350
 a51:=Tryz.isAgg350
 z51:=Tryz.sizeOf350
 v51:=Tryz.zeroValue350
 t146:=Tryz.underlying402
 a146:=Tryz.isAgg402
 z146:=Tryz.sizeOf402
 v146:=Tryz.zeroValue402
 g1:=by kernel_rfl}
open Go.RowKit Go.Lib in
theorem Tryz.strings_Index(s sub:ByteArray)(m:Int)(w:World)(hs:s.size < 4294967281)(hm:w.cell? ⟨1,0,none⟩=some (.int .i64 m)):
  Calls Tryz.prog 267 #[.string s,.string sub] w fun e w'=>e=.returned (.int .i64 (Lib.index s.data.toList sub.data.toList))∧w'=w:=Any.strings_Index Tryz.lays143 s sub m w hs hm
def Tryz.lays144_ren:Go.Shelf.Ren:=⟨fun|144=>305|143=>267|219=>311|217=>335|225=>324|224=>323|267=>336|266=>353|314=>354|n=>n,fun|9=>9|4=>4|3=>3|5=>5|46=>257|146=>402|51=>350|n=>n,fun|1=>1|n=>n⟩
theorem Tryz.lays144 : Go.Proofs.Lays.n144 Tryz.prog Tryz.lays144_ren := {
 mixed:=by kernel_rfl
 f143:=Tryz.func267.trans (congrArg some b0)
 f144:=Tryz.func305.trans (congrArg some b0)
 f217:=Tryz.func335.trans (congrArg some b0)
 f219:=Tryz.func311.trans (congrArg some b0)
 f224:=Tryz.func323.trans (congrArg some b0)
 f225:=Tryz.func324.trans (congrArg some b0)
 f266:=Tryz.func353.trans (congrArg some b0)
 f267:=Tryz.func336.trans (congrArg some b0)
 f314:=Tryz.func354.trans (congrArg some b0)
 t3:=Tryz.underlying3
 a3:=Tryz.isAgg3
 z3:=Tryz.sizeOf3
 v3:=Tryz.zeroValue3
 t4:=Tryz.underlying4
 a4:=Tryz.isAgg4
 z4:=Tryz.sizeOf4
 v4:=Tryz.zeroValue4
 t5:=Tryz.underlying5
 a5:=Tryz.isAgg5
 z5:=Tryz.sizeOf5
 v5:=Tryz.zeroValue5
 t9:=Tryz.underlying9
 a9:=Tryz.isAgg9
 z9:=Tryz.sizeOf9
 v9:=Tryz.zeroValue9
 t46:=Tryz.underlying257
 a46:=Tryz.isAgg257
 z46:=Tryz.sizeOf257
 v46:=Tryz.zeroValue257
 t51:=Tryz.underlying350
 a51:=Tryz.isAgg350
 z51:=Tryz.sizeOf350
 v51:=Tryz.zeroValue350
 t146:=Tryz.underlying402
 a146:=Tryz.isAgg402
 z146:=Tryz.sizeOf402
 v146:=Tryz.zeroValue402
 g1:=by kernel_rfl}
open Go.RowKit Go.Lib in
theorem Tryz.strings_Contains(s sub:ByteArray)(m:Int)(w:World)(hs:s.size < 4294967281)(hm:w.cell? ⟨1,0,none⟩=some (.int .i64 m)):
  Calls Tryz.prog 305 #[.string s,.string sub] w fun e w'=>e=.returned (.bool (Lib.contains s.data.toList sub.data.toList))∧w'=w:=Any.strings_Contains Tryz.lays144 s sub m w hs hm
def Tryz.lays145_ren:Go.Shelf.Ren:=⟨fun|145=>228|220=>295|219=>311|217=>335|225=>324|224=>323|267=>336|266=>353|314=>354|n=>n,fun|9=>9|4=>4|59=>347|3=>3|5=>5|46=>257|146=>402|51=>350|n=>n,fun|1=>1|n=>n⟩
theorem Tryz.lays145 : Go.Proofs.Lays.n145 Tryz.prog Tryz.lays145_ren := {
 mixed:=by kernel_rfl
 f145:=Tryz.func228.trans (congrArg some b0)
 f217:=Tryz.func335.trans (congrArg some b0)
 f219:=Tryz.func311.trans (congrArg some b0)
 f220:=Tryz.func295.trans (congrArg some b0)
 f224:=Tryz.func323.trans (congrArg some b0)
 f225:=Tryz.func324.trans (congrArg some b0)
 f266:=Tryz.func353.trans (congrArg some b0)
 f267:=Tryz.func336.trans (congrArg some b0)
 f314:=Tryz.func354.trans (congrArg some b0)
 t3:=Tryz.underlying3
 a3:=Tryz.isAgg3
 z3:=Tryz.sizeOf3
 v3:=Tryz.zeroValue3
 t4:=Tryz.underlying4
 a4:=Tryz.isAgg4
 z4:=Tryz.sizeOf4
 v4:=Tryz.zeroValue4
 t5:=Tryz.underlying5
 a5:=Tryz.isAgg5
 z5:=Tryz.sizeOf5
 v5:=Tryz.zeroValue5
 t9:=Tryz.underlying9
 a9:=Tryz.isAgg9
 z9:=Tryz.sizeOf9
 v9:=Tryz.zeroValue9
 t46:=Tryz.underlying257
 a46:=Tryz.isAgg257
 z46:=Tryz.sizeOf257
 v46:=Tryz.zeroValue257
 t51:=Tryz.underlying350
 a51:=Tryz.isAgg350
 z51:=Tryz.sizeOf350
 v51:=Tryz.zeroValue350
 t59:=Tryz.underlying347
 a59:=Tryz.isAgg347
 z59:=Tryz.sizeOf347
 v59:=Tryz.zeroValue347
 t146:=Tryz.underlying402
 a146:=Tryz.isAgg402
 z146:=Tryz.sizeOf402
 v146:=Tryz.zeroValue402
 g1:=by kernel_rfl}
open Go.RowKit Go.Lib in
theorem Tryz.strings_Cut(s sep:ByteArray)(m:Int)(w:World)(hs:s.size < 4294967281)(hm:w.cell? ⟨1,0,none⟩=some (.int .i64 m)):
  Calls Tryz.prog 228 #[.string s,.string sep] w fun e w'=>e=.returned (.tuple #[.string ⟨(Lib.cut s.data.toList sep.data.toList).1.toArray⟩,.string ⟨(Lib.cut s.data.toList sep.data.toList).2.1.toArray⟩,.bool (Lib.cut s.data.toList sep.data.toList).2.2])∧∃n,w'=w.drewN n:=Any.strings_Cut Tryz.lays145 s sep m w hs hm
def Tryz.lays152_ren:Go.Shelf.Ren:=⟨fun|152=>289|137=>308|119=>322|224=>323|225=>324|217=>335|266=>353|n=>n,fun|9=>9|21=>21|3=>3|4=>4|5=>5|0=>0|46=>257|n=>n,fun|n=>n⟩
theorem Tryz.lays152 : Go.Proofs.Lays.n152 Tryz.prog Tryz.lays152_ren := {
 mixed:=by kernel_rfl
 f119:=Tryz.func322.trans (congrArg some b0)
 f137:=Tryz.func308.trans (congrArg some b0)
 f152:=Tryz.func289.trans (congrArg some b0)
 f217:=Tryz.func335.trans (congrArg some b0)
 f224:=Tryz.func323.trans (congrArg some b0)
 f225:=Tryz.func324.trans (congrArg some b0)
 f266:=Tryz.func353.trans (congrArg some b0)
 t0:=Tryz.underlying0
 a0:=Tryz.isAgg0
 z0:=Tryz.sizeOf0
 v0:=Tryz.zeroValue0
 t3:=Tryz.underlying3
 a3:=Tryz.isAgg3
 z3:=Tryz.sizeOf3
 v3:=Tryz.zeroValue3
 t4:=Tryz.underlying4
 a4:=Tryz.isAgg4
 z4:=Tryz.sizeOf4
 v4:=Tryz.zeroValue4
 t5:=Tryz.underlying5
 a5:=Tryz.isAgg5
 z5:=Tryz.sizeOf5
 v5:=Tryz.zeroValue5
 t9:=Tryz.underlying9
 a9:=Tryz.isAgg9
 z9:=Tryz.sizeOf9
 v9:=Tryz.zeroValue9
 t21:=Tryz.underlying21
 a21:=Tryz.isAgg21
 z21:=Tryz.sizeOf21
 v21:=Tryz.zeroValue21
 t46:=Tryz.underlying257
 a46:=Tryz.isAgg257
 z46:=Tryz.sizeOf257
 v46:=Tryz.zeroValue257}
open Go.RowKit Go.Lib in
theorem Tryz.strings_IndexRune_ascii(s:ByteArray)(r:Int)(w:World)(h0:0≤r)(h1:r < 128):
  Calls Tryz.prog 289 #[.string s,.int .i32 r] w fun e w'=>e=.returned (.int .i64 (Lib.indexByte s.data.toList r.toNat.toUInt8))∧w'=w:=Any.strings_IndexRune_ascii Tryz.lays152 s r w h0 h1
def Tryz.lays226_ren:Go.Shelf.Ren:=⟨fun|226=>290|n=>n,fun|3=>3|4=>4|n=>n,fun|n=>n⟩
theorem Tryz.lays226 : Go.Proofs.Lays.n226 Tryz.prog Tryz.lays226_ren := {
 mixed:=by kernel_rfl
 f226:=Tryz.func290.trans (congrArg some b0)
 t3:=Tryz.underlying3
 a3:=Tryz.isAgg3
 z3:=Tryz.sizeOf3
 v3:=Tryz.zeroValue3
 t4:=Tryz.underlying4
 a4:=Tryz.isAgg4
 z4:=Tryz.sizeOf4
 v4:=Tryz.zeroValue4}
open Go.RowKit Go.Lib in
theorem Tryz.strings_shouldUseASCIISet(n:Int)(w:World):
  Calls Tryz.prog 290 #[.int .i64 n] w fun e w'=>e=.returned (.bool (decide (8 < n)))∧w'=w:=Any.strings_shouldUseASCIISet Tryz.lays226 n w
def Tryz.lays153_ren:Go.Shelf.Ren:=⟨fun|153=>221|152=>289|226=>290|227=>291|228=>292|137=>308|119=>322|224=>323|225=>324|217=>335|266=>353|n=>n,fun|9=>9|3=>3|4=>4|5=>5|21=>21|117=>416|116=>415|0=>0|46=>257|124=>443|n=>n,fun|n=>n⟩
theorem Tryz.lays153 : Go.Proofs.Lays.n153 Tryz.prog Tryz.lays153_ren := {
 mixed:=by kernel_rfl
 f119:=Tryz.func322.trans (congrArg some b0)
 f137:=Tryz.func308.trans (congrArg some b0)
 f152:=Tryz.func289.trans (congrArg some b0)
 f153:=Tryz.func221.trans (congrArg some b0)
 f217:=Tryz.func335.trans (congrArg some b0)
 f224:=Tryz.func323.trans (congrArg some b0)
 f225:=Tryz.func324.trans (congrArg some b0)
 f226:=Tryz.func290.trans (congrArg some b0)
 f227:=Tryz.func291.trans (congrArg some b0)
 f228:=Tryz.func292.trans (congrArg some b0)
 f266:=Tryz.func353.trans (congrArg some b0)
 t0:=Tryz.underlying0
 a0:=Tryz.isAgg0
 z0:=Tryz.sizeOf0
 v0:=Tryz.zeroValue0
 t3:=Tryz.underlying3
 a3:=Tryz.isAgg3
 z3:=Tryz.sizeOf3
 v3:=Tryz.zeroValue3
 t4:=Tryz.underlying4
 a4:=Tryz.isAgg4
 z4:=Tryz.sizeOf4
 v4:=Tryz.zeroValue4
 t5:=Tryz.underlying5
 a5:=Tryz.isAgg5
 z5:=Tryz.sizeOf5
 v5:=Tryz.zeroValue5
 t9:=Tryz.underlying9
 a9:=Tryz.isAgg9
 z9:=Tryz.sizeOf9
 v9:=Tryz.zeroValue9
 t21:=Tryz.underlying21
 a21:=Tryz.isAgg21
 z21:=Tryz.sizeOf21
 v21:=Tryz.zeroValue21
 t46:=Tryz.underlying257
 a46:=Tryz.isAgg257
 z46:=Tryz.sizeOf257
 v46:=Tryz.zeroValue257
 t116:=Tryz.underlying415
 a116:=Tryz.isAgg415
 z116:=Tryz.sizeOf415
 t117:=Tryz.underlying416
 a117:=Tryz.isAgg416
 z117:=Tryz.sizeOf416
 v117:=Tryz.zeroValue416
 t124:=Tryz.underlying443
 a124:=Tryz.isAgg443
 z124:=Tryz.sizeOf443
 v124:=Tryz.zeroValue443}
open Go.RowKit Go.Lib in
theorem Tryz.strings_IndexAny_long(hv116:∀w,(zeroValue 415).run Tryz.prog w=.ok (.agg (Array.replicate 256 (.bool false))) w)(s chars:ByteArray)(w:World)(h2:2≤chars.size)(h8:8 < s.size)(hs:s.size < 4294967281)(hcs:chars.size < 4294967281)(hascii:∀(j:Nat) b,chars.data.toList[j]?=some b→b.toNat < 128):
  Calls Tryz.prog 221 #[.string s,.string chars] w fun e w'=>e=.returned (.int .i64 (Lib.indexAny s.data.toList chars.data.toList))∧w'=((w.alloc (.cells (Lib.setCells chars.data.toList) 415)).alloc (.cells (Lib.setCells chars.data.toList) 415)):=Any.strings_IndexAny_long Tryz.lays153 hv116 b0 s chars w h2 h8 hs hcs hascii
def Tryz.lays212_ren:Go.Shelf.Ren:=⟨fun|212=>200|263=>276|264=>277|n=>n,fun|46=>257|51=>350|146=>402|53=>345|148=>404|n=>n,fun|n=>n⟩
theorem Tryz.lays212 : Go.Proofs.Lays.n212 Tryz.prog Tryz.lays212_ren := {
 mixed:=by kernel_rfl
 f212:=Tryz.func200.trans (congrArg some b0)
 f263:=Tryz.func276.trans (congrArg some b0)
 f264:=Tryz.func277.trans (congrArg some b0)
 t46:=Tryz.underlying257
 a46:=Tryz.isAgg257
 z46:=Tryz.sizeOf257
 v46:=Tryz.zeroValue257
 t51:=Tryz.underlying350
 a51:=Tryz.isAgg350
 z51:=Tryz.sizeOf350
 v51:=Tryz.zeroValue350
 t53:=Tryz.underlying345
 a53:=Tryz.isAgg345
 z53:=Tryz.sizeOf345
 v53:=Tryz.zeroValue345
 t146:=Tryz.underlying402
 a146:=Tryz.isAgg402
 z146:=Tryz.sizeOf402
 v146:=Tryz.zeroValue402
 t148:=Tryz.underlying404
 a148:=Tryz.isAgg404
 z148:=Tryz.sizeOf404
 v148:=Tryz.zeroValue404}
open Go.RowKit Go.Lib in
theorem Tryz.bits_Mul(x y:Nat)(hx:x < 18446744073709551616)(hy:y < 18446744073709551616)(w:World):
  Calls Tryz.prog 200 #[.int .u64 x,.int .u64 y] w fun e w'=>e=.returned (.tuple #[.int .u64 ((x*y / 18446744073709551616:Nat):Int),.int .u64 ((x*y % 18446744073709551616:Nat):Int)])∧w'=w:=Any.bits_Mul Tryz.lays212 x y hx hy w
end Go.Proofs
end
section
attribute [local irreducible] Go.SL.T Go.SL.OL Go.SL.D Go.SL.DL Go.SL.Ev Go.SL.Ef Go.SL.EfS
namespace Go.Proofs
open Go Go.SL Go.Syn
def Flt(e at_:Int):Ending→Hl→List Asn→Prop:=fun en K' L'=>
 ∃b,en=.panicked [{v:=.iface 118 (ptr b),recovered:=false}]∧L'=[pt b (aU [i64 e,i64 at_] 123)]
def f6{β:Type}(r:Res β)(N:β→Value→Hl→List Asn→Prop):Ending→Hl→List Asn→Prop:=fun en K' L'=>
 match r with
 | .ok x=>Ret (N x) en K' L'
 | .error (e,p)=>Flt e p en K' L'
theorem a7{β:Type}{r:Res β}{N:β→Value→Hl→List Asn→Prop}(K':Hl)(L':List Asn):¬f6 r N .outgrown K' L':=by
 unfold f6;cases r with
 |ok x=>rintro⟨_,h,_⟩;cases h
 |error p=>rintro⟨_,h,_⟩;cases h
theorem bA{β:Type}{r:Res β}{N:β→Value→Hl→List Asn→Prop}{v:Value}{K':Hl}{L':List Asn}(h:f6 r N (.returned v) K' L'):∃x,r=.ok x∧N x v K' L':=by
 unfold f6 at h;cases r with
 |ok x=>obtain⟨u,e,h⟩:=h;cases e;exact⟨x,rfl,h⟩
 |error p=>obtain⟨_,e,_⟩:=h;cases e
theorem a8{β:Type}{r:Res β}{N:β→Value→Hl→List Asn→Prop}{ch:List PanicEntry}{K':Hl}{L':List Asn}(h:f6 r N (.panicked ch) K' L'):∃e p,r=.error (e,p)∧Flt e p (.panicked ch) K' L':=by
 unfold f6 at h;cases r with
 |ok x=>obtain⟨u,e,h⟩:=h;cases e
 |error p=>exact⟨p.1,p.2,rfl,h⟩
theorem eL(e at_:Int)(K:Hl):Sp Tryz.prog 184 [i64 e,i64 at_] K [] (Flt e at_):=by
 refine aZ Tryz.func184 rfl Tryz.ntmps184 rfl rfl fun F w=>?_
 refine zz3 ?_;refine aA (cR aXQ aT2 (.cons rfl rfl rfl (.cons .nil) (.cons rfl rfl rfl (.skip (.cons .nil)) .nil))) rfl ?_;refine zz1 ?_;rintro _ K _ ⟨b7,rfl,rfl,rfl⟩ -;refine aA (dG Tryz.underlying118 (fun _ h=>by cases h) rfl) rfl ?_;refine aHY rfl ?_;refine bF (Hl.le_refl _) ?_;exact⟨_,rfl,rfl⟩
theorem aKZ(c:UInt8)(K:Hl):Sp Tryz.prog 266 [.int .u8 c.toNat] K [] (Val (.bool (decide (¬c.toNat=10))) K):=by
 refine aZ Tryz.func266 rfl Tryz.ntmps266 rfl rfl fun F w=>?_
 refine zz14 ?_;refine retB ?_ _
 rw[Bool.eq_iff_iff];simp;omega
structure Glob (K:Hl):Prop where
 maxLen:∃m T fz,K 1=some (aU [i64 m] T fz)
 pow10:∀w,K.le (hp w)→Lib.TabIs Tryz.prog w "internal/strconv.uint64pow10" .u64 Lib.pow10Tab
theorem aAS(s sub:List UInt8)(K:Hl)(hg:Glob K)(hs:s.length < 4294967281):Sp Tryz.prog 267 [str s,str sub] K [] (Val (i64 (Lib.index s sub)) K):=by
 refine lI ⟨_,Tryz.func267,rfl,rfl⟩ fun w hw=>?_
 obtain⟨m,T,fz,hm⟩:=hg.maxLen;have:=Tryz.strings_Index ⟨s.toArray⟩ ⟨sub.toArray⟩ m w (by simpa[ByteArray.size]using hs) (kZ (hw _ _ hm) rfl);exact this
theorem sA(s sub:List UInt8):Lib.index s sub≤(s.length:Int) - sub.length∨Lib.index s sub= -1:=by
 induction s with
 |nil=>cases sub <;> simp[Lib.index]
 |cons b l ih=>
  simp only[Lib.index];split
  ·rename_i hp;have:=List.IsPrefix.length_le (List.isPrefixOf_iff_prefix.1 hp);simp at this ⊢;omega
  ·split
   ·exact .inr rfl
   ·rename_i h;simp at h;rcases ih with ih|ih
    ·left;simp;omega
    ·exact absurd ih h
theorem aPL(b:Nat)(T:TypeId)(s:List UInt8)(a:Nat)(wk ws wn wa:Value)(rest:List Value)(hs:s.length≤600)(ha:a≤s.length)(K:Hl)(hg:Glob K):
  Sp Tryz.prog 180 [ptr b] K [lxb b T s a wk ws wn wa rest]
   (f6 (skip s a) fun a' v K' L'=>v=.tuple #[]∧K'=K∧L'=[lxb b T s a' wk ws wn wa rest]):=by
 refine aZ Tryz.func180 rfl Tryz.ntmps180 rfl rfl fun F w=>?_
 refine bD ?_;refine d6 (fun(i:Nat)=>a≤i∧i≤s.length∧∃f,s.length < i+(f+1)∧skip s a=jH s (f+1) i) (fun i=>[(0,ptr b)]) (fun _=>K) (fun i=>[lxb b T s i wk ws wn wa rest]) (fun i=>s.length - i) a ⟨Nat.le_refl _,ha,s.length - a,by omega,by unfold skip;congr 1;omega⟩ (.cons 0 rfl .nil) rfl (fun _ h=>h) ?_;intro i ⟨hi1,hi2,f,hi3,hi4⟩;refine zz2 ?_;refine t_draw (anc:=[0,1,3,7,0,16,48,112,240,511]) (ord:=[0,1,2,3,4,5,6,7,8,9]) [] [] mixed gBO (cX _) ?_;refine zz12 ?_;refine bG 13 rfl (fun h13=>?_) (fun h13=>?_)
 ·
  obtain⟨c,hc⟩:∃c,s[i]?=some c:=⟨s[i],List.getElem?_eq_getElem aH⟩;have hp0:((s[i+0]?).getD 0)=c:=by rw[Nat.add_zero,hc];rfl
  refine zz6 ?_;refine aY rfl rfl (kE b T s i 0 wk ws wn wa rest hs aH aH K) (.cons .here .nil) rfl ?_;rintro _ K _ ⟨rfl,rfl,rfl⟩ -;rw[hp0];refine zz16 ?_;refine bG 17 rfl (fun h17=>?_) (fun h17=>?_)
  ·
   refine zz11 ?_;refine uAe ?_;rintro _ K _ ⟨rfl,rfl⟩ -;refine zz3 ?_
   first
    |(have hf:∃f0,f=f0+1:=⟨f - 1,by omega⟩;obtain⟨f0,rfl⟩:=hf;refine cG (i+1) ⟨by omega,by omega,f0,by omega,by rw[hi4,j6 hc aH]⟩ aH (.cons 0 rfl .nil) rfl (fun _ h=>h))
    |exact gAH
    |exact gAE
  ·
   refine zz6 ?_;refine bG 17 rfl (fun h17=>?_) (fun h17=>?_)
   ·
    refine zz11 ?_;refine uAe ?_;rintro _ K _ ⟨rfl,rfl⟩ -;refine zz3 ?_
    first
     |(have hf:∃f0,f=f0+1:=⟨f - 1,by omega⟩;obtain⟨f0,rfl⟩:=hf;refine cG (i+1) ⟨by omega,by omega,f0,by omega,by rw[hi4,j6 hc aH]⟩ aH (.cons 0 rfl .nil) rfl (fun _ h=>h))
     |exact gAH
     |exact gAE
   ·
    refine zz6 ?_;refine bG 17 rfl (fun h17=>?_) (fun h17=>?_)
    ·
     refine zz11 ?_;refine uAe ?_;rintro _ K _ ⟨rfl,rfl⟩ -;refine zz3 ?_
     first
      |(have hf:∃f0,f=f0+1:=⟨f - 1,by omega⟩;obtain⟨f0,rfl⟩:=hf;refine cG (i+1) ⟨by omega,by omega,f0,by omega,by rw[hi4,j6 hc aH]⟩ aH (.cons 0 rfl .nil) rfl (fun _ h=>h))
      |exact gAH
      |exact gAE
    ·
     refine zz5 ?_;refine bG 17 rfl (fun h17=>?_) (fun h17=>?_)
     ·
      refine zz8 ?_;refine uAe ?_;rintro _ K _ ⟨rfl,rfl⟩ -;refine zz3 ?_
      first
       |(have hf:∃f0,f=f0+1:=⟨f - 1,by omega⟩;obtain⟨f0,rfl⟩:=hf;refine cG (i+1) ⟨by omega,by omega,f0,by omega,by rw[hi4,j6 hc aH]⟩ aH (.cons 0 rfl .nil) rfl (fun _ h=>h))
       |exact gAH
       |exact gAE
     ·
      refine zz6 ?_;refine bG 29 rfl (fun h29=>?_) (fun h29=>?_)
      ·
       refine zz2 ?_;refine aY rfl rfl (rJ b T s i wk ws wn wa rest 266 (fun c=>decide (¬c.toNat=10)) hs aH _ (fun c=>aKZ c _)) (.cons .here .nil) rfl ?_;rintro _ K _ ⟨rfl,rfl,rfl⟩ -;refine zz3 ?_
       first
        |(have hf:∃f0,f=f0+1:=⟨f - 1,by omega⟩;obtain⟨f0,rfl⟩:=hf;refine cG (i+1) ⟨by omega,by omega,f0,by omega,by rw[hi4,j6 hc aH]⟩ aH (.cons 0 rfl .nil) rfl (fun _ h=>h))
        |exact gAH
        |exact gAE
      ·
       refine zz6 ?_;refine bG 33 rfl (fun h33=>?_) (fun h33=>?_)
       ·
        refine aI ?_;refine t_draw (anc:=[0,1,3,7,0,16,48,112,240,0,512,1536,3584,7680,16368,32767,65535,131071]) (ord:=[0,1,2,3,4,5,6,7,8,9,10,11,12,13,14,15,16,17]) [16] [] mixed gBO (cX _) ?_;refine zz15 ?_;refine dl_ev rfl rfl (.none rfl) rfl rfl (jJ (m:=min (i+2) s.length) Tryz.underlying9 rfl rfl gCC aH) rfl ?_;refine dl_callv rfl (.none rfl) rfl rfl rfl rfl (aAS _ _ _ hg gBV) rfl ?_;refine zz7 ?_;refine aY rfl rfl (kE b T s i 1 wk ws wn wa rest hs aH aH _) (.cons .here .nil) rfl ?_;rintro _ K _ ⟨rfl,rfl,rfl⟩ -;have hix:=sA (s.drop (min (i+2) s.length)) [42,47];simp only[List.length_drop,List.length_cons,List.length_nil]at hix;refine zz3 ?_;refine bG 54 rfl (fun h54=>?_) (fun h54=>?_)
        ·
         refine zz6 ?_;refine qR rfl (Hl.le_refl _) ?_;have hk:skip s a=.ok i:=by rw[hi4];first|exact tK aH|exact sQ hc aH aH|exact pE hc aH
         rw[hk];exact⟨_,rfl,rfl,rfl,rfl⟩
        ·
         refine zz9 ?_;refine bG 56 rfl (fun h56=>?_) (fun h56=>?_)
         ·
          refine zz5 ?_;refine aX rfl rfl (eL 2 i _) .nil rfl gBM ?_ ?_
          ·
           rintro _ _ _ ⟨fb,h,rfl⟩ le1;cases h
           refine uAa ?_;refine zz6 ?_;rw[hi4,aPJ hc aH aH h56];exact⟨fb,rfl,rfl⟩
          ·
           rintro _ _ _ ⟨_,h,_⟩;cases h
         ·
          refine zz13 ?_;refine uAe ?_;rintro _ K _ ⟨rfl,rfl⟩ -;refine zz3 ?_
          first
           |(have hf:∃f0,f=f0+1:=⟨f - 1,by omega⟩;obtain⟨f0,rfl⟩:=hf;refine cG (i+1) ⟨by omega,by omega,f0,by omega,by rw[hi4,j6 hc aH]⟩ aH (.cons 0 rfl .nil) rfl (fun _ h=>h))
           |exact gAH
           |exact gAE
       ·
        refine zz5 ?_;refine qR rfl (Hl.le_refl _) ?_;have hk:skip s a=.ok i:=by rw[hi4];first|exact tK aH|exact sQ hc aH aH|exact pE hc aH
        rw[hk];exact⟨_,rfl,rfl,rfl,rfl⟩
 ·
  refine zz5 ?_;have hk:skip s a=.ok i:=by rw[hi4];first|exact tK aH|exact sQ hc aH aH|exact pE hc aH
  rw[hk];exact⟨_,rfl,rfl,rfl,rfl⟩
end Go.Proofs
end
section
attribute [local irreducible] Go.SL.T Go.SL.OL Go.SL.D Go.SL.DL Go.SL.Ev Go.SL.Ef Go.SL.EfS
namespace Go.Proofs
open Go Go.SL Go.Syn
theorem y5(s:List UInt8)(lo hi add:UInt8)(K:Hl)(hs:s.length≤140737488351232):
    Sp Tryz.prog 269 [str s,.int .u8 lo.toNat,.int .u8 hi.toNat,.int .u8 add.toNat] K [] (Val (str (s.map (gV lo hi add))) K):=by
  refine aZ Tryz.func269 rfl Tryz.ntmps269 rfl rfl fun F w=>?_
  refine zz8 ?_;refine uAp ?_;rintro v13 K _ ⟨rfl,rfl⟩ -;refine zz7 ?_;refine uAz ?_;refine zz4 ?_;refine d6 (fun(i:Nat)=>i≤s.length) (fun i=>[(1,.int .u8 lo.toNat),(2,.int .u8 hi.toNat),(3,.int .u8 add.toNat),(9,v13),(14,v13),(15,i64 s.length),(16,i64 i)]) (fun _=>_) (fun i=>[sl false (elB 5) v13 (Plain.mp (gV lo hi add) s i)]) (fun i=>s.length - i) 0 (Nat.zero_le _) (.cons 1 rfl (.cons 2 rfl (.cons 3 rfl (.cons 9 rfl (.cons 14 rfl (.cons 15 rfl (.cons 16 rfl .nil))))))) rfl (fun _ h=>by rw[Plain.mp_zero];exact h) ?_;intro i hi0;refine zz6 ?_;refine bG 17 rfl (fun h17=>?_) (fun h17=>?_)
  ·
    obtain⟨c,hc⟩:∃c,s[i]?=some c:=⟨s[i]'(by omega),List.getElem?_eq_getElem aH⟩;have hlen:i < (Plain.mp (gV lo hi add) s i).length:=by rw[Plain.mp_len];omega
    have hget:=(Plain.mp_get (gV lo hi add) s i).trans hc;refine zz7 ?_;refine aA (bQ (k:=(elB 5)) jQ rfl aN rfl rfl gBR) rfl ?_;refine uBb ?_;refine zz10 ?_;refine cF 24 rfl (fun g24=>?_) (fun g24=>?_)
    ·
      refine zz9 ?_;refine bG 28 rfl (fun h28=>?_) (fun h28=>?_)
      ·
        refine zz5 ?_;refine aA (aVD c add rfl rfl) rfl ?_;refine aA (bQ (k:=(elB 5)) jQ rfl aN rfl rfl gBR) rfl ?_;refine bR (aDJ (k:=(elB 5)) (y0:=c+add) ts5 rfl rfl rfl rfl gBR bB) ?_;rintro _ K _ ⟨rfl,rfl⟩ -;refine zz7 ?_;refine cG (i+1) aH aH (.cons 1 rfl (.cons 2 rfl (.cons 3 rfl (.cons 9 rfl (.cons 14 rfl (.cons 15 rfl (.cons 16 rfl .nil))))))) rfl ?_
        first
          | (have ht : gV lo hi add c = c + add := by (unfold gV; rw [if_pos aH])
             rw[←ht,Plain.mp_set hc];exact fun _ h=>h)
          | (have ht : gV lo hi add c = c := by (unfold gV; rw [if_neg aH])
             rw[Plain.mp_same hc ht];exact fun _ h=>h)
      ·
        refine zz7 ?_;refine cG (i+1) aH aH (.cons 1 rfl (.cons 2 rfl (.cons 3 rfl (.cons 9 rfl (.cons 14 rfl (.cons 15 rfl (.cons 16 rfl .nil))))))) rfl ?_
        first
          | (have ht : gV lo hi add c = c + add := by (unfold gV; rw [if_pos aH])
             rw[←ht,Plain.mp_set hc];exact fun _ h=>h)
          | (have ht : gV lo hi add c = c := by (unfold gV; rw [if_neg aH])
             rw[Plain.mp_same hc ht];exact fun _ h=>h)
    ·
      refine zz14 ?_;refine cG (i+1) aH aH (.cons 1 rfl (.cons 2 rfl (.cons 3 rfl (.cons 9 rfl (.cons 14 rfl (.cons 15 rfl (.cons 16 rfl .nil))))))) rfl ?_
      first
        | (have ht : gV lo hi add c = c + add := by (unfold gV; rw [if_pos aH])
           rw[←ht,Plain.mp_set hc];exact fun _ h=>h)
        | (have ht : gV lo hi add c = c := by (unfold gV; rw [if_neg aH])
           rw[Plain.mp_same hc ht];exact fun _ h=>h)
  ·
    have hfin:=Plain.mp_end (gV lo hi add) s (i:=i) aH;refine zz8 ?_;refine aA (qT Tryz.underlying130 Tryz.underlying5 Tryz.underlying9 rfl aN) rfl ?_;refine zz4 ?_;rw[hfin];refine uAw ?_;refine zz1 ?_;exact⟨rfl,rfl,rfl⟩
theorem fX(s:List UInt8)(K:Hl)(hs:s.length≤140737488351232):Sp Tryz.prog 185 [str s] K [] (Val (str (cN s)) K):=by
 refine aZ Tryz.func185 rfl Tryz.ntmps185 rfl rfl fun F w=>?_
 refine zz8 ?_;refine cE rfl rfl (y5 s 65 90 32 _ hs) rfl ?_;refine zz5 ?_;exact⟨rfl,rfl,rfl⟩
theorem aKD(s:List UInt8)(K:Hl)(hs:s.length≤140737488351232):Sp Tryz.prog 258 [str s] K [] (Val (str (aE4 s)) K):=by
 refine aZ Tryz.func258 rfl Tryz.ntmps258 rfl rfl fun F w=>?_
 refine zz8 ?_;refine cE rfl rfl (y5 s 97 122 224 _ hs) rfl ?_;refine zz5 ?_;exact⟨rfl,rfl,rfl⟩
theorem aHW(b:Nat)(T:TypeId)(s:List UInt8)(a:Nat)(wk ws wn:Value)(wat:Int)(rest:List Value)(hs:s.length≤600)(ha:a≤s.length)(K:Hl):
    Sp Tryz.prog 189 [ptr b] K [lxb b T s a wk ws wn (i64 wat) rest]
      (f6 (pP s a wat) fun r v K' L'=>v=.tuple #[]∧K'=K∧L'=[lxb b T s r.1 (.int .u8 4) ws (i64 r.2) (i64 wat) rest]):=by
  have hdl:=aCT s a ha;refine aZ Tryz.func189 rfl Tryz.ntmps189 rfl rfl fun F w=>?_
  refine zz9 ?_;refine aY rfl rfl (rJ b T s a wk ws wn (i64 wat) rest 188 dX hs ha _ (fun c=>nR c _)) (.cons .here .nil) rfl ?_;rintro _ K _ ⟨rfl,rfl,rfl⟩ -;rw[show List.takeWhile dX (List.drop a s)=dA s a from rfl];have hvd:fE ((dA s a).take 0)=0:=rfl;refine uAp ?_;rintro v7 K _ ⟨rfl,rfl⟩ -;refine uAz ?_;refine zz4 ?_;refine d6 (fun(i:Nat)=>i≤(dA s a).length) (fun i=>[(0,ptr b),(2,i64 (fE ((dA s a).take i))),(7,v7),(8,i64 (dA s a).length),(9,i64 i)]) (fun _=>_) (fun i=>[sl false (elB 5) v7 (dA s a),lxb b T s (a+(dA s a).length:Nat) wk ws wn (i64 wat) rest]) (fun i=>(dA s a).length - i) 0 (Nat.zero_le _) (.cons 0 rfl (.cons 2 rfl (.cons 7 rfl (.cons 8 rfl (.cons 9 rfl .nil))))) rfl (fun _ h=>h) ?_;intro i hi0;refine zz6 ?_;refine bG 10 rfl (fun h10=>?_) (fun h10=>?_)
  ·
    obtain⟨c,hc⟩:∃c,(dA s a)[i]?=some c:=⟨(dA s a)[i]'(by omega),List.getElem?_eq_getElem aH⟩;have hd:=aQ3 hc;have hlen:i < (dA s a).length:=by omega
    have hbd:=xA ((dA s a).take i);refine zz6 ?_;refine aA (bQ (k:=(elB 5)) jQ rfl aN rfl rfl gBR) rfl ?_;refine uBb ?_;refine zz7 ?_;refine aA (aLY (m:=c.toNat) (n:=48) aH aH rfl rfl) rfl ?_;refine aA (rY Tryz.underlying3 Tryz.underlying5 rfl aH aH) rfl ?_;refine zz10 ?_;have hup:fE ((dA s a).take (i+1))=_:=aGY hc;refine cG (i+1) aH aH (.cons 0 rfl (.cons 2 (by rw[hup];rfl) (.cons 7 rfl (.cons 8 rfl (.cons 9 rfl .nil))))) rfl (fun _ h=>h)
  ·
    have hfin:(dA s a).take i=dA s a:=List.take_of_length_le aH;have hbd:=xA (dA s a);rw[hfin];refine zz5 ?_;refine gG (fun(_:Unit)=>True) (fun _=>[(0,ptr b),(2,i64 (numN s a))]) (fun _=>K) (fun _=>[lxb b T s (numA s a:Nat) wk ws wn (i64 wat) rest]) ?_ ?_
    ·
      refine zz3 ?_;refine aY rfl rfl (kE b T s (a+(dA s a).length) 0 wk ws wn (i64 wat) rest hs aH aH _) (.cons (.there .here) .nil) rfl ?_;rintro _ K _ ⟨rfl,rfl,rfl⟩ -;have hcc:(((s[a+(dA s a).length+0]?).getD 0).toNat:Int)=(numC s a:Int):=rfl;rw[hcc];clear hcc;refine zz16 ?_;refine bG 23 rfl (fun h23=>?_) (fun h23=>?_)
      ·
        refine zz31 ?_;refine uAe ?_;rintro _ K _ ⟨rfl,rfl⟩ -;refine zz4 ?_
        first
          | (have eN : numN s a = fE (dA s a) * 1024 * 1024 := gCN
             have eA:numA s a=a+(dA s a).length+1:=gB4;refine uAa ?_;refine bU () trivial (.cons 0 rfl (.cons 2 gCJ .nil)) rfl gB0)
          | (have eN : numN s a = fE (dA s a) * 1024 := gCG
             have eA:numA s a=a+(dA s a).length+1:=gB4;refine uAa ?_;refine bU () trivial (.cons 0 rfl (.cons 2 gCJ .nil)) rfl gB0)
          | (have eN : numN s a = fE (dA s a) := gCH
             have eA:numA s a=a+(dA s a).length:=gCP;refine uAa ?_;refine bU () trivial (.cons 0 rfl (.cons 2 gCJ .nil)) rfl gB0)
      ·
        refine zz5 ?_;refine bG 23 rfl (fun h23=>?_) (fun h23=>?_)
        ·
          refine zz28 ?_;refine uAe ?_;rintro _ K _ ⟨rfl,rfl⟩ -;refine zz4 ?_
          first
            | (have eN : numN s a = fE (dA s a) * 1024 * 1024 := gCN
               have eA:numA s a=a+(dA s a).length+1:=gB4;refine uAa ?_;refine bU () trivial (.cons 0 rfl (.cons 2 gCJ .nil)) rfl gB0)
            | (have eN : numN s a = fE (dA s a) * 1024 := gCG
               have eA:numA s a=a+(dA s a).length+1:=gB4;refine uAa ?_;refine bU () trivial (.cons 0 rfl (.cons 2 gCJ .nil)) rfl gB0)
            | (have eN : numN s a = fE (dA s a) := gCH
               have eA:numA s a=a+(dA s a).length:=gCP;refine uAa ?_;refine bU () trivial (.cons 0 rfl (.cons 2 gCJ .nil)) rfl gB0)
        ·
          refine zz9 ?_;refine bG 26 rfl (fun h26=>?_) (fun h26=>?_)
          ·
            refine zz25 ?_;refine uAe ?_;rintro _ K _ ⟨rfl,rfl⟩ -;refine zz4 ?_
            first
              | (have eN : numN s a = fE (dA s a) * 1024 * 1024 := gCN
                 have eA:numA s a=a+(dA s a).length+1:=gB4;refine uAa ?_;refine bU () trivial (.cons 0 rfl (.cons 2 gCJ .nil)) rfl gB0)
              | (have eN : numN s a = fE (dA s a) * 1024 := gCG
                 have eA:numA s a=a+(dA s a).length+1:=gB4;refine uAa ?_;refine bU () trivial (.cons 0 rfl (.cons 2 gCJ .nil)) rfl gB0)
              | (have eN : numN s a = fE (dA s a) := gCH
                 have eA:numA s a=a+(dA s a).length:=gCP;refine uAa ?_;refine bU () trivial (.cons 0 rfl (.cons 2 gCJ .nil)) rfl gB0)
          ·
            refine zz5 ?_;refine bG 26 rfl (fun h26=>?_) (fun h26=>?_)
            ·
              refine zz22 ?_;refine uAe ?_;rintro _ K _ ⟨rfl,rfl⟩ -;refine zz4 ?_
              first
                | (have eN : numN s a = fE (dA s a) * 1024 * 1024 := gCN
                   have eA:numA s a=a+(dA s a).length+1:=gB4;refine uAa ?_;refine bU () trivial (.cons 0 rfl (.cons 2 gCJ .nil)) rfl gB0)
                | (have eN : numN s a = fE (dA s a) * 1024 := gCG
                   have eA:numA s a=a+(dA s a).length+1:=gB4;refine uAa ?_;refine bU () trivial (.cons 0 rfl (.cons 2 gCJ .nil)) rfl gB0)
                | (have eN : numN s a = fE (dA s a) := gCH
                   have eA:numA s a=a+(dA s a).length:=gCP;refine uAa ?_;refine bU () trivial (.cons 0 rfl (.cons 2 gCJ .nil)) rfl gB0)
            ·
              refine zz8 ?_
              first
                | (have eN : numN s a = fE (dA s a) * 1024 * 1024 := gCN
                   have eA:numA s a=a+(dA s a).length+1:=gB4;refine uAa ?_;refine bU () trivial (.cons 0 rfl (.cons 2 gCJ .nil)) rfl gB0)
                | (have eN : numN s a = fE (dA s a) * 1024 := gCG
                   have eA:numA s a=a+(dA s a).length+1:=gB4;refine uAa ?_;refine bU () trivial (.cons 0 rfl (.cons 2 gCJ .nil)) rfl gB0)
                | (have eN : numN s a = fE (dA s a) := gCH
                   have eA:numA s a=a+(dA s a).length:=gCP;refine uAa ?_;refine bU () trivial (.cons 0 rfl (.cons 2 gCJ .nil)) rfl gB0)
    ·
      intro _ _;have hnA:numA s a≤s.length:=aL8 s a ha;refine zz4 ?_;refine aY rfl rfl (kE b T s (numA s a) 0 wk ws wn (i64 wat) rest hs aH aH _) (.cons .here .nil) rfl ?_;rintro _ K _ ⟨rfl,rfl,rfl⟩ -;refine cE rfl rfl (o8 ((s[numA s a]?).getD 0) _) rfl ?_;refine zz2 ?_;refine d8 42 rfl (fun h42=>?_) (fun h42=>?_)
      ·
        refine zz6 ?_;refine aX rfl rfl (eL 2 wat _) .nil rfl gBM ?_ ?_
        ·
          rintro _ _ _ ⟨fb,h,rfl⟩ le1;cases h
          refine uAa ?_;refine zz2 ?_;unfold pP;rw[if_pos h42];exact⟨fb,rfl,rfl⟩
        ·
          rintro _ _ _ ⟨_,h,_⟩;cases h
      ·
        refine zz9 ?_;refine bG 50 rfl (fun h50=>?_) (fun h50=>?_)
        ·
          refine zz6 ?_;refine aX rfl rfl (eL 3 wat _) .nil rfl gBM ?_ ?_
          ·
            rintro _ _ _ ⟨fb,h,rfl⟩ le1;cases h
            refine uAa ?_;refine zz2 ?_;unfold pP;rw[if_neg (by simp[h42]),if_pos h50];exact⟨fb,rfl,rfl⟩
          ·
            rintro _ _ _ ⟨_,h,_⟩;cases h
        ·
          refine zz9 ?_;refine uAv ?_;rintro _ K _ ⟨rfl,rfl⟩ -;refine zz3 ?_;refine bR (bL ts3 rfl rfl cK bB (.succ (.succ (.succ (.succ .zero)))) rfl) ?_;rintro _ K _ ⟨rfl,rfl⟩ -;refine zz2 ?_;unfold pP;rw[if_neg (by simp[h42]),if_neg aH];exact⟨_,rfl,rfl,rfl,rfl⟩
end Go.Proofs
end
section
attribute [local irreducible] Go.SL.T Go.SL.OL Go.SL.D Go.SL.DL Go.SL.Ev Go.SL.Ef Go.SL.EfS
namespace Go.Proofs
open Go Go.SL
theorem rI:unsB Tryz.prog 132 2=true:=by kernel_rfl
theorem aCP:Tryz.prog.cellsOf 5=1:=by kernel_rfl
abbrev vA(b:Nat)(q:Bool)(v:Value):Asn:=pt b (aU [if q then ptr b else .pointer none,v] 132)
abbrev bldr(b:Nat)(xs:List UInt8):Asn:=exA fun v:Value=>[exA fun q:Bool=>[vA b q v],sl true (elB 5) v xs]
theorem aQH(b:Nat):∀h,pt b (aU [.pointer none,.slice none 0 0] 132) h→Sat [bldr b []] h:=by
 intro h hh;refine lB.2 ⟨.slice none 0 0,lB.2 ⟨false,h,.emp,hh,⟨.emp,.emp,.inl ⟨rfl,rfl,rfl⟩,rfl,Hl.dj_emp _,(Hl.join_emp _).symm⟩,Hl.dj_emp _,(Hl.join_emp _).symm⟩⟩
theorem wY(b:Nat)(v:Value)(xs:List UInt8):∀h,Sat [vA b true v,sl true (elB 5) v xs] h→Sat [bldr b xs] h:=by
 intro h hh;exact lB.2 ⟨v,lB.2 ⟨true,hh⟩⟩
theorem aCJ(b:Nat):∀h,pt b (aU [.pointer none,.slice none 0 0] 132) h→bldr b [] h:=by
 intro h hh;obtain⟨a,l,ha,hl,hd,he⟩:=aQH b h hh;rw[he,show l=.emp from hl,Hl.join_emp];exact ha
theorem iF{A B:Asn}{M:List Asn}(k:∀h,A h→B h):∀h,Sat (A::M) h→Sat (B::M) h:=fun h ⟨a,l,ha,hl,hd,he⟩=>⟨a,l,k a ha,hl,hd,he⟩
theorem lU(b:Nat)(q:Bool)(v:Value)(K:Hl):Sp Tryz.prog 196 [ptr b] K [vA b q v] (Ret fun u K' L'=>u=.tuple #[]∧K'=K∧L'=[vA b true v]):=by
 cases q with
 |true=>
  refine aZ Tryz.func196 rfl Tryz.ntmps196 rfl rfl fun F w=>?_
  refine zz17 ?_;refine aA (yN Tryz.underlying129 rI rfl rfl) rfl ?_;refine zz5 ?_;exact⟨_,rfl,rfl,rfl,rfl⟩
 |false=>
  refine aZ Tryz.func196 rfl Tryz.ntmps196 rfl rfl fun F w=>?_
  refine zz13 ?_;refine aA (aG5 Tryz.underlying129 Tryz.underlying185 rfl (.own .here) rI) rfl ?_;refine aA (kL rfl rfl Tryz.func272 b0 b0 b0 (ex:=Extern.AbiNoEscape.same) b0 (fun _ _=>rfl)) rfl ?_;refine aA (aCB Tryz.underlying185 Tryz.underlying129 rfl (.own .here) rI) rfl ?_;refine zz2 ?_;refine bR (bL y4 rfl rfl cK bB .zero rfl) ?_;rintro _ K _ ⟨rfl,rfl⟩ -;refine zz2 ?_;exact⟨_,rfl,rfl,rfl,rfl⟩
theorem iY(b:Nat)(c:UInt8)(xs:List UInt8)(hn:xs.length≤140737488351232)(K:Hl):Sp Tryz.prog 268 [ptr b,.int .u8 c.toNat] K [bldr b xs] (Ret fun u K' L'=>u=.nilIface∧K'=K∧L'=[bldr b (xs++[c])]):=by
 refine aZ Tryz.func268 rfl Tryz.ntmps268 rfl rfl fun F w=>?_
 refine t_ex fun v=>t_ex fun q=>?_
 refine zz8 ?_;refine aY rfl rfl (lU b q v _) (.cons .here .nil) rfl ?_;rintro _ K _ ⟨rfl,rfl,rfl⟩ -;refine zz10 ?_;refine ol_s (a6 (z0:=[.int .u8 0]) jQ tz5 rfl rfl rfl rfl (.cons rfl rfl rfl (.cons .nil) .nil)) rfl ?_;rintro _ K _ ⟨b13,rfl,rfl,rfl⟩ -;refine ol_s (dT (k:=(elB 5)) (ys:=[c]) nG rfl rfl bB (fun w j=>dK Tryz.underlying130 (SeesSl.at (.blk (.own .here) rfl rfl) j)) gBQ gBQ) rfl ?_;rintro v14 K _ ⟨rfl,rfl,ho14⟩ -;refine zz2 ?_;refine uBa ?_;rintro _ K _ ⟨rfl,rfl⟩ -;refine zz8 ?_;refine uAd ?_;refine eD (wY b v14 (xs++[c])) ?_;refine zz1 ?_;exact⟨_,rfl,rfl,rfl,rfl⟩
theorem kH(b:Nat)(s:List UInt8)(xs:List UInt8)(hn:xs.length+s.length≤140737488351232)(K:Hl):Sp Tryz.prog 109 [ptr b,str s] K [bldr b xs] (Ret fun u K' L'=>u=.tuple #[i64 s.length,.nilIface]∧K'=K∧L'=[bldr b (xs++s)]):=by
 refine aZ Tryz.func109 rfl Tryz.ntmps109 rfl rfl fun F w=>?_
 refine t_ex fun v=>t_ex fun q=>?_
 refine zz9 ?_;refine aY rfl rfl (lU b q v _) (.cons .here .nil) rfl ?_;rintro _ K _ ⟨rfl,rfl,rfl⟩ -;refine zz10 ?_;refine ol_s (dT (k:=(elB 5)) (ys:=s) nG rfl rfl bB (fun _ _=>u1 Tryz.underlying9) aH aH) rfl ?_;rintro v14 K _ ⟨rfl,rfl,ho14⟩ -;refine zz2 ?_;refine uBa ?_;rintro _ K _ ⟨rfl,rfl⟩ -;refine zz11 ?_;refine uAl ?_;refine eD (wY b v14 (xs++s)) ?_;refine kK rfl rfl rfl (Hl.le_refl _) ?_;exact⟨_,rfl,rfl,rfl,rfl⟩
theorem nQ(b:Nat)(xs:List UInt8)(hn:xs.length≤140737488351232)(K:Hl):Sp Tryz.prog 63 [ptr b] K [bldr b xs] (Ret fun u K' L'=>u=str xs∧K'=K∧L'=[]):=by
 refine aZ Tryz.func63 rfl Tryz.ntmps63 rfl rfl fun F w=>?_
 refine t_ex fun v=>t_ex fun q=>?_
 refine zz6 ?_;refine t_draw (anc:=[0,1,3,7,15,0,32,96,224,480,1023,2047]) (ord:=[0,1,2,3,4,5,6,7,8,9,10,11]) [10] [10] mixed gBO (cX _) ?_;refine zz4 ?_;refine dl_ev rfl rfl (.none rfl) rfl rfl (vR (e:=5) rfl (.there .here)) rfl ?_;refine zz4 ?_;refine dl_ev rfl rfl (.none rfl) rfl rfl (bX (k:=(elB 5)) rfl Tryz.underlying130 rfl aN) rfl ?_;refine dl_g rfl rfl (.none rfl) rfl (sK (e:=5) rfl Tryz.underlying227 aCP aH rfl rfl (.there .here)) rfl ?_;rintro _ K _ ⟨rfl,rfl,rfl⟩ -;refine zz4 ?_;refine uAw ?_;refine zz1 ?_;exact⟨_,rfl,rfl,rfl,rfl⟩
end Go.Proofs
end
section
attribute [local irreducible] Go.SL.T Go.SL.OL Go.SL.D Go.SL.DL Go.SL.Ev Go.SL.Ef Go.SL.EfS
namespace Go.Proofs
open Go Go.SL Go.Syn
theorem aH5(b:Nat)(T:TypeId)(s:List UInt8)(a:Nat)(wk ws wn:Value)(wat:Int)(rest:List Value)(hs:s.length≤600)(ha:a < s.length)(K:Hl):
  Sp Tryz.prog 182 [ptr b] K [lxb b T s a wk ws wn (i64 wat) rest]
   (f6 (Syn.quoted s a wat) fun r v K' L'=>v=.tuple #[]∧K'=K∧L'=[lxb b T s r.1 (.int .u8 3) (str r.2) wn (i64 wat) rest]):=by
 refine aZ Tryz.func182 rfl Tryz.ntmps182 rfl rfl fun F w=>?_
 refine zz3 ?_;rintro _ K _ ⟨b2,rfl,rfl,rfl⟩ -;refine zz12 ?_;refine uAe ?_;rintro _ K _ ⟨rfl,rfl⟩ -;refine zz3 ?_;refine zN (fun(i:Nat) (acc:List UInt8)=>a+1≤i∧i≤s.length∧acc.length≤i∧∃f,s.length+2≤i+(f+1)∧Syn.quoted s a wat=fG s wat (f+1) i acc) (fun i acc=>[(0,ptr b),(2,ptr b2)]) (fun _ _=>K) (fun i acc=>[bldr b2 acc,lxb b T s i wk ws wn (i64 wat) rest]) (fun i acc=>s.length - i) (a+1) [] ⟨by omega,by omega,by simp,s.length - a,by omega,by unfold Syn.quoted;congr 1;omega⟩ (.cons 0 rfl (.cons 2 rfl .nil)) rfl (iF (aCJ b2)) ?_;intro i acc ⟨hi1,hi2,hi3,f,hi4,hi5⟩;refine zz5 ?_;refine aY rfl rfl (kE b T s i 0 wk ws wn (i64 wat) rest hs aH aH _) (.cons (.there .here) .nil) rfl ?_;rintro _ K _ ⟨rfl,rfl,rfl⟩ -;rw[Nat.add_zero];have hz:i < s.length∨((s[i]?).getD 0).toNat=0:=(by by_cases h:i < s.length;exact .inl h;right;rw[List.getElem?_eq_none aH];rfl);refine zz5 ?_;refine t_draw (anc:=[0,1,3,7,0,16,48,112,240,511,1023,2047,4095,8191]) (ord:=[0,1,2,3,4,5,6,7,8,9,10,11,12,13]) [] [] mixed gBO (cX _) ?_;refine zz11 ?_;refine dl_splitp 30 rfl (fun g30=>?_) (fun g30=>?_)
 ·
  refine zz5 ?_;refine bG 33 rfl (fun h33=>?_) (fun h33=>?_)
  ·
   refine zz16 ?_;refine uAe ?_;rintro _ K _ ⟨rfl,rfl⟩ -;refine zz5 ?_;refine aY rfl rfl (nQ b2 acc aH _) (.cons (.there .here) .nil) rfl ?_;rintro _ K _ ⟨rfl,rfl,rfl⟩ -;refine zz3 ?_;refine uAv ?_;rintro _ K _ ⟨rfl,rfl⟩ -;refine zz3 ?_;refine uAy ?_;rintro _ K _ ⟨rfl,rfl⟩ -;refine zz2 ?_;rw[hi5,yV aH aH];exact⟨_,rfl,rfl,rfl,rfl⟩
  ·
   refine zz9 ?_;refine bG 35 rfl (fun h35=>?_) (fun h35=>?_)
   ·
    refine zz9 ?_;refine uAe ?_;rintro _ K _ ⟨rfl,rfl⟩ -;refine zz4 ?_;refine aY rfl rfl (kE b T s (i+1) 0 wk ws wn (i64 wat) rest hs aH aH _) (.cons .here .nil) rfl ?_;rintro _ K _ ⟨rfl,rfl,rfl⟩ -;rw[Nat.add_zero];refine zz5 ?_;refine t_draw (anc:=[0,1,3,7,0,16,48,112,240,511]) (ord:=[0,1,2,3,4,5,6,7,8,9]) [] [] mixed gBO (cX _) ?_;refine zz12 ?_;refine bG 54 rfl (fun h54=>?_) (fun h54=>?_)
    ·
     refine zz6 ?_;refine aX rfl rfl (eL 2 wat _) .nil rfl gBM ?_ ?_
     ·
      rintro _ _ _ ⟨fb,h,rfl⟩ le1;cases h
      refine uAa ?_;refine zz7 ?_
      first
       |rw[hi5,m5 aH aH aH]
       |rw[hi5,nS aH aH aH]
      exact⟨fb,rfl,rfl⟩
     ·
      rintro _ _ _ ⟨_,h,_⟩;cases h
    ·
     refine zz4 ?_;refine aY rfl rfl (iY b2 _ acc aH _) (.cons (.there .here) .nil) rfl ?_;rintro _ K _ ⟨rfl,rfl,rfl⟩ -;refine zz11 ?_;refine uAe ?_;rintro _ K _ ⟨rfl,rfl⟩ -;refine aF ?_;obtain⟨f0,rfl⟩:∃f0,f=f0+1:=⟨f - 1,by omega⟩
     first
      |refine dQ (i+1) (acc++[(s[i]?).getD 0]) ⟨by omega,by omega,by simp;omega,f0,by omega,by rw[hi5,l5 aH aH aH]⟩ aH (.cons 0 rfl (.cons 2 rfl .nil)) rfl (fun _ h=>h)
      |refine dQ (i+2) (acc++[(s[i+1]?).getD 0]) ⟨by omega,by omega,by simp;omega,f0,by omega,by rw[hi5,nC aH aH aH]⟩ aH (.cons 0 rfl (.cons 2 rfl .nil)) rfl (fun _ h=>h)
   ·
    refine zz4 ?_;refine t_draw (anc:=[0,1,3,7,0,16,48,112,240,511]) (ord:=[0,1,2,3,4,5,6,7,8,9]) [] [] mixed gBO (cX _) ?_;refine zz12 ?_;refine bG 54 rfl (fun h54=>?_) (fun h54=>?_)
    ·
     refine zz6 ?_;refine aX rfl rfl (eL 2 wat _) .nil rfl gBM ?_ ?_
     ·
      rintro _ _ _ ⟨fb,h,rfl⟩ le1;cases h
      refine uAa ?_;refine zz7 ?_
      first
       |rw[hi5,m5 aH aH aH]
       |rw[hi5,nS aH aH aH]
      exact⟨fb,rfl,rfl⟩
     ·
      rintro _ _ _ ⟨_,h,_⟩;cases h
    ·
     refine zz4 ?_;refine aY rfl rfl (iY b2 _ acc aH _) (.cons (.there .here) .nil) rfl ?_;rintro _ K _ ⟨rfl,rfl,rfl⟩ -;refine zz11 ?_;refine uAe ?_;rintro _ K _ ⟨rfl,rfl⟩ -;refine aF ?_;obtain⟨f0,rfl⟩:∃f0,f=f0+1:=⟨f - 1,by omega⟩
     first
      |refine dQ (i+1) (acc++[(s[i]?).getD 0]) ⟨by omega,by omega,by simp;omega,f0,by omega,by rw[hi5,l5 aH aH aH]⟩ aH (.cons 0 rfl (.cons 2 rfl .nil)) rfl (fun _ h=>h)
      |refine dQ (i+2) (acc++[(s[i+1]?).getD 0]) ⟨by omega,by omega,by simp;omega,f0,by omega,by rw[hi5,nC aH aH aH]⟩ aH (.cons 0 rfl (.cons 2 rfl .nil)) rfl (fun _ h=>h)
 ·
  refine zz15 ?_;refine bG 35 rfl (fun h35=>?_) (fun h35=>?_)
  ·
   refine zz9 ?_;refine uAe ?_;rintro _ K _ ⟨rfl,rfl⟩ -;refine zz4 ?_;refine aY rfl rfl (kE b T s (i+1) 0 wk ws wn (i64 wat) rest hs aH aH _) (.cons .here .nil) rfl ?_;rintro _ K _ ⟨rfl,rfl,rfl⟩ -;rw[Nat.add_zero];refine zz5 ?_;refine t_draw (anc:=[0,1,3,7,0,16,48,112,240,511]) (ord:=[0,1,2,3,4,5,6,7,8,9]) [] [] mixed gBO (cX _) ?_;refine zz12 ?_;refine bG 54 rfl (fun h54=>?_) (fun h54=>?_)
   ·
    refine zz6 ?_;refine aX rfl rfl (eL 2 wat _) .nil rfl gBM ?_ ?_
    ·
     rintro _ _ _ ⟨fb,h,rfl⟩ le1;cases h
     refine uAa ?_;refine zz7 ?_
     first
      |rw[hi5,m5 aH aH aH]
      |rw[hi5,nS aH aH aH]
     exact⟨fb,rfl,rfl⟩
    ·
     rintro _ _ _ ⟨_,h,_⟩;cases h
   ·
    refine zz4 ?_;refine aY rfl rfl (iY b2 _ acc aH _) (.cons (.there .here) .nil) rfl ?_;rintro _ K _ ⟨rfl,rfl,rfl⟩ -;refine zz11 ?_;refine uAe ?_;rintro _ K _ ⟨rfl,rfl⟩ -;refine aF ?_;obtain⟨f0,rfl⟩:∃f0,f=f0+1:=⟨f - 1,by omega⟩
    first
     |refine dQ (i+1) (acc++[(s[i]?).getD 0]) ⟨by omega,by omega,by simp;omega,f0,by omega,by rw[hi5,l5 aH aH aH]⟩ aH (.cons 0 rfl (.cons 2 rfl .nil)) rfl (fun _ h=>h)
     |refine dQ (i+2) (acc++[(s[i+1]?).getD 0]) ⟨by omega,by omega,by simp;omega,f0,by omega,by rw[hi5,nC aH aH aH]⟩ aH (.cons 0 rfl (.cons 2 rfl .nil)) rfl (fun _ h=>h)
  ·
   refine zz4 ?_;refine t_draw (anc:=[0,1,3,7,0,16,48,112,240,511]) (ord:=[0,1,2,3,4,5,6,7,8,9]) [] [] mixed gBO (cX _) ?_;refine zz12 ?_;refine bG 54 rfl (fun h54=>?_) (fun h54=>?_)
   ·
    refine zz6 ?_;refine aX rfl rfl (eL 2 wat _) .nil rfl gBM ?_ ?_
    ·
     rintro _ _ _ ⟨fb,h,rfl⟩ le1;cases h
     refine uAa ?_;refine zz7 ?_
     first
      |rw[hi5,m5 aH aH aH]
      |rw[hi5,nS aH aH aH]
     exact⟨fb,rfl,rfl⟩
    ·
     rintro _ _ _ ⟨_,h,_⟩;cases h
   ·
    refine zz4 ?_;refine aY rfl rfl (iY b2 _ acc aH _) (.cons (.there .here) .nil) rfl ?_;rintro _ K _ ⟨rfl,rfl,rfl⟩ -;refine zz11 ?_;refine uAe ?_;rintro _ K _ ⟨rfl,rfl⟩ -;refine aF ?_;obtain⟨f0,rfl⟩:∃f0,f=f0+1:=⟨f - 1,by omega⟩
    first
     |refine dQ (i+1) (acc++[(s[i]?).getD 0]) ⟨by omega,by omega,by simp;omega,f0,by omega,by rw[hi5,l5 aH aH aH]⟩ aH (.cons 0 rfl (.cons 2 rfl .nil)) rfl (fun _ h=>h)
     |refine dQ (i+2) (acc++[(s[i+1]?).getD 0]) ⟨by omega,by omega,by simp;omega,f0,by omega,by rw[hi5,nC aH aH aH]⟩ aH (.cons 0 rfl (.cons 2 rfl .nil)) rfl (fun _ h=>h)
end Go.Proofs
end
section
attribute [local irreducible] Go.SL.T Go.SL.OL Go.SL.D Go.SL.DL Go.SL.Ev Go.SL.Ef Go.SL.EfS
namespace Go.Proofs
open Go Go.SL Go.Syn
theorem iO{α:Type}(p:α→Bool)(s:List α)(i:Nat)(h:i≤s.length):i+((s.drop i).takeWhile p).length≤s.length:=by
 have:=(List.takeWhile_sublist p (l:=s.drop i)).length_le;simp only[List.length_drop]at this;omega
theorem aTR(s:List UInt8):∀(f i j:Nat),i≤s.length→jH s f i=.ok j→i≤j∧j≤s.length:=by
 intro f;induction f with
 |zero=>intro i j hi h;simp only[jH]at h;cases h;exact⟨Nat.le_refl _,hi⟩
 |succ f ih=>
  intro i j hi h;simp only[jH]at h;split at h
  ·cases h;exact⟨Nat.le_refl _,hi⟩
  ·rename_i c hc;have hlt:i < s.length:=by
    rcases Nat.lt_or_ge i s.length with h'|h'
    ·exact h'
    ·simp[List.getElem?_eq_none h']at hc
   split at h
   ·have:=ih _ _ aH h;omega
   ·split at h
    ·have:=iO (fun c:UInt8=>decide (¬c.toNat=10)) s i hi;have:=ih _ _ aH h;omega
    ·split at h
     ·split at h
      ·cases h;exact⟨Nat.le_refl _,hi⟩
      ·split at h
       ·cases h
       ·rename_i hx;have hix:=sA (s.drop (min (i+2) s.length)) [42,47];simp only[List.length_drop,List.length_cons,List.length_nil]at hix;have:=ih _ _ aH h;omega
     ·cases h;exact⟨Nat.le_refl _,hi⟩
theorem zK{s:List UInt8}{a a1:Nat}(ha:a≤s.length)(h:skip s a=.ok a1):a≤a1∧a1≤s.length:=aTR s _ _ _ ha h
abbrev lxw(b:Nat)(T:TypeId)(s:List UInt8)(a:Nat)(w:Word)(rest:List Value):Asn:=lxb b T s a (.int .u8 w.kind) (str w.s) (i64 w.n) (i64 w.at_) rest
theorem dJ(b:Nat)(T:TypeId)(s:List UInt8)(a:Nat)(wk ws wn wa:Value)(rest:List Value)(hs:s.length≤600)(ha:a≤s.length)(K:Hl)(hg:Glob K):
    Sp Tryz.prog 101 [ptr b] K [lxb b T s a wk ws wn wa rest]
      (f6 (Syn.next s a) fun r v K' L'=>v=.tuple #[]∧K'=K∧L'=[lxw b T s r.1 r.2 rest]):=by
  refine aZ Tryz.func101 rfl Tryz.ntmps101 rfl rfl fun F w=>?_
  refine zz3 ?_;refine aX rfl rfl (aPL b T s a wk ws wn wa rest hs ha _ hg) (.cons .here .nil) rfl (fun _ _=>a7 _ _) ?_ ?_
  ·
    rintro _ _ _ hT le1;obtain⟨e,p,hr,fb,h,rfl⟩:=a8 hT;cases h
    refine uAa ?_;refine zz2 ?_;have hn:Syn.next s a=.error (e,p):=(by unfold Syn.next;rw[hr]);rw[hn];exact⟨fb,rfl,rfl⟩
  rintro _ K _ hT -;obtain⟨a1,hr0,rfl,rfl,rfl⟩:=bA hT;have ha1:=(zK ha hr0).2;refine zz9 ?_;refine aA (cR aMF aF5 (.cons rfl rfl rfl (.skip (.skip (.skip (.cons .nil)))) .nil)) rfl ?_;refine zz2 ?_;refine bR (cM nU rfl rfl rfl bB gBK (.skip (.skip (.cons (.cons (.cons (.cons .nil)))))) gBU) ?_;rintro _ K _ ⟨rfl,rfl⟩ -;refine zz4 ?_;refine t_draw (anc:=[0,1,3,7,0,16,48,112,240,511]) (ord:=[0,1,2,3,4,5,6,7,8,9]) [] [] mixed gBO (cX _) ?_;refine zz12 ?_;refine bG 22 rfl (fun h22=>?_) (fun h22=>?_)
  ·
    have hn:Syn.next s a=.ok (a1,⟨0,[],0,a1⟩):=(by simp only[Syn.next,hr0];rw[List.getElem?_eq_none aH]);refine zz2 ?_;refine qR rfl (Hl.le_refl _) ?_;rw[hn];exact⟨_,rfl,rfl,rfl,rfl⟩
  ·
    obtain⟨c,hc⟩:∃c,s[a1]?=some c:=⟨s[a1]'(by omega),List.getElem?_eq_getElem aH⟩;have hn:Syn.next s a=kI s a1 c:=(by simp only[Syn.next,hr0,hc]);have hp0:((s[a1+0]?).getD 0)=c:=by rw[Nat.add_zero,hc];rfl
    refine zz5 ?_;refine aY rfl rfl (kE b T s a1 0 _ _ _ _ rest hs aH aH _) (.cons .here .nil) rfl ?_;rintro _ K _ ⟨rfl,rfl,rfl⟩ -;rw[hp0];refine zz9 ?_;refine gG (fun(_:Unit)=>True) (fun _=>[(0,ptr b),(2,.int .u8 c.toNat),(25,.int .u8 c.toNat),(50,.bool (cP c))]) (fun _=>K) (fun _=>[lxb b T s a1 (.int .u8 0) (str []) (i64 0) (i64 a1) rest]) ?_ ?_
    ·
      refine zz6 ?_;refine bG 50 rfl (fun h50=>?_) (fun h50=>?_)
      ·
        refine aW ?_
        first
          | (have hb : cP c = decide ((c.toNat : Int) = 93) := gB2
             exact bU () trivial (.cons 0 rfl (.cons 2 rfl (.cons 25 rfl (.cons 50 gB8 .nil)))) rfl (fun _ h=>h))
          | (have hb : cP c = true := gBZ
             exact bU () trivial (.cons 0 rfl (.cons 2 rfl (.cons 25 rfl (.cons 50 gB8 .nil)))) rfl (fun _ h=>h))
          | (have hb : cP c = false := gBY
             exact bU () trivial (.cons 0 rfl (.cons 2 rfl (.cons 25 rfl (.cons 50 gB8 .nil)))) rfl (fun _ h=>h))
      ·
        refine zz6 ?_;refine bG 50 rfl (fun h50=>?_) (fun h50=>?_)
        ·
          refine aW ?_
          first
            | (have hb : cP c = decide ((c.toNat : Int) = 93) := gB2
               exact bU () trivial (.cons 0 rfl (.cons 2 rfl (.cons 25 rfl (.cons 50 gB8 .nil)))) rfl (fun _ h=>h))
            | (have hb : cP c = true := gBZ
               exact bU () trivial (.cons 0 rfl (.cons 2 rfl (.cons 25 rfl (.cons 50 gB8 .nil)))) rfl (fun _ h=>h))
            | (have hb : cP c = false := gBY
               exact bU () trivial (.cons 0 rfl (.cons 2 rfl (.cons 25 rfl (.cons 50 gB8 .nil)))) rfl (fun _ h=>h))
        ·
          refine zz6 ?_;refine bG 50 rfl (fun h50=>?_) (fun h50=>?_)
          ·
            refine aW ?_
            first
              | (have hb : cP c = decide ((c.toNat : Int) = 93) := gB2
                 exact bU () trivial (.cons 0 rfl (.cons 2 rfl (.cons 25 rfl (.cons 50 gB8 .nil)))) rfl (fun _ h=>h))
              | (have hb : cP c = true := gBZ
                 exact bU () trivial (.cons 0 rfl (.cons 2 rfl (.cons 25 rfl (.cons 50 gB8 .nil)))) rfl (fun _ h=>h))
              | (have hb : cP c = false := gBY
                 exact bU () trivial (.cons 0 rfl (.cons 2 rfl (.cons 25 rfl (.cons 50 gB8 .nil)))) rfl (fun _ h=>h))
          ·
            refine zz6 ?_;refine bG 50 rfl (fun h50=>?_) (fun h50=>?_)
            ·
              refine aW ?_
              first
                | (have hb : cP c = decide ((c.toNat : Int) = 93) := gB2
                   exact bU () trivial (.cons 0 rfl (.cons 2 rfl (.cons 25 rfl (.cons 50 gB8 .nil)))) rfl (fun _ h=>h))
                | (have hb : cP c = true := gBZ
                   exact bU () trivial (.cons 0 rfl (.cons 2 rfl (.cons 25 rfl (.cons 50 gB8 .nil)))) rfl (fun _ h=>h))
                | (have hb : cP c = false := gBY
                   exact bU () trivial (.cons 0 rfl (.cons 2 rfl (.cons 25 rfl (.cons 50 gB8 .nil)))) rfl (fun _ h=>h))
            ·
              refine zz6 ?_;refine bG 50 rfl (fun h50=>?_) (fun h50=>?_)
              ·
                refine aW ?_
                first
                  | (have hb : cP c = decide ((c.toNat : Int) = 93) := gB2
                     exact bU () trivial (.cons 0 rfl (.cons 2 rfl (.cons 25 rfl (.cons 50 gB8 .nil)))) rfl (fun _ h=>h))
                  | (have hb : cP c = true := gBZ
                     exact bU () trivial (.cons 0 rfl (.cons 2 rfl (.cons 25 rfl (.cons 50 gB8 .nil)))) rfl (fun _ h=>h))
                  | (have hb : cP c = false := gBY
                     exact bU () trivial (.cons 0 rfl (.cons 2 rfl (.cons 25 rfl (.cons 50 gB8 .nil)))) rfl (fun _ h=>h))
              ·
                refine zz6 ?_;refine bG 50 rfl (fun h50=>?_) (fun h50=>?_)
                ·
                  refine aW ?_
                  first
                    | (have hb : cP c = decide ((c.toNat : Int) = 93) := gB2
                       exact bU () trivial (.cons 0 rfl (.cons 2 rfl (.cons 25 rfl (.cons 50 gB8 .nil)))) rfl (fun _ h=>h))
                    | (have hb : cP c = true := gBZ
                       exact bU () trivial (.cons 0 rfl (.cons 2 rfl (.cons 25 rfl (.cons 50 gB8 .nil)))) rfl (fun _ h=>h))
                    | (have hb : cP c = false := gBY
                       exact bU () trivial (.cons 0 rfl (.cons 2 rfl (.cons 25 rfl (.cons 50 gB8 .nil)))) rfl (fun _ h=>h))
                ·
                  refine zz6 ?_;refine bG 50 rfl (fun h50=>?_) (fun h50=>?_)
                  ·
                    refine aW ?_
                    first
                      | (have hb : cP c = decide ((c.toNat : Int) = 93) := gB2
                         exact bU () trivial (.cons 0 rfl (.cons 2 rfl (.cons 25 rfl (.cons 50 gB8 .nil)))) rfl (fun _ h=>h))
                      | (have hb : cP c = true := gBZ
                         exact bU () trivial (.cons 0 rfl (.cons 2 rfl (.cons 25 rfl (.cons 50 gB8 .nil)))) rfl (fun _ h=>h))
                      | (have hb : cP c = false := gBY
                         exact bU () trivial (.cons 0 rfl (.cons 2 rfl (.cons 25 rfl (.cons 50 gB8 .nil)))) rfl (fun _ h=>h))
                  ·
                    refine zz4 ?_
                    first
                      | (have hb : cP c = decide ((c.toNat : Int) = 93) := gB2
                         exact bU () trivial (.cons 0 rfl (.cons 2 rfl (.cons 25 rfl (.cons 50 gB8 .nil)))) rfl (fun _ h=>h))
                      | (have hb : cP c = true := gBZ
                         exact bU () trivial (.cons 0 rfl (.cons 2 rfl (.cons 25 rfl (.cons 50 gB8 .nil)))) rfl (fun _ h=>h))
                      | (have hb : cP c = false := gBY
                         exact bU () trivial (.cons 0 rfl (.cons 2 rfl (.cons 25 rfl (.cons 50 gB8 .nil)))) rfl (fun _ h=>h))
    ·
      intro _ _;refine d8 50 rfl (fun h50=>?_) (fun h50=>?_)
      ·
        refine zz5 ?_;have hc128:=aWD h50;refine aA (aEW Tryz.underlying5 Tryz.underlying9 rfl gBR) rfl ?_;refine zz3 ?_;refine uAv ?_;rintro _ K _ ⟨rfl,rfl⟩ -;refine zz3 ?_;refine uAy ?_;rintro _ K _ ⟨rfl,rfl⟩ -;refine zz10 ?_;refine uAe ?_;rintro _ K _ ⟨rfl,rfl⟩ -;refine zz3 ?_;rw[hn];unfold kI;rw[if_pos h50];exact⟨_,rfl,rfl,rfl,rfl⟩
      ·
        refine zz6 ?_;refine bG 76 rfl (fun h76=>?_) (fun h76=>?_)
        ·
          refine zz2 ?_;refine aX rfl rfl (aH5 b T s a1 _ _ _ a1 rest hs aH _) (.cons .here .nil) rfl (fun _ _=>a7 _ _) ?_ ?_
          ·
            rintro _ _ _ hT2 le1;obtain⟨e,p,hr,fb,h,rfl⟩:=a8 hT2;cases h
            refine uAa ?_;refine zz2 ?_;rw[hn];unfold kI;rw[if_neg (by simp[h50]),if_pos aH,hr];exact⟨fb,rfl,rfl⟩
          rintro _ K _ hT2 -;obtain⟨r,hr,rfl,rfl,rfl⟩:=bA hT2;refine zz3 ?_;rw[hn];unfold kI;rw[if_neg (by simp[h50]),if_pos aH,hr];exact⟨_,rfl,rfl,rfl,rfl⟩
        ·
          refine zz6 ?_;refine bG 80 rfl (fun h80=>?_) (fun h80=>?_)
          ·
            refine zz4 ?_;refine aY rfl rfl (kE b T s a1 1 _ _ _ _ rest hs aH aH _) (.cons .here .nil) rfl ?_;rintro _ K _ ⟨rfl,rfl,rfl⟩ -;refine cE rfl rfl (pO _ _) rfl ?_;refine aA gBN rfl ?_;refine zz2 ?_;refine d8 85 rfl (fun h85=>?_) (fun h85=>?_)
            ·
              refine zz5 ?_;refine aX rfl rfl (eL 2 a1 _) .nil rfl gBM ?_ ?_
              ·
                rintro _ _ _ ⟨fb,h,rfl⟩ le1;cases h
                refine uAa ?_;refine zz3 ?_;rw[hn];unfold kI;rw[if_neg (by simp[h50]),if_neg aH,if_pos aH,if_neg (by simpa using h85)];exact⟨fb,rfl,rfl⟩
              ·
                rintro _ _ _ ⟨_,h,_⟩;cases h
            ·
              refine zz11 ?_;refine uAe ?_;rintro _ K _ ⟨rfl,rfl⟩ -;refine zz8 ?_;refine uAv ?_;rintro _ K _ ⟨rfl,rfl⟩ -;refine zz5 ?_;refine aY rfl rfl (rJ b T s (a1+1) _ _ _ _ rest 187 dI hs aH _ (fun c=>o8 c _)) (.cons .here .nil) rfl ?_;rintro _ K _ ⟨rfl,rfl,rfl⟩ -;have hwl:=iO dI s (a1+1) aH;refine cE rfl rfl (fX _ _ aH) rfl ?_;refine zz3 ?_;refine uAy ?_;rintro _ K _ ⟨rfl,rfl⟩ -;refine zz3 ?_;rw[hn];unfold kI;rw[if_neg (by simp[h50]),if_neg aH,if_pos aH,if_pos (by simpa using h85)];exact⟨_,rfl,rfl,rfl,rfl⟩
          ·
            refine zz4 ?_;refine cE rfl rfl (pO c _) rfl ?_;refine zz3 ?_;refine d8 31 rfl (fun h31=>?_) (fun h31=>?_)
            ·
              refine zz4 ?_;refine aY rfl rfl (rJ b T s a1 _ _ _ _ rest 187 dI hs aH _ (fun c=>o8 c _)) (.cons .here .nil) rfl ?_;rintro _ K _ ⟨rfl,rfl,rfl⟩ -;have hwl:=iO dI s a1 aH;refine cE rfl rfl (fX _ _ aH) rfl ?_;refine zz3 ?_;refine uAv ?_;rintro _ K _ ⟨rfl,rfl⟩ -;refine zz3 ?_;refine uAy ?_;rintro _ K _ ⟨rfl,rfl⟩ -;refine zz4 ?_;rw[hn];unfold kI;rw[if_neg (by simp[h50]),if_neg aH,if_neg aH,if_pos h31];exact⟨_,rfl,rfl,rfl,rfl⟩
            ·
              refine zz3 ?_;refine cE rfl rfl (nR c _) rfl ?_;refine zz3 ?_;refine d8 45 rfl (fun h45=>?_) (fun h45=>?_)
              ·
                refine zz2 ?_;refine aX rfl rfl (aHW b T s a1 _ _ _ a1 rest hs aH _) (.cons .here .nil) rfl (fun _ _=>a7 _ _) ?_ ?_
                ·
                  rintro _ _ _ hT2 le1;obtain⟨e,p,hr,fb,h,rfl⟩:=a8 hT2;cases h
                  refine uAa ?_;refine zz3 ?_;rw[hn];unfold kI;rw[if_neg (by simp[h50]),if_neg aH,if_neg aH,if_neg (by simp[h31]),if_pos h45,hr];exact⟨fb,rfl,rfl⟩
                rintro _ K _ hT2 -;obtain⟨r,hr,rfl,rfl,rfl⟩:=bA hT2;refine zz4 ?_;rw[hn];unfold kI;rw[if_neg (by simp[h50]),if_neg aH,if_neg aH,if_neg (by simp[h31]),if_pos h45,hr];exact⟨_,rfl,rfl,rfl,rfl⟩
              ·
                refine zz5 ?_;refine aX rfl rfl (eL 2 a1 _) .nil rfl gBM ?_ ?_
                ·
                  rintro _ _ _ ⟨fb,h,rfl⟩ le1;cases h
                  refine uAa ?_;refine zz3 ?_;rw[hn];unfold kI;rw[if_neg (by simp[h50]),if_neg aH,if_neg aH,if_neg (by simp[h31]),if_neg (by simp[h45])];exact⟨fb,rfl,rfl⟩
                ·
                  rintro _ _ _ ⟨_,h,_⟩;cases h
end Go.Proofs
end
section
namespace Go.Syn
open Go.Proofs
theorem aBF{s:aJ}{wat:Int}:∀(f i:Nat) (acc:aJ) (r:Nat×aJ),fG s wat f i acc=.ok r→i < r.1∧r.1≤s.length:=by
 intro f;induction f with
 |zero=>intro i acc r h;simp only[fG]at h;cases h
 |succ f ih=>
  intro i acc r h;simp only[fG]at h;split at h
  ·rename_i h1;cases h;exact⟨by simp,by simp;omega⟩
  ·split at h
   ·split at h
    ·cases h
    ·have:=ih _ _ _ h;omega
   ·split at h
    ·cases h
    ·have:=ih _ _ _ h;omega
theorem aJT{s:aJ}{a:Nat}{c:UInt8}(hc:s[a]?=some c)(h:dX c=true):0 < (dA s a).length:=by
 have hi:a < s.length:=by
  rcases Nat.lt_or_ge a s.length with h|h
  ·exact h
  ·simp[List.getElem?_eq_none h]at hc
 have e:s[a]=c:=by simpa[List.getElem?_eq_getElem hi]using hc
 unfold dA;rw[List.drop_eq_getElem_cons hi,e,List.takeWhile_cons,if_pos h];simp
theorem aUP{s:aJ}{a:Nat}{c:UInt8}(hc:s[a]?=some c)(h:dI c=true):0 < (kP s a).length:=by
 have hi:a < s.length:=by
  rcases Nat.lt_or_ge a s.length with h|h
  ·exact h
  ·simp[List.getElem?_eq_none h]at hc
 have e:s[a]=c:=by simpa[List.getElem?_eq_getElem hi]using hc
 unfold kP;rw[List.drop_eq_getElem_cons hi,e,List.takeWhile_cons,if_pos h];simp
theorem aOL{s:aJ}{a:Nat}{wat:Int}{r:Nat×Int}(ha:a≤s.length)(h:pP s a wat=.ok r):a+(dA s a).length≤r.1∧r.1≤s.length:=by
 unfold pP at h;split at h
 ·cases h
 ·split at h
  ·cases h
  ·cases h
   refine⟨?_,aL8 s a ha⟩
   show _≤numA s a
   unfold numA;split <;> omega
theorem rA{s:aJ}{a:Nat}{r:Nat×Word}(ha:a≤s.length)(h:next s a=.ok r):a≤r.1∧r.1≤s.length∧(r.2.kind≠0→a < r.1):=by
 unfold next at h;split at h
 ·cases h
 ·rename_i a1 hs;obtain⟨h1,h2⟩:=zK ha hs;split at h
  ·cases h;exact⟨h1,h2,fun h=>absurd rfl h⟩
  ·rename_i c hc;have hi:a1 < s.length:=by
    rcases Nat.lt_or_ge a1 s.length with h|h
    ·exact h
    ·simp[List.getElem?_eq_none h]at hc
   have key:a1 < r.1∧r.1≤s.length:=by
    unfold kI at h;split at h
    ·cases h;exact⟨by simp,by simp;omega⟩
    ·split at h
     ·split at h
      ·cases h
      ·rename_i q hq;cases h
       have:=aBF _ _ _ _ hq;exact⟨by show a1 < q.1;omega,this.2⟩
     ·split at h
      ·split at h
       ·cases h
        have:=iO dI s (a1+1) aH;exact⟨by show a1 < a1+1+_;omega,this⟩
       ·cases h
      ·split at h
       ·rename_i hl;cases h
        have:=iO dI s a1 aH;have hp:=aUP hc (show dI c=true by simp[dI,hl]);exact⟨by show a1 < a1+_;omega,this⟩
       ·split at h
        ·rename_i hd;split at h
         ·cases h
         ·rename_i q hq;cases h
          have:=aOL aH hq;have hp:=aJT hc hd;exact⟨by show a1 < q.1;omega,this.2⟩
        ·cases h
   exact⟨by omega,key.2,fun _=>by omega⟩
def wl(w:Word):Nat:=if w.kind=0 then 0 else if w.kind=1 then max 1 w.s.length else 1
def mu(s:aJ)(st:St):Nat:=(s.length - st.1)+min (wl st.2) (s.length+1)
theorem aFJ{s:aJ}{a:Nat}{r:St}(ha:a≤s.length)(h:next s a=.ok r):a+wl r.2≤r.1:=by
 have hl:=rA ha h;unfold wl;split
 ·omega
 ·rename_i h0;have h1:=hl.2.2 h0;split
  ·rename_i hk;unfold next at h;split at h
   ·cases h
   ·rename_i a1 hs;obtain⟨h2,h3⟩:=zK ha hs;split at h
    ·cases h;simp at hk
    ·rename_i c hc;unfold kI at h;split at h
     ·cases h;simp at hk
     ·split at h
      ·split at h
       ·cases h
       ·cases h;simp at hk
      ·split at h
       ·split at h
        ·cases h;simp at hk
        ·cases h
       ·split at h
        ·cases h
         have:(cN (kP s a1)).length=(kP s a1).length:=by simp[cN]
         simp only[]at h1 ⊢;omega
        ·split at h
         ·split at h
          ·cases h
          ·cases h;simp at hk
         ·cases h
  ·omega
theorem fC{s:aJ}{st r:St}(ha:st.1≤s.length)(hk:st.2.kind≠0)(h:next s st.1=.ok r):mu s r < mu s st∧r.1≤s.length:=by
 obtain⟨h1,h2,h3⟩:=rA ha h;have h4:=aFJ ha h;refine⟨?_,h2⟩
 have h5:1≤wl st.2:=by unfold wl;rw[if_neg hk];split <;> omega
 unfold mu;omega
theorem aFI{s:aJ}{st r:St}(ha:st.1≤s.length)(hs:st.2.s.length≤s.length)(hk:st.2.kind=1)(h:next s st.1=.ok r):mu s r+st.2.s.length≤mu s st:=by
 obtain⟨h1,h2,h3⟩:=rA ha h;have h4:=aFJ ha h;have h5:wl st.2=max 1 st.2.s.length:=by unfold wl;rw[if_neg aH,if_pos hk]
 unfold mu;omega
theorem aSD{s:aJ}{r:St}(h:next s 0=.ok r):mu s r≤s.length:=by
 have h4:=aFJ (Nat.zero_le _) h;have h2:=(rA (Nat.zero_le _) h).2.1;unfold mu;omega
theorem aF4{s:aJ}{st:St}{k:Nat}{texts:List aJ}{r:Word×St}(ha:st.1≤s.length)(hk:k≠0)(h:take s st k texts=.ok r):mu s r.2 < mu s st∧r.2.1≤s.length:=by
 unfold take at h;split at h
 ·cases h
 ·rename_i hn;have hkk:st.2.kind=k:=by
   rcases Nat.decEq st.2.kind k with h'|h'
   ·exact absurd (.inl h') hn
   ·exact h'
  split at h
  ·cases h
  ·rename_i q hq;cases h
   exact fC ha aH hq
theorem rW{s:aJ}{st:St}{x:aJ}{r:Bool×St}(ha:st.1≤s.length)(h:eat s st x=.ok r):r.2.1≤s.length∧mu s r.2≤mu s st∧(r.1=true→mu s r.2 < mu s st):=by
 unfold eat at h;split at h
 ·rename_i hk;split at h
  ·cases h
  ·rename_i q hq;cases h
   have:=fC ha aH hq;exact⟨this.2,Nat.le_of_lt this.1,fun _=>this.1⟩
 ·cases h;exact⟨ha,Nat.le_refl _,fun h=>by cases h⟩
theorem iR{s:aJ}{st:St}{ff:aJ→Int}{r:aJ×St}(ha:st.1≤s.length)(h:text s st ff=.ok r):mu s r.2 < mu s st∧r.2.1≤s.length:=by
 unfold text at h;split at h
 ·cases h
 ·split at h
  ·cases h
  ·rename_i q hq;cases h
   exact aF4 ha (by decide) hq
theorem tJ{s:aJ}{st r:St}{x:aJ}(ha:st.1≤s.length)(h:sign s st x=.ok r):mu s r < mu s st∧r.1≤s.length:=by
 unfold sign at h;split at h
 ·cases h
 ·rename_i q hq;cases h
  exact aF4 ha (by decide) hq
theorem wG(s:aJ)(st:St):mu s st≤s.length*2+1:=by unfold mu;omega
def lZ(s:aJ)(ff:aJ→Int):Nat→St→List aJ→Res (List aJ×St)
 |0,_,_=>.error (0,0)
 |f+1,st,acc=>
  match eat s st [44]with
  | .error e=>.error e
  | .ok r=>
   if r.1=true then
    match text s r.2 ff with
    | .error e=>.error e
    | .ok x=>lZ s ff f x.2 (acc++[x.1])
   else
    match sign s r.2 [93]with
    | .error e=>.error e
    | .ok q=>.ok (acc,q)
def list(s:aJ)(st:St)(ff:aJ→Int):Res (List aJ×St):=
 match eat s st [91]with
 | .error e=>.error e
 | .ok r=>
  match text s r.2 ff with
  | .error e=>.error e
  | .ok x=>if r.1=true then lZ s ff (mu s x.2+1) x.2 [x.1]else .ok ([x.1],x.2)
def named(s:aJ):Bool:=s.all dI&&(decide (s≠[])&&!dX ((s[0]?).getD 0))
def oneOf(e:Int)(texts:List aJ)(x:aJ):Int:=if x∈texts then 0 else e
theorem aSF{s:aJ}{i:Nat}{c:UInt8}(hc:s[i]?=some c)(h:dI c=false):named s=false:=by
 have:s.all dI=false:=List.all_eq_false.2 ⟨c,List.mem_of_getElem? hc,by simp[h]⟩;simp[named,this]
structure SetC where
 name:aJ
 value:aJ
 tag:Int
def iS:aJ:=[108,111,119,101,114]
def iT:aJ:=[117,112,112,101,114]
def gH:aJ:=[108,101,110,103,116,104]
def dN:aJ:=[118,97,114,105,97,98,108,101,115]
def jD(s:aJ)(st:St):Res (Int×St):=
 if st.2.kind=2 then
  if cQ [iS,iT,gH] st.2.s= -1 then .error (4,st.2.at_)
  else match next s st.1 with
   | .error e=>.error e
   | .ok r=>.ok (1+cQ [iS,iT,gH] st.2.s,r)
 else .ok (0,st)
def lC(s:aJ)(t:Int×St):Res (SetC×St):=
 match text s t.2 (fun x=>if named x=true then 0 else 7)with
 | .error e=>.error e
 | .ok n=>
  match text s n.2 (fun _=>0)with
  | .error e=>.error e
  | .ok v=>
   match sign s v.2 [59]with
   | .error e=>.error e
   | .ok q=>.ok (⟨cN n.1,v.1,t.1⟩,q)
def setC(s:aJ)(needs:List aJ)(st:St):Res (SetC×St):=
 if dN∈needs then
  match next s st.1 with
  | .error e=>.error e
  | .ok r=>
   match jD s r with
   | .error e=>.error e
   | .ok t=>lC s t
 else .error (6,st.2.at_)
end Go.Syn
end
section
namespace Go.Syn
open Go.Proofs
theorem aH4{s:aJ}{wat:Int}:∀(f i:Nat) (acc:aJ) (r:Nat×aJ),fG s wat f i acc=.ok r→acc.length≤i→r.2.length≤r.1:=by
 intro f;induction f with
 |zero=>intro i acc r h;simp only[fG]at h;cases h
 |succ f ih=>
  intro i acc r h hi;simp only[fG]at h;split at h
  ·cases h;show acc.length≤i+1;omega
  ·split at h
   ·split at h
    ·cases h
    ·exact ih _ _ _ h gBV
   ·split at h
    ·cases h
    ·exact ih _ _ _ h gBV
theorem uZ(s:aJ):(cN s).length=s.length:=by simp[cN]
theorem aSH{s:aJ}{a:Nat}{r:Nat×Word}(ha:a≤s.length)(h:next s a=.ok r):r.2.s.length≤s.length:=by
 unfold next at h;split at h
 ·cases h
 ·rename_i a1 hs;obtain⟨h1,h2⟩:=zK ha hs;split at h
  ·cases h;simp
  ·rename_i c hc;have hi:a1 < s.length:=by
    rcases Nat.lt_or_ge a1 s.length with h|h
    ·exact h
    ·simp[List.getElem?_eq_none h]at hc
   unfold kI at h;split at h
   ·cases h;simp;omega
   ·split at h
    ·split at h
     ·cases h
     ·rename_i q hq;cases h
      have h3:=aBF _ _ _ _ hq;have h4:=aH4 _ _ _ _ hq (by simp)
      show q.2.length≤s.length
      omega
    ·split at h
     ·split at h
      ·cases h
       have:=iO dI s (a1+1) aH
       show (cN (kP s (a1+1))).length≤_
       rw[uZ];unfold kP;omega
      ·cases h
     ·split at h
      ·cases h
       have:=iO dI s a1 aH
       show (cN (kP s a1)).length≤_
       rw[uZ];unfold kP;omega
      ·split at h
       ·split at h
        ·cases h
        ·cases h;simp
       ·cases h
def Ok(s:aJ)(st:St):Prop:=st.1≤s.length∧st.2.s.length≤s.length
theorem d9{s:aJ}{a:Nat}{r:St}(ha:a≤s.length)(h:next s a=.ok r):Ok s r:=⟨(rA ha h).2.1,aSH ha h⟩
theorem wQ{s:aJ}{st:St}{k:Nat}{texts:List aJ}{r:Word×St}(ha:st.1≤s.length)(h:take s st k texts=.ok r):Ok s r.2:=by
 unfold take at h;split at h
 ·cases h
 ·split at h
  ·cases h
  ·rename_i q hq;cases h
   exact d9 ha hq
theorem xB{s:aJ}{st:St}{x:aJ}{r:Bool×St}(ha:Ok s st)(h:eat s st x=.ok r):Ok s r.2:=by
 unfold eat at h;split at h
 ·split at h
  ·cases h
  ·rename_i q hq;cases h
   exact d9 ha.1 hq
 ·cases h;exact ha
theorem l8{s:aJ}{st:St}{ff:aJ→Int}{r:aJ×St}(ha:st.1≤s.length)(h:text s st ff=.ok r):Ok s r.2:=by
 unfold text at h;split at h
 ·cases h
 ·split at h
  ·cases h
  ·rename_i q hq;cases h
   exact wQ ha hq
theorem zJ{s:aJ}{st r:St}{x:aJ}(ha:st.1≤s.length)(h:sign s st x=.ok r):Ok s r:=by
 unfold sign at h;split at h
 ·cases h
 ·rename_i q hq;cases h
  exact wQ ha hq
end Go.Syn
end
section
namespace Go.Mach
open Go.Syn
structure Ins where
 op:Int
 n:Int
 tag:Int
 oct:Bool
 a:List aJ
 b:List aJ
 at_:Int
structure Msg where
 from_:aJ
 to_:aJ
 size:Int
 hs:List (aJ×aJ)
abbrev fT:=Int×aJ
structure MS where
 acts:List fT
 keep:Bool
 vars:List (aJ×aJ)
 parts:List aJ
 stack:List Bool
 pc:Nat
def vget(vars:List (aJ×aJ))(k:aJ):aJ:=match vars with
 | []=>[]
 |(j,v)::r=>if j=k then v else vget r k
def vput(vars:List (aJ×aJ))(k v:aJ):List (aJ×aJ):=match vars with
 | []=>[(k,v)]
 |(j,u)::r=>if j=k then (j,v)::r else (j,u)::vput r k v
def held(vars:List (aJ×aJ))(parts:List aJ)(name:aJ):aJ×Bool:=
 match name with
 | [c]=>if dX c=true then ((parts[c.toNat - 48]?).getD [],true)else (vget vars (cN name),named name)
 |_=>(vget vars (cN name),named name)
def iP(vars:List (aJ×aJ))(parts:List aJ):Nat→aJ→aJ→aJ
 |0,s,acc=>acc++s
 |f+1,s,acc=>
  if s=[]then acc
  else if Lib.index s [36,123] < 0 then acc++s
  else
   let i:=(Lib.index s [36,123]).toNat
   let t:=s.drop i
   let e:=Lib.indexByte t 125
   let h:=held vars parts ((t.take (max e 2).toNat).drop 2)
   if 0 < e∧h.2=true then iP vars parts f (t.drop (e.toNat+1)) (acc++s.take i++h.1)
   else iP vars parts f (t.drop 1) (acc++s.take i++[36])
def dC(named:Bool)(vars:List (aJ×aJ))(parts:List aJ)(s:aJ):aJ:=
 if named=true then (iP vars parts (s.length+1) s []).take 1024 else s
def f8(m:Msg)(name:aJ):List aJ:=(m.hs.filter fun h=>decide (cN h.1=name)).map (·.2)
def mY(m:Msg)(names:List aJ):Bool:=names.all fun n=>decide (f8 m (cN n)≠[])
def o4(m:Msg)(n:aJ):List aJ:=if cN n=[102,114,111,109]then [m.from_]else if cN n=[116,111]then [m.to_]else []
def gC(ex:aJ→aJ)(m:Msg)(o:Ins):List aJ:=
 if o.op=8 then o.a.map ex
 else if o.op=6 then (o.a.map ex).flatMap fun n=>f8 m (cN n)
 else if o.op=7 then o.a.flatMap (o4 m)
 else []
def eF(oct:Bool)(s:aJ):aJ:=if oct=true then s else cN s
def kM{α:Type}(f:Nat→Option α):Nat→Nat→Option α
 |0,_=>none
 |n+1,e=>match f e with
  |some x=>some x
  |none=>kM f n (e+1)
def iC(w v k:aJ):Nat→Nat→Nat→Option (List aJ)
 |0,_,_=>none
 |f+1,i,j=>
  match k[j]? with
  |none=>if i=v.length then some []else none
  |some c=>
   if c.toNat=42 then kM (fun e=>(iC w v k f e (j+1)).map fun ps=>((w.take e).drop i)::ps) (v.length+1 - i) i
   else match v[i]? with
    |none=>none
    |some x=>
     if c.toNat=63 then (iC w v k f (i+1) (j+1)).map fun ps=>((w.take (i+1)).drop i)::ps
     else match (if c.toNat=92 then k[j+1]? else none)with
      |some d=>if x=d then iC w v k f (i+1) (j+2)else none
      |none=>if x=c then iC w v k f (i+1) (j+1)else none
def glob(w k:aJ)(oct:Bool):Option (List aJ):=iC w (eF oct w) (eF oct k) (k.length+1) 0 0
def gT(o:Ins)(v k:aJ):Option (List aJ):=
 if o.tag=1 then (if eF o.oct v=eF o.oct k then some []else none)
 else if o.tag=2 then (if 0≤Lib.index (eF o.oct v) (eF o.oct k)then some []else none)
 else glob v k o.oct
def pM{α β:Type}(f:α→Option β):List α→Option β
 | []=>none
 |x::l=>match f x with
  |some y=>some y
  |none=>pM f l
def iE(o:Ins)(vs ks:List aJ):Option (List aJ):=
 pM (fun v=>pM (fun k=>(gT o v k).map fun ps=>v::ps) ks) vs
def nK(pc:Nat):Int×Int:=(12,pc)
def push(s:MS)(b:Bool):Res MS:=if s.stack.length < 8 then .ok {s with stack:=s.stack++[b]}else .error (nK s.pc)
def pop(s:MS):Res (Bool×MS):=match s.stack.getLast? with
 |some b=>.ok (b,{s with stack:=s.stack.dropLast})
 |none=>.error (nK s.pc)
def jump(s:MS)(by_:Int)(n:Nat)(yes:Bool):Res MS:=
 if 0≤by_∧by_ < (n:Int) - s.pc then .ok (if yes=true then {s with pc:=s.pc+by_.toNat}else s)else .error (nK s.pc)
def matchI(nm:Bool)(m:Msg)(o:Ins)(s:MS):Res MS:=
 if 1≤o.tag∧o.tag≤3∧s.stack.length < 8 then
  let ex:=dC nm s.vars s.parts
  match iE o (gC ex m o) (o.b.map ex)with
  |some ps=>push (if o.tag=3∧nm=true then {s with parts:=ps}else s) true
  |none=>push s false
 else .error (nK s.pc)
def setI(nm:Bool)(o:Ins)(s:MS):Res MS:=
 if 0≤o.tag∧o.tag≤3 then
  match o.a,o.b with
  |a::_,b::_=>
   let v:=dC nm s.vars s.parts b
   let u:=if o.tag=1 then cN v else if o.tag=2 then aE4 v else if o.tag=3 then Lib.itoa v.length else v
   .ok {s with vars:=vput s.vars a (u.take 48)}
  |_,_=>.error (nK s.pc)
 else .error (nK s.pc)
def gL(c:UInt8):Bool:=(decide (97≤(c|||32).toNat)&&decide ((c|||32).toNat≤122))||(decide (48≤c.toNat)&&decide (c.toNat≤57))||decide (c.toNat=95)
def jS(i:Nat)(c:UInt8):Bool:=gL c||decide (c.toNat=45)||(decide (c.toNat=46)&&decide (i≠0))
def zX(s:aJ):Bool:=((List.range s.length).all fun i=>jS i ((s[i]?).getD 0))&&decide (s≠[])&&decide (s.length≤16)
def jB(c:UInt8):Bool:=decide (c.toNat=32∨c.toNat=9∨c.toNat=13∨c.toNat=10)
def lJ(s:aJ):Bool:=
 match s.findIdx? (fun x=>decide (x=64))with
 |none=>false
 |some i=>decide (s.take i≠[])&&decide (s.drop (i+1)≠[])&&!(s.any jB)&&!((s.drop (i+1)).any fun c=>decide (c=64))&&decide (s.length≤32)
def actA(nm:Bool)(o:Ins)(s:MS):aJ:=if o.tag=1 then []else dC nm s.vars s.parts ((o.a[0]?).getD [])
def actV(o:Ins)(arg:aJ):fT:=(o.tag,if o.tag=4 then arg.take 48 else arg)
def actI(nm:Bool)(o:Ins)(s:MS):Res MS:=
 if o.tag=1∨(2≤o.tag∧o.tag≤4∧o.a≠[])then
  let arg:=actA nm o s
  if o.tag=2∧zX arg=false then .error (8,o.at_)
  else if o.tag=3∧lJ arg=false then .error (9,o.at_)
  else
   let a:fT:=actV o arg
   if a∈s.acts then .ok {s with keep:=false}
   else if (∃b∈s.acts,a.1=4∨b.1=4)then .error (10,o.at_)
   else if s.acts.length=6 then .error (11,o.at_)
   else .ok {s with keep:=false,acts:=s.acts++[a]}
 else .error (nK s.pc)
def step(nm:Bool)(m:Msg)(n:Nat)(o:Ins)(s:MS):Res MS:=
 if o.op=1 then (if o.n=0∨o.n=1 then push s (decide (o.n=1))else .error (nK s.pc))
 else if o.op=2 then (match pop s with| .error e=>.error e| .ok r=>push r.2 (!r.1))
 else if o.op=3 then jump s o.n n true
 else if o.op=4 then (match pop s with| .error e=>.error e| .ok r=>jump r.2 o.n n r.1)
 else if o.op=5 then (match pop s with| .error e=>.error e| .ok r=>jump r.2 o.n n (!r.1))
 else if o.op=6∨o.op=7∨o.op=8 then matchI nm m o s
 else if o.op=9 then push s (mY m (o.a.map (dC nm s.vars s.parts)))
 else if o.op=10 then (if o.tag=1∨o.tag=2 then push s (decide (o.tag=1∧o.n < m.size∨o.tag=2∧m.size < o.n))else .error (nK s.pc))
 else if o.op=11 then actI nm o s
 else if o.op=12 then setI nm o s
 else if o.op=13 then .ok {s with keep:=false}
 else .error (nK s.pc)
structure Out where
 acts:List fT
 steps:Nat
 err:Option (Int×Int)
def loop(nm:Bool)(m:Msg)(code:List Ins):Nat→Nat→MS→Out
 |0,st,_=>⟨[],st,none⟩
 |f+1,st,s=>
  match code[s.pc]? with
  |none=>⟨if s.keep=true then s.acts++[(1,[])]else s.acts,st,none⟩
  |some o=>
   if o.op=14 then ⟨if s.keep=true then s.acts++[(1,[])]else s.acts,st+1,none⟩
   else match step nm m code.length o s with
    | .error e=>⟨[(1,[])],st+1,some e⟩
    | .ok t=>loop nm m code f (st+1) {t with pc:=t.pc+1}
def start:MS:=⟨[],true,[],[],[],0⟩
def run(nm:Bool)(code:List Ins)(m:Msg):Out:=
 if 400 < code.length then ⟨[(1,[])],0,some (12,400)⟩else loop nm m code (code.length+1) 0 start
theorem tI{s t:MS}{b:Bool}(h:push s b=.ok t):t.pc=s.pc:=by
 unfold push at h;split at h <;> cases h;rfl
theorem aBD{s:MS}{r:Bool×MS}(h:pop s=.ok r):r.2.pc=s.pc:=by
 unfold pop at h;split at h <;> cases h;rfl
theorem aFB{s t:MS}{by_:Int}{n:Nat}{yes:Bool}(h:jump s by_ n yes=.ok t)(hp:s.pc < n):s.pc≤t.pc∧t.pc < n:=by
 unfold jump at h;split at h
 ·cases h;split
  ·simp only[];omega
  ·exact⟨Nat.le_refl _,hp⟩
 ·cases h
theorem aOF{nm:Bool}{m:Msg}{o:Ins}{s t:MS}(h:matchI nm m o s=.ok t):t.pc=s.pc:=by
 unfold matchI at h;split at h
 ·simp only[]at h;split at h
  ·have:=tI h;rw[this];split <;> rfl
  ·exact tI h
 ·cases h
theorem aWC{nm:Bool}{o:Ins}{s t:MS}(h:setI nm o s=.ok t):t.pc=s.pc:=by
 unfold setI at h;split at h
 ·split at h
  ·cases h;rfl
  ·cases h
 ·cases h
theorem aUX{nm:Bool}{o:Ins}{s t:MS}(h:actI nm o s=.ok t):t.pc=s.pc:=by
 unfold actI at h;split at h
 ·simp only[]at h;split at h
  ·cases h
  split at h
  ·cases h
  split at h
  ·cases h;rfl
  split at h
  ·cases h
  split at h
  ·cases h
  ·cases h;rfl
 ·cases h
theorem zM{nm:Bool}{m:Msg}{n:Nat}{o:Ins}{s t:MS}(h:step nm m n o s=.ok t)(hp:s.pc < n):s.pc≤t.pc∧t.pc < n:=by
 have key:t.pc=s.pc→s.pc≤t.pc∧t.pc < n:=fun e=>by rw[e];exact⟨Nat.le_refl _,hp⟩
 unfold step at h
 by_cases h0:o.op=1
 ·rw[if_pos h0]at h;split at h
  ·exact key (tI h)
  ·cases h
 rw[if_neg h0]at h
 by_cases h1:o.op=2
 ·rw[if_pos h1]at h;split at h
  ·cases h
  ·rename_i r hr;exact key ((tI h).trans (aBD hr))
 rw[if_neg h1]at h
 by_cases h2:o.op=3
 ·rw[if_pos h2]at h;exact aFB h hp
 rw[if_neg h2]at h
 by_cases h3:o.op=4
 ·rw[if_pos h3]at h;split at h
  ·cases h
  ·rename_i r hr;have e:=aBD hr;have:=aFB h (by rw[e];exact hp);omega
 rw[if_neg h3]at h
 by_cases h4:o.op=5
 ·rw[if_pos h4]at h;split at h
  ·cases h
  ·rename_i r hr;have e:=aBD hr;have:=aFB h (by rw[e];exact hp);omega
 rw[if_neg h4]at h
 by_cases h5:o.op=6∨o.op=7∨o.op=8
 ·rw[if_pos h5]at h;exact key (aOF h)
 rw[if_neg h5]at h
 by_cases h6:o.op=9
 ·rw[if_pos h6]at h;exact key (tI h)
 rw[if_neg h6]at h
 by_cases h7:o.op=10
 ·rw[if_pos h7]at h;split at h
  ·exact key (tI h)
  ·cases h
 rw[if_neg h7]at h
 by_cases h8:o.op=11
 ·rw[if_pos h8]at h;exact key (aUX h)
 rw[if_neg h8]at h
 by_cases h9:o.op=12
 ·rw[if_pos h9]at h;exact key (aWC h)
 rw[if_neg h9]at h
 by_cases h10:o.op=13
 ·rw[if_pos h10]at h;cases h;exact key rfl
 rw[if_neg h10]at h;cases h
end Go.Mach
end
section
namespace Go.Syn
theorem aR8{s:aJ}{ff:aJ→Int}:∀ {f:Nat} {st:St} {acc:List aJ} {r:List aJ×St},Ok s st→lZ s ff f st acc=.ok r→Ok s r.2∧mu s r.2 < mu s st:=by
 intro f;induction f with
 |zero=>intro st acc r _ h;cases h
 |succ f ih=>
  intro st acc r hok h;simp only[lZ]at h;split at h
  ·cases h
  ·rename_i q hq;obtain⟨_,hq2,_⟩:=rW hok.1 hq;have hqo:=xB hok hq;split at h
   ·split at h
    ·cases h
    ·rename_i x hx;have h1:=iR hqo.1 hx;have h2:=l8 hqo.1 hx;have:=ih h2 h;exact⟨this.1,by omega⟩
   ·split at h
    ·cases h
    ·rename_i y hy;cases h
     have h1:=tJ hqo.1 hy;exact⟨zJ hqo.1 hy,by simp only[];omega⟩
theorem mZ{s:aJ}{st:St}{ff:aJ→Int}{r:List aJ×St}(hok:Ok s st)(h:list s st ff=.ok r):Ok s r.2∧mu s r.2 < mu s st:=by
 unfold list at h;split at h
 ·cases h
 ·rename_i q hq;obtain⟨_,hq2,_⟩:=rW hok.1 hq;have hqo:=xB hok hq;split at h
  ·cases h
  ·rename_i x hx;have h1:=iR hqo.1 hx;have h2:=l8 hqo.1 hx;split at h
   ·have:=aR8 h2 h;exact⟨this.1,by omega⟩
   ·cases h;exact⟨h2,by simp only[];omega⟩
inductive Tree where
 |const (b:Bool)
 |not_ (t:Tree)
 |many (all:Bool) (l:Tree)
 |mat (tag:Int) (octet:Bool) (op:Int) (a b:List aJ)
 |exi (a:List aJ)
 |siz (tag n:Int)
 |tnil
 |tcons (t l:Tree)
 |plain (op:Int)
 |act (kind:Int) (arg:aJ) (at_:Int)
 |set_ (name value:aJ) (tag:Int)
 |iff (bs:Tree)
 |cnil
 |ccons (c l:Tree)
 |bnil
 |bcons (t body l:Tree)
 |belse (body l:Tree)
def wf:Tree→Nat→Bool
 | .const _,k=>k==0
 | .not_ t,k=>k==0&&wf t 0
 | .many _ l,k=>k==0&&wf l 1
 | .mat _ _ _ _ _,k=>k==0
 | .exi _,k=>k==0
 | .siz _ _,k=>k==0
 | .tnil,k=>k==1
 | .tcons t l,k=>k==1&&(wf t 0&&wf l 1)
 | .plain _,k=>k==2
 | .act _ _ _,k=>k==2
 | .set_ _ _ _,k=>k==2
 | .iff bs,k=>k==2&&wf bs 4
 | .cnil,k=>k==3
 | .ccons c l,k=>k==3&&(wf c 2&&wf l 3)
 | .bnil,k=>k==4
 | .bcons t b l,k=>k==4&&(wf t 0&&(wf b 3&&wf l 4))
 | .belse b l,k=>k==4&&(wf b 3&&wf l 4)
def Tree.snocT:Tree→Tree→Tree
 | .tcons t l,x=>.tcons t (l.snocT x)
 |_,x=>.tcons x .tnil
def Tree.snocC:Tree→Tree→Tree
 | .ccons t l,x=>.ccons t (l.snocC x)
 |_,x=>.ccons x .cnil
def mkB(t:Option Tree)(body l:Tree):Tree:=match t with
 |some t=>.bcons t body l
 |none=>.belse body l
def Tree.snocB:Tree→Option Tree→Tree→Tree
 | .bcons t b l,x,y=>.bcons t b (l.snocB x y)
 | .belse b l,x,y=>.belse b (l.snocB x y)
 |_,x,y=>mkB x y .bnil
def txIs:aJ:=[105,115]
def kA:aJ:=[99,111,110,116,97,105,110,115]
def lR:aJ:=[109,97,116,99,104,101,115]
def iJ:aJ:=[99,111,109,112,97,114,97,116,111,114]
def eB:aJ:=[105,59,111,99,116,101,116]
def fJ:aJ:=[105,59,97,115,99,105,105,45,99,97,115,101,109,97,112]
def e8:aJ:=[101,110,118,101,108,111,112,101]
def oZ:aJ:=[111,118,101,114]
def jE:aJ:=[117,110,100,101,114]
def dE:List aJ:=[txIs,kA,lR,iJ]
structure How where
 cmp:Bool
 tag:Int
 oct:Bool
def eG(s:aJ):Nat→How→St→Res (How×St)
 |0,_,_=>.error (0,0)
 |f+1,h,st=>
  if st.2.kind=2 then
   if cQ dE st.2.s= -1 then .error (4,st.2.at_)
   else if (cQ dE st.2.s=3∧h.cmp=true)∨(cQ dE st.2.s < 3∧h.tag≠0)then .error (7,st.2.at_)
   else if cQ dE st.2.s < 3 then
    match next s st.1 with
    | .error e=>.error e
    | .ok r=>eG s f ⟨h.cmp,1+cQ dE st.2.s,h.oct⟩ r
   else
    match next s st.1 with
    | .error e=>.error e
    | .ok r=>
     match text s r (oneOf 7 [eB,fJ])with
     | .error e=>.error e
     | .ok x=>eG s f ⟨true,h.tag,decide (x.1=eB)⟩ x.2
  else .ok (h,st)
def nB(op:Int):aJ→Int:=if op=7 then fun x=>oneOf 7 [[102,114,111,109],[116,111]] (cN x)else fun _=>0
def l4(s:aJ)(op:Int)(h:Res (How×St)):Res (Tree×St):=
 match h with
 | .error e=>.error e
 | .ok h=>
  match list s h.2 (nB op)with
  | .error e=>.error e
  | .ok a=>
   match list s a.2 (fun _=>0)with
   | .error e=>.error e
   | .ok b=>.ok (.mat (if 1>h.1.tag then 1 else h.1.tag) h.1.oct op a.1 b.1,b.2)
def jC(s:aJ)(needs:List aJ)(op:Int)(ext:aJ)(st:St):Res (Tree×St):=
 if ext≠[]∧ext∉needs then .error (6,st.2.at_)
 else match next s st.1 with
  | .error e=>.error e
  | .ok r=>l4 s op (eG s (mu s r+1) ⟨false,0,false⟩ r)
def iG(s:aJ)(c:Tree)(st:St):Res (Tree×St):=
 match next s st.1 with
 | .error e=>.error e
 | .ok r=>
  match sign s r [59]with
  | .error e=>.error e
  | .ok q=>.ok (c,q)
def actC(s:aJ)(needs:List aJ)(kind:Int)(ext:aJ)(at_:Int)(st:St):Res (Tree×St):=
 if ext≠[]∧ext∉needs then .error (6,st.2.at_)
 else match next s st.1 with
  | .error e=>.error e
  | .ok r=>
   match take s r 3 []with
   | .error e=>.error e
   | .ok x=>
    match sign s x.2 [59]with
    | .error e=>.error e
    | .ok q=>.ok (.act kind x.1.s at_,q)
def kJ(s:aJ)(b:Bool)(st:St):Res (Tree×St):=
 match next s st.1 with
 | .error e=>.error e
 | .ok r=>.ok (.const b,r)
def lA(s:aJ)(st:St):Res (Tree×St):=
 match next s st.1 with
 | .error e=>.error e
 | .ok r=>
  match list s r (fun _=>0)with
  | .error e=>.error e
  | .ok a=>.ok (.exi a.1,a.2)
def oT(s:aJ)(st:St):Res (Tree×St):=
 match next s st.1 with
 | .error e=>.error e
 | .ok r=>
  match take s r 2 [oZ,jE]with
  | .error e=>.error e
  | .ok x=>
   match take s x.2 4 []with
   | .error e=>.error e
   | .ok y=>.ok (.siz (if x.1.s=jE then 2 else 1) y.1.n,y.2)
def notC(s:aJ)(T:St→Res (Tree×St))(st:St):Res (Tree×St):=
 match next s st.1 with
 | .error e=>.error e
 | .ok r=>
  match T r with
  | .error e=>.error e
  | .ok t=>.ok (.not_ t.1,t.2)
def nA(s:aJ)(T:St→Res (Tree×St)):Nat→Tree→St→Res (Tree×St)
 |0,_,_=>.error (0,0)
 |f+1,acc,st=>
  match eat s st [44]with
  | .error e=>.error e
  | .ok r=>
   if r.1=true then
    match T r.2 with
    | .error e=>.error e
    | .ok t=>nA s T f (acc.snocT t.1) t.2
   else
    match sign s r.2 [41]with
    | .error e=>.error e
    | .ok q=>.ok (acc,q)
def tE(all:Bool)(l:Res (Tree×St)):Res (Tree×St):=
 match l with
 | .error e=>.error e
 | .ok l=>.ok (.many all l.1,l.2)
def mC(s:aJ)(T:St→Res (Tree×St))(all:Bool)(st:St):Res (Tree×St):=
 match next s st.1 with
 | .error e=>.error e
 | .ok r=>
  match sign s r [40]with
  | .error e=>.error e
  | .ok q=>
   match T q with
   | .error e=>.error e
   | .ok t=>
    tE all (nA s T (mu s t.2+1) (.tcons t.1 .tnil) t.2)
def nO:aJ:=[116,114,117,101]
def lD:aJ:=[102,97,108,115,101]
def aD8:aJ:=[110,111,116]
def nW:aJ:=[97,108,108,111,102]
def nX:aJ:=[97,110,121,111,102]
def oY:aJ:=[104,101,97,100,101,114]
def o0:aJ:=[115,116,114,105,110,103]
def qK:aJ:=[101,120,105,115,116,115]
def rH:aJ:=[115,105,122,101]
def mE(s:aJ)(needs:List aJ)(T:St→Res (Tree×St))(st:St):Option (Res (Tree×St)):=
 let w:=st.2.s
 if w=nO then some (kJ s true st)
 else if w=lD then some (kJ s false st)
 else if w=aD8 then some (notC s T st)
 else if w=nW then some (mC s T true st)
 else if w=nX then some (mC s T false st)
 else if w=oY then some (jC s needs 6 [] st)
 else if w=e8 then some (jC s needs 7 e8 st)
 else if w=o0 then some (jC s needs 8 dN st)
 else if w=qK then some (lA s st)
 else if w=rH then some (oT s st)
 else none
def test(s:aJ)(needs:List aJ):Nat→St→Res (Tree×St)
 |0,st=>if st.2.kind=1 then .error (5,st.2.at_)else .error (4,st.2.at_)
 |n+1,st=>
  if st.2.kind=1 then
   match mE s needs (test s needs n) st with
   |some r=>r
   |none=>.error (4,st.2.at_)
  else .error (4,st.2.at_)
def lS(s:aJ)(B:St→Res (Tree×St))(st:St):Res (Tree×St):=
 match sign s st [123]with
 | .error e=>.error e
 | .ok q=>
  match B q with
  | .error e=>.error e
  | .ok b=>
   match sign s b.2 [125]with
   | .error e=>.error e
   | .ok r=>.ok (b.1,r)
def mB:aJ:=[101,108,115,105,102]
def mA:aJ:=[101,108,115,101]
def iA(s:aJ)(B:St→Res (Tree×St))(acc:Tree)(st:St):Res (Tree×St):=
 if st.2.kind=1∧st.2.s=mA then
  match next s st.1 with
  | .error e=>.error e
  | .ok r=>
   match lS s B r with
   | .error e=>.error e
   | .ok b=>.ok (.iff (acc.snocB none b.1),b.2)
 else .ok (.iff acc,st)
def eM(s:aJ)(T B:St→Res (Tree×St)):Nat→Tree→St→Res (Tree×St)
 |0,_,_=>.error (0,0)
 |f+1,acc,st=>
  if st.2.kind=1∧st.2.s=mB then
   match next s st.1 with
   | .error e=>.error e
   | .ok r=>
    match T r with
    | .error e=>.error e
    | .ok t=>
     match lS s B t.2 with
     | .error e=>.error e
     | .ok b=>eM s T B f (acc.snocB (some t.1) b.1) b.2
  else iA s B acc st
def ifC(s:aJ)(T B:St→Res (Tree×St))(st:St):Res (Tree×St):=
 match next s st.1 with
 | .error e=>.error e
 | .ok r=>
  match T r with
  | .error e=>.error e
  | .ok t=>
   match lS s B t.2 with
   | .error e=>.error e
   | .ok b=>eM s T B (mu s b.2+1) (.bcons t.1 b.1 .bnil) b.2
def pQ:aJ:=[107,101,101,112]
def gM:aJ:=[100,105,115,99,97,114,100]
def mV:aJ:=[115,116,111,112]
def e9:aJ:=[102,105,108,101,105,110,116,111]
def kB:aJ:=[114,101,100,105,114,101,99,116]
def gS:aJ:=[114,101,106,101,99,116]
def y6:aJ:=[115,101,116]
def txIf:aJ:=[105,102]
def qB(s:aJ)(needs:List aJ)(st:St):Res (Tree×St):=
 match setC s needs st with
 | .error e=>.error e
 | .ok r=>.ok (.set_ r.1.name r.1.value r.1.tag,r.2)
def cmdD(s:aJ)(needs:List aJ)(T B:St→Res (Tree×St))(st:St):Option (Res (Tree×St)):=
 let w:=st.2.s
 if w=pQ then some (iG s (.act 1 [] st.2.at_) st)
 else if w=gM then some (iG s (.plain 13) st)
 else if w=mV then some (iG s (.plain 14) st)
 else if w=e9 then some (actC s needs 2 e9 st.2.at_ st)
 else if w=kB then some (actC s needs 3 [] st.2.at_ st)
 else if w=gS then some (actC s needs 4 gS st.2.at_ st)
 else if w=y6 then some (qB s needs st)
 else if w=txIf then some (ifC s T B st)
 else none
def gW(s:aJ)(C:St→Option (Res (Tree×St))):Nat→Tree→St→Res (Tree×St)
 |0,_,_=>.error (0,0)
 |f+1,acc,st=>
  if st.2.kind=1 then
   match C st with
   |none=>.error (4,st.2.at_)
   |some (.error e)=>.error e
   |some (.ok c)=>gW s C f (acc.snocC c.1) c.2
  else .ok (acc,st)
def block(s:aJ)(needs:List aJ):Nat→St→Res (Tree×St)
 |0,st=>if st.2.kind=1 then .error (5,st.2.at_)else .ok (.cnil,st)
 |n+1,st=>gW s (cmdD s needs (test s needs n) (block s needs n)) (mu s st+1) .cnil st
end Go.Syn
end
section
namespace Go.Syn
open Go Go.SL
def u0:Cell:=⟨.nilIface,rfl⟩
def Rep(K:Hl):Tree→List (Cell×Cell)→Prop
 | .const b,us=>us=[(⟨.iface 289 (.bool b),rfl⟩,u0)]
 | .not_ t,us=>∃v,Rep K t [(v,u0)]∧us=[(⟨.iface 293 (.agg #[v.1]),rfl⟩,u0)]
 | .many all l,us=>∃xs sv,Rep K l xs∧Ksl (dY 288) K sv (xs.map (·.1))∧us=[(⟨.iface 376 (.agg #[.bool all,sv]),rfl⟩,u0)]
 | .mat tag oct op a b,us=>∃va vb,Ksl (bC 9) K va a∧Ksl (bC 9) K vb b∧us=[(⟨.iface 380 (.agg #[i64 tag,.bool oct,i64 op,va,vb]),rfl⟩,u0)]
 | .exi a,us=>∃va,Ksl (bC 9) K va a∧us=[(⟨.iface 297 (.agg #[va]),rfl⟩,u0)]
 | .siz tag n,us=>us=[(⟨.iface 300 (.agg #[i64 tag,i64 n]),rfl⟩,u0)]
 | .tnil,us=>us=[]
 | .tcons t l,us=>∃v xs,Rep K t [(v,u0)]∧Rep K l xs∧us=(v,u0)::xs
 | .plain op,us=>us=[(⟨.iface 285 (.agg #[i64 op]),rfl⟩,u0)]
 | .act k a p,us=>us=[(⟨.iface 282 (.agg #[i64 k,str a,i64 p]),rfl⟩,u0)]
 | .set_ n v t,us=>us=[(⟨.iface 308 (.agg #[str n,str v,i64 t]),rfl⟩,u0)]
 | .iff bs,us=>∃xs sv,Rep K bs xs∧Ksl (gI 371) K sv xs∧us=[(⟨.iface 311 (.agg #[sv]),rfl⟩,u0)]
 | .cnil,us=>us=[]
 | .ccons t l,us=>∃v xs,Rep K t [(v,u0)]∧Rep K l xs∧us=(v,u0)::xs
 | .bnil,us=>us=[]
 | .bcons t b l,us=>∃v ys sv xs,Rep K t [(v,u0)]∧(∃ty u,v.1=.iface ty u)∧Rep K b ys∧Ksl (dY 224) K sv.1 (ys.map (·.1))∧Rep K l xs∧us=(v,sv)::xs
 | .belse b l,us=>∃ys sv xs,Rep K b ys∧Ksl (dY 224) K sv.1 (ys.map (·.1))∧Rep K l xs∧us=(⟨.nilIface,rfl⟩,sv)::xs
theorem Rep.mono{K K':Hl}(le:K.le K'):∀ {t:Tree} {us:List (Cell×Cell)},Rep K t us→Rep K' t us:=by
 intro t;induction t with
 |const b=>intro us h;exact h
 |not_ t ih=>rintro us ⟨v,h,e⟩;exact⟨v,ih h,e⟩
 |many all l ih=>rintro us ⟨xs,sv,h1,h2,e⟩;exact⟨xs,sv,ih h1,h2.mono le,e⟩
 |mat tag oct op a b=>rintro us ⟨va,vb,h1,h2,e⟩;exact⟨va,vb,h1.mono le,h2.mono le,e⟩
 |exi a=>rintro us ⟨va,h1,e⟩;exact⟨va,h1.mono le,e⟩
 |siz tag n=>intro us h;exact h
 |tnil=>intro us h;exact h
 |tcons t l ih1 ih2=>rintro us ⟨v,xs,h1,h2,e⟩;exact⟨v,xs,ih1 h1,ih2 h2,e⟩
 |plain op=>intro us h;exact h
 |act k a p=>intro us h;exact h
 |set_ n v t=>intro us h;exact h
 |iff bs ih=>rintro us ⟨xs,sv,h1,h2,e⟩;exact⟨xs,sv,ih h1,h2.mono le,e⟩
 |cnil=>intro us h;exact h
 |ccons t l ih1 ih2=>rintro us ⟨v,xs,h1,h2,e⟩;exact⟨v,xs,ih1 h1,ih2 h2,e⟩
 |bnil=>intro us h;exact h
 |bcons t b l ih1 ih2 ih3=>rintro us ⟨v,ys,sv,xs,h1,h2,h3,h4,h5,e⟩;exact⟨v,ys,sv,xs,ih1 h1,h2,ih2 h3,h4.mono le,ih3 h5,e⟩
 |belse b l ih1 ih2=>rintro us ⟨ys,sv,xs,h1,h2,h3,e⟩;exact⟨ys,sv,xs,ih1 h1,h2.mono le,ih2 h3,e⟩
def Rep1(K:Hl)(t:Tree)(v:Value):Prop:=∃ty u,v=.iface ty u∧Rep K t [(⟨.iface ty u,rfl⟩,u0)]
theorem Rep1.mono{K K':Hl}{t:Tree}{v:Value}(h:Rep1 K t v)(le:K.le K'):Rep1 K' t v:=let ⟨a,b,e,r⟩:=h;⟨a,b,e,r.mono le⟩
def isTL:Tree→Bool
 | .tnil=>true
 | .tcons _ l=>isTL l
 |_=>false
def isCL:Tree→Bool
 | .cnil=>true
 | .ccons _ l=>isCL l
 |_=>false
def isBL:Tree→Bool
 | .bnil=>true
 | .bcons _ _ l=>isBL l
 | .belse _ l=>isBL l
 |_=>false
theorem aOZ{K:Hl}{t:Tree}{v:Cell}(ht:Rep K t [(v,u0)]):∀ {l:Tree} {us:List (Cell×Cell)},isTL l=true→Rep K l us→Rep K (l.snocT t) (us++[(v,u0)])∧isTL (l.snocT t)=true:=by
 intro l;induction l with
 |tnil=>intro us _ h;cases (show us=[]from h);exact⟨⟨v,[],ht,rfl,rfl⟩,rfl⟩
 |tcons x l ih1 ih2=>
  rintro us hl ⟨w,xs,h1,h2,rfl⟩;obtain⟨h3,h4⟩:=ih2 hl h2;exact⟨⟨w,_,h1,h3,rfl⟩,h4⟩
 |_=>intro us hl;cases hl
theorem aOY{K:Hl}{t:Tree}{v:Cell}(ht:Rep K t [(v,u0)]):∀ {l:Tree} {us:List (Cell×Cell)},isCL l=true→Rep K l us→Rep K (l.snocC t) (us++[(v,u0)])∧isCL (l.snocC t)=true:=by
 intro l;induction l with
 |cnil=>intro us _ h;cases (show us=[]from h);exact⟨⟨v,[],ht,rfl,rfl⟩,rfl⟩
 |ccons x l ih1 ih2=>
  rintro us hl ⟨w,xs,h1,h2,rfl⟩;obtain⟨h3,h4⟩:=ih2 hl h2;exact⟨⟨w,_,h1,h3,rfl⟩,h4⟩
 |_=>intro us hl;cases hl
def RepO(K:Hl):Option Tree→Cell→Prop
 |none,v=>v=⟨.nilIface,rfl⟩
 |some t,v=>Rep K t [(v,u0)]∧∃ty u,v.1=.iface ty u
theorem aV4{K:Hl}{o:Option Tree}{b l:Tree}{v sv:Cell}{ys xs:List (Cell×Cell)}(ho:RepO K o v)(hb:Rep K b ys)(hs:Ksl (dY 224) K sv.1 (ys.map (·.1)))(hl:Rep K l xs):Rep K (mkB o b l) ((v,sv)::xs):=by
 cases o with
 |none=>cases (show v=_ from ho);exact⟨ys,sv,xs,hb,hs,hl,rfl⟩
 |some t=>exact⟨v,ys,sv,xs,ho.1,ho.2,hb,hs,hl,rfl⟩
theorem mP{K:Hl}{o:Option Tree}{b:Tree}{v sv:Cell}{ys:List (Cell×Cell)}(ho:RepO K o v)(hb:Rep K b ys)(hs:Ksl (dY 224) K sv.1 (ys.map (·.1))):
  ∀ {l:Tree} {us:List (Cell×Cell)},isBL l=true→Rep K l us→Rep K (l.snocB o b) (us++[(v,sv)])∧isBL (l.snocB o b)=true:=by
 intro l;induction l with
 |bnil=>intro us _ h;cases (show us=[]from h);exact⟨aV4 ho hb hs rfl,by cases o <;> rfl⟩
 |bcons x y l ih1 ih2 ih3=>
  rintro us hl ⟨w,zs,tv,xs,h1,h2,h3,h4,h5,rfl⟩;obtain⟨h6,h7⟩:=ih3 hl h5;exact⟨⟨w,zs,tv,_,h1,h2,h3,h4,h6,rfl⟩,h7⟩
 |belse y l ih1 ih2=>
  rintro us hl ⟨zs,tv,xs,h1,h2,h3,rfl⟩;obtain⟨h6,h7⟩:=ih2 hl h3;exact⟨⟨zs,tv,_,h1,h2,h6,rfl⟩,h7⟩
 |_=>intro us hl;cases hl
theorem xQ{K:Hl}{t:Tree}{c d:Cell}(hw:wf t 0=true∨wf t 2=true)(h:Rep K t [(c,d)]):∃ty u,c.1=.iface ty u:=by
 cases t <;> simp only[wf,Rep]at h hw
 case const b=>cases h;exact⟨_,_,rfl⟩
 case not_ t=>obtain⟨v,_,h⟩:=h;cases h;exact⟨_,_,rfl⟩
 case many all l=>obtain⟨xs,sv,_,_,h⟩:=h;cases h;exact⟨_,_,rfl⟩
 case mat tag oct op a b=>obtain⟨va,vb,_,_,h⟩:=h;cases h;exact⟨_,_,rfl⟩
 case exi a=>obtain⟨va,_,h⟩:=h;cases h;exact⟨_,_,rfl⟩
 case siz tag n=>cases h;exact⟨_,_,rfl⟩
 case plain op=>cases h;exact⟨_,_,rfl⟩
 case act k a p=>cases h;exact⟨_,_,rfl⟩
 case set_ n v t=>cases h;exact⟨_,_,rfl⟩
 case iff bs=>obtain⟨xs,sv,_,_,h⟩:=h;cases h;exact⟨_,_,rfl⟩
 all_goals simp at hw
end Go.Syn
end
section
namespace Go.Cmp
open Go.Syn Go.Mach
def jmp(op:Int):Ins:=⟨op,0,0,false,[],[],0⟩
def setN(ops:List Ins)(k:Nat)(n:Int):List Ins:=ops.modify k fun o=>{o with n:=n}
def land(ops:List Ins)(ps:List Nat):List Ins:=ps.foldl (fun o k=>setN o k ((ops.length:Int) - 1 - k)) ops
def eH:Tree→Bool
 | .tcons _ _=>false
 | .bcons _ _ _=>false
 | .belse _ _=>false
 |_=>true
mutual
def unl:Tree→Bool→List Ins→List Ins×List Nat
 | .not_ t,tn,ops=>unl t (!tn) ops
 | .const b,tn,ops=>if b=tn then (ops++[jmp 3],[ops.length])else (ops,[])
 | .many all l,tn,ops=>(land (unlL all tn l ops [] []).1 (unlL all tn l ops [] []).2.2,(unlL all tn l ops [] []).2.1)
 | .mat tag oct op a b,tn,ops=>(ops++[⟨op,0,tag,oct,a,b,0⟩,jmp (if tn=true then 4 else 5)],[ops.length+1])
 | .exi a,tn,ops=>(ops++[⟨9,0,0,false,a,[],0⟩,jmp (if tn=true then 4 else 5)],[ops.length+1])
 | .siz tag n,tn,ops=>(ops++[⟨10,n,tag,false,[],[],0⟩,jmp (if tn=true then 4 else 5)],[ops.length+1])
 |_,_,ops=>(ops,[])
def unlL(all tn:Bool):Tree→List Ins→List Nat→List Nat→List Ins×List Nat×List Nat
 | .tcons t l,ops,away,here=>
  if all=tn∧eH l=false then unlL all tn l (unl t (!tn) ops).1 away (here++(unl t (!tn) ops).2)
  else unlL all tn l (unl t tn ops).1 (away++(unl t tn ops).2) here
 |_,ops,away,here=>(ops,away,here)
end
mutual
def body:Tree→List Ins→List Ins
 | .ccons c l,ops=>body l (cmdI c ops)
 |_,ops=>ops
def cmdI:Tree→List Ins→List Ins
 | .plain op,ops=>ops++[jmp op]
 | .act k a p,ops=>ops++[⟨11,0,k,false,if k=1 then []else [a],[],p⟩]
 | .set_ n v t,ops=>ops++[⟨12,0,t,false,[n],[v],0⟩]
 | .iff bs,ops=>cI bs ops []
 |_,ops=>ops
def cI:Tree→List Ins→List Nat→List Ins
 | .belse b l,ops,out=>land (body b ops) out
 | .bcons t b l,ops,out=>
  if eH l=true then cI l (land (body b (unl t false ops).1) (unl t false ops).2) out
  else cI l (land (body b (unl t false ops).1++[jmp 3]) (unl t false ops).2) (out++[(body b (unl t false ops).1).length])
 |_,ops,out=>land ops out
end
def script(t:Tree):List Ins:=body t []
theorem aIJ(ops:List Ins)(k:Nat)(n:Int):(setN ops k n).length=ops.length:=by simp[setN]
theorem aFD(n:Int):∀(ps:List Nat) (o:List Ins),(ps.foldl (fun o k=>setN o k (n - 1 - k)) o).length=o.length:=by
 intro ps;induction ps with
 |nil=>intro o;rfl
 |cons k ps ih=>intro o;rw[List.foldl_cons,ih,aIJ]
theorem cH(ops:List Ins)(ps:List Nat):(land ops ps).length=ops.length:=aFD _ ps ops
def cnt:Tree→Nat
 | .const _=>1
 | .not_ t=>cnt t+1
 | .many _ l=>cnt l+1
 | .mat _ _ _ _ _=>1
 | .exi _=>1
 | .siz _ _=>1
 | .tnil=>0
 | .tcons t l=>cnt t+cnt l
 | .plain _=>1
 | .act _ _ _=>1
 | .set_ _ _ _=>1
 | .iff bs=>cnt bs+1
 | .cnil=>0
 | .ccons c l=>cnt c+cnt l
 | .bnil=>0
 | .bcons t b l=>cnt t+cnt b+cnt l+1
 | .belse b l=>cnt b+cnt l+1
theorem iU:∀(t:Tree),(∀tn ops,ops.length≤(unl t tn ops).1.length∧(unl t tn ops).1.length≤ops.length+2*cnt t∧(unl t tn ops).2.length≤cnt t∧∀k∈(unl t tn ops).2,k < (unl t tn ops).1.length)∧
  (∀all tn ops away here,(∀k∈away,k < ops.length)→(∀k∈here,k < ops.length)→ops.length≤(unlL all tn t ops away here).1.length∧(unlL all tn t ops away here).1.length≤ops.length+2*cnt t∧(unlL all tn t ops away here).2.1.length≤away.length+cnt t∧(unlL all tn t ops away here).2.2.length≤here.length+cnt t∧(∀k∈(unlL all tn t ops away here).2.1,k < (unlL all tn t ops away here).1.length)∧(∀k∈(unlL all tn t ops away here).2.2,k < (unlL all tn t ops away here).1.length)):=by
 intro t;induction t with
 |const b=>
  refine⟨fun tn ops=>?_,fun all tn ops away here h1 h2=>?_⟩
  ·simp only[unl,cnt];split <;> simp
  ·simp only[unlL];exact⟨Nat.le_refl _,by simp,by simp,by simp,h1,h2⟩
 |not_ t ih=>
  refine⟨fun tn ops=>?_,fun all tn ops away here h1 h2=>?_⟩
  ·have:=ih.1 (!tn) ops;simp only[unl,cnt];exact⟨this.1,by omega,by omega,this.2.2.2⟩
  ·simp only[unlL];exact⟨Nat.le_refl _,by simp,by simp,by simp,h1,h2⟩
 |many all l ih=>
  refine⟨fun tn ops=>?_,fun all tn ops away here h1 h2=>?_⟩
  ·have:=ih.2 all tn ops [] [] (by simp) (by simp);simp only[unl,cnt,cH];simp only[List.length_nil]at this;exact⟨this.1,by omega,by omega,this.2.2.2.2.1⟩
  ·simp only[unlL];exact⟨Nat.le_refl _,by simp,by simp,by simp,h1,h2⟩
 |mat tag oct op a b=>
  refine⟨fun tn ops=>?_,fun all tn ops away here h1 h2=>?_⟩
  ·simp[unl,cnt]
  ·simp only[unlL];exact⟨Nat.le_refl _,by simp,by simp,by simp,h1,h2⟩
 |exi a=>
  refine⟨fun tn ops=>?_,fun all tn ops away here h1 h2=>?_⟩
  ·simp[unl,cnt]
  ·simp only[unlL];exact⟨Nat.le_refl _,by simp,by simp,by simp,h1,h2⟩
 |siz tag n=>
  refine⟨fun tn ops=>?_,fun all tn ops away here h1 h2=>?_⟩
  ·simp[unl,cnt]
  ·simp only[unlL];exact⟨Nat.le_refl _,by simp,by simp,by simp,h1,h2⟩
 |tcons t l ih1 ih2=>
  refine⟨fun tn ops=>?_,fun all tn ops away here h1 h2=>?_⟩
  ·simp[unl]
  ·simp only[unlL,cnt];split
   ·have h3 := ih1.1 (!tn) ops;have h4 := ih2.2 all tn (unl t (!tn) ops).1 away (here ++ (unl t (!tn) ops).2) (fun k hk => by have := h1 k hk; omega) (fun k hk => by
     rcases List.mem_append.1 hk with h|h
     ·have:=h2 k h;omega
     ·exact h3.2.2.2 k h)
    simp only[List.length_append]at h4;exact⟨by omega,by omega,by omega,by omega,h4.2.2.2.2.1,h4.2.2.2.2.2⟩
   ·have h3 := ih1.1 tn ops;have h4 := ih2.2 all tn (unl t tn ops).1 (away ++ (unl t tn ops).2) here (fun k hk => by
     rcases List.mem_append.1 hk with h|h
     ·have:=h1 k h;omega
     ·exact h3.2.2.2 k h) (fun k hk=>by have:=h2 k hk;omega)
    simp only[List.length_append]at h4;exact⟨by omega,by omega,by omega,by omega,h4.2.2.2.2.1,h4.2.2.2.2.2⟩
 |_=>
  refine⟨fun tn ops=>?_,fun all tn ops away here h1 h2=>?_⟩
  ·simp[unl]
  ·simp only[unlL];exact⟨Nat.le_refl _,by simp,by simp,by simp,h1,h2⟩
theorem jW:∀(t:Tree),(∀ops,ops.length≤(body t ops).length∧(body t ops).length≤ops.length+2*cnt t)∧(∀ops,ops.length≤(cmdI t ops).length∧(cmdI t ops).length≤ops.length+2*cnt t)∧(∀ops out,ops.length≤(cI t ops out).length∧(cI t ops out).length≤ops.length+2*cnt t):=by
 intro t;induction t with
 |plain op=>exact⟨fun ops=>by simp[body],fun ops=>by simp[cmdI,cnt],fun ops out=>by simp[cI,cH]⟩
 |act k a p=>exact⟨fun ops=>by simp[body],fun ops=>by simp[cmdI,cnt],fun ops out=>by simp[cI,cH]⟩
 |set_ n v t=>exact⟨fun ops=>by simp[body],fun ops=>by simp[cmdI,cnt],fun ops out=>by simp[cI,cH]⟩
 |iff bs ih=>exact⟨fun ops=>by simp[body],fun ops=>by have:=ih.2.2 ops [];simp only[cmdI,cnt];omega,fun ops out=>by simp[cI,cH]⟩
 |ccons c l ih1 ih2=>
  refine⟨fun ops=>?_,fun ops=>by simp[cmdI],fun ops out=>by simp[cI,cH]⟩
  have h1:=ih1.2.1 ops;have h2:=ih2.1 (cmdI c ops);simp only[body,cnt];omega
 |belse b l ih1 ih2=>
  refine⟨fun ops=>by simp[body],fun ops=>by simp[cmdI],fun ops out=>?_⟩
  have h1:=ih1.1 ops;simp only[cI,cnt,cH];omega
 |bcons t b l ih1 ih2 ih3=>
  refine⟨fun ops=>by simp[body],fun ops=>by simp[cmdI],fun ops out=>?_⟩
  have h0:=(iU t).1 false ops;have h1:=ih2.1 (unl t false ops).1;simp only[cI,cnt];split
  ·have h2:=ih3.2.2 (land (body b (unl t false ops).1) (unl t false ops).2) out;rw[cH]at h2;omega
  ·have h2:=ih3.2.2 (land (body b (unl t false ops).1++[jmp 3]) (unl t false ops).2) (out++[(body b (unl t false ops).1).length]);rw[cH]at h2;simp only[List.length_append,List.length_singleton]at h2;omega
 |_=>exact⟨fun ops=>by simp[body],fun ops=>by simp[cmdI],fun ops out=>by simp[cI,cH]⟩
end Go.Cmp
end
section
namespace Go.Cmp
open Go Go.SL Go.Syn Go.Mach
structure InsV where
 op:Int
 n:Int
 tag:Int
 oct:Bool
 a:Cell
 b:Cell
 at_:Int
def nilC:Cell:=⟨.slice none 0 0,rfl⟩
def gR:El InsV:={e:=41,sz:=7,enc:=fun v=>[i64 v.op,i64 v.n,i64 v.tag,.bool v.oct,v.a.1,v.b.1,i64 v.at_],len:=fun _=>rfl,one:=fun v u h=>by simp at h;rcases h with rfl|rfl|rfl|rfl|rfl|rfl|rfl;rfl;rfl;rfl;rfl;exact v.a.2;exact v.b.2;rfl}
def jT(e:TypeId):El Nat:={e:=e,sz:=1,enc:=fun n=>[i64 n],len:=fun _=>rfl,one:=fun _ u h=>by simp at h;subst h;rfl}
def RIns(K:Hl)(v:InsV)(o:Ins):Prop:=v.op=o.op∧v.n=o.n∧v.tag=o.tag∧v.oct=o.oct∧v.at_=o.at_∧Ksl (bC 9) K v.a.1 o.a∧Ksl (bC 9) K v.b.1 o.b
def RIs(K:Hl):List InsV→List Ins→Prop
 | [],[]=>True
 |v::vs,o::os=>RIns K v o∧RIs K vs os
 |_,_=>False
theorem RIns.mono{K K':Hl}{v:InsV}{o:Ins}(h:RIns K v o)(le:K.le K'):RIns K' v o:=⟨h.1,h.2.1,h.2.2.1,h.2.2.2.1,h.2.2.2.2.1,h.2.2.2.2.2.1.mono le,h.2.2.2.2.2.2.mono le⟩
theorem RIs.mono{K K':Hl}(le:K.le K'):∀ {vs:List InsV} {os:List Ins},RIs K vs os→RIs K' vs os
 | [],[],_=>trivial
 |_::_,_::_,h=>⟨h.1.mono le,RIs.mono le h.2⟩
theorem RIs.length{K:Hl}:∀ {vs:List InsV} {os:List Ins},RIs K vs os→vs.length=os.length
 | [],[],_=>rfl
 |_::_,_::_,h=>by simp[RIs.length h.2]
theorem RIs.append{K:Hl}{ws:List InsV}{ps:List Ins}(h2:RIs K ws ps):∀ {vs:List InsV} {os:List Ins},RIs K vs os→RIs K (vs++ws) (os++ps)
 | [],[],_=>h2
 |_::_,_::_,h=>⟨h.1,RIs.append h2 h.2⟩
theorem RIs.get{K:Hl}:∀ {vs:List InsV} {os:List Ins} {i:Nat} {v:InsV},RIs K vs os→vs[i]?=some v→∃o,os[i]?=some o∧RIns K v o
 |_::_,o::_,0,_,h,e=>by simp at e;subst e;exact⟨o,rfl,h.1⟩
 |_::_,_::_,i+1,_,h,e=>by simpa using RIs.get h.2 gBS
def nP(vs:List InsV)(k:Nat)(n:Int):List InsV:=vs.modify k fun o=>{o with n:=n}
def vY(vs:List InsV)(ps:List Nat):List InsV:=ps.foldl (fun o k=>nP o k ((vs.length:Int) - 1 - k)) vs
theorem RIs.setN{K:Hl}{n:Int}:∀ {vs:List InsV} {os:List Ins} {k:Nat},RIs K vs os→RIs K (nP vs k n) (Cmp.setN os k n)
 | [],[],k,_=>by
  have e1:nP [] k n=[]:=List.eq_nil_of_length_eq_zero (by simp[nP]);have e2:Cmp.setN [] k n=[]:=List.eq_nil_of_length_eq_zero (by simp[Cmp.setN]);rw[e1,e2];trivial
 |v::vs,o::os,0,h=>⟨⟨h.1.1,rfl,h.1.2.2.1,h.1.2.2.2.1,h.1.2.2.2.2.1,h.1.2.2.2.2.2.1,h.1.2.2.2.2.2.2⟩,h.2⟩
 |v::vs,o::os,k+1,h=>⟨h.1,RIs.setN (k:=k) h.2⟩
theorem RIs.land{K:Hl}{vs:List InsV}{os:List Ins}{ps:List Nat}(h:RIs K vs os):RIs K (vY vs ps) (Cmp.land os ps):=by
 unfold vY Cmp.land;rw[←h.length]
 generalize ((vs.length:Nat):Int)=m
 revert vs os
 induction ps with
 |nil=>intro vs os h;exact h
 |cons k ps ih=>intro vs os h;exact ih h.setN
theorem aFT(vs:List InsV)(k:Nat)(n:Int):(nP vs k n).length=vs.length:=by simp[nP]
theorem aKI{vs:List InsV}{ps:List Nat}{i p:Nat}{m:Int}(h:ps[i]?=some p):(ps.take (i+1)).foldl (fun o k=>nP o k (m - 1 - k)) vs=nP ((ps.take i).foldl (fun o k=>nP o k (m - 1 - k)) vs) p (m - 1 - p):=by
 have hi:i < ps.length:=by
  rcases Nat.lt_or_ge i ps.length with h'|h'
  ·exact h'
  ·simp[List.getElem?_eq_none h']at h
 have hc:ps[i]=p:=by simpa[List.getElem?_eq_getElem hi]using h
 rw[List.take_succ_eq_append_getElem hi,hc];simp
theorem vV(m:Int):∀(ps:List Nat) (o:List InsV),(ps.foldl (fun o k=>nP o k (m - 1 - k)) o).length=o.length:=by
 intro ps;induction ps with
 |nil=>intro o;rfl
 |cons k ps ih=>intro o;rw[List.foldl_cons,ih,aFT]
theorem iD(vs:List InsV)(ps:List Nat):(vY vs ps).length=vs.length:=vV _ ps vs
theorem aPD{vs:List InsV}{k:Nat}{n:Int}{v:InsV}(h:vs[k]?=some v):nP vs k n=vs.set k {v with n:=n}:=by
 unfold nP;have hi:k < vs.length:=by
  rcases Nat.lt_or_ge k vs.length with h'|h'
  ·exact h'
  ·simp[List.getElem?_eq_none h']at h
 have hc:vs[k]=v:=by simpa[List.getElem?_eq_getElem hi]using h
 apply List.ext_getElem (by simp)
 intro i h1 h2;rw[List.getElem_modify,List.getElem_set];split
 ·rename_i e;subst e;rw[hc]
 ·rfl
def cdr(b:Nat)(vs:List InsV):Asn:=exA fun cv=>[pt b (aU [cv] 217),sl false gR cv vs]
theorem aFR{b:Nat}{vs:List InsV}{cv:Value}{M:List Asn}:∀h,Sat (pt b (aU [cv] 217)::sl false gR cv vs::M) h→Sat (cdr b vs::M) h:=fun h hh=>lB.2 ⟨cv,hh⟩
end Go.Cmp
end
section
namespace Go.Mach
open Go Go.SL Go.Syn
def iK:List (aJ×aJ)→(Nat→Nat)→List Ent
 | [],_=>[]
 |(k,v)::r,f=>(k,.agg #[str v],f 0)::iK r (fun n=>f (n+1))
theorem aP8(k:aJ):∀(vars:List (aJ×aJ)) (f:Nat→Nat),(mget (iK vars f) k).getD (.agg #[str []])=.agg #[str (vget vars k)]:=by
 intro vars;induction vars with
 |nil=>intro f;rfl
 |cons p r ih=>
  obtain⟨j,v⟩:=p;intro f;unfold iK vget mget;rw[List.find?_cons]
  by_cases h:k=j
  ·subst h;simp
  ·rw[if_neg (fun e=>h e.symm),decide_eq_false h];exact ih _
theorem aP9(k v:aJ)(c:Nat):∀(vars:List (aJ×aJ)) (f:Nat→Nat),∃f',mset k (.agg #[str v]) c (iK vars f)=iK (vput vars k v) f':=by
 intro vars;induction vars with
 |nil=>intro f;exact⟨fun _=>c,rfl⟩
 |cons p r ih=>
  obtain⟨j,u⟩:=p;intro f;unfold iK vput mset
  by_cases h:k=j
  ·subst h;rw[if_pos rfl,if_pos rfl];exact⟨f,rfl⟩
  ·rw[if_neg h,if_neg (fun e=>h e.symm)];obtain⟨f',hf⟩:=ih (fun n=>f (n+1));refine⟨fun n=>match n with|0=>f 0|n+1=>f' n,?_⟩
   rw[hf]
theorem aE9(s:aJ)(c:UInt8): -1≤Lib.indexByte s c∧Lib.indexByte s c < s.length:=by
 refine⟨Lib.indexByte_ge s c,?_⟩
 by_cases h:Lib.indexByte s c < 0
 ·omega
 ·have e:Lib.indexByte s c=((Lib.indexByte s c).toNat:Nat):=by omega
  obtain⟨h1,_⟩:=Lib.indexByte_some e;rcases Nat.lt_or_ge (Lib.indexByte s c).toNat s.length with h'|h'
  ·omega
  ·rw[List.getElem?_eq_none h']at h1;cases h1
end Go.Mach
end
section
attribute [local irreducible] Go.SL.T Go.SL.OL Go.SL.D Go.SL.DL Go.SL.Ev Go.SL.Ef Go.SL.EfS
namespace Go.Proofs
open Go Go.SL Go.Syn
theorem sP(v:Value)(x:List UInt8)(xs:List (List UInt8))(K:Hl)(L:List Asn)(hv:SeesSl (bC 9) K L v xs)(hn:xs.length≤1000000):
  Sp Tryz.prog 195 [v,str x] K L (Ret fun u K' L'=>u=i64 (cQ xs x)∧K'=K∧L'=L):=by
 refine aZ Tryz.func195 rfl Tryz.ntmps195 rfl rfl fun F w=>?_
 refine zz9 ?_;refine aA (bX (k:=bC 9) rfl Tryz.underlying39 rfl hv) rfl ?_;refine zz4 ?_;refine d6 (fun(i:Nat)=>i≤xs.length∧∀j:Nat,j < i→xs[j]?≠some x) (fun i=>[(0,v),(1,str x),(7,i64 xs.length),(8,i64 i)]) (fun _=>K) (fun _=>L) (fun i=>xs.length - i) 0 ⟨Nat.zero_le _,fun j h=>by omega⟩ (.cons 0 rfl (.cons 1 rfl (.cons 7 rfl (.cons 8 rfl .nil)))) rfl (fun _ h=>h) ?_;intro i ⟨hi1,hi2⟩;refine zz6 ?_;refine bG 9 rfl (fun h9=>?_) (fun h9=>?_)
 ·
  obtain⟨y,hy⟩:∃y,xs[i]?=some y:=⟨xs[i]'(by omega),List.getElem?_eq_getElem aH⟩;have hlen:i < xs.length:=by omega
  refine zz15 ?_;refine aA (bQ (k:=bC 9) bS rfl hv rfl rfl hlen) rfl ?_;refine aA (cV (o:=0) (k:=bC 9) ts9 rfl hv hy rfl) rfl ?_;refine zz3 ?_;refine bG 16 rfl (fun h16=>?_) (fun h16=>?_)
  ·
   refine zz13 ?_;exact⟨_,rfl,by rw[aO2 hi2 (h16▸hy)],rfl,rfl⟩
  ·
   refine zz7 ?_;refine cG (i+1) ⟨by omega,?_⟩ aH (.cons 0 rfl (.cons 1 rfl (.cons 7 rfl (.cons 8 rfl .nil)))) rfl (fun _ h=>h)
   intro j hj e
   by_cases hji:j=i
   ·subst hji;rw[hy]at e;exact h16 (Option.some.inj e).symm
   ·exact hi2 j aH e
 ·
  refine zz12 ?_;exact⟨_,rfl,by rw[aO4 (fun j hj=>hi2 j aH)],rfl,rfl⟩
theorem l6(v:Value)(x:List UInt8)(xs:List (List UInt8))(K:Hl)(L:List Asn)(hv:SeesSl (bC 9) K L v xs)(hn:xs.length≤1000000):
  Sp Tryz.prog 108 [v,str x] K L (Ret fun u K' L'=>u=.bool (decide (x∈xs))∧K'=K∧L'=L):=by
 refine aZ Tryz.func108 rfl Tryz.ntmps108 rfl rfl fun F w=>?_
 refine zz9 ?_;refine aY rfl rfl (sP v x xs _ _ hv hn) (cX _) rfl ?_;rintro _ K _ ⟨rfl,rfl,rfl⟩ -;refine zz5 ?_;rw[List.append_nil];refine zz1 ?_;exact⟨_,rfl,by rw[decide_eq_decide.2 (aKT xs x)],rfl,rfl⟩
abbrev psb(b:Nat)(s:List UInt8)(st:St)(rest:List Value):Asn:=lxw b 208 s st.1 st.2 rest
theorem aHE(b:Nat)(x:List UInt8)(xs:List (List UInt8))(l:List Value)(T:TypeId)(nv:Value)(K:Hl)(L:List Asn)(hb:Sees K L b (aU l T))(hl:l[6]?=some nv)(hv:SeesSl (bC 9) K L nv xs)(hn:xs.length≤1000000):
  Sp Tryz.prog 59 [ptr b 6,str x] K L (Ret fun u K' L'=>u=.bool (decide (x∈xs))∧K'=K∧L'=L):=by
 refine aZ Tryz.func59 rfl Tryz.ntmps59 rfl rfl fun F w=>?_
 refine zz10 ?_;refine aA (aL ts39 rfl hb hl) rfl ?_;refine zz1 ?_;refine aY rfl rfl (l6 nv x xs _ _ hv hn) (cX _) rfl ?_;rintro _ K _ ⟨rfl,rfl,rfl⟩ -;refine zz4 ?_;rw[List.append_nil];refine zz1 ?_;exact⟨_,rfl,rfl,rfl,rfl⟩
theorem iH(b:Nat)(s:List UInt8)(st:St)(rest:List Value)(K:Hl):
  Sp Tryz.prog 106 [ptr b] K [psb b s st rest] (Flt 4 st.2.at_):=by
 refine aZ Tryz.func106 rfl Tryz.ntmps106 rfl rfl fun F w=>?_
 refine zz7 ?_;refine aX rfl rfl (eL 4 st.2.at_ _) .nil rfl gBM ?_ ?_
 ·
  rintro _ _ _ ⟨fb,h,rfl⟩ le1;cases h
  refine uAa ?_;refine zz1 ?_;exact⟨fb,rfl,rfl⟩
 ·
  rintro _ _ _ ⟨_,h,_⟩;cases h
theorem uV(b:Nat)(s:List UInt8)(st:St)(nv:Value)(rest:List Value)(needs:List (List UInt8))(x:List UInt8)(K:Hl)(hv:Ksl (bC 9) K nv needs)(hn:needs.length≤1000000):
  Sp Tryz.prog 261 [ptr b,str x] K [psb b s st (nv::rest)] (f6 (if x∈needs then .ok ()else .error (6,st.2.at_)) fun _ v K' L'=>v=.tuple #[]∧K'=K∧L'=[psb b s st (nv::rest)]):=by
 refine aZ Tryz.func261 rfl Tryz.ntmps261 rfl rfl fun F w=>?_
 refine zz6 ?_;refine aY rfl rfl (aHE b x needs _ _ nv _ _ (.own .here) rfl (.known hv) hn) (.cons .here .nil) rfl ?_;rintro _ K _ ⟨rfl,rfl,rfl⟩ -;refine aA gBN rfl ?_;refine zz2 ?_;refine bG 9 rfl (fun h9=>?_) (fun h9=>?_)
 ·
  refine zz7 ?_;refine aX rfl rfl (eL 6 st.2.at_ _) .nil rfl gBM ?_ ?_
  ·
   rintro _ _ _ ⟨fb,h,rfl⟩ le1;cases h
   refine uAa ?_;refine zz1 ?_;rw[if_neg h9];exact⟨fb,rfl,rfl⟩
  ·
   rintro _ _ _ ⟨_,h,_⟩;cases h
 ·
  refine zz2 ?_;rw[if_pos (Classical.not_not.1 h9)];exact⟨_,rfl,rfl,rfl,rfl⟩
abbrev wagg(w:Word):Value:=.agg #[.int .u8 w.kind,str w.s,i64 w.n,i64 w.at_]
theorem aDP{s:List UInt8}{st:St}{k:Nat}{texts:List (List UInt8)}(h:¬(st.2.kind:Int)=k):take s st k texts=.error (4,st.2.at_):=by
 unfold take;rw[if_pos (.inl aH)]
theorem aDQ{s:List UInt8}{st:St}{k:Nat}{texts:List (List UInt8)}(h:0 < (texts.length:Int))(hm:¬st.2.s∈texts):take s st k texts=.error (4,st.2.at_):=by
 unfold take;rw[if_pos (.inr ⟨by rintro rfl;simp at h,hm⟩)]
theorem pH{s:List UInt8}{st:St}{k:Nat}{texts:List (List UInt8)}(h:¬ ¬(st.2.kind:Int)=k)(hm:¬0 < (texts.length:Int)∨¬ ¬st.2.s∈texts):
  take s st k texts=match Syn.next s st.1 with| .error e=>.error e| .ok r=>.ok (st.2,r):=by
 have hn:¬(st.2.kind≠k∨(texts≠[]∧st.2.s∉texts)):=by
  rintro(h1|⟨h1,h2⟩)
  ·omega
  ·rcases hm with hm|hm
   ·exact h1 (List.length_eq_zero_iff.1 aH)
   ·exact hm h2
 unfold take;exact(if_neg hn).trans (by cases Syn.next s st.1 <;> rfl)
theorem mT(b:Nat)(s:List UInt8)(st:St)(rest:List Value)(k:Nat)(tv:Value)(texts:List (List UInt8))(K:Hl)(hs:s.length≤600)(ha:st.1≤s.length)(hg:Glob K)(hv:Ksl (bC 9) K tv texts)(hn:texts.length≤1000000):
  Sp Tryz.prog 179 [ptr b,.int .u8 k,tv] K [psb b s st rest] (f6 (take s st k texts) fun r v K' L'=>v=wagg r.1∧K'=K∧L'=[psb b s r.2 rest]):=by
 refine aZ Tryz.func179 rfl Tryz.ntmps179 rfl rfl fun F w=>?_
 refine zz3 ?_;rintro _ K _ ⟨b6,rfl,rfl,rfl⟩ -;refine zz10 ?_;rintro _ K _ ⟨b7,rfl,rfl,rfl⟩ -;refine bR (cM nU rfl rfl rfl bB gBK (.cons (.cons (.cons (.cons .nil)))) gBU) ?_;rintro _ K _ ⟨rfl,rfl⟩ -;refine zz10 ?_;refine cF 17 rfl (fun g17=>?_) (fun g17=>?_)
 ·
  refine zz16 ?_;refine aX rfl rfl (iH b s st rest _) (.cons (.there (.there .here)) .nil) rfl gBM ?_ ?_
  ·
   rintro _ _ _ ⟨fb,h,rfl⟩ le1;cases h
   refine uAa ?_;refine zz2 ?_
   first
    |rw[aDP g17]
    |rw[aDQ g21 h28]
   exact⟨fb,rfl,rfl⟩
  ·
   rintro _ _ _ ⟨_,h,_⟩;cases h
 ·
  refine zz3 ?_;refine aA (bX (k:=bC 9) rfl Tryz.underlying39 rfl (.known hv)) rfl ?_;refine zz4 ?_;refine cF 21 rfl (fun g21=>?_) (fun g21=>?_)
  ·
   refine zz7 ?_;refine aY rfl rfl (l6 tv st.2.s texts _ [] (.known hv) hn) .nil rfl ?_;rintro _ K _ ⟨rfl,rfl,rfl⟩ -;refine zz1 ?_;refine aA gBN rfl ?_;refine zz5 ?_;refine bG 28 rfl (fun h28=>?_) (fun h28=>?_)
   ·
    refine zz2 ?_;refine aX rfl rfl (iH b s st rest _) (.cons (.there (.there .here)) .nil) rfl gBM ?_ ?_
    ·
     rintro _ _ _ ⟨fb,h,rfl⟩ le1;cases h
     refine uAa ?_;refine zz2 ?_
     first
      |rw[aDP g17]
      |rw[aDQ g21 h28]
     exact⟨fb,rfl,rfl⟩
    ·
     rintro _ _ _ ⟨_,h,_⟩;cases h
   ·
    refine zz7 ?_;refine aX rfl rfl (dJ b 208 s st.1 _ _ _ _ rest hs ha _ hg) (.cons (.there (.there .here)) .nil) rfl (fun _ _=>a7 _ _) ?_ ?_
    ·
     rintro _ _ _ hT2 le1;obtain⟨e,p,hr,fb,h,rfl⟩:=a8 hT2;cases h
     refine uAa ?_;refine zz2 ?_
     first
      |rw[pH g17 (.inr h28),hr]
      |rw[pH g17 (.inl g21),hr]
     exact⟨fb,rfl,rfl⟩
    rintro _ K _ hT2 -;obtain⟨r,hr,rfl,rfl,rfl⟩:=bA hT2;refine zz5 ?_;refine bR (cM nU rfl rfl rfl bB gBK (.cons (.cons (.cons (.cons .nil)))) gBU) ?_;rintro _ K _ ⟨rfl,rfl⟩ -;refine zz3 ?_;refine w9 rfl rfl nU aN rfl rfl (Hl.le_refl _) (.cons (by first|exact .here|exact .there .here|exact .there (.there .here)) .nil) ?_
    first
     |rw[pH g17 (.inr h28),hr]
     |rw[pH g17 (.inl g21),hr]
    exact⟨_,rfl,rfl,rfl,rfl⟩
  ·
   refine zz18 ?_;refine aX rfl rfl (dJ b 208 s st.1 _ _ _ _ rest hs ha _ hg) (.cons (.there (.there .here)) .nil) rfl (fun _ _=>a7 _ _) ?_ ?_
   ·
    rintro _ _ _ hT2 le1;obtain⟨e,p,hr,fb,h,rfl⟩:=a8 hT2;cases h
    refine uAa ?_;refine zz2 ?_
    first
     |rw[pH g17 (.inr h28),hr]
     |rw[pH g17 (.inl g21),hr]
    exact⟨fb,rfl,rfl⟩
   rintro _ K _ hT2 -;obtain⟨r,hr,rfl,rfl,rfl⟩:=bA hT2;refine zz5 ?_;refine bR (cM nU rfl rfl rfl bB gBK (.cons (.cons (.cons (.cons .nil)))) gBU) ?_;rintro _ K _ ⟨rfl,rfl⟩ -;refine zz3 ?_;refine w9 rfl rfl nU aN rfl rfl (Hl.le_refl _) (.cons (by first|exact .here|exact .there .here|exact .there (.there .here)) .nil) ?_
   first
    |rw[pH g17 (.inr h28),hr]
    |rw[pH g17 (.inl g21),hr]
   exact⟨_,rfl,rfl,rfl,rfl⟩
theorem Glob.mono{K K':Hl}(h:Glob K)(le:K.le K'):Glob K':=⟨let ⟨m,T,fz,e⟩:=h.maxLen;⟨m,T,fz,le _ _ e⟩,fun w l=>h.pow10 w (Hl.le_trans le l)⟩
theorem aDK(b:Nat)(s:List UInt8)(st:St)(rest:List Value)(x:List UInt8)(K:Hl)(hs:s.length≤600)(ha:st.1≤s.length)(hg:Glob K):
  Sp Tryz.prog 104 [ptr b,str x] K [psb b s st rest] (f6 (Syn.sign s st x) fun r v _ L'=>v=.tuple #[]∧L'=[psb b s r rest]):=by
 refine aZ Tryz.func104 rfl Tryz.ntmps104 rfl rfl fun F w=>?_
 refine zz3 ?_;refine ol_s (a6 (z0:=[(str [])]) bS tz9 rfl rfl rfl rfl (.cons rfl rfl rfl (.cons .nil) .nil)) rfl ?_;rintro _ K _ ⟨b6,rfl,rfl,rfl⟩ -;refine fW fun K1 le1 hK1=>?_
 refine aX rfl rfl (mT b s st rest 5 _ [x] _ hs ha (hg.mono le1) (.inr ⟨b6,0,1,[str x],(0,0),rfl,⟨_,hK1⟩,rfl⟩) (by simp)) (.cons .here .nil) rfl (fun _ _=>a7 _ _) ?_ ?_
 ·
  rintro _ _ _ hT2 le2;obtain⟨e,p,hr,fb,h,rfl⟩:=a8 hT2;cases h
  refine uAa ?_;refine bF (Hl.le_trans le1 le2) ?_;unfold Syn.sign;rw[hr];exact⟨fb,rfl,rfl⟩
 rintro _ K2 _ hT2 le2;obtain⟨r,hr,rfl,rfl,rfl⟩:=bA hT2;refine aF ?_;refine cT rfl le1 ?_;unfold Syn.sign;rw[hr];exact⟨_,rfl,rfl,rfl⟩
theorem aAC(b:Nat)(s:List UInt8)(st:St)(rest:List Value)(x:List UInt8)(K:Hl)(hs:s.length≤600)(ha:st.1≤s.length)(hg:Glob K):
  Sp Tryz.prog 190 [ptr b,str x] K [psb b s st rest] (f6 (eat s st x) fun r v K' L'=>v=.bool r.1∧K'=K∧L'=[psb b s r.2 rest]):=by
 refine aZ Tryz.func190 rfl Tryz.ntmps190 rfl rfl fun F w=>?_
 refine zz15 ?_;refine cF 13 rfl (fun g13=>?_) (fun g13=>?_)
 ·
  refine zz26 ?_;refine bG 23 rfl (fun h23=>?_) (fun h23=>?_)
  ·
   refine zz4 ?_;refine aX rfl rfl (dJ b 208 s st.1 _ _ _ _ rest hs ha _ hg) (.cons .here .nil) rfl (fun _ _=>a7 _ _) ?_ ?_
   ·
    rintro _ _ _ hT2 le1;obtain⟨e,p,hr,fb,h,rfl⟩:=a8 hT2;cases h
    refine uAa ?_;refine zz2 ?_;unfold eat;rw[if_pos ⟨by omega,h23⟩,hr];exact⟨fb,rfl,rfl⟩
   rintro _ K _ hT2 -;obtain⟨r,hr,rfl,rfl,rfl⟩:=bA hT2;refine zz10 ?_;unfold eat
   first
    |exact gBA
    |exact gBB
    |(rw[if_neg aH];exact⟨_,rfl,rfl,rfl,rfl⟩)
  ·
   refine zz10 ?_;unfold eat
   first
    |exact gBA
    |exact gBB
    |(rw[if_neg aH];exact⟨_,rfl,rfl,rfl,rfl⟩)
 ·
  refine zz29 ?_;unfold eat
  first
   |exact gBA
   |exact gBB
   |(rw[if_neg aH];exact⟨_,rfl,rfl,rfl,rfl⟩)
theorem kF(b:Nat)(s:List UInt8)(st:St)(rest:List Value)(fn:FuncId)(caps:Array Value)(ff:List UInt8→Int)(K:Hl)(hs:s.length≤600)(ha:st.1≤s.length)(hw:st.2.s.length≤s.length)(hg:Glob K)
  (hf:∀x:List UInt8,x.length≤600→Sp Tryz.prog fn (str x::caps.toList) K [] (Val (i64 (ff x)) K)):
  Sp Tryz.prog 191 [ptr b,.func (.func fn) #[] caps] K [psb b s st rest] (f6 (Syn.text s st ff) fun r v K' L'=>v=str r.1∧K'=K∧L'=[psb b s r.2 rest]):=by
 refine aZ Tryz.func191 rfl Tryz.ntmps191 rfl rfl fun F w=>?_
 refine zz17 ?_;refine bG 12 rfl (fun h12=>?_) (fun h12=>?_)
 ·
  refine zz9 ?_;refine cE rfl rfl (hf st.2.s aH) rfl ?_;refine zz9 ?_;refine bG 22 rfl (fun h22=>?_) (fun h22=>?_)
  ·
   refine zz8 ?_;refine aX rfl rfl (eL (ff st.2.s) st.2.at_ _) .nil rfl gBM ?_ ?_
   ·
    rintro _ _ _ ⟨fb,h,rfl⟩ le1;cases h
    refine uAa ?_;refine zz2 ?_;unfold Syn.text;rw[if_pos ⟨by omega,by omega⟩];exact⟨fb,rfl,rfl⟩
   ·
    rintro _ _ _ ⟨_,h,_⟩;cases h
  ·
   refine zz5 ?_;refine aX rfl rfl (mT b s st rest 3 _ [] _ hs ha hg (.inl ⟨none,0,rfl,rfl⟩) (by simp)) (.cons .here .nil) rfl (fun _ _=>a7 _ _) ?_ ?_
   ·
    rintro _ _ _ hT2 le1;obtain⟨e,p,hr,fb,h,rfl⟩:=a8 hT2;cases h
    refine uAa ?_;refine zz2 ?_;unfold Syn.text;rw[if_neg aH,hr];exact⟨fb,rfl,rfl⟩
   rintro _ K _ hT2 -;obtain⟨r,hr,rfl,rfl,rfl⟩:=bA hT2;refine zz6 ?_;unfold Syn.text;rw[if_neg aH,hr];exact⟨_,rfl,rfl,rfl,rfl⟩
 ·
  refine zz5 ?_;refine aX rfl rfl (mT b s st rest 3 _ [] _ hs ha hg (.inl ⟨none,0,rfl,rfl⟩) (by simp)) (.cons .here .nil) rfl (fun _ _=>a7 _ _) ?_ ?_
  ·
   rintro _ _ _ hT2 le1;obtain⟨e,p,hr,fb,h,rfl⟩:=a8 hT2;cases h
   refine uAa ?_;refine zz2 ?_;unfold Syn.text;rw[if_neg aH,hr];exact⟨fb,rfl,rfl⟩
  rintro _ K _ hT2 -;obtain⟨r,hr,rfl,rfl,rfl⟩:=bA hT2;refine zz6 ?_;unfold Syn.text;rw[if_neg aH,hr];exact⟨_,rfl,rfl,rfl,rfl⟩
end Go.Proofs
end
section
attribute [local irreducible] Go.SL.T Go.SL.OL Go.SL.D Go.SL.DL Go.SL.Ev Go.SL.Ef Go.SL.EfS
namespace Go.Proofs
open Go Go.SL Go.Syn
theorem aTT(b:Nat)(x:List UInt8):∀h,pt b (aU [str x] 9) h→sl false (bC 9) (.slice (some ⟨b,0,none⟩) 1 1) [x] h:=
 wM (k:=bC 9) (xs:=[x]) (cells:=[str x]) (Nat.le_refl _) rfl rfl (.inl (Nat.le_refl _)) (fun h=>by cases h)
theorem aNX(b:Nat)(s:List UInt8)(st:St)(rest:List Value)(fn:FuncId)(caps:Array Value)(ff:List UInt8→Int)(K:Hl)(hs:s.length≤600)(hok:Ok s st)(hg:Glob K)
  (hf:∀x:List UInt8,x.length≤600→Sp Tryz.prog fn (str x::caps.toList) K [] (Val (i64 (ff x)) K)):
  Sp Tryz.prog 102 [ptr b,.func (.func fn) #[] caps] K [psb b s st rest] (f6 (Syn.list s st ff) fun r v _ L'=>L'=[sl false (bC 9) v r.1,psb b s r.2 rest]):=by
 refine aZ Tryz.func102 rfl Tryz.ntmps102 rfl rfl fun F w=>?_
 have ha:=hok.1;refine zz9 ?_;refine aX rfl rfl (aAC b s st rest [91] _ hs ha hg) (.cons .here .nil) rfl (fun _ _=>a7 _ _) ?_ ?_
 ·
  rintro _ _ _ hT2 le1;obtain⟨e,p,hr,fb,h,rfl⟩:=a8 hT2;cases h
  refine uAa ?_;refine zz3 ?_;unfold Syn.list;rw[hr];exact⟨fb,rfl,rfl⟩
 rintro _ K _ hT2 -;obtain⟨r,hr,rfl,rfl,rfl⟩:=bA hT2;obtain⟨hr1,hr2,hr3⟩:=rW ha hr;have hro:=xB hok hr;refine aA gBN rfl ?_;refine zz2 ?_;refine d8 8 rfl (fun h8=>?_) (fun h8=>?_)
 ·
  refine zz4 ?_;refine aX rfl rfl (kF b s r.2 rest fn caps ff _ hs hr1 hro.2 hg hf) (.cons .here .nil) rfl (fun _ _=>a7 _ _) ?_ ?_
  ·
   rintro _ _ _ hT3 le1;obtain⟨e,p,hq,fb,h,rfl⟩:=a8 hT3;cases h
   refine uAa ?_;refine zz3 ?_;unfold Syn.list;rw[hr];simp only[];rw[hq];exact⟨fb,rfl,rfl⟩
  rintro _ K _ hT3 -;obtain⟨q,hq,rfl,rfl,rfl⟩:=bA hT3;obtain⟨hq1,hq2⟩:=iR hr1 hq;refine ol_s (a6 (z0:=[(str [])]) bS tz9 rfl rfl rfl rfl (.cons rfl rfl rfl (.cons .nil) .nil)) rfl ?_;rintro _ K _ ⟨b12,rfl,rfl,rfl⟩ -;refine zz5 ?_;refine eD (iF (aTT b12 q.1)) ?_;refine bJ rfl rfl (by first|exact Hl.le_refl _|assumption) ?_;have hl:Syn.list s st ff=.ok ([q.1],q.2):=(by unfold Syn.list;rw[hr];simp only[];rw[hq];simp only[];rw[if_neg (by simpa using h8)]);rw[hl];exact⟨_,rfl,rfl⟩
 ·
  refine zz6 ?_;refine aX rfl rfl (kF b s r.2 rest fn caps ff _ hs hr1 hro.2 hg hf) (.cons .here .nil) rfl (fun _ _=>a7 _ _) ?_ ?_
  ·
   rintro _ _ _ hT3 le1;obtain⟨e,p,hq,fb,h,rfl⟩:=a8 hT3;cases h
   refine uAa ?_;refine zz2 ?_;unfold Syn.list;rw[hr];simp only[];rw[hq];exact⟨fb,rfl,rfl⟩
  rintro _ K _ hT3 -;obtain⟨q,hq,rfl,rfl,rfl⟩:=bA hT3;obtain⟨hq1,hq2⟩:=iR hr1 hq;refine ol_s (a6 (z0:=[(str [])]) bS tz9 rfl rfl rfl rfl (.cons rfl rfl rfl (.cons .nil) .nil)) rfl ?_;rintro _ K _ ⟨b16,rfl,rfl,rfl⟩ -;refine zz5 ?_;refine wP (fun(st2:St) (v:Value) (acc:List (List UInt8))=>Ok s st2∧acc.length+mu s st2≤1300∧∃f,mu s st2≤f∧Syn.list s st ff=lZ s ff (f+1) st2 acc) (fun _ v _=>[(0,ptr b),(1,.func (.func fn) #[] caps),(5,v)]) (fun _ _ _=>K) (fun st2 v acc=>[sl false (bC 9) v acc,psb b s st2 rest]) (fun st2 _ _=>mu s st2) q.2 _ [q.1] ⟨l8 hr1 hq,by have:=wG s q.2;simp;omega,mu s q.2,Nat.le_refl _,by unfold Syn.list;rw[hr];simp only[];rw[hq];simp only[];rw[if_pos (by simpa using h8)]⟩ (.cons 0 rfl (.cons 1 rfl (.cons 5 rfl .nil))) rfl (iF (aTT b16 q.1)) ?_;intro st2 v acc ⟨hi1,hi2,f,hi3,hi4⟩;refine zz4 ?_;refine aX rfl rfl (aAC b s st2 rest [44] _ hs hi1.1 hg) (.cons (.there .here) .nil) rfl (fun _ _=>a7 _ _) ?_ ?_
  ·
   rintro _ _ _ hT4 le1;obtain⟨e,p,hy,fb,h,rfl⟩:=a8 hT4;cases h
   refine uAa ?_;refine zz6 ?_;rw[hi4];simp only[lZ];rw[hy];exact⟨fb,rfl,rfl⟩
  rintro _ K _ hT4 -;obtain⟨y,hy,rfl,rfl,rfl⟩:=bA hT4;obtain⟨hy1,hy2,hy3⟩:=rW hi1.1 hy;have hyo:=xB hi1 hy;refine zz2 ?_;refine d8 18 rfl (fun h18=>?_) (fun h18=>?_)
  ·
   have hy4:=hy3 h18;refine zz7 ?_;refine aX rfl rfl (kF b s y.2 rest fn caps ff _ hs hy1 hyo.2 hg hf) (.cons .here .nil) rfl (fun _ _=>a7 _ _) ?_ ?_
   ·
    rintro _ _ _ hT5 le1;obtain⟨e,p,hz,fb,h,rfl⟩:=a8 hT5;cases h
    refine uAa ?_;refine zz5 ?_;rw[hi4];simp only[lZ];rw[hy];simp only[];rw[if_pos h18,hz];exact⟨fb,rfl,rfl⟩
   rintro _ K _ hT5 -;obtain⟨z,hz,rfl,rfl,rfl⟩:=bA hT5;obtain⟨hz1,hz2⟩:=iR hy1 hz;refine ol_s (a6 (z0:=[(str [])]) bS tz9 rfl rfl rfl rfl (.cons rfl rfl rfl (.cons .nil) .nil)) rfl ?_;rintro _ K _ ⟨b23,rfl,rfl,rfl⟩ -;refine ol_s (dT (k:=(bC 9)) (ys:=[z.1]) fA rfl rfl bB (fun w j=>dK Tryz.underlying39 (SeesSl.at (.blk (.own .here) rfl rfl) j)) gBQ gBQ) rfl ?_;rintro v24 K _ ⟨rfl,rfl,ho24⟩ -;refine zz3 ?_;obtain⟨f0,rfl⟩:∃f0,f=f0+1:=⟨f - 1,by omega⟩;refine aO (.cons .here (.cons (.there .here) .nil)) ?_;refine jF z.2 _ (acc++[z.1]) ⟨l8 hy1 hz,by simp;omega,f0,by omega,?_⟩ aH (.cons 0 rfl (.cons 1 rfl (.cons 5 rfl .nil))) rfl (fun _ h=>h)
   rw[hi4];simp only[lZ];rw[hy];simp only[];rw[if_pos h18,hz]
  ·
   refine zz8 ?_;refine aX rfl rfl (aDK b s y.2 rest [93] _ hs hy1 hg) (.cons .here .nil) rfl (fun _ _=>a7 _ _) ?_ ?_
   ·
    rintro _ _ _ hT5 le1;obtain⟨e,p,hz,fb,h,rfl⟩:=a8 hT5;cases h
    refine uAa ?_;refine zz2 ?_;rw[hi4];simp only[lZ];rw[hy];simp only[];rw[if_neg (by simp[h18]),hz];exact⟨fb,rfl,rfl⟩
   rintro _ K2 _ hT5 le2;obtain⟨z,hz,rfl,rfl⟩:=bA hT5;refine zz9 ?_;refine uAl ?_;refine bJ rfl rfl (by first|exact Hl.le_refl _|assumption) ?_;have hl:Syn.list s st ff=.ok (acc,z):=(by rw[hi4];simp only[lZ];rw[hy];simp only[];rw[if_neg (by simp[h18]),hz]);rw[hl];exact⟨_,rfl,rfl⟩
end Go.Proofs
end
section
attribute [local irreducible] Go.SL.T Go.SL.OL Go.SL.D Go.SL.DL Go.SL.Ev Go.SL.Ef Go.SL.EfS
namespace Go.Proofs
open Go Go.SL Go.Syn
theorem kR(x:List UInt8)(K:Hl):Sp Tryz.prog 177 [str x] K [] (Val (i64 0) K):=by
 refine aZ Tryz.func177 rfl Tryz.ntmps177 rfl rfl fun F w=>?_
 refine zz12 ?_;exact⟨rfl,rfl,rfl⟩
theorem q9(s:List UInt8)(K:Hl)(hs:s.length≤140737488351232):Sp Tryz.prog 263 [str s] K [] (Val (.bool (named s)) K):=by
 refine aZ Tryz.func263 rfl Tryz.ntmps263 rfl rfl fun F w=>?_
 refine zz9 ?_;refine uAp ?_;rintro v6 K _ ⟨rfl,rfl⟩ -;refine uAz ?_;refine zz4 ?_;refine d6 (fun(i:Nat)=>i≤s.length∧(s.take i).all dI=true) (fun i=>[(0,str s),(6,v6),(7,i64 s.length),(8,i64 i)]) (fun _=>_) (fun i=>[sl false (elB 5) v6 s]) (fun i=>s.length - i) 0 ⟨Nat.zero_le _,rfl⟩ (.cons 0 rfl (.cons 6 rfl (.cons 7 rfl (.cons 8 rfl .nil)))) rfl (fun _ h=>h) ?_;intro i ⟨hi0,hi1⟩;refine zz6 ?_;refine bG 9 rfl (fun h9=>?_) (fun h9=>?_)
 ·
  obtain⟨c,hc⟩:∃c,s[i]?=some c:=⟨s[i]'(by omega),List.getElem?_eq_getElem aH⟩;have hlen:i < s.length:=by omega
  refine zz6 ?_;refine aA (bQ (k:=(elB 5)) jQ rfl aN rfl rfl gBR) rfl ?_;refine uBb ?_;refine zz6 ?_;refine cE rfl rfl (o8 c _) rfl ?_;refine aA gBN rfl ?_;refine zz2 ?_;refine d8 14 rfl (fun h14=>?_) (fun h14=>?_)
  ·
   refine zz11 ?_;refine uAw ?_;refine zz1 ?_;exact retB (aSF hc (by simpa using h14)).symm _
  ·
   refine zz7 ?_;refine cG (i+1) ⟨by omega,Plain.take_all_succ hc hi1 (by simpa using h14)⟩ aH (.cons 0 rfl (.cons 6 rfl (.cons 7 rfl (.cons 8 rfl .nil)))) rfl (fun _ h=>h)
 ·
  have hall:s.all dI=true:=(by rw[List.take_of_length_le aH]at hi1;exact hi1);refine zz10 ?_;refine cF 18 rfl (fun g18=>?_) (fun g18=>?_)
  ·
   refine zz3 ?_;obtain⟨c0,hc0⟩:∃c,s[0]?=some c:=⟨s[0]'(List.length_pos_iff.2 g18),List.getElem?_eq_getElem _⟩;refine aA (dD Tryz.underlying9 rfl (j:=0) rfl rfl hc0) rfl ?_;refine zz1 ?_;refine cE rfl rfl (nR c0 _) rfl ?_;refine zz1 ?_;refine aA gBN rfl ?_;refine zz5 ?_;refine uAw ?_;refine zz1 ?_;exact retB (by simp[named,hall,g18,hc0]) _
  ·
   refine zz9 ?_;refine uAw ?_;refine zz1 ?_;exact retB (by simp only[Classical.not_not]at g18;simp[named,g18]) _
theorem aPA(x:List UInt8)(K:Hl)(hs:x.length≤140737488351232):Sp Tryz.prog 262 [str x] K [] (Val (i64 (if named x=true then 0 else 7)) K):=by
 refine aZ Tryz.func262 rfl Tryz.ntmps262 rfl rfl fun F w=>?_
 refine zz9 ?_;refine cE rfl rfl (q9 x _ hs) rfl ?_;refine zz2 ?_;refine d8 4 rfl (fun h4=>?_) (fun h4=>?_)
 ·
  refine zz8 ?_;rw[if_pos h4];exact⟨rfl,rfl,rfl⟩
 ·
  refine zz9 ?_;rw[if_neg (by simp[h4])];exact⟨rfl,rfl,rfl⟩
theorem lN(x:List UInt8)(e:Int)(texts:List (List UInt8))(tv:Value)(b1 b2:Nat)(K:Hl)(h1:K b1=some (aU [tv] 39))(h2:K b2=some (aU [i64 e] 30))(hv:Ksl (bC 9) K tv texts)(hn:texts.length≤1000000):
  Sp Tryz.prog 192 [str x,ptr b1,ptr b2] K [] (Val (i64 (oneOf e texts x)) K):=by
 refine aZ Tryz.func192 rfl Tryz.ntmps192 rfl rfl fun F w=>?_
 refine zz8 ?_;refine aA (aL ts39 rfl (.known h1) rfl) rfl ?_;refine zz1 ?_;refine aY rfl rfl (l6 tv x texts _ [] (.known hv) hn) .nil rfl ?_;rintro _ K _ ⟨rfl,rfl,rfl⟩ -;refine zz2 ?_;refine bG 7 rfl (fun h7=>?_) (fun h7=>?_)
 ·
  refine zz8 ?_;unfold oneOf;rw[if_pos h7];exact⟨rfl,rfl,rfl⟩
 ·
  refine zz4 ?_;refine aA (aL ts30 rfl (.known h2) rfl) rfl ?_;refine zz5 ?_;unfold oneOf;rw[if_neg h7];exact⟨rfl,rfl,rfl⟩
theorem mN(e:Int)(tv:Value)(K:Hl)(htv:tv.cells= #[tv]):Sp Tryz.prog 103 [i64 e,tv] K [] (Ret fun v K' L'=>∃b1 b2,v=.func (.func 192) #[] #[ptr b1,ptr b2]∧K' b1=some (aU [tv] 39)∧K' b2=some (aU [i64 e] 30)∧L'=[]):=by
 refine aZ Tryz.func103 rfl Tryz.ntmps103 rfl rfl fun F w=>?_
 refine zz3 ?_;rintro _ K _ ⟨b2,rfl,rfl,rfl⟩ -;refine ol_s (dW (l:=[tv]) rfl htv) rfl ?_;rintro _ K _ ⟨b3,rfl,rfl,rfl⟩ -;refine zz10 ?_;refine gO fun K1 le1 hK1=>?_
 refine gO fun K2 le2 hK2=>?_
 refine bJ rfl rfl (Hl.le_trans le1 le2) ?_;exact⟨_,rfl,b3,b2,rfl,le2 _ _ hK1,hK2,rfl⟩
abbrev aBZ:List UInt8:=[102,114,111,109]
abbrev txTo:List UInt8:=[116,111]
theorem yR(x:List UInt8)(K:Hl)(hs:x.length≤140737488351232):Sp Tryz.prog 265 [str x] K [] (Val (i64 (oneOf 7 [aBZ,txTo] (cN x))) K):=by
 refine(aMC (R:=fun e L'=>e=.returned (i64 (oneOf 7 [aBZ,txTo] (cN x)))∧L'=[]) ?_).mono fun e K' L' ⟨h1,h2,h3⟩=>⟨h2,h1,h3⟩
 refine aZ Tryz.func265 rfl Tryz.ntmps265 rfl rfl fun F w=>?_
 refine zz7 ?_;refine ol_s (a6 (z0:=[(str []),(str [])]) bS tz9 rfl rfl rfl rfl (.cons rfl rfl rfl (.cons .nil) (.cons rfl rfl rfl (.skip (.cons .nil)) .nil))) rfl ?_;rintro _ K _ ⟨b3,rfl,rfl,rfl⟩ -;refine fW fun K1 le1 hK1=>?_
 refine aY rfl rfl (mN 7 _ _ rfl) .nil rfl ?_;rintro _ K2 _ ⟨c1,c2,rfl,hc1,hc2,rfl⟩ le2;refine zz1 ?_;refine cE rfl rfl (fX x _ hs) rfl ?_;refine cE rfl rfl (lN (cN x) 7 [aBZ,txTo] _ c1 c2 _ hc1 hc2 (.inr ⟨b3,0,2,[str aBZ,str txTo],(0,0),rfl,⟨_,le2 _ _ hK1⟩,rfl⟩) (by simp)) rfl ?_;refine zz4 ?_;refine uAw ?_;refine bJ rfl rfl (Hl.le_trans le1 le2) ?_;exact⟨rfl,rfl⟩
theorem u4{β:Type}{P:Program}{f:FuncId}{args:List Value}{K:Hl}{L:List Asn}{r:Res β}{N:β→Value→List Asn→Prop}(h:Sp P f args K L (f6 r fun x v _ L'=>N x v L')):
  Sp P f args K L (f6 r fun x v K' L'=>K'=K∧N x v L'):=by
 refine(aMC (R:=fun e L'=>f6 r (fun x v _ L'=>N x v L') e K L') (h.mono fun e K' L' h1=>?_)).mono fun e K' L' ⟨h1,h2⟩=>?_
 ·unfold f6 at h1 ⊢;cases r with
  |ok x=>exact h1
  |error p=>exact h1
 ·unfold f6 at h2 ⊢;cases r with
  |ok x=>obtain⟨v,e1,e2⟩:=h2;exact⟨v,e1,h1,e2⟩
  |error p=>exact h2
theorem j5(b:Nat)(s:List UInt8)(st:St)(rest:List Value)(x:List UInt8)(K:Hl)(hs:s.length≤600)(ha:st.1≤s.length)(hg:Glob K):
  Sp Tryz.prog 104 [ptr b,str x] K [psb b s st rest] (f6 (Syn.sign s st x) fun r v K' L'=>K'=K∧v=.tuple #[]∧L'=[psb b s r rest]):=
 u4 (N:=fun(r:St) v L'=>v=.tuple #[]∧L'=[psb b s r rest]) (aDK b s st rest x K hs ha hg)
theorem q7(b:Nat)(s:List UInt8)(st:St)(rest:List Value)(fn:FuncId)(caps:Array Value)(ff:List UInt8→Int)(K:Hl)(hs:s.length≤600)(hok:Ok s st)(hg:Glob K)
  (hf:∀x:List UInt8,x.length≤600→Sp Tryz.prog fn (str x::caps.toList) K [] (Val (i64 (ff x)) K)):
  Sp Tryz.prog 102 [ptr b,.func (.func fn) #[] caps] K [psb b s st rest] (f6 (Syn.list s st ff) fun r v K' L'=>K'=K∧L'=[sl false (bC 9) v r.1,psb b s r.2 rest]):=
 u4 (N:=fun(r:List (List UInt8)×St) v L'=>L'=[sl false (bC 9) v r.1,psb b s r.2 rest]) (aNX b s st rest fn caps ff K hs hok hg hf)
end Go.Proofs
end
section
attribute [local irreducible] Go.SL.T Go.SL.OL Go.SL.D Go.SL.DL Go.SL.Ev Go.SL.Ef Go.SL.EfS
namespace Go.Proofs
open Go Go.SL Go.Syn
theorem aT1{s:List UInt8}{st:St}{k:Nat}{texts:List (List UInt8)}{r:Word×St}(hok:Ok s st)(h:take s st k texts=.ok r):r.1.s.length≤s.length:=by
 unfold take at h;split at h
 ·cases h
 ·split at h
  ·cases h
  ·cases h;exact hok.2
theorem aT8{s:List UInt8}{st:St}{ff:List UInt8→Int}{r:List UInt8×St}(hok:Ok s st)(h:Syn.text s st ff=.ok r):r.1.length≤s.length:=by
 unfold Syn.text at h;split at h
 ·cases h
 ·split at h
  ·cases h
  ·rename_i q hq;cases h
   exact aT1 hok hq
theorem aO3(xs:List (List UInt8))(x:List UInt8): -1≤cQ xs x∧cQ xs x≤xs.length:=by
 unfold cQ;cases h:xs.findIdx? (fun y=>decide (x=y))with
 |some i=>rw[List.findIdx?_eq_some_iff_getElem]at h;obtain⟨hi,_⟩:=h;exact⟨by show -1≤(i:Int);omega,by show (i:Int)≤_;omega⟩
 |none=>exact⟨by show (-1:Int)≤ -1;omega,by show (-1:Int)≤_;omega⟩
theorem aTP(b:Nat)(s:List UInt8)(st:St)(at_ dp:Int)(nv:Value)(rest:List Value)(needs:List (List UInt8))(K:Hl)(hs:s.length≤600)(hok:Ok s st)(hg:Glob K)(hv:Ksl (bC 9) K nv needs)(hn:needs.length≤1000000):
    Sp Tryz.prog 163 [ptr b,i64 at_,i64 dp] K [psb b s st (nv::rest)]
      (f6 (setC s needs st) fun r v K' L'=>K'=K∧v=.iface 308 (.agg #[str r.1.name,str r.1.value,i64 r.1.tag])∧L'=[psb b s r.2 (nv::rest)]):=by
  refine u4 (N:=fun(r:SetC×St) v L'=>v=.iface 308 (.agg #[str r.1.name,str r.1.value,i64 r.1.tag])∧L'=[psb b s r.2 (nv::rest)]) ?_;have ha:=hok.1;refine aZ Tryz.func163 rfl Tryz.ntmps163 rfl rfl fun F w=>?_
  refine zz8 ?_;refine aX rfl rfl (uV b s st nv rest needs dN _ hv hn) (.cons .here .nil) rfl (fun _ _=>a7 _ _) ?_ ?_
  ·
    rintro _ _ _ hT le1;obtain⟨e,p,hr,fb,h,rfl⟩:=a8 hT;cases h
    refine uAa ?_;refine zz2 ?_;have hm:¬dN∈needs:=(by intro h;rw[if_pos h]at hr;cases hr);rw[if_neg hm]at hr;cases hr
    unfold setC;rw[if_neg hm];exact⟨fb,rfl,rfl⟩
  rintro _ K _ hT -;obtain⟨u0,hu,rfl,rfl,rfl⟩:=bA hT;have hm:dN∈needs:=Classical.byContradiction (fun h=>by rw[if_neg h]at hu;cases hu);refine zz7 ?_;refine aX rfl rfl (dJ b 208 s st.1 _ _ _ _ (nv::rest) hs ha _ hg) (.cons .here .nil) rfl (fun _ _=>a7 _ _) ?_ ?_
  ·
    rintro _ _ _ hT2 le1;obtain⟨e,p,hr,fb,h,rfl⟩:=a8 hT2;cases h
    refine uAa ?_;refine zz2 ?_;unfold setC;rw[if_pos hm,hr];exact⟨fb,rfl,rfl⟩
  rintro _ K _ hT2 -;obtain⟨r,hr,rfl,rfl,rfl⟩:=bA hT2;have hro:=d9 ha hr;refine zz4 ?_;refine aA (cR bA8 aZS .nil) rfl ?_;refine zz1 ?_;rintro _ K _ ⟨b7,rfl,rfl,rfl⟩ -;refine bR (cM aF0 rfl rfl rfl bB gBK (.cons (.cons (.cons .nil))) gBU) ?_;rintro _ K _ ⟨rfl,rfl⟩ -;refine zz2 ?_;refine aWM (fun(tag:Int) (st2:St)=>jD s r=.ok (tag,st2)∧Ok s st2) (fun _ _=>[(0,ptr b),(7,ptr b7)]) (fun _ _=>K) (fun tag st2=>[pt b7 (aU [str [],str [],i64 tag] 308),psb b s st2 (nv::rest)]) ?_ ?_
  ·
    refine zz11 ?_;refine bG 21 rfl (fun h21=>?_) (fun h21=>?_)
    ·
      refine zz2 ?_;refine ol_s (a6 (z0:=[(str []),(str []),(str [])]) bS tz9 rfl rfl rfl rfl (.cons rfl rfl rfl (.cons .nil) (.cons rfl rfl rfl (.skip (.cons .nil)) (.cons rfl rfl rfl (.skip (.skip (.cons .nil))) .nil)))) rfl ?_;rintro _ K _ ⟨b22,rfl,rfl,rfl⟩ -;refine zz6 ?_;refine aY rfl rfl (sP _ r.2.s [iS,iT,gH] _ [pt b22 (aU [str iS,str iT,str gH] 9)] (.blk (.own .here) rfl rfl) (by simp)) (.cons .here .nil) rfl ?_;rintro _ K _ ⟨rfl,rfl,rfl⟩ -;have hix: -1≤cQ [iS,iT,gH] r.2.s∧cQ [iS,iT,gH] r.2.s≤3:=aO3 _ _;refine zz2 ?_;refine bR (bL ts3 rfl rfl cK bB (.succ (.succ .zero)) rfl) ?_;rintro _ K _ ⟨rfl,rfl⟩ -;refine zz10 ?_;refine bG 34 rfl (fun h34=>?_) (fun h34=>?_)
      ·
        refine zz2 ?_;refine aX rfl rfl (iH b s r (nv::rest) _) (.cons (.there (.there .here)) .nil) rfl gBM ?_ ?_
        ·
          rintro _ _ _ ⟨fb,h,rfl⟩ le1;cases h
          refine uAa ?_;refine zz3 ?_;have hst:jD s r=.error (4,r.2.at_):=(by unfold jD;rw[if_pos aH,if_pos aH]);unfold setC;rw[if_pos hm,hr];simp only[hst];exact⟨fb,rfl,rfl⟩
        ·
          rintro _ _ _ ⟨_,h,_⟩;cases h
      ·
        refine zz6 ?_;refine aX rfl rfl (dJ b 208 s r.1 _ _ _ _ (nv::rest) hs hro.1 _ hg) (.cons (.there (.there .here)) .nil) rfl (fun _ _=>a7 _ _) ?_ ?_
        ·
          rintro _ _ _ hT2 le1;obtain⟨e,p,hr2,fb,h,rfl⟩:=a8 hT2;cases h
          refine uAa ?_;refine zz2 ?_;have hst:jD s r=.error (e,p):=(by unfold jD;rw[if_pos aH,if_neg aH,hr2]);unfold setC;rw[if_pos hm,hr];simp only[hst];exact⟨fb,rfl,rfl⟩
        rintro _ K _ hT2 -;obtain⟨r2,hr2,rfl,rfl,rfl⟩:=bA hT2;refine aF ?_
        first
          | (have hst : jD s r = .ok (1 + cQ [iS, iT, gH] r.2.s, r2) := (by unfold jD; rw [if_pos aH, if_neg aH, hr2])
             refine uAd ?_;exact aEM _ r2 ⟨hst,d9 hro.1 hr2⟩ (.cons 0 rfl (.cons 7 rfl .nil)) rfl (fun _ h=>h))
          | (have hst : jD s r = .ok (0, r) := (by unfold jD; rw [if_neg aH])
             exact aEM 0 r ⟨hst,hro⟩ (.cons 0 rfl (.cons 7 rfl .nil)) rfl (fun _ h=>h))
    ·
      refine aW ?_
      first
        | (have hst : jD s r = .ok (1 + cQ [iS, iT, gH] r.2.s, r2) := (by unfold jD; rw [if_pos aH, if_neg aH, hr2])
           refine uAd ?_;exact aEM _ r2 ⟨hst,d9 hro.1 hr2⟩ (.cons 0 rfl (.cons 7 rfl .nil)) rfl (fun _ h=>h))
        | (have hst : jD s r = .ok (0, r) := (by unfold jD; rw [if_neg aH])
           exact aEM 0 r ⟨hst,hro⟩ (.cons 0 rfl (.cons 7 rfl .nil)) rfl (fun _ h=>h))
  ·
    intro tag st2 ⟨ht,hok2⟩;have hsc:setC s needs st=lC s (tag,st2):=(by unfold setC;rw[if_pos hm,hr];simp only[ht]);refine zz3 ?_;refine aX rfl rfl (kF b s st2 (nv::rest) 262 #[] (fun x=>if named x=true then 0 else 7) _ hs hok2.1 hok2.2 hg (fun x hx=>aPA x _ aH)) (.cons (.there .here) .nil) rfl (fun _ _=>a7 _ _) ?_ ?_
    ·
      rintro _ _ _ hT3 le1;obtain⟨e,p,h3,fb,h,rfl⟩:=a8 hT3;cases h
      refine uAa ?_;refine zz2 ?_;rw[hsc];unfold lC;rw[h3];exact⟨fb,rfl,rfl⟩
    rintro _ K _ hT3 -;obtain⟨n,h3,rfl,rfl,rfl⟩:=bA hT3;have hok3:=l8 hok2.1 h3;refine cE rfl rfl (fX _ _ (by have:=aT8 hok2 h3;omega)) rfl ?_;refine zz1 ?_;refine bR (bL ts9 rfl rfl cK bB .zero rfl) ?_;rintro _ K _ ⟨rfl,rfl⟩ -;refine zz5 ?_;refine aX rfl rfl (kF b s n.2 (nv::rest) 177 #[] (fun _=>0) _ hs hok3.1 hok3.2 hg (fun x hx=>kR x _)) (.cons .here .nil) rfl (fun _ _=>a7 _ _) ?_ ?_
    ·
      rintro _ _ _ hT4 le1;obtain⟨e,p,h4,fb,h,rfl⟩:=a8 hT4;cases h
      refine uAa ?_;refine zz2 ?_;rw[hsc];unfold lC;simp only[h3,h4];exact⟨fb,rfl,rfl⟩
    rintro _ K _ hT4 -;obtain⟨v,h4,rfl,rfl,rfl⟩:=bA hT4;have hok4:=l8 hok3.1 h4;refine zz1 ?_;refine uAj ?_;rintro _ K _ ⟨rfl,rfl⟩ -;refine zz5 ?_;refine aX rfl rfl (j5 b s v.2 (nv::rest) [59] _ hs hok4.1 hg) (.cons .here .nil) rfl (fun _ _=>a7 _ _) ?_ ?_
    ·
      rintro _ _ _ hT5 le1;obtain⟨e,p,h5,fb,h,rfl⟩:=a8 hT5;cases h
      refine uAa ?_;refine zz2 ?_;rw[hsc];unfold lC;simp only[h3,h4,h5];exact⟨fb,rfl,rfl⟩
    rintro _ K _ hT5 -;obtain⟨q,h5,rfl,rfl,rfl⟩:=bA hT5;refine zz5 ?_;refine aA (dG Tryz.underlying308 (fun _ h=>by cases h) rfl) rfl ?_;refine zz4 ?_;refine uAa ?_;refine zz1 ?_;have hfin:lC s (tag,st2)=.ok (⟨cN n.1,v.1,tag⟩,q):=(by unfold lC;simp only[h3,h4,h5]);rw[hsc,hfin];exact⟨_,rfl,rfl,rfl⟩
end Go.Proofs
end
section
attribute [local irreducible] Go.SL.T Go.SL.OL Go.SL.D Go.SL.DL Go.SL.Ev Go.SL.Ef Go.SL.EfS
namespace Go.Proofs
open Go Go.SL Go.Syn
theorem n5(xs:List (List UInt8))(x:List UInt8): -1≤cQ xs x∧cQ xs x < xs.length:=by
 unfold cQ;cases h:xs.findIdx? (fun y=>decide (x=y))with
 |some i=>rw[List.findIdx?_eq_some_iff_getElem]at h;obtain⟨hi,_⟩:=h;exact⟨by show -1≤(i:Int);omega,by show (i:Int) < _;omega⟩
 |none=>exact⟨by show (-1:Int)≤ -1;omega,by show (-1:Int) < _;omega⟩
theorem aXO{op:Int}(h:op=7)(x:List UInt8):nB op x=Syn.oneOf 7 [aBZ,txTo] (cN x):=by unfold nB;rw[if_pos h]
theorem aXN{op:Int}(h:¬op=7)(x:List UInt8):nB op x=0:=by unfold nB;rw[if_neg h]
theorem uT(b:Nat)(s:List UInt8)(st:St)(op:Int)(ext:List UInt8)(nv:Value)(rest:List Value)(needs:List (List UInt8))(K:Hl)(hs:s.length≤600)(hok:Ok s st)(hg:Glob K)(hv:Ksl (bC 9) K nv needs)(hn:needs.length≤1000000):
    Sp Tryz.prog 173 [ptr b,i64 op,str ext] K [psb b s st (nv::rest)]
      (f6 (jC s needs op ext st) fun r v K' L'=>Rep1 K' r.1 v∧L'=[psb b s r.2 (nv::rest)]):=by
  have ha:=hok.1;refine aZ Tryz.func173 rfl Tryz.ntmps173 rfl rfl fun F w=>?_
  refine zz5 ?_;refine gG (fun(_:Unit)=>¬(ext≠[]∧ext∉needs)) (fun _=>[(0,ptr b),(1,i64 op),(2,str ext)]) (fun _=>K) (fun _=>[psb b s st (nv::rest)]) ?_ ?_
  ·
    refine zz6 ?_;refine bG 12 rfl (fun h12=>?_) (fun h12=>?_)
    ·
      refine zz3 ?_;refine aX rfl rfl (uV b s st nv rest needs ext _ hv hn) (.cons .here .nil) rfl (fun _ _=>a7 _ _) ?_ ?_
      ·
        rintro _ _ _ hTr le1;obtain⟨e,p,hu,fb,h,rfl⟩:=a8 hTr;cases h
        refine uAa ?_;refine zz2 ?_;have hm:¬ext∈needs:=gB5;rw[if_neg hm]at hu;cases hu
        unfold jC;rw[if_pos ⟨h12,hm⟩];exact⟨fb,rfl,rfl⟩
      rintro _ K _ hTr -;obtain⟨u0,hu,rfl,rfl,rfl⟩:=bA hTr;clear hTr;have hm:ext∈needs:=Classical.byContradiction (fun h=>by rw[if_neg h]at hu;cases hu);have hne:¬(ext≠[]∧ext∉needs):=fun h=>h.2 hm
      refine aF ?_;exact bU () hne (.cons 0 rfl (.cons 1 rfl (.cons 2 rfl .nil))) rfl (fun _ h=>h)
    ·
      have hne:¬(ext≠[]∧ext∉needs):=fun h=>h12 h.1
      refine aW ?_;exact bU () hne (.cons 0 rfl (.cons 1 rfl (.cons 2 rfl .nil))) rfl (fun _ h=>h)
  ·
    intro _ hne;refine zz5 ?_;refine aX rfl rfl (dJ b 208 s st.1 _ _ _ _ (nv::rest) hs ha _ hg) (.cons .here .nil) rfl (fun _ _=>a7 _ _) ?_ ?_
    ·
      rintro _ _ _ hTr le1;obtain⟨e,p,hr,fb,h,rfl⟩:=a8 hTr;cases h
      refine uAa ?_;refine zz2 ?_;simp only[jC,hne,hr,if_true,if_false,↓reduceIte];exact⟨fb,rfl,rfl⟩
    rintro _ K _ hTr -;obtain⟨r,hr,rfl,rfl,rfl⟩:=bA hTr;clear hTr;have hro:=d9 ha hr;refine zz5 ?_;refine aA (cR bBC aZW (.cons rfl rfl rfl (.skip (.skip (.cons .nil))) .nil)) rfl ?_;refine zz1 ?_;rintro _ K _ ⟨b7,rfl,rfl,rfl⟩ -;refine bR (cM aF2 rfl rfl rfl bB gBK (.cons (.cons (.cons (.cons (.cons .nil))))) gBU) ?_;rintro _ K _ ⟨rfl,rfl⟩ -;refine zz9 ?_;refine zN (fun(hw:How) (st2:St)=>Ok s st2∧(0≤hw.tag∧hw.tag≤3)∧∃f,mu s st2≤f∧jC s needs op ext st=l4 s op (eG s (f+1) hw st2)) (fun hw _=>[(0,ptr b),(1,i64 op),(7,ptr b7),(8,.bool hw.cmp)]) (fun _ _=>K) (fun hw st2=>[pt b7 (aU [i64 hw.tag,.bool hw.oct,i64 op,.slice none 0 0,.slice none 0 0] 380),psb b s st2 (nv::rest)]) (fun _ st2=>mu s st2) ⟨false,0,false⟩ r ⟨hro,⟨Int.le_refl 0,by decide⟩,mu s r,Nat.le_refl _,by simp only[jC,hne,if_false,hr]⟩ (.cons 0 rfl (.cons 1 rfl (.cons 7 rfl (.cons 8 rfl .nil)))) rfl (fun _ h=>h) ?_;intro hw st2 ⟨hok2,ht,f,hf,hx⟩;refine zz12 ?_;refine bG 28 rfl (fun h28=>?_) (fun h28=>?_)
    ·
      have g28:st2.2.kind=2:=by omega
      refine zz5 ?_;refine ol_s (a6 (z0:=[(str []),(str []),(str []),(str [])]) bS tz9 rfl rfl rfl rfl (.cons rfl rfl rfl (.cons .nil) (.cons rfl rfl rfl (.skip (.cons .nil)) (.cons rfl rfl rfl (.skip (.skip (.cons .nil))) (.cons rfl rfl rfl (.skip (.skip (.skip (.cons .nil)))) .nil))))) rfl ?_;rintro _ K _ ⟨b29,rfl,rfl,rfl⟩ -;refine zz6 ?_;refine aY rfl rfl (sP _ st2.2.s dE _ [pt b29 (aU [str txIs,str kA,str lR,str iJ] 9)] (.blk (.own .here) rfl rfl) (by simp[dE])) (.cons .here .nil) rfl ?_;rintro _ K _ ⟨rfl,rfl,rfl⟩ -;have hix: -1≤cQ dE st2.2.s∧cQ dE st2.2.s < 4:=n5 _ _;refine zz12 ?_;refine bG 49 rfl (fun h49=>?_) (fun h49=>?_)
      ·
        have g49:cQ dE st2.2.s= -1:=by omega
        refine zz2 ?_;refine aX rfl rfl (iH b s st2 (nv::rest) _) (.cons (.there (.there .here)) .nil) rfl gBM ?_ ?_
        ·
          rintro _ _ _ ⟨fb,h,rfl⟩ le1;cases h
          refine uAa ?_;refine zz6 ?_;simp only[hx,eG,g28,g49,if_true,if_false,↓reduceIte];exact⟨fb,rfl,rfl⟩
        ·
          rintro _ _ _ ⟨_,h,_⟩;cases h
      ·
        have g49:¬cQ dE st2.2.s= -1:=by omega
        refine zz6 ?_;refine cF 57 rfl (fun g57=>?_) (fun g57=>?_)
        ·
          refine zz6 ?_
          first|refine bG 54 rfl (fun h54=>?_) (fun h54=>?_)|refine d8 54 rfl (fun h54=>?_) (fun h54=>?_)
          ·
            refine zz10 ?_;have hcond:(cQ dE st2.2.s=3∧hw.cmp=true)∨(cQ dE st2.2.s < 3∧hw.tag≠0):=gCF;refine aX rfl rfl (eL 7 st2.2.at_ _) .nil rfl gBM ?_ ?_
            ·
              rintro _ _ _ ⟨fb,h,rfl⟩ le1;cases h
              refine uAa ?_;refine zz6 ?_;simp only[hx,eG,g28,g49,if_pos hcond,if_true,if_false];exact⟨fb,rfl,rfl⟩
            ·
              rintro _ _ _ ⟨_,h,_⟩;cases h
          ·
            refine zz4 ?_;refine cF 62 rfl (fun g62=>?_) (fun g62=>?_)
            ·
              refine zz12 ?_
              first|refine bG 54 rfl (fun h54=>?_) (fun h54=>?_)|refine d8 54 rfl (fun h54=>?_) (fun h54=>?_)
              ·
                refine zz7 ?_;have hcond:(cQ dE st2.2.s=3∧hw.cmp=true)∨(cQ dE st2.2.s < 3∧hw.tag≠0):=gCF;refine aX rfl rfl (eL 7 st2.2.at_ _) .nil rfl gBM ?_ ?_
                ·
                  rintro _ _ _ ⟨fb,h,rfl⟩ le1;cases h
                  refine uAa ?_;refine zz6 ?_;simp only[hx,eG,g28,g49,if_pos hcond,if_true,if_false];exact⟨fb,rfl,rfl⟩
                ·
                  rintro _ _ _ ⟨_,h,_⟩;cases h
              ·
                refine zz7 ?_;refine bG 75 rfl (fun h75=>?_) (fun h75=>?_)
                ·
                  have g75:cQ dE st2.2.s < 3:=by omega
                  have hcond:¬((cQ dE st2.2.s=3∧hw.cmp=true)∨(cQ dE st2.2.s < 3∧hw.tag≠0)):=gBW;refine zz5 ?_;refine uAn ?_;rintro _ K _ ⟨rfl,rfl⟩ -;refine zz6 ?_;refine aX rfl rfl (dJ b 208 s st2.1 _ _ _ _ (nv::rest) hs hok2.1 _ hg) (.cons (.there (.there .here)) .nil) rfl (fun _ _=>a7 _ _) ?_ ?_
                  ·
                    rintro _ _ _ hTr le1;obtain⟨e,p,hr2,fb,h,rfl⟩:=a8 hTr;cases h
                    refine uAa ?_;refine zz6 ?_;simp only[hx,eG,g28,g49,if_neg hcond,if_pos g75,hr2,if_true,if_false,↓reduceIte];exact⟨fb,rfl,rfl⟩
                  rintro _ K _ hTr -;obtain⟨r2,hr2,rfl,rfl,rfl⟩:=bA hTr;clear hTr;have hok3:=d9 hok2.1 hr2;refine zz3 ?_
                  first
                    | (have hm2 := fC hok2.1 aH hr2; obtain ⟨f0, rfl⟩ : ∃ f0, f = f0 + 1 := ⟨f - 1, by omega⟩
                       refine uAd ?_;refine dQ ⟨hw.cmp,1+cQ dE st2.2.s,hw.oct⟩ r2 ⟨hok3,⟨by simp only[];omega,by simp only[];omega⟩,f0,by omega,?_⟩ aH (.cons 0 rfl (.cons 1 rfl (.cons 7 rfl (.cons 8 rfl .nil)))) rfl (fun _ h=>h)
                       simp only[hx,eG,g28,g49,if_neg hcond,if_pos g75,hr2,if_true,if_false,↓reduceIte])
                    | (have hm2 := fC hok2.1 aH hr3; have hm3 := iR hok3.1 hx4; obtain ⟨f0, rfl⟩ : ∃ f0, f = f0 + 1 := ⟨f - 1, by omega⟩
                       refine uAd ?_;refine lV (Hl.le_trans leA leB) ?_;refine dQ ⟨true,hw.tag,decide (x.1=eB)⟩ x.2 ⟨hok4,ht,f0,by omega,?_⟩ aH (.cons 0 rfl (.cons 1 rfl (.cons 7 rfl (.cons 8 rfl .nil)))) rfl (fun _ h=>h)
                       simp only[hx,eG,g28,g49,if_neg hcond,if_pos g75,hr2,if_true,if_false,↓reduceIte])
                ·
                  have g75:¬cQ dE st2.2.s < 3:=by omega
                  have hcond:¬((cQ dE st2.2.s=3∧hw.cmp=true)∨(cQ dE st2.2.s < 3∧hw.tag≠0)):=gBW;refine zz10 ?_;refine aX rfl rfl (dJ b 208 s st2.1 _ _ _ _ (nv::rest) hs hok2.1 _ hg) (.cons (.there (.there .here)) .nil) rfl (fun _ _=>a7 _ _) ?_ ?_
                  ·
                    rintro _ _ _ hTr le1;obtain⟨e,p,hr3,fb,h,rfl⟩:=a8 hTr;cases h
                    refine uAa ?_;refine zz7 ?_;simp only[hx,eG,g28,g49,if_neg hcond,if_neg g75,hr3,if_true,if_false,↓reduceIte];exact⟨fb,rfl,rfl⟩
                  rintro _ K _ hTr -;obtain⟨r3,hr3,rfl,rfl,rfl⟩:=bA hTr;clear hTr;have hok3:=d9 hok2.1 hr3;refine zz4 ?_;refine ol_s (a6 (z0:=[(str []),(str [])]) bS tz9 rfl rfl rfl rfl (.cons rfl rfl rfl (.cons .nil) (.cons rfl rfl rfl (.skip (.cons .nil)) .nil))) rfl ?_;rintro _ K _ ⟨b43,rfl,rfl,rfl⟩ -;refine fW fun K1 leA hK1=>?_
                  refine aY rfl rfl (mN 7 _ _ rfl) .nil rfl ?_;rintro _ K2 _ ⟨c1,c2,rfl,hc1,hc2,rfl⟩ leB;refine aX rfl rfl (kF b s r3 (nv::rest) 192 #[ptr c1,ptr c2] (Syn.oneOf 7 [eB,fJ]) _ hs hok3.1 hok3.2 (hg.mono (Hl.le_trans leA leB)) (fun x hx=>lN x 7 [eB,fJ] _ c1 c2 _ hc1 hc2 (.inr ⟨b43,0,2,[str eB,str fJ],(0,0),rfl,⟨_,leB _ _ hK1⟩,rfl⟩) (by simp))) (.cons .here .nil) rfl (fun _ _=>a7 _ _) ?_ ?_
                  ·
                    rintro _ _ _ hTr le1;obtain⟨e,p,hx4,fb,h,rfl⟩:=a8 hTr;cases h
                    refine uAa ?_;refine zz5 ?_;refine bF (Hl.le_trans leA (Hl.le_trans leB le1)) ?_;simp only[hx,eG,g28,g49,if_neg hcond,if_neg g75,hr3,hx4,if_true,if_false,↓reduceIte];exact⟨fb,rfl,rfl⟩
                  rintro _ K _ hTr -;obtain⟨x,hx4,rfl,rfl,rfl⟩:=bA hTr;clear hTr;have hok4:=l8 hok3.1 hx4;refine zz3 ?_;refine uBj ?_;rintro _ K _ ⟨rfl,rfl⟩ -;refine zz3 ?_
                  first
                    | (have hm2 := fC hok2.1 aH hr2; obtain ⟨f0, rfl⟩ : ∃ f0, f = f0 + 1 := ⟨f - 1, by omega⟩
                       refine uAd ?_;refine dQ ⟨hw.cmp,1+cQ dE st2.2.s,hw.oct⟩ r2 ⟨hok3,⟨by simp only[];omega,by simp only[];omega⟩,f0,by omega,?_⟩ aH (.cons 0 rfl (.cons 1 rfl (.cons 7 rfl (.cons 8 rfl .nil)))) rfl (fun _ h=>h)
                       simp only[hx,eG,g28,g49,if_neg hcond,if_neg g75,hr3,hx4,if_true,if_false,↓reduceIte])
                    | (have hm2 := fC hok2.1 aH hr3; have hm3 := iR hok3.1 hx4; obtain ⟨f0, rfl⟩ : ∃ f0, f = f0 + 1 := ⟨f - 1, by omega⟩
                       refine uAd ?_;refine lV (Hl.le_trans leA leB) ?_;refine dQ ⟨true,hw.tag,decide (x.1=eB)⟩ x.2 ⟨hok4,ht,f0,by omega,?_⟩ aH (.cons 0 rfl (.cons 1 rfl (.cons 7 rfl (.cons 8 rfl .nil)))) rfl (fun _ h=>h)
                       simp only[hx,eG,g28,g49,if_neg hcond,if_neg g75,hr3,hx4,if_true,if_false,↓reduceIte])
            ·
              refine zz16 ?_;refine bG 75 rfl (fun h75=>?_) (fun h75=>?_)
              ·
                have g75:cQ dE st2.2.s < 3:=by omega
                have hcond:¬((cQ dE st2.2.s=3∧hw.cmp=true)∨(cQ dE st2.2.s < 3∧hw.tag≠0)):=gBW;refine zz5 ?_;refine uAn ?_;rintro _ K _ ⟨rfl,rfl⟩ -;refine zz6 ?_;refine aX rfl rfl (dJ b 208 s st2.1 _ _ _ _ (nv::rest) hs hok2.1 _ hg) (.cons (.there (.there .here)) .nil) rfl (fun _ _=>a7 _ _) ?_ ?_
                ·
                  rintro _ _ _ hTr le1;obtain⟨e,p,hr2,fb,h,rfl⟩:=a8 hTr;cases h
                  refine uAa ?_;refine zz6 ?_;simp only[hx,eG,g28,g49,if_neg hcond,if_pos g75,hr2,if_true,if_false,↓reduceIte];exact⟨fb,rfl,rfl⟩
                rintro _ K _ hTr -;obtain⟨r2,hr2,rfl,rfl,rfl⟩:=bA hTr;clear hTr;have hok3:=d9 hok2.1 hr2;refine zz3 ?_
                first
                  | (have hm2 := fC hok2.1 aH hr2; obtain ⟨f0, rfl⟩ : ∃ f0, f = f0 + 1 := ⟨f - 1, by omega⟩
                     refine uAd ?_;refine dQ ⟨hw.cmp,1+cQ dE st2.2.s,hw.oct⟩ r2 ⟨hok3,⟨by simp only[];omega,by simp only[];omega⟩,f0,by omega,?_⟩ aH (.cons 0 rfl (.cons 1 rfl (.cons 7 rfl (.cons 8 rfl .nil)))) rfl (fun _ h=>h)
                     simp only[hx,eG,g28,g49,if_neg hcond,if_pos g75,hr2,if_true,if_false,↓reduceIte])
                  | (have hm2 := fC hok2.1 aH hr3; have hm3 := iR hok3.1 hx4; obtain ⟨f0, rfl⟩ : ∃ f0, f = f0 + 1 := ⟨f - 1, by omega⟩
                     refine uAd ?_;refine lV (Hl.le_trans leA leB) ?_;refine dQ ⟨true,hw.tag,decide (x.1=eB)⟩ x.2 ⟨hok4,ht,f0,by omega,?_⟩ aH (.cons 0 rfl (.cons 1 rfl (.cons 7 rfl (.cons 8 rfl .nil)))) rfl (fun _ h=>h)
                     simp only[hx,eG,g28,g49,if_neg hcond,if_pos g75,hr2,if_true,if_false,↓reduceIte])
              ·
                have g75:¬cQ dE st2.2.s < 3:=by omega
                have hcond:¬((cQ dE st2.2.s=3∧hw.cmp=true)∨(cQ dE st2.2.s < 3∧hw.tag≠0)):=gBW;refine zz10 ?_;refine aX rfl rfl (dJ b 208 s st2.1 _ _ _ _ (nv::rest) hs hok2.1 _ hg) (.cons (.there (.there .here)) .nil) rfl (fun _ _=>a7 _ _) ?_ ?_
                ·
                  rintro _ _ _ hTr le1;obtain⟨e,p,hr3,fb,h,rfl⟩:=a8 hTr;cases h
                  refine uAa ?_;refine zz7 ?_;simp only[hx,eG,g28,g49,if_neg hcond,if_neg g75,hr3,if_true,if_false,↓reduceIte];exact⟨fb,rfl,rfl⟩
                rintro _ K _ hTr -;obtain⟨r3,hr3,rfl,rfl,rfl⟩:=bA hTr;clear hTr;have hok3:=d9 hok2.1 hr3;refine zz4 ?_;refine ol_s (a6 (z0:=[(str []),(str [])]) bS tz9 rfl rfl rfl rfl (.cons rfl rfl rfl (.cons .nil) (.cons rfl rfl rfl (.skip (.cons .nil)) .nil))) rfl ?_;rintro _ K _ ⟨b43,rfl,rfl,rfl⟩ -;refine fW fun K1 leA hK1=>?_
                refine aY rfl rfl (mN 7 _ _ rfl) .nil rfl ?_;rintro _ K2 _ ⟨c1,c2,rfl,hc1,hc2,rfl⟩ leB;refine aX rfl rfl (kF b s r3 (nv::rest) 192 #[ptr c1,ptr c2] (Syn.oneOf 7 [eB,fJ]) _ hs hok3.1 hok3.2 (hg.mono (Hl.le_trans leA leB)) (fun x hx=>lN x 7 [eB,fJ] _ c1 c2 _ hc1 hc2 (.inr ⟨b43,0,2,[str eB,str fJ],(0,0),rfl,⟨_,leB _ _ hK1⟩,rfl⟩) (by simp))) (.cons .here .nil) rfl (fun _ _=>a7 _ _) ?_ ?_
                ·
                  rintro _ _ _ hTr le1;obtain⟨e,p,hx4,fb,h,rfl⟩:=a8 hTr;cases h
                  refine uAa ?_;refine zz5 ?_;refine bF (Hl.le_trans leA (Hl.le_trans leB le1)) ?_;simp only[hx,eG,g28,g49,if_neg hcond,if_neg g75,hr3,hx4,if_true,if_false,↓reduceIte];exact⟨fb,rfl,rfl⟩
                rintro _ K _ hTr -;obtain⟨x,hx4,rfl,rfl,rfl⟩:=bA hTr;clear hTr;have hok4:=l8 hok3.1 hx4;refine zz3 ?_;refine uBj ?_;rintro _ K _ ⟨rfl,rfl⟩ -;refine zz3 ?_
                first
                  | (have hm2 := fC hok2.1 aH hr2; obtain ⟨f0, rfl⟩ : ∃ f0, f = f0 + 1 := ⟨f - 1, by omega⟩
                     refine uAd ?_;refine dQ ⟨hw.cmp,1+cQ dE st2.2.s,hw.oct⟩ r2 ⟨hok3,⟨by simp only[];omega,by simp only[];omega⟩,f0,by omega,?_⟩ aH (.cons 0 rfl (.cons 1 rfl (.cons 7 rfl (.cons 8 rfl .nil)))) rfl (fun _ h=>h)
                     simp only[hx,eG,g28,g49,if_neg hcond,if_neg g75,hr3,hx4,if_true,if_false,↓reduceIte])
                  | (have hm2 := fC hok2.1 aH hr3; have hm3 := iR hok3.1 hx4; obtain ⟨f0, rfl⟩ : ∃ f0, f = f0 + 1 := ⟨f - 1, by omega⟩
                     refine uAd ?_;refine lV (Hl.le_trans leA leB) ?_;refine dQ ⟨true,hw.tag,decide (x.1=eB)⟩ x.2 ⟨hok4,ht,f0,by omega,?_⟩ aH (.cons 0 rfl (.cons 1 rfl (.cons 7 rfl (.cons 8 rfl .nil)))) rfl (fun _ h=>h)
                     simp only[hx,eG,g28,g49,if_neg hcond,if_neg g75,hr3,hx4,if_true,if_false,↓reduceIte])
        ·
          refine zz10 ?_;refine cF 62 rfl (fun g62=>?_) (fun g62=>?_)
          ·
            refine zz12 ?_
            first|refine bG 54 rfl (fun h54=>?_) (fun h54=>?_)|refine d8 54 rfl (fun h54=>?_) (fun h54=>?_)
            ·
              refine zz7 ?_;have hcond:(cQ dE st2.2.s=3∧hw.cmp=true)∨(cQ dE st2.2.s < 3∧hw.tag≠0):=gCF;refine aX rfl rfl (eL 7 st2.2.at_ _) .nil rfl gBM ?_ ?_
              ·
                rintro _ _ _ ⟨fb,h,rfl⟩ le1;cases h
                refine uAa ?_;refine zz6 ?_;simp only[hx,eG,g28,g49,if_pos hcond,if_true,if_false];exact⟨fb,rfl,rfl⟩
              ·
                rintro _ _ _ ⟨_,h,_⟩;cases h
            ·
              refine zz7 ?_;refine bG 75 rfl (fun h75=>?_) (fun h75=>?_)
              ·
                have g75:cQ dE st2.2.s < 3:=by omega
                have hcond:¬((cQ dE st2.2.s=3∧hw.cmp=true)∨(cQ dE st2.2.s < 3∧hw.tag≠0)):=gBW;refine zz5 ?_;refine uAn ?_;rintro _ K _ ⟨rfl,rfl⟩ -;refine zz6 ?_;refine aX rfl rfl (dJ b 208 s st2.1 _ _ _ _ (nv::rest) hs hok2.1 _ hg) (.cons (.there (.there .here)) .nil) rfl (fun _ _=>a7 _ _) ?_ ?_
                ·
                  rintro _ _ _ hTr le1;obtain⟨e,p,hr2,fb,h,rfl⟩:=a8 hTr;cases h
                  refine uAa ?_;refine zz6 ?_;simp only[hx,eG,g28,g49,if_neg hcond,if_pos g75,hr2,if_true,if_false,↓reduceIte];exact⟨fb,rfl,rfl⟩
                rintro _ K _ hTr -;obtain⟨r2,hr2,rfl,rfl,rfl⟩:=bA hTr;clear hTr;have hok3:=d9 hok2.1 hr2;refine zz3 ?_
                first
                  | (have hm2 := fC hok2.1 aH hr2; obtain ⟨f0, rfl⟩ : ∃ f0, f = f0 + 1 := ⟨f - 1, by omega⟩
                     refine uAd ?_;refine dQ ⟨hw.cmp,1+cQ dE st2.2.s,hw.oct⟩ r2 ⟨hok3,⟨by simp only[];omega,by simp only[];omega⟩,f0,by omega,?_⟩ aH (.cons 0 rfl (.cons 1 rfl (.cons 7 rfl (.cons 8 rfl .nil)))) rfl (fun _ h=>h)
                     simp only[hx,eG,g28,g49,if_neg hcond,if_pos g75,hr2,if_true,if_false,↓reduceIte])
                  | (have hm2 := fC hok2.1 aH hr3; have hm3 := iR hok3.1 hx4; obtain ⟨f0, rfl⟩ : ∃ f0, f = f0 + 1 := ⟨f - 1, by omega⟩
                     refine uAd ?_;refine lV (Hl.le_trans leA leB) ?_;refine dQ ⟨true,hw.tag,decide (x.1=eB)⟩ x.2 ⟨hok4,ht,f0,by omega,?_⟩ aH (.cons 0 rfl (.cons 1 rfl (.cons 7 rfl (.cons 8 rfl .nil)))) rfl (fun _ h=>h)
                     simp only[hx,eG,g28,g49,if_neg hcond,if_pos g75,hr2,if_true,if_false,↓reduceIte])
              ·
                have g75:¬cQ dE st2.2.s < 3:=by omega
                have hcond:¬((cQ dE st2.2.s=3∧hw.cmp=true)∨(cQ dE st2.2.s < 3∧hw.tag≠0)):=gBW;refine zz10 ?_;refine aX rfl rfl (dJ b 208 s st2.1 _ _ _ _ (nv::rest) hs hok2.1 _ hg) (.cons (.there (.there .here)) .nil) rfl (fun _ _=>a7 _ _) ?_ ?_
                ·
                  rintro _ _ _ hTr le1;obtain⟨e,p,hr3,fb,h,rfl⟩:=a8 hTr;cases h
                  refine uAa ?_;refine zz7 ?_;simp only[hx,eG,g28,g49,if_neg hcond,if_neg g75,hr3,if_true,if_false,↓reduceIte];exact⟨fb,rfl,rfl⟩
                rintro _ K _ hTr -;obtain⟨r3,hr3,rfl,rfl,rfl⟩:=bA hTr;clear hTr;have hok3:=d9 hok2.1 hr3;refine zz4 ?_;refine ol_s (a6 (z0:=[(str []),(str [])]) bS tz9 rfl rfl rfl rfl (.cons rfl rfl rfl (.cons .nil) (.cons rfl rfl rfl (.skip (.cons .nil)) .nil))) rfl ?_;rintro _ K _ ⟨b43,rfl,rfl,rfl⟩ -;refine fW fun K1 leA hK1=>?_
                refine aY rfl rfl (mN 7 _ _ rfl) .nil rfl ?_;rintro _ K2 _ ⟨c1,c2,rfl,hc1,hc2,rfl⟩ leB;refine aX rfl rfl (kF b s r3 (nv::rest) 192 #[ptr c1,ptr c2] (Syn.oneOf 7 [eB,fJ]) _ hs hok3.1 hok3.2 (hg.mono (Hl.le_trans leA leB)) (fun x hx=>lN x 7 [eB,fJ] _ c1 c2 _ hc1 hc2 (.inr ⟨b43,0,2,[str eB,str fJ],(0,0),rfl,⟨_,leB _ _ hK1⟩,rfl⟩) (by simp))) (.cons .here .nil) rfl (fun _ _=>a7 _ _) ?_ ?_
                ·
                  rintro _ _ _ hTr le1;obtain⟨e,p,hx4,fb,h,rfl⟩:=a8 hTr;cases h
                  refine uAa ?_;refine zz5 ?_;refine bF (Hl.le_trans leA (Hl.le_trans leB le1)) ?_;simp only[hx,eG,g28,g49,if_neg hcond,if_neg g75,hr3,hx4,if_true,if_false,↓reduceIte];exact⟨fb,rfl,rfl⟩
                rintro _ K _ hTr -;obtain⟨x,hx4,rfl,rfl,rfl⟩:=bA hTr;clear hTr;have hok4:=l8 hok3.1 hx4;refine zz3 ?_;refine uBj ?_;rintro _ K _ ⟨rfl,rfl⟩ -;refine zz3 ?_
                first
                  | (have hm2 := fC hok2.1 aH hr2; obtain ⟨f0, rfl⟩ : ∃ f0, f = f0 + 1 := ⟨f - 1, by omega⟩
                     refine uAd ?_;refine dQ ⟨hw.cmp,1+cQ dE st2.2.s,hw.oct⟩ r2 ⟨hok3,⟨by simp only[];omega,by simp only[];omega⟩,f0,by omega,?_⟩ aH (.cons 0 rfl (.cons 1 rfl (.cons 7 rfl (.cons 8 rfl .nil)))) rfl (fun _ h=>h)
                     simp only[hx,eG,g28,g49,if_neg hcond,if_neg g75,hr3,hx4,if_true,if_false,↓reduceIte])
                  | (have hm2 := fC hok2.1 aH hr3; have hm3 := iR hok3.1 hx4; obtain ⟨f0, rfl⟩ : ∃ f0, f = f0 + 1 := ⟨f - 1, by omega⟩
                     refine uAd ?_;refine lV (Hl.le_trans leA leB) ?_;refine dQ ⟨true,hw.tag,decide (x.1=eB)⟩ x.2 ⟨hok4,ht,f0,by omega,?_⟩ aH (.cons 0 rfl (.cons 1 rfl (.cons 7 rfl (.cons 8 rfl .nil)))) rfl (fun _ h=>h)
                     simp only[hx,eG,g28,g49,if_neg hcond,if_neg g75,hr3,hx4,if_true,if_false,↓reduceIte])
          ·
            refine zz16 ?_;refine bG 75 rfl (fun h75=>?_) (fun h75=>?_)
            ·
              have g75:cQ dE st2.2.s < 3:=by omega
              have hcond:¬((cQ dE st2.2.s=3∧hw.cmp=true)∨(cQ dE st2.2.s < 3∧hw.tag≠0)):=gBW;refine zz5 ?_;refine uAn ?_;rintro _ K _ ⟨rfl,rfl⟩ -;refine zz6 ?_;refine aX rfl rfl (dJ b 208 s st2.1 _ _ _ _ (nv::rest) hs hok2.1 _ hg) (.cons (.there (.there .here)) .nil) rfl (fun _ _=>a7 _ _) ?_ ?_
              ·
                rintro _ _ _ hTr le1;obtain⟨e,p,hr2,fb,h,rfl⟩:=a8 hTr;cases h
                refine uAa ?_;refine zz6 ?_;simp only[hx,eG,g28,g49,if_neg hcond,if_pos g75,hr2,if_true,if_false,↓reduceIte];exact⟨fb,rfl,rfl⟩
              rintro _ K _ hTr -;obtain⟨r2,hr2,rfl,rfl,rfl⟩:=bA hTr;clear hTr;have hok3:=d9 hok2.1 hr2;refine zz3 ?_
              first
                | (have hm2 := fC hok2.1 aH hr2; obtain ⟨f0, rfl⟩ : ∃ f0, f = f0 + 1 := ⟨f - 1, by omega⟩
                   refine uAd ?_;refine dQ ⟨hw.cmp,1+cQ dE st2.2.s,hw.oct⟩ r2 ⟨hok3,⟨by simp only[];omega,by simp only[];omega⟩,f0,by omega,?_⟩ aH (.cons 0 rfl (.cons 1 rfl (.cons 7 rfl (.cons 8 rfl .nil)))) rfl (fun _ h=>h)
                   simp only[hx,eG,g28,g49,if_neg hcond,if_pos g75,hr2,if_true,if_false,↓reduceIte])
                | (have hm2 := fC hok2.1 aH hr3; have hm3 := iR hok3.1 hx4; obtain ⟨f0, rfl⟩ : ∃ f0, f = f0 + 1 := ⟨f - 1, by omega⟩
                   refine uAd ?_;refine lV (Hl.le_trans leA leB) ?_;refine dQ ⟨true,hw.tag,decide (x.1=eB)⟩ x.2 ⟨hok4,ht,f0,by omega,?_⟩ aH (.cons 0 rfl (.cons 1 rfl (.cons 7 rfl (.cons 8 rfl .nil)))) rfl (fun _ h=>h)
                   simp only[hx,eG,g28,g49,if_neg hcond,if_pos g75,hr2,if_true,if_false,↓reduceIte])
            ·
              have g75:¬cQ dE st2.2.s < 3:=by omega
              have hcond:¬((cQ dE st2.2.s=3∧hw.cmp=true)∨(cQ dE st2.2.s < 3∧hw.tag≠0)):=gBW;refine zz10 ?_;refine aX rfl rfl (dJ b 208 s st2.1 _ _ _ _ (nv::rest) hs hok2.1 _ hg) (.cons (.there (.there .here)) .nil) rfl (fun _ _=>a7 _ _) ?_ ?_
              ·
                rintro _ _ _ hTr le1;obtain⟨e,p,hr3,fb,h,rfl⟩:=a8 hTr;cases h
                refine uAa ?_;refine zz7 ?_;simp only[hx,eG,g28,g49,if_neg hcond,if_neg g75,hr3,if_true,if_false,↓reduceIte];exact⟨fb,rfl,rfl⟩
              rintro _ K _ hTr -;obtain⟨r3,hr3,rfl,rfl,rfl⟩:=bA hTr;clear hTr;have hok3:=d9 hok2.1 hr3;refine zz4 ?_;refine ol_s (a6 (z0:=[(str []),(str [])]) bS tz9 rfl rfl rfl rfl (.cons rfl rfl rfl (.cons .nil) (.cons rfl rfl rfl (.skip (.cons .nil)) .nil))) rfl ?_;rintro _ K _ ⟨b43,rfl,rfl,rfl⟩ -;refine fW fun K1 leA hK1=>?_
              refine aY rfl rfl (mN 7 _ _ rfl) .nil rfl ?_;rintro _ K2 _ ⟨c1,c2,rfl,hc1,hc2,rfl⟩ leB;refine aX rfl rfl (kF b s r3 (nv::rest) 192 #[ptr c1,ptr c2] (Syn.oneOf 7 [eB,fJ]) _ hs hok3.1 hok3.2 (hg.mono (Hl.le_trans leA leB)) (fun x hx=>lN x 7 [eB,fJ] _ c1 c2 _ hc1 hc2 (.inr ⟨b43,0,2,[str eB,str fJ],(0,0),rfl,⟨_,leB _ _ hK1⟩,rfl⟩) (by simp))) (.cons .here .nil) rfl (fun _ _=>a7 _ _) ?_ ?_
              ·
                rintro _ _ _ hTr le1;obtain⟨e,p,hx4,fb,h,rfl⟩:=a8 hTr;cases h
                refine uAa ?_;refine zz5 ?_;refine bF (Hl.le_trans leA (Hl.le_trans leB le1)) ?_;simp only[hx,eG,g28,g49,if_neg hcond,if_neg g75,hr3,hx4,if_true,if_false,↓reduceIte];exact⟨fb,rfl,rfl⟩
              rintro _ K _ hTr -;obtain⟨x,hx4,rfl,rfl,rfl⟩:=bA hTr;clear hTr;have hok4:=l8 hok3.1 hx4;refine zz3 ?_;refine uBj ?_;rintro _ K _ ⟨rfl,rfl⟩ -;refine zz3 ?_
              first
                | (have hm2 := fC hok2.1 aH hr2; obtain ⟨f0, rfl⟩ : ∃ f0, f = f0 + 1 := ⟨f - 1, by omega⟩
                   refine uAd ?_;refine dQ ⟨hw.cmp,1+cQ dE st2.2.s,hw.oct⟩ r2 ⟨hok3,⟨by simp only[];omega,by simp only[];omega⟩,f0,by omega,?_⟩ aH (.cons 0 rfl (.cons 1 rfl (.cons 7 rfl (.cons 8 rfl .nil)))) rfl (fun _ h=>h)
                   simp only[hx,eG,g28,g49,if_neg hcond,if_neg g75,hr3,hx4,if_true,if_false,↓reduceIte])
                | (have hm2 := fC hok2.1 aH hr3; have hm3 := iR hok3.1 hx4; obtain ⟨f0, rfl⟩ : ∃ f0, f = f0 + 1 := ⟨f - 1, by omega⟩
                   refine uAd ?_;refine lV (Hl.le_trans leA leB) ?_;refine dQ ⟨true,hw.tag,decide (x.1=eB)⟩ x.2 ⟨hok4,ht,f0,by omega,?_⟩ aH (.cons 0 rfl (.cons 1 rfl (.cons 7 rfl (.cons 8 rfl .nil)))) rfl (fun _ h=>h)
                   simp only[hx,eG,g28,g49,if_neg hcond,if_neg g75,hr3,hx4,if_true,if_false,↓reduceIte])
    ·
      have g28:¬st2.2.kind=2:=by omega
      refine zz13 ?_;refine uAn ?_;rintro _ K _ ⟨rfl,rfl⟩ -;refine zz7 ?_;refine gG (fun(fn:FuncId)=>∀x:List UInt8,x.length≤600→Sp Tryz.prog fn [str x] K [] (Val (i64 (nB op x)) K)) (fun fn=>[(0,ptr b),(7,ptr b7),(10,.func (.func fn) #[] #[])]) (fun _=>K) (fun _=>[pt b7 (aU [i64 (if 1>hw.tag then 1 else hw.tag),.bool hw.oct,i64 op,.slice none 0 0,.slice none 0 0] 380),psb b s st2 (nv::rest)]) ?_ ?_
      ·
        refine zz6 ?_;refine bG 92 rfl (fun h92=>?_) (fun h92=>?_)
        ·
          refine zz3 ?_
          first
            |exact bU 265 (fun x hx=>by rw[aXO h92];exact yR x _ aH) (.cons 0 rfl (.cons 7 rfl (.cons 10 rfl .nil))) rfl (fun _ h=>h)
            |exact bU 177 (fun x hx=>by rw[aXN h92];exact kR x _) (.cons 0 rfl (.cons 7 rfl (.cons 10 rfl .nil))) rfl (fun _ h=>h)
        ·
          refine aW ?_
          first
            |exact bU 265 (fun x hx=>by rw[aXO h92];exact yR x _ aH) (.cons 0 rfl (.cons 7 rfl (.cons 10 rfl .nil))) rfl (fun _ h=>h)
            |exact bU 177 (fun x hx=>by rw[aXN h92];exact kR x _) (.cons 0 rfl (.cons 7 rfl (.cons 10 rfl .nil))) rfl (fun _ h=>h)
      ·
        intro fn hfn;refine zz4 ?_;refine aX rfl rfl (q7 b s st2 (nv::rest) fn #[] (nB op) _ hs hok2 hg hfn) (.cons (.there .here) .nil) rfl (fun _ _=>a7 _ _) ?_ ?_
        ·
          rintro _ _ _ hTr le1;obtain⟨e,p,ha1,fb,h,rfl⟩:=a8 hTr;cases h
          refine uAa ?_;refine zz2 ?_;simp only[hx,eG,l4,g28,ha1,if_true,if_false,↓reduceIte];exact⟨fb,rfl,rfl⟩
        rintro _ K _ hTr -;obtain⟨va,ha1,rfl,rfl⟩:=bA hTr;clear hTr;have hok3:=(mZ hok2 ha1).1;refine fL fun K1 leA hA=>?_
        have oA:=hA.one;refine zz1 ?_;refine bR (bL ts39 rfl rfl cK bB (.succ (.succ (.succ .zero))) rfl) ?_;rintro _ K _ ⟨rfl,rfl⟩ -;refine zz5 ?_;refine aX rfl rfl (q7 b s va.2 (nv::rest) 177 #[] (fun _=>0) _ hs hok3 (hg.mono leA) (fun x hx=>kR x _)) (.cons .here .nil) rfl (fun _ _=>a7 _ _) ?_ ?_
        ·
          rintro _ _ _ hTr le1;obtain⟨e,p,hb1,fb,h,rfl⟩:=a8 hTr;cases h
          refine uAa ?_;refine aK ?_;refine bF (Hl.le_trans leA le1) ?_;simp only[hx,eG,l4,g28,ha1,hb1,if_true,if_false,↓reduceIte];exact⟨fb,rfl,rfl⟩
        rintro _ K _ hTr -;obtain⟨vb,hb1,rfl,rfl⟩:=bA hTr;clear hTr;refine fL fun K2 leB hB=>?_
        have oB:=hB.one;refine zz1 ?_;refine uBg ?_;rintro _ K _ ⟨rfl,rfl⟩ -;refine zz5 ?_;refine aA (dG Tryz.underlying380 (fun _ h=>by cases h) rfl) rfl ?_;refine zz4 ?_;refine uAa ?_;refine bJ rfl rfl (Hl.le_trans leA leB) ?_;simp only[hx,eG,l4,g28,ha1,hb1,if_true,if_false,↓reduceIte];exact⟨_,rfl,⟨_,_,rfl,_,_,hA.mono leB,hB,rfl⟩,rfl⟩
end Go.Proofs
end
section
namespace Go.Syn
def Adv{α:Type}(s:aJ)(T:St→Res (α×St)):Prop:=∀st r,Ok s st→T st=.ok r→Ok s r.2∧mu s r.2 < mu s st
def AdvE{α:Type}(s:aJ)(T:St→Res (α×St)):Prop:=∀st r,Ok s st→T st=.ok r→Ok s r.2∧mu s r.2≤mu s st
def AdvN{α:Type}(s:aJ)(T:St→Res (α×St)):Prop:=∀st r,Ok s st→st.2.kind≠0→T st=.ok r→Ok s r.2∧mu s r.2 < mu s st
theorem Adv.n{α:Type}{s:aJ}{T:St→Res (α×St)}(h:Adv s T):AdvN s T:=fun st r hok _ e=>h st r hok e
variable{s:aJ}
theorem fP{st r:St}(hok:Ok s st)(hk:st.2.kind≠0)(h:next s st.1=.ok r):Ok s r∧mu s r < mu s st:=⟨d9 hok.1 h,(fC hok.1 hk h).1⟩
theorem qD{st:St}{k:Nat}{texts:List aJ}{r:Word×St}(hok:Ok s st)(hk:k≠0)(h:take s st k texts=.ok r):Ok s r.2∧mu s r.2 < mu s st:=⟨wQ hok.1 h,(aF4 hok.1 hk h).1⟩
theorem fR{st r:St}{x:aJ}(hok:Ok s st)(h:sign s st x=.ok r):Ok s r∧mu s r < mu s st:=⟨zJ hok.1 h,(tJ hok.1 h).1⟩
theorem tB{st:St}{x:aJ}{r:Bool×St}(hok:Ok s st)(h:eat s st x=.ok r):Ok s r.2∧mu s r.2≤mu s st:=⟨xB hok h,(rW hok.1 h).2.1⟩
theorem l7{st:St}{ff:aJ→Int}{r:aJ×St}(hok:Ok s st)(h:text s st ff=.ok r):Ok s r.2∧mu s r.2 < mu s st:=⟨l8 hok.1 h,(iR hok.1 h).1⟩
theorem aDO:∀ {f:Nat} {h:How} {st:St} {r:How×St},Ok s st→eG s f h st=.ok r→Ok s r.2∧mu s r.2≤mu s st:=by
 intro f;induction f with
 |zero=>intro h st r _ e;cases e
 |succ f ih=>
  intro h st r hok e;simp only[eG]at e;split at e
  ·rename_i hk;split at e
   ·cases e
   split at e
   ·cases e
   split at e
   ·split at e
    ·cases e
    ·rename_i q hq;have h1:=fP hok aH hq;have:=ih h1.1 e;exact⟨this.1,by omega⟩
   ·split at e
    ·cases e
    ·rename_i q hq;have h1:=fP hok aH hq;split at e
     ·cases e
     ·rename_i x hx;have h2:=l7 h1.1 hx;have:=ih h2.1 e;exact⟨this.1,by omega⟩
  ·cases e;exact⟨hok,Nat.le_refl _⟩
theorem uQ{needs:List aJ}{op:Int}{ext:aJ}:AdvN s (jC s needs op ext):=by
 intro st r hok hk e;unfold jC at e;split at e
 ·cases e
 split at e
 ·cases e
 rename_i q hq;have h1:=fP hok hk hq;unfold l4 at e;split at e
 ·cases e
 rename_i h hh;have h2:=aDO h1.1 hh;split at e
 ·cases e
 rename_i a ha;have h3:=mZ h2.1 ha;split at e
 ·cases e
 rename_i b hb;have h4:=mZ h3.1 hb;cases e
 exact⟨h4.1,by simp only[];omega⟩
theorem sM{c:Tree}:AdvN s (iG s c):=by
 intro st r hok hk e;unfold iG at e;split at e
 ·cases e
 rename_i q hq;have h1:=fP hok hk hq;split at e
 ·cases e
 rename_i x hx;have h2:=fR h1.1 hx;cases e
 exact⟨h2.1,by simp only[];omega⟩
theorem zQ{needs:List aJ}{k:Int}{ext:aJ}{p:Int}:AdvN s (actC s needs k ext p):=by
 intro st r hok hk e;unfold actC at e;split at e
 ·cases e
 split at e
 ·cases e
 rename_i q hq;have h1:=fP hok hk hq;split at e
 ·cases e
 rename_i x hx;have h2:=qD h1.1 (by decide) hx;split at e
 ·cases e
 rename_i y hy;have h3:=fR h2.1 hy;cases e
 exact⟨h3.1,by simp only[];omega⟩
theorem z8{b:Bool}:AdvN s (kJ s b):=by
 intro st r hok hk e;unfold kJ at e;split at e
 ·cases e
 rename_i q hq;have h1:=fP hok hk hq;cases e
 exact⟨h1.1,by simp only[];omega⟩
theorem aG6:AdvN s (lA s):=by
 intro st r hok hk e;unfold lA at e;split at e
 ·cases e
 rename_i q hq;have h1:=fP hok hk hq;split at e
 ·cases e
 rename_i a ha;have h3:=mZ h1.1 ha;cases e
 exact⟨h3.1,by simp only[];omega⟩
theorem aPG:AdvN s (oT s):=by
 intro st r hok hk e;unfold oT at e;split at e
 ·cases e
 rename_i q hq;have h1:=fP hok hk hq;split at e
 ·cases e
 rename_i x hx;have h2:=qD h1.1 (by decide) hx;split at e
 ·cases e
 rename_i y hy;have h3:=qD h2.1 (by decide) hy;cases e
 exact⟨h3.1,by simp only[];omega⟩
theorem aSI{T:St→Res (Tree×St)}(hT:Adv s T):AdvN s (notC s T):=by
 intro st r hok hk e;unfold notC at e;split at e
 ·cases e
 rename_i q hq;have h1:=fP hok hk hq;split at e
 ·cases e
 rename_i t ht;have h2:=hT _ _ h1.1 ht;cases e
 exact⟨h2.1,by simp only[];omega⟩
theorem aOB{T:St→Res (Tree×St)}(hT:Adv s T):∀ {f:Nat} {acc:Tree} {st:St} {r:Tree×St},Ok s st→nA s T f acc st=.ok r→Ok s r.2∧mu s r.2≤mu s st:=by
 intro f;induction f with
 |zero=>intro acc st r _ e;cases e
 |succ f ih=>
  intro acc st r hok e;simp only[nA]at e;split at e
  ·cases e
  rename_i q hq;have h1:=tB hok hq;split at e
  ·split at e
   ·cases e
   rename_i t ht;have h2:=hT _ _ h1.1 ht;have:=ih h2.1 e;exact⟨this.1,by omega⟩
  ·split at e
   ·cases e
   rename_i y hy;have h2:=fR h1.1 hy;cases e
   exact⟨h2.1,by simp only[];omega⟩
theorem aC3{T:St→Res (Tree×St)}{all:Bool}(hT:Adv s T):AdvN s (mC s T all):=by
 intro st r hok hk e;unfold mC at e;split at e
 ·cases e
 rename_i q hq;have h1:=fP hok hk hq;split at e
 ·cases e
 rename_i x hx;have h2:=fR h1.1 hx;split at e
 ·cases e
 rename_i t ht;have h3:=hT _ _ h2.1 ht;unfold tE at e;split at e
 ·cases e
 rename_i l hl;have h4:=aOB hT h3.1 hl;cases e
 exact⟨h4.1,by simp only[];omega⟩
theorem aPW{needs:List aJ}{T:St→Res (Tree×St)}(hT:Adv s T){st:St}{r:Tree×St}(hok:Ok s st)(hk:st.2.kind≠0)(e:mE s needs T st=some (.ok r)):Ok s r.2∧mu s r.2 < mu s st:=by
 unfold mE at e;simp only[]at e;split at e
 ·exact z8 _ _ hok hk gBS
 split at e
 ·exact z8 _ _ hok hk gBS
 split at e
 ·exact aSI hT _ _ hok hk gBS
 split at e
 ·exact aC3 hT _ _ hok hk gBS
 split at e
 ·exact aC3 hT _ _ hok hk gBS
 split at e
 ·exact uQ _ _ hok hk gBS
 split at e
 ·exact uQ _ _ hok hk gBS
 split at e
 ·exact uQ _ _ hok hk gBS
 split at e
 ·exact aG6 _ _ hok hk gBS
 split at e
 ·exact aPG _ _ hok hk gBS
 ·cases e
theorem nH{needs:List aJ}:∀n,Adv s (test s needs n):=by
 intro n;induction n with
 |zero=>intro st r hok e;simp only[test]at e;split at e <;> cases e
 |succ n ih=>
  intro st r hok e;simp only[test]at e;split at e
  ·rename_i hk;split at e
   ·rename_i x hx;subst e;exact aPW ih hok aH hx
   ·cases e
  ·cases e
theorem lK{B:St→Res (Tree×St)}(hB:AdvE s B):Adv s (lS s B):=by
 intro st r hok e;unfold lS at e;split at e
 ·cases e
 rename_i q hq;have h1:=fR hok hq;split at e
 ·cases e
 rename_i b hb;have h2:=hB _ _ h1.1 hb;split at e
 ·cases e
 rename_i y hy;have h3:=fR h2.1 hy;cases e
 exact⟨h3.1,by simp only[];omega⟩
theorem aNA{B:St→Res (Tree×St)}(hB:AdvE s B){acc:Tree}:AdvE s (iA s B acc):=by
 intro st r hok e;unfold iA at e;split at e
 ·rename_i hk;split at e
  ·cases e
  rename_i q hq;have h1:=fP hok aH hq;split at e
  ·cases e
  rename_i b hb;have h2:=lK hB _ _ h1.1 hb;cases e
  exact⟨h2.1,by simp only[];omega⟩
 ·cases e;exact⟨hok,Nat.le_refl _⟩
theorem aJY{T B:St→Res (Tree×St)}(hT:Adv s T)(hB:AdvE s B):∀ {f:Nat} {acc:Tree} {st:St} {r:Tree×St},Ok s st→eM s T B f acc st=.ok r→Ok s r.2∧mu s r.2≤mu s st:=by
 intro f;induction f with
 |zero=>intro acc st r _ e;cases e
 |succ f ih=>
  intro acc st r hok e;simp only[eM]at e;split at e
  ·rename_i hk;split at e
   ·cases e
   rename_i q hq;have h1:=fP hok aH hq;split at e
   ·cases e
   rename_i t ht;have h2:=hT _ _ h1.1 ht;split at e
   ·cases e
   rename_i b hb;have h3:=lK hB _ _ h2.1 hb;have:=ih h3.1 e;exact⟨this.1,by omega⟩
  ·exact aNA hB _ _ hok e
theorem aVL{T B:St→Res (Tree×St)}(hT:Adv s T)(hB:AdvE s B):AdvN s (ifC s T B):=by
 intro st r hok hk e;unfold ifC at e;split at e
 ·cases e
 rename_i q hq;have h1:=fP hok hk hq;split at e
 ·cases e
 rename_i t ht;have h2:=hT _ _ h1.1 ht;split at e
 ·cases e
 rename_i b hb;have h3:=lK hB _ _ h2.1 hb;have:=aJY hT hB h3.1 e;exact⟨this.1,by omega⟩
theorem aII{needs:List aJ}:AdvN s (setC s needs):=by
 intro st r hok hk e;unfold setC at e;split at e
 ·split at e
  ·cases e
  rename_i q hq;have h1:=fP hok hk hq;split at e
  ·cases e
  rename_i t ht;have h2:Ok s t.2∧mu s t.2≤mu s q:=by
   unfold jD at ht;split at ht
   ·rename_i hk2;split at ht
    ·cases ht
    split at ht
    ·cases ht
    rename_i x hx;cases ht
    have:=fP h1.1 aH hx;exact⟨this.1,by simp only[];omega⟩
   ·cases ht;exact⟨h1.1,Nat.le_refl _⟩
  unfold lC at e;split at e
  ·cases e
  rename_i n hn;have h3:=l7 h2.1 hn;split at e
  ·cases e
  rename_i v hv;have h4:=l7 h3.1 hv;split at e
  ·cases e
  rename_i y hy;have h5:=fR h4.1 hy;cases e
  exact⟨h5.1,by simp only[];omega⟩
 ·cases e
theorem aPB{needs:List aJ}:AdvN s (qB s needs):=by
 intro st r hok hk e;unfold qB at e;split at e
 ·cases e
 rename_i q hq;have h1:=aII _ _ hok hk hq;cases e
 exact⟨h1.1,by simp only[];omega⟩
theorem z7{needs:List aJ}{T B:St→Res (Tree×St)}(hT:Adv s T)(hB:AdvE s B){st:St}{r:Tree×St}(hok:Ok s st)(hk:st.2.kind≠0)(e:cmdD s needs T B st=some (.ok r)):Ok s r.2∧mu s r.2 < mu s st:=by
 unfold cmdD at e;simp only[]at e;split at e
 ·exact sM _ _ hok hk gBS
 split at e
 ·exact sM _ _ hok hk gBS
 split at e
 ·exact sM _ _ hok hk gBS
 split at e
 ·exact zQ _ _ hok hk gBS
 split at e
 ·exact zQ _ _ hok hk gBS
 split at e
 ·exact zQ _ _ hok hk gBS
 split at e
 ·exact aPB _ _ hok hk gBS
 split at e
 ·exact aVL hT hB _ _ hok hk gBS
 ·cases e
theorem aJM{C:St→Option (Res (Tree×St))}(hC:∀ {st r},Ok s st→st.2.kind≠0→C st=some (.ok r)→Ok s r.2∧mu s r.2 < mu s st):∀ {f:Nat} {acc:Tree} {st:St} {r:Tree×St},Ok s st→gW s C f acc st=.ok r→Ok s r.2∧mu s r.2≤mu s st:=by
 intro f;induction f with
 |zero=>intro acc st r _ e;cases e
 |succ f ih=>
  intro acc st r hok e;simp only[gW]at e;split at e
  ·rename_i hk;split at e
   ·cases e
   ·cases e
   rename_i c hc;have h1:=hC hok aH hc;have:=ih h1.1 e;exact⟨this.1,by omega⟩
  ·cases e;exact⟨hok,Nat.le_refl _⟩
theorem s7{needs:List aJ}:∀n,AdvE s (block s needs n):=by
 intro n;induction n with
 |zero=>intro st r hok e;simp only[block]at e;split at e <;> cases e;exact⟨hok,Nat.le_refl _⟩
 |succ n ih=>
  intro st r hok e;simp only[block]at e;exact aJM (fun h1 h2 h3=>z7 (nH n) ih h1 h2 h3) hok e
end Go.Syn
namespace Go.Syn
variable{s:aJ}
theorem aNU{ff:aJ→Int}:∀ {f:Nat} {st:St} {acc:List aJ} {r:List aJ×St},Ok s st→lZ s ff f st acc=.ok r→r.1.length+mu s r.2≤acc.length+mu s st:=by
 intro f;induction f with
 |zero=>intro st acc r _ h;cases h
 |succ f ih=>
  intro st acc r hok h;simp only[lZ]at h;split at h
  ·cases h
  ·rename_i q hq;have h1:=tB hok hq;split at h
   ·split at h
    ·cases h
    ·rename_i x hx;have h2:=l7 h1.1 hx;have:=ih h2.1 h;simp at this;omega
   ·split at h
    ·cases h
    ·rename_i y hy;have h2:=fR h1.1 hy;cases h
     simp only[];omega
theorem sC{ff:aJ→Int}{st:St}{r:List aJ×St}(hok:Ok s st)(h:list s st ff=.ok r):r.1.length+mu s r.2≤mu s st:=by
 unfold list at h;split at h
 ·cases h
 ·rename_i q hq;have h1:=tB hok hq;split at h
  ·cases h
  ·rename_i x hx;have h2:=l7 h1.1 hx;split at h
   ·have:=aNU h2.1 h;simp at this;omega
   ·cases h;simp only[List.length_singleton];omega
def fB:aJ:=[114,101,113,117,105,114,101]
def oX:List aJ:=[e8,e9,gS,dN]
def addN(ns:List aJ)(e:aJ):List aJ:=if e∈ns then ns else ns++[e]
def eX(ns l:List aJ):List aJ:=l.foldl addN ns
theorem aQB(ns:List aJ)(e:aJ):(addN ns e).length≤ns.length+1:=by unfold addN;split <;> simp
theorem mW{ns l:List aJ}{i:Nat}{e:aJ}(h:l[i]?=some e):eX ns (l.take (i+1))=addN (eX ns (l.take i)) e:=by
 have hi:i < l.length:=by
  rcases Nat.lt_or_ge i l.length with h'|h'
  ·exact h'
  ·simp[List.getElem?_eq_none h']at h
 have hc:l[i]=e:=by simpa[List.getElem?_eq_getElem hi]using h
 rw[List.take_succ_eq_append_getElem hi,hc];simp[eX]
theorem aEG{ns l:List aJ}{i:Nat}(h:l.length≤i):eX ns (l.take i)=eX ns l:=by rw[List.take_of_length_le h]
def reqF(s:aJ):Nat→List aJ→St→Res (List aJ×St)
 |0,_,_=>.error (0,0)
 |f+1,ns,st=>
  if st.2.kind=1∧st.2.s=fB then
   match next s st.1 with
   | .error e=>.error e
   | .ok r=>
    match list s r (oneOf 6 oX)with
    | .error e=>.error e
    | .ok l=>
     match sign s l.2 [59]with
     | .error e=>.error e
     | .ok q=>reqF s f (eX ns l.1) q
  else .ok (ns,st)
def f9(s:aJ)(n:Res (List aJ×St)):Res (List aJ×Tree):=
 match n with
 | .error e=>.error e
 | .ok n=>
  match block s n.1 7 n.2 with
  | .error e=>.error e
  | .ok b=>if b.2.2.kind=0 then .ok (n.1,b.1)else .error (4,b.2.2.at_)
def eE(s:aJ):Res (List aJ×Tree):=
 match next s 0 with
 | .error e=>.error e
 | .ok r=>f9 s (reqF s (mu s r+1) [] r)
end Go.Syn
end
section
attribute [local irreducible] Go.SL.T Go.SL.OL Go.SL.D Go.SL.DL Go.SL.Ev Go.SL.Ef Go.SL.EfS
namespace Go.Proofs
open Go Go.SL Go.Syn
def RT(s:List UInt8)(b:Nat)(rest:List Value)(r:Res (Tree×St)):Ending→Hl→List Asn→Prop:=f6 r fun r v K' L'=>Rep1 K' r.1 v∧L'=[psb b s r.2 rest]
theorem aH8(K:Hl)(k:Int)(a:List UInt8)(p:Int):Rep1 K (.act k a p) (.iface 282 (.agg #[i64 k,str a,i64 p])):=⟨_,_,rfl,rfl⟩
theorem aBH(K:Hl)(op:Int):Rep1 K (.plain op) (.iface 285 (.agg #[i64 op])):=⟨_,_,rfl,rfl⟩
theorem aWH(at_:Int)(K:Hl):Sp Tryz.prog 159 [i64 at_] K [] (Val (.iface 282 (.agg #[i64 1,str [],i64 at_])) K):=by
 refine aZ Tryz.func159 rfl Tryz.ntmps159 rfl rfl fun F w=>?_
 refine zz8 ?_;refine aA (cR aXS aT3 (.cons rfl rfl rfl (.cons .nil) (.cons rfl rfl rfl (.skip (.skip (.cons .nil))) .nil))) rfl ?_;refine aA (dG Tryz.underlying282 (fun _ h=>by cases h) rfl) rfl ?_;refine zz5 ?_;exact⟨rfl,rfl,rfl⟩
theorem aWI(at_:Int)(K:Hl):Sp Tryz.prog 160 [i64 at_] K [] (Val (.iface 285 (.agg #[i64 13])) K):=by
 refine aZ Tryz.func160 rfl Tryz.ntmps160 rfl rfl fun F w=>?_
 refine zz7 ?_;refine aA (cR aXT aT4 (.cons rfl rfl rfl (.cons .nil) .nil)) rfl ?_;refine aA (dG Tryz.underlying285 (fun _ h=>by cases h) rfl) rfl ?_;refine zz5 ?_;exact⟨rfl,rfl,rfl⟩
theorem aWJ(at_:Int)(K:Hl):Sp Tryz.prog 161 [i64 at_] K [] (Val (.iface 285 (.agg #[i64 14])) K):=by
 refine aZ Tryz.func161 rfl Tryz.ntmps161 rfl rfl fun F w=>?_
 refine zz7 ?_;refine aA (cR aXT aT4 (.cons rfl rfl rfl (.cons .nil) .nil)) rfl ?_;refine aA (dG Tryz.underlying285 (fun _ h=>by cases h) rfl) rfl ?_;refine zz5 ?_;exact⟨rfl,rfl,rfl⟩
theorem rD(b:Nat)(s:List UInt8)(st:St)(at_ dp:Int)(rest:List Value)(b1:Nat)(fn:FuncId)(v:Value)(c:Tree)(K:Hl)(hs:s.length≤600)(hok:Ok s st)(hg:Glob K)
  (h1:K b1=some (aU [.func (.func fn) #[] #[]] 283)) (hfn:∀K,Sp Tryz.prog fn [i64 at_] K [] (Val v K)) (hc:∀K,Rep1 K c v):
  Sp Tryz.prog 259 [ptr b,i64 at_,i64 dp,ptr b1] K [psb b s st rest] (RT s b rest (iG s c st)):=by
 have ha:=hok.1;refine aZ Tryz.func259 rfl Tryz.ntmps259 rfl rfl fun F w=>?_
 refine zz10 ?_;refine aX rfl rfl (dJ b 208 s st.1 _ _ _ _ rest hs ha _ hg) (.cons .here .nil) rfl (fun _ _=>a7 _ _) ?_ ?_
 ·
  rintro _ _ _ hTr le1;obtain⟨e,p,hr,fb,h,rfl⟩:=a8 hTr;cases h
  refine uAa ?_;refine zz2 ?_;simp only[RT,iG,hr,if_true,if_false,↓reduceIte];exact⟨fb,rfl,rfl⟩
 rintro _ K _ hTr -;obtain⟨r,hr,rfl,rfl,rfl⟩:=bA hTr;clear hTr;have hro:=d9 ha hr;refine zz5 ?_;refine aX rfl rfl (j5 b s r rest [59] _ hs hro.1 hg) (.cons .here .nil) rfl (fun _ _=>a7 _ _) ?_ ?_
 ·
  rintro _ _ _ hTr le1;obtain⟨e,p,hq,fb,h,rfl⟩:=a8 hTr;cases h
  refine uAa ?_;refine zz2 ?_;simp only[RT,iG,hr,hq,if_true,if_false,↓reduceIte];exact⟨fb,rfl,rfl⟩
 rintro _ K _ hTr -;obtain⟨q,hq,rfl,rfl,rfl⟩:=bA hTr;clear hTr;refine zz6 ?_;refine cE rfl rfl (hfn _) rfl ?_;refine zz4 ?_;refine uAa ?_;refine zz1 ?_;simp only[RT,iG,hr,hq,if_true,if_false,↓reduceIte];exact⟨_,rfl,hc _,rfl⟩
theorem qQ(b:Nat)(s:List UInt8)(st:St)(at_ dp:Int)(nv:Value)(rest:List Value)(needs:List (List UInt8))(b1 b2:Nat)(kd:Int)(ext:List UInt8)(K:Hl)(hs:s.length≤600)(hok:Ok s st)(hg:Glob K)(hv:Ksl (bC 9) K nv needs)(hn:needs.length≤1000000)
  (h1:K b1=some (aU [str ext] 9)) (h2:K b2=some (aU [i64 kd] 3)):
  Sp Tryz.prog 260 [ptr b,i64 at_,i64 dp,ptr b1,ptr b2] K [psb b s st (nv::rest)] (RT s b (nv::rest) (actC s needs kd ext at_ st)):=by
 have ha:=hok.1;refine aZ Tryz.func260 rfl Tryz.ntmps260 rfl rfl fun F w=>?_
 refine zz5 ?_;refine gG (fun(_:Unit)=>¬(ext≠[]∧ext∉needs)) (fun _=>[(0,ptr b),(1,i64 at_),(4,ptr b2)]) (fun _=>K) (fun _=>[psb b s st (nv::rest)]) ?_ ?_
 ·
  refine zz2 ?_;refine aA (aL ts9 rfl (.known h1) rfl) rfl ?_;refine zz3 ?_;refine bG 11 rfl (fun h11=>?_) (fun h11=>?_)
  ·
   refine zz2 ?_;refine aA (aL ts9 rfl (.known h1) rfl) rfl ?_;refine aX rfl rfl (uV b s st nv rest needs ext _ hv hn) (.cons .here .nil) rfl (fun _ _=>a7 _ _) ?_ ?_
   ·
    rintro _ _ _ hTr le1;obtain⟨e,p,hu,fb,h,rfl⟩:=a8 hTr;cases h
    refine uAa ?_;refine zz2 ?_;have hm:¬ext∈needs:=gB5;rw[if_neg hm]at hu;cases hu
    unfold RT actC;rw[if_pos ⟨h11,hm⟩];exact⟨fb,rfl,rfl⟩
   rintro _ K _ hTr -;obtain⟨u0,hu,rfl,rfl,rfl⟩:=bA hTr;clear hTr;have hm:ext∈needs:=Classical.byContradiction (fun h=>by rw[if_neg h]at hu;cases hu);have hne:¬(ext≠[]∧ext∉needs):=fun h=>h.2 hm
   refine aF ?_;exact bU () hne (.cons 0 rfl (.cons 1 rfl (.cons 4 rfl .nil))) rfl (fun _ h=>h)
  ·
   have hne:¬(ext≠[]∧ext∉needs):=fun h=>h11 h.1
   refine aW ?_;exact bU () hne (.cons 0 rfl (.cons 1 rfl (.cons 4 rfl .nil))) rfl (fun _ h=>h)
 ·
  intro _ hne;refine zz5 ?_;refine aX rfl rfl (dJ b 208 s st.1 _ _ _ _ (nv::rest) hs ha _ hg) (.cons .here .nil) rfl (fun _ _=>a7 _ _) ?_ ?_
  ·
   rintro _ _ _ hTr le1;obtain⟨e,p,hr,fb,h,rfl⟩:=a8 hTr;cases h
   refine uAa ?_;refine zz2 ?_;simp only[RT,actC,if_neg hne,hr,if_true,if_false,↓reduceIte];exact⟨fb,rfl,rfl⟩
  rintro _ K _ hTr -;obtain⟨r,hr,rfl,rfl,rfl⟩:=bA hTr;clear hTr;have hro:=d9 ha hr;refine zz5 ?_;refine aX rfl rfl (mT b s r (nv::rest) 3 _ [] _ hs hro.1 hg (.inl ⟨none,0,rfl,rfl⟩) (by simp)) (.cons .here .nil) rfl (fun _ _=>a7 _ _) ?_ ?_
  ·
   rintro _ _ _ hTr le1;obtain⟨e,p,hx,fb,h,rfl⟩:=a8 hTr;cases h
   refine uAa ?_;refine zz2 ?_;simp only[RT,actC,if_neg hne,hr,hx,if_true,if_false,↓reduceIte];exact⟨fb,rfl,rfl⟩
  rintro _ K _ hTr -;obtain⟨x,hx,rfl,rfl,rfl⟩:=bA hTr;clear hTr;have hxo:=wQ hro.1 hx;refine zz7 ?_;refine aX rfl rfl (j5 b s x.2 (nv::rest) [59] _ hs hxo.1 hg) (.cons .here .nil) rfl (fun _ _=>a7 _ _) ?_ ?_
  ·
   rintro _ _ _ hTr le1;obtain⟨e,p,hq,fb,h,rfl⟩:=a8 hTr;cases h
   refine uAa ?_;refine zz2 ?_;simp only[RT,actC,if_neg hne,hr,hx,hq,if_true,if_false,↓reduceIte];exact⟨fb,rfl,rfl⟩
  rintro _ K _ hTr -;obtain⟨q,hq,rfl,rfl,rfl⟩:=bA hTr;clear hTr;refine zz4 ?_;refine aA (aL ts3 rfl (.known h2) rfl) rfl ?_;refine zz2 ?_;refine aA (cR aXS aT3 (.cons rfl rfl rfl (.cons .nil) (.cons rfl rfl rfl (.skip (.cons .nil)) (.cons rfl rfl rfl (.skip (.skip (.cons .nil))) .nil)))) rfl ?_;refine aA (dG Tryz.underlying282 (fun _ h=>by cases h) rfl) rfl ?_;refine zz4 ?_;refine uAa ?_;refine zz1 ?_;simp only[RT,actC,if_neg hne,hr,hx,hq,if_true,if_false,↓reduceIte];exact⟨_,rfl,aH8 _ _ _ _,rfl⟩
theorem aP3(b:Nat)(s:List UInt8)(st:St)(dp:Int)(rest:List Value)(K:Hl)(hs:s.length≤600)(hok:Ok s st)(hg:Glob K):Sp Tryz.prog 165 [ptr b,i64 dp] K [psb b s st rest] (RT s b rest (kJ s true st)):=by
 have ha:=hok.1;refine aZ Tryz.func165 rfl Tryz.ntmps165 rfl rfl fun F w=>?_
 refine zz10 ?_;refine aX rfl rfl (dJ b 208 s st.1 _ _ _ _ rest hs ha _ hg) (.cons .here .nil) rfl (fun _ _=>a7 _ _) ?_ ?_
 ·
  rintro _ _ _ hTr le1;obtain⟨e,p,hr,fb,h,rfl⟩:=a8 hTr;cases h
  refine uAa ?_;refine zz2 ?_;simp only[RT,kJ,hr,if_true,if_false,↓reduceIte];exact⟨fb,rfl,rfl⟩
 rintro _ K _ hTr -;obtain⟨r,hr,rfl,rfl,rfl⟩:=bA hTr;clear hTr;refine zz4 ?_;refine aA (dG Tryz.underlying289 (fun _ h=>by cases h) rfl) rfl ?_;refine zz4 ?_;refine uAa ?_;refine zz1 ?_;simp only[RT,kJ,hr,if_true,if_false,↓reduceIte];exact⟨_,rfl,⟨_,_,rfl,rfl⟩,rfl⟩
theorem aJ9(b:Nat)(s:List UInt8)(st:St)(dp:Int)(rest:List Value)(K:Hl)(hs:s.length≤600)(hok:Ok s st)(hg:Glob K):Sp Tryz.prog 166 [ptr b,i64 dp] K [psb b s st rest] (RT s b rest (kJ s false st)):=by
 have ha:=hok.1;refine aZ Tryz.func166 rfl Tryz.ntmps166 rfl rfl fun F w=>?_
 refine zz10 ?_;refine aX rfl rfl (dJ b 208 s st.1 _ _ _ _ rest hs ha _ hg) (.cons .here .nil) rfl (fun _ _=>a7 _ _) ?_ ?_
 ·
  rintro _ _ _ hTr le1;obtain⟨e,p,hr,fb,h,rfl⟩:=a8 hTr;cases h
  refine uAa ?_;refine zz2 ?_;simp only[RT,kJ,hr,if_true,if_false,↓reduceIte];exact⟨fb,rfl,rfl⟩
 rintro _ K _ hTr -;obtain⟨r,hr,rfl,rfl,rfl⟩:=bA hTr;clear hTr;refine zz4 ?_;refine aA (dG Tryz.underlying289 (fun _ h=>by cases h) rfl) rfl ?_;refine zz4 ?_;refine uAa ?_;refine zz1 ?_;simp only[RT,kJ,hr,if_true,if_false,↓reduceIte];exact⟨_,rfl,⟨_,_,rfl,rfl⟩,rfl⟩
theorem aG8(b:Nat)(s:List UInt8)(st:St)(dp:Int)(rest:List Value)(K:Hl)(hs:s.length≤600)(hok:Ok s st)(hg:Glob K):Sp Tryz.prog 176 [ptr b,i64 dp] K [psb b s st rest] (RT s b rest (lA s st)):=by
 have ha:=hok.1;refine aZ Tryz.func176 rfl Tryz.ntmps176 rfl rfl fun F w=>?_
 refine zz10 ?_;refine aX rfl rfl (dJ b 208 s st.1 _ _ _ _ rest hs ha _ hg) (.cons .here .nil) rfl (fun _ _=>a7 _ _) ?_ ?_
 ·
  rintro _ _ _ hTr le1;obtain⟨e,p,hr,fb,h,rfl⟩:=a8 hTr;cases h
  refine uAa ?_;refine zz2 ?_;simp only[RT,lA,hr,if_true,if_false,↓reduceIte];exact⟨fb,rfl,rfl⟩
 rintro _ K _ hTr -;obtain⟨r,hr,rfl,rfl,rfl⟩:=bA hTr;clear hTr;have hro:=d9 ha hr;refine zz5 ?_;refine aX rfl rfl (q7 b s r rest 177 #[] (fun _=>0) _ hs hro hg (fun x hx=>kR x _)) (.cons .here .nil) rfl (fun _ _=>a7 _ _) ?_ ?_
 ·
  rintro _ _ _ hTr le1;obtain⟨e,p,ha1,fb,h,rfl⟩:=a8 hTr;cases h
  refine uAa ?_;refine zz2 ?_;simp only[RT,lA,hr,ha1,if_true,if_false,↓reduceIte];exact⟨fb,rfl,rfl⟩
 rintro _ K _ hTr -;obtain⟨va,ha1,rfl,rfl⟩:=bA hTr;clear hTr;refine fL fun K1 leA hA=>?_
 obtain⟨sa,sn,sc,rfl⟩:=hA.isSlice;refine aA (cR bA7 aZR (.cons rfl rfl rfl (.cons .nil) .nil)) rfl ?_;refine aA (dG Tryz.underlying297 (fun _ h=>by cases h) rfl) rfl ?_;refine zz4 ?_;refine uAa ?_;refine bJ rfl rfl (by first|exact leA|exact Hl.le_refl _) ?_;simp only[RT,lA,hr,ha1,if_true,if_false,↓reduceIte];exact⟨_,rfl,⟨_,_,rfl,_,hA,rfl⟩,rfl⟩
theorem aPI(b:Nat)(s:List UInt8)(st:St)(dp:Int)(rest:List Value)(K:Hl)(hs:s.length≤600)(hok:Ok s st)(hg:Glob K):Sp Tryz.prog 178 [ptr b,i64 dp] K [psb b s st rest] (RT s b rest (oT s st)):=by
 have ha:=hok.1;refine aZ Tryz.func178 rfl Tryz.ntmps178 rfl rfl fun F w=>?_
 refine zz10 ?_;refine aX rfl rfl (dJ b 208 s st.1 _ _ _ _ rest hs ha _ hg) (.cons .here .nil) rfl (fun _ _=>a7 _ _) ?_ ?_
 ·
  rintro _ _ _ hTr le1;obtain⟨e,p,hr,fb,h,rfl⟩:=a8 hTr;cases h
  refine uAa ?_;refine zz2 ?_;simp only[RT,oT,hr,if_true,if_false,↓reduceIte];exact⟨fb,rfl,rfl⟩
 rintro _ K _ hTr -;obtain⟨r,hr,rfl,rfl,rfl⟩:=bA hTr;clear hTr;have hro:=d9 ha hr;refine zz11 ?_;refine ol_s (a6 (z0:=[(str []),(str [])]) bS tz9 rfl rfl rfl rfl (.cons rfl rfl rfl (.cons .nil) (.cons rfl rfl rfl (.skip (.cons .nil)) .nil))) rfl ?_;rintro _ K _ ⟨b11,rfl,rfl,rfl⟩ -;refine fW fun K1 leA hK1=>?_
 refine aX rfl rfl (mT b s r rest 2 _ [oZ,jE] _ hs hro.1 (hg.mono leA) (.inr ⟨b11,0,2,[str oZ,str jE],(0,0),rfl,⟨_,hK1⟩,rfl⟩) (by simp)) (.cons .here .nil) rfl (fun _ _=>a7 _ _) ?_ ?_
 ·
  rintro _ _ _ hTr le1;obtain⟨e,p,hx,fb,h,rfl⟩:=a8 hTr;cases h
  refine uAa ?_;refine zz2 ?_;refine bF (Hl.le_trans leA le1) ?_;simp only[RT,oT,hr,hx,if_true,if_false,↓reduceIte];exact⟨fb,rfl,rfl⟩
 rintro _ K _ hTr -;obtain⟨x,hx,rfl,rfl,rfl⟩:=bA hTr;clear hTr;have hxo:=wQ hro.1 hx;refine zz4 ?_;refine bG 14 rfl (fun h14=>?_) (fun h14=>?_)
 ·
  have g14:x.1.s=jE:=h14;refine zz8 ?_;refine aX rfl rfl (mT b s x.2 rest 4 _ [] _ hs hxo.1 (hg.mono leA) (.inl ⟨none,0,rfl,rfl⟩) (by simp)) (.cons .here .nil) rfl (fun _ _=>a7 _ _) ?_ ?_
  ·
   rintro _ _ _ hTr le1;obtain⟨e,p,hy,fb,h,rfl⟩:=a8 hTr;cases h
   refine uAa ?_;refine aK ?_;refine bF (Hl.le_trans leA le1) ?_;simp only[RT,oT,hr,hx,if_pos g14,hy,if_true,if_false,↓reduceIte];exact⟨fb,rfl,rfl⟩
  rintro _ K _ hTr -;obtain⟨y,hy,rfl,rfl,rfl⟩:=bA hTr;clear hTr;refine zz1 ?_;refine aA (cR aXU aT5 (.cons rfl rfl rfl (.cons .nil) (.cons rfl rfl rfl (.skip (.cons .nil)) .nil))) rfl ?_;refine aA (dG Tryz.underlying300 (fun _ h=>by cases h) rfl) rfl ?_;refine zz4 ?_;refine uAa ?_;refine bJ rfl rfl leA ?_;simp only[RT,oT,hr,hx,if_pos g14,hy,if_true,if_false,↓reduceIte];exact⟨_,rfl,⟨_,_,rfl,rfl⟩,rfl⟩
 ·
  have g14:¬x.1.s=jE:=h14;refine zz6 ?_;refine aX rfl rfl (mT b s x.2 rest 4 _ [] _ hs hxo.1 (hg.mono leA) (.inl ⟨none,0,rfl,rfl⟩) (by simp)) (.cons .here .nil) rfl (fun _ _=>a7 _ _) ?_ ?_
  ·
   rintro _ _ _ hTr le1;obtain⟨e,p,hy,fb,h,rfl⟩:=a8 hTr;cases h
   refine uAa ?_;refine aK ?_;refine bF (Hl.le_trans leA le1) ?_;simp only[RT,oT,hr,hx,if_neg g14,hy,if_true,if_false,↓reduceIte];exact⟨fb,rfl,rfl⟩
  rintro _ K _ hTr -;obtain⟨y,hy,rfl,rfl,rfl⟩:=bA hTr;clear hTr;refine zz1 ?_;refine aA (cR aXU aT5 (.cons rfl rfl rfl (.cons .nil) (.cons rfl rfl rfl (.skip (.cons .nil)) .nil))) rfl ?_;refine aA (dG Tryz.underlying300 (fun _ h=>by cases h) rfl) rfl ?_;refine zz4 ?_;refine uAa ?_;refine bJ rfl rfl leA ?_;simp only[RT,oT,hr,hx,if_neg g14,hy,if_true,if_false,↓reduceIte];exact⟨_,rfl,⟨_,_,rfl,rfl⟩,rfl⟩
end Go.Proofs
end
section
attribute [local irreducible] Go.SL.T Go.SL.OL Go.SL.D Go.SL.DL Go.SL.Ev Go.SL.Ef Go.SL.EfS
namespace Go.Proofs
open Go Go.SL Go.Syn
structure PK (s:List UInt8) (needs:List (List UInt8)) (nv:Value) (K:Hl):Prop where
 hs:s.length≤600
 hg:Glob K
 hv:Ksl (bC 9) K nv needs
 hn:needs.length≤1000000
theorem PK.mono{s:List UInt8}{needs:List (List UInt8)}{nv:Value}{K K':Hl}(h:PK s needs nv K)(le:K.le K'):PK s needs nv K':=⟨h.hs,h.hg.mono le,h.hv.mono le,h.hn⟩
theorem aHF(b:Nat)(s:List UInt8)(st:St)(dp:Int)(nv:Value)(rest:List Value)(needs:List (List UInt8))(K:Hl)(hok:Ok s st)(hp:PK s needs nv K):Sp Tryz.prog 172 [ptr b,i64 dp] K [psb b s st (nv::rest)] (RT s b (nv::rest) (jC s needs 6 [] st)):=by
 refine aZ Tryz.func172 rfl Tryz.ntmps172 rfl rfl fun F w=>?_
 refine zz8 ?_;refine aX rfl rfl (uT b s st 6 [] nv rest needs _ hp.hs hok hp.hg hp.hv hp.hn) (.cons .here .nil) rfl (fun _ _=>a7 _ _) ?_ ?_
 ·
  rintro _ _ _ hTr le1;obtain⟨e,p,hr,fb,h,rfl⟩:=a8 hTr;cases h
  refine uAa ?_;refine zz2 ?_;simp only[RT,hr,if_true,if_false,↓reduceIte];exact⟨fb,rfl,rfl⟩
 rintro _ K1 _ hTr leK1;obtain⟨r,hr,hrep,rfl⟩:=bA hTr;clear hTr;refine zz4 ?_;refine uAa ?_;refine bJ rfl rfl leK1 ?_;simp only[RT,hr,if_true,if_false,↓reduceIte];exact⟨_,rfl,hrep,rfl⟩
theorem aCA(b:Nat)(s:List UInt8)(st:St)(dp:Int)(nv:Value)(rest:List Value)(needs:List (List UInt8))(K:Hl)(hok:Ok s st)(hp:PK s needs nv K):Sp Tryz.prog 174 [ptr b,i64 dp] K [psb b s st (nv::rest)] (RT s b (nv::rest) (jC s needs 7 e8 st)):=by
 refine aZ Tryz.func174 rfl Tryz.ntmps174 rfl rfl fun F w=>?_
 refine zz8 ?_;refine aX rfl rfl (uT b s st 7 e8 nv rest needs _ hp.hs hok hp.hg hp.hv hp.hn) (.cons .here .nil) rfl (fun _ _=>a7 _ _) ?_ ?_
 ·
  rintro _ _ _ hTr le1;obtain⟨e,p,hr,fb,h,rfl⟩:=a8 hTr;cases h
  refine uAa ?_;refine zz2 ?_;simp only[RT,hr,if_true,if_false,↓reduceIte];exact⟨fb,rfl,rfl⟩
 rintro _ K1 _ hTr leK1;obtain⟨r,hr,hrep,rfl⟩:=bA hTr;clear hTr;refine zz4 ?_;refine uAa ?_;refine bJ rfl rfl leK1 ?_;simp only[RT,hr,if_true,if_false,↓reduceIte];exact⟨_,rfl,hrep,rfl⟩
theorem aIV(b:Nat)(s:List UInt8)(st:St)(dp:Int)(nv:Value)(rest:List Value)(needs:List (List UInt8))(K:Hl)(hok:Ok s st)(hp:PK s needs nv K):Sp Tryz.prog 175 [ptr b,i64 dp] K [psb b s st (nv::rest)] (RT s b (nv::rest) (jC s needs 8 dN st)):=by
 refine aZ Tryz.func175 rfl Tryz.ntmps175 rfl rfl fun F w=>?_
 refine zz8 ?_;refine aX rfl rfl (uT b s st 8 dN nv rest needs _ hp.hs hok hp.hg hp.hv hp.hn) (.cons .here .nil) rfl (fun _ _=>a7 _ _) ?_ ?_
 ·
  rintro _ _ _ hTr le1;obtain⟨e,p,hr,fb,h,rfl⟩:=a8 hTr;cases h
  refine uAa ?_;refine zz2 ?_;simp only[RT,hr,if_true,if_false,↓reduceIte];exact⟨fb,rfl,rfl⟩
 rintro _ K1 _ hTr leK1;obtain⟨r,hr,hrep,rfl⟩:=bA hTr;clear hTr;refine zz4 ?_;refine uAa ?_;refine bJ rfl rfl leK1 ?_;simp only[RT,hr,if_true,if_false,↓reduceIte];exact⟨_,rfl,hrep,rfl⟩
def tU(s:List UInt8)(b:Nat)(rest:List Value)(K:Hl)(dp:Int)(Tf:St→Res (Tree×St)):Prop:=
 ∀(st:St) (K':Hl),K.le K'→Ok s st→Sp Tryz.prog 168 [ptr b,i64 dp] K' [psb b s st rest] (RT s b rest (Tf st))
theorem aSK(b:Nat)(s:List UInt8)(st:St)(dp:Int)(rest:List Value)(K:Hl)(Tf:St→Res (Tree×St))(hs:s.length≤600)(hok:Ok s st)(hg:Glob K)(hd:0≤dp∧dp≤6)(hT:tU s b rest K (dp+1) Tf):
  Sp Tryz.prog 167 [ptr b,i64 dp] K [psb b s st rest] (RT s b rest (notC s Tf st)):=by
 have ha:=hok.1;refine aZ Tryz.func167 rfl Tryz.ntmps167 rfl rfl fun F w=>?_
 refine zz10 ?_;refine aX rfl rfl (dJ b 208 s st.1 _ _ _ _ rest hs ha _ hg) (.cons .here .nil) rfl (fun _ _=>a7 _ _) ?_ ?_
 ·
  rintro _ _ _ hTr le1;obtain⟨e,p,hr,fb,h,rfl⟩:=a8 hTr;cases h
  refine uAa ?_;refine zz2 ?_;simp only[RT,notC,hr,if_true,if_false,↓reduceIte];exact⟨fb,rfl,rfl⟩
 rintro _ K _ hTr -;obtain⟨r,hr,rfl,rfl,rfl⟩:=bA hTr;clear hTr;have hro:=d9 ha hr;refine zz7 ?_;refine aX rfl rfl (hT r _ (Hl.le_refl _) hro) (.cons .here .nil) rfl (fun _ _=>a7 _ _) ?_ ?_
 ·
  rintro _ _ _ hTr le1;obtain⟨e,p,ht,fb,h,rfl⟩:=a8 hTr;cases h
  refine uAa ?_;refine zz2 ?_;simp only[RT,notC,hr,ht,if_true,if_false,↓reduceIte];exact⟨fb,rfl,rfl⟩
 rintro _ K1 _ hTr leK1;obtain⟨t,ht,⟨ty,u,rfl,hrep⟩,rfl⟩:=bA hTr;clear hTr;refine aA (cR bA6 aZQ (.cons rfl rfl rfl (.cons .nil) .nil)) rfl ?_;refine aA (dG Tryz.underlying293 (fun _ h=>by cases h) rfl) rfl ?_;refine zz4 ?_;refine uAa ?_;refine bJ rfl rfl leK1 ?_;simp only[RT,notC,hr,ht,if_true,if_false,↓reduceIte];exact⟨_,rfl,⟨_,_,rfl,_,hrep,rfl⟩,rfl⟩
theorem aQL(b:Nat)(e:TypeId)(c:Cell):∀h,pt b (aU [c.1] e) h→sl false (dY e) (.slice (some ⟨b,0,none⟩) 1 1) [c] h:=
 wM (k:=dY e) (xs:=[c]) (cells:=[c.1]) (Nat.le_refl _) rfl rfl (.inl (Nat.le_refl _)) (fun h=>by cases h)
theorem aC6(b:Nat)(s:List UInt8)(st:St)(all:Bool)(dp:Int)(rest:List Value)(K:Hl)(Tf:St→Res (Tree×St))(hs:s.length≤600)(hok:Ok s st)(hg:Glob K)(hd:0≤dp∧dp≤6)(hTa:Adv s Tf)(hT:tU s b rest K (dp+1) Tf):
  Sp Tryz.prog 170 [ptr b,.bool all,i64 dp] K [psb b s st rest] (RT s b rest (mC s Tf all st)):=by
 have ha:=hok.1;refine aZ Tryz.func170 rfl Tryz.ntmps170 rfl rfl fun F w=>?_
 refine zz10 ?_;refine aX rfl rfl (dJ b 208 s st.1 _ _ _ _ rest hs ha _ hg) (.cons .here .nil) rfl (fun _ _=>a7 _ _) ?_ ?_
 ·
  rintro _ _ _ hTr le1;obtain⟨e,p,hr,fb,h,rfl⟩:=a8 hTr;cases h
  refine uAa ?_;refine zz2 ?_;simp only[RT,mC,hr,if_true,if_false,↓reduceIte];exact⟨fb,rfl,rfl⟩
 rintro _ K _ hTr -;obtain⟨r,hr,rfl,rfl,rfl⟩:=bA hTr;clear hTr;have hro:=d9 ha hr;refine zz5 ?_;refine aX rfl rfl (j5 b s r rest [40] _ hs hro.1 hg) (.cons .here .nil) rfl (fun _ _=>a7 _ _) ?_ ?_
 ·
  rintro _ _ _ hTr le1;obtain⟨e,p,hq,fb,h,rfl⟩:=a8 hTr;cases h
  refine uAa ?_;refine zz2 ?_;simp only[RT,mC,hr,hq,if_true,if_false,↓reduceIte];exact⟨fb,rfl,rfl⟩
 rintro _ K _ hTr -;obtain⟨q,hq,rfl,rfl,rfl⟩:=bA hTr;clear hTr;have hqo:=zJ hro.1 hq;refine zz8 ?_;refine aX rfl rfl (hT q _ (Hl.le_refl _) hqo) (.cons .here .nil) rfl (fun _ _=>a7 _ _) ?_ ?_
 ·
  rintro _ _ _ hTr le1;obtain⟨e,p,ht,fb,h,rfl⟩:=a8 hTr;cases h
  refine uAa ?_;refine zz2 ?_;simp only[RT,mC,hr,hq,ht,if_true,if_false,↓reduceIte];exact⟨fb,rfl,rfl⟩
 rintro _ K1 _ hTr leK1;obtain⟨t,ht,⟨ty,u,rfl,hrep⟩,rfl⟩:=bA hTr;clear hTr;have hto:=(hTa _ _ hqo ht).1;refine ol_s (a6 (z0:=[.nilIface]) pK aX2 rfl rfl rfl rfl (.cons rfl rfl rfl (.cons .nil) .nil)) rfl ?_;rintro _ K _ ⟨b19,rfl,rfl,rfl⟩ -;refine aA (cR bBB aZV (.cons rfl rfl rfl (.cons .nil) (.cons rfl rfl rfl (.skip (.cons .nil)) .nil))) rfl ?_;refine zz1 ?_;rintro _ K _ ⟨b7,rfl,rfl,rfl⟩ -;refine bR (cM aF1 rfl rfl rfl bB gBK (.cons (.cons .nil)) gBU) ?_;rintro _ K _ ⟨rfl,rfl⟩ -;refine zz4 ?_;refine rE (fun(K2:Hl) (st2:St) (us:List (Cell×Cell)) (sv:Value)=>K.le K2∧Ok s st2∧us.length+mu s st2≤1300∧∃acc f,isTL acc=true∧Rep K2 acc us∧mu s st2≤f∧mC s Tf all st=tE all (nA s Tf (f+1) acc st2)) (fun _ _ _ _=>[(0,ptr b),(2,i64 dp),(7,ptr b7)]) (fun K2 _ _ _=>K2) (fun _ st2 us sv=>[pt b7 (aU [.bool all,sv] 376),sl false (dY 288) sv (us.map Prod.fst),psb b s st2 rest]) (fun _ st2 _ _=>mu s st2) _ t.2 [(⟨.iface ty u,rfl⟩,u0)] (.slice (some ⟨b19,0,none⟩) 1 1) ⟨Hl.le_refl _,hto,by have:=wG s t.2;simp;omega,.tcons t.1 .tnil,mu s t.2,rfl,⟨_,[],hrep,rfl,rfl⟩,Nat.le_refl _,by simp only[mC,hr,hq,ht]⟩ (.cons 0 rfl (.cons 2 rfl (.cons 7 rfl .nil))) rfl (fun h hh=>gA (iF (aQL b19 288 ⟨.iface ty u,rfl⟩) h (gA hh))) ?_;intro K2 st2 us sv ⟨leK,hok2,hus,acc,f,hacc,hrp,hf,hx⟩;refine zz4 ?_;refine aX rfl rfl (aAC b s st2 rest [44] _ hs hok2.1 (hg.mono (Hl.le_trans leK1 leK))) (.cons (.there (.there .here)) .nil) rfl (fun _ _=>a7 _ _) ?_ ?_
 ·
  rintro _ _ _ hTr le1;obtain⟨e,p,hy,fb,h,rfl⟩:=a8 hTr;cases h
  refine uAa ?_;refine zz5 ?_;refine bF (Hl.le_trans leK1 (Hl.le_trans leK le1)) ?_;simp only[RT,hx,nA,hy,if_true,if_false,↓reduceIte];exact⟨fb,rfl,rfl⟩
 rintro _ K _ hTr -;obtain⟨y,hy,rfl,rfl,rfl⟩:=bA hTr;clear hTr;obtain⟨hy1,hy2,hy3⟩:=rW hok2.1 hy;have hyo:=xB hok2 hy;refine zz2 ?_;refine d8 22 rfl (fun h22=>?_) (fun h22=>?_)
 ·
  refine zz3 ?_;refine t_draw (anc:=[0,1,0,0,8,28,60,127,255,511]) (ord:=[0,1,2,3,4,5,6,7,8,9]) [5,6,7,9] [9] mixed gBO (.cons (.there .here) .nil) ?_;refine zz5 ?_;refine vK rfl (.none rfl) rfl rfl rfl rfl (hT y.2 _ (Hl.le_trans leK1 leK) hyo) (.cons (.there .here) .nil) rfl (fun _ _=>a7 _ _) ?_ ?_
  ·
   rintro _ _ _ hTr le1;obtain⟨e,p,ht2,fb,h,rfl⟩:=a8 hTr;cases h
   intro a0 w0 hd0 hi0;refine⟨hd0,_,_,?_,(Hl.le_trans leK1 (Hl.le_trans leK le1)),hi0.left⟩
   simp only[RT,hx,nA,hy,if_pos h22,ht2,if_true,if_false,↓reduceIte];exact⟨fb,rfl,rfl⟩
  rintro _ K3 _ hTr leK3;obtain⟨t2,ht2,⟨ty2,u2,rfl,hrep2⟩,rfl⟩:=bA hTr;clear hTr;refine⟨_,(show Tks _ _ _ from (.cons (.there .here) .nil)).sat,?_⟩
  refine dl_s rfl rfl (.none rfl) rfl rfl (a6 (z0:=[.nilIface]) pK aX2 rfl rfl rfl rfl (.cons rfl rfl rfl (.cons .nil) .nil)) rfl ?_;rintro _ K _ ⟨b29,rfl,rfl,rfl⟩ -;refine⟨_,(show Tks _ _ _ from (.cons (.there .here) .nil)).sat,?_⟩
  refine dl_s rfl rfl (.none rfl) rfl rfl (dT (k:=(dY 288)) (ys:=[⟨.iface ty2 u2,rfl⟩]) aBV rfl rfl bB (fun w j=>dK Tryz.underlying374 (SeesSl.at (.blk (.own (.there .here)) rfl rfl) j)) gBV gBQ) rfl ?_;rintro v30 K _ ⟨rfl,rfl,ho30⟩ -;refine⟨_,(show Tks _ _ _ from (.cons (.there .here) .nil)).sat,?_⟩
  refine zz1 ?_;refine vL rfl rfl (.none rfl) rfl (bL aJA rfl rfl cK bB (.succ .zero) rfl) ?_;rintro _ K _ ⟨rfl,rfl⟩ -;refine zz2 ?_;have hm:=hy3 h22;have hm2:=hTa _ _ hyo ht2;obtain⟨f0,rfl⟩:∃f0,f=f0+1:=⟨f - 1,by omega⟩;refine aO (.cons .here (.cons .here (.cons (.there .here) .nil))) ?_;obtain⟨hr3,hr4⟩:=aOZ hrep2 hacc (hrp.mono leK3);refine oE K t2.2 (us++[(⟨.iface ty2 u2,rfl⟩,u0)]) v30 ⟨Hl.le_trans leK leK3,hm2.1,by simp;omega,acc.snocT t2.1,f0,hr4,hr3,by omega,?_⟩ aH (.cons 0 rfl (.cons 2 rfl (.cons 7 rfl .nil))) rfl (by rw[List.map_append];exact fun _ h=>h)
  simp only[RT,hx,nA,hy,if_pos h22,ht2,if_true,if_false,↓reduceIte]
 ·
  have g22:¬y.1=true:=by simp[h22]
  refine zz8 ?_;refine aX rfl rfl (j5 b s y.2 rest [41] _ hs hyo.1 (hg.mono (Hl.le_trans leK1 leK))) (.cons .here .nil) rfl (fun _ _=>a7 _ _) ?_ ?_
  ·
   rintro _ _ _ hTr le1;obtain⟨e,p,hz,fb,h,rfl⟩:=a8 hTr;cases h
   refine uAa ?_;refine aK ?_;refine bF (Hl.le_trans leK1 (Hl.le_trans leK le1)) ?_;simp only[RT,hx,nA,hy,if_neg g22,hz,if_true,if_false,↓reduceIte];exact⟨fb,rfl,rfl⟩
  rintro _ K _ hTr -;obtain⟨z,hz,rfl,rfl,rfl⟩:=bA hTr;clear hTr;refine zz5 ?_;refine aA (dG Tryz.underlying376 (fun _ h=>by cases h) rfl) rfl ?_;refine zz4 ?_;refine uAd ?_;refine fU fun K4 leS hS=>?_
  refine uAa ?_;refine bJ rfl rfl (Hl.le_trans leK1 (Hl.le_trans leK leS)) ?_;simp only[RT,hx,nA,hy,if_neg g22,hz,if_true,if_false,↓reduceIte];simp only[tE];exact⟨_,rfl,⟨_,_,rfl,us,sv,hrp.mono leS,hS,rfl⟩,rfl⟩
end Go.Proofs
end
section
attribute [local irreducible] Go.SL.T Go.SL.OL Go.SL.D Go.SL.DL Go.SL.Ev Go.SL.Ef Go.SL.EfS
set_option maxRecDepth 4000
namespace Go.Proofs
open Go Go.SL Go.Syn
theorem sO(fn:FuncId)(K:Hl):Sp Tryz.prog 158 [.func (.func fn) #[] #[]] K [] (Ret fun v K' L'=>∃b1,v=.func (.func 259) #[] #[ptr b1]∧K' b1=some (aU [.func (.func fn) #[] #[]] 283)∧L'=[]):=by
 refine aZ Tryz.func158 rfl Tryz.ntmps158 rfl rfl fun F w=>?_
 refine zz3 ?_;rintro _ K _ ⟨b1,rfl,rfl,rfl⟩ -;refine zz10 ?_;refine gO fun K1 le1 hK1=>?_
 refine bJ rfl rfl le1 ?_;exact⟨_,rfl,b1,rfl,hK1,rfl⟩
theorem rQ(kd:Int)(ext:List UInt8)(K:Hl):Sp Tryz.prog 162 [i64 kd,str ext] K [] (Ret fun v K' L'=>∃b1 b2,v=.func (.func 260) #[] #[ptr b1,ptr b2]∧K' b1=some (aU [str ext] 9)∧K' b2=some (aU [i64 kd] 3)∧L'=[]):=by
 refine aZ Tryz.func162 rfl Tryz.ntmps162 rfl rfl fun F w=>?_
 refine zz3 ?_;rintro _ K _ ⟨b2,rfl,rfl,rfl⟩ -;refine zz1 ?_;rintro _ K _ ⟨b3,rfl,rfl,rfl⟩ -;refine zz10 ?_;refine gO fun K1 le1 hK1=>?_
 refine gO fun K2 le2 hK2=>?_
 refine bJ rfl rfl (Hl.le_trans le1 le2) ?_;exact⟨_,rfl,b3,b2,rfl,le2 _ _ hK1,hK2,rfl⟩
abbrev fnV(f:FuncId):Value:=.func (.func f) #[] #[]
abbrev simV(c:Nat):Value:=.func (.func 259) #[] #[ptr c]
abbrev actV(c d:Nat):Value:=.func (.func 260) #[] #[ptr c,ptr d]
structure Tabs (K:Hl) (cb tb:Nat):Prop where
 cmds:∃c1 c2 c3 d1 e1 d2 e2 d3 e3,K cb=some (mapO [(pQ,simV c1,0),(gM,simV c2,1),(mV,simV c3,2),(e9,actV d1 e1,3),(kB,actV d2 e2,4),(gS,actV d3 e3,5),(y6,fnV 163,6),(txIf,fnV 164,7)] 8)∧
  K c1=some (aU [fnV 159] 283)∧K c2=some (aU [fnV 160] 283)∧K c3=some (aU [fnV 161] 283)∧
  K d1=some (aU [str e9] 9)∧K e1=some (aU [i64 2] 3)∧K d2=some (aU [str []] 9)∧K e2=some (aU [i64 3] 3)∧K d3=some (aU [str gS] 9)∧K e3=some (aU [i64 4] 3)
 tests:K tb=some (mapO [(nO,fnV 165,0),(lD,fnV 166,1),(aD8,fnV 167,2),(nW,fnV 169,3),(nX,fnV 171,4),(oY,fnV 172,5),(e8,fnV 174,6),(o0,fnV 175,7),(qK,fnV 176,8),(rH,fnV 178,9)] 10)
theorem Tabs.mono{K K':Hl}{cb tb:Nat}(h:Tabs K cb tb)(le:K.le K'):Tabs K' cb tb:=
 ⟨let ⟨c1,c2,c3,d1,e1,d2,e2,d3,e3,h0,h1,h2,h3,h4,h5,h6,h7,h8,h9⟩:=h.cmds;⟨c1,c2,c3,d1,e1,d2,e2,d3,e3,le _ _ h0,le _ _ h1,le _ _ h2,le _ _ h3,le _ _ h4,le _ _ h5,le _ _ h6,le _ _ h7,le _ _ h8,le _ _ h9⟩,le _ _ h.tests⟩
theorem aIX(b:Nat)(s:List UInt8)(st:St)(n0 n1:Value)(K:Hl):Sp Tryz.prog 100 [ptr b] K [psb b s st [n0,n1,.map none,.map none]]
  (Ret fun v K' L'=>v=.tuple #[]∧∃cb tb,Tabs K' cb tb∧L'=[psb b s st [n0,n1,.map (some cb),.map (some tb)]]):=by
 refine aZ Tryz.func100 rfl Tryz.ntmps100 rfl rfl fun F w=>?_
 refine zz3 ?_;refine ol_s pZ rfl ?_;rintro _ K _ ⟨b3,rfl,rfl,rfl⟩ -;refine aY rfl rfl (sO _ _) .nil rfl ?_;rintro _ K1 _ ⟨c1,rfl,h1,rfl⟩ le1;refine bR (fQ Tryz.underlying205 Tryz.underlying9 rfl rfl rfl ?_ bB) ?_
 ·rfl
 rintro _ K _ ⟨rfl,rfl⟩ -;refine aY rfl rfl (sO _ _) .nil rfl ?_;rintro _ K2 _ ⟨c2,rfl,h2,rfl⟩ le2;refine bR (fQ Tryz.underlying205 Tryz.underlying9 rfl rfl rfl ?_ bB) ?_
 ·rfl
 rintro _ K _ ⟨rfl,rfl⟩ -;refine aY rfl rfl (sO _ _) .nil rfl ?_;rintro _ K3 _ ⟨c3,rfl,h3,rfl⟩ le3;refine bR (fQ Tryz.underlying205 Tryz.underlying9 rfl rfl rfl ?_ bB) ?_
 ·rfl
 rintro _ K _ ⟨rfl,rfl⟩ -;refine aY rfl rfl (rQ 2 e9 _) .nil rfl ?_;rintro _ K4 _ ⟨d1,e1,rfl,h4,h5,rfl⟩ le4;refine bR (fQ Tryz.underlying205 Tryz.underlying9 rfl rfl rfl ?_ bB) ?_
 ·rfl
 rintro _ K _ ⟨rfl,rfl⟩ -;refine aY rfl rfl (rQ 3 [] _) .nil rfl ?_;rintro _ K5 _ ⟨d2,e2,rfl,h6,h7,rfl⟩ le5;refine bR (fQ Tryz.underlying205 Tryz.underlying9 rfl rfl rfl ?_ bB) ?_
 ·rfl
 rintro _ K _ ⟨rfl,rfl⟩ -;refine aY rfl rfl (rQ 4 gS _) .nil rfl ?_;rintro _ K6 _ ⟨d3,e3,rfl,h8,h9,rfl⟩ le6;refine bR (fQ Tryz.underlying205 Tryz.underlying9 rfl rfl rfl ?_ bB) ?_
 ·rfl
 rintro _ K _ ⟨rfl,rfl⟩ -;refine bR (fQ Tryz.underlying205 Tryz.underlying9 rfl rfl rfl ?_ bB) ?_
 ·rfl
 rintro _ K _ ⟨rfl,rfl⟩ -;refine bR (fQ Tryz.underlying205 Tryz.underlying9 rfl rfl rfl ?_ bB) ?_
 ·rfl
 rintro _ K _ ⟨rfl,rfl⟩ -;refine zz3 ?_;refine bR (bL aXW rfl rfl cK bB (.succ (.succ (.succ (.succ (.succ (.succ (.succ (.succ .zero)))))))) rfl) ?_;rintro _ K _ ⟨rfl,rfl⟩ -;refine zz4 ?_;refine ol_s pZ rfl ?_;rintro _ K _ ⟨b14,rfl,rfl,rfl⟩ -;refine bR (fQ Tryz.underlying206 Tryz.underlying9 rfl rfl rfl ?_ bB) ?_
 ·rfl
 rintro _ K _ ⟨rfl,rfl⟩ -;refine bR (fQ Tryz.underlying206 Tryz.underlying9 rfl rfl rfl ?_ bB) ?_
 ·rfl
 rintro _ K _ ⟨rfl,rfl⟩ -;refine bR (fQ Tryz.underlying206 Tryz.underlying9 rfl rfl rfl ?_ bB) ?_
 ·rfl
 rintro _ K _ ⟨rfl,rfl⟩ -;refine bR (fQ Tryz.underlying206 Tryz.underlying9 rfl rfl rfl ?_ bB) ?_
 ·rfl
 rintro _ K _ ⟨rfl,rfl⟩ -;refine bR (fQ Tryz.underlying206 Tryz.underlying9 rfl rfl rfl ?_ bB) ?_
 ·rfl
 rintro _ K _ ⟨rfl,rfl⟩ -;refine bR (fQ Tryz.underlying206 Tryz.underlying9 rfl rfl rfl ?_ bB) ?_
 ·rfl
 rintro _ K _ ⟨rfl,rfl⟩ -;refine bR (fQ Tryz.underlying206 Tryz.underlying9 rfl rfl rfl ?_ bB) ?_
 ·rfl
 rintro _ K _ ⟨rfl,rfl⟩ -;refine bR (fQ Tryz.underlying206 Tryz.underlying9 rfl rfl rfl ?_ bB) ?_
 ·rfl
 rintro _ K _ ⟨rfl,rfl⟩ -;refine bR (fQ Tryz.underlying206 Tryz.underlying9 rfl rfl rfl ?_ bB) ?_
 ·rfl
 rintro _ K _ ⟨rfl,rfl⟩ -;refine bR (fQ Tryz.underlying206 Tryz.underlying9 rfl rfl rfl ?_ bB) ?_
 ·rfl
 rintro _ K _ ⟨rfl,rfl⟩ -;refine zz3 ?_;refine bR (bL aXX rfl rfl cK bB (.succ (.succ (.succ (.succ (.succ (.succ (.succ (.succ (.succ .zero))))))))) rfl) ?_;rintro _ K _ ⟨rfl,rfl⟩ -;refine aF ?_;refine uAo ?_;refine gO fun K7 le7 hT=>?_
 refine gO fun K8 le8 hC=>?_
 refine cT rfl (Hl.le_trans le1 (Hl.le_trans le2 (Hl.le_trans le3 (Hl.le_trans le4 (Hl.le_trans le5 (Hl.le_trans le6 (Hl.le_trans le7 le8))))))) ?_;have g7:=Hl.le_trans le7 le8;have g6:=Hl.le_trans le6 g7;have g5:=Hl.le_trans le5 g6;have g4:=Hl.le_trans le4 g5;have g3:=Hl.le_trans le3 g4;have g2:=Hl.le_trans le2 g3;exact⟨_,rfl,rfl,_,_,⟨⟨c1,c2,c3,d1,e1,d2,e2,d3,e3,hC,g2 _ _ h1,g3 _ _ h2,g4 _ _ h3,g5 _ _ h4,g5 _ _ h5,g6 _ _ h6,g6 _ _ h7,g7 _ _ h8,g7 _ _ h9⟩,le8 _ _ hT⟩,rfl⟩
end Go.Proofs
end
section
attribute [local irreducible] Go.SL.T Go.SL.OL Go.SL.D Go.SL.DL Go.SL.Ev Go.SL.Ef Go.SL.EfS
namespace Go.Proofs
open Go Go.SL Go.Syn
def RB(s:List UInt8)(b:Nat)(rest:List Value)(r:Res (Tree×St)):Ending→Hl→List Asn→Prop:=f6 r fun r v K' L'=>∃ys,Rep K' r.1 ys∧isCL r.1=true∧L'=[sl false (dY 224) v (ys.map Prod.fst),psb b s r.2 rest]
def zO(s:List UInt8)(b:Nat)(rest:List Value)(K:Hl)(dp:Int)(Bf:St→Res (Tree×St)):Prop:=
 ∀(st:St) (K':Hl),K.le K'→Ok s st→Sp Tryz.prog 105 [ptr b,i64 dp] K' [psb b s st rest] (RB s b rest (Bf st))
theorem aCQ{v:Value}(h:v.oneCell'=true):v.cells=[v].toArray:=by cases v <;> simp[Value.oneCell']at h <;> rfl
theorem s8(b:Nat)(s:List UInt8)(st:St)(rest:List Value)(bp bd bi:Nat)(dp:Int)(tv sv:Value)(tv1:tv.oneCell'=true)(us:List (Cell×Cell))(K:Hl)(Bf:St→Res (Tree×St))(hs:s.length≤600)(hok:Ok s st)(hg:Glob K)(hd:0≤dp∧dp≤6)(hu:us.length≤1300)
  (hBa:AdvE s Bf) (hB:zO s b rest K (dp+1) Bf) (h1:K bp=some (aU [ptr b] 199)) (h2:K bd=some (aU [i64 dp] 3)):
  Sp Tryz.prog 264 [tv,ptr bp,ptr bd,ptr bi] K [pt bi (aU [sv] 311),sl false (gI 371) sv us,psb b s st rest]
   (f6 (lS s Bf st) fun r v K' L'=>v=.tuple #[]∧∃(bv:Cell) (ys:List (Cell×Cell)) (sv':Value),Rep K' r.1 ys∧Ksl (dY 224) K' bv.1 (ys.map (·.1))∧L'=[pt bi (aU [sv'] 311),sl false (gI 371) sv' (us++[(⟨tv,tv1⟩,bv)]),psb b s r.2 rest]):=by
 have ha:=hok.1;refine aZ Tryz.func264 rfl Tryz.ntmps264 rfl rfl fun F w=>?_
 refine zz3 ?_;refine aX rfl rfl (j5 b s st rest [123] _ hs ha hg) (.cons (.there (.there .here)) .nil) rfl (fun _ _=>a7 _ _) ?_ ?_
 ·
  rintro _ _ _ hTr le1;obtain⟨e,p,hq,fb,h,rfl⟩:=a8 hTr;cases h
  refine uAa ?_;refine zz2 ?_;simp only[lS,hq,if_true,if_false,↓reduceIte];exact⟨fb,rfl,rfl⟩
 rintro _ K _ hTr -;obtain⟨q,hq,rfl,rfl,rfl⟩:=bA hTr;clear hTr;have hqo:=zJ ha hq;refine zz7 ?_;refine aX rfl rfl (hB q _ (Hl.le_refl _) hqo) (.cons .here .nil) rfl (fun _ _=>a7 _ _) ?_ ?_
 ·
  rintro _ _ _ hTr le1;obtain⟨e,p,hb,fb,h,rfl⟩:=a8 hTr;cases h
  refine uAa ?_;refine zz2 ?_;simp only[lS,hq,hb,if_true,if_false,↓reduceIte];exact⟨fb,rfl,rfl⟩
 rintro _ K1 _ hTr leK1;obtain⟨bb,hb,⟨ys,hrep,hcl,rfl⟩⟩:=bA hTr;clear hTr;have hbo:=(hBa _ _ hqo hb).1;have h1:=leK1 _ _ h1;refine fL fun K2 leS hS=>?_
 obtain⟨sa,sn,sc,rfl⟩:=hS.isSlice;have h1:=leS _ _ h1;have hrep:=hrep.mono leS;refine zz6 ?_;refine aX rfl rfl (j5 b s bb.2 rest [125] _ hs hbo.1 (hg.mono (Hl.le_trans leK1 leS))) (.cons .here .nil) rfl (fun _ _=>a7 _ _) ?_ ?_
 ·
  rintro _ _ _ hTr le1;obtain⟨e,p,hz,fb,h,rfl⟩:=a8 hTr;cases h
  refine uAa ?_;refine aK ?_;refine bF (Hl.le_trans leK1 (Hl.le_trans leS le1)) ?_;simp only[lS,hq,hb,hz,if_true,if_false,↓reduceIte];exact⟨fb,rfl,rfl⟩
 rintro _ K _ hTr -;obtain⟨z,hz,rfl,rfl,rfl⟩:=bA hTr;clear hTr;refine zz7 ?_;refine aA (cR bBA aZU (.cons rfl (aCQ tv1) rfl (.cons .nil) (.cons rfl rfl rfl (.skip (.cons .nil)) .nil))) rfl ?_;refine ol_s (a6 (z0:=[.nilIface,.slice none 0 0]) pJ aMK rfl rfl rfl rfl (.cons rfl rfl rfl (.cons (.cons .nil)) .nil)) rfl ?_;rintro _ K _ ⟨b19,rfl,rfl,rfl⟩ -;refine ol_s (dT (k:=(gI 371)) (ys:=[(⟨tv,tv1⟩,⟨.slice sa sn sc,rfl⟩)]) aBU rfl rfl (.there (.there (.there .here))) (fun w j=>dK Tryz.underlying309 (SeesSl.at (.blk (.own .here) rfl rfl) j)) gBQ gBQ) rfl ?_;rintro v20 K _ ⟨rfl,rfl,ho20⟩ -;refine zz1 ?_;refine bR (bL aI9 rfl rfl cK bB .zero rfl) ?_;rintro _ K _ ⟨rfl,rfl⟩ -;refine aF ?_;refine aO (.cons (.there (.there (.there .here))) (.cons .here (.cons (.there .here) .nil))) ?_;refine cT rfl (Hl.le_trans leK1 leS) ?_;simp only[lS,hq,hb,hz,if_true,if_false,↓reduceIte];exact⟨_,rfl,rfl,_,ys,_,hrep,hS,rfl⟩
theorem aB7(b:Nat)(s:List UInt8)(st:St)(rest:List Value)(at_ dp:Int)(K:Hl)(Tf Bf:St→Res (Tree×St))(hs:s.length≤600)(hok:Ok s st)(hg:Glob K)(hd:0≤dp∧dp≤6)(hTa:Adv s Tf)(hBa:AdvE s Bf)(hT:tU s b rest K (dp+1) Tf)(hB:zO s b rest K (dp+1) Bf):
    Sp Tryz.prog 164 [ptr b,i64 at_,i64 dp] K [psb b s st rest] (RT s b rest (ifC s Tf Bf st)):=by
  have ha:=hok.1;refine aZ Tryz.func164 rfl Tryz.ntmps164 rfl rfl fun F w=>?_
  refine zz3 ?_;rintro _ K _ ⟨b3,rfl,rfl,rfl⟩ -;refine zz1 ?_;rintro _ K _ ⟨b5,rfl,rfl,rfl⟩ -;refine zz5 ?_;refine fW fun Ka leA hbd=>?_
  refine fW fun Kb leB hbp=>?_
  have hbd:=leB _ _ hbd;have le0:=Hl.le_trans leA leB;refine zz3 ?_;refine aX rfl rfl (dJ b 208 s st.1 _ _ _ _ rest hs ha _ (hg.mono le0)) (.cons .here .nil) rfl (fun _ _=>a7 _ _) ?_ ?_
  ·
    rintro _ _ _ hTr le1;obtain⟨e,p,hr,fb,h,rfl⟩:=a8 hTr;cases h
    refine uAa ?_;refine aK ?_;refine bF (Hl.le_trans le0 le1) ?_;simp only[RT,ifC,hr,if_true,if_false,↓reduceIte];exact⟨fb,rfl,rfl⟩
  rintro _ K _ hTr -;obtain⟨r,hr,rfl,rfl,rfl⟩:=bA hTr;clear hTr;have hro:=d9 ha hr;refine zz5 ?_;rintro _ K _ ⟨b7,rfl,rfl,rfl⟩ -;refine zz14 ?_;refine aX rfl rfl (hT r _ le0 hro) (.cons (.there .here) .nil) rfl (fun _ _=>a7 _ _) ?_ ?_
  ·
    rintro _ _ _ hTr le1;obtain⟨e,p,ht,fb,h,rfl⟩:=a8 hTr;cases h
    refine uAa ?_;refine aK ?_;refine bF (Hl.le_trans le0 le1) ?_;simp only[RT,ifC,hr,ht,if_true,if_false,↓reduceIte];exact⟨fb,rfl,rfl⟩
  rintro _ K1 _ hTr leK1;obtain⟨t,ht,⟨ty,u,rfl,hrep⟩,rfl⟩:=bA hTr;clear hTr;have hto:=(hTa _ _ hro ht).1;have hbd:=leK1 _ _ hbd;have hbp:=leK1 _ _ hbp;have le01:=Hl.le_trans le0 leK1;refine jY (eT (gI 371)) ?_;refine aX rfl rfl (s8 b s t.2 rest b3 b5 b7 dp (.iface ty u) _ rfl [] _ Bf hs hto (hg.mono le01) hd (by simp) hBa (fun st2 K2 le2 ho=>hB st2 K2 (Hl.le_trans le01 le2) ho) hbp hbd) (.cons (.there (.there .here)) (.cons .here (.cons .here .nil))) rfl (fun _ _=>a7 _ _) ?_ ?_
  ·
    rintro _ _ _ hTr le1;obtain⟨e,p,hb,fb,h,rfl⟩:=a8 hTr;cases h
    refine uAa ?_;refine aK ?_;refine bF (Hl.le_trans le01 le1) ?_;simp only[RT,ifC,hr,ht,hb,if_true,if_false,↓reduceIte];exact⟨fb,rfl,rfl⟩
  rintro _ K3 _ hTr leK3;obtain⟨bb,hb,rfl,bv,ys,sv1,hrb,hsb,rfl⟩:=bA hTr;clear hTr;have hbo:=(lK hBa _ _ hto hb).1;have hbd:=leK3 _ _ hbd;have hbp:=leK3 _ _ hbp;have le03:=Hl.le_trans le01 leK3;refine zz4 ?_;refine rE (fun(K2:Hl) (st2:St) (us:List (Cell×Cell)) (sv:Value)=>K3.le K2∧Ok s st2∧us.length+mu s st2≤1300∧∃acc f,isBL acc=true∧Rep K2 acc us∧mu s st2≤f∧ifC s Tf Bf st=eM s Tf Bf (f+1) acc st2) (fun _ _ _ _=>[(3,ptr b3),(5,ptr b5),(7,ptr b7),(8,.func (.func 264) #[] #[ptr b3,ptr b5,ptr b7])]) (fun K2 _ _ _=>K2) (fun _ st2 us sv=>[pt b7 (aU [sv] 311),sl false (gI 371) sv us,psb b s st2 rest]) (fun _ st2 _ _=>mu s st2) _ bb.2 [(⟨.iface ty u,rfl⟩,bv)] sv1 ⟨Hl.le_refl _,hbo,by have:=wG s bb.2;simp;omega,.bcons t.1 bb.1 .bnil,mu s bb.2,rfl,⟨_,ys,bv,[],hrep.mono leK3,⟨_,_,rfl⟩,hrb,hsb,rfl,rfl⟩,Nat.le_refl _,by simp only[ifC,hr,ht,hb]⟩ (.cons 3 rfl (.cons 5 rfl (.cons 7 rfl (.cons 8 rfl .nil)))) rfl (fun _ h=>h) ?_;intro K2 st2 us sv ⟨leL,hok2,hus,acc,f,hacc,hrp,hf,hx⟩;have hbd:=leL _ _ hbd;have hbp:=leL _ _ hbp;have le2:=Hl.le_trans le03 leL;refine zz11 ?_;refine cF 27 rfl (fun g27=>?_) (fun g27=>?_)
  ·
    have g27:st2.2.kind=1:=by omega
    refine zz17 ?_;refine bG 35 rfl (fun h35=>?_) (fun h35=>?_)
    ·
      have gc:st2.2.kind=1∧st2.2.s=mB:=⟨by omega,h35⟩;refine zz8 ?_;refine aX rfl rfl (dJ b 208 s st2.1 _ _ _ _ rest hs hok2.1 _ (hg.mono le2)) (.cons (.there (.there .here)) .nil) rfl (fun _ _=>a7 _ _) ?_ ?_
      ·
        rintro _ _ _ hTr le1;obtain⟨e,p,hr2,fb,h,rfl⟩:=a8 hTr;cases h
        refine uAa ?_;refine zz5 ?_;refine bF (Hl.le_trans le2 le1) ?_;simp only[RT,hx,eM,iA,if_pos gc,hr2,if_true,if_false,↓reduceIte];exact⟨fb,rfl,rfl⟩
      rintro _ K _ hTr -;obtain⟨r2,hr2,rfl,rfl,rfl⟩:=bA hTr;clear hTr;have hro2:=d9 hok2.1 hr2;refine zz7 ?_;refine aX rfl rfl (hT r2 _ le2 hro2) (.cons .here .nil) rfl (fun _ _=>a7 _ _) ?_ ?_
      ·
        rintro _ _ _ hTr le1;obtain⟨e,p,ht2,fb,h,rfl⟩:=a8 hTr;cases h
        refine uAa ?_;refine zz4 ?_;refine bF (Hl.le_trans le2 le1) ?_;simp only[RT,hx,eM,iA,if_pos gc,hr2,ht2,if_true,if_false,↓reduceIte];exact⟨fb,rfl,rfl⟩
      rintro _ K4 _ hTr leK4;obtain⟨t2,ht2,⟨ty2,u2,rfl,hrep2⟩,rfl⟩:=bA hTr;clear hTr;have hto2:=(hTa _ _ hro2 ht2).1;have hbd:=leK4 _ _ hbd;have hbp:=leK4 _ _ hbp;have le4:=Hl.le_trans le2 leK4;refine aX rfl rfl (s8 b s t2.2 rest b3 b5 b7 dp (.iface ty2 u2) _ rfl us _ Bf hs hto2 (hg.mono le4) hd aH hBa (fun st2 K2 lx ho=>hB st2 K2 (Hl.le_trans le4 lx) ho) hbp hbd) (.cons (.there .here) (.cons (.there .here) (.cons .here .nil))) rfl (fun _ _=>a7 _ _) ?_ ?_
      ·
        rintro _ _ _ hTr le1;obtain⟨e,p,hb2,fb,h,rfl⟩:=a8 hTr;cases h
        refine uAa ?_;refine zz4 ?_;refine bF (Hl.le_trans le4 le1) ?_;simp only[RT,hx,eM,iA,if_pos gc,hr2,ht2,hb2,if_true,if_false,↓reduceIte];exact⟨fb,rfl,rfl⟩
      rintro _ K5 _ hTr leK5;obtain⟨bb2,hb2,rfl,bv2,ys2,sv2,hrb2,hsb2,rfl⟩:=bA hTr;clear hTr;have hbo2:=(lK hBa _ _ hto2 hb2).1;refine zz2 ?_;have hm1:=fC hok2.1 aH hr2;have hm2:=hTa _ _ hro2 ht2;have hm3:=lK hBa _ _ hto2 hb2;obtain⟨f0,rfl⟩:∃f0,f=f0+1:=⟨f - 1,by omega⟩;obtain⟨hr3,hr4⟩:=mP (o:=some t2.1) ⟨hrep2.mono leK5,_,_,rfl⟩ hrb2 hsb2 hacc (hrp.mono (Hl.le_trans leK4 leK5));refine oE _ bb2.2 (us++[(⟨.iface ty2 u2,rfl⟩,bv2)]) sv2 ⟨Hl.le_trans leL (Hl.le_trans leK4 leK5),hbo2,by simp;omega,acc.snocB (some t2.1) bb2.1,f0,hr4,hr3,by omega,?_⟩ aH (.cons 3 rfl (.cons 5 rfl (.cons 7 rfl (.cons 8 rfl .nil)))) rfl bO
      simp only[RT,hx,eM,iA,if_pos gc,hr2,ht2,hb2,if_true,if_false,↓reduceIte]
    ·
      have gc:¬(st2.2.kind=1∧st2.2.s=mB):=(fun h=>h35 h.2);refine zz16 ?_;refine cF 53 rfl (fun g53=>?_) (fun g53=>?_)
      ·
        refine zz17 ?_;refine bG 61 rfl (fun h61=>?_) (fun h61=>?_)
        ·
          have gd:st2.2.kind=1∧st2.2.s=mA:=⟨by omega,h61⟩;refine zz5 ?_;refine aX rfl rfl (dJ b 208 s st2.1 _ _ _ _ rest hs hok2.1 _ (hg.mono le2)) (.cons (.there (.there .here)) .nil) rfl (fun _ _=>a7 _ _) ?_ ?_
          ·
            rintro _ _ _ hTr le1;obtain⟨e,p,hr3,fb,h,rfl⟩:=a8 hTr;cases h
            refine uAa ?_;refine zz2 ?_;refine bF (Hl.le_trans le2 le1) ?_;simp only[RT,hx,eM,iA,if_neg gc,if_pos gd,hr3,if_true,if_false,↓reduceIte];exact⟨fb,rfl,rfl⟩
          rintro _ K _ hTr -;obtain⟨r3,hr3,rfl,rfl,rfl⟩:=bA hTr;clear hTr;have hro3:=d9 hok2.1 hr3;refine zz4 ?_;refine aX rfl rfl (s8 b s r3 rest b3 b5 b7 dp .nilIface _ rfl us _ Bf hs hro3 (hg.mono le2) hd aH hBa (fun st2 K2 lx ho=>hB st2 K2 (Hl.le_trans le2 lx) ho) hbp hbd) (.cons (.there .here) (.cons (.there .here) (.cons .here .nil))) rfl (fun _ _=>a7 _ _) ?_ ?_
          ·
            rintro _ _ _ hTr le1;obtain⟨e,p,hb3,fb,h,rfl⟩:=a8 hTr;cases h
            refine uAa ?_;refine aK ?_;refine bF (Hl.le_trans le2 le1) ?_;simp only[RT,hx,eM,iA,if_neg gc,if_pos gd,hr3,hb3,if_true,if_false,↓reduceIte];exact⟨fb,rfl,rfl⟩
          rintro _ K6 _ hTr leK6;obtain⟨bb3,hb3,rfl,bv3,ys3,sv3,hrb3,hsb3,rfl⟩:=bA hTr;clear hTr;refine zz5 ?_;refine aA (dG Tryz.underlying311 (fun _ h=>by cases h) rfl) rfl ?_;refine zz4 ?_;refine uAr ?_;refine fU fun K9 leS hS=>?_
          refine bJ rfl rfl gBX ?_
          first
            | (simp only [RT, hx, eM, iA, if_neg gc, if_pos gd, hr3, hb3]
               obtain⟨hr6,hr7⟩:=mP (o:=none) rfl hrb3 hsb3 hacc (hrp.mono leK6);exact⟨_,rfl,⟨_,_,rfl,_,_,hr6.mono leS,hS,rfl⟩,rfl⟩)
            |exact gAU
        ·
          have gd:¬(st2.2.kind=1∧st2.2.s=mA):=(fun h=>h61 h.2);refine zz5 ?_;refine aA (dG Tryz.underlying311 (fun _ h=>by cases h) rfl) rfl ?_;refine zz4 ?_;refine uAr ?_;refine fU fun K9 leS hS=>?_
          refine bJ rfl rfl gBX ?_
          first
            | (simp only [RT, hx, eM, iA, if_neg gc, if_pos gd, hr3, hb3]
               obtain⟨hr6,hr7⟩:=mP (o:=none) rfl hrb3 hsb3 hacc (hrp.mono leK6);exact⟨_,rfl,⟨_,_,rfl,_,_,hr6.mono leS,hS,rfl⟩,rfl⟩)
            |exact gAU
      ·
        have gd:¬(st2.2.kind=1∧st2.2.s=mA):=(fun h=>by omega);refine zz16 ?_;refine aA (dG Tryz.underlying311 (fun _ h=>by cases h) rfl) rfl ?_;refine zz4 ?_;refine uAr ?_;refine fU fun K9 leS hS=>?_
        refine bJ rfl rfl gBX ?_
        first
          | (simp only [RT, hx, eM, iA, if_neg gc, if_pos gd, hr3, hb3]
             obtain⟨hr6,hr7⟩:=mP (o:=none) rfl hrb3 hsb3 hacc (hrp.mono leK6);exact⟨_,rfl,⟨_,_,rfl,_,_,hr6.mono leS,hS,rfl⟩,rfl⟩)
          |exact gAU
  ·
    have gc:¬(st2.2.kind=1∧st2.2.s=mB):=(fun h=>by omega);refine zz27 ?_;refine cF 53 rfl (fun g53=>?_) (fun g53=>?_)
    ·
      refine zz17 ?_;refine bG 61 rfl (fun h61=>?_) (fun h61=>?_)
      ·
        have gd:st2.2.kind=1∧st2.2.s=mA:=⟨by omega,h61⟩;refine zz5 ?_;refine aX rfl rfl (dJ b 208 s st2.1 _ _ _ _ rest hs hok2.1 _ (hg.mono le2)) (.cons (.there (.there .here)) .nil) rfl (fun _ _=>a7 _ _) ?_ ?_
        ·
          rintro _ _ _ hTr le1;obtain⟨e,p,hr3,fb,h,rfl⟩:=a8 hTr;cases h
          refine uAa ?_;refine zz2 ?_;refine bF (Hl.le_trans le2 le1) ?_;simp only[RT,hx,eM,iA,if_neg gc,if_pos gd,hr3,if_true,if_false,↓reduceIte];exact⟨fb,rfl,rfl⟩
        rintro _ K _ hTr -;obtain⟨r3,hr3,rfl,rfl,rfl⟩:=bA hTr;clear hTr;have hro3:=d9 hok2.1 hr3;refine zz4 ?_;refine aX rfl rfl (s8 b s r3 rest b3 b5 b7 dp .nilIface _ rfl us _ Bf hs hro3 (hg.mono le2) hd aH hBa (fun st2 K2 lx ho=>hB st2 K2 (Hl.le_trans le2 lx) ho) hbp hbd) (.cons (.there .here) (.cons (.there .here) (.cons .here .nil))) rfl (fun _ _=>a7 _ _) ?_ ?_
        ·
          rintro _ _ _ hTr le1;obtain⟨e,p,hb3,fb,h,rfl⟩:=a8 hTr;cases h
          refine uAa ?_;refine aK ?_;refine bF (Hl.le_trans le2 le1) ?_;simp only[RT,hx,eM,iA,if_neg gc,if_pos gd,hr3,hb3,if_true,if_false,↓reduceIte];exact⟨fb,rfl,rfl⟩
        rintro _ K6 _ hTr leK6;obtain⟨bb3,hb3,rfl,bv3,ys3,sv3,hrb3,hsb3,rfl⟩:=bA hTr;clear hTr;refine zz5 ?_;refine aA (dG Tryz.underlying311 (fun _ h=>by cases h) rfl) rfl ?_;refine zz4 ?_;refine uAr ?_;refine fU fun K9 leS hS=>?_
        refine bJ rfl rfl gBX ?_
        first
          | (simp only [RT, hx, eM, iA, if_neg gc, if_pos gd, hr3, hb3]
             obtain⟨hr6,hr7⟩:=mP (o:=none) rfl hrb3 hsb3 hacc (hrp.mono leK6);exact⟨_,rfl,⟨_,_,rfl,_,_,hr6.mono leS,hS,rfl⟩,rfl⟩)
          |exact gAU
      ·
        have gd:¬(st2.2.kind=1∧st2.2.s=mA):=(fun h=>h61 h.2);refine zz5 ?_;refine aA (dG Tryz.underlying311 (fun _ h=>by cases h) rfl) rfl ?_;refine zz4 ?_;refine uAr ?_;refine fU fun K9 leS hS=>?_
        refine bJ rfl rfl gBX ?_
        first
          | (simp only [RT, hx, eM, iA, if_neg gc, if_pos gd, hr3, hb3]
             obtain⟨hr6,hr7⟩:=mP (o:=none) rfl hrb3 hsb3 hacc (hrp.mono leK6);exact⟨_,rfl,⟨_,_,rfl,_,_,hr6.mono leS,hS,rfl⟩,rfl⟩)
          |exact gAU
    ·
      have gd:¬(st2.2.kind=1∧st2.2.s=mA):=(fun h=>by omega);refine zz16 ?_;refine aA (dG Tryz.underlying311 (fun _ h=>by cases h) rfl) rfl ?_;refine zz4 ?_;refine uAr ?_;refine fU fun K9 leS hS=>?_
      refine bJ rfl rfl gBX ?_
      first
        | (simp only [RT, hx, eM, iA, if_neg gc, if_pos gd, hr3, hb3]
           obtain⟨hr6,hr7⟩:=mP (o:=none) rfl hrb3 hsb3 hacc (hrp.mono leK6);exact⟨_,rfl,⟨_,_,rfl,_,_,hr6.mono leS,hS,rfl⟩,rfl⟩)
        |exact gAU
end Go.Proofs
end
section
attribute [local irreducible] Go.SL.T Go.SL.OL Go.SL.D Go.SL.DL Go.SL.Ev Go.SL.Ef Go.SL.EfS
namespace Go.Proofs
open Go Go.SL Go.Syn
theorem aJK(b:Nat)(s:List UInt8)(st:St)(dp:Int)(rest:List Value)(K:Hl)(Tf:St→Res (Tree×St))(hs:s.length≤600)(hok:Ok s st)(hg:Glob K)(hd:0≤dp∧dp≤6)(hTa:Adv s Tf)(hT:tU s b rest K (dp+1) Tf):
  Sp Tryz.prog 169 [ptr b,i64 dp] K [psb b s st rest] (RT s b rest (mC s Tf true st)):=by
 refine aZ Tryz.func169 rfl Tryz.ntmps169 rfl rfl fun F w=>?_
 refine zz9 ?_;refine aX rfl rfl (aC6 b s st true dp rest _ Tf hs hok hg hd hTa hT) (.cons .here .nil) rfl (fun _ _=>a7 _ _) ?_ ?_
 ·
  rintro _ _ _ hTr le1;obtain⟨e,p,hr,fb,h,rfl⟩:=a8 hTr;cases h
  refine uAa ?_;refine zz2 ?_;simp only[RT,hr,if_true,if_false,↓reduceIte];exact⟨fb,rfl,rfl⟩
 rintro _ K1 _ hTr leK1;obtain⟨r,hr,hrep,rfl⟩:=bA hTr;clear hTr;refine zz4 ?_;refine uAa ?_;refine bJ rfl rfl leK1 ?_;simp only[RT,hr,if_true,if_false,↓reduceIte];exact⟨_,rfl,hrep,rfl⟩
theorem aJL(b:Nat)(s:List UInt8)(st:St)(dp:Int)(rest:List Value)(K:Hl)(Tf:St→Res (Tree×St))(hs:s.length≤600)(hok:Ok s st)(hg:Glob K)(hd:0≤dp∧dp≤6)(hTa:Adv s Tf)(hT:tU s b rest K (dp+1) Tf):
  Sp Tryz.prog 171 [ptr b,i64 dp] K [psb b s st rest] (RT s b rest (mC s Tf false st)):=by
 refine aZ Tryz.func171 rfl Tryz.ntmps171 rfl rfl fun F w=>?_
 refine zz9 ?_;refine aX rfl rfl (aC6 b s st false dp rest _ Tf hs hok hg hd hTa hT) (.cons .here .nil) rfl (fun _ _=>a7 _ _) ?_ ?_
 ·
  rintro _ _ _ hTr le1;obtain⟨e,p,hr,fb,h,rfl⟩:=a8 hTr;cases h
  refine uAa ?_;refine zz2 ?_;simp only[RT,hr,if_true,if_false,↓reduceIte];exact⟨fb,rfl,rfl⟩
 rintro _ K1 _ hTr leK1;obtain⟨r,hr,hrep,rfl⟩:=bA hTr;clear hTr;refine zz4 ?_;refine uAa ?_;refine bJ rfl rfl leK1 ?_;simp only[RT,hr,if_true,if_false,↓reduceIte];exact⟨_,rfl,hrep,rfl⟩
theorem gD(k k':List UInt8)(v:Value)(c:Nat)(es:List Ent):mget ((k',v,c)::es) k=if k=k' then some v else mget es k:=by
 unfold mget;rw[List.find?_cons]
 by_cases h:k=k'
 ·subst h;simp
 ·simp[h]
theorem aHP(k:List UInt8):mget [] k=none:=rfl
structure PE (s:List UInt8) (needs:List (List UInt8)) (nv:Value) (cb tb:Nat) (K:Hl):Prop where
 pk:PK s needs nv K
 tabs:Tabs K cb tb
theorem PE.mono{s:List UInt8}{needs:List (List UInt8)}{nv:Value}{cb tb:Nat}{K K':Hl}(h:PE s needs nv cb tb K)(le:K.le K'):PE s needs nv cb tb K':=⟨h.pk.mono le,h.tabs.mono le⟩
theorem aPY(b:Nat)(s:List UInt8)(st:St)(dp:Int)(nv:Value)(rest:List Value)(needs:List (List UInt8))(K:Hl)(Tf:St→Res (Tree×St))(hp:PK s needs nv K)(hok:Ok s st)(hd:0≤dp∧dp≤6)(hTa:Adv s Tf)(hT:tU s b (nv::rest) K (dp+1) Tf)
  {es:List Ent} (he:es=[(nO,fnV 165,0),(lD,fnV 166,1),(aD8,fnV 167,2),(nW,fnV 169,3),(nX,fnV 171,4),(oY,fnV 172,5),(e8,fnV 174,6),(o0,fnV 175,7),(qK,fnV 176,8),(rH,fnV 178,9)]):
  (mget es st.2.s=none∧mE s needs Tf st=none)∨∃fn r,mget es st.2.s=some (fnV fn)∧mE s needs Tf st=some r∧Sp Tryz.prog fn [ptr b,i64 dp] K [psb b s st (nv::rest)] (RT s b (nv::rest) r):=by
 subst he;unfold mE;simp only[gD,aHP]
 by_cases h1:st.2.s=nO
 ·simp only[if_pos h1];exact .inr ⟨_,_,rfl,rfl,aP3 b s st dp _ K hp.hs hok hp.hg⟩
 simp only[if_neg h1]
 by_cases h2:st.2.s=lD
 ·simp only[if_pos h2];exact .inr ⟨_,_,rfl,rfl,aJ9 b s st dp _ K hp.hs hok hp.hg⟩
 simp only[if_neg h2]
 by_cases h3:st.2.s=aD8
 ·simp only[if_pos h3];exact .inr ⟨_,_,rfl,rfl,aSK b s st dp _ K Tf hp.hs hok hp.hg hd hT⟩
 simp only[if_neg h3]
 by_cases h4:st.2.s=nW
 ·simp only[if_pos h4];exact .inr ⟨_,_,rfl,rfl,aJK b s st dp _ K Tf hp.hs hok hp.hg hd hTa hT⟩
 simp only[if_neg h4]
 by_cases h5:st.2.s=nX
 ·simp only[if_pos h5];exact .inr ⟨_,_,rfl,rfl,aJL b s st dp _ K Tf hp.hs hok hp.hg hd hTa hT⟩
 simp only[if_neg h5]
 by_cases h6:st.2.s=oY
 ·simp only[if_pos h6];exact .inr ⟨_,_,rfl,rfl,aHF b s st dp nv rest needs K hok hp⟩
 simp only[if_neg h6]
 by_cases h7:st.2.s=e8
 ·simp only[if_pos h7];exact .inr ⟨_,_,rfl,rfl,aCA b s st dp nv rest needs K hok hp⟩
 simp only[if_neg h7]
 by_cases h8:st.2.s=o0
 ·simp only[if_pos h8];exact .inr ⟨_,_,rfl,rfl,aIV b s st dp nv rest needs K hok hp⟩
 simp only[if_neg h8]
 by_cases h9:st.2.s=qK
 ·simp only[if_pos h9];exact .inr ⟨_,_,rfl,rfl,aG8 b s st dp _ K hp.hs hok hp.hg⟩
 simp only[if_neg h9]
 by_cases h10:st.2.s=rH
 ·simp only[if_pos h10];exact .inr ⟨_,_,rfl,rfl,aPI b s st dp _ K hp.hs hok hp.hg⟩
 simp only[if_neg h10];exact .inl (by simp)
def uB(s:List UInt8)(needs:List (List UInt8))(dp:Int)(Tf:St→Res (Tree×St))(st:St):Res (Tree×St):=
 if st.2.kind=1 then (if 6 < dp then .error (5,st.2.at_)else match mE s needs Tf st with|some r=>r|none=>.error (4,st.2.at_))else .error (4,st.2.at_)
theorem aDT(b:Nat)(s:List UInt8)(st:St)(dp:Int)(nv n1:Value)(cb tb:Nat)(needs:List (List UInt8))(K:Hl)(Tf:St→Res (Tree×St))(hp:PE s needs nv cb tb K)(hok:Ok s st)(hd:0≤dp∧dp≤7)(hTa:Adv s Tf)
  (hT:dp≤6→tU s b [nv,n1,.map (some cb),.map (some tb)] K (dp+1) Tf):
  Sp Tryz.prog 168 [ptr b,i64 dp] K [psb b s st [nv,n1,.map (some cb),.map (some tb)]] (RT s b [nv,n1,.map (some cb),.map (some tb)] (uB s needs dp Tf st)):=by
 have ha:=hok.1;obtain⟨hpk,hcm,htm⟩:=hp;refine aZ Tryz.func168 rfl Tryz.ntmps168 rfl rfl fun F w=>?_
 refine zz17 ?_;refine bG 13 rfl (fun h13=>?_) (fun h13=>?_)
 ·
  have g13:¬st.2.kind=1:=by omega
  refine zz2 ?_;refine aX rfl rfl (iH b s st _ _) (.cons .here .nil) rfl gBM ?_ ?_
  ·
   rintro _ _ _ ⟨fb,h,rfl⟩ le1;cases h
   refine uAa ?_;refine zz2 ?_;simp only[RT,uB,if_neg g13,if_true,if_false,↓reduceIte];exact⟨fb,rfl,rfl⟩
  ·
   rintro _ _ _ ⟨_,h,_⟩;cases h
 ·
  have g13:st.2.kind=1:=by omega
  refine zz9 ?_;refine bG 17 rfl (fun h17=>?_) (fun h17=>?_)
  ·
   have g17:6 < dp:=by omega
   refine zz7 ?_;refine aX rfl rfl (eL 5 st.2.at_ _) .nil rfl gBM ?_ ?_
   ·
    rintro _ _ _ ⟨fb,h,rfl⟩ le1;cases h
    refine uAa ?_;refine zz2 ?_;simp only[RT,uB,if_pos g13,if_pos g17,if_true,if_false,↓reduceIte];exact⟨fb,rfl,rfl⟩
   ·
    rintro _ _ _ ⟨_,h,_⟩;cases h
  ·
   have g17:¬6 < dp:=by omega
   have hdisp:=aPY b s st dp nv _ needs _ Tf hpk hok ⟨hd.1,by omega⟩ hTa (hT aH) rfl;refine zz3 ?_;refine t_draw (anc:=[0,1,3,7,0,16,48,112,240,496,1023,2047,4095,4095,8191,32767]) (ord:=[0,1,2,3,4,5,6,7,8,9,10,11,12,13,14,15]) [] [] mixed gBO (cX _) ?_;refine zz10 ?_;refine dl_ev rfl rfl (.none rfl) rfl rfl (aAH Tryz.underlying206 Tryz.underlying9 bBI rfl rfl (.known htm)) rfl ?_;refine zz11 ?_;refine aA gBN rfl ?_;refine zz2 ?_;refine d8 40 rfl (fun h40=>?_) (fun h40=>?_)
   ·
    rcases hdisp with ⟨hm,hdn⟩|⟨fn,r,hm,hds,hsp⟩
    case inr=>exact absurd h40 (by rw[hm];simp)
    refine zz2 ?_;refine aX rfl rfl (iH b s st _ _) (.cons .here .nil) rfl gBM ?_ ?_
    ·
     rintro _ _ _ ⟨fb,h,rfl⟩ le1;cases h
     refine uAa ?_;refine zz2 ?_;simp only[RT,uB,if_pos g13,if_neg g17,hdn,if_true,if_false,↓reduceIte];exact⟨fb,rfl,rfl⟩
    ·
     rintro _ _ _ ⟨_,h,_⟩;cases h
   ·
    rcases hdisp with ⟨hm,hdn⟩|⟨fn,r,hm,hds,hsp⟩
    case inl=>exact absurd h40 (by rw[hm];simp)
    refine zz7 ?_;refine aX (congrArg some (by rw[hm];rfl)) rfl hsp (.cons .here .nil) rfl (fun _ _=>a7 _ _) ?_ ?_
    ·
     rintro _ _ _ hTr le1;obtain⟨e,p,ht,fb,h,rfl⟩:=a8 hTr;cases h
     refine uAa ?_;refine zz2 ?_;simp only[RT,uB,if_pos g13,if_neg g17,hds,ht,if_true,if_false,↓reduceIte];exact⟨fb,rfl,rfl⟩
    rintro _ K1 _ hTr leK1;obtain⟨t,ht,hrep,rfl⟩:=bA hTr;clear hTr;refine zz4 ?_;refine uAa ?_;refine bJ rfl rfl leK1 ?_;simp only[RT,uB,if_pos g13,if_neg g17,hds,ht,if_true,if_false,↓reduceIte];exact⟨_,rfl,hrep,rfl⟩
end Go.Proofs
end
section
attribute [local irreducible] Go.SL.T Go.SL.OL Go.SL.D Go.SL.DL Go.SL.Ev Go.SL.Ef Go.SL.EfS
namespace Go.Proofs
open Go Go.SL Go.Syn
theorem aK5(s:List UInt8)(needs:List (List UInt8))(Tf:St→Res (Tree×St))(st:St):uB s needs 7 Tf st=Syn.test s needs 0 st:=by
 unfold uB Syn.test;simp
theorem aK4(s:List UInt8)(needs:List (List UInt8))(n:Nat)(dp:Int)(h:dp≤6)(st:St):uB s needs dp (Syn.test s needs n) st=Syn.test s needs (n+1) st:=by
 unfold uB;rw[Syn.test,if_neg (show ¬6 < dp by omega)] <;> split <;> first|rfl|(cases mE s needs (Syn.test s needs n) st <;> rfl)
theorem aPZ(b:Nat)(s:List UInt8)(nv n1:Value)(cb tb:Nat)(needs:List (List UInt8)):∀(n:Nat),n≤7→∀(K:Hl),PE s needs nv cb tb K→tU s b [nv,n1,.map (some cb),.map (some tb)] K (7 - n) (Syn.test s needs n):=by
 intro n;induction n with
 |zero=>
  intro _ K hp st K' le hok;have h:=aDT b s st 7 nv n1 cb tb needs K' (Syn.test s needs 0) (hp.mono le) hok ⟨by decide,by decide⟩ (nH 0) (fun h=>absurd h (by decide));rw[aK5]at h;exact h
 |succ n ih=>
  intro hn K hp st K' le hok;have h := aDT b s st (7 - (n + 1 : Nat)) nv n1 cb tb needs K' (Syn.test s needs n) (hp.mono le) hok ⟨by omega, by omega⟩ (nH n) (fun _ => by
   have:=ih aH K' (hp.mono le);rw[show ((7:Int) - ((n+1:Nat):Int)+1)=7 - (n:Nat)from by omega];exact this)
  rw[aK4 s needs n _ aH]at h;exact h
theorem aKW(b:Nat)(s:List UInt8)(st:St)(at_ dp:Int)(nv:Value)(rest:List Value)(needs:List (List UInt8))(K:Hl)(hp:PK s needs nv K)(hok:Ok s st):
  Sp Tryz.prog 163 [ptr b,i64 at_,i64 dp] K [psb b s st (nv::rest)] (RT s b (nv::rest) (qB s needs st)):=by
 refine(aTP b s st at_ dp nv rest needs K hp.hs hok hp.hg hp.hv hp.hn).mono fun e K' L' h=>?_
 unfold RT qB;cases hs:setC s needs st with
 |error p=>rw[hs]at h;exact h
 |ok r=>
  rw[hs]at h;obtain⟨v,rfl,_,rfl,rfl⟩:=h;exact⟨_,rfl,⟨_,_,rfl,rfl⟩,rfl⟩
theorem aQQ(b:Nat)(s:List UInt8)(st:St)(dp:Int)(nv:Value)(rest:List Value)(needs:List (List UInt8))(K:Hl)(Tf Bf:St→Res (Tree×St))(hp:PK s needs nv K)(hok:Ok s st)(hd:0≤dp∧dp≤6)(hTa:Adv s Tf)(hBa:AdvE s Bf)(hT:tU s b (nv::rest) K (dp+1) Tf)(hB:zO s b (nv::rest) K (dp+1) Bf)
  {cb tb:Nat} (ht:Tabs K cb tb):∃es c,K cb=some (mapO es c)∧
  ((mget es st.2.s=none∧cmdD s needs Tf Bf st=none)∨∃fn caps r,mget es st.2.s=some (.func (.func fn) #[] caps)∧cmdD s needs Tf Bf st=some r∧Sp Tryz.prog fn ([ptr b,i64 st.2.at_,i64 dp]++caps.toList) K [psb b s st (nv::rest)] (RT s b (nv::rest) r)):=by
 obtain⟨c1,c2,c3,d1,e1,d2,e2,d3,e3,h0,k1,k2,k3,k4,k5,k6,k7,k8,k9⟩:=ht.cmds;refine⟨_,_,h0,?_⟩
 unfold cmdD;simp only[gD,aHP]
 by_cases h1:st.2.s=pQ
 ·simp only[if_pos h1];exact .inr ⟨_,_,_,rfl,rfl,rD b s st st.2.at_ dp _ c1 _ _ _ K hp.hs hok hp.hg k1 (fun K=>aWH _ K) (fun K=>aH8 K _ _ _)⟩
 simp only[if_neg h1]
 by_cases h2:st.2.s=gM
 ·simp only[if_pos h2];exact .inr ⟨_,_,_,rfl,rfl,rD b s st st.2.at_ dp _ c2 _ _ _ K hp.hs hok hp.hg k2 (fun K=>aWI _ K) (fun K=>aBH K _)⟩
 simp only[if_neg h2]
 by_cases h3:st.2.s=mV
 ·simp only[if_pos h3];exact .inr ⟨_,_,_,rfl,rfl,rD b s st st.2.at_ dp _ c3 _ _ _ K hp.hs hok hp.hg k3 (fun K=>aWJ _ K) (fun K=>aBH K _)⟩
 simp only[if_neg h3]
 by_cases h4:st.2.s=e9
 ·simp only[if_pos h4];exact .inr ⟨_,_,_,rfl,rfl,qQ b s st st.2.at_ dp nv rest needs d1 e1 _ _ K hp.hs hok hp.hg hp.hv hp.hn k4 k5⟩
 simp only[if_neg h4]
 by_cases h5:st.2.s=kB
 ·simp only[if_pos h5];exact .inr ⟨_,_,_,rfl,rfl,qQ b s st st.2.at_ dp nv rest needs d2 e2 _ _ K hp.hs hok hp.hg hp.hv hp.hn k6 k7⟩
 simp only[if_neg h5]
 by_cases h6:st.2.s=gS
 ·simp only[if_pos h6];exact .inr ⟨_,_,_,rfl,rfl,qQ b s st st.2.at_ dp nv rest needs d3 e3 _ _ K hp.hs hok hp.hg hp.hv hp.hn k8 k9⟩
 simp only[if_neg h6]
 by_cases h7:st.2.s=y6
 ·simp only[if_pos h7];exact .inr ⟨_,_,_,rfl,rfl,aKW b s st st.2.at_ dp nv rest needs K hp hok⟩
 simp only[if_neg h7]
 by_cases h8:st.2.s=txIf
 ·simp only[if_pos h8];exact .inr ⟨_,_,_,rfl,rfl,aB7 b s st _ st.2.at_ dp K Tf Bf hp.hs hok hp.hg hd hTa hBa hT hB⟩
 simp only[if_neg h8];exact .inl (by simp)
def cmdG(s:List UInt8)(needs:List (List UInt8))(dp:Int)(Tf Bf:St→Res (Tree×St))(st:St):Option (Res (Tree×St)):=if 6 < dp then some (.error (5,st.2.at_))else cmdD s needs Tf Bf st
theorem zV(b:Nat)(s:List UInt8)(st:St)(dp:Int)(nv n1:Value)(cb tb:Nat)(needs:List (List UInt8))(K:Hl)(Tf Bf:St→Res (Tree×St))(hp:PE s needs nv cb tb K)(hok:Ok s st)(hd:0≤dp∧dp≤7)(hTa:Adv s Tf)(hBa:AdvE s Bf)
  (hT:dp≤6→tU s b [nv,n1,.map (some cb),.map (some tb)] K (dp+1) Tf) (hB:dp≤6→zO s b [nv,n1,.map (some cb),.map (some tb)] K (dp+1) Bf) (r0:Res (Tree×St)) (hr0:gW s (cmdG s needs dp Tf Bf) (mu s st+1) .cnil st=r0):
  Sp Tryz.prog 105 [ptr b,i64 dp] K [psb b s st [nv,n1,.map (some cb),.map (some tb)]] (RB s b [nv,n1,.map (some cb),.map (some tb)] r0):=by
 have ha:=hok.1;obtain⟨hpk,htabs⟩:=hp;refine aZ Tryz.func105 rfl Tryz.ntmps105 rfl rfl fun F w=>?_
 refine zz12 ?_;refine rE (fun(K2:Hl) (st2:St) (us:List (Cell×Cell)) (v:Value)=>K.le K2∧Ok s st2∧us.length+mu s st2≤1300∧∃acc f,isCL acc=true∧Rep K2 acc us∧mu s st2≤f∧r0=gW s (cmdG s needs dp Tf Bf) (f+1) acc st2) (fun _ _ _ v=>[(0,ptr b),(1,i64 dp),(5,v)]) (fun K2 _ _ _=>K2) (fun _ st2 us v=>[sl false (dY 224) v (us.map Prod.fst),psb b s st2 [nv,n1,.map (some cb),.map (some tb)]]) (fun _ st2 _ _=>mu s st2) K st [] (.slice none 0 0) ⟨Hl.le_refl _,hok,by have:=wG s st;have:=hpk.hs;simp;omega,.cnil,mu s st,rfl,rfl,Nat.le_refl _,hr0.symm⟩ (.cons 0 rfl (.cons 1 rfl (.cons 5 rfl .nil))) rfl (eT (dY 224)) ?_;intro K2 st2 us v ⟨leL,hok2,hus,acc,f,hacc,hrp,hf,hx⟩;refine zz12 ?_;refine bG 15 rfl (fun h15=>?_) (fun h15=>?_)
 ·
  have g15:st2.2.kind=1:=by omega
  refine zz21 ?_;refine bG 23 rfl (fun h23=>?_) (fun h23=>?_)
  ·
   have g23:cmdG s needs dp Tf Bf st2=some (.error (5,st2.2.at_)):=if_pos aH;refine zz2 ?_;refine aX rfl rfl (eL 5 st2.2.at_ _) .nil rfl gBM ?_ ?_
   ·
    rintro _ _ _ ⟨fb,h,rfl⟩ le1;cases h
    refine uAa ?_;refine zz5 ?_;refine bF (Hl.le_trans leL le1) ?_;simp only[RB,hx,gW,if_pos g15,g23,if_true,if_false,↓reduceIte];exact⟨fb,rfl,rfl⟩
   ·
    rintro _ _ _ ⟨_,h,_⟩;cases h
  ·
   have g23:cmdG s needs dp Tf Bf st2=cmdD s needs Tf Bf st2:=if_neg aH;obtain⟨es,ec,hes,hdisp⟩:=aQQ b s st2 dp nv _ needs _ Tf Bf (hpk.mono leL) hok2 ⟨hd.1,by omega⟩ hTa hBa (fun st3 K3 lx ho=>hT aH st3 K3 (Hl.le_trans leL lx) ho) (fun st3 K3 lx ho=>hB aH st3 K3 (Hl.le_trans leL lx) ho) (htabs.mono leL);refine zz3 ?_;refine t_draw (anc:=[0,1,3,7,0,16,48,112,240,496,1023,2047,4095,4095,8191,32767]) (ord:=[0,1,2,3,4,5,6,7,8,9,10,11,12,13,14,15]) [] [] mixed gBO (cX _) ?_;refine zz10 ?_;refine dl_ev rfl rfl (.none rfl) rfl rfl (aAH Tryz.underlying205 Tryz.underlying9 bBH rfl rfl (.known hes)) rfl ?_;refine zz11 ?_;refine aA gBN rfl ?_;refine zz2 ?_;refine d8 41 rfl (fun h41=>?_) (fun h41=>?_)
   ·
    rcases hdisp with ⟨hm,hdn⟩|⟨fn,caps,r,hm,hds,hsp⟩
    case inr=>exact absurd h41 (by rw[hm];simp)
    refine zz2 ?_;refine aX rfl rfl (iH b s st2 _ _) (.cons (.there .here) .nil) rfl gBM ?_ ?_
    ·
     rintro _ _ _ ⟨fb,h,rfl⟩ le1;cases h
     refine uAa ?_;refine zz5 ?_;refine bF (Hl.le_trans leL le1) ?_;simp only[RB,hx,gW,if_pos g15,g23,hdn,if_true,if_false,↓reduceIte];exact⟨fb,rfl,rfl⟩
    ·
     rintro _ _ _ ⟨_,h,_⟩;cases h
   ·
    rcases hdisp with ⟨hm,hdn⟩|⟨fn,caps,r,hm,hds,hsp⟩
    case inl=>exact absurd h41 (by rw[hm];simp)
    refine zz8 ?_;refine aX (congrArg some (by rw[hm];rfl)) rfl hsp (.cons (.there .here) .nil) rfl (fun _ _=>a7 _ _) ?_ ?_
    ·
     rintro _ _ _ hTr le1;obtain⟨e,p,hc2,fb,h,rfl⟩:=a8 hTr;cases h
     refine uAa ?_;refine zz4 ?_;refine bF (Hl.le_trans leL le1) ?_;simp only[RB,hx,gW,if_pos g15,g23,hds,hc2,if_true,if_false,↓reduceIte];exact⟨fb,rfl,rfl⟩
    rintro _ K3 _ hTr leK3;obtain⟨c2,hc2,⟨ty2,u2,rfl,hrep2⟩,rfl⟩:=bA hTr;clear hTr;have hm2:=z7 hTa hBa hok2 aH (by rw[hds,hc2]);refine ol_s (a6 (z0:=[.nilIface]) sV bBO rfl rfl rfl rfl (.cons rfl rfl rfl (.cons .nil) .nil)) rfl ?_;rintro _ K _ ⟨b50,rfl,rfl,rfl⟩ -;refine ol_s (dT (k:=(dY 224)) (ys:=[⟨.iface ty2 u2,rfl⟩]) aBT rfl rfl (.there (.there .here)) (fun w j=>dK Tryz.underlying135 (SeesSl.at (.blk (.own .here) rfl rfl) j)) gBV gBQ) rfl ?_;rintro v51 K _ ⟨rfl,rfl,ho51⟩ -;refine zz3 ?_;obtain⟨f0,rfl⟩:∃f0,f=f0+1:=⟨f - 1,by omega⟩;obtain⟨hr3,hr4⟩:=aOY hrep2 hacc (hrp.mono leK3);refine aO (.cons .here (.cons (.there .here) .nil)) ?_;refine oE _ c2.2 (us++[(⟨.iface ty2 u2,rfl⟩,u0)]) _ ⟨Hl.le_trans leL leK3,hm2.1,by simp;omega,acc.snocC c2.1,f0,hr4,hr3,by omega,?_⟩ aH (.cons 0 rfl (.cons 1 rfl (.cons 5 rfl .nil))) rfl (by rw[List.map_append];exact fun _ h=>h)
    simp only[RB,hx,gW,if_pos g15,g23,hds,hc2,if_true,if_false,↓reduceIte]
 ·
  have g15:¬st2.2.kind=1:=by omega
  refine zz12 ?_;refine uAh ?_;refine bJ rfl rfl leL ?_;simp only[RB,hx,gW,if_neg g15,if_true,if_false,↓reduceIte];exact⟨_,rfl,us,hrp,hacc,rfl⟩
theorem aM0(s:List UInt8)(needs:List (List UInt8))(Tf Bf:St→Res (Tree×St))(st:St):gW s (cmdG s needs 7 Tf Bf) (mu s st+1) .cnil st=Syn.block s needs 0 st:=by
 unfold gW Syn.block
 by_cases h:st.2.kind=1
 ·rw[if_pos h,if_pos h];rfl
 ·rw[if_neg h,if_neg h]
theorem aMZ(s:List UInt8)(needs:List (List UInt8))(dp:Int)(h:dp≤6)(Tf Bf:St→Res (Tree×St)):cmdG s needs dp Tf Bf=cmdD s needs Tf Bf:=by
 funext st;unfold cmdG;rw[if_neg aH]
theorem aJQ(b:Nat)(s:List UInt8)(nv n1:Value)(cb tb:Nat)(needs:List (List UInt8)):∀(n:Nat),n≤7→∀(K:Hl),PE s needs nv cb tb K→zO s b [nv,n1,.map (some cb),.map (some tb)] K (7 - n) (Syn.block s needs n):=by
 intro n;induction n with
 |zero=>
  intro _ K hp st K' le hok;have h:=zV b s st 7 nv n1 cb tb needs K' (Syn.test s needs 0) (Syn.block s needs 0) (hp.mono le) hok ⟨by decide,by decide⟩ (nH 0) (s7 0) (fun h=>absurd h (by decide)) (fun h=>absurd h (by decide)) _ (aM0 s needs _ _ st);exact h
 |succ n ih=>
  intro hn K hp st K' le hok;have e:((7:Int) - ((n+1:Nat):Int)+1)=7 - (n:Nat):=by omega
  have h:=zV b s st (7 - (n+1:Nat)) nv n1 cb tb needs K' (Syn.test s needs n) (Syn.block s needs n) (hp.mono le) hok ⟨by omega,by omega⟩ (nH n) (s7 n)
   (fun _=>by rw[e];exact aPZ b s nv n1 cb tb needs n aH K' (hp.mono le)) (fun _=>by rw[e];exact ih aH K' (hp.mono le)) _ (by rw[aMZ s needs _ aH])
  exact h
end Go.Proofs
end
section
attribute [local irreducible] Go.SL.T Go.SL.OL Go.SL.D Go.SL.DL Go.SL.Ev Go.SL.Ef Go.SL.EfS
namespace Go.Proofs
open Go Go.SL Go.Syn
theorem aKO(b2 b3:Nat)(K:Hl)(L:List Asn):SpD Tryz.prog 99 [ptr b2,ptr b3] K L .returning fun e u' K' L'=>u'=.returning∧(e=.returned (.tuple #[])∧K'=K∧L'=L):=by
 refine aFV (rv:=.nilIface) (u':=.returning) Tryz.func99 rfl Tryz.ntmps99 rfl rfl rfl rfl t7 fun F w=>?_
 refine zz9 ?_;exact⟨rfl,rfl,rfl⟩
theorem aKN(b2 b3 fb:Nat)(v1 v2:Value)(K:Hl):SpD Tryz.prog 99 [ptr b2,ptr b3] K [pt b3 (aU [v2] 79),pt b2 (aU [v1] 87)] (.panicking [{v:=.iface 118 (ptr fb),recovered:=false}])
  fun e u' K' L'=>u'=.panicking [{v:=.iface 118 (ptr fb),recovered:=true}]∧(e=.returned (.tuple #[])∧K'=K∧L'=[pt b3 (aU [.iface 118 (ptr fb)] 79),pt b2 (aU [.pointer none] 87)]):=by
 refine aFV (rv:=.iface 118 (ptr fb)) (u':=.panicking [{v:=.iface 118 (ptr fb),recovered:=true}]) Tryz.func99 rfl Tryz.ntmps99 rfl rfl rfl rfl t6 fun F w=>?_
 refine zz10 ?_;refine aA (fK Tryz.underlying118 (fun _ h=>by cases h) rfl) rfl ?_;refine zz11 ?_;refine aA gBN rfl ?_;refine zz7 ?_;refine aA (dG Tryz.underlying118 (fun _ h=>by cases h) rfl) rfl ?_;refine bR (bL ts87 rfl rfl cK bB .zero rfl) ?_;rintro _ K _ ⟨rfl,rfl⟩ -;refine uAq ?_;rintro _ K _ ⟨rfl,rfl⟩ -;refine zz2 ?_;exact⟨rfl,rfl,rfl⟩
structure ScriptAt (K:Hl) (b:Nat) (needs:List (List UInt8)) (t:Tree):Prop where
 at_:∃l nv bv ys fz,K b=some (aU l 208 fz)∧l[6]?=some nv∧l[7]?=some bv∧Ksl (bC 9) K nv needs∧Ksl (dY 224) K bv (ys.map Prod.fst)∧Rep K t ys∧isCL t=true
def aYF(s:List UInt8)(v:Value)(K:Hl):Prop:=
 (600 < s.length∧v=.tuple #[.pointer none,.iface 30 (i64 1)])∨
 (s.length≤600∧((∃b r,eE s=.ok r∧v=.tuple #[ptr b 6,.nilIface]∧ScriptAt K b r.1 r.2)∨(∃fb e p,eE s=.error (e,p)∧v=.tuple #[.pointer none,.iface 118 (ptr fb)]∧K fb=some (aU [i64 e,i64 p] 123))))
abbrev aJH(s:List UInt8):Ending→Hl→List Asn→Prop:=Ret fun v K' L'=>aYF s v K'∧L'=[]
theorem lO{n:Nat}{w:World}{F K0 K:Hl}{fr:Fr}{b2 b3 fb:Nat}{v1 v2:Value}{e p:Int}{s:List UInt8}(g2:fr.get 2=some (ptr b2))(g3:fr.get 3=some (ptr b3))(le:K0.le K)(hs:s.length≤600)(h:eE s=.error (e,p)):
  D ⟨Tryz.prog,n,[dfr 99 #[ptr b2,ptr b3]],w,F⟩ (.panic [{v:=.iface 118 (ptr fb),recovered:=false}]) fr K [pt fb (aU [i64 e,i64 p] 123),pt b3 (aU [v2] 79),pt b2 (aU [v1] 87)] (u5 Tryz.prog Tryz.f57 w F K0 (aJH s)):=by
 refine gO fun K1 le1 hfb=>?_
 refine aQX (.pan _) rfl ts87 ts79 g2 g3 (.cons .here (.cons .here .nil)) (aKN b2 b3 fb v1 v2 K1) rfl ?_;rintro _ _ _ ⟨rfl,rfl,rfl⟩;exact⟨⟨_,rfl⟩,fun le2=>⟨_,_,[],fun _ hh=>gA hh,⟨_,rfl,.inr ⟨hs,.inr ⟨fb,e,p,h,rfl,hfb⟩⟩,rfl⟩,Hl.le_trans le le1⟩⟩
theorem aDC{n:Nat}{w:World}{F K0 K:Hl}{fr:Fr}{b2 b3 b:Nat}{s:List UInt8}{r:List (List UInt8)×Tree}(g2:fr.get 2=some (ptr b2))(g3:fr.get 3=some (ptr b3))(le:K0.le K)(hs:s.length≤600)(h:eE s=.ok r)(hat:ScriptAt K b r.1 r.2):
  D ⟨Tryz.prog,n,[dfr 99 #[ptr b2,ptr b3]],w,F⟩ .ret fr K [pt b3 (aU [.nilIface] 79),pt b2 (aU [ptr b 6] 87)] (u5 Tryz.prog Tryz.f57 w F K0 (aJH s)):=by
 refine aQX .ret rfl ts87 ts79 g2 g3 (.cons .here (.cons .here .nil)) (aKO b2 b3 K _) rfl ?_;rintro _ _ _ ⟨rfl,rfl,rfl⟩;exact⟨⟨_,rfl⟩,fun le2=>⟨_,_,[],fun _ hh=>gA hh,⟨_,rfl,.inr ⟨hs,.inl ⟨b,r,h,rfl,hat⟩⟩,rfl⟩,le⟩⟩
theorem yL(b:Nat)(s:List UInt8)(nv n1:Value)(cb tb:Nat)(needs:List (List UInt8))(K:Hl)(hp:PE s needs nv cb tb K)(st:St)(hok:Ok s st):Sp Tryz.prog 105 [ptr b,i64 0] K [psb b s st [nv,n1,.map (some cb),.map (some tb)]] (RB s b [nv,n1,.map (some cb),.map (some tb)] (Syn.block s needs 7 st)):=
 aJQ b s nv n1 cb tb needs 7 (Nat.le_refl _) K hp st K (Hl.le_refl _) hok
theorem aKQ(s:List UInt8)(K:Hl)(hg:Glob K):Sp Tryz.prog 57 [str s] K [] (aJH s):=by
  refine aBQ Tryz.func57 rfl Tryz.ntmps57 rfl rfl fun F w=>?_
  refine zz3 ?_;rintro _ K _ ⟨b2,rfl,rfl,rfl⟩ -;refine zz1 ?_;rintro _ K _ ⟨b3,rfl,rfl,rfl⟩ -;refine zz10 ?_;refine bG 9 rfl (fun h9=>?_) (fun h9=>?_)
  ·
    refine zz2 ?_;refine aA (dG Tryz.underlying30 (fun _ h=>by cases h) rfl) rfl ?_;refine bR (bL ts87 rfl rfl cK bB .zero rfl) ?_;rintro _ K _ ⟨rfl,rfl⟩ -;refine uAq ?_;rintro _ K _ ⟨rfl,rfl⟩ -;refine zz4 ?_;refine aU8 rfl ts87 ts79 rfl rfl (.cons (.there .here) (.cons .here .nil)) (Hl.le_refl _) ?_;exact⟨_,rfl,.inl ⟨by omega,rfl⟩,rfl⟩
  ·
    have hs:s.length≤600:=by omega
    refine zz5 ?_;refine aHX rfl ?_;refine zz5 ?_;refine aA (cR bA2 aZN (.cons rfl rfl rfl (.cons .nil) .nil)) rfl ?_;refine aA (cR bA3 aZO (.cons rfl rfl rfl (.cons (.cons (.cons (.cons (.cons (.cons .nil)))))) .nil)) rfl ?_;refine zz1 ?_;rintro _ K _ ⟨b15,rfl,rfl,rfl⟩ -;refine zz6 ?_;refine aY rfl rfl (aIX b15 s (0,⟨0,[],0,0⟩) _ _ _) (.cons .here .nil) rfl ?_;rintro _ K1 _ ⟨rfl,cb,tb,htab,rfl⟩ leT;refine zz7 ?_;refine aX rfl rfl (dJ b15 208 s 0 _ _ _ _ _ hs (Nat.zero_le _) _ (hg.mono leT)) (.cons .here .nil) rfl (fun _ _=>a7 _ _) ?_ ?_
    ·
      rintro _ _ _ hTr le1;obtain⟨e,p,hr,fb,h,rfl⟩:=a8 hTr;cases h
      refine uAo ?_;refine aK ?_;exact lO rfl rfl (Hl.le_trans leT le1) hs (by simp only[eE,hr,if_true,if_false,↓reduceIte])
    rintro _ K _ hTr -;obtain⟨r,hr,rfl,rfl,rfl⟩:=bA hTr;clear hTr;have hro:=d9 (Nat.zero_le _) hr;refine zz4 ?_;refine wP (fun(st2:St) (ns:List (List UInt8)) (sv:Value)=>Ok s st2∧ns.length+mu s st2≤1300∧∃f,mu s st2≤f∧eE s=f9 s (reqF s (f+1) ns st2)) (fun _ _ _=>[(2,ptr b2),(3,ptr b3),(4,ptr b15)]) (fun _ _ _=>K) (fun st2 ns sv=>[sl false (bC 9) sv ns,psb b15 s st2 [sv,.slice none 0 0,.map (some cb),.map (some tb)],pt b3 (aU [.nilIface] 79),pt b2 (aU [.pointer none] 87)]) (fun st2 _ _=>mu s st2) r [] (.slice none 0 0) ⟨hro,by have:=wG s r;simp;omega,mu s r,Nat.le_refl _,by simp only[eE,hr]⟩ (.cons 2 rfl (.cons 3 rfl (.cons 4 rfl .nil))) rfl (eT (bC 9)) ?_;intro st2 ns sv ⟨hok2,hns,f,hf,hx⟩;refine zz11 ?_;refine cF 29 rfl (fun g29=>?_) (fun g29=>?_)
    ·
      have g29:st2.2.kind=1:=by omega
      refine zz17 ?_;refine bG 37 rfl (fun h37=>?_) (fun h37=>?_)
      ·
        have gc:st2.2.kind=1∧st2.2.s=fB:=⟨by omega,h37⟩;refine zz8 ?_;refine aX rfl rfl (dJ b15 208 s st2.1 _ _ _ _ _ hs hok2.1 _ (hg.mono leT)) (.cons (.there .here) .nil) rfl (fun _ _=>a7 _ _) ?_ ?_
        ·
          rintro _ _ _ hTr le1;obtain⟨e,p,hr2,fb,h,rfl⟩:=a8 hTr;cases h
          refine uAm ?_;refine zz5 ?_;exact lO rfl rfl (Hl.le_trans leT le1) hs (by simp only[hx,reqF,f9,if_pos gc,hr2,if_true,if_false,↓reduceIte])
        rintro _ K _ hTr -;obtain⟨r2,hr2,rfl,rfl,rfl⟩:=bA hTr;clear hTr;have hm2:=fC hok2.1 aH hr2;have hro2:=d9 hok2.1 hr2;refine zz6 ?_;refine ol_s (a6 (z0:=[(str []),(str []),(str []),(str [])]) bS tz9 rfl rfl rfl rfl (.cons rfl rfl rfl (.cons .nil) (.cons rfl rfl rfl (.skip (.cons .nil)) (.cons rfl rfl rfl (.skip (.skip (.cons .nil))) (.cons rfl rfl rfl (.skip (.skip (.skip (.cons .nil)))) .nil))))) rfl ?_;rintro _ K _ ⟨b43,rfl,rfl,rfl⟩ -;refine fW fun Ka leA hKa=>?_
        refine aY rfl rfl (mN 6 _ _ rfl) .nil rfl ?_;rintro _ Kb _ ⟨c1,c2,rfl,hc1,hc2,rfl⟩ leB;refine aX rfl rfl (q7 b15 s r2 _ 192 #[ptr c1,ptr c2] (Syn.oneOf 6 oX) _ hs hro2 (hg.mono (Hl.le_trans leT (Hl.le_trans leA leB))) (fun x hx=>lN x 6 oX _ c1 c2 _ hc1 hc2 (.inr ⟨b43,0,4,[str e8,str e9,str gS,str dN],(0,0),rfl,⟨_,leB _ _ hKa⟩,rfl⟩) (by simp[oX]))) (.cons .here .nil) rfl (fun _ _=>a7 _ _) ?_ ?_
        ·
          rintro _ _ _ hTr le1;obtain⟨e,p,hl,fb,h,rfl⟩:=a8 hTr;cases h
          refine uAm ?_;refine zz6 ?_;exact lO rfl rfl (Hl.le_trans leT (Hl.le_trans leA (Hl.le_trans leB le1))) hs (by simp only[hx,reqF,f9,if_pos gc,hr2,hl,if_true,if_false,↓reduceIte])
        rintro v45 K _ hTr -;obtain⟨l,hl,rfl,rfl⟩:=bA hTr;clear hTr;have hlo:=mZ hro2 hl;have hll:=sC hro2 hl;refine uAf ?_;refine zz4 ?_;refine wP (fun(i:Nat) (ms:List (List UInt8)) (sw:Value)=>i≤l.1.length∧ms=eX ns (l.1.take i)∧ms.length≤ns.length+i) (fun i _ _=>[(2,ptr b2),(3,ptr b3),(4,ptr b15),(45,v45),(46,i64 l.1.length),(47,i64 i)]) (fun _ _ _=>_) (fun i ms sw=>[sl false (bC 9) v45 l.1,psb b15 s l.2 [sw,.slice none 0 0,.map (some cb),.map (some tb)],sl false (bC 9) sw ms,pt b3 (aU [.nilIface] 79),pt b2 (aU [.pointer none] 87)]) (fun i _ _=>l.1.length - i) 0 ns sv ⟨Nat.zero_le _,rfl,Nat.le_refl _⟩ (.cons 2 rfl (.cons 3 rfl (.cons 4 rfl (.cons 45 rfl (.cons 46 rfl (.cons 47 rfl .nil)))))) rfl (fun _ h=>h) ?_;intro i ms sw ⟨hi0,hms,hml⟩;refine zz6 ?_;refine bG 48 rfl (fun h48=>?_) (fun h48=>?_)
        ·
          have hilt:i < l.1.length:=by omega
          obtain⟨e,he⟩:∃e,l.1[i]?=some e:=⟨l.1[i]'hilt,List.getElem?_eq_getElem hilt⟩;refine zz6 ?_;refine aA (bQ (k:=(bC 9)) bS rfl aN rfl rfl gBR) rfl ?_;refine uAg ?_;refine zz9 ?_;refine aY rfl rfl (aHE b15 e ms _ 208 sw _ [psb b15 s l.2 [sw,.slice none 0 0,.map (some cb),.map (some tb)],sl false (bC 9) sw ms] (.own .here) rfl (.own (.there .here)) (by have:=wG s r2;omega)) (.cons (.there .here) (.cons (.there .here) .nil)) rfl ?_;rintro _ K _ ⟨rfl,rfl,rfl⟩ -;refine aA gBN rfl ?_;refine zz2 ?_;refine d8 56 rfl (fun h56=>?_) (fun h56=>?_)
          ·
            refine zz8 ?_;refine ol_s (a6 (z0:=[(str [])]) bS tz9 rfl rfl rfl rfl (.cons rfl rfl rfl (.cons .nil) .nil)) rfl ?_;rintro _ K _ ⟨b64,rfl,rfl,rfl⟩ -;refine ol_s (dT (k:=(bC 9)) (ys:=[e]) fA rfl rfl (.there (.there .here)) (fun w j=>dK Tryz.underlying39 (SeesSl.at (.blk (.own .here) rfl rfl) j)) gBV gBQ) rfl ?_;rintro v65 K _ ⟨rfl,rfl,ho65⟩ -;refine zz3 ?_;refine bR (bL ts39 rfl rfl cK bB (.succ (.succ (.succ (.succ (.succ (.succ .zero)))))) rfl) ?_;rintro _ K _ ⟨rfl,rfl⟩ -;refine zz7 ?_
            first
              | (refine aO (.cons (.there (.there (.there .here))) (.cons (.there (.there .here)) (.cons .here (.cons (.there .here) (.cons (.there .here) .nil))))) ?_
                 refine jF (i+1) (ms++[e]) _ ⟨by omega,by rw[mW he,←hms];unfold addN;rw[if_neg (by simpa using h56)],by simp;omega⟩ aH (.cons 2 rfl (.cons 3 rfl (.cons 4 rfl (.cons 45 rfl (.cons 46 rfl (.cons 47 rfl .nil)))))) rfl bO)
              | (refine aO (.cons (.there (.there .here)) (.cons .here (.cons .here (.cons .here (.cons .here .nil))))) ?_
                 refine jF (i+1) ms _ ⟨by omega,by rw[mW he,←hms];unfold addN;rw[if_pos (by simpa using h56)],by omega⟩ aH (.cons 2 rfl (.cons 3 rfl (.cons 4 rfl (.cons 45 rfl (.cons 46 rfl (.cons 47 rfl .nil)))))) rfl bO)
          ·
            refine zz7 ?_
            first
              | (refine aO (.cons (.there (.there (.there .here))) (.cons (.there (.there .here)) (.cons .here (.cons (.there .here) (.cons (.there .here) .nil))))) ?_
                 refine jF (i+1) (ms++[e]) _ ⟨by omega,by rw[mW he,←hms];unfold addN;rw[if_neg (by simpa using h56)],by simp;omega⟩ aH (.cons 2 rfl (.cons 3 rfl (.cons 4 rfl (.cons 45 rfl (.cons 46 rfl (.cons 47 rfl .nil)))))) rfl bO)
              | (refine aO (.cons (.there (.there .here)) (.cons .here (.cons .here (.cons .here (.cons .here .nil))))) ?_
                 refine jF (i+1) ms _ ⟨by omega,by rw[mW he,←hms];unfold addN;rw[if_pos (by simpa using h56)],by omega⟩ aH (.cons 2 rfl (.cons 3 rfl (.cons 4 rfl (.cons 45 rfl (.cons 46 rfl (.cons 47 rfl .nil)))))) rfl bO)
        ·
          have hms2:ms=eX ns l.1:=(by rw[hms,aEG aH]);subst hms2;refine zz7 ?_;refine aX rfl rfl (j5 b15 s l.2 _ [59] _ hs hlo.1.1 (hg.mono (Hl.le_trans leT (Hl.le_trans leA leB)))) (.cons (.there .here) .nil) rfl (fun _ _=>a7 _ _) ?_ ?_
          ·
            rintro _ _ _ hTr le1;obtain⟨e,p,hq4,fb,h,rfl⟩:=a8 hTr;cases h
            refine aO (.cons .here (.cons (.there (.there .here)) (.cons (.there (.there .here)) .nil))) ?_;refine zz4 ?_;exact lO rfl rfl (Hl.le_trans leT (Hl.le_trans leA (Hl.le_trans leB le1))) hs (by simp only[hx,reqF,f9,if_pos gc,hr2,hl,hq4,if_true,if_false,↓reduceIte])
          rintro _ K _ hTr -;obtain⟨q4,hq4,rfl,rfl,rfl⟩:=bA hTr;clear hTr;refine zz2 ?_;obtain⟨f0,rfl⟩:∃f0,f=f0+1:=⟨f - 1,by omega⟩;have hm4:=fR hlo.1 hq4;refine aO (.cons (.there (.there .here)) (.cons .here (.cons (.there .here) (.cons (.there .here) .nil)))) ?_;refine lV (Hl.le_trans leA leB) ?_;refine jF q4 (eX ns l.1) _ ⟨hm4.1,by omega,f0,by omega,?_⟩ aH (.cons 2 rfl (.cons 3 rfl (.cons 4 rfl .nil))) rfl bO
          simp only[hx,reqF,f9,if_pos gc,hr2,hl,hq4,if_true,if_false,↓reduceIte]
      ·
        have gc:¬(st2.2.kind=1∧st2.2.s=fB):=(fun h=>h37 h.2);refine zz7 ?_;refine fL fun K5 leN hN=>?_
        have leN2:=Hl.le_trans leT leN;refine zz2 ?_;refine aX rfl rfl (yL b15 s sv _ cb tb ns _ ⟨⟨hs,hg.mono leN2,hN,by omega⟩,htab.mono leN⟩ st2 hok2) (.cons .here .nil) rfl (fun _ _=>a7 _ _) ?_ ?_
        ·
          rintro _ _ _ hTr le1;obtain⟨e,p,hbb,fb,h,rfl⟩:=a8 hTr;cases h
          refine uAo ?_;refine aK ?_;exact lO rfl rfl (Hl.le_trans leN2 le1) hs (by simp only[hx,reqF,f9,if_neg gc,hbb,if_true,if_false,↓reduceIte])
        rintro _ K6 _ hTr leK6;obtain⟨bb,hbb,⟨ys,hrep,hcl,rfl⟩⟩:=bA hTr;clear hTr;refine fL fun K7 leS hS=>?_
        obtain⟨sa,sn,sc,rfl⟩:=hS.isSlice;have leS2:=Hl.le_trans leN2 (Hl.le_trans leK6 leS);refine zz3 ?_;refine bR (bL aBX rfl rfl cK bB (.succ (.succ (.succ (.succ (.succ (.succ (.succ .zero))))))) rfl) ?_;rintro _ K _ ⟨rfl,rfl⟩ -;refine zz14 ?_;refine bG 84 rfl (fun h84=>?_) (fun h84=>?_)
        ·
          have g84:¬bb.2.2.kind=0:=by omega
          refine zz2 ?_;refine aX rfl rfl (iH b15 s bb.2 _ _) (.cons .here .nil) rfl gBM ?_ ?_
          ·
            rintro _ _ _ ⟨fb,h,rfl⟩ le1;cases h
            refine uAo ?_;refine aK ?_;exact lO rfl rfl (Hl.le_trans leS2 le1) hs gCZ
          ·
            rintro _ _ _ ⟨_,h,_⟩;cases h
        ·
          have g84:bb.2.2.kind=0:=by omega
          refine zz7 ?_;refine bR (bL ts87 rfl rfl cK bB .zero rfl) ?_;rintro _ K _ ⟨rfl,rfl⟩ -;refine uAq ?_;rintro _ K _ ⟨rfl,rfl⟩ -;refine zz3 ?_;refine gO fun K8 leP hP=>?_
          refine aDC (r:=(ns,bb.1)) rfl rfl (Hl.le_trans leS2 leP) hs ?_ ⟨_,_,_,ys,_,hP,rfl,rfl,hN.mono (Hl.le_trans leK6 (Hl.le_trans leS leP)),hS.mono leP,hrep.mono (Hl.le_trans leS leP),hcl⟩
          simp only[hx,reqF,f9,if_neg gc,hbb,if_pos g84,if_true,if_false,↓reduceIte]
    ·
      have gc:¬(st2.2.kind=1∧st2.2.s=fB):=(fun h=>by omega);refine zz18 ?_;refine fL fun K5 leN hN=>?_
      have leN2:=Hl.le_trans leT leN;refine zz2 ?_;refine aX rfl rfl (yL b15 s sv _ cb tb ns _ ⟨⟨hs,hg.mono leN2,hN,by omega⟩,htab.mono leN⟩ st2 hok2) (.cons .here .nil) rfl (fun _ _=>a7 _ _) ?_ ?_
      ·
        rintro _ _ _ hTr le1;obtain⟨e,p,hbb,fb,h,rfl⟩:=a8 hTr;cases h
        refine uAo ?_;refine aK ?_;exact lO rfl rfl (Hl.le_trans leN2 le1) hs (by simp only[hx,reqF,f9,if_neg gc,hbb,if_true,if_false,↓reduceIte])
      rintro _ K6 _ hTr leK6;obtain⟨bb,hbb,⟨ys,hrep,hcl,rfl⟩⟩:=bA hTr;clear hTr;refine fL fun K7 leS hS=>?_
      obtain⟨sa,sn,sc,rfl⟩:=hS.isSlice;have leS2:=Hl.le_trans leN2 (Hl.le_trans leK6 leS);refine zz3 ?_;refine bR (bL aBX rfl rfl cK bB (.succ (.succ (.succ (.succ (.succ (.succ (.succ .zero))))))) rfl) ?_;rintro _ K _ ⟨rfl,rfl⟩ -;refine zz14 ?_;refine bG 84 rfl (fun h84=>?_) (fun h84=>?_)
      ·
        have g84:¬bb.2.2.kind=0:=by omega
        refine zz2 ?_;refine aX rfl rfl (iH b15 s bb.2 _ _) (.cons .here .nil) rfl gBM ?_ ?_
        ·
          rintro _ _ _ ⟨fb,h,rfl⟩ le1;cases h
          refine uAo ?_;refine aK ?_;exact lO rfl rfl (Hl.le_trans leS2 le1) hs gCZ
        ·
          rintro _ _ _ ⟨_,h,_⟩;cases h
      ·
        have g84:bb.2.2.kind=0:=by omega
        refine zz7 ?_;refine bR (bL ts87 rfl rfl cK bB .zero rfl) ?_;rintro _ K _ ⟨rfl,rfl⟩ -;refine uAq ?_;rintro _ K _ ⟨rfl,rfl⟩ -;refine zz3 ?_;refine gO fun K8 leP hP=>?_
        refine aDC (r:=(ns,bb.1)) rfl rfl (Hl.le_trans leS2 leP) hs ?_ ⟨_,_,_,ys,_,hP,rfl,rfl,hN.mono (Hl.le_trans leK6 (Hl.le_trans leS leP)),hS.mono leP,hrep.mono (Hl.le_trans leS leP),hcl⟩
        simp only[hx,reqF,f9,if_neg gc,hbb,if_pos g84,if_true,if_false,↓reduceIte]
end Go.Proofs
end
section
attribute [local irreducible] Go.SL.T Go.SL.OL Go.SL.D Go.SL.DL Go.SL.Ev Go.SL.Ef Go.SL.EfS
namespace Go.Proofs
open Go Go.SL Go.Syn Go.Cmp
theorem kD(b yb:Nat)(vs ys:List InsV)(cells:List Value)(K:Hl)(hc:cells=gR.cs ys)(hl:vs.length+ys.length≤1000000):
  Sp Tryz.prog 193 [ptr b,.slice (some ⟨yb,0,none⟩) ys.length ys.length] K [cdr b vs,pt yb (aU cells 41)]
   (Ret fun v K' L'=>v=i64 (((vs++ys).length:Int) - 1)∧K'=K∧L'=[cdr b (vs++ys)]):=by
 have hys:(cells.drop 0).take (ys.length*7)=gR.cs ys:=by
  subst hc;rw[List.drop_zero,List.take_of_length_le (by rw[gR.cs_length];exact Nat.le_refl _)]
 have hla:(vs++ys).length=vs.length+ys.length:=List.length_append;refine aZ Tryz.func193 rfl Tryz.ntmps193 rfl rfl fun F w=>?_
 refine t_ex fun cv=>?_
 refine zz13 ?_;refine ol_s (dT (k:=gR) (ys:=ys) aF7 rfl rfl bB (fun w j=>dK Tryz.underlying42 (SeesSl.at (k:=gR) (.blk (.own (.there (.there .here))) rfl hys) j)) gBQ gBQ) rfl ?_;rintro v11 K _ ⟨rfl,rfl,ho11⟩ -;refine zz2 ?_;refine bR (bL ts42 rfl rfl cK bB .zero rfl) ?_;rintro _ K _ ⟨rfl,rfl⟩ -;refine zz8 ?_;refine aA (bX (k:=gR) rfl Tryz.underlying42 rfl aN) rfl ?_;refine zz5 ?_;refine uAl ?_;refine eD aFR ?_;refine zz1 ?_;exact⟨_,rfl,rfl,rfl,rfl⟩
theorem pU(b:Nat)(pv:Value)(vs:List InsV)(ps:List Nat)(K:Hl)(hl:vs.length≤1000000)(hpl:ps.length≤1000000)(hp:∀p∈ps,p < vs.length):
  Sp Tryz.prog 271 [ptr b,pv] K [cdr b vs,sl false (jT 3) pv ps] (Ret fun v K' L'=>v=.tuple #[]∧K'=K∧L'=[cdr b (vY vs ps)]):=by
 refine aZ Tryz.func271 rfl Tryz.ntmps271 rfl rfl fun F w=>?_
 refine t_ex fun cv=>?_
 refine zz3 ?_;refine aA (bX (k:=(jT 3)) rfl Tryz.underlying55 rfl aN) rfl ?_;refine zz4 ?_;refine d6 (fun(i:Nat)=>i≤ps.length) (fun i=>[(0,ptr b),(6,pv),(7,i64 ps.length),(8,i64 i)]) (fun _=>_) (fun i=>[sl false gR cv ((ps.take i).foldl (fun o k=>nP o k ((vs.length:Int) - 1 - k)) vs),pt b (aU [cv] 217),sl false (jT 3) pv ps]) (fun i=>ps.length - i) 0 (Nat.zero_le _) (.cons 0 rfl (.cons 6 rfl (.cons 7 rfl (.cons 8 rfl .nil)))) rfl (fun _ h=>gA h) ?_;intro i hi0;refine zz6 ?_;refine bG 9 rfl (fun h9=>?_) (fun h9=>?_)
 ·
  have hilt:i < ps.length:=by omega
  obtain⟨p,hpi⟩:∃p,ps[i]?=some p:=⟨ps[i]'hilt,List.getElem?_eq_getElem hilt⟩;have hpv:p < vs.length:=hp p (List.mem_of_getElem? hpi);obtain⟨xs,hxs⟩:∃xs,xs=(ps.take i).foldl (fun o k=>nP o k ((vs.length:Int) - 1 - k)) vs:=⟨_,rfl⟩;rw[←hxs];have hxl:xs.length=vs.length:=(by rw[hxs,vV]);obtain⟨x,hx⟩:∃x,xs[p]?=some x:=⟨xs[p]'(by omega),List.getElem?_eq_getElem aH⟩;refine zz6 ?_;refine aA (bQ (k:=(jT 3)) qJ rfl aN rfl rfl gBR) rfl ?_;refine aA (cV (o:=0) (k:=(jT 3)) ts3 rfl aN bV rfl) rfl ?_;refine zz3 ?_;refine aZJ (by intro h;rw[h]at hx;simp at hx) fun bb cap junk fz hcv h2 h3 h4=>?_
  subst hcv;have hcs:((gR.cs xs++junk).drop 0).take (xs.length*gR.sz)=gR.cs xs:=(by rw[List.drop_zero,←gR.cs_length,List.take_left]);have hlen:(gR.cs xs++junk).length=cap*7:=(by rw[List.length_append,gR.cs_length,h3];show xs.length*7+(cap - xs.length)*7=_;omega);refine t_draw (anc:=[0,1,3,7,0,0,32,96,224,480,992,0,4064,8191,16383,32767]) (ord:=[0,1,2,3,4,5,6,7,8,9,10,11,12,13,14,15]) [15] [15] mixed gBO (cX _) ?_;refine zz9 ?_;refine dl_ev rfl rfl (.none rfl) rfl rfl (bX (k:=gR) rfl Tryz.underlying42 rfl (.blk (.own .here) rfl hcs)) rfl ?_;refine zz3 ?_;refine dl_ev rfl rfl (.none rfl) rfl rfl (aAF (k:=gR) (j:=p) (m:=0+p*7) rfl iX rfl (.blk (.own .here) rfl hcs) rfl rfl aH) rfl ?_;refine dl_ev rfl rfl (.none rfl) rfl rfl (aD (o:=0+p*7) (o':=0+p*7+1) iI rfl rfl) rfl ?_;refine vL rfl rfl (.none rfl) rfl (bL ts3 rfl rfl rfl .here (xU (by rw[hlen];omega)) (h4.at (by show 0+p*7+1 < cap*7;omega))) ?_;rintro _ K _ ⟨rfl,rfl⟩ -;refine zz7 ?_;have e3:((gR.cs xs++junk).set (0+p*7+1) (i64 (xs.length - 1 - p)))=gR.cs (xs.set p {x with n:=xs.length - 1 - p})++junk:=(by rw[show 0+p*7+1=p*gR.sz+1 from by show _=p*7+1;omega];exact cs_set gR (by decide) rfl hx);have e4:(ps.take (i+1)).foldl (fun o k=>nP o k ((vs.length:Int) - 1 - k)) vs=xs.set p {x with n:=xs.length - 1 - p}:=(by rw[aKI hpi,←hxs,aPD hx,hxl]);have e5:(xs.set p {x with n:=xs.length - 1 - p}).length=xs.length:=List.length_set;refine eD (fun h hh=>aTN (k:=gR) (z:=false) (xs:=xs.set p {x with n:=xs.length - 1 - p}) (fun h=>by cases h) (by rw[e5];exact h2) (by rw[e5];exact h3) h4 e3 hh) ?_;refine cG (i+1) aH aH (.cons 0 rfl (.cons 6 rfl (.cons 7 rfl (.cons 8 rfl .nil)))) rfl ?_;rw[e4,e5];exact fun _ h=>h
 ·
  have hfin:(ps.take i).foldl (fun o k=>nP o k ((vs.length:Int) - 1 - k)) vs=vY vs ps:=(by rw[List.take_of_length_le aH];rfl);refine zz4 ?_;rw[hfin];refine uAl ?_;refine eD aFR ?_;refine zz1 ?_;exact⟨_,rfl,rfl,rfl,rfl⟩
end Go.Proofs
end
