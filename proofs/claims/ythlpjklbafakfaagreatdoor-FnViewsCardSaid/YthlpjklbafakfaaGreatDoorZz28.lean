/- Part of the proof: a machine over plain data, its proof, the functions of the program run on symbols, what they answer. Condition: none. -/
import Derived.Shelf.Small.Strs
import Derived.Shelf.Strconv.Itoa0
import Derived.Shelf.Strconv.Itoa1
import Derived.Shelf.LaysM
import Derived.Shelf.Strconv.Itoa2
import Derived.Shelf.Strconv.Itoa3
import Derived.Shelf.Strings.Search1
import Derived.Test.YthlpjklbafakfaaGreatDoorProg
set_option linter.unusedVariables false
set_option linter.unusedSimpArgs false
open Option renaming some->Z
namespace Go.Proofs
section
open Go.Shelf
def Tryz.Lx:Go.Shelf.Ren:=⟨λ|137=>240|217=>251|266=>260|n=>n,λ|9=>9|5=>5|3=>3|n=>n,λ|n=>n⟩
theorem Tryz.aab:Go.Proofs.Lays.n137 Tryz.prog Tryz.Lx:={
 mixed:=by kernel_rfl
 f137:=Tryz.func240.trans (congrArg Z (by kernel_rfl))
 f217:=Tryz.func251.trans (congrArg Z (by kernel_rfl))
 f266:=Tryz.func260.trans (congrArg Z (by kernel_rfl))
 t3:=Tryz.underlying3
 a3:=Tryz.isAgg3
 z3:=Tryz.sizeOf3
 v3:=Tryz.zeroValue3
 t5:=Tryz.underlying5
 a5:=Tryz.isAgg5
 z5:=Tryz.sizeOf5
 v5:=Tryz.zeroValue5
 t9:=Tryz.underlying9
 a9:=Tryz.isAgg9
 z9:=Tryz.sizeOf9
 v9:=Tryz.zeroValue9 }
open Go.RowKit in
theorem Tryz.strings_IndexByte(s:ByteArray)(c:Int)(w:World) :
  Calls Tryz.prog 240 #[.string s,.int .u8 c] w λe a=>e=.returned (.int .i64 (Lib.indexByte s.data.toList c.toNat.toUInt8))/\a=w:=Any.strings_IndexByte Tryz.aab s c w
def Tryz.I5:Go.Shelf.Ren:=⟨λ|171=>215|243=>229|246=>239|283=>247|284=>248|285=>249|286=>250|129=>256|317=>255|318=>257|319=>258|320=>259|337=>263|338=>264|n=>n,λ|3=>3|9=>9|2=>2|4=>4|171=>252|0=>0|53=>253|37=>22|5=>5|173=>256|212=>261|51=>262|20=>20|213=>263|46=>156|232=>269|233=>270|n=>n,λ|17=>0|18=>2|19=>3|n=>n⟩
theorem Tryz.Wg:Go.Proofs.LaysM.n171 Tryz.prog Tryz.I5:={
 mixed:=by kernel_rfl
 f129:=Tryz.func256.trans (congrArg Z (by kernel_rfl))
 f171:=Tryz.func215.trans (congrArg Z (by kernel_rfl))
 f243:=Tryz.func229.trans (congrArg Z (by kernel_rfl))
 f246:=Tryz.func239.trans (congrArg Z (by kernel_rfl))
 f283:=Tryz.func247.trans (congrArg Z (by kernel_rfl))
 f284:=Tryz.func248.trans (congrArg Z (by kernel_rfl))
 f285:=Tryz.func249.trans (congrArg Z (by kernel_rfl))
 f286:=Tryz.func250.trans (congrArg Z (by kernel_rfl))
 f317:=Tryz.func255.trans (congrArg Z (by kernel_rfl))
 f318:=Tryz.func257.trans (congrArg Z (by kernel_rfl))
 f319:=Tryz.func258.trans (congrArg Z (by kernel_rfl))
 f320:=Tryz.func259.trans (congrArg Z (by kernel_rfl))
 f337:=Tryz.func263.trans (congrArg Z (by kernel_rfl))
 f338:=Tryz.func264.trans (congrArg Z (by kernel_rfl))
 t0:=Tryz.underlying0
 a0:=Tryz.isAgg0
 z0:=Tryz.sizeOf0
 v0:=Tryz.zeroValue0
 t2:=Tryz.underlying2
 a2:=Tryz.isAgg2
 z2:=Tryz.sizeOf2
 v2:=Tryz.zeroValue2
 t3:=Tryz.underlying3
 a3:=Tryz.isAgg3
 z3:=Tryz.sizeOf3
 v3:=Tryz.zeroValue3
 t4:=Tryz.underlying4
 a4:=Tryz.isAgg4
 z4:=Tryz.sizeOf4
 v4:=Tryz.zeroValue4
 t5:=Tryz.underlying5
 a5:=Tryz.isAgg5
 z5:=Tryz.sizeOf5
 v5:=Tryz.zeroValue5
 t9:=Tryz.underlying9
 a9:=Tryz.isAgg9
 z9:=Tryz.sizeOf9
 v9:=Tryz.zeroValue9
 t20:=Tryz.underlying20
 a20:=Tryz.isAgg20
 z20:=Tryz.sizeOf20
 v20:=Tryz.zeroValue20
 t37:=Tryz.underlying22
 a37:=Tryz.isAgg22
 z37:=Tryz.sizeOf22
 v37:=Tryz.zeroValue22
 t46:=Tryz.underlying156
 a46:=Tryz.isAgg156
 z46:=Tryz.sizeOf156
 v46:=Tryz.zeroValue156
 t51:=Tryz.underlying262
 a51:=Tryz.isAgg262
 z51:=Tryz.sizeOf262
 v51:=Tryz.zeroValue262
 t53:=Tryz.underlying253
 a53:=Tryz.isAgg253
 z53:=Tryz.sizeOf253
 v53:=Tryz.zeroValue253
 t171:=Tryz.underlying252
 a171:=Tryz.isAgg252
 z171:=Tryz.sizeOf252
 v171:=Tryz.zeroValue252
 t173:=Tryz.underlying256
 a173:=Tryz.isAgg256
 z173:=Tryz.sizeOf256
 v173:=Tryz.zeroValue256
 t212:=Tryz.underlying261
 a212:=Tryz.isAgg261
 z212:=Tryz.sizeOf261
 v212:=Tryz.zeroValue261
 t213:=Tryz.underlying263
 a213:=Tryz.isAgg263
 z213:=Tryz.sizeOf263
 t232:=Tryz.underlying269
 a232:=Tryz.isAgg269
 z232:=Tryz.sizeOf269
 v232:=Tryz.zeroValue269
 t233:=Tryz.underlying270
 a233:=Tryz.isAgg270
 z233:=Tryz.sizeOf270
 v233:=Tryz.zeroValue270
 g17:=by kernel_rfl
 g18:=by kernel_rfl
 g19:=by kernel_rfl
 i0:=by kernel_rfl
 i2:=by kernel_rfl
 i3:=by kernel_rfl
 i4:=by kernel_rfl
 i5:=by kernel_rfl
 i9:=by kernel_rfl
 i20:=by kernel_rfl
 i37:=by kernel_rfl
 i46:=by kernel_rfl
 i51:=by kernel_rfl
 i53:=by kernel_rfl
 i171:=by kernel_rfl
 i173:=by kernel_rfl
 i212:=by kernel_rfl
 i232:=by kernel_rfl
 i233:=by kernel_rfl
 m17:=by kernel_rfl
 m18:=by kernel_rfl
 m19:=by kernel_rfl }
open Go.RowKit Go.Sort Go.Lib in
theorem Tryz.strconv_Itoa(n:Int)(d:-9223372036854775808<=n)(c:n<=9223372036854775807)(w:World)(a:Lib.TabIs Tryz.prog w "internal/strconv.uint64pow10" .u64 Lib.pow10Tab) :
  Calls Tryz.prog 215 #[.int .i64 n] w λe b=>e=.returned (.string ⟨(Lib.itoa n).toArray⟩)/\∃k os,b=grow (w.drewN k) os:=Any.strconv_Itoa Tryz.Wg n d c w a
end
end Go.Proofs
