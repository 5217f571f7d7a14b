/- Part of the proof. Condition: none. -/
import Derived.Shelf.Small.Strs
import Derived.Shelf.Strconv.Itoa0
import Derived.Shelf.Strconv.Itoa1
import Derived.Shelf.LaysM
import Derived.Shelf.Strconv.Itoa2
import Derived.Shelf.Strconv.Itoa3
import Derived.Shelf.Strings.Search1
import Derived.Test.YtgnmdaifiodnnaaGreatDoorProg
set_option linter.all false
open Option renaming some->Z
namespace Go.Proofs
section
open Go.Shelf
def Tryz.OB:Go.Shelf.Ren:=⟨λ|137=>284|217=>294|266=>301|n=>n,λ|9=>9|5=>5|3=>3|n=>n,λ|n=>n⟩
def Tryz.adL:Go.Proofs.Lays.n137 Tryz.prog Tryz.OB:={
 mixed:=by kernel_rfl
 f137:=Tryz.func284.trans (congrArg Z (by kernel_rfl))
 f217:=Tryz.func294.trans (congrArg Z (by kernel_rfl))
 f266:=Tryz.func301.trans (congrArg Z (by kernel_rfl))
 t3:=Tryz.underlying3
 a3:=Tryz.isAgg3
 z3:=Tryz.sizeOf3
 v3:=Tryz.zeroValue3
 t5:=Tryz.underlying5
 a5:=Tryz.isAgg5
 z5:=Tryz.sizeOf5
 v5:=Tryz.zeroValue5
 t9:=Tryz.underlying9
 a9:=Tryz.isAgg9
 z9:=Tryz.sizeOf9
 v9:=Tryz.zeroValue9 }
open Go.RowKit in
theorem Tryz.strings_IndexByte(s:ByteArray)(c:Int)(w:World) :
  Calls Tryz.prog 284 #[.string s,.int .u8 c] w λe a=>e=.returned (.int .i64 (Lib.indexByte s.data.toList c.toNat.toUInt8))/\a=w:=Any.strings_IndexByte Tryz.adL s c w
def Tryz.LK:Go.Shelf.Ren:=⟨λ|171=>280|243=>291|246=>299|283=>306|284=>307|285=>308|286=>309|129=>314|317=>313|318=>315|319=>316|320=>317|337=>319|338=>320|n=>n,λ|3=>3|9=>9|2=>2|4=>4|171=>293|0=>0|53=>294|37=>107|5=>5|173=>297|212=>304|51=>305|20=>20|213=>306|46=>307|232=>310|233=>311|n=>n,λ|17=>1|18=>2|19=>3|n=>n⟩
def Tryz.aaU:Go.Proofs.LaysM.n171 Tryz.prog Tryz.LK:={
 mixed:=by kernel_rfl
 f129:=Tryz.func314.trans (congrArg Z (by kernel_rfl))
 f171:=Tryz.func280.trans (congrArg Z (by kernel_rfl))
 f243:=Tryz.func291.trans (congrArg Z (by kernel_rfl))
 f246:=Tryz.func299.trans (congrArg Z (by kernel_rfl))
 f283:=Tryz.func306.trans (congrArg Z (by kernel_rfl))
 f284:=Tryz.func307.trans (congrArg Z (by kernel_rfl))
 f285:=Tryz.func308.trans (congrArg Z (by kernel_rfl))
 f286:=Tryz.func309.trans (congrArg Z (by kernel_rfl))
 f317:=Tryz.func313.trans (congrArg Z (by kernel_rfl))
 f318:=Tryz.func315.trans (congrArg Z (by kernel_rfl))
 f319:=Tryz.func316.trans (congrArg Z (by kernel_rfl))
 f320:=Tryz.func317.trans (congrArg Z (by kernel_rfl))
 f337:=Tryz.func319.trans (congrArg Z (by kernel_rfl))
 f338:=Tryz.func320.trans (congrArg Z (by kernel_rfl))
 t0:=Tryz.underlying0
 a0:=Tryz.isAgg0
 z0:=Tryz.sizeOf0
 v0:=Tryz.zeroValue0
 t2:=Tryz.underlying2
 a2:=Tryz.isAgg2
 z2:=Tryz.sizeOf2
 v2:=Tryz.zeroValue2
 t3:=Tryz.underlying3
 a3:=Tryz.isAgg3
 z3:=Tryz.sizeOf3
 v3:=Tryz.zeroValue3
 t4:=Tryz.underlying4
 a4:=Tryz.isAgg4
 z4:=Tryz.sizeOf4
 v4:=Tryz.zeroValue4
 t5:=Tryz.underlying5
 a5:=Tryz.isAgg5
 z5:=Tryz.sizeOf5
 v5:=Tryz.zeroValue5
 t9:=Tryz.underlying9
 a9:=Tryz.isAgg9
 z9:=Tryz.sizeOf9
 v9:=Tryz.zeroValue9
 t20:=Tryz.underlying20
 a20:=Tryz.isAgg20
 z20:=Tryz.sizeOf20
 v20:=Tryz.zeroValue20
 t37:=Tryz.underlying107
 a37:=Tryz.isAgg107
 z37:=Tryz.sizeOf107
 v37:=Tryz.zeroValue107
 t46:=Tryz.underlying307
 a46:=Tryz.isAgg307
 z46:=Tryz.sizeOf307
 v46:=Tryz.zeroValue307
 t51:=Tryz.underlying305
 a51:=Tryz.isAgg305
 z51:=Tryz.sizeOf305
 v51:=Tryz.zeroValue305
 t53:=Tryz.underlying294
 a53:=Tryz.isAgg294
 z53:=Tryz.sizeOf294
 v53:=Tryz.zeroValue294
 t171:=Tryz.underlying293
 a171:=Tryz.isAgg293
 z171:=Tryz.sizeOf293
 v171:=Tryz.zeroValue293
 t173:=Tryz.underlying297
 a173:=Tryz.isAgg297
 z173:=Tryz.sizeOf297
 v173:=Tryz.zeroValue297
 t212:=Tryz.underlying304
 a212:=Tryz.isAgg304
 z212:=Tryz.sizeOf304
 v212:=Tryz.zeroValue304
 t213:=Tryz.underlying306
 a213:=Tryz.isAgg306
 z213:=Tryz.sizeOf306
 t232:=Tryz.underlying310
 a232:=Tryz.isAgg310
 z232:=Tryz.sizeOf310
 v232:=Tryz.zeroValue310
 t233:=Tryz.underlying311
 a233:=Tryz.isAgg311
 z233:=Tryz.sizeOf311
 v233:=Tryz.zeroValue311
 g17:=by kernel_rfl
 g18:=by kernel_rfl
 g19:=by kernel_rfl
 i0:=by kernel_rfl
 i2:=by kernel_rfl
 i3:=by kernel_rfl
 i4:=by kernel_rfl
 i5:=by kernel_rfl
 i9:=by kernel_rfl
 i20:=by kernel_rfl
 i37:=by kernel_rfl
 i46:=by kernel_rfl
 i51:=by kernel_rfl
 i53:=by kernel_rfl
 i171:=by kernel_rfl
 i173:=by kernel_rfl
 i212:=by kernel_rfl
 i232:=by kernel_rfl
 i233:=by kernel_rfl
 m17:=by kernel_rfl
 m18:=by kernel_rfl
 m19:=by kernel_rfl }
open Go.RowKit Go.Sort Go.Lib in
theorem Tryz.strconv_Itoa(n:Int)(g:-9223372036854775808<=n)(f:n<=9223372036854775807)(w:World)(a:Lib.TabIs Tryz.prog w "internal/strconv.uint64pow10" .u64 Lib.pow10Tab) :
  Calls Tryz.prog 280 #[.int .i64 n] w λe c=>e=.returned (.string ⟨(Lib.itoa n).toArray⟩)/\∃k os,c=grow (w.drewN k) os:=Any.strconv_Itoa Tryz.aaU n g f w a
end
end Go.Proofs
