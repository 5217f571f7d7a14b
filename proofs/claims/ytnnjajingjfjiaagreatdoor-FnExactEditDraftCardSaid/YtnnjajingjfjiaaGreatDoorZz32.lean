/- Part of the proof: a machine over plain data, its proof, the functions of the program run on symbols, what they answer. Condition: none. -/
import Derived.Shelf.Small.Strs
import Derived.Shelf.Strconv.Itoa0
import Derived.Shelf.Strconv.Itoa1
import Derived.Shelf.LaysM
import Derived.Shelf.Strconv.Itoa2
import Derived.Shelf.Strconv.Itoa3
import Derived.Shelf.Strings.Search1
import Derived.Test.YtnnjajingjfjiaaGreatDoorProg
set_option linter.unusedVariables false
set_option linter.unusedSimpArgs false
open Option renaming some->Z
namespace Go.Proofs
section
open Go.Shelf
def Tryz.Oc:Go.Shelf.Ren:=⟨λ|137=>275|217=>285|266=>297|n=>n,λ|9=>9|5=>5|3=>3|n=>n,λ|n=>n⟩
theorem Tryz.ab6:Go.Proofs.Lays.n137 Tryz.prog Tryz.Oc:={
 mixed:=by kernel_rfl
 f137:=Tryz.func275.trans (congrArg Z (by kernel_rfl))
 f217:=Tryz.func285.trans (congrArg Z (by kernel_rfl))
 f266:=Tryz.func297.trans (congrArg Z (by kernel_rfl))
 t3:=Tryz.underlying3
 a3:=Tryz.isAgg3
 z3:=Tryz.sizeOf3
 v3:=Tryz.zeroValue3
 t5:=Tryz.underlying5
 a5:=Tryz.isAgg5
 z5:=Tryz.sizeOf5
 v5:=Tryz.zeroValue5
 t9:=Tryz.underlying9
 a9:=Tryz.isAgg9
 z9:=Tryz.sizeOf9
 v9:=Tryz.zeroValue9 }
open Go.RowKit in
theorem Tryz.strings_IndexByte(s:ByteArray)(c:Int)(w:World) :
  Calls Tryz.prog 275 #[.string s,.int .u8 c] w λe a=>e=.returned (.int .i64 (Lib.indexByte s.data.toList c.toNat.toUInt8))/\a=w:=Any.strings_IndexByte Tryz.ab6 s c w
def Tryz.Li:Go.Shelf.Ren:=⟨λ|171=>247|243=>264|246=>274|283=>281|284=>282|285=>283|286=>284|129=>293|317=>292|318=>294|319=>295|320=>296|337=>301|338=>302|n=>n,λ|3=>3|9=>9|2=>2|4=>4|171=>297|0=>0|53=>298|37=>145|5=>5|173=>301|212=>306|51=>307|20=>20|213=>308|46=>309|232=>315|233=>316|n=>n,λ|17=>0|18=>2|19=>3|n=>n⟩
theorem Tryz.Zc:Go.Proofs.LaysM.n171 Tryz.prog Tryz.Li:={
 mixed:=by kernel_rfl
 f129:=Tryz.func293.trans (congrArg Z (by kernel_rfl))
 f171:=Tryz.func247.trans (congrArg Z (by kernel_rfl))
 f243:=Tryz.func264.trans (congrArg Z (by kernel_rfl))
 f246:=Tryz.func274.trans (congrArg Z (by kernel_rfl))
 f283:=Tryz.func281.trans (congrArg Z (by kernel_rfl))
 f284:=Tryz.func282.trans (congrArg Z (by kernel_rfl))
 f285:=Tryz.func283.trans (congrArg Z (by kernel_rfl))
 f286:=Tryz.func284.trans (congrArg Z (by kernel_rfl))
 f317:=Tryz.func292.trans (congrArg Z (by kernel_rfl))
 f318:=Tryz.func294.trans (congrArg Z (by kernel_rfl))
 f319:=Tryz.func295.trans (congrArg Z (by kernel_rfl))
 f320:=Tryz.func296.trans (congrArg Z (by kernel_rfl))
 f337:=Tryz.func301.trans (congrArg Z (by kernel_rfl))
 f338:=Tryz.func302.trans (congrArg Z (by kernel_rfl))
 t0:=Tryz.underlying0
 a0:=Tryz.isAgg0
 z0:=Tryz.sizeOf0
 v0:=Tryz.zeroValue0
 t2:=Tryz.underlying2
 a2:=Tryz.isAgg2
 z2:=Tryz.sizeOf2
 v2:=Tryz.zeroValue2
 t3:=Tryz.underlying3
 a3:=Tryz.isAgg3
 z3:=Tryz.sizeOf3
 v3:=Tryz.zeroValue3
 t4:=Tryz.underlying4
 a4:=Tryz.isAgg4
 z4:=Tryz.sizeOf4
 v4:=Tryz.zeroValue4
 t5:=Tryz.underlying5
 a5:=Tryz.isAgg5
 z5:=Tryz.sizeOf5
 v5:=Tryz.zeroValue5
 t9:=Tryz.underlying9
 a9:=Tryz.isAgg9
 z9:=Tryz.sizeOf9
 v9:=Tryz.zeroValue9
 t20:=Tryz.underlying20
 a20:=Tryz.isAgg20
 z20:=Tryz.sizeOf20
 v20:=Tryz.zeroValue20
 t37:=Tryz.underlying145
 a37:=Tryz.isAgg145
 z37:=Tryz.sizeOf145
 v37:=Tryz.zeroValue145
 t46:=Tryz.underlying309
 a46:=Tryz.isAgg309
 z46:=Tryz.sizeOf309
 v46:=Tryz.zeroValue309
 t51:=Tryz.underlying307
 a51:=Tryz.isAgg307
 z51:=Tryz.sizeOf307
 v51:=Tryz.zeroValue307
 t53:=Tryz.underlying298
 a53:=Tryz.isAgg298
 z53:=Tryz.sizeOf298
 v53:=Tryz.zeroValue298
 t171:=Tryz.underlying297
 a171:=Tryz.isAgg297
 z171:=Tryz.sizeOf297
 v171:=Tryz.zeroValue297
 t173:=Tryz.underlying301
 a173:=Tryz.isAgg301
 z173:=Tryz.sizeOf301
 v173:=Tryz.zeroValue301
 t212:=Tryz.underlying306
 a212:=Tryz.isAgg306
 z212:=Tryz.sizeOf306
 v212:=Tryz.zeroValue306
 t213:=Tryz.underlying308
 a213:=Tryz.isAgg308
 z213:=Tryz.sizeOf308
 t232:=Tryz.underlying315
 a232:=Tryz.isAgg315
 z232:=Tryz.sizeOf315
 v232:=Tryz.zeroValue315
 t233:=Tryz.underlying316
 a233:=Tryz.isAgg316
 z233:=Tryz.sizeOf316
 v233:=Tryz.zeroValue316
 g17:=by kernel_rfl
 g18:=by kernel_rfl
 g19:=by kernel_rfl
 i0:=by kernel_rfl
 i2:=by kernel_rfl
 i3:=by kernel_rfl
 i4:=by kernel_rfl
 i5:=by kernel_rfl
 i9:=by kernel_rfl
 i20:=by kernel_rfl
 i37:=by kernel_rfl
 i46:=by kernel_rfl
 i51:=by kernel_rfl
 i53:=by kernel_rfl
 i171:=by kernel_rfl
 i173:=by kernel_rfl
 i212:=by kernel_rfl
 i232:=by kernel_rfl
 i233:=by kernel_rfl
 m17:=by kernel_rfl
 m18:=by kernel_rfl
 m19:=by kernel_rfl }
open Go.RowKit Go.Sort Go.Lib in
theorem Tryz.strconv_Itoa(n:Int)(d:-9223372036854775808<=n)(c:n<=9223372036854775807)(w:World)(a:Lib.TabIs Tryz.prog w "internal/strconv.uint64pow10" .u64 Lib.pow10Tab) :
  Calls Tryz.prog 247 #[.int .i64 n] w λe b=>e=.returned (.string ⟨(Lib.itoa n).toArray⟩)/\∃k os,b=grow (w.drewN k) os:=Any.strconv_Itoa Tryz.Zc n d c w a
end
end Go.Proofs
