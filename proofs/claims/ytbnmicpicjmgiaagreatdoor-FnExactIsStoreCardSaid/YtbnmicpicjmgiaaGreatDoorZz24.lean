/- Part of the proof. Condition: none. -/
import Derived.Shelf.Small.Strs
import Derived.Shelf.Strconv.Itoa0
import Derived.Shelf.Strconv.Itoa1
import Derived.Shelf.LaysM
import Derived.Shelf.Strconv.Itoa2
import Derived.Shelf.Strconv.Itoa3
import Derived.Shelf.Strings.Search1
import Derived.Test.YtbnmicpicjmgiaaGreatDoorProg
set_option linter.all false
open Option renaming some->Z
namespace Go.Proofs
section
open Go.Shelf
def Tryz.OK:Go.Shelf.Ren:=⟨λ|137=>315|217=>328|266=>334|n=>n,λ|9=>9|5=>5|3=>3|n=>n,λ|n=>n⟩
def Tryz.aej:Go.Proofs.Lays.n137 Tryz.prog Tryz.OK:={
 mixed:=by kernel_rfl
 f137:=Tryz.func315.trans (congrArg Z (by kernel_rfl))
 f217:=Tryz.func328.trans (congrArg Z (by kernel_rfl))
 f266:=Tryz.func334.trans (congrArg Z (by kernel_rfl))
 t3:=Tryz.underlying3
 a3:=Tryz.isAgg3
 z3:=Tryz.sizeOf3
 v3:=Tryz.zeroValue3
 t5:=Tryz.underlying5
 a5:=Tryz.isAgg5
 z5:=Tryz.sizeOf5
 v5:=Tryz.zeroValue5
 t9:=Tryz.underlying9
 a9:=Tryz.isAgg9
 z9:=Tryz.sizeOf9
 v9:=Tryz.zeroValue9 }
open Go.RowKit in
theorem Tryz.strings_IndexByte(s:ByteArray)(c:Int)(w:World) :
  Calls Tryz.prog 315 #[.string s,.int .u8 c] w λe a=>e=.returned (.int .i64 (Lib.indexByte s.data.toList c.toNat.toUInt8))/\a=w:=Any.strings_IndexByte Tryz.aej s c w
def Tryz.LS:Go.Shelf.Ren:=⟨λ|171=>295|243=>316|246=>329|283=>335|284=>336|285=>337|286=>338|129=>344|317=>343|318=>345|319=>346|320=>347|337=>351|338=>352|n=>n,λ|3=>3|9=>9|2=>2|4=>4|171=>327|0=>0|53=>328|37=>145|5=>5|173=>331|212=>336|51=>337|20=>20|213=>338|46=>339|232=>345|233=>346|n=>n,λ|17=>1|18=>2|19=>3|n=>n⟩
def Tryz.abn:Go.Proofs.LaysM.n171 Tryz.prog Tryz.LS:={
 mixed:=by kernel_rfl
 f129:=Tryz.func344.trans (congrArg Z (by kernel_rfl))
 f171:=Tryz.func295.trans (congrArg Z (by kernel_rfl))
 f243:=Tryz.func316.trans (congrArg Z (by kernel_rfl))
 f246:=Tryz.func329.trans (congrArg Z (by kernel_rfl))
 f283:=Tryz.func335.trans (congrArg Z (by kernel_rfl))
 f284:=Tryz.func336.trans (congrArg Z (by kernel_rfl))
 f285:=Tryz.func337.trans (congrArg Z (by kernel_rfl))
 f286:=Tryz.func338.trans (congrArg Z (by kernel_rfl))
 f317:=Tryz.func343.trans (congrArg Z (by kernel_rfl))
 f318:=Tryz.func345.trans (congrArg Z (by kernel_rfl))
 f319:=Tryz.func346.trans (congrArg Z (by kernel_rfl))
 f320:=Tryz.func347.trans (congrArg Z (by kernel_rfl))
 f337:=Tryz.func351.trans (congrArg Z (by kernel_rfl))
 f338:=Tryz.func352.trans (congrArg Z (by kernel_rfl))
 t0:=Tryz.underlying0
 a0:=Tryz.isAgg0
 z0:=Tryz.sizeOf0
 v0:=Tryz.zeroValue0
 t2:=Tryz.underlying2
 a2:=Tryz.isAgg2
 z2:=Tryz.sizeOf2
 v2:=Tryz.zeroValue2
 t3:=Tryz.underlying3
 a3:=Tryz.isAgg3
 z3:=Tryz.sizeOf3
 v3:=Tryz.zeroValue3
 t4:=Tryz.underlying4
 a4:=Tryz.isAgg4
 z4:=Tryz.sizeOf4
 v4:=Tryz.zeroValue4
 t5:=Tryz.underlying5
 a5:=Tryz.isAgg5
 z5:=Tryz.sizeOf5
 v5:=Tryz.zeroValue5
 t9:=Tryz.underlying9
 a9:=Tryz.isAgg9
 z9:=Tryz.sizeOf9
 v9:=Tryz.zeroValue9
 t20:=Tryz.underlying20
 a20:=Tryz.isAgg20
 z20:=Tryz.sizeOf20
 v20:=Tryz.zeroValue20
 t37:=Tryz.underlying145
 a37:=Tryz.isAgg145
 z37:=Tryz.sizeOf145
 v37:=Tryz.zeroValue145
 t46:=Tryz.underlying339
 a46:=Tryz.isAgg339
 z46:=Tryz.sizeOf339
 v46:=Tryz.zeroValue339
 t51:=Tryz.underlying337
 a51:=Tryz.isAgg337
 z51:=Tryz.sizeOf337
 v51:=Tryz.zeroValue337
 t53:=Tryz.underlying328
 a53:=Tryz.isAgg328
 z53:=Tryz.sizeOf328
 v53:=Tryz.zeroValue328
 t171:=Tryz.underlying327
 a171:=Tryz.isAgg327
 z171:=Tryz.sizeOf327
 v171:=Tryz.zeroValue327
 t173:=Tryz.underlying331
 a173:=Tryz.isAgg331
 z173:=Tryz.sizeOf331
 v173:=Tryz.zeroValue331
 t212:=Tryz.underlying336
 a212:=Tryz.isAgg336
 z212:=Tryz.sizeOf336
 v212:=Tryz.zeroValue336
 t213:=Tryz.underlying338
 a213:=Tryz.isAgg338
 z213:=Tryz.sizeOf338
 t232:=Tryz.underlying345
 a232:=Tryz.isAgg345
 z232:=Tryz.sizeOf345
 v232:=Tryz.zeroValue345
 t233:=Tryz.underlying346
 a233:=Tryz.isAgg346
 z233:=Tryz.sizeOf346
 v233:=Tryz.zeroValue346
 g17:=by kernel_rfl
 g18:=by kernel_rfl
 g19:=by kernel_rfl
 i0:=by kernel_rfl
 i2:=by kernel_rfl
 i3:=by kernel_rfl
 i4:=by kernel_rfl
 i5:=by kernel_rfl
 i9:=by kernel_rfl
 i20:=by kernel_rfl
 i37:=by kernel_rfl
 i46:=by kernel_rfl
 i51:=by kernel_rfl
 i53:=by kernel_rfl
 i171:=by kernel_rfl
 i173:=by kernel_rfl
 i212:=by kernel_rfl
 i232:=by kernel_rfl
 i233:=by kernel_rfl
 m17:=by kernel_rfl
 m18:=by kernel_rfl
 m19:=by kernel_rfl }
open Go.RowKit Go.Sort Go.Lib in
theorem Tryz.strconv_Itoa(n:Int)(g:-9223372036854775808<=n)(f:n<=9223372036854775807)(w:World)(a:Lib.TabIs Tryz.prog w "internal/strconv.uint64pow10" .u64 Lib.pow10Tab) :
  Calls Tryz.prog 295 #[.int .i64 n] w λe c=>e=.returned (.string ⟨(Lib.itoa n).toArray⟩)/\∃k os,c=grow (w.drewN k) os:=Any.strconv_Itoa Tryz.abn n g f w a
end
end Go.Proofs
