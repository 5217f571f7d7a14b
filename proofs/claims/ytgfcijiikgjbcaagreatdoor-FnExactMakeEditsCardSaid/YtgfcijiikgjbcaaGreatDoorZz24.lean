/- Part of the proof: a machine over plain data, its proof, the functions of the program run on symbols, what they answer. Condition: none. -/
import Derived.Shelf.Small.Strs
import Derived.Shelf.Strconv.Itoa0
import Derived.Shelf.Strconv.Itoa1
import Derived.Shelf.LaysM
import Derived.Shelf.Strconv.Itoa2
import Derived.Shelf.Strconv.Itoa3
import Derived.Shelf.Strings.Search1
import Derived.Test.YtgfcijiikgjbcaaGreatDoorProg
set_option linter.unusedVariables false
set_option linter.unusedSimpArgs false
open Option renaming some->Z
namespace Go.Proofs
section
open Go.Shelf
def Tryz.LX:Go.Shelf.Ren:=⟨λ|137=>211|217=>222|266=>234|n=>n,λ|9=>9|5=>5|3=>3|n=>n,λ|n=>n⟩
theorem Tryz.aag:Go.Proofs.Lays.n137 Tryz.prog Tryz.LX:={
 mixed:=by kernel_rfl
 f137:=Tryz.func211.trans (congrArg Z (by kernel_rfl))
 f217:=Tryz.func222.trans (congrArg Z (by kernel_rfl))
 f266:=Tryz.func234.trans (congrArg Z (by kernel_rfl))
 t3:=Tryz.underlying3
 a3:=Tryz.isAgg3
 z3:=Tryz.sizeOf3
 v3:=Tryz.zeroValue3
 t5:=Tryz.underlying5
 a5:=Tryz.isAgg5
 z5:=Tryz.sizeOf5
 v5:=Tryz.zeroValue5
 t9:=Tryz.underlying9
 a9:=Tryz.isAgg9
 z9:=Tryz.sizeOf9
 v9:=Tryz.zeroValue9 }
open Go.RowKit in
theorem Tryz.strings_IndexByte(s:ByteArray)(c:Int)(w:World) :
  Calls Tryz.prog 211 #[.string s,.int .u8 c] w λe a=>e=.returned (.int .i64 (Lib.indexByte s.data.toList c.toNat.toUInt8))/\a=w:=Any.strings_IndexByte Tryz.aag s c w
def Tryz.Js:Go.Shelf.Ren:=⟨λ|171=>176|243=>192|246=>208|283=>217|284=>218|285=>219|286=>220|129=>228|317=>227|318=>229|319=>230|320=>231|337=>236|338=>237|n=>n,λ|3=>3|9=>9|2=>2|4=>4|171=>234|0=>0|53=>235|37=>93|5=>5|173=>238|212=>243|51=>244|20=>20|213=>245|46=>246|232=>252|233=>253|n=>n,λ|17=>0|18=>2|19=>3|n=>n⟩
theorem Tryz.Wx:Go.Proofs.LaysM.n171 Tryz.prog Tryz.Js:={
 mixed:=by kernel_rfl
 f129:=Tryz.func228.trans (congrArg Z (by kernel_rfl))
 f171:=Tryz.func176.trans (congrArg Z (by kernel_rfl))
 f243:=Tryz.func192.trans (congrArg Z (by kernel_rfl))
 f246:=Tryz.func208.trans (congrArg Z (by kernel_rfl))
 f283:=Tryz.func217.trans (congrArg Z (by kernel_rfl))
 f284:=Tryz.func218.trans (congrArg Z (by kernel_rfl))
 f285:=Tryz.func219.trans (congrArg Z (by kernel_rfl))
 f286:=Tryz.func220.trans (congrArg Z (by kernel_rfl))
 f317:=Tryz.func227.trans (congrArg Z (by kernel_rfl))
 f318:=Tryz.func229.trans (congrArg Z (by kernel_rfl))
 f319:=Tryz.func230.trans (congrArg Z (by kernel_rfl))
 f320:=Tryz.func231.trans (congrArg Z (by kernel_rfl))
 f337:=Tryz.func236.trans (congrArg Z (by kernel_rfl))
 f338:=Tryz.func237.trans (congrArg Z (by kernel_rfl))
 t0:=Tryz.underlying0
 a0:=Tryz.isAgg0
 z0:=Tryz.sizeOf0
 v0:=Tryz.zeroValue0
 t2:=Tryz.underlying2
 a2:=Tryz.isAgg2
 z2:=Tryz.sizeOf2
 v2:=Tryz.zeroValue2
 t3:=Tryz.underlying3
 a3:=Tryz.isAgg3
 z3:=Tryz.sizeOf3
 v3:=Tryz.zeroValue3
 t4:=Tryz.underlying4
 a4:=Tryz.isAgg4
 z4:=Tryz.sizeOf4
 v4:=Tryz.zeroValue4
 t5:=Tryz.underlying5
 a5:=Tryz.isAgg5
 z5:=Tryz.sizeOf5
 v5:=Tryz.zeroValue5
 t9:=Tryz.underlying9
 a9:=Tryz.isAgg9
 z9:=Tryz.sizeOf9
 v9:=Tryz.zeroValue9
 t20:=Tryz.underlying20
 a20:=Tryz.isAgg20
 z20:=Tryz.sizeOf20
 v20:=Tryz.zeroValue20
 t37:=Tryz.underlying93
 a37:=Tryz.isAgg93
 z37:=Tryz.sizeOf93
 v37:=Tryz.zeroValue93
 t46:=Tryz.underlying246
 a46:=Tryz.isAgg246
 z46:=Tryz.sizeOf246
 v46:=Tryz.zeroValue246
 t51:=Tryz.underlying244
 a51:=Tryz.isAgg244
 z51:=Tryz.sizeOf244
 v51:=Tryz.zeroValue244
 t53:=Tryz.underlying235
 a53:=Tryz.isAgg235
 z53:=Tryz.sizeOf235
 v53:=Tryz.zeroValue235
 t171:=Tryz.underlying234
 a171:=Tryz.isAgg234
 z171:=Tryz.sizeOf234
 v171:=Tryz.zeroValue234
 t173:=Tryz.underlying238
 a173:=Tryz.isAgg238
 z173:=Tryz.sizeOf238
 v173:=Tryz.zeroValue238
 t212:=Tryz.underlying243
 a212:=Tryz.isAgg243
 z212:=Tryz.sizeOf243
 v212:=Tryz.zeroValue243
 t213:=Tryz.underlying245
 a213:=Tryz.isAgg245
 z213:=Tryz.sizeOf245
 t232:=Tryz.underlying252
 a232:=Tryz.isAgg252
 z232:=Tryz.sizeOf252
 v232:=Tryz.zeroValue252
 t233:=Tryz.underlying253
 a233:=Tryz.isAgg253
 z233:=Tryz.sizeOf253
 v233:=Tryz.zeroValue253
 g17:=by kernel_rfl
 g18:=by kernel_rfl
 g19:=by kernel_rfl
 i0:=by kernel_rfl
 i2:=by kernel_rfl
 i3:=by kernel_rfl
 i4:=by kernel_rfl
 i5:=by kernel_rfl
 i9:=by kernel_rfl
 i20:=by kernel_rfl
 i37:=by kernel_rfl
 i46:=by kernel_rfl
 i51:=by kernel_rfl
 i53:=by kernel_rfl
 i171:=by kernel_rfl
 i173:=by kernel_rfl
 i212:=by kernel_rfl
 i232:=by kernel_rfl
 i233:=by kernel_rfl
 m17:=by kernel_rfl
 m18:=by kernel_rfl
 m19:=by kernel_rfl }
open Go.RowKit Go.Sort Go.Lib in
theorem Tryz.strconv_Itoa(n:Int)(d:-9223372036854775808<=n)(c:n<=9223372036854775807)(w:World)(a:Lib.TabIs Tryz.prog w "internal/strconv.uint64pow10" .u64 Lib.pow10Tab) :
  Calls Tryz.prog 176 #[.int .i64 n] w λe b=>e=.returned (.string ⟨(Lib.itoa n).toArray⟩)/\∃k os,b=grow (w.drewN k) os:=Any.strconv_Itoa Tryz.Wx n d c w a
end
end Go.Proofs
