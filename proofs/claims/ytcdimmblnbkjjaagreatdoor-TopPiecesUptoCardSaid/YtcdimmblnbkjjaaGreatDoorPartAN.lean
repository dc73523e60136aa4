/- Lemmas. -/
import Derived.Shelf.Strings.Trim
import Derived.Shelf.Small.Utf8
import Derived.Shelf.Small.Bits
import Derived.Shelf.Small.Strs
import Derived.Shelf.Strconv.Itoa0
import Derived.Shelf.Strconv.Itoa1
import Derived.Shelf.LaysM
import Derived.Shelf.Strconv.Itoa2
import Derived.Shelf.Strconv.Itoa3
import Derived.Shelf.Strconv.Clone
import Derived.Shelf.Strconv.Lower
import Derived.Shelf.Strconv.ParseUint10
import Derived.Shelf.Strconv.ParseUint10Empty
import Derived.Shelf.Strconv.ParseUint10Any
import Derived.Shelf.Strconv.RangeError
import Derived.Shelf.LaysC
import Derived.Shelf.Strconv.ToErrorRange
import Derived.Ground.MpProg
import Derived.Shelf.Pu.ParseUintPublic10
import Derived.Shelf.Pu.ErrVarParseUint
import Derived.Shelf.Strings.Search1
import Derived.Shelf.Strings.Prefix
import Derived.Shelf.Strings.Runes
import Derived.Shelf.Strings.AsciiSet
import Derived.Shelf.Unicode.DecodeSlow
import Derived.Shelf.Unicode.DecodeAny
import Derived.Shelf.Unicode.DecodeLast
import Derived.Test.YtcdimmblnbkjjaaGreatDoorProg
set_option linter.all false
namespace Go.Proofs
open Go.Shelf
open Go.RowKit in
def Tryz.lays161_ren:Go.Shelf.Ren:=⟨fun|161=>234|231=>269|227=>270|233=>271|235=>272|228=>288|197=>180|151=>289|260=>237|152=>300|137=>79|119=>305|224=>306|225=>307|217=>129|266=>172|n=>n,fun|9=>9|4=>4|3=>3|5=>5|117=>293|116=>292|0=>0|124=>296|105=>219|21=>21|119=>298|46=>74|139=>301|138=>300|n=>n,fun|3=>2|4=>3|n=>n⟩
theorem Tryz.lays161:Go.Proofs.Lays.n161 Tryz.prog Tryz.lays161_ren:={
 mixed:=by kernel_rfl
 f119:=Tryz.func305.trans (congrArg some (by kernel_rfl))
 f137:=Tryz.func79.trans (congrArg some (by kernel_rfl))
 f151:=Tryz.func289.trans (congrArg some (by kernel_rfl))
 f152:=Tryz.func300.trans (congrArg some (by kernel_rfl))
 f161:=Tryz.func234.trans (congrArg some (by kernel_rfl))
 f197:=Tryz.func180.trans (congrArg some (by kernel_rfl))
 f217:=Tryz.func129.trans (congrArg some (by kernel_rfl))
 f224:=Tryz.func306.trans (congrArg some (by kernel_rfl))
 f225:=Tryz.func307.trans (congrArg some (by kernel_rfl))
 f227:=Tryz.func270.trans (congrArg some (by kernel_rfl))
 f228:=Tryz.func288.trans (congrArg some (by kernel_rfl))
 f231:=Tryz.func269.trans (congrArg some (by kernel_rfl))
 f233:=Tryz.func271.trans (congrArg some (by kernel_rfl))
 f235:=Tryz.func272.trans (congrArg some (by kernel_rfl))
 f260:=Tryz.func237.trans (congrArg some (by kernel_rfl))
 f266:=Tryz.func172.trans (congrArg some (by kernel_rfl))
 t0:=Tryz.underlying0
 a0:=Tryz.isAgg0
 z0:=Tryz.sizeOf0
 v0:=Tryz.zeroValue0
 t3:=Tryz.underlying3
 a3:=Tryz.isAgg3
 z3:=Tryz.sizeOf3
 v3:=Tryz.zeroValue3
 t4:=Tryz.underlying4
 a4:=Tryz.isAgg4
 z4:=Tryz.sizeOf4
 v4:=Tryz.zeroValue4
 t5:=Tryz.underlying5
 a5:=Tryz.isAgg5
 z5:=Tryz.sizeOf5
 v5:=Tryz.zeroValue5
 t9:=Tryz.underlying9
 a9:=Tryz.isAgg9
 z9:=Tryz.sizeOf9
 v9:=Tryz.zeroValue9
 t21:=Tryz.underlying21
 a21:=Tryz.isAgg21
 z21:=Tryz.sizeOf21
 v21:=Tryz.zeroValue21
 t46:=Tryz.underlying74
 a46:=Tryz.isAgg74
 z46:=Tryz.sizeOf74
 v46:=Tryz.zeroValue74
 t105:=Tryz.underlying219
 a105:=Tryz.isAgg219
 z105:=Tryz.sizeOf219
 v105:=Tryz.zeroValue219
 t116:=Tryz.underlying292
 a116:=Tryz.isAgg292
 z116:=Tryz.sizeOf292
 t117:=Tryz.underlying293
 a117:=Tryz.isAgg293
 z117:=Tryz.sizeOf293
 v117:=Tryz.zeroValue293
 t119:=Tryz.underlying298
 a119:=Tryz.isAgg298
 z119:=Tryz.sizeOf298
 t124:=Tryz.underlying296
 a124:=Tryz.isAgg296
 z124:=Tryz.sizeOf296
 v124:=Tryz.zeroValue296
 t138:=Tryz.underlying300
 a138:=Tryz.isAgg300
 z138:=Tryz.sizeOf300
 v138:=Tryz.zeroValue300
 t139:=Tryz.underlying301
 a139:=Tryz.isAgg301
 z139:=Tryz.sizeOf301
 v139:=Tryz.zeroValue301
 g3:=by kernel_rfl
 g4:=by kernel_rfl}
open Go.RowKit in
theorem Tryz.strings_TrimLeft_one(s:ByteArray)(c:UInt8)(hc:c.toNat<128)(w:World):
  Calls Tryz.prog 234 #[.string s,.string ⟨#[c]⟩] w fun e w'=>e=.returned (.string ⟨(Lib.trimLeftB s.data.toList c).toArray⟩)/\w'=w:=Any.strings_TrimLeft_one Tryz.lays161 s c hc w
def Tryz.lays162_ren:Go.Shelf.Ren:=⟨fun|162=>235|232=>273|227=>270|234=>274|236=>275|228=>288|271=>290|151=>289|120=>301|197=>180|152=>300|260=>237|137=>79|119=>305|224=>306|225=>307|217=>129|266=>172|n=>n,fun|9=>9|4=>4|3=>3|5=>5|117=>293|116=>292|0=>0|124=>296|21=>21|105=>219|46=>74|119=>298|139=>301|138=>300|n=>n,fun|3=>2|4=>3|n=>n⟩
theorem Tryz.lays162:Go.Proofs.Lays.n162 Tryz.prog Tryz.lays162_ren:={
 mixed:=by kernel_rfl
 f119:=Tryz.func305.trans (congrArg some (by kernel_rfl))
 f120:=Tryz.func301.trans (congrArg some (by kernel_rfl))
 f137:=Tryz.func79.trans (congrArg some (by kernel_rfl))
 f151:=Tryz.func289.trans (congrArg some (by kernel_rfl))
 f152:=Tryz.func300.trans (congrArg some (by kernel_rfl))
 f162:=Tryz.func235.trans (congrArg some (by kernel_rfl))
 f197:=Tryz.func180.trans (congrArg some (by kernel_rfl))
 f217:=Tryz.func129.trans (congrArg some (by kernel_rfl))
 f224:=Tryz.func306.trans (congrArg some (by kernel_rfl))
 f225:=Tryz.func307.trans (congrArg some (by kernel_rfl))
 f227:=Tryz.func270.trans (congrArg some (by kernel_rfl))
 f228:=Tryz.func288.trans (congrArg some (by kernel_rfl))
 f232:=Tryz.func273.trans (congrArg some (by kernel_rfl))
 f234:=Tryz.func274.trans (congrArg some (by kernel_rfl))
 f236:=Tryz.func275.trans (congrArg some (by kernel_rfl))
 f260:=Tryz.func237.trans (congrArg some (by kernel_rfl))
 f266:=Tryz.func172.trans (congrArg some (by kernel_rfl))
 f271:=Tryz.func290.trans (congrArg some (by kernel_rfl))
 t0:=Tryz.underlying0
 a0:=Tryz.isAgg0
 z0:=Tryz.sizeOf0
 v0:=Tryz.zeroValue0
 t3:=Tryz.underlying3
 a3:=Tryz.isAgg3
 z3:=Tryz.sizeOf3
 v3:=Tryz.zeroValue3
 t4:=Tryz.underlying4
 a4:=Tryz.isAgg4
 z4:=Tryz.sizeOf4
 v4:=Tryz.zeroValue4
 t5:=Tryz.underlying5
 a5:=Tryz.isAgg5
 z5:=Tryz.sizeOf5
 v5:=Tryz.zeroValue5
 t9:=Tryz.underlying9
 a9:=Tryz.isAgg9
 z9:=Tryz.sizeOf9
 v9:=Tryz.zeroValue9
 t21:=Tryz.underlying21
 a21:=Tryz.isAgg21
 z21:=Tryz.sizeOf21
 v21:=Tryz.zeroValue21
 t46:=Tryz.underlying74
 a46:=Tryz.isAgg74
 z46:=Tryz.sizeOf74
 v46:=Tryz.zeroValue74
 t105:=Tryz.underlying219
 a105:=Tryz.isAgg219
 z105:=Tryz.sizeOf219
 v105:=Tryz.zeroValue219
 t116:=Tryz.underlying292
 a116:=Tryz.isAgg292
 z116:=Tryz.sizeOf292
 t117:=Tryz.underlying293
 a117:=Tryz.isAgg293
 z117:=Tryz.sizeOf293
 v117:=Tryz.zeroValue293
 t119:=Tryz.underlying298
 a119:=Tryz.isAgg298
 z119:=Tryz.sizeOf298
 t124:=Tryz.underlying296
 a124:=Tryz.isAgg296
 z124:=Tryz.sizeOf296
 v124:=Tryz.zeroValue296
 t138:=Tryz.underlying300
 a138:=Tryz.isAgg300
 z138:=Tryz.sizeOf300
 v138:=Tryz.zeroValue300
 t139:=Tryz.underlying301
 a139:=Tryz.isAgg301
 z139:=Tryz.sizeOf301
 v139:=Tryz.zeroValue301
 g3:=by kernel_rfl
 g4:=by kernel_rfl}
open Go.RowKit in
theorem Tryz.strings_TrimRight_one(s:ByteArray)(c:UInt8)(hc:c.toNat<128)(w:World)(hs:s.size<=9223372036854775807):
  Calls Tryz.prog 235 #[.string s,.string ⟨#[c]⟩] w fun e w'=>e=.returned (.string ⟨(Lib.trimRightB s.data.toList c).toArray⟩)/\w'=w:=Any.strings_TrimRight_one Tryz.lays162 s c hc w hs
def Tryz.lays118_ren:Go.Shelf.Ren:=⟨fun|118=>224|n=>n,fun|21=>21|3=>3|4=>4|n=>n,fun|n=>n⟩
theorem Tryz.lays118:Go.Proofs.Lays.n118 Tryz.prog Tryz.lays118_ren:={
 mixed:=by kernel_rfl
 f118:=Tryz.func224.trans (congrArg some (by kernel_rfl))
 t3:=Tryz.underlying3
 a3:=Tryz.isAgg3
 z3:=Tryz.sizeOf3
 v3:=Tryz.zeroValue3
 t4:=Tryz.underlying4
 a4:=Tryz.isAgg4
 z4:=Tryz.sizeOf4
 v4:=Tryz.zeroValue4
 t21:=Tryz.underlying21
 a21:=Tryz.isAgg21
 z21:=Tryz.sizeOf21
 v21:=Tryz.zeroValue21}
theorem Tryz.utf8_RuneLen(r:Int)(w:World):
  Calls Tryz.prog 224 #[.int .i32 r] w fun e w'=>e=.returned (.int .i64 (Lib.runeLen r))/\w'=w:=Any.utf8_RuneLen Tryz.lays118 r w
def Tryz.lays128_ren:Go.Shelf.Ren:=⟨fun|128=>146|n=>n,fun|51=>34|3=>3|4=>4|46=>74|5=>5|9=>9|n=>n,fun|n=>n⟩
theorem Tryz.lays128:Go.Proofs.Lays.n128 Tryz.prog Tryz.lays128_ren:={
 mixed:=by kernel_rfl
 f128:=Tryz.func146.trans (congrArg some (by kernel_rfl))
 t3:=Tryz.underlying3
 a3:=Tryz.isAgg3
 z3:=Tryz.sizeOf3
 v3:=Tryz.zeroValue3
 t4:=Tryz.underlying4
 a4:=Tryz.isAgg4
 z4:=Tryz.sizeOf4
 v4:=Tryz.zeroValue4
 t5:=Tryz.underlying5
 a5:=Tryz.isAgg5
 z5:=Tryz.sizeOf5
 v5:=Tryz.zeroValue5
 t9:=Tryz.underlying9
 a9:=Tryz.isAgg9
 z9:=Tryz.sizeOf9
 v9:=Tryz.zeroValue9
 t46:=Tryz.underlying74
 a46:=Tryz.isAgg74
 z46:=Tryz.sizeOf74
 v46:=Tryz.zeroValue74
 t51:=Tryz.underlying34
 a51:=Tryz.isAgg34
 z51:=Tryz.sizeOf34
 v51:=Tryz.zeroValue34}
theorem Tryz.bits_Len32(x:Int)(w:World)(h0:0<=x)(h1:x<=4294967295):
  Calls Tryz.prog 146 #[.int .u32 x] w fun e w'=>e=.returned (.int .i64 (Lib.bitLen x.toNat))/\w'=w:=Any.bits_Len32 Tryz.lays128 x w h0 h1
def Tryz.lays133_ren:Go.Shelf.Ren:=⟨fun|133=>257|128=>146|n=>n,fun|51=>34|3=>3|4=>4|46=>74|5=>5|9=>9|n=>n,fun|n=>n⟩
theorem Tryz.lays133:Go.Proofs.Lays.n133 Tryz.prog Tryz.lays133_ren:={
 mixed:=by kernel_rfl
 f128:=Tryz.func146.trans (congrArg some (by kernel_rfl))
 f133:=Tryz.func257.trans (congrArg some (by kernel_rfl))
 t3:=Tryz.underlying3
 a3:=Tryz.isAgg3
 z3:=Tryz.sizeOf3
 v3:=Tryz.zeroValue3
 t4:=Tryz.underlying4
 a4:=Tryz.isAgg4
 z4:=Tryz.sizeOf4
 v4:=Tryz.zeroValue4
 t5:=Tryz.underlying5
 a5:=Tryz.isAgg5
 z5:=Tryz.sizeOf5
 v5:=Tryz.zeroValue5
 t9:=Tryz.underlying9
 a9:=Tryz.isAgg9
 z9:=Tryz.sizeOf9
 v9:=Tryz.zeroValue9
 t46:=Tryz.underlying74
 a46:=Tryz.isAgg74
 z46:=Tryz.sizeOf74
 v46:=Tryz.zeroValue74
 t51:=Tryz.underlying34
 a51:=Tryz.isAgg34
 z51:=Tryz.sizeOf34
 v51:=Tryz.zeroValue34}
theorem Tryz.bits_LeadingZeros32(x:Int)(w:World)(h0:0<=x)(h1:x<=4294967295):
  Calls Tryz.prog 257 #[.int .u32 x] w fun e w'=>e=.returned (.int .i64 (32-(Lib.bitLen x.toNat:Int)))/\w'=w:=Any.bits_LeadingZeros32 Tryz.lays133 x w h0 h1
def Tryz.lays137_ren:Go.Shelf.Ren:=⟨fun|137=>79|217=>129|266=>172|n=>n,fun|9=>9|5=>5|3=>3|n=>n,fun|n=>n⟩
theorem Tryz.lays137:Go.Proofs.Lays.n137 Tryz.prog Tryz.lays137_ren:={
 mixed:=by kernel_rfl
 f137:=Tryz.func79.trans (congrArg some (by kernel_rfl))
 f217:=Tryz.func129.trans (congrArg some (by kernel_rfl))
 f266:=Tryz.func172.trans (congrArg some (by kernel_rfl))
 t3:=Tryz.underlying3
 a3:=Tryz.isAgg3
 z3:=Tryz.sizeOf3
 v3:=Tryz.zeroValue3
 t5:=Tryz.underlying5
 a5:=Tryz.isAgg5
 z5:=Tryz.sizeOf5
 v5:=Tryz.zeroValue5
 t9:=Tryz.underlying9
 a9:=Tryz.isAgg9
 z9:=Tryz.sizeOf9
 v9:=Tryz.zeroValue9}
open Go.RowKit in
theorem Tryz.strings_IndexByte(s:ByteArray)(c:Int)(w:World):
  Calls Tryz.prog 79 #[.string s,.int .u8 c] w fun e w'=>e=.returned (.int .i64 (Lib.indexByte s.data.toList c.toNat.toUInt8))/\w'=w:=Any.strings_IndexByte Tryz.lays137 s c w
open Go.RowKit in
def Tryz.laysPu14_ren:Go.Shelf.Ren:=⟨fun|14=>236|16=>276|17=>277|19=>291|20=>292|21=>293|22=>294|23=>295|24=>296|25=>302|27=>304|26=>303|28=>308|29=>309|30=>310|31=>311|32=>312|33=>313|35=>315|34=>314|36=>316|37=>317|38=>318|39=>255|40=>319|n=>n,fun|9=>9|3=>3|22=>31|24=>56|25=>272|4=>4|34=>308|5=>5|36=>74|37=>85|0=>0|39=>310|21=>21|44=>316|47=>321|50=>324|48=>322|2=>2|52=>326|55=>329|59=>332|60=>34|20=>20|61=>333|65=>303|66=>335|67=>336|n=>n,fun|0=>5|1=>6|2=>7|3=>4|4=>8|n=>n⟩
theorem Tryz.laysPu14:Go.Proofs.LaysPu.n14 Tryz.prog Tryz.laysPu14_ren:={
 mixed:=by kernel_rfl
 f14:=Tryz.func236.trans (congrArg some (by kernel_rfl))
 f16:=Tryz.func276.trans (congrArg some (by kernel_rfl))
 f17:=Tryz.func277.trans (congrArg some (by kernel_rfl))
 f19:=Tryz.func291.trans (congrArg some (by kernel_rfl))
 f20:=Tryz.func292.trans (congrArg some (by kernel_rfl))
 f21:=Tryz.func293.trans (congrArg some (by kernel_rfl))
 f22:=Tryz.func294.trans (congrArg some (by kernel_rfl))
 f23:=Tryz.func295.trans (congrArg some (by kernel_rfl))
 f24:=Tryz.func296.trans (congrArg some (by kernel_rfl))
 f25:=Tryz.func302.trans (congrArg some (by kernel_rfl))
 f26:=Tryz.func303.trans (congrArg some (by kernel_rfl))
 f27:=Tryz.func304.trans (congrArg some (by kernel_rfl))
 f28:=Tryz.func308.trans (congrArg some (by kernel_rfl))
 f29:=Tryz.func309.trans (congrArg some (by kernel_rfl))
 f30:=Tryz.func310.trans (congrArg some (by kernel_rfl))
 f31:=Tryz.func311.trans (congrArg some (by kernel_rfl))
 f32:=Tryz.func312.trans (congrArg some (by kernel_rfl))
 f33:=Tryz.func313.trans (congrArg some (by kernel_rfl))
 f34:=Tryz.func314.trans (congrArg some (by kernel_rfl))
 f35:=Tryz.func315.trans (congrArg some (by kernel_rfl))
 f36:=Tryz.func316.trans (congrArg some (by kernel_rfl))
 f37:=Tryz.func317.trans (congrArg some (by kernel_rfl))
 f38:=Tryz.func318.trans (congrArg some (by kernel_rfl))
 f39:=Tryz.func255.trans (congrArg some (by kernel_rfl))
 f40:=Tryz.func319.trans (congrArg some (by kernel_rfl))
 t0:=Tryz.underlying0
 a0:=Tryz.isAgg0
 z0:=Tryz.sizeOf0
 v0:=Tryz.zeroValue0
 i0:=by kernel_rfl
 t2:=Tryz.underlying2
 a2:=Tryz.isAgg2
 z2:=Tryz.sizeOf2
 v2:=Tryz.zeroValue2
 i2:=by kernel_rfl
 t3:=Tryz.underlying3
 a3:=Tryz.isAgg3
 z3:=Tryz.sizeOf3
 v3:=Tryz.zeroValue3
 i3:=by kernel_rfl
 t4:=Tryz.underlying4
 a4:=Tryz.isAgg4
 z4:=Tryz.sizeOf4
 v4:=Tryz.zeroValue4
 i4:=by kernel_rfl
 t5:=Tryz.underlying5
 a5:=Tryz.isAgg5
 z5:=Tryz.sizeOf5
 v5:=Tryz.zeroValue5
 i5:=by kernel_rfl
 t9:=Tryz.underlying9
 a9:=Tryz.isAgg9
 z9:=Tryz.sizeOf9
 v9:=Tryz.zeroValue9
 i9:=by kernel_rfl
 t20:=Tryz.underlying20
 a20:=Tryz.isAgg20
 z20:=Tryz.sizeOf20
 v20:=Tryz.zeroValue20
 i20:=by kernel_rfl
 t21:=Tryz.underlying21
 a21:=Tryz.isAgg21
 z21:=Tryz.sizeOf21
 v21:=Tryz.zeroValue21
 i21:=by kernel_rfl
 t22:=Tryz.underlying31
 a22:=Tryz.isAgg31
 z22:=Tryz.sizeOf31
 v22:=Tryz.zeroValue31
 i22:=by kernel_rfl
 t24:=Tryz.underlying56
 a24:=Tryz.isAgg56
 z24:=Tryz.sizeOf56
 v24:=Tryz.zeroValue56
 i24:=by kernel_rfl
 t25:=Tryz.underlying272
 a25:=Tryz.isAgg272
 z25:=Tryz.sizeOf272
 v25:=Tryz.zeroValue272
 i25:=by kernel_rfl
 t34:=Tryz.underlying308
 a34:=Tryz.isAgg308
 z34:=Tryz.sizeOf308
 v34:=Tryz.zeroValue308
 i34:=by kernel_rfl
 c34:=by kernel_rfl
 t36:=Tryz.underlying74
 a36:=Tryz.isAgg74
 z36:=Tryz.sizeOf74
 v36:=Tryz.zeroValue74
 i36:=by kernel_rfl
 t37:=Tryz.underlying85
 a37:=Tryz.isAgg85
 z37:=Tryz.sizeOf85
 v37:=Tryz.zeroValue85
 i37:=by kernel_rfl
 t39:=Tryz.underlying310
 a39:=Tryz.isAgg310
 z39:=Tryz.sizeOf310
 v39:=Tryz.zeroValue310
 i39:=by kernel_rfl
 t44:=Tryz.underlying316
 a44:=Tryz.isAgg316
 z44:=Tryz.sizeOf316
 v44:=Tryz.zeroValue316
 i44:=by kernel_rfl
 t47:=Tryz.underlying321
 a47:=Tryz.isAgg321
 z47:=Tryz.sizeOf321
 v47:=Tryz.zeroValue321
 i47:=by kernel_rfl
 t48:=Tryz.underlying322
 a48:=Tryz.isAgg322
 z48:=Tryz.sizeOf322
 v48:=Tryz.zeroValue322
 i48:=by kernel_rfl
 t50:=Tryz.underlying324
 a50:=Tryz.isAgg324
 z50:=Tryz.sizeOf324
 v50:=Tryz.zeroValue324
 i50:=by kernel_rfl
 t52:=Tryz.underlying326
 a52:=Tryz.isAgg326
 z52:=Tryz.sizeOf326
 v52:=Tryz.zeroValue326
 i52:=by kernel_rfl
 t55:=Tryz.underlying329
 a55:=Tryz.isAgg329
 z55:=Tryz.sizeOf329
 v55:=Tryz.zeroValue329
 i55:=by kernel_rfl
 t59:=Tryz.underlying332
 a59:=Tryz.isAgg332
 z59:=Tryz.sizeOf332
 v59:=Tryz.zeroValue332
 i59:=by kernel_rfl
 t60:=Tryz.underlying34
 a60:=Tryz.isAgg34
 z60:=Tryz.sizeOf34
 v60:=Tryz.zeroValue34
 i60:=by kernel_rfl
 t61:=Tryz.underlying333
 a61:=Tryz.isAgg333
 z61:=Tryz.sizeOf333
 t65:=Tryz.underlying303
 a65:=Tryz.isAgg303
 z65:=Tryz.sizeOf303
 v65:=Tryz.zeroValue303
 i65:=by kernel_rfl
 t66:=Tryz.underlying335
 a66:=Tryz.isAgg335
 z66:=Tryz.sizeOf335
 v66:=Tryz.zeroValue335
 i66:=by kernel_rfl
 t67:=Tryz.underlying336
 a67:=Tryz.isAgg336
 z67:=Tryz.sizeOf336
 v67:=Tryz.zeroValue336
 i67:=by kernel_rfl
 g0:=by kernel_rfl
 m0:=by kernel_rfl
 g1:=by kernel_rfl
 m1:=by kernel_rfl
 g2:=by kernel_rfl
 m2:=by kernel_rfl
 g3:=by kernel_rfl
 m3:=by kernel_rfl
 g4:=by kernel_rfl
 m4:=by kernel_rfl}
open Go.RowKit in
theorem Tryz.strconv_ParseUint_10_at64_ok(s:ByteArray)(hmax:s.size<=9223372036854775806)(u:Nat)(h:Lib.parseUintB 64 s.data.toList=.ok u)(w:World):
  Calls Tryz.prog 236 #[.string s,.int .i64 10,.int .i64 64] w fun e w'=>e=.returned (.tuple #[.int .u64 u,.nilIface])/\(w'=w\/w'=Lib.bytesWorld w 5 s):=Any.strconv_ParseUint_10_at64_ok Tryz.laysPu14 s hmax u h w
open Go.RowKit in
theorem Tryz.strconv_ParseUint_10_at64_range(s:ByteArray)(hlim:s.size<=281474976710656)(h:Lib.parseUintB 64 s.data.toList=.range)(ev:Value)(w:World)(hv:w.cell? ⟨6,0,none⟩=some ev)(hev:ev=.nilIface\/∃te pe,ev=.iface te pe):
  Calls Tryz.prog 236 #[.string s,.int .i64 10,.int .i64 64] w fun e w'=>∃N,e=.returned (.tuple #[.int .u64 18446744073709551615,.iface 310 (.pointer (some ⟨N,0,none⟩))])/\w.heap.size<=N/\w'.heap[N]?=some (.cells #[.string ⟨#[80,97,114,115,101,85,105,110,116]⟩,.string s,ev] 316 (0,0))/\Below w.heap.size w w':=Any.strconv_ParseUint_10_at64_range Tryz.laysPu14 s hlim h ev w hv hev
open Go.RowKit Go.Lib in
def Tryz.lays99_ren:Go.Shelf.Ren:=⟨fun|99=>174|206=>222|n=>n,fun|9=>9|4=>4|3=>3|n=>n,fun|n=>n⟩
theorem Tryz.lays99:Go.Proofs.Lays.n99 Tryz.prog Tryz.lays99_ren:={
 mixed:=by kernel_rfl
 f99:=Tryz.func174.trans (congrArg some (by kernel_rfl))
 f206:=Tryz.func222.trans (congrArg some (by kernel_rfl))
 t3:=Tryz.underlying3
 a3:=Tryz.isAgg3
 z3:=Tryz.sizeOf3
 v3:=Tryz.zeroValue3
 t4:=Tryz.underlying4
 a4:=Tryz.isAgg4
 z4:=Tryz.sizeOf4
 v4:=Tryz.zeroValue4
 t9:=Tryz.underlying9
 a9:=Tryz.isAgg9
 z9:=Tryz.sizeOf9
 v9:=Tryz.zeroValue9}
open Go.RowKit Go.Lib in
theorem Tryz.strings_HasPrefix(s p:ByteArray)(w:World):
  Calls Tryz.prog 174 #[.string s,.string p] w fun e w'=>e=.returned (.bool (Lib.hasPrefix s.data.toList p.data.toList))/\w'=w:=Any.strings_HasPrefix Tryz.lays99 s p w
open Go.RowKit Go.Lib in
def Tryz.lays260_ren:Go.Shelf.Ren:=⟨fun|260=>237|n=>n,fun|9=>9|21=>21|3=>3|4=>4|5=>5|119=>298|0=>0|46=>74|139=>301|138=>300|n=>n,fun|3=>2|4=>3|n=>n⟩
theorem Tryz.lays260:Go.Proofs.Lays.n260 Tryz.prog Tryz.lays260_ren:={
 mixed:=by kernel_rfl
 f260:=Tryz.func237.trans (congrArg some (by kernel_rfl))
 t0:=Tryz.underlying0
 a0:=Tryz.isAgg0
 z0:=Tryz.sizeOf0
 v0:=Tryz.zeroValue0
 t3:=Tryz.underlying3
 a3:=Tryz.isAgg3
 z3:=Tryz.sizeOf3
 v3:=Tryz.zeroValue3
 t4:=Tryz.underlying4
 a4:=Tryz.isAgg4
 z4:=Tryz.sizeOf4
 v4:=Tryz.zeroValue4
 t5:=Tryz.underlying5
 a5:=Tryz.isAgg5
 z5:=Tryz.sizeOf5
 v5:=Tryz.zeroValue5
 t9:=Tryz.underlying9
 a9:=Tryz.isAgg9
 z9:=Tryz.sizeOf9
 v9:=Tryz.zeroValue9
 t21:=Tryz.underlying21
 a21:=Tryz.isAgg21
 z21:=Tryz.sizeOf21
 v21:=Tryz.zeroValue21
 t46:=Tryz.underlying74
 a46:=Tryz.isAgg74
 z46:=Tryz.sizeOf74
 v46:=Tryz.zeroValue74
 t119:=Tryz.underlying298
 a119:=Tryz.isAgg298
 z119:=Tryz.sizeOf298
 t138:=Tryz.underlying300
 a138:=Tryz.isAgg300
 z138:=Tryz.sizeOf300
 v138:=Tryz.zeroValue300
 t139:=Tryz.underlying301
 a139:=Tryz.isAgg301
 z139:=Tryz.sizeOf301
 v139:=Tryz.zeroValue301
 g3:=by kernel_rfl
 g4:=by kernel_rfl}
open Go.RowKit Go.Lib in
def Tryz.lays197_ren:Go.Shelf.Ren:=⟨fun|197=>180|260=>237|n=>n,fun|9=>9|21=>21|3=>3|4=>4|5=>5|105=>219|119=>298|0=>0|46=>74|139=>301|138=>300|n=>n,fun|3=>2|4=>3|n=>n⟩
theorem Tryz.lays197:Go.Proofs.Lays.n197 Tryz.prog Tryz.lays197_ren:={
 mixed:=by kernel_rfl
 f197:=Tryz.func180.trans (congrArg some (by kernel_rfl))
 f260:=Tryz.func237.trans (congrArg some (by kernel_rfl))
 t0:=Tryz.underlying0
 a0:=Tryz.isAgg0
 z0:=Tryz.sizeOf0
 v0:=Tryz.zeroValue0
 t3:=Tryz.underlying3
 a3:=Tryz.isAgg3
 z3:=Tryz.sizeOf3
 v3:=Tryz.zeroValue3
 t4:=Tryz.underlying4
 a4:=Tryz.isAgg4
 z4:=Tryz.sizeOf4
 v4:=Tryz.zeroValue4
 t5:=Tryz.underlying5
 a5:=Tryz.isAgg5
 z5:=Tryz.sizeOf5
 v5:=Tryz.zeroValue5
 t9:=Tryz.underlying9
 a9:=Tryz.isAgg9
 z9:=Tryz.sizeOf9
 v9:=Tryz.zeroValue9
 t21:=Tryz.underlying21
 a21:=Tryz.isAgg21
 z21:=Tryz.sizeOf21
 v21:=Tryz.zeroValue21
 t46:=Tryz.underlying74
 a46:=Tryz.isAgg74
 z46:=Tryz.sizeOf74
 v46:=Tryz.zeroValue74
 t105:=Tryz.underlying219
 a105:=Tryz.isAgg219
 z105:=Tryz.sizeOf219
 v105:=Tryz.zeroValue219
 t119:=Tryz.underlying298
 a119:=Tryz.isAgg298
 z119:=Tryz.sizeOf298
 t138:=Tryz.underlying300
 a138:=Tryz.isAgg300
 z138:=Tryz.sizeOf300
 v138:=Tryz.zeroValue300
 t139:=Tryz.underlying301
 a139:=Tryz.isAgg301
 z139:=Tryz.sizeOf301
 v139:=Tryz.zeroValue301
 g3:=by kernel_rfl
 g4:=by kernel_rfl}
open Go.RowKit Go.Lib in
theorem Tryz.utf8_DecodeRuneInString(s:ByteArray)(w:World)(hT:Lib.Utf8Tabs 2 3 w):
  Calls Tryz.prog 180 #[.string s] w fun e w'=>e=.returned (.tuple #[.int .i32 (Lib.decodeGo s).1,.int .i64 (Lib.decodeGo s).2])/\Below w.heap.size w w':=Any.utf8_DecodeRuneInString Tryz.lays197 s w hT
end Go.Proofs
