/- Lemmas. -/
import Derived.Shelf.Strings.Builder1
import Derived.Shelf.Strings.Trim
import Derived.Shelf.Small.Utf8
import Derived.Shelf.Small.Bits
import Derived.Shelf.Small.Strs
import Derived.Shelf.Strings.BuilderF
import Derived.Shelf.Strings.BuilderK
import Derived.Shelf.Strconv.Itoa0
import Derived.Shelf.Strconv.Itoa1
import Derived.Shelf.LaysM
import Derived.Shelf.Strconv.Itoa2
import Derived.Shelf.Strconv.Itoa3
import Derived.Shelf.Strconv.Clone
import Derived.Shelf.Strconv.Lower
import Derived.Shelf.Strconv.ParseUint10
import Derived.Shelf.Strconv.ParseUint10Empty
import Derived.Shelf.Strconv.ParseUint10Any
import Derived.Shelf.Strconv.RangeError
import Derived.Shelf.LaysC
import Derived.Shelf.Strconv.ToErrorRange
import Derived.Ground.MpProg
import Derived.Shelf.Pu.ParseUintPublic10
import Derived.Shelf.Pu.ErrVarParseUint
import Derived.Shelf.Strings.Search1
import Derived.Shelf.Strings.Prefix
import Derived.Shelf.Strings.Runes
import Derived.Shelf.Strings.AsciiSet
import Derived.Shelf.Bits.Mul64
import Derived.Shelf.Unicode.DecodeSlow
import Derived.Shelf.Unicode.DecodeAny
import Derived.Test.YtppgcnhlpnmieaaGreatDoorProg
set_option linter.all false
namespace Go.Proofs
open Go.Shelf
def Tryz.lays170_ren:Go.Shelf.Ren:=⟨fun|170=>150|n=>n,fun|70=>185|3=>3|0=>0|72=>187|37=>132|5=>5|n=>n,fun|n=>n⟩
theorem Tryz.lays170:Go.Proofs.Lays.n170 Tryz.prog Tryz.lays170_ren:={
 mixed:=by kernel_rfl
 f170:=Tryz.func150.trans (congrArg some (by kernel_rfl))
 t0:=Tryz.underlying0
 a0:=Tryz.isAgg0
 z0:=Tryz.sizeOf0
 v0:=Tryz.zeroValue0
 t3:=Tryz.underlying3
 a3:=Tryz.isAgg3
 z3:=Tryz.sizeOf3
 v3:=Tryz.zeroValue3
 t37:=Tryz.underlying132
 a37:=Tryz.isAgg132
 z37:=Tryz.sizeOf132
 v37:=Tryz.zeroValue132
 t70:=Tryz.underlying185
 a70:=Tryz.isAgg185
 z70:=Tryz.sizeOf185
 v70:=Tryz.zeroValue185
 t72:=Tryz.underlying187
 a72:=Tryz.isAgg187
 z72:=Tryz.sizeOf187
 v72:=Tryz.zeroValue187}
open Go.RowKit in
def Tryz.lays169_ren:Go.Shelf.Ren:=⟨fun|169=>137|n=>n,fun|70=>185|9=>9|0=>0|72=>187|37=>132|127=>274|3=>3|5=>5|n=>n,fun|n=>n⟩
open Go.RowKit in
open Go.RowKit in
open Go.RowKit in
def Tryz.lays231_ren:Go.Shelf.Ren:=⟨fun|231=>368|n=>n,fun|9=>9|5=>5|3=>3|4=>4|n=>n,fun|n=>n⟩
open Go.RowKit in
def Tryz.lays232_ren:Go.Shelf.Ren:=⟨fun|232=>372|n=>n,fun|9=>9|5=>5|3=>3|4=>4|n=>n,fun|n=>n⟩
open Go.RowKit in
def Tryz.lays161_ren:Go.Shelf.Ren:=⟨fun|161=>347|231=>368|227=>369|233=>370|235=>371|228=>384|197=>293|151=>385|260=>350|152=>394|137=>122|119=>398|224=>399|225=>400|217=>220|266=>286|n=>n,fun|9=>9|4=>4|3=>3|5=>5|117=>369|116=>368|0=>0|124=>372|105=>309|21=>21|119=>374|46=>78|139=>377|138=>376|n=>n,fun|3=>3|4=>4|n=>n⟩
theorem Tryz.lays161:Go.Proofs.Lays.n161 Tryz.prog Tryz.lays161_ren:={
 mixed:=by kernel_rfl
 f119:=Tryz.func398.trans (congrArg some (by kernel_rfl))
 f137:=Tryz.func122.trans (congrArg some (by kernel_rfl))
 f151:=Tryz.func385.trans (congrArg some (by kernel_rfl))
 f152:=Tryz.func394.trans (congrArg some (by kernel_rfl))
 f161:=Tryz.func347.trans (congrArg some (by kernel_rfl))
 f197:=Tryz.func293.trans (congrArg some (by kernel_rfl))
 f217:=Tryz.func220.trans (congrArg some (by kernel_rfl))
 f224:=Tryz.func399.trans (congrArg some (by kernel_rfl))
 f225:=Tryz.func400.trans (congrArg some (by kernel_rfl))
 f227:=Tryz.func369.trans (congrArg some (by kernel_rfl))
 f228:=Tryz.func384.trans (congrArg some (by kernel_rfl))
 f231:=Tryz.func368.trans (congrArg some (by kernel_rfl))
 f233:=Tryz.func370.trans (congrArg some (by kernel_rfl))
 f235:=Tryz.func371.trans (congrArg some (by kernel_rfl))
 f260:=Tryz.func350.trans (congrArg some (by kernel_rfl))
 f266:=Tryz.func286.trans (congrArg some (by kernel_rfl))
 t0:=Tryz.underlying0
 a0:=Tryz.isAgg0
 z0:=Tryz.sizeOf0
 v0:=Tryz.zeroValue0
 t3:=Tryz.underlying3
 a3:=Tryz.isAgg3
 z3:=Tryz.sizeOf3
 v3:=Tryz.zeroValue3
 t4:=Tryz.underlying4
 a4:=Tryz.isAgg4
 z4:=Tryz.sizeOf4
 v4:=Tryz.zeroValue4
 t5:=Tryz.underlying5
 a5:=Tryz.isAgg5
 z5:=Tryz.sizeOf5
 v5:=Tryz.zeroValue5
 t9:=Tryz.underlying9
 a9:=Tryz.isAgg9
 z9:=Tryz.sizeOf9
 v9:=Tryz.zeroValue9
 t21:=Tryz.underlying21
 a21:=Tryz.isAgg21
 z21:=Tryz.sizeOf21
 v21:=Tryz.zeroValue21
 t46:=Tryz.underlying78
 a46:=Tryz.isAgg78
 z46:=Tryz.sizeOf78
 v46:=Tryz.zeroValue78
 t105:=Tryz.underlying309
 a105:=Tryz.isAgg309
 z105:=Tryz.sizeOf309
 v105:=Tryz.zeroValue309
 t116:=Tryz.underlying368
 a116:=Tryz.isAgg368
 z116:=Tryz.sizeOf368
 t117:=Tryz.underlying369
 a117:=Tryz.isAgg369
 z117:=Tryz.sizeOf369
 v117:=Tryz.zeroValue369
 t119:=Tryz.underlying374
 a119:=Tryz.isAgg374
 z119:=Tryz.sizeOf374
 t124:=Tryz.underlying372
 a124:=Tryz.isAgg372
 z124:=Tryz.sizeOf372
 v124:=Tryz.zeroValue372
 t138:=Tryz.underlying376
 a138:=Tryz.isAgg376
 z138:=Tryz.sizeOf376
 v138:=Tryz.zeroValue376
 t139:=Tryz.underlying377
 a139:=Tryz.isAgg377
 z139:=Tryz.sizeOf377
 v139:=Tryz.zeroValue377
 g3:=by kernel_rfl
 g4:=by kernel_rfl}
open Go.RowKit in
theorem Tryz.strings_TrimLeft_one(s:ByteArray)(c:UInt8)(hc:c.toNat<128)(w:World):
  Calls Tryz.prog 347 #[.string s,.string ⟨#[c]⟩] w fun e w'=>e=.returned (.string ⟨(Lib.trimLeftB s.data.toList c).toArray⟩)/\w'=w:=Any.strings_TrimLeft_one Tryz.lays161 s c hc w
def Tryz.lays162_ren:Go.Shelf.Ren:=⟨fun|162=>348|232=>372|227=>369|234=>373|236=>374|228=>384|271=>386|151=>385|120=>395|197=>293|152=>394|260=>350|137=>122|119=>398|224=>399|225=>400|217=>220|266=>286|n=>n,fun|9=>9|4=>4|3=>3|5=>5|117=>369|116=>368|0=>0|124=>372|21=>21|105=>309|46=>78|119=>374|139=>377|138=>376|n=>n,fun|3=>3|4=>4|n=>n⟩
theorem Tryz.lays162:Go.Proofs.Lays.n162 Tryz.prog Tryz.lays162_ren:={
 mixed:=by kernel_rfl
 f119:=Tryz.func398.trans (congrArg some (by kernel_rfl))
 f120:=Tryz.func395.trans (congrArg some (by kernel_rfl))
 f137:=Tryz.func122.trans (congrArg some (by kernel_rfl))
 f151:=Tryz.func385.trans (congrArg some (by kernel_rfl))
 f152:=Tryz.func394.trans (congrArg some (by kernel_rfl))
 f162:=Tryz.func348.trans (congrArg some (by kernel_rfl))
 f197:=Tryz.func293.trans (congrArg some (by kernel_rfl))
 f217:=Tryz.func220.trans (congrArg some (by kernel_rfl))
 f224:=Tryz.func399.trans (congrArg some (by kernel_rfl))
 f225:=Tryz.func400.trans (congrArg some (by kernel_rfl))
 f227:=Tryz.func369.trans (congrArg some (by kernel_rfl))
 f228:=Tryz.func384.trans (congrArg some (by kernel_rfl))
 f232:=Tryz.func372.trans (congrArg some (by kernel_rfl))
 f234:=Tryz.func373.trans (congrArg some (by kernel_rfl))
 f236:=Tryz.func374.trans (congrArg some (by kernel_rfl))
 f260:=Tryz.func350.trans (congrArg some (by kernel_rfl))
 f266:=Tryz.func286.trans (congrArg some (by kernel_rfl))
 f271:=Tryz.func386.trans (congrArg some (by kernel_rfl))
 t0:=Tryz.underlying0
 a0:=Tryz.isAgg0
 z0:=Tryz.sizeOf0
 v0:=Tryz.zeroValue0
 t3:=Tryz.underlying3
 a3:=Tryz.isAgg3
 z3:=Tryz.sizeOf3
 v3:=Tryz.zeroValue3
 t4:=Tryz.underlying4
 a4:=Tryz.isAgg4
 z4:=Tryz.sizeOf4
 v4:=Tryz.zeroValue4
 t5:=Tryz.underlying5
 a5:=Tryz.isAgg5
 z5:=Tryz.sizeOf5
 v5:=Tryz.zeroValue5
 t9:=Tryz.underlying9
 a9:=Tryz.isAgg9
 z9:=Tryz.sizeOf9
 v9:=Tryz.zeroValue9
 t21:=Tryz.underlying21
 a21:=Tryz.isAgg21
 z21:=Tryz.sizeOf21
 v21:=Tryz.zeroValue21
 t46:=Tryz.underlying78
 a46:=Tryz.isAgg78
 z46:=Tryz.sizeOf78
 v46:=Tryz.zeroValue78
 t105:=Tryz.underlying309
 a105:=Tryz.isAgg309
 z105:=Tryz.sizeOf309
 v105:=Tryz.zeroValue309
 t116:=Tryz.underlying368
 a116:=Tryz.isAgg368
 z116:=Tryz.sizeOf368
 t117:=Tryz.underlying369
 a117:=Tryz.isAgg369
 z117:=Tryz.sizeOf369
 v117:=Tryz.zeroValue369
 t119:=Tryz.underlying374
 a119:=Tryz.isAgg374
 z119:=Tryz.sizeOf374
 t124:=Tryz.underlying372
 a124:=Tryz.isAgg372
 z124:=Tryz.sizeOf372
 v124:=Tryz.zeroValue372
 t138:=Tryz.underlying376
 a138:=Tryz.isAgg376
 z138:=Tryz.sizeOf376
 v138:=Tryz.zeroValue376
 t139:=Tryz.underlying377
 a139:=Tryz.isAgg377
 z139:=Tryz.sizeOf377
 v139:=Tryz.zeroValue377
 g3:=by kernel_rfl
 g4:=by kernel_rfl}
open Go.RowKit in
theorem Tryz.strings_TrimRight_one(s:ByteArray)(c:UInt8)(hc:c.toNat<128)(w:World)(hs:s.size<=9223372036854775807):
  Calls Tryz.prog 348 #[.string s,.string ⟨#[c]⟩] w fun e w'=>e=.returned (.string ⟨(Lib.trimRightB s.data.toList c).toArray⟩)/\w'=w:=Any.strings_TrimRight_one Tryz.lays162 s c hc w hs
def Tryz.lays118_ren:Go.Shelf.Ren:=⟨fun|118=>338|n=>n,fun|21=>21|3=>3|4=>4|n=>n,fun|n=>n⟩
theorem Tryz.lays118:Go.Proofs.Lays.n118 Tryz.prog Tryz.lays118_ren:={
 mixed:=by kernel_rfl
 f118:=Tryz.func338.trans (congrArg some (by kernel_rfl))
 t3:=Tryz.underlying3
 a3:=Tryz.isAgg3
 z3:=Tryz.sizeOf3
 v3:=Tryz.zeroValue3
 t4:=Tryz.underlying4
 a4:=Tryz.isAgg4
 z4:=Tryz.sizeOf4
 v4:=Tryz.zeroValue4
 t21:=Tryz.underlying21
 a21:=Tryz.isAgg21
 z21:=Tryz.sizeOf21
 v21:=Tryz.zeroValue21}
theorem Tryz.utf8_RuneLen(r:Int)(w:World):
  Calls Tryz.prog 338 #[.int .i32 r] w fun e w'=>e=.returned (.int .i64 (Lib.runeLen r))/\w'=w:=Any.utf8_RuneLen Tryz.lays118 r w
def Tryz.lays119_ren:Go.Shelf.Ren:=⟨fun|119=>398|n=>n,fun|21=>21|4=>4|n=>n,fun|n=>n⟩
def Tryz.lays120_ren:Go.Shelf.Ren:=⟨fun|120=>395|n=>n,fun|5=>5|4=>4|n=>n,fun|n=>n⟩
def Tryz.lays128_ren:Go.Shelf.Ren:=⟨fun|128=>158|n=>n,fun|51=>34|3=>3|4=>4|46=>78|5=>5|9=>9|n=>n,fun|n=>n⟩
theorem Tryz.lays128:Go.Proofs.Lays.n128 Tryz.prog Tryz.lays128_ren:={
 mixed:=by kernel_rfl
 f128:=Tryz.func158.trans (congrArg some (by kernel_rfl))
 t3:=Tryz.underlying3
 a3:=Tryz.isAgg3
 z3:=Tryz.sizeOf3
 v3:=Tryz.zeroValue3
 t4:=Tryz.underlying4
 a4:=Tryz.isAgg4
 z4:=Tryz.sizeOf4
 v4:=Tryz.zeroValue4
 t5:=Tryz.underlying5
 a5:=Tryz.isAgg5
 z5:=Tryz.sizeOf5
 v5:=Tryz.zeroValue5
 t9:=Tryz.underlying9
 a9:=Tryz.isAgg9
 z9:=Tryz.sizeOf9
 v9:=Tryz.zeroValue9
 t46:=Tryz.underlying78
 a46:=Tryz.isAgg78
 z46:=Tryz.sizeOf78
 v46:=Tryz.zeroValue78
 t51:=Tryz.underlying34
 a51:=Tryz.isAgg34
 z51:=Tryz.sizeOf34
 v51:=Tryz.zeroValue34}
theorem Tryz.bits_Len32(x:Int)(w:World)(h0:0<=x)(h1:x<=4294967295):
  Calls Tryz.prog 158 #[.int .u32 x] w fun e w'=>e=.returned (.int .i64 (Lib.bitLen x.toNat))/\w'=w:=Any.bits_Len32 Tryz.lays128 x w h0 h1
def Tryz.lays133_ren:Go.Shelf.Ren:=⟨fun|133=>132|128=>158|n=>n,fun|51=>34|3=>3|4=>4|46=>78|5=>5|9=>9|n=>n,fun|n=>n⟩
theorem Tryz.lays133:Go.Proofs.Lays.n133 Tryz.prog Tryz.lays133_ren:={
 mixed:=by kernel_rfl
 f128:=Tryz.func158.trans (congrArg some (by kernel_rfl))
 f133:=Tryz.func132.trans (congrArg some (by kernel_rfl))
 t3:=Tryz.underlying3
 a3:=Tryz.isAgg3
 z3:=Tryz.sizeOf3
 v3:=Tryz.zeroValue3
 t4:=Tryz.underlying4
 a4:=Tryz.isAgg4
 z4:=Tryz.sizeOf4
 v4:=Tryz.zeroValue4
 t5:=Tryz.underlying5
 a5:=Tryz.isAgg5
 z5:=Tryz.sizeOf5
 v5:=Tryz.zeroValue5
 t9:=Tryz.underlying9
 a9:=Tryz.isAgg9
 z9:=Tryz.sizeOf9
 v9:=Tryz.zeroValue9
 t46:=Tryz.underlying78
 a46:=Tryz.isAgg78
 z46:=Tryz.sizeOf78
 v46:=Tryz.zeroValue78
 t51:=Tryz.underlying34
 a51:=Tryz.isAgg34
 z51:=Tryz.sizeOf34
 v51:=Tryz.zeroValue34}
theorem Tryz.bits_LeadingZeros32(x:Int)(w:World)(h0:0<=x)(h1:x<=4294967295):
  Calls Tryz.prog 132 #[.int .u32 x] w fun e w'=>e=.returned (.int .i64 (32-(Lib.bitLen x.toNat:Int)))/\w'=w:=Any.bits_LeadingZeros32 Tryz.lays133 x w h0 h1
def Tryz.lays137_ren:Go.Shelf.Ren:=⟨fun|137=>122|217=>220|266=>286|n=>n,fun|9=>9|5=>5|3=>3|n=>n,fun|n=>n⟩
theorem Tryz.lays137:Go.Proofs.Lays.n137 Tryz.prog Tryz.lays137_ren:={
 mixed:=by kernel_rfl
 f137:=Tryz.func122.trans (congrArg some (by kernel_rfl))
 f217:=Tryz.func220.trans (congrArg some (by kernel_rfl))
 f266:=Tryz.func286.trans (congrArg some (by kernel_rfl))
 t3:=Tryz.underlying3
 a3:=Tryz.isAgg3
 z3:=Tryz.sizeOf3
 v3:=Tryz.zeroValue3
 t5:=Tryz.underlying5
 a5:=Tryz.isAgg5
 z5:=Tryz.sizeOf5
 v5:=Tryz.zeroValue5
 t9:=Tryz.underlying9
 a9:=Tryz.isAgg9
 z9:=Tryz.sizeOf9
 v9:=Tryz.zeroValue9}
open Go.RowKit in
theorem Tryz.strings_IndexByte(s:ByteArray)(c:Int)(w:World):
  Calls Tryz.prog 122 #[.string s,.int .u8 c] w fun e w'=>e=.returned (.int .i64 (Lib.indexByte s.data.toList c.toNat.toUInt8))/\w'=w:=Any.strings_IndexByte Tryz.lays137 s c w
open Go.RowKit in
theorem Tryz.Builder_Len_f(B b:Nat)(bs:List Value)(w:World)(h:Lib.IsBuilderF 187 5 B b bs w):
  Calls Tryz.prog 150 #[.pointer (some ⟨b,0,none⟩)] w fun e w'=>e=.returned (.int .i64 bs.length)/\w'=w:=Any.Builder_Len_f Tryz.lays170 B b bs w h
open Go.RowKit in
open Go.RowKit in
open Go.RowKit in
open Go.RowKit in
open Go.RowKit in
open Go.RowKit in
def Tryz.lays129_ren:Go.Shelf.Ren:=⟨fun|129=>145|n=>n,fun|53=>31|3=>3|4=>4|46=>78|5=>5|9=>9|n=>n,fun|n=>n⟩
theorem Tryz.lays129:Go.Proofs.Lays.n129 Tryz.prog Tryz.lays129_ren:={
 mixed:=by kernel_rfl
 f129:=Tryz.func145.trans (congrArg some (by kernel_rfl))
 t3:=Tryz.underlying3
 a3:=Tryz.isAgg3
 z3:=Tryz.sizeOf3
 v3:=Tryz.zeroValue3
 t4:=Tryz.underlying4
 a4:=Tryz.isAgg4
 z4:=Tryz.sizeOf4
 v4:=Tryz.zeroValue4
 t5:=Tryz.underlying5
 a5:=Tryz.isAgg5
 z5:=Tryz.sizeOf5
 v5:=Tryz.zeroValue5
 t9:=Tryz.underlying9
 a9:=Tryz.isAgg9
 z9:=Tryz.sizeOf9
 v9:=Tryz.zeroValue9
 t46:=Tryz.underlying78
 a46:=Tryz.isAgg78
 z46:=Tryz.sizeOf78
 v46:=Tryz.zeroValue78
 t53:=Tryz.underlying31
 a53:=Tryz.isAgg31
 z53:=Tryz.sizeOf31
 v53:=Tryz.zeroValue31}
theorem Tryz.bits_Len64(x:Int)(w:World)(h0:0<=x)(h1:x<=18446744073709551615):
  Calls Tryz.prog 145 #[.int .u64 x] w fun e w'=>e=.returned (.int .i64 (Lib.bitLen x.toNat))/\w'=w:=Any.bits_Len64 Tryz.lays129 x w h0 h1
def Tryz.lays317_ren:Go.Shelf.Ren:=⟨fun|317=>377|n=>n,fun|3=>3|46=>78|n=>n,fun|n=>n⟩
open Go.Lib in
def Tryz.lays318_ren:Go.Shelf.Ren:=⟨fun|318=>378|n=>n,fun|3=>3|4=>4|n=>n,fun|n=>n⟩
open Go.Lib in
def Tryz.lays283_ren:Go.Shelf.Ren:=⟨fun|283=>351|n=>n,fun|3=>3|9=>9|4=>4|n=>n,fun|n=>n⟩
open Go.Lib in
def Tryz.laysM284_ren:Go.Shelf.Ren:=⟨fun|284=>352|129=>145|317=>377|318=>378|n=>n,fun|53=>31|3=>3|212=>379|0=>0|4=>4|46=>78|5=>5|9=>9|n=>n,fun|17=>5|n=>n⟩
open Go.Lib in
def Tryz.lays285_ren:Go.Shelf.Ren:=⟨fun|285=>353|n=>n,fun|37=>132|53=>31|3=>3|4=>4|51=>34|9=>9|5=>5|0=>0|n=>n,fun|n=>n⟩
open Go.RowKit Go.Sort Go.Lib in
def Tryz.laysM246_ren:Go.Shelf.Ren:=⟨fun|246=>298|283=>351|284=>352|285=>353|286=>354|129=>145|317=>377|318=>378|319=>379|320=>380|337=>271|338=>393|n=>n,fun|2=>2|3=>3|9=>9|4=>4|171=>355|0=>0|53=>31|37=>132|5=>5|173=>357|212=>379|51=>34|20=>20|213=>380|46=>78|232=>339|233=>395|n=>n,fun|17=>5|18=>1|19=>8|n=>n⟩
open Go.RowKit Go.Sort Go.Lib in
def Tryz.lays246_ren:Go.Shelf.Ren:=⟨fun|246=>298|283=>351|284=>352|285=>353|286=>354|129=>145|317=>377|318=>378|319=>379|320=>380|337=>271|338=>393|n=>n,fun|2=>2|3=>3|9=>9|4=>4|171=>355|0=>0|53=>31|37=>132|5=>5|173=>357|212=>379|51=>34|20=>20|213=>380|46=>78|232=>339|233=>395|n=>n,fun|17=>5|18=>1|19=>8|n=>n⟩
open Go.RowKit Go.Sort Go.Lib in
def Tryz.laysM243_ren:Go.Shelf.Ren:=⟨fun|243=>230|246=>298|283=>351|284=>352|285=>353|286=>354|129=>145|317=>377|318=>378|319=>379|320=>380|337=>271|338=>393|n=>n,fun|3=>3|9=>9|2=>2|4=>4|171=>355|0=>0|53=>31|37=>132|5=>5|173=>357|212=>379|51=>34|20=>20|213=>380|46=>78|232=>339|233=>395|n=>n,fun|17=>5|18=>1|19=>8|n=>n⟩
open Go.RowKit Go.Sort Go.Lib in
def Tryz.lays243_ren:Go.Shelf.Ren:=⟨fun|243=>230|246=>298|283=>351|284=>352|285=>353|286=>354|129=>145|317=>377|318=>378|319=>379|320=>380|337=>271|338=>393|n=>n,fun|3=>3|9=>9|2=>2|4=>4|171=>355|0=>0|53=>31|37=>132|5=>5|173=>357|212=>379|51=>34|20=>20|213=>380|46=>78|232=>339|233=>395|n=>n,fun|17=>5|18=>1|19=>8|n=>n⟩
open Go.RowKit Go.Sort Go.Lib in
def Tryz.laysM171_ren:Go.Shelf.Ren:=⟨fun|171=>130|243=>230|246=>298|283=>351|284=>352|285=>353|286=>354|129=>145|317=>377|318=>378|319=>379|320=>380|337=>271|338=>393|n=>n,fun|3=>3|9=>9|2=>2|4=>4|171=>355|0=>0|53=>31|37=>132|5=>5|173=>357|212=>379|51=>34|20=>20|213=>380|46=>78|232=>339|233=>395|n=>n,fun|17=>5|18=>1|19=>8|n=>n⟩
theorem Tryz.laysM171:Go.Proofs.LaysM.n171 Tryz.prog Tryz.laysM171_ren:={
 mixed:=by kernel_rfl
 f129:=Tryz.func145.trans (congrArg some (by kernel_rfl))
 f171:=Tryz.func130.trans (congrArg some (by kernel_rfl))
 f243:=Tryz.func230.trans (congrArg some (by kernel_rfl))
 f246:=Tryz.func298.trans (congrArg some (by kernel_rfl))
 f283:=Tryz.func351.trans (congrArg some (by kernel_rfl))
 f284:=Tryz.func352.trans (congrArg some (by kernel_rfl))
 f285:=Tryz.func353.trans (congrArg some (by kernel_rfl))
 f286:=Tryz.func354.trans (congrArg some (by kernel_rfl))
 f317:=Tryz.func377.trans (congrArg some (by kernel_rfl))
 f318:=Tryz.func378.trans (congrArg some (by kernel_rfl))
 f319:=Tryz.func379.trans (congrArg some (by kernel_rfl))
 f320:=Tryz.func380.trans (congrArg some (by kernel_rfl))
 f337:=Tryz.func271.trans (congrArg some (by kernel_rfl))
 f338:=Tryz.func393.trans (congrArg some (by kernel_rfl))
 t0:=Tryz.underlying0
 a0:=Tryz.isAgg0
 z0:=Tryz.sizeOf0
 v0:=Tryz.zeroValue0
 t2:=Tryz.underlying2
 a2:=Tryz.isAgg2
 z2:=Tryz.sizeOf2
 v2:=Tryz.zeroValue2
 t3:=Tryz.underlying3
 a3:=Tryz.isAgg3
 z3:=Tryz.sizeOf3
 v3:=Tryz.zeroValue3
 t4:=Tryz.underlying4
 a4:=Tryz.isAgg4
 z4:=Tryz.sizeOf4
 v4:=Tryz.zeroValue4
 t5:=Tryz.underlying5
 a5:=Tryz.isAgg5
 z5:=Tryz.sizeOf5
 v5:=Tryz.zeroValue5
 t9:=Tryz.underlying9
 a9:=Tryz.isAgg9
 z9:=Tryz.sizeOf9
 v9:=Tryz.zeroValue9
 t20:=Tryz.underlying20
 a20:=Tryz.isAgg20
 z20:=Tryz.sizeOf20
 v20:=Tryz.zeroValue20
 t37:=Tryz.underlying132
 a37:=Tryz.isAgg132
 z37:=Tryz.sizeOf132
 v37:=Tryz.zeroValue132
 t46:=Tryz.underlying78
 a46:=Tryz.isAgg78
 z46:=Tryz.sizeOf78
 v46:=Tryz.zeroValue78
 t51:=Tryz.underlying34
 a51:=Tryz.isAgg34
 z51:=Tryz.sizeOf34
 v51:=Tryz.zeroValue34
 t53:=Tryz.underlying31
 a53:=Tryz.isAgg31
 z53:=Tryz.sizeOf31
 v53:=Tryz.zeroValue31
 t171:=Tryz.underlying355
 a171:=Tryz.isAgg355
 z171:=Tryz.sizeOf355
 v171:=Tryz.zeroValue355
 t173:=Tryz.underlying357
 a173:=Tryz.isAgg357
 z173:=Tryz.sizeOf357
 v173:=Tryz.zeroValue357
 t212:=Tryz.underlying379
 a212:=Tryz.isAgg379
 z212:=Tryz.sizeOf379
 v212:=Tryz.zeroValue379
 t213:=Tryz.underlying380
 a213:=Tryz.isAgg380
 z213:=Tryz.sizeOf380
 t232:=Tryz.underlying339
 a232:=Tryz.isAgg339
 z232:=Tryz.sizeOf339
 v232:=Tryz.zeroValue339
 t233:=Tryz.underlying395
 a233:=Tryz.isAgg395
 z233:=Tryz.sizeOf395
 v233:=Tryz.zeroValue395
 g17:=by kernel_rfl
 g18:=by kernel_rfl
 g19:=by kernel_rfl
 i0:=by kernel_rfl
 i2:=by kernel_rfl
 i3:=by kernel_rfl
 i4:=by kernel_rfl
 i5:=by kernel_rfl
 i9:=by kernel_rfl
 i20:=by kernel_rfl
 i37:=by kernel_rfl
 i46:=by kernel_rfl
 i51:=by kernel_rfl
 i53:=by kernel_rfl
 i171:=by kernel_rfl
 i173:=by kernel_rfl
 i212:=by kernel_rfl
 i232:=by kernel_rfl
 i233:=by kernel_rfl
 m17:=by kernel_rfl
 m18:=by kernel_rfl
 m19:=by kernel_rfl}
open Go.RowKit Go.Sort Go.Lib in
theorem Tryz.strconv_Itoa (n : Int) (h0 : -9223372036854775808 <= n) (h1 : n <= 9223372036854775807) (w : World) (htab : Lib.TabIs Tryz.prog w "internal/strconv.uint64pow10" .u64 Lib.pow10Tab) :
  Calls Tryz.prog 130 #[.int .i64 n] w fun e w'=>e=.returned (.string ⟨(Lib.itoa n).toArray⟩)/\∃k os,w'=grow (w.drewN k) os:=Any.strconv_Itoa Tryz.laysM171 n h0 h1 w htab
def Tryz.lays171_ren:Go.Shelf.Ren:=⟨fun|171=>130|243=>230|246=>298|283=>351|284=>352|285=>353|286=>354|129=>145|317=>377|318=>378|319=>379|320=>380|337=>271|338=>393|n=>n,fun|3=>3|9=>9|2=>2|4=>4|171=>355|0=>0|53=>31|37=>132|5=>5|173=>357|212=>379|51=>34|20=>20|213=>380|46=>78|232=>339|233=>395|n=>n,fun|17=>5|18=>1|19=>8|n=>n⟩
open Go.RowKit Go.Sort Go.Lib in
def Tryz.laysM316_ren:Go.Shelf.Ren:=⟨fun|316=>396|n=>n,fun|9=>9|3=>3|4=>4|37=>132|0=>0|127=>274|5=>5|n=>n,fun|n=>n⟩
open Go.RowKit in
def Tryz.lays321_ren:Go.Shelf.Ren:=⟨fun|321=>387|n=>n,fun|5=>5|n=>n,fun|n=>n⟩
open Go.RowKit in
def Tryz.lays287_ren:Go.Shelf.Ren:=⟨fun|287=>375|321=>387|322=>388|n=>n,fun|9=>9|3=>3|53=>31|75=>56|4=>4|167=>385|5=>5|46=>78|37=>132|0=>0|21=>21|80=>191|n=>n,fun|n=>n⟩
open Go.RowKit in
open Go.RowKit in
open Go.RowKit in
def Tryz.laysM280_ren:Go.Shelf.Ren:=⟨fun|280=>390|316=>396|n=>n,fun|9=>9|168=>387|75=>56|210=>393|3=>3|4=>4|37=>132|0=>0|127=>274|80=>191|5=>5|n=>n,fun|16=>7|n=>n⟩
open Go.RowKit in
def Tryz.laysC245_ren:Go.Shelf.Ren:=⟨fun|245=>376|279=>389|280=>390|281=>391|282=>392|316=>396|171=>130|205=>397|243=>230|246=>298|283=>351|284=>352|285=>353|286=>354|129=>145|317=>377|318=>378|319=>379|320=>380|337=>271|338=>393|n=>n,fun|9=>9|3=>3|75=>56|167=>385|4=>4|168=>387|210=>393|37=>132|0=>0|127=>274|145=>400|143=>398|2=>2|171=>355|53=>31|5=>5|173=>357|212=>379|51=>34|20=>20|213=>380|46=>78|232=>339|233=>395|80=>191|n=>n,fun|15=>6|16=>7|17=>5|18=>1|19=>8|n=>n⟩
open Go.RowKit in
def Tryz.laysPu14_ren:Go.Shelf.Ren:=⟨fun|14=>349|16=>375|17=>376|19=>387|20=>388|21=>389|22=>390|23=>391|24=>392|25=>396|27=>130|26=>397|28=>230|29=>298|30=>351|31=>352|32=>353|33=>354|35=>145|34=>377|36=>378|37=>379|38=>380|39=>271|40=>393|n=>n,fun|9=>9|3=>3|22=>31|24=>56|25=>353|4=>4|34=>385|5=>5|36=>78|37=>132|0=>0|39=>387|21=>21|44=>393|47=>274|50=>400|48=>398|2=>2|52=>355|55=>357|59=>379|60=>34|20=>20|61=>380|65=>339|66=>395|67=>191|n=>n,fun|0=>6|1=>7|2=>5|3=>1|4=>8|n=>n⟩
theorem Tryz.laysPu14:Go.Proofs.LaysPu.n14 Tryz.prog Tryz.laysPu14_ren:={
 mixed:=by kernel_rfl
 f14:=Tryz.func349.trans (congrArg some (by kernel_rfl))
 f16:=Tryz.func375.trans (congrArg some (by kernel_rfl))
 f17:=Tryz.func376.trans (congrArg some (by kernel_rfl))
 f19:=Tryz.func387.trans (congrArg some (by kernel_rfl))
 f20:=Tryz.func388.trans (congrArg some (by kernel_rfl))
 f21:=Tryz.func389.trans (congrArg some (by kernel_rfl))
 f22:=Tryz.func390.trans (congrArg some (by kernel_rfl))
 f23:=Tryz.func391.trans (congrArg some (by kernel_rfl))
 f24:=Tryz.func392.trans (congrArg some (by kernel_rfl))
 f25:=Tryz.func396.trans (congrArg some (by kernel_rfl))
 f26:=Tryz.func397.trans (congrArg some (by kernel_rfl))
 f27:=Tryz.func130.trans (congrArg some (by kernel_rfl))
 f28:=Tryz.func230.trans (congrArg some (by kernel_rfl))
 f29:=Tryz.func298.trans (congrArg some (by kernel_rfl))
 f30:=Tryz.func351.trans (congrArg some (by kernel_rfl))
 f31:=Tryz.func352.trans (congrArg some (by kernel_rfl))
 f32:=Tryz.func353.trans (congrArg some (by kernel_rfl))
 f33:=Tryz.func354.trans (congrArg some (by kernel_rfl))
 f34:=Tryz.func377.trans (congrArg some (by kernel_rfl))
 f35:=Tryz.func145.trans (congrArg some (by kernel_rfl))
 f36:=Tryz.func378.trans (congrArg some (by kernel_rfl))
 f37:=Tryz.func379.trans (congrArg some (by kernel_rfl))
 f38:=Tryz.func380.trans (congrArg some (by kernel_rfl))
 f39:=Tryz.func271.trans (congrArg some (by kernel_rfl))
 f40:=Tryz.func393.trans (congrArg some (by kernel_rfl))
 t0:=Tryz.underlying0
 a0:=Tryz.isAgg0
 z0:=Tryz.sizeOf0
 v0:=Tryz.zeroValue0
 i0:=by kernel_rfl
 t2:=Tryz.underlying2
 a2:=Tryz.isAgg2
 z2:=Tryz.sizeOf2
 v2:=Tryz.zeroValue2
 i2:=by kernel_rfl
 t3:=Tryz.underlying3
 a3:=Tryz.isAgg3
 z3:=Tryz.sizeOf3
 v3:=Tryz.zeroValue3
 i3:=by kernel_rfl
 t4:=Tryz.underlying4
 a4:=Tryz.isAgg4
 z4:=Tryz.sizeOf4
 v4:=Tryz.zeroValue4
 i4:=by kernel_rfl
 t5:=Tryz.underlying5
 a5:=Tryz.isAgg5
 z5:=Tryz.sizeOf5
 v5:=Tryz.zeroValue5
 i5:=by kernel_rfl
 t9:=Tryz.underlying9
 a9:=Tryz.isAgg9
 z9:=Tryz.sizeOf9
 v9:=Tryz.zeroValue9
 i9:=by kernel_rfl
 t20:=Tryz.underlying20
 a20:=Tryz.isAgg20
 z20:=Tryz.sizeOf20
 v20:=Tryz.zeroValue20
 i20:=by kernel_rfl
 t21:=Tryz.underlying21
 a21:=Tryz.isAgg21
 z21:=Tryz.sizeOf21
 v21:=Tryz.zeroValue21
 i21:=by kernel_rfl
 t22:=Tryz.underlying31
 a22:=Tryz.isAgg31
 z22:=Tryz.sizeOf31
 v22:=Tryz.zeroValue31
 i22:=by kernel_rfl
 t24:=Tryz.underlying56
 a24:=Tryz.isAgg56
 z24:=Tryz.sizeOf56
 v24:=Tryz.zeroValue56
 i24:=by kernel_rfl
 t25:=Tryz.underlying353
 a25:=Tryz.isAgg353
 z25:=Tryz.sizeOf353
 v25:=Tryz.zeroValue353
 i25:=by kernel_rfl
 t34:=Tryz.underlying385
 a34:=Tryz.isAgg385
 z34:=Tryz.sizeOf385
 v34:=Tryz.zeroValue385
 i34:=by kernel_rfl
 c34:=by kernel_rfl
 t36:=Tryz.underlying78
 a36:=Tryz.isAgg78
 z36:=Tryz.sizeOf78
 v36:=Tryz.zeroValue78
 i36:=by kernel_rfl
 t37:=Tryz.underlying132
 a37:=Tryz.isAgg132
 z37:=Tryz.sizeOf132
 v37:=Tryz.zeroValue132
 i37:=by kernel_rfl
 t39:=Tryz.underlying387
 a39:=Tryz.isAgg387
 z39:=Tryz.sizeOf387
 v39:=Tryz.zeroValue387
 i39:=by kernel_rfl
 t44:=Tryz.underlying393
 a44:=Tryz.isAgg393
 z44:=Tryz.sizeOf393
 v44:=Tryz.zeroValue393
 i44:=by kernel_rfl
 t47:=Tryz.underlying274
 a47:=Tryz.isAgg274
 z47:=Tryz.sizeOf274
 v47:=Tryz.zeroValue274
 i47:=by kernel_rfl
 t48:=Tryz.underlying398
 a48:=Tryz.isAgg398
 z48:=Tryz.sizeOf398
 v48:=Tryz.zeroValue398
 i48:=by kernel_rfl
 t50:=Tryz.underlying400
 a50:=Tryz.isAgg400
 z50:=Tryz.sizeOf400
 v50:=Tryz.zeroValue400
 i50:=by kernel_rfl
 t52:=Tryz.underlying355
 a52:=Tryz.isAgg355
 z52:=Tryz.sizeOf355
 v52:=Tryz.zeroValue355
 i52:=by kernel_rfl
 t55:=Tryz.underlying357
 a55:=Tryz.isAgg357
 z55:=Tryz.sizeOf357
 v55:=Tryz.zeroValue357
 i55:=by kernel_rfl
 t59:=Tryz.underlying379
 a59:=Tryz.isAgg379
 z59:=Tryz.sizeOf379
 v59:=Tryz.zeroValue379
 i59:=by kernel_rfl
 t60:=Tryz.underlying34
 a60:=Tryz.isAgg34
 z60:=Tryz.sizeOf34
 v60:=Tryz.zeroValue34
 i60:=by kernel_rfl
 t61:=Tryz.underlying380
 a61:=Tryz.isAgg380
 z61:=Tryz.sizeOf380
 t65:=Tryz.underlying339
 a65:=Tryz.isAgg339
 z65:=Tryz.sizeOf339
 v65:=Tryz.zeroValue339
 i65:=by kernel_rfl
 t66:=Tryz.underlying395
 a66:=Tryz.isAgg395
 z66:=Tryz.sizeOf395
 v66:=Tryz.zeroValue395
 i66:=by kernel_rfl
 t67:=Tryz.underlying191
 a67:=Tryz.isAgg191
 z67:=Tryz.sizeOf191
 v67:=Tryz.zeroValue191
 i67:=by kernel_rfl
 g0:=by kernel_rfl
 m0:=by kernel_rfl
 g1:=by kernel_rfl
 m1:=by kernel_rfl
 g2:=by kernel_rfl
 m2:=by kernel_rfl
 g3:=by kernel_rfl
 m3:=by kernel_rfl
 g4:=by kernel_rfl
 m4:=by kernel_rfl}
open Go.RowKit in
open Go.RowKit in
open Go.RowKit in
open Go.RowKit in
theorem Tryz.strconv_ParseUint_10_at64_ok(s:ByteArray)(hmax:s.size<=9223372036854775806)(u:Nat)(h:Lib.parseUintB 64 s.data.toList=.ok u)(w:World):
  Calls Tryz.prog 349 #[.string s,.int .i64 10,.int .i64 64] w fun e w'=>e=.returned (.tuple #[.int .u64 u,.nilIface])/\(w'=w\/w'=Lib.bytesWorld w 5 s):=Any.strconv_ParseUint_10_at64_ok Tryz.laysPu14 s hmax u h w
open Go.RowKit in
open Go.RowKit in
theorem Tryz.strconv_ParseUint_10_at64_range(s:ByteArray)(hlim:s.size<=281474976710656)(h:Lib.parseUintB 64 s.data.toList=.range)(ev:Value)(w:World)(hv:w.cell? ⟨7,0,none⟩=some ev)(hev:ev=.nilIface\/∃te pe,ev=.iface te pe):
  Calls Tryz.prog 349 #[.string s,.int .i64 10,.int .i64 64] w fun e w'=>∃N,e=.returned (.tuple #[.int .u64 18446744073709551615,.iface 387 (.pointer (some ⟨N,0,none⟩))])/\w.heap.size<=N/\w'.heap[N]?=some (.cells #[.string ⟨#[80,97,114,115,101,85,105,110,116]⟩,.string s,ev] 393 (0,0))/\Below w.heap.size w w':=Any.strconv_ParseUint_10_at64_range Tryz.laysPu14 s hlim h ev w hv hev
open Go.RowKit in
open Go.RowKit in
open Go.RowKit in
open Go.RowKit in
open Go.RowKit in
open Go.RowKit in
open Go.RowKit in
open Go.RowKit in
open Go.RowKit in
open Go.RowKit in
open Go.RowKit in
open Go.RowKit in
open Go.RowKit in
open Go.RowKit in
open Go.RowKit in
open Go.RowKit in
open Go.RowKit in
open Go.RowKit in
open Go.RowKit in
def Tryz.lays217_ren:Go.Shelf.Ren:=⟨fun|217=>220|266=>286|n=>n,fun|9=>9|5=>5|3=>3|n=>n,fun|n=>n⟩
open Go.RowKit Go.Lib in
def Tryz.lays224_ren:Go.Shelf.Ren:=⟨fun|224=>399|n=>n,fun|3=>3|n=>n,fun|n=>n⟩
open Go.RowKit Go.Lib in
def Tryz.lays206_ren:Go.Shelf.Ren:=⟨fun|206=>237|n=>n,fun|9=>9|4=>4|3=>3|n=>n,fun|n=>n⟩
open Go.RowKit Go.Lib in
def Tryz.lays99_ren:Go.Shelf.Ren:=⟨fun|99=>147|206=>237|n=>n,fun|9=>9|4=>4|3=>3|n=>n,fun|n=>n⟩
theorem Tryz.lays99:Go.Proofs.Lays.n99 Tryz.prog Tryz.lays99_ren:={
 mixed:=by kernel_rfl
 f99:=Tryz.func147.trans (congrArg some (by kernel_rfl))
 f206:=Tryz.func237.trans (congrArg some (by kernel_rfl))
 t3:=Tryz.underlying3
 a3:=Tryz.isAgg3
 z3:=Tryz.sizeOf3
 v3:=Tryz.zeroValue3
 t4:=Tryz.underlying4
 a4:=Tryz.isAgg4
 z4:=Tryz.sizeOf4
 v4:=Tryz.zeroValue4
 t9:=Tryz.underlying9
 a9:=Tryz.isAgg9
 z9:=Tryz.sizeOf9
 v9:=Tryz.zeroValue9}
open Go.RowKit Go.Lib in
theorem Tryz.strings_HasPrefix(s p:ByteArray)(w:World):
  Calls Tryz.prog 147 #[.string s,.string p] w fun e w'=>e=.returned (.bool (Lib.hasPrefix s.data.toList p.data.toList))/\w'=w:=Any.strings_HasPrefix Tryz.lays99 s p w
def Tryz.lays152_ren:Go.Shelf.Ren:=⟨fun|152=>394|137=>122|119=>398|224=>399|225=>400|217=>220|266=>286|n=>n,fun|9=>9|21=>21|3=>3|4=>4|5=>5|0=>0|46=>78|n=>n,fun|n=>n⟩
open Go.RowKit Go.Lib in
def Tryz.lays151_ren:Go.Shelf.Ren:=⟨fun|151=>385|152=>394|137=>122|119=>398|224=>399|225=>400|217=>220|266=>286|n=>n,fun|9=>9|21=>21|4=>4|3=>3|5=>5|0=>0|46=>78|n=>n,fun|n=>n⟩
open Go.RowKit Go.Lib in
def Tryz.lays227_ren:Go.Shelf.Ren:=⟨fun|227=>369|n=>n,fun|9=>9|116=>368|4=>4|0=>0|3=>3|5=>5|n=>n,fun|n=>n⟩
open Go.RowKit Go.Lib in
def Tryz.lays228_ren:Go.Shelf.Ren:=⟨fun|228=>384|n=>n,fun|124=>372|5=>5|4=>4|0=>0|116=>368|n=>n,fun|n=>n⟩
open Go.RowKit Go.Lib in
def Tryz.lays264_ren:Go.Shelf.Ren:=⟨fun|264=>236|n=>n,fun|53=>31|46=>78|n=>n,fun|n=>n⟩
open Go.RowKit Go.Lib in
def Tryz.lays212_ren:Go.Shelf.Ren:=⟨fun|212=>146|263=>235|264=>236|n=>n,fun|46=>78|51=>34|146=>275|53=>31|148=>236|n=>n,fun|n=>n⟩
theorem Tryz.lays212:Go.Proofs.Lays.n212 Tryz.prog Tryz.lays212_ren:={
 mixed:=by kernel_rfl
 f212:=Tryz.func146.trans (congrArg some (by kernel_rfl))
 f263:=Tryz.func235.trans (congrArg some (by kernel_rfl))
 f264:=Tryz.func236.trans (congrArg some (by kernel_rfl))
 t46:=Tryz.underlying78
 a46:=Tryz.isAgg78
 z46:=Tryz.sizeOf78
 v46:=Tryz.zeroValue78
 t51:=Tryz.underlying34
 a51:=Tryz.isAgg34
 z51:=Tryz.sizeOf34
 v51:=Tryz.zeroValue34
 t53:=Tryz.underlying31
 a53:=Tryz.isAgg31
 z53:=Tryz.sizeOf31
 v53:=Tryz.zeroValue31
 t146:=Tryz.underlying275
 a146:=Tryz.isAgg275
 z146:=Tryz.sizeOf275
 v146:=Tryz.zeroValue275
 t148:=Tryz.underlying236
 a148:=Tryz.isAgg236
 z148:=Tryz.sizeOf236
 v148:=Tryz.zeroValue236}
open Go.RowKit Go.Lib in
theorem Tryz.bits_Mul(x y:Nat)(hx:x<18446744073709551616)(hy:y<18446744073709551616)(w:World):
  Calls Tryz.prog 146 #[.int .u64 x,.int .u64 y] w fun e w'=>e=.returned (.tuple #[.int .u64 ((x*y/18446744073709551616:Nat):Int),.int .u64 ((x*y%18446744073709551616:Nat):Int)])/\w'=w:=Any.bits_Mul Tryz.lays212 x y hx hy w
def Tryz.lays260_ren:Go.Shelf.Ren:=⟨fun|260=>350|n=>n,fun|9=>9|21=>21|3=>3|4=>4|5=>5|119=>374|0=>0|46=>78|139=>377|138=>376|n=>n,fun|3=>3|4=>4|n=>n⟩
theorem Tryz.lays260:Go.Proofs.Lays.n260 Tryz.prog Tryz.lays260_ren:={
 mixed:=by kernel_rfl
 f260:=Tryz.func350.trans (congrArg some (by kernel_rfl))
 t0:=Tryz.underlying0
 a0:=Tryz.isAgg0
 z0:=Tryz.sizeOf0
 v0:=Tryz.zeroValue0
 t3:=Tryz.underlying3
 a3:=Tryz.isAgg3
 z3:=Tryz.sizeOf3
 v3:=Tryz.zeroValue3
 t4:=Tryz.underlying4
 a4:=Tryz.isAgg4
 z4:=Tryz.sizeOf4
 v4:=Tryz.zeroValue4
 t5:=Tryz.underlying5
 a5:=Tryz.isAgg5
 z5:=Tryz.sizeOf5
 v5:=Tryz.zeroValue5
 t9:=Tryz.underlying9
 a9:=Tryz.isAgg9
 z9:=Tryz.sizeOf9
 v9:=Tryz.zeroValue9
 t21:=Tryz.underlying21
 a21:=Tryz.isAgg21
 z21:=Tryz.sizeOf21
 v21:=Tryz.zeroValue21
 t46:=Tryz.underlying78
 a46:=Tryz.isAgg78
 z46:=Tryz.sizeOf78
 v46:=Tryz.zeroValue78
 t119:=Tryz.underlying374
 a119:=Tryz.isAgg374
 z119:=Tryz.sizeOf374
 t138:=Tryz.underlying376
 a138:=Tryz.isAgg376
 z138:=Tryz.sizeOf376
 v138:=Tryz.zeroValue376
 t139:=Tryz.underlying377
 a139:=Tryz.isAgg377
 z139:=Tryz.sizeOf377
 v139:=Tryz.zeroValue377
 g3:=by kernel_rfl
 g4:=by kernel_rfl}
open Go.RowKit Go.Lib in
def Tryz.lays197_ren:Go.Shelf.Ren:=⟨fun|197=>293|260=>350|n=>n,fun|9=>9|21=>21|3=>3|4=>4|5=>5|105=>309|119=>374|0=>0|46=>78|139=>377|138=>376|n=>n,fun|3=>3|4=>4|n=>n⟩
theorem Tryz.lays197:Go.Proofs.Lays.n197 Tryz.prog Tryz.lays197_ren:={
 mixed:=by kernel_rfl
 f197:=Tryz.func293.trans (congrArg some (by kernel_rfl))
 f260:=Tryz.func350.trans (congrArg some (by kernel_rfl))
 t0:=Tryz.underlying0
 a0:=Tryz.isAgg0
 z0:=Tryz.sizeOf0
 v0:=Tryz.zeroValue0
 t3:=Tryz.underlying3
 a3:=Tryz.isAgg3
 z3:=Tryz.sizeOf3
 v3:=Tryz.zeroValue3
 t4:=Tryz.underlying4
 a4:=Tryz.isAgg4
 z4:=Tryz.sizeOf4
 v4:=Tryz.zeroValue4
 t5:=Tryz.underlying5
 a5:=Tryz.isAgg5
 z5:=Tryz.sizeOf5
 v5:=Tryz.zeroValue5
 t9:=Tryz.underlying9
 a9:=Tryz.isAgg9
 z9:=Tryz.sizeOf9
 v9:=Tryz.zeroValue9
 t21:=Tryz.underlying21
 a21:=Tryz.isAgg21
 z21:=Tryz.sizeOf21
 v21:=Tryz.zeroValue21
 t46:=Tryz.underlying78
 a46:=Tryz.isAgg78
 z46:=Tryz.sizeOf78
 v46:=Tryz.zeroValue78
 t105:=Tryz.underlying309
 a105:=Tryz.isAgg309
 z105:=Tryz.sizeOf309
 v105:=Tryz.zeroValue309
 t119:=Tryz.underlying374
 a119:=Tryz.isAgg374
 z119:=Tryz.sizeOf374
 t138:=Tryz.underlying376
 a138:=Tryz.isAgg376
 z138:=Tryz.sizeOf376
 v138:=Tryz.zeroValue376
 t139:=Tryz.underlying377
 a139:=Tryz.isAgg377
 z139:=Tryz.sizeOf377
 v139:=Tryz.zeroValue377
 g3:=by kernel_rfl
 g4:=by kernel_rfl}
open Go.RowKit Go.Lib in
theorem Tryz.utf8_DecodeRuneInString(s:ByteArray)(w:World)(hT:Lib.Utf8Tabs 3 4 w):
  Calls Tryz.prog 293 #[.string s] w fun e w'=>e=.returned (.tuple #[.int .i32 (Lib.decodeGo s).1,.int .i64 (Lib.decodeGo s).2])/\Below w.heap.size w w':=Any.utf8_DecodeRuneInString Tryz.lays197 s w hT
end Go.Proofs
