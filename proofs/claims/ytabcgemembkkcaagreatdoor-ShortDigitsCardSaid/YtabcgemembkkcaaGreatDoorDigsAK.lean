/- Lemmas. -/
import Derived.Shelf.Strings.Trim
import Derived.Shelf.Small.Bits
import Derived.Shelf.Strings.Runes
import Derived.Shelf.Strings.AsciiSet
import Derived.Shelf.Unicode.DecodeLast
import Derived.Test.YtabcgemembkkcaaGreatDoorProg
set_option linter.all false
open Go.Proofs.Tryz
open Option renaming some->qa
open Go.Proofs.Tryz renaming prog->qb
namespace Go.Proofs
open Go.Shelf
open Go.RowKit in
def Tryz.lays161_ren:Go.Shelf.Ren:=⟨fun|161=>299|231=>343|227=>339|233=>344|235=>345|228=>360|197=>363|151=>362|260=>366|152=>365|137=>367|119=>368|224=>369|225=>370|217=>371|266=>372|n=>n,fun|9=>9|4=>4|3=>3|5=>5|117=>304|116=>303|0=>0|124=>307|105=>310|21=>21|119=>319|46=>131|139=>322|138=>321|n=>n,fun|3=>2|4=>3|n=>n⟩
theorem Tryz.lays161:Go.Proofs.Lays.n161 qb Tryz.lays161_ren:={
 mixed:=by kernel_rfl
 f119:=func368.trans (congrArg qa (by kernel_rfl))
 f137:=func367.trans (congrArg qa (by kernel_rfl))
 f151:=func362.trans (congrArg qa (by kernel_rfl))
 f152:=func365.trans (congrArg qa (by kernel_rfl))
 f161:=func299.trans (congrArg qa (by kernel_rfl))
 f197:=func363.trans (congrArg qa (by kernel_rfl))
 f217:=func371.trans (congrArg qa (by kernel_rfl))
 f224:=func369.trans (congrArg qa (by kernel_rfl))
 f225:=func370.trans (congrArg qa (by kernel_rfl))
 f227:=func339.trans (congrArg qa (by kernel_rfl))
 f228:=func360.trans (congrArg qa (by kernel_rfl))
 f231:=func343.trans (congrArg qa (by kernel_rfl))
 f233:=func344.trans (congrArg qa (by kernel_rfl))
 f235:=func345.trans (congrArg qa (by kernel_rfl))
 f260:=func366.trans (congrArg qa (by kernel_rfl))
 f266:=func372.trans (congrArg qa (by kernel_rfl))
 t0:=underlying0
 a0:=isAgg0
 z0:=sizeOf0
 v0:=zeroValue0
 t3:=underlying3
 a3:=isAgg3
 z3:=sizeOf3
 v3:=zeroValue3
 t4:=underlying4
 a4:=isAgg4
 z4:=sizeOf4
 v4:=zeroValue4
 t5:=underlying5
 a5:=isAgg5
 z5:=sizeOf5
 v5:=zeroValue5
 t9:=underlying9
 a9:=isAgg9
 z9:=sizeOf9
 v9:=zeroValue9
 t21:=underlying21
 a21:=isAgg21
 z21:=sizeOf21
 v21:=zeroValue21
 t46:=underlying131
 a46:=isAgg131
 z46:=sizeOf131
 v46:=zeroValue131
 t105:=underlying310
 a105:=isAgg310
 z105:=sizeOf310
 v105:=zeroValue310
 t116:=underlying303
 a116:=isAgg303
 z116:=sizeOf303
 t117:=underlying304
 a117:=isAgg304
 z117:=sizeOf304
 v117:=zeroValue304
 t119:=underlying319
 a119:=isAgg319
 z119:=sizeOf319
 t124:=underlying307
 a124:=isAgg307
 z124:=sizeOf307
 v124:=zeroValue307
 t138:=underlying321
 a138:=isAgg321
 z138:=sizeOf321
 v138:=zeroValue321
 t139:=underlying322
 a139:=isAgg322
 z139:=sizeOf322
 v139:=zeroValue322
 g3:=by kernel_rfl
 g4:=by kernel_rfl}
open Go.RowKit in
theorem Tryz.strings_TrimLeft_one(s:ByteArray)(c:UInt8)(hc:c.toNat<128)(w:World):Calls qb 299 #[.string s,.string ⟨#[c]⟩] w fun e w'=>e=.returned (.string ⟨(Lib.trimLeftB s.data.toList c).toArray⟩)/\w'=w:=Any.strings_TrimLeft_one Tryz.lays161 s c hc w
def Tryz.lays162_ren:Go.Shelf.Ren:=⟨fun|162=>296|232=>338|227=>339|234=>340|236=>341|228=>360|271=>361|151=>362|120=>364|197=>363|152=>365|260=>366|137=>367|119=>368|224=>369|225=>370|217=>371|266=>372|n=>n,fun|9=>9|4=>4|3=>3|5=>5|117=>304|116=>303|0=>0|124=>307|21=>21|105=>310|46=>131|119=>319|139=>322|138=>321|n=>n,fun|3=>2|4=>3|n=>n⟩
theorem Tryz.lays162:Go.Proofs.Lays.n162 qb Tryz.lays162_ren:={
 mixed:=by kernel_rfl
 f119:=func368.trans (congrArg qa (by kernel_rfl))
 f120:=func364.trans (congrArg qa (by kernel_rfl))
 f137:=func367.trans (congrArg qa (by kernel_rfl))
 f151:=func362.trans (congrArg qa (by kernel_rfl))
 f152:=func365.trans (congrArg qa (by kernel_rfl))
 f162:=func296.trans (congrArg qa (by kernel_rfl))
 f197:=func363.trans (congrArg qa (by kernel_rfl))
 f217:=func371.trans (congrArg qa (by kernel_rfl))
 f224:=func369.trans (congrArg qa (by kernel_rfl))
 f225:=func370.trans (congrArg qa (by kernel_rfl))
 f227:=func339.trans (congrArg qa (by kernel_rfl))
 f228:=func360.trans (congrArg qa (by kernel_rfl))
 f232:=func338.trans (congrArg qa (by kernel_rfl))
 f234:=func340.trans (congrArg qa (by kernel_rfl))
 f236:=func341.trans (congrArg qa (by kernel_rfl))
 f260:=func366.trans (congrArg qa (by kernel_rfl))
 f266:=func372.trans (congrArg qa (by kernel_rfl))
 f271:=func361.trans (congrArg qa (by kernel_rfl))
 t0:=underlying0
 a0:=isAgg0
 z0:=sizeOf0
 v0:=zeroValue0
 t3:=underlying3
 a3:=isAgg3
 z3:=sizeOf3
 v3:=zeroValue3
 t4:=underlying4
 a4:=isAgg4
 z4:=sizeOf4
 v4:=zeroValue4
 t5:=underlying5
 a5:=isAgg5
 z5:=sizeOf5
 v5:=zeroValue5
 t9:=underlying9
 a9:=isAgg9
 z9:=sizeOf9
 v9:=zeroValue9
 t21:=underlying21
 a21:=isAgg21
 z21:=sizeOf21
 v21:=zeroValue21
 t46:=underlying131
 a46:=isAgg131
 z46:=sizeOf131
 v46:=zeroValue131
 t105:=underlying310
 a105:=isAgg310
 z105:=sizeOf310
 v105:=zeroValue310
 t116:=underlying303
 a116:=isAgg303
 z116:=sizeOf303
 t117:=underlying304
 a117:=isAgg304
 z117:=sizeOf304
 v117:=zeroValue304
 t119:=underlying319
 a119:=isAgg319
 z119:=sizeOf319
 t124:=underlying307
 a124:=isAgg307
 z124:=sizeOf307
 v124:=zeroValue307
 t138:=underlying321
 a138:=isAgg321
 z138:=sizeOf321
 v138:=zeroValue321
 t139:=underlying322
 a139:=isAgg322
 z139:=sizeOf322
 v139:=zeroValue322
 g3:=by kernel_rfl
 g4:=by kernel_rfl}
open Go.RowKit in
theorem Tryz.strings_TrimRight_one(s:ByteArray)(c:UInt8)(hc:c.toNat<128)(w:World)(hs:s.size<=9223372036854775807):Calls qb 296 #[.string s,.string ⟨#[c]⟩] w fun e w'=>e=.returned (.string ⟨(Lib.trimRightB s.data.toList c).toArray⟩)/\w'=w:=Any.strings_TrimRight_one Tryz.lays162 s c hc w hs
def Tryz.lays128_ren:Go.Shelf.Ren:=⟨fun|128=>227|n=>n,fun|51=>54|3=>3|4=>4|46=>131|5=>5|9=>9|n=>n,fun|n=>n⟩
theorem Tryz.lays128:Go.Proofs.Lays.n128 qb Tryz.lays128_ren:={
 mixed:=by kernel_rfl
 f128:=func227.trans (congrArg qa (by kernel_rfl))
 t3:=underlying3
 a3:=isAgg3
 z3:=sizeOf3
 v3:=zeroValue3
 t4:=underlying4
 a4:=isAgg4
 z4:=sizeOf4
 v4:=zeroValue4
 t5:=underlying5
 a5:=isAgg5
 z5:=sizeOf5
 v5:=zeroValue5
 t9:=underlying9
 a9:=isAgg9
 z9:=sizeOf9
 v9:=zeroValue9
 t46:=underlying131
 a46:=isAgg131
 z46:=sizeOf131
 v46:=zeroValue131
 t51:=underlying54
 a51:=isAgg54
 z51:=sizeOf54
 v51:=zeroValue54}
theorem Tryz.bits_Len32(x:Int)(w:World)(h0:0<=x)(h1:x<=4294967295):Calls qb 227 #[.int .u32 x] w fun e w'=>e=.returned (.int .i64 (Lib.bitLen x.toNat))/\w'=w:=Any.bits_Len32 Tryz.lays128 x w h0 h1
def Tryz.lays133_ren:Go.Shelf.Ren:=⟨fun|133=>224|128=>227|n=>n,fun|51=>54|3=>3|4=>4|46=>131|5=>5|9=>9|n=>n,fun|n=>n⟩
theorem Tryz.lays133:Go.Proofs.Lays.n133 qb Tryz.lays133_ren:={
 mixed:=by kernel_rfl
 f128:=func227.trans (congrArg qa (by kernel_rfl))
 f133:=func224.trans (congrArg qa (by kernel_rfl))
 t3:=underlying3
 a3:=isAgg3
 z3:=sizeOf3
 v3:=zeroValue3
 t4:=underlying4
 a4:=isAgg4
 z4:=sizeOf4
 v4:=zeroValue4
 t5:=underlying5
 a5:=isAgg5
 z5:=sizeOf5
 v5:=zeroValue5
 t9:=underlying9
 a9:=isAgg9
 z9:=sizeOf9
 v9:=zeroValue9
 t46:=underlying131
 a46:=isAgg131
 z46:=sizeOf131
 v46:=zeroValue131
 t51:=underlying54
 a51:=isAgg54
 z51:=sizeOf54
 v51:=zeroValue54}
theorem Tryz.bits_LeadingZeros32(x:Int)(w:World)(h0:0<=x)(h1:x<=4294967295):Calls qb 224 #[.int .u32 x] w fun e w'=>e=.returned (.int .i64 (32-(Lib.bitLen x.toNat:Int)))/\w'=w:=Any.bits_LeadingZeros32 Tryz.lays133 x w h0 h1
open Go.RowKit in
def Tryz.lays129_ren:Go.Shelf.Ren:=⟨fun|129=>88|n=>n,fun|53=>24|3=>3|4=>4|46=>131|5=>5|9=>9|n=>n,fun|n=>n⟩
theorem Tryz.lays129:Go.Proofs.Lays.n129 qb Tryz.lays129_ren:={
 mixed:=by kernel_rfl
 f129:=func88.trans (congrArg qa (by kernel_rfl))
 t3:=underlying3
 a3:=isAgg3
 z3:=sizeOf3
 v3:=zeroValue3
 t4:=underlying4
 a4:=isAgg4
 z4:=sizeOf4
 v4:=zeroValue4
 t5:=underlying5
 a5:=isAgg5
 z5:=sizeOf5
 v5:=zeroValue5
 t9:=underlying9
 a9:=isAgg9
 z9:=sizeOf9
 v9:=zeroValue9
 t46:=underlying131
 a46:=isAgg131
 z46:=sizeOf131
 v46:=zeroValue131
 t53:=underlying24
 a53:=isAgg24
 z53:=sizeOf24
 v53:=zeroValue24}
theorem Tryz.bits_Len64(x:Int)(w:World)(h0:0<=x)(h1:x<=18446744073709551615):Calls qb 88 #[.int .u64 x] w fun e w'=>e=.returned (.int .i64 (Lib.bitLen x.toNat))/\w'=w:=Any.bits_Len64 Tryz.lays129 x w h0 h1
end Go.Proofs
