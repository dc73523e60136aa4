/- Lemmas. -/
import Derived.Shelf.Strings.Builder1
import Derived.Shelf.Strings.Trim
import Derived.Shelf.Small.Utf8
import Derived.Shelf.Small.Bits
import Derived.Shelf.Small.Strs
import Derived.Shelf.Strings.BuilderF
import Derived.Shelf.Strings.BuilderK
import Derived.Shelf.Strconv.Itoa0
import Derived.Shelf.Strconv.Itoa1
import Derived.Shelf.LaysM
import Derived.Shelf.Strconv.Itoa2
import Derived.Shelf.Strconv.Itoa3
import Derived.Shelf.Strconv.Clone
import Derived.Shelf.Strconv.Lower
import Derived.Shelf.Strconv.ParseUint10
import Derived.Shelf.Strconv.ParseUint10Empty
import Derived.Shelf.Strconv.ParseUint10Any
import Derived.Shelf.Strconv.RangeError
import Derived.Shelf.LaysC
import Derived.Shelf.Strconv.ToErrorRange
import Derived.Ground.MpProg
import Derived.Shelf.Pu.ParseUintPublic10
import Derived.Shelf.Pu.ErrVarParseUint
import Derived.Shelf.Strings.Search1
import Derived.Shelf.Strings.Prefix
import Derived.Shelf.Strings.Runes
import Derived.Shelf.Strings.AsciiSet
import Derived.Shelf.Bits.Mul64
import Derived.Shelf.Unicode.DecodeSlow
import Derived.Shelf.Unicode.DecodeAny
import Derived.Test.YtddaldghlinokaaGreatDoorProg
set_option linter.all false
namespace Go.Proofs
open Go.Shelf
def Tryz.lays170_ren : Go.Shelf.Ren := ⟨fun | 170 => 157 | n => n, fun | 70 => 188 | 3 => 3 | 0 => 0 | 72 => 190 | 37 => 149 | 5 => 5 | n => n, fun | n => n⟩
theorem Tryz.lays170 : Go.Proofs.Lays.n170 Tryz.prog Tryz.lays170_ren := {
 mixed := by kernel_rfl
 f170 := Tryz.func157.trans (congrArg some (by kernel_rfl))
 t0 := Tryz.underlying0
 a0 := Tryz.isAgg0
 z0 := Tryz.sizeOf0
 v0 := Tryz.zeroValue0
 t3 := Tryz.underlying3
 a3 := Tryz.isAgg3
 z3 := Tryz.sizeOf3
 v3 := Tryz.zeroValue3
 t37 := Tryz.underlying149
 a37 := Tryz.isAgg149
 z37 := Tryz.sizeOf149
 v37 := Tryz.zeroValue149
 t70 := Tryz.underlying188
 a70 := Tryz.isAgg188
 z70 := Tryz.sizeOf188
 v70 := Tryz.zeroValue188
 t72 := Tryz.underlying190
 a72 := Tryz.isAgg190
 z72 := Tryz.sizeOf190
 v72 := Tryz.zeroValue190 }
open Go.RowKit in
def Tryz.lays169_ren : Go.Shelf.Ren := ⟨fun | 169 => 144 | n => n, fun | 70 => 188 | 9 => 9 | 0 => 0 | 72 => 190 | 37 => 149 | 127 => 273 | 3 => 3 | 5 => 5 | n => n, fun | n => n⟩
open Go.RowKit in
open Go.RowKit in
open Go.RowKit in
def Tryz.lays231_ren : Go.Shelf.Ren := ⟨fun | 231 => 378 | n => n, fun | 9 => 9 | 5 => 5 | 3 => 3 | 4 => 4 | n => n, fun | n => n⟩
open Go.RowKit in
def Tryz.lays232_ren : Go.Shelf.Ren := ⟨fun | 232 => 382 | n => n, fun | 9 => 9 | 5 => 5 | 3 => 3 | 4 => 4 | n => n, fun | n => n⟩
open Go.RowKit in
def Tryz.lays161_ren : Go.Shelf.Ren := ⟨fun | 161 => 342 | 231 => 378 | 227 => 379 | 233 => 380 | 235 => 381 | 228 => 394 | 197 => 287 | 151 => 395 | 260 => 345 | 152 => 404 | 137 => 87 | 119 => 408 | 224 => 409 | 225 => 410 | 217 => 194 | 266 => 280 | n => n, fun | 9 => 9 | 4 => 4 | 3 => 3 | 5 => 5 | 117 => 379 | 116 => 378 | 0 => 0 | 124 => 382 | 105 => 304 | 21 => 21 | 119 => 384 | 46 => 59 | 139 => 387 | 138 => 386 | n => n, fun | 3 => 3 | 4 => 4 | n => n⟩
theorem Tryz.lays161 : Go.Proofs.Lays.n161 Tryz.prog Tryz.lays161_ren := {
 mixed := by kernel_rfl
 f119 := Tryz.func408.trans (congrArg some (by kernel_rfl))
 f137 := Tryz.func87.trans (congrArg some (by kernel_rfl))
 f151 := Tryz.func395.trans (congrArg some (by kernel_rfl))
 f152 := Tryz.func404.trans (congrArg some (by kernel_rfl))
 f161 := Tryz.func342.trans (congrArg some (by kernel_rfl))
 f197 := Tryz.func287.trans (congrArg some (by kernel_rfl))
 f217 := Tryz.func194.trans (congrArg some (by kernel_rfl))
 f224 := Tryz.func409.trans (congrArg some (by kernel_rfl))
 f225 := Tryz.func410.trans (congrArg some (by kernel_rfl))
 f227 := Tryz.func379.trans (congrArg some (by kernel_rfl))
 f228 := Tryz.func394.trans (congrArg some (by kernel_rfl))
 f231 := Tryz.func378.trans (congrArg some (by kernel_rfl))
 f233 := Tryz.func380.trans (congrArg some (by kernel_rfl))
 f235 := Tryz.func381.trans (congrArg some (by kernel_rfl))
 f260 := Tryz.func345.trans (congrArg some (by kernel_rfl))
 f266 := Tryz.func280.trans (congrArg some (by kernel_rfl))
 t0 := Tryz.underlying0
 a0 := Tryz.isAgg0
 z0 := Tryz.sizeOf0
 v0 := Tryz.zeroValue0
 t3 := Tryz.underlying3
 a3 := Tryz.isAgg3
 z3 := Tryz.sizeOf3
 v3 := Tryz.zeroValue3
 t4 := Tryz.underlying4
 a4 := Tryz.isAgg4
 z4 := Tryz.sizeOf4
 v4 := Tryz.zeroValue4
 t5 := Tryz.underlying5
 a5 := Tryz.isAgg5
 z5 := Tryz.sizeOf5
 v5 := Tryz.zeroValue5
 t9 := Tryz.underlying9
 a9 := Tryz.isAgg9
 z9 := Tryz.sizeOf9
 v9 := Tryz.zeroValue9
 t21 := Tryz.underlying21
 a21 := Tryz.isAgg21
 z21 := Tryz.sizeOf21
 v21 := Tryz.zeroValue21
 t46 := Tryz.underlying59
 a46 := Tryz.isAgg59
 z46 := Tryz.sizeOf59
 v46 := Tryz.zeroValue59
 t105 := Tryz.underlying304
 a105 := Tryz.isAgg304
 z105 := Tryz.sizeOf304
 v105 := Tryz.zeroValue304
 t116 := Tryz.underlying378
 a116 := Tryz.isAgg378
 z116 := Tryz.sizeOf378
 t117 := Tryz.underlying379
 a117 := Tryz.isAgg379
 z117 := Tryz.sizeOf379
 v117 := Tryz.zeroValue379
 t119 := Tryz.underlying384
 a119 := Tryz.isAgg384
 z119 := Tryz.sizeOf384
 t124 := Tryz.underlying382
 a124 := Tryz.isAgg382
 z124 := Tryz.sizeOf382
 v124 := Tryz.zeroValue382
 t138 := Tryz.underlying386
 a138 := Tryz.isAgg386
 z138 := Tryz.sizeOf386
 v138 := Tryz.zeroValue386
 t139 := Tryz.underlying387
 a139 := Tryz.isAgg387
 z139 := Tryz.sizeOf387
 v139 := Tryz.zeroValue387
 g3 := by kernel_rfl
 g4 := by kernel_rfl }
open Go.RowKit in
theorem Tryz.strings_TrimLeft_one (s : ByteArray) (c : UInt8) (hc : c.toNat < 128) (w : World) :
  Calls Tryz.prog 342 #[.string s, .string ⟨#[c]⟩] w fun e w' => e = .returned (.string ⟨(Lib.trimLeftB s.data.toList c).toArray⟩) /\ w' = w := Any.strings_TrimLeft_one Tryz.lays161 s c hc w
def Tryz.lays162_ren : Go.Shelf.Ren := ⟨fun | 162 => 343 | 232 => 382 | 227 => 379 | 234 => 383 | 236 => 384 | 228 => 394 | 271 => 396 | 151 => 395 | 120 => 405 | 197 => 287 | 152 => 404 | 260 => 345 | 137 => 87 | 119 => 408 | 224 => 409 | 225 => 410 | 217 => 194 | 266 => 280 | n => n, fun | 9 => 9 | 4 => 4 | 3 => 3 | 5 => 5 | 117 => 379 | 116 => 378 | 0 => 0 | 124 => 382 | 21 => 21 | 105 => 304 | 46 => 59 | 119 => 384 | 139 => 387 | 138 => 386 | n => n, fun | 3 => 3 | 4 => 4 | n => n⟩
theorem Tryz.lays162 : Go.Proofs.Lays.n162 Tryz.prog Tryz.lays162_ren := {
 mixed := by kernel_rfl
 f119 := Tryz.func408.trans (congrArg some (by kernel_rfl))
 f120 := Tryz.func405.trans (congrArg some (by kernel_rfl))
 f137 := Tryz.func87.trans (congrArg some (by kernel_rfl))
 f151 := Tryz.func395.trans (congrArg some (by kernel_rfl))
 f152 := Tryz.func404.trans (congrArg some (by kernel_rfl))
 f162 := Tryz.func343.trans (congrArg some (by kernel_rfl))
 f197 := Tryz.func287.trans (congrArg some (by kernel_rfl))
 f217 := Tryz.func194.trans (congrArg some (by kernel_rfl))
 f224 := Tryz.func409.trans (congrArg some (by kernel_rfl))
 f225 := Tryz.func410.trans (congrArg some (by kernel_rfl))
 f227 := Tryz.func379.trans (congrArg some (by kernel_rfl))
 f228 := Tryz.func394.trans (congrArg some (by kernel_rfl))
 f232 := Tryz.func382.trans (congrArg some (by kernel_rfl))
 f234 := Tryz.func383.trans (congrArg some (by kernel_rfl))
 f236 := Tryz.func384.trans (congrArg some (by kernel_rfl))
 f260 := Tryz.func345.trans (congrArg some (by kernel_rfl))
 f266 := Tryz.func280.trans (congrArg some (by kernel_rfl))
 f271 := Tryz.func396.trans (congrArg some (by kernel_rfl))
 t0 := Tryz.underlying0
 a0 := Tryz.isAgg0
 z0 := Tryz.sizeOf0
 v0 := Tryz.zeroValue0
 t3 := Tryz.underlying3
 a3 := Tryz.isAgg3
 z3 := Tryz.sizeOf3
 v3 := Tryz.zeroValue3
 t4 := Tryz.underlying4
 a4 := Tryz.isAgg4
 z4 := Tryz.sizeOf4
 v4 := Tryz.zeroValue4
 t5 := Tryz.underlying5
 a5 := Tryz.isAgg5
 z5 := Tryz.sizeOf5
 v5 := Tryz.zeroValue5
 t9 := Tryz.underlying9
 a9 := Tryz.isAgg9
 z9 := Tryz.sizeOf9
 v9 := Tryz.zeroValue9
 t21 := Tryz.underlying21
 a21 := Tryz.isAgg21
 z21 := Tryz.sizeOf21
 v21 := Tryz.zeroValue21
 t46 := Tryz.underlying59
 a46 := Tryz.isAgg59
 z46 := Tryz.sizeOf59
 v46 := Tryz.zeroValue59
 t105 := Tryz.underlying304
 a105 := Tryz.isAgg304
 z105 := Tryz.sizeOf304
 v105 := Tryz.zeroValue304
 t116 := Tryz.underlying378
 a116 := Tryz.isAgg378
 z116 := Tryz.sizeOf378
 t117 := Tryz.underlying379
 a117 := Tryz.isAgg379
 z117 := Tryz.sizeOf379
 v117 := Tryz.zeroValue379
 t119 := Tryz.underlying384
 a119 := Tryz.isAgg384
 z119 := Tryz.sizeOf384
 t124 := Tryz.underlying382
 a124 := Tryz.isAgg382
 z124 := Tryz.sizeOf382
 v124 := Tryz.zeroValue382
 t138 := Tryz.underlying386
 a138 := Tryz.isAgg386
 z138 := Tryz.sizeOf386
 v138 := Tryz.zeroValue386
 t139 := Tryz.underlying387
 a139 := Tryz.isAgg387
 z139 := Tryz.sizeOf387
 v139 := Tryz.zeroValue387
 g3 := by kernel_rfl
 g4 := by kernel_rfl }
open Go.RowKit in
theorem Tryz.strings_TrimRight_one (s : ByteArray) (c : UInt8) (hc : c.toNat < 128) (w : World) (hs : s.size <= 9223372036854775807) :
  Calls Tryz.prog 343 #[.string s, .string ⟨#[c]⟩] w fun e w' => e = .returned (.string ⟨(Lib.trimRightB s.data.toList c).toArray⟩) /\ w' = w := Any.strings_TrimRight_one Tryz.lays162 s c hc w hs
def Tryz.lays118_ren : Go.Shelf.Ren := ⟨fun | 118 => 333 | n => n, fun | 21 => 21 | 3 => 3 | 4 => 4 | n => n, fun | n => n⟩
theorem Tryz.lays118 : Go.Proofs.Lays.n118 Tryz.prog Tryz.lays118_ren := {
 mixed := by kernel_rfl
 f118 := Tryz.func333.trans (congrArg some (by kernel_rfl))
 t3 := Tryz.underlying3
 a3 := Tryz.isAgg3
 z3 := Tryz.sizeOf3
 v3 := Tryz.zeroValue3
 t4 := Tryz.underlying4
 a4 := Tryz.isAgg4
 z4 := Tryz.sizeOf4
 v4 := Tryz.zeroValue4
 t21 := Tryz.underlying21
 a21 := Tryz.isAgg21
 z21 := Tryz.sizeOf21
 v21 := Tryz.zeroValue21 }
theorem Tryz.utf8_RuneLen (r : Int) (w : World) :
  Calls Tryz.prog 333 #[.int .i32 r] w fun e w' => e = .returned (.int .i64 (Lib.runeLen r)) /\ w' = w := Any.utf8_RuneLen Tryz.lays118 r w
def Tryz.lays119_ren : Go.Shelf.Ren := ⟨fun | 119 => 408 | n => n, fun | 21 => 21 | 4 => 4 | n => n, fun | n => n⟩
def Tryz.lays120_ren : Go.Shelf.Ren := ⟨fun | 120 => 405 | n => n, fun | 5 => 5 | 4 => 4 | n => n, fun | n => n⟩
def Tryz.lays128_ren : Go.Shelf.Ren := ⟨fun | 128 => 165 | n => n, fun | 51 => 34 | 3 => 3 | 4 => 4 | 46 => 59 | 5 => 5 | 9 => 9 | n => n, fun | n => n⟩
theorem Tryz.lays128 : Go.Proofs.Lays.n128 Tryz.prog Tryz.lays128_ren := {
 mixed := by kernel_rfl
 f128 := Tryz.func165.trans (congrArg some (by kernel_rfl))
 t3 := Tryz.underlying3
 a3 := Tryz.isAgg3
 z3 := Tryz.sizeOf3
 v3 := Tryz.zeroValue3
 t4 := Tryz.underlying4
 a4 := Tryz.isAgg4
 z4 := Tryz.sizeOf4
 v4 := Tryz.zeroValue4
 t5 := Tryz.underlying5
 a5 := Tryz.isAgg5
 z5 := Tryz.sizeOf5
 v5 := Tryz.zeroValue5
 t9 := Tryz.underlying9
 a9 := Tryz.isAgg9
 z9 := Tryz.sizeOf9
 v9 := Tryz.zeroValue9
 t46 := Tryz.underlying59
 a46 := Tryz.isAgg59
 z46 := Tryz.sizeOf59
 v46 := Tryz.zeroValue59
 t51 := Tryz.underlying34
 a51 := Tryz.isAgg34
 z51 := Tryz.sizeOf34
 v51 := Tryz.zeroValue34 }
theorem Tryz.bits_Len32 (x : Int) (w : World) (h0 : 0 <= x) (h1 : x <= 4294967295) :
  Calls Tryz.prog 165 #[.int .u32 x] w fun e w' => e = .returned (.int .i64 (Lib.bitLen x.toNat)) /\ w' = w := Any.bits_Len32 Tryz.lays128 x w h0 h1
def Tryz.lays133_ren : Go.Shelf.Ren := ⟨fun | 133 => 139 | 128 => 165 | n => n, fun | 51 => 34 | 3 => 3 | 4 => 4 | 46 => 59 | 5 => 5 | 9 => 9 | n => n, fun | n => n⟩
theorem Tryz.lays133 : Go.Proofs.Lays.n133 Tryz.prog Tryz.lays133_ren := {
 mixed := by kernel_rfl
 f128 := Tryz.func165.trans (congrArg some (by kernel_rfl))
 f133 := Tryz.func139.trans (congrArg some (by kernel_rfl))
 t3 := Tryz.underlying3
 a3 := Tryz.isAgg3
 z3 := Tryz.sizeOf3
 v3 := Tryz.zeroValue3
 t4 := Tryz.underlying4
 a4 := Tryz.isAgg4
 z4 := Tryz.sizeOf4
 v4 := Tryz.zeroValue4
 t5 := Tryz.underlying5
 a5 := Tryz.isAgg5
 z5 := Tryz.sizeOf5
 v5 := Tryz.zeroValue5
 t9 := Tryz.underlying9
 a9 := Tryz.isAgg9
 z9 := Tryz.sizeOf9
 v9 := Tryz.zeroValue9
 t46 := Tryz.underlying59
 a46 := Tryz.isAgg59
 z46 := Tryz.sizeOf59
 v46 := Tryz.zeroValue59
 t51 := Tryz.underlying34
 a51 := Tryz.isAgg34
 z51 := Tryz.sizeOf34
 v51 := Tryz.zeroValue34 }
theorem Tryz.bits_LeadingZeros32 (x : Int) (w : World) (h0 : 0 <= x) (h1 : x <= 4294967295) :
  Calls Tryz.prog 139 #[.int .u32 x] w fun e w' => e = .returned (.int .i64 (32 - (Lib.bitLen x.toNat : Int))) /\ w' = w := Any.bits_LeadingZeros32 Tryz.lays133 x w h0 h1
def Tryz.lays137_ren : Go.Shelf.Ren := ⟨fun | 137 => 87 | 217 => 194 | 266 => 280 | n => n, fun | 9 => 9 | 5 => 5 | 3 => 3 | n => n, fun | n => n⟩
theorem Tryz.lays137 : Go.Proofs.Lays.n137 Tryz.prog Tryz.lays137_ren := {
 mixed := by kernel_rfl
 f137 := Tryz.func87.trans (congrArg some (by kernel_rfl))
 f217 := Tryz.func194.trans (congrArg some (by kernel_rfl))
 f266 := Tryz.func280.trans (congrArg some (by kernel_rfl))
 t3 := Tryz.underlying3
 a3 := Tryz.isAgg3
 z3 := Tryz.sizeOf3
 v3 := Tryz.zeroValue3
 t5 := Tryz.underlying5
 a5 := Tryz.isAgg5
 z5 := Tryz.sizeOf5
 v5 := Tryz.zeroValue5
 t9 := Tryz.underlying9
 a9 := Tryz.isAgg9
 z9 := Tryz.sizeOf9
 v9 := Tryz.zeroValue9 }
open Go.RowKit in
theorem Tryz.strings_IndexByte (s : ByteArray) (c : Int) (w : World) :
  Calls Tryz.prog 87 #[.string s, .int .u8 c] w fun e w' => e = .returned (.int .i64 (Lib.indexByte s.data.toList c.toNat.toUInt8)) /\ w' = w := Any.strings_IndexByte Tryz.lays137 s c w
open Go.RowKit in
theorem Tryz.Builder_Len_f (B b : Nat) (bs : List Value) (w : World) (h : Lib.IsBuilderF 190 5 B b bs w) :
  Calls Tryz.prog 157 #[.pointer (some ⟨b, 0, none⟩)] w fun e w' => e = .returned (.int .i64 bs.length) /\ w' = w := Any.Builder_Len_f Tryz.lays170 B b bs w h
open Go.RowKit in
open Go.RowKit in
open Go.RowKit in
open Go.RowKit in
open Go.RowKit in
open Go.RowKit in
def Tryz.lays129_ren : Go.Shelf.Ren := ⟨fun | 129 => 152 | n => n, fun | 53 => 31 | 3 => 3 | 4 => 4 | 46 => 59 | 5 => 5 | 9 => 9 | n => n, fun | n => n⟩
theorem Tryz.lays129 : Go.Proofs.Lays.n129 Tryz.prog Tryz.lays129_ren := {
 mixed := by kernel_rfl
 f129 := Tryz.func152.trans (congrArg some (by kernel_rfl))
 t3 := Tryz.underlying3
 a3 := Tryz.isAgg3
 z3 := Tryz.sizeOf3
 v3 := Tryz.zeroValue3
 t4 := Tryz.underlying4
 a4 := Tryz.isAgg4
 z4 := Tryz.sizeOf4
 v4 := Tryz.zeroValue4
 t5 := Tryz.underlying5
 a5 := Tryz.isAgg5
 z5 := Tryz.sizeOf5
 v5 := Tryz.zeroValue5
 t9 := Tryz.underlying9
 a9 := Tryz.isAgg9
 z9 := Tryz.sizeOf9
 v9 := Tryz.zeroValue9
 t46 := Tryz.underlying59
 a46 := Tryz.isAgg59
 z46 := Tryz.sizeOf59
 v46 := Tryz.zeroValue59
 t53 := Tryz.underlying31
 a53 := Tryz.isAgg31
 z53 := Tryz.sizeOf31
 v53 := Tryz.zeroValue31 }
theorem Tryz.bits_Len64 (x : Int) (w : World) (h0 : 0 <= x) (h1 : x <= 18446744073709551615) :
  Calls Tryz.prog 152 #[.int .u64 x] w fun e w' => e = .returned (.int .i64 (Lib.bitLen x.toNat)) /\ w' = w := Any.bits_Len64 Tryz.lays129 x w h0 h1
def Tryz.lays317_ren : Go.Shelf.Ren := ⟨fun | 317 => 387 | n => n, fun | 3 => 3 | 46 => 59 | n => n, fun | n => n⟩
open Go.Lib in
def Tryz.lays318_ren : Go.Shelf.Ren := ⟨fun | 318 => 388 | n => n, fun | 3 => 3 | 4 => 4 | n => n, fun | n => n⟩
open Go.Lib in
def Tryz.lays283_ren : Go.Shelf.Ren := ⟨fun | 283 => 361 | n => n, fun | 3 => 3 | 9 => 9 | 4 => 4 | n => n, fun | n => n⟩
open Go.Lib in
def Tryz.laysM284_ren : Go.Shelf.Ren := ⟨fun | 284 => 362 | 129 => 152 | 317 => 387 | 318 => 388 | n => n, fun | 53 => 31 | 3 => 3 | 212 => 389 | 0 => 0 | 4 => 4 | 46 => 59 | 5 => 5 | 9 => 9 | n => n, fun | 17 => 5 | n => n⟩
open Go.Lib in
def Tryz.lays285_ren : Go.Shelf.Ren := ⟨fun | 285 => 363 | n => n, fun | 37 => 149 | 53 => 31 | 3 => 3 | 4 => 4 | 51 => 34 | 9 => 9 | 5 => 5 | 0 => 0 | n => n, fun | n => n⟩
open Go.RowKit Go.Sort Go.Lib in
def Tryz.laysM246_ren : Go.Shelf.Ren := ⟨fun | 246 => 305 | 283 => 361 | 284 => 362 | 285 => 363 | 286 => 364 | 129 => 152 | 317 => 387 | 318 => 388 | 319 => 389 | 320 => 390 | 337 => 278 | 338 => 403 | n => n, fun | 2 => 2 | 3 => 3 | 9 => 9 | 4 => 4 | 171 => 365 | 0 => 0 | 53 => 31 | 37 => 149 | 5 => 5 | 173 => 367 | 212 => 389 | 51 => 34 | 20 => 20 | 213 => 390 | 46 => 59 | 232 => 335 | 233 => 405 | n => n, fun | 17 => 5 | 18 => 1 | 19 => 8 | n => n⟩
open Go.RowKit Go.Sort Go.Lib in
def Tryz.lays246_ren : Go.Shelf.Ren := ⟨fun | 246 => 305 | 283 => 361 | 284 => 362 | 285 => 363 | 286 => 364 | 129 => 152 | 317 => 387 | 318 => 388 | 319 => 389 | 320 => 390 | 337 => 278 | 338 => 403 | n => n, fun | 2 => 2 | 3 => 3 | 9 => 9 | 4 => 4 | 171 => 365 | 0 => 0 | 53 => 31 | 37 => 149 | 5 => 5 | 173 => 367 | 212 => 389 | 51 => 34 | 20 => 20 | 213 => 390 | 46 => 59 | 232 => 335 | 233 => 405 | n => n, fun | 17 => 5 | 18 => 1 | 19 => 8 | n => n⟩
open Go.RowKit Go.Sort Go.Lib in
def Tryz.laysM243_ren : Go.Shelf.Ren := ⟨fun | 243 => 237 | 246 => 305 | 283 => 361 | 284 => 362 | 285 => 363 | 286 => 364 | 129 => 152 | 317 => 387 | 318 => 388 | 319 => 389 | 320 => 390 | 337 => 278 | 338 => 403 | n => n, fun | 3 => 3 | 9 => 9 | 2 => 2 | 4 => 4 | 171 => 365 | 0 => 0 | 53 => 31 | 37 => 149 | 5 => 5 | 173 => 367 | 212 => 389 | 51 => 34 | 20 => 20 | 213 => 390 | 46 => 59 | 232 => 335 | 233 => 405 | n => n, fun | 17 => 5 | 18 => 1 | 19 => 8 | n => n⟩
open Go.RowKit Go.Sort Go.Lib in
def Tryz.lays243_ren : Go.Shelf.Ren := ⟨fun | 243 => 237 | 246 => 305 | 283 => 361 | 284 => 362 | 285 => 363 | 286 => 364 | 129 => 152 | 317 => 387 | 318 => 388 | 319 => 389 | 320 => 390 | 337 => 278 | 338 => 403 | n => n, fun | 3 => 3 | 9 => 9 | 2 => 2 | 4 => 4 | 171 => 365 | 0 => 0 | 53 => 31 | 37 => 149 | 5 => 5 | 173 => 367 | 212 => 389 | 51 => 34 | 20 => 20 | 213 => 390 | 46 => 59 | 232 => 335 | 233 => 405 | n => n, fun | 17 => 5 | 18 => 1 | 19 => 8 | n => n⟩
open Go.RowKit Go.Sort Go.Lib in
def Tryz.laysM171_ren : Go.Shelf.Ren := ⟨fun | 171 => 137 | 243 => 237 | 246 => 305 | 283 => 361 | 284 => 362 | 285 => 363 | 286 => 364 | 129 => 152 | 317 => 387 | 318 => 388 | 319 => 389 | 320 => 390 | 337 => 278 | 338 => 403 | n => n, fun | 3 => 3 | 9 => 9 | 2 => 2 | 4 => 4 | 171 => 365 | 0 => 0 | 53 => 31 | 37 => 149 | 5 => 5 | 173 => 367 | 212 => 389 | 51 => 34 | 20 => 20 | 213 => 390 | 46 => 59 | 232 => 335 | 233 => 405 | n => n, fun | 17 => 5 | 18 => 1 | 19 => 8 | n => n⟩
theorem Tryz.laysM171 : Go.Proofs.LaysM.n171 Tryz.prog Tryz.laysM171_ren := {
 mixed := by kernel_rfl
 f129 := Tryz.func152.trans (congrArg some (by kernel_rfl))
 f171 := Tryz.func137.trans (congrArg some (by kernel_rfl))
 f243 := Tryz.func237.trans (congrArg some (by kernel_rfl))
 f246 := Tryz.func305.trans (congrArg some (by kernel_rfl))
 f283 := Tryz.func361.trans (congrArg some (by kernel_rfl))
 f284 := Tryz.func362.trans (congrArg some (by kernel_rfl))
 f285 := Tryz.func363.trans (congrArg some (by kernel_rfl))
 f286 := Tryz.func364.trans (congrArg some (by kernel_rfl))
 f317 := Tryz.func387.trans (congrArg some (by kernel_rfl))
 f318 := Tryz.func388.trans (congrArg some (by kernel_rfl))
 f319 := Tryz.func389.trans (congrArg some (by kernel_rfl))
 f320 := Tryz.func390.trans (congrArg some (by kernel_rfl))
 f337 := Tryz.func278.trans (congrArg some (by kernel_rfl))
 f338 := Tryz.func403.trans (congrArg some (by kernel_rfl))
 t0 := Tryz.underlying0
 a0 := Tryz.isAgg0
 z0 := Tryz.sizeOf0
 v0 := Tryz.zeroValue0
 t2 := Tryz.underlying2
 a2 := Tryz.isAgg2
 z2 := Tryz.sizeOf2
 v2 := Tryz.zeroValue2
 t3 := Tryz.underlying3
 a3 := Tryz.isAgg3
 z3 := Tryz.sizeOf3
 v3 := Tryz.zeroValue3
 t4 := Tryz.underlying4
 a4 := Tryz.isAgg4
 z4 := Tryz.sizeOf4
 v4 := Tryz.zeroValue4
 t5 := Tryz.underlying5
 a5 := Tryz.isAgg5
 z5 := Tryz.sizeOf5
 v5 := Tryz.zeroValue5
 t9 := Tryz.underlying9
 a9 := Tryz.isAgg9
 z9 := Tryz.sizeOf9
 v9 := Tryz.zeroValue9
 t20 := Tryz.underlying20
 a20 := Tryz.isAgg20
 z20 := Tryz.sizeOf20
 v20 := Tryz.zeroValue20
 t37 := Tryz.underlying149
 a37 := Tryz.isAgg149
 z37 := Tryz.sizeOf149
 v37 := Tryz.zeroValue149
 t46 := Tryz.underlying59
 a46 := Tryz.isAgg59
 z46 := Tryz.sizeOf59
 v46 := Tryz.zeroValue59
 t51 := Tryz.underlying34
 a51 := Tryz.isAgg34
 z51 := Tryz.sizeOf34
 v51 := Tryz.zeroValue34
 t53 := Tryz.underlying31
 a53 := Tryz.isAgg31
 z53 := Tryz.sizeOf31
 v53 := Tryz.zeroValue31
 t171 := Tryz.underlying365
 a171 := Tryz.isAgg365
 z171 := Tryz.sizeOf365
 v171 := Tryz.zeroValue365
 t173 := Tryz.underlying367
 a173 := Tryz.isAgg367
 z173 := Tryz.sizeOf367
 v173 := Tryz.zeroValue367
 t212 := Tryz.underlying389
 a212 := Tryz.isAgg389
 z212 := Tryz.sizeOf389
 v212 := Tryz.zeroValue389
 t213 := Tryz.underlying390
 a213 := Tryz.isAgg390
 z213 := Tryz.sizeOf390
 t232 := Tryz.underlying335
 a232 := Tryz.isAgg335
 z232 := Tryz.sizeOf335
 v232 := Tryz.zeroValue335
 t233 := Tryz.underlying405
 a233 := Tryz.isAgg405
 z233 := Tryz.sizeOf405
 v233 := Tryz.zeroValue405
 g17 := by kernel_rfl
 g18 := by kernel_rfl
 g19 := by kernel_rfl
 i0 := by kernel_rfl
 i2 := by kernel_rfl
 i3 := by kernel_rfl
 i4 := by kernel_rfl
 i5 := by kernel_rfl
 i9 := by kernel_rfl
 i20 := by kernel_rfl
 i37 := by kernel_rfl
 i46 := by kernel_rfl
 i51 := by kernel_rfl
 i53 := by kernel_rfl
 i171 := by kernel_rfl
 i173 := by kernel_rfl
 i212 := by kernel_rfl
 i232 := by kernel_rfl
 i233 := by kernel_rfl
 m17 := by kernel_rfl
 m18 := by kernel_rfl
 m19 := by kernel_rfl }
open Go.RowKit Go.Sort Go.Lib in
theorem Tryz.strconv_Itoa (n : Int) (h0 : -9223372036854775808 <= n) (h1 : n <= 9223372036854775807) (w : World) (htab : Lib.TabIs Tryz.prog w "internal/strconv.uint64pow10" .u64 Lib.pow10Tab) :
  Calls Tryz.prog 137 #[.int .i64 n] w fun e w' => e = .returned (.string ⟨(Lib.itoa n).toArray⟩) /\ ∃ k os, w' = grow (w.drewN k) os := Any.strconv_Itoa Tryz.laysM171 n h0 h1 w htab
def Tryz.lays171_ren : Go.Shelf.Ren := ⟨fun | 171 => 137 | 243 => 237 | 246 => 305 | 283 => 361 | 284 => 362 | 285 => 363 | 286 => 364 | 129 => 152 | 317 => 387 | 318 => 388 | 319 => 389 | 320 => 390 | 337 => 278 | 338 => 403 | n => n, fun | 3 => 3 | 9 => 9 | 2 => 2 | 4 => 4 | 171 => 365 | 0 => 0 | 53 => 31 | 37 => 149 | 5 => 5 | 173 => 367 | 212 => 389 | 51 => 34 | 20 => 20 | 213 => 390 | 46 => 59 | 232 => 335 | 233 => 405 | n => n, fun | 17 => 5 | 18 => 1 | 19 => 8 | n => n⟩
open Go.RowKit Go.Sort Go.Lib in
def Tryz.laysM316_ren : Go.Shelf.Ren := ⟨fun | 316 => 406 | n => n, fun | 9 => 9 | 3 => 3 | 4 => 4 | 37 => 149 | 0 => 0 | 127 => 273 | 5 => 5 | n => n, fun | n => n⟩
open Go.RowKit in
def Tryz.lays321_ren : Go.Shelf.Ren := ⟨fun | 321 => 397 | n => n, fun | 5 => 5 | n => n, fun | n => n⟩
open Go.RowKit in
def Tryz.lays287_ren : Go.Shelf.Ren := ⟨fun | 287 => 385 | 321 => 397 | 322 => 398 | n => n, fun | 9 => 9 | 3 => 3 | 53 => 31 | 75 => 48 | 4 => 4 | 167 => 395 | 5 => 5 | 46 => 59 | 37 => 149 | 0 => 0 | 21 => 21 | 80 => 194 | n => n, fun | n => n⟩
open Go.RowKit in
open Go.RowKit in
open Go.RowKit in
def Tryz.laysM280_ren : Go.Shelf.Ren := ⟨fun | 280 => 400 | 316 => 406 | n => n, fun | 9 => 9 | 168 => 397 | 75 => 48 | 210 => 403 | 3 => 3 | 4 => 4 | 37 => 149 | 0 => 0 | 127 => 273 | 80 => 194 | 5 => 5 | n => n, fun | 16 => 7 | n => n⟩
open Go.RowKit in
def Tryz.laysC245_ren : Go.Shelf.Ren := ⟨fun | 245 => 386 | 279 => 399 | 280 => 400 | 281 => 401 | 282 => 402 | 316 => 406 | 171 => 137 | 205 => 407 | 243 => 237 | 246 => 305 | 283 => 361 | 284 => 362 | 285 => 363 | 286 => 364 | 129 => 152 | 317 => 387 | 318 => 388 | 319 => 389 | 320 => 390 | 337 => 278 | 338 => 403 | n => n, fun | 9 => 9 | 3 => 3 | 75 => 48 | 167 => 395 | 4 => 4 | 168 => 397 | 210 => 403 | 37 => 149 | 0 => 0 | 127 => 273 | 145 => 410 | 143 => 408 | 2 => 2 | 171 => 365 | 53 => 31 | 5 => 5 | 173 => 367 | 212 => 389 | 51 => 34 | 20 => 20 | 213 => 390 | 46 => 59 | 232 => 335 | 233 => 405 | 80 => 194 | n => n, fun | 15 => 6 | 16 => 7 | 17 => 5 | 18 => 1 | 19 => 8 | n => n⟩
open Go.RowKit in
def Tryz.laysPu14_ren : Go.Shelf.Ren := ⟨fun | 14 => 344 | 16 => 385 | 17 => 386 | 19 => 397 | 20 => 398 | 21 => 399 | 22 => 400 | 23 => 401 | 24 => 402 | 25 => 406 | 27 => 137 | 26 => 407 | 28 => 237 | 29 => 305 | 30 => 361 | 31 => 362 | 32 => 363 | 33 => 364 | 35 => 152 | 34 => 387 | 36 => 388 | 37 => 389 | 38 => 390 | 39 => 278 | 40 => 403 | n => n, fun | 9 => 9 | 3 => 3 | 22 => 31 | 24 => 48 | 25 => 346 | 4 => 4 | 34 => 395 | 5 => 5 | 36 => 59 | 37 => 149 | 0 => 0 | 39 => 397 | 21 => 21 | 44 => 403 | 47 => 273 | 50 => 410 | 48 => 408 | 2 => 2 | 52 => 365 | 55 => 367 | 59 => 389 | 60 => 34 | 20 => 20 | 61 => 390 | 65 => 335 | 66 => 405 | 67 => 194 | n => n, fun | 0 => 6 | 1 => 7 | 2 => 5 | 3 => 1 | 4 => 8 | n => n⟩
theorem Tryz.laysPu14 : Go.Proofs.LaysPu.n14 Tryz.prog Tryz.laysPu14_ren := {
 mixed := by kernel_rfl
 f14 := Tryz.func344.trans (congrArg some (by kernel_rfl))
 f16 := Tryz.func385.trans (congrArg some (by kernel_rfl))
 f17 := Tryz.func386.trans (congrArg some (by kernel_rfl))
 f19 := Tryz.func397.trans (congrArg some (by kernel_rfl))
 f20 := Tryz.func398.trans (congrArg some (by kernel_rfl))
 f21 := Tryz.func399.trans (congrArg some (by kernel_rfl))
 f22 := Tryz.func400.trans (congrArg some (by kernel_rfl))
 f23 := Tryz.func401.trans (congrArg some (by kernel_rfl))
 f24 := Tryz.func402.trans (congrArg some (by kernel_rfl))
 f25 := Tryz.func406.trans (congrArg some (by kernel_rfl))
 f26 := Tryz.func407.trans (congrArg some (by kernel_rfl))
 f27 := Tryz.func137.trans (congrArg some (by kernel_rfl))
 f28 := Tryz.func237.trans (congrArg some (by kernel_rfl))
 f29 := Tryz.func305.trans (congrArg some (by kernel_rfl))
 f30 := Tryz.func361.trans (congrArg some (by kernel_rfl))
 f31 := Tryz.func362.trans (congrArg some (by kernel_rfl))
 f32 := Tryz.func363.trans (congrArg some (by kernel_rfl))
 f33 := Tryz.func364.trans (congrArg some (by kernel_rfl))
 f34 := Tryz.func387.trans (congrArg some (by kernel_rfl))
 f35 := Tryz.func152.trans (congrArg some (by kernel_rfl))
 f36 := Tryz.func388.trans (congrArg some (by kernel_rfl))
 f37 := Tryz.func389.trans (congrArg some (by kernel_rfl))
 f38 := Tryz.func390.trans (congrArg some (by kernel_rfl))
 f39 := Tryz.func278.trans (congrArg some (by kernel_rfl))
 f40 := Tryz.func403.trans (congrArg some (by kernel_rfl))
 t0 := Tryz.underlying0
 a0 := Tryz.isAgg0
 z0 := Tryz.sizeOf0
 v0 := Tryz.zeroValue0
 i0 := by kernel_rfl
 t2 := Tryz.underlying2
 a2 := Tryz.isAgg2
 z2 := Tryz.sizeOf2
 v2 := Tryz.zeroValue2
 i2 := by kernel_rfl
 t3 := Tryz.underlying3
 a3 := Tryz.isAgg3
 z3 := Tryz.sizeOf3
 v3 := Tryz.zeroValue3
 i3 := by kernel_rfl
 t4 := Tryz.underlying4
 a4 := Tryz.isAgg4
 z4 := Tryz.sizeOf4
 v4 := Tryz.zeroValue4
 i4 := by kernel_rfl
 t5 := Tryz.underlying5
 a5 := Tryz.isAgg5
 z5 := Tryz.sizeOf5
 v5 := Tryz.zeroValue5
 i5 := by kernel_rfl
 t9 := Tryz.underlying9
 a9 := Tryz.isAgg9
 z9 := Tryz.sizeOf9
 v9 := Tryz.zeroValue9
 i9 := by kernel_rfl
 t20 := Tryz.underlying20
 a20 := Tryz.isAgg20
 z20 := Tryz.sizeOf20
 v20 := Tryz.zeroValue20
 i20 := by kernel_rfl
 t21 := Tryz.underlying21
 a21 := Tryz.isAgg21
 z21 := Tryz.sizeOf21
 v21 := Tryz.zeroValue21
 i21 := by kernel_rfl
 t22 := Tryz.underlying31
 a22 := Tryz.isAgg31
 z22 := Tryz.sizeOf31
 v22 := Tryz.zeroValue31
 i22 := by kernel_rfl
 t24 := Tryz.underlying48
 a24 := Tryz.isAgg48
 z24 := Tryz.sizeOf48
 v24 := Tryz.zeroValue48
 i24 := by kernel_rfl
 t25 := Tryz.underlying346
 a25 := Tryz.isAgg346
 z25 := Tryz.sizeOf346
 v25 := Tryz.zeroValue346
 i25 := by kernel_rfl
 t34 := Tryz.underlying395
 a34 := Tryz.isAgg395
 z34 := Tryz.sizeOf395
 v34 := Tryz.zeroValue395
 i34 := by kernel_rfl
 c34 := by kernel_rfl
 t36 := Tryz.underlying59
 a36 := Tryz.isAgg59
 z36 := Tryz.sizeOf59
 v36 := Tryz.zeroValue59
 i36 := by kernel_rfl
 t37 := Tryz.underlying149
 a37 := Tryz.isAgg149
 z37 := Tryz.sizeOf149
 v37 := Tryz.zeroValue149
 i37 := by kernel_rfl
 t39 := Tryz.underlying397
 a39 := Tryz.isAgg397
 z39 := Tryz.sizeOf397
 v39 := Tryz.zeroValue397
 i39 := by kernel_rfl
 t44 := Tryz.underlying403
 a44 := Tryz.isAgg403
 z44 := Tryz.sizeOf403
 v44 := Tryz.zeroValue403
 i44 := by kernel_rfl
 t47 := Tryz.underlying273
 a47 := Tryz.isAgg273
 z47 := Tryz.sizeOf273
 v47 := Tryz.zeroValue273
 i47 := by kernel_rfl
 t48 := Tryz.underlying408
 a48 := Tryz.isAgg408
 z48 := Tryz.sizeOf408
 v48 := Tryz.zeroValue408
 i48 := by kernel_rfl
 t50 := Tryz.underlying410
 a50 := Tryz.isAgg410
 z50 := Tryz.sizeOf410
 v50 := Tryz.zeroValue410
 i50 := by kernel_rfl
 t52 := Tryz.underlying365
 a52 := Tryz.isAgg365
 z52 := Tryz.sizeOf365
 v52 := Tryz.zeroValue365
 i52 := by kernel_rfl
 t55 := Tryz.underlying367
 a55 := Tryz.isAgg367
 z55 := Tryz.sizeOf367
 v55 := Tryz.zeroValue367
 i55 := by kernel_rfl
 t59 := Tryz.underlying389
 a59 := Tryz.isAgg389
 z59 := Tryz.sizeOf389
 v59 := Tryz.zeroValue389
 i59 := by kernel_rfl
 t60 := Tryz.underlying34
 a60 := Tryz.isAgg34
 z60 := Tryz.sizeOf34
 v60 := Tryz.zeroValue34
 i60 := by kernel_rfl
 t61 := Tryz.underlying390
 a61 := Tryz.isAgg390
 z61 := Tryz.sizeOf390
 t65 := Tryz.underlying335
 a65 := Tryz.isAgg335
 z65 := Tryz.sizeOf335
 v65 := Tryz.zeroValue335
 i65 := by kernel_rfl
 t66 := Tryz.underlying405
 a66 := Tryz.isAgg405
 z66 := Tryz.sizeOf405
 v66 := Tryz.zeroValue405
 i66 := by kernel_rfl
 t67 := Tryz.underlying194
 a67 := Tryz.isAgg194
 z67 := Tryz.sizeOf194
 v67 := Tryz.zeroValue194
 i67 := by kernel_rfl
 g0 := by kernel_rfl
 m0 := by kernel_rfl
 g1 := by kernel_rfl
 m1 := by kernel_rfl
 g2 := by kernel_rfl
 m2 := by kernel_rfl
 g3 := by kernel_rfl
 m3 := by kernel_rfl
 g4 := by kernel_rfl
 m4 := by kernel_rfl }
open Go.RowKit in
open Go.RowKit in
open Go.RowKit in
open Go.RowKit in
theorem Tryz.strconv_ParseUint_10_at64_ok (s : ByteArray) (hmax : s.size <= 9223372036854775806) (u : Nat) (h : Lib.parseUintB 64 s.data.toList = .ok u) (w : World) :
  Calls Tryz.prog 344 #[.string s, .int .i64 10, .int .i64 64] w fun e w' => e = .returned (.tuple #[.int .u64 u, .nilIface]) /\ (w' = w \/ w' = Lib.bytesWorld w 5 s) := Any.strconv_ParseUint_10_at64_ok Tryz.laysPu14 s hmax u h w
open Go.RowKit in
open Go.RowKit in
theorem Tryz.strconv_ParseUint_10_at64_range (s : ByteArray) (hlim : s.size <= 281474976710656) (h : Lib.parseUintB 64 s.data.toList = .range) (ev : Value) (w : World) (hv : w.cell? ⟨7, 0, none⟩ = some ev) (hev : ev = .nilIface \/ ∃ te pe, ev = .iface te pe) :
  Calls Tryz.prog 344 #[.string s, .int .i64 10, .int .i64 64] w fun e w' => ∃ N, e = .returned (.tuple #[.int .u64 18446744073709551615, .iface 397 (.pointer (some ⟨N, 0, none⟩))]) /\ w.heap.size <= N /\ w'.heap[N]? = some (.cells #[.string ⟨#[80, 97, 114, 115, 101, 85, 105, 110, 116]⟩, .string s, ev] 403 (0, 0)) /\ Below w.heap.size w w' := Any.strconv_ParseUint_10_at64_range Tryz.laysPu14 s hlim h ev w hv hev
open Go.RowKit in
open Go.RowKit in
open Go.RowKit in
open Go.RowKit in
open Go.RowKit in
open Go.RowKit in
open Go.RowKit in
open Go.RowKit in
open Go.RowKit in
open Go.RowKit in
open Go.RowKit in
open Go.RowKit in
open Go.RowKit in
open Go.RowKit in
open Go.RowKit in
open Go.RowKit in
open Go.RowKit in
open Go.RowKit in
open Go.RowKit in
def Tryz.lays217_ren : Go.Shelf.Ren := ⟨fun | 217 => 194 | 266 => 280 | n => n, fun | 9 => 9 | 5 => 5 | 3 => 3 | n => n, fun | n => n⟩
open Go.RowKit Go.Lib in
def Tryz.lays224_ren : Go.Shelf.Ren := ⟨fun | 224 => 409 | n => n, fun | 3 => 3 | n => n, fun | n => n⟩
open Go.RowKit Go.Lib in
def Tryz.lays206_ren : Go.Shelf.Ren := ⟨fun | 206 => 244 | n => n, fun | 9 => 9 | 4 => 4 | 3 => 3 | n => n, fun | n => n⟩
open Go.RowKit Go.Lib in
def Tryz.lays99_ren : Go.Shelf.Ren := ⟨fun | 99 => 154 | 206 => 244 | n => n, fun | 9 => 9 | 4 => 4 | 3 => 3 | n => n, fun | n => n⟩
theorem Tryz.lays99 : Go.Proofs.Lays.n99 Tryz.prog Tryz.lays99_ren := {
 mixed := by kernel_rfl
 f99 := Tryz.func154.trans (congrArg some (by kernel_rfl))
 f206 := Tryz.func244.trans (congrArg some (by kernel_rfl))
 t3 := Tryz.underlying3
 a3 := Tryz.isAgg3
 z3 := Tryz.sizeOf3
 v3 := Tryz.zeroValue3
 t4 := Tryz.underlying4
 a4 := Tryz.isAgg4
 z4 := Tryz.sizeOf4
 v4 := Tryz.zeroValue4
 t9 := Tryz.underlying9
 a9 := Tryz.isAgg9
 z9 := Tryz.sizeOf9
 v9 := Tryz.zeroValue9 }
open Go.RowKit Go.Lib in
theorem Tryz.strings_HasPrefix (s p : ByteArray) (w : World) :
  Calls Tryz.prog 154 #[.string s, .string p] w fun e w' => e = .returned (.bool (Lib.hasPrefix s.data.toList p.data.toList)) /\ w' = w := Any.strings_HasPrefix Tryz.lays99 s p w
def Tryz.lays152_ren : Go.Shelf.Ren := ⟨fun | 152 => 404 | 137 => 87 | 119 => 408 | 224 => 409 | 225 => 410 | 217 => 194 | 266 => 280 | n => n, fun | 9 => 9 | 21 => 21 | 3 => 3 | 4 => 4 | 5 => 5 | 0 => 0 | 46 => 59 | n => n, fun | n => n⟩
open Go.RowKit Go.Lib in
def Tryz.lays151_ren : Go.Shelf.Ren := ⟨fun | 151 => 395 | 152 => 404 | 137 => 87 | 119 => 408 | 224 => 409 | 225 => 410 | 217 => 194 | 266 => 280 | n => n, fun | 9 => 9 | 21 => 21 | 4 => 4 | 3 => 3 | 5 => 5 | 0 => 0 | 46 => 59 | n => n, fun | n => n⟩
open Go.RowKit Go.Lib in
def Tryz.lays227_ren : Go.Shelf.Ren := ⟨fun | 227 => 379 | n => n, fun | 9 => 9 | 116 => 378 | 4 => 4 | 0 => 0 | 3 => 3 | 5 => 5 | n => n, fun | n => n⟩
open Go.RowKit Go.Lib in
def Tryz.lays228_ren : Go.Shelf.Ren := ⟨fun | 228 => 394 | n => n, fun | 124 => 382 | 5 => 5 | 4 => 4 | 0 => 0 | 116 => 378 | n => n, fun | n => n⟩
open Go.RowKit Go.Lib in
def Tryz.lays264_ren : Go.Shelf.Ren := ⟨fun | 264 => 243 | n => n, fun | 53 => 31 | 46 => 59 | n => n, fun | n => n⟩
open Go.RowKit Go.Lib in
def Tryz.lays212_ren : Go.Shelf.Ren := ⟨fun | 212 => 153 | 263 => 242 | 264 => 243 | n => n, fun | 46 => 59 | 51 => 34 | 146 => 274 | 53 => 31 | 148 => 261 | n => n, fun | n => n⟩
theorem Tryz.lays212 : Go.Proofs.Lays.n212 Tryz.prog Tryz.lays212_ren := {
 mixed := by kernel_rfl
 f212 := Tryz.func153.trans (congrArg some (by kernel_rfl))
 f263 := Tryz.func242.trans (congrArg some (by kernel_rfl))
 f264 := Tryz.func243.trans (congrArg some (by kernel_rfl))
 t46 := Tryz.underlying59
 a46 := Tryz.isAgg59
 z46 := Tryz.sizeOf59
 v46 := Tryz.zeroValue59
 t51 := Tryz.underlying34
 a51 := Tryz.isAgg34
 z51 := Tryz.sizeOf34
 v51 := Tryz.zeroValue34
 t53 := Tryz.underlying31
 a53 := Tryz.isAgg31
 z53 := Tryz.sizeOf31
 v53 := Tryz.zeroValue31
 t146 := Tryz.underlying274
 a146 := Tryz.isAgg274
 z146 := Tryz.sizeOf274
 v146 := Tryz.zeroValue274
 t148 := Tryz.underlying261
 a148 := Tryz.isAgg261
 z148 := Tryz.sizeOf261
 v148 := Tryz.zeroValue261 }
open Go.RowKit Go.Lib in
theorem Tryz.bits_Mul (x y : Nat) (hx : x < 18446744073709551616) (hy : y < 18446744073709551616) (w : World) :
  Calls Tryz.prog 153 #[.int .u64 x, .int .u64 y] w fun e w' => e = .returned (.tuple #[.int .u64 ((x * y / 18446744073709551616 : Nat) : Int), .int .u64 ((x * y % 18446744073709551616 : Nat) : Int)]) /\ w' = w := Any.bits_Mul Tryz.lays212 x y hx hy w
def Tryz.lays260_ren : Go.Shelf.Ren := ⟨fun | 260 => 345 | n => n, fun | 9 => 9 | 21 => 21 | 3 => 3 | 4 => 4 | 5 => 5 | 119 => 384 | 0 => 0 | 46 => 59 | 139 => 387 | 138 => 386 | n => n, fun | 3 => 3 | 4 => 4 | n => n⟩
theorem Tryz.lays260 : Go.Proofs.Lays.n260 Tryz.prog Tryz.lays260_ren := {
 mixed := by kernel_rfl
 f260 := Tryz.func345.trans (congrArg some (by kernel_rfl))
 t0 := Tryz.underlying0
 a0 := Tryz.isAgg0
 z0 := Tryz.sizeOf0
 v0 := Tryz.zeroValue0
 t3 := Tryz.underlying3
 a3 := Tryz.isAgg3
 z3 := Tryz.sizeOf3
 v3 := Tryz.zeroValue3
 t4 := Tryz.underlying4
 a4 := Tryz.isAgg4
 z4 := Tryz.sizeOf4
 v4 := Tryz.zeroValue4
 t5 := Tryz.underlying5
 a5 := Tryz.isAgg5
 z5 := Tryz.sizeOf5
 v5 := Tryz.zeroValue5
 t9 := Tryz.underlying9
 a9 := Tryz.isAgg9
 z9 := Tryz.sizeOf9
 v9 := Tryz.zeroValue9
 t21 := Tryz.underlying21
 a21 := Tryz.isAgg21
 z21 := Tryz.sizeOf21
 v21 := Tryz.zeroValue21
 t46 := Tryz.underlying59
 a46 := Tryz.isAgg59
 z46 := Tryz.sizeOf59
 v46 := Tryz.zeroValue59
 t119 := Tryz.underlying384
 a119 := Tryz.isAgg384
 z119 := Tryz.sizeOf384
 t138 := Tryz.underlying386
 a138 := Tryz.isAgg386
 z138 := Tryz.sizeOf386
 v138 := Tryz.zeroValue386
 t139 := Tryz.underlying387
 a139 := Tryz.isAgg387
 z139 := Tryz.sizeOf387
 v139 := Tryz.zeroValue387
 g3 := by kernel_rfl
 g4 := by kernel_rfl }
open Go.RowKit Go.Lib in
def Tryz.lays197_ren : Go.Shelf.Ren := ⟨fun | 197 => 287 | 260 => 345 | n => n, fun | 9 => 9 | 21 => 21 | 3 => 3 | 4 => 4 | 5 => 5 | 105 => 304 | 119 => 384 | 0 => 0 | 46 => 59 | 139 => 387 | 138 => 386 | n => n, fun | 3 => 3 | 4 => 4 | n => n⟩
theorem Tryz.lays197 : Go.Proofs.Lays.n197 Tryz.prog Tryz.lays197_ren := {
 mixed := by kernel_rfl
 f197 := Tryz.func287.trans (congrArg some (by kernel_rfl))
 f260 := Tryz.func345.trans (congrArg some (by kernel_rfl))
 t0 := Tryz.underlying0
 a0 := Tryz.isAgg0
 z0 := Tryz.sizeOf0
 v0 := Tryz.zeroValue0
 t3 := Tryz.underlying3
 a3 := Tryz.isAgg3
 z3 := Tryz.sizeOf3
 v3 := Tryz.zeroValue3
 t4 := Tryz.underlying4
 a4 := Tryz.isAgg4
 z4 := Tryz.sizeOf4
 v4 := Tryz.zeroValue4
 t5 := Tryz.underlying5
 a5 := Tryz.isAgg5
 z5 := Tryz.sizeOf5
 v5 := Tryz.zeroValue5
 t9 := Tryz.underlying9
 a9 := Tryz.isAgg9
 z9 := Tryz.sizeOf9
 v9 := Tryz.zeroValue9
 t21 := Tryz.underlying21
 a21 := Tryz.isAgg21
 z21 := Tryz.sizeOf21
 v21 := Tryz.zeroValue21
 t46 := Tryz.underlying59
 a46 := Tryz.isAgg59
 z46 := Tryz.sizeOf59
 v46 := Tryz.zeroValue59
 t105 := Tryz.underlying304
 a105 := Tryz.isAgg304
 z105 := Tryz.sizeOf304
 v105 := Tryz.zeroValue304
 t119 := Tryz.underlying384
 a119 := Tryz.isAgg384
 z119 := Tryz.sizeOf384
 t138 := Tryz.underlying386
 a138 := Tryz.isAgg386
 z138 := Tryz.sizeOf386
 v138 := Tryz.zeroValue386
 t139 := Tryz.underlying387
 a139 := Tryz.isAgg387
 z139 := Tryz.sizeOf387
 v139 := Tryz.zeroValue387
 g3 := by kernel_rfl
 g4 := by kernel_rfl }
open Go.RowKit Go.Lib in
theorem Tryz.utf8_DecodeRuneInString (s : ByteArray) (w : World) (hT : Lib.Utf8Tabs 3 4 w) :
  Calls Tryz.prog 287 #[.string s] w fun e w' => e = .returned (.tuple #[.int .i32 (Lib.decodeGo s).1, .int .i64 (Lib.decodeGo s).2]) /\ Below w.heap.size w w' := Any.utf8_DecodeRuneInString Tryz.lays197 s w hT
end Go.Proofs
