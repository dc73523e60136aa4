/- Lemmas. -/
import Derived.Shelf.Strings.Builder1
import Derived.Shelf.Strings.Trim
import Derived.Shelf.Small.Utf8
import Derived.Shelf.Small.Bits
import Derived.Shelf.Small.Strs
import Derived.Shelf.Strings.BuilderF
import Derived.Shelf.Strings.BuilderK
import Derived.Shelf.Strconv.Itoa0
import Derived.Shelf.Strconv.Itoa1
import Derived.Shelf.LaysM
import Derived.Shelf.Strconv.Itoa2
import Derived.Shelf.Strconv.Itoa3
import Derived.Shelf.Strconv.Clone
import Derived.Shelf.Strconv.Lower
import Derived.Shelf.Strconv.ParseUint10
import Derived.Shelf.Strconv.ParseUint10Empty
import Derived.Shelf.Strconv.ParseUint10Any
import Derived.Shelf.Strconv.RangeError
import Derived.Shelf.LaysC
import Derived.Shelf.Strconv.ToErrorRange
import Derived.Ground.MpProg
import Derived.Shelf.Pu.ParseUintPublic10
import Derived.Shelf.Pu.ErrVarParseUint
import Derived.Shelf.Strings.Search1
import Derived.Shelf.Strings.Prefix
import Derived.Shelf.Unicode.Decode
import Derived.Shelf.Strings.Runes
import Derived.Shelf.Strings.AsciiSet
import Derived.Shelf.Bits.Mul64
import Derived.Shelf.Unicode.DecodeSlow
import Derived.Shelf.Unicode.DecodeAny
import Derived.Test.YtolepnfnlmfgbaaGreatDoorProg
set_option linter.all false
namespace Go.Proofs
open Go.Shelf
def Tryz.lays170_ren : Go.Shelf.Ren := ⟨fun | 170 => 106 | n => n, fun | 70 => 146 | 3 => 3 | 0 => 0 | 72 => 148 | 37 => 114 | 5 => 5 | n => n, fun | n => n⟩
open Go.RowKit in
def Tryz.lays169_ren : Go.Shelf.Ren := ⟨fun | 169 => 87 | n => n, fun | 70 => 146 | 9 => 9 | 0 => 0 | 72 => 148 | 37 => 114 | 127 => 230 | 3 => 3 | 5 => 5 | n => n, fun | n => n⟩
open Go.RowKit in
open Go.RowKit in
open Go.RowKit in
def Tryz.lays231_ren : Go.Shelf.Ren := ⟨fun | 231 => 239 | n => n, fun | 9 => 9 | 5 => 5 | 3 => 3 | 4 => 4 | n => n, fun | n => n⟩
open Go.RowKit in
def Tryz.lays232_ren : Go.Shelf.Ren := ⟨fun | 232 => 243 | n => n, fun | 9 => 9 | 5 => 5 | 3 => 3 | 4 => 4 | n => n, fun | n => n⟩
open Go.RowKit in
def Tryz.lays161_ren : Go.Shelf.Ren := ⟨fun | 161 => 205 | 231 => 239 | 227 => 240 | 233 => 241 | 235 => 242 | 228 => 264 | 197 => 151 | 151 => 265 | 260 => 208 | 152 => 274 | 137 => 44 | 119 => 278 | 224 => 279 | 225 => 280 | 217 => 81 | 266 => 142 | n => n, fun | 9 => 9 | 4 => 4 | 3 => 3 | 5 => 5 | 117 => 315 | 116 => 314 | 0 => 0 | 124 => 318 | 105 => 235 | 21 => 21 | 119 => 320 | 46 => 72 | 139 => 323 | 138 => 322 | n => n, fun | 3 => 3 | 4 => 4 | n => n⟩
theorem Tryz.lays161 : Go.Proofs.Lays.n161 Tryz.prog Tryz.lays161_ren := {
 mixed := by kernel_rfl
 f119 := Tryz.func278.trans (congrArg some (by kernel_rfl))
 f137 := Tryz.func44.trans (congrArg some (by kernel_rfl))
 f151 := Tryz.func265.trans (congrArg some (by kernel_rfl))
 f152 := Tryz.func274.trans (congrArg some (by kernel_rfl))
 f161 := Tryz.func205.trans (congrArg some (by kernel_rfl))
 f197 := Tryz.func151.trans (congrArg some (by kernel_rfl))
 f217 := Tryz.func81.trans (congrArg some (by kernel_rfl))
 f224 := Tryz.func279.trans (congrArg some (by kernel_rfl))
 f225 := Tryz.func280.trans (congrArg some (by kernel_rfl))
 f227 := Tryz.func240.trans (congrArg some (by kernel_rfl))
 f228 := Tryz.func264.trans (congrArg some (by kernel_rfl))
 f231 := Tryz.func239.trans (congrArg some (by kernel_rfl))
 f233 := Tryz.func241.trans (congrArg some (by kernel_rfl))
 f235 := Tryz.func242.trans (congrArg some (by kernel_rfl))
 f260 := Tryz.func208.trans (congrArg some (by kernel_rfl))
 f266 := Tryz.func142.trans (congrArg some (by kernel_rfl))
 t0 := Tryz.underlying0
 a0 := Tryz.isAgg0
 z0 := Tryz.sizeOf0
 v0 := Tryz.zeroValue0
 t3 := Tryz.underlying3
 a3 := Tryz.isAgg3
 z3 := Tryz.sizeOf3
 v3 := Tryz.zeroValue3
 t4 := Tryz.underlying4
 a4 := Tryz.isAgg4
 z4 := Tryz.sizeOf4
 v4 := Tryz.zeroValue4
 t5 := Tryz.underlying5
 a5 := Tryz.isAgg5
 z5 := Tryz.sizeOf5
 v5 := Tryz.zeroValue5
 t9 := Tryz.underlying9
 a9 := Tryz.isAgg9
 z9 := Tryz.sizeOf9
 v9 := Tryz.zeroValue9
 t21 := Tryz.underlying21
 a21 := Tryz.isAgg21
 z21 := Tryz.sizeOf21
 v21 := Tryz.zeroValue21
 t46 := Tryz.underlying72
 a46 := Tryz.isAgg72
 z46 := Tryz.sizeOf72
 v46 := Tryz.zeroValue72
 t105 := Tryz.underlying235
 a105 := Tryz.isAgg235
 z105 := Tryz.sizeOf235
 v105 := Tryz.zeroValue235
 t116 := Tryz.underlying314
 a116 := Tryz.isAgg314
 z116 := Tryz.sizeOf314
 t117 := Tryz.underlying315
 a117 := Tryz.isAgg315
 z117 := Tryz.sizeOf315
 v117 := Tryz.zeroValue315
 t119 := Tryz.underlying320
 a119 := Tryz.isAgg320
 z119 := Tryz.sizeOf320
 t124 := Tryz.underlying318
 a124 := Tryz.isAgg318
 z124 := Tryz.sizeOf318
 v124 := Tryz.zeroValue318
 t138 := Tryz.underlying322
 a138 := Tryz.isAgg322
 z138 := Tryz.sizeOf322
 v138 := Tryz.zeroValue322
 t139 := Tryz.underlying323
 a139 := Tryz.isAgg323
 z139 := Tryz.sizeOf323
 v139 := Tryz.zeroValue323
 g3 := by kernel_rfl
 g4 := by kernel_rfl }
open Go.RowKit in
theorem Tryz.strings_TrimLeft_one (s : ByteArray) (c : UInt8) (hc : c.toNat < 128) (w : World) :
  Calls Tryz.prog 205 #[.string s, .string ⟨#[c]⟩] w fun e w' => e = .returned (.string ⟨(Lib.trimLeftB s.data.toList c).toArray⟩) /\ w' = w := Any.strings_TrimLeft_one Tryz.lays161 s c hc w
def Tryz.lays162_ren : Go.Shelf.Ren := ⟨fun | 162 => 206 | 232 => 243 | 227 => 240 | 234 => 244 | 236 => 245 | 228 => 264 | 271 => 266 | 151 => 265 | 120 => 275 | 197 => 151 | 152 => 274 | 260 => 208 | 137 => 44 | 119 => 278 | 224 => 279 | 225 => 280 | 217 => 81 | 266 => 142 | n => n, fun | 9 => 9 | 4 => 4 | 3 => 3 | 5 => 5 | 117 => 315 | 116 => 314 | 0 => 0 | 124 => 318 | 21 => 21 | 105 => 235 | 46 => 72 | 119 => 320 | 139 => 323 | 138 => 322 | n => n, fun | 3 => 3 | 4 => 4 | n => n⟩
theorem Tryz.lays162 : Go.Proofs.Lays.n162 Tryz.prog Tryz.lays162_ren := {
 mixed := by kernel_rfl
 f119 := Tryz.func278.trans (congrArg some (by kernel_rfl))
 f120 := Tryz.func275.trans (congrArg some (by kernel_rfl))
 f137 := Tryz.func44.trans (congrArg some (by kernel_rfl))
 f151 := Tryz.func265.trans (congrArg some (by kernel_rfl))
 f152 := Tryz.func274.trans (congrArg some (by kernel_rfl))
 f162 := Tryz.func206.trans (congrArg some (by kernel_rfl))
 f197 := Tryz.func151.trans (congrArg some (by kernel_rfl))
 f217 := Tryz.func81.trans (congrArg some (by kernel_rfl))
 f224 := Tryz.func279.trans (congrArg some (by kernel_rfl))
 f225 := Tryz.func280.trans (congrArg some (by kernel_rfl))
 f227 := Tryz.func240.trans (congrArg some (by kernel_rfl))
 f228 := Tryz.func264.trans (congrArg some (by kernel_rfl))
 f232 := Tryz.func243.trans (congrArg some (by kernel_rfl))
 f234 := Tryz.func244.trans (congrArg some (by kernel_rfl))
 f236 := Tryz.func245.trans (congrArg some (by kernel_rfl))
 f260 := Tryz.func208.trans (congrArg some (by kernel_rfl))
 f266 := Tryz.func142.trans (congrArg some (by kernel_rfl))
 f271 := Tryz.func266.trans (congrArg some (by kernel_rfl))
 t0 := Tryz.underlying0
 a0 := Tryz.isAgg0
 z0 := Tryz.sizeOf0
 v0 := Tryz.zeroValue0
 t3 := Tryz.underlying3
 a3 := Tryz.isAgg3
 z3 := Tryz.sizeOf3
 v3 := Tryz.zeroValue3
 t4 := Tryz.underlying4
 a4 := Tryz.isAgg4
 z4 := Tryz.sizeOf4
 v4 := Tryz.zeroValue4
 t5 := Tryz.underlying5
 a5 := Tryz.isAgg5
 z5 := Tryz.sizeOf5
 v5 := Tryz.zeroValue5
 t9 := Tryz.underlying9
 a9 := Tryz.isAgg9
 z9 := Tryz.sizeOf9
 v9 := Tryz.zeroValue9
 t21 := Tryz.underlying21
 a21 := Tryz.isAgg21
 z21 := Tryz.sizeOf21
 v21 := Tryz.zeroValue21
 t46 := Tryz.underlying72
 a46 := Tryz.isAgg72
 z46 := Tryz.sizeOf72
 v46 := Tryz.zeroValue72
 t105 := Tryz.underlying235
 a105 := Tryz.isAgg235
 z105 := Tryz.sizeOf235
 v105 := Tryz.zeroValue235
 t116 := Tryz.underlying314
 a116 := Tryz.isAgg314
 z116 := Tryz.sizeOf314
 t117 := Tryz.underlying315
 a117 := Tryz.isAgg315
 z117 := Tryz.sizeOf315
 v117 := Tryz.zeroValue315
 t119 := Tryz.underlying320
 a119 := Tryz.isAgg320
 z119 := Tryz.sizeOf320
 t124 := Tryz.underlying318
 a124 := Tryz.isAgg318
 z124 := Tryz.sizeOf318
 v124 := Tryz.zeroValue318
 t138 := Tryz.underlying322
 a138 := Tryz.isAgg322
 z138 := Tryz.sizeOf322
 v138 := Tryz.zeroValue322
 t139 := Tryz.underlying323
 a139 := Tryz.isAgg323
 z139 := Tryz.sizeOf323
 v139 := Tryz.zeroValue323
 g3 := by kernel_rfl
 g4 := by kernel_rfl }
open Go.RowKit in
theorem Tryz.strings_TrimRight_one (s : ByteArray) (c : UInt8) (hc : c.toNat < 128) (w : World) (hs : s.size <= 9223372036854775807) :
  Calls Tryz.prog 206 #[.string s, .string ⟨#[c]⟩] w fun e w' => e = .returned (.string ⟨(Lib.trimRightB s.data.toList c).toArray⟩) /\ w' = w := Any.strings_TrimRight_one Tryz.lays162 s c hc w hs
def Tryz.lays118_ren : Go.Shelf.Ren := ⟨fun | 118 => 196 | n => n, fun | 21 => 21 | 3 => 3 | 4 => 4 | n => n, fun | n => n⟩
theorem Tryz.lays118 : Go.Proofs.Lays.n118 Tryz.prog Tryz.lays118_ren := {
 mixed := by kernel_rfl
 f118 := Tryz.func196.trans (congrArg some (by kernel_rfl))
 t3 := Tryz.underlying3
 a3 := Tryz.isAgg3
 z3 := Tryz.sizeOf3
 v3 := Tryz.zeroValue3
 t4 := Tryz.underlying4
 a4 := Tryz.isAgg4
 z4 := Tryz.sizeOf4
 v4 := Tryz.zeroValue4
 t21 := Tryz.underlying21
 a21 := Tryz.isAgg21
 z21 := Tryz.sizeOf21
 v21 := Tryz.zeroValue21 }
theorem Tryz.utf8_RuneLen (r : Int) (w : World) :
  Calls Tryz.prog 196 #[.int .i32 r] w fun e w' => e = .returned (.int .i64 (Lib.runeLen r)) /\ w' = w := Any.utf8_RuneLen Tryz.lays118 r w
def Tryz.lays119_ren : Go.Shelf.Ren := ⟨fun | 119 => 278 | n => n, fun | 21 => 21 | 4 => 4 | n => n, fun | n => n⟩
def Tryz.lays120_ren : Go.Shelf.Ren := ⟨fun | 120 => 275 | n => n, fun | 5 => 5 | 4 => 4 | n => n, fun | n => n⟩
def Tryz.lays128_ren : Go.Shelf.Ren := ⟨fun | 128 => 114 | n => n, fun | 51 => 110 | 3 => 3 | 4 => 4 | 46 => 72 | 5 => 5 | 9 => 9 | n => n, fun | n => n⟩
theorem Tryz.lays128 : Go.Proofs.Lays.n128 Tryz.prog Tryz.lays128_ren := {
 mixed := by kernel_rfl
 f128 := Tryz.func114.trans (congrArg some (by kernel_rfl))
 t3 := Tryz.underlying3
 a3 := Tryz.isAgg3
 z3 := Tryz.sizeOf3
 v3 := Tryz.zeroValue3
 t4 := Tryz.underlying4
 a4 := Tryz.isAgg4
 z4 := Tryz.sizeOf4
 v4 := Tryz.zeroValue4
 t5 := Tryz.underlying5
 a5 := Tryz.isAgg5
 z5 := Tryz.sizeOf5
 v5 := Tryz.zeroValue5
 t9 := Tryz.underlying9
 a9 := Tryz.isAgg9
 z9 := Tryz.sizeOf9
 v9 := Tryz.zeroValue9
 t46 := Tryz.underlying72
 a46 := Tryz.isAgg72
 z46 := Tryz.sizeOf72
 v46 := Tryz.zeroValue72
 t51 := Tryz.underlying110
 a51 := Tryz.isAgg110
 z51 := Tryz.sizeOf110
 v51 := Tryz.zeroValue110 }
theorem Tryz.bits_Len32 (x : Int) (w : World) (h0 : 0 <= x) (h1 : x <= 4294967295) :
  Calls Tryz.prog 114 #[.int .u32 x] w fun e w' => e = .returned (.int .i64 (Lib.bitLen x.toNat)) /\ w' = w := Any.bits_Len32 Tryz.lays128 x w h0 h1
def Tryz.lays133_ren : Go.Shelf.Ren := ⟨fun | 133 => 91 | 128 => 114 | n => n, fun | 51 => 110 | 3 => 3 | 4 => 4 | 46 => 72 | 5 => 5 | 9 => 9 | n => n, fun | n => n⟩
theorem Tryz.lays133 : Go.Proofs.Lays.n133 Tryz.prog Tryz.lays133_ren := {
 mixed := by kernel_rfl
 f128 := Tryz.func114.trans (congrArg some (by kernel_rfl))
 f133 := Tryz.func91.trans (congrArg some (by kernel_rfl))
 t3 := Tryz.underlying3
 a3 := Tryz.isAgg3
 z3 := Tryz.sizeOf3
 v3 := Tryz.zeroValue3
 t4 := Tryz.underlying4
 a4 := Tryz.isAgg4
 z4 := Tryz.sizeOf4
 v4 := Tryz.zeroValue4
 t5 := Tryz.underlying5
 a5 := Tryz.isAgg5
 z5 := Tryz.sizeOf5
 v5 := Tryz.zeroValue5
 t9 := Tryz.underlying9
 a9 := Tryz.isAgg9
 z9 := Tryz.sizeOf9
 v9 := Tryz.zeroValue9
 t46 := Tryz.underlying72
 a46 := Tryz.isAgg72
 z46 := Tryz.sizeOf72
 v46 := Tryz.zeroValue72
 t51 := Tryz.underlying110
 a51 := Tryz.isAgg110
 z51 := Tryz.sizeOf110
 v51 := Tryz.zeroValue110 }
theorem Tryz.bits_LeadingZeros32 (x : Int) (w : World) (h0 : 0 <= x) (h1 : x <= 4294967295) :
  Calls Tryz.prog 91 #[.int .u32 x] w fun e w' => e = .returned (.int .i64 (32 - (Lib.bitLen x.toNat : Int))) /\ w' = w := Any.bits_LeadingZeros32 Tryz.lays133 x w h0 h1
def Tryz.lays137_ren : Go.Shelf.Ren := ⟨fun | 137 => 44 | 217 => 81 | 266 => 142 | n => n, fun | 9 => 9 | 5 => 5 | 3 => 3 | n => n, fun | n => n⟩
theorem Tryz.lays137 : Go.Proofs.Lays.n137 Tryz.prog Tryz.lays137_ren := {
 mixed := by kernel_rfl
 f137 := Tryz.func44.trans (congrArg some (by kernel_rfl))
 f217 := Tryz.func81.trans (congrArg some (by kernel_rfl))
 f266 := Tryz.func142.trans (congrArg some (by kernel_rfl))
 t3 := Tryz.underlying3
 a3 := Tryz.isAgg3
 z3 := Tryz.sizeOf3
 v3 := Tryz.zeroValue3
 t5 := Tryz.underlying5
 a5 := Tryz.isAgg5
 z5 := Tryz.sizeOf5
 v5 := Tryz.zeroValue5
 t9 := Tryz.underlying9
 a9 := Tryz.isAgg9
 z9 := Tryz.sizeOf9
 v9 := Tryz.zeroValue9 }
open Go.RowKit in
theorem Tryz.strings_IndexByte (s : ByteArray) (c : Int) (w : World) :
  Calls Tryz.prog 44 #[.string s, .int .u8 c] w fun e w' => e = .returned (.int .i64 (Lib.indexByte s.data.toList c.toNat.toUInt8)) /\ w' = w := Any.strings_IndexByte Tryz.lays137 s c w
open Go.RowKit in
open Go.RowKit in
open Go.RowKit in
open Go.RowKit in
open Go.RowKit in
open Go.RowKit in
open Go.RowKit in
def Tryz.lays129_ren : Go.Shelf.Ren := ⟨fun | 129 => 82 | n => n, fun | 53 => 32 | 3 => 3 | 4 => 4 | 46 => 72 | 5 => 5 | 9 => 9 | n => n, fun | n => n⟩
theorem Tryz.lays129 : Go.Proofs.Lays.n129 Tryz.prog Tryz.lays129_ren := {
 mixed := by kernel_rfl
 f129 := Tryz.func82.trans (congrArg some (by kernel_rfl))
 t3 := Tryz.underlying3
 a3 := Tryz.isAgg3
 z3 := Tryz.sizeOf3
 v3 := Tryz.zeroValue3
 t4 := Tryz.underlying4
 a4 := Tryz.isAgg4
 z4 := Tryz.sizeOf4
 v4 := Tryz.zeroValue4
 t5 := Tryz.underlying5
 a5 := Tryz.isAgg5
 z5 := Tryz.sizeOf5
 v5 := Tryz.zeroValue5
 t9 := Tryz.underlying9
 a9 := Tryz.isAgg9
 z9 := Tryz.sizeOf9
 v9 := Tryz.zeroValue9
 t46 := Tryz.underlying72
 a46 := Tryz.isAgg72
 z46 := Tryz.sizeOf72
 v46 := Tryz.zeroValue72
 t53 := Tryz.underlying32
 a53 := Tryz.isAgg32
 z53 := Tryz.sizeOf32
 v53 := Tryz.zeroValue32 }
theorem Tryz.bits_Len64 (x : Int) (w : World) (h0 : 0 <= x) (h1 : x <= 18446744073709551615) :
  Calls Tryz.prog 82 #[.int .u64 x] w fun e w' => e = .returned (.int .i64 (Lib.bitLen x.toNat)) /\ w' = w := Any.bits_Len64 Tryz.lays129 x w h0 h1
def Tryz.lays317_ren : Go.Shelf.Ren := ⟨fun | 317 => 257 | n => n, fun | 3 => 3 | 46 => 72 | n => n, fun | n => n⟩
open Go.Lib in
def Tryz.lays318_ren : Go.Shelf.Ren := ⟨fun | 318 => 258 | n => n, fun | 3 => 3 | 4 => 4 | n => n, fun | n => n⟩
open Go.Lib in
def Tryz.lays283_ren : Go.Shelf.Ren := ⟨fun | 283 => 232 | n => n, fun | 3 => 3 | 9 => 9 | 4 => 4 | n => n, fun | n => n⟩
open Go.Lib in
def Tryz.laysM284_ren : Go.Shelf.Ren := ⟨fun | 284 => 233 | 129 => 82 | 317 => 257 | 318 => 258 | n => n, fun | 53 => 32 | 3 => 3 | 212 => 332 | 0 => 0 | 4 => 4 | 46 => 72 | 5 => 5 | 9 => 9 | n => n, fun | 17 => 5 | n => n⟩
open Go.Lib in
def Tryz.lays285_ren : Go.Shelf.Ren := ⟨fun | 285 => 234 | n => n, fun | 37 => 114 | 53 => 32 | 3 => 3 | 4 => 4 | 51 => 110 | 9 => 9 | 5 => 5 | 0 => 0 | n => n, fun | n => n⟩
open Go.RowKit Go.Sort Go.Lib in
def Tryz.laysM246_ren : Go.Shelf.Ren := ⟨fun | 246 => 193 | 283 => 232 | 284 => 233 | 285 => 234 | 286 => 235 | 129 => 82 | 317 => 257 | 318 => 258 | 319 => 259 | 320 => 260 | 337 => 185 | 338 => 273 | n => n, fun | 2 => 2 | 3 => 3 | 9 => 9 | 4 => 4 | 171 => 304 | 0 => 0 | 53 => 32 | 37 => 114 | 5 => 5 | 173 => 306 | 212 => 332 | 51 => 110 | 20 => 20 | 213 => 333 | 46 => 72 | 232 => 303 | 233 => 349 | n => n, fun | 17 => 5 | 18 => 2 | 19 => 8 | n => n⟩
open Go.RowKit Go.Sort Go.Lib in
def Tryz.lays246_ren : Go.Shelf.Ren := ⟨fun | 246 => 193 | 283 => 232 | 284 => 233 | 285 => 234 | 286 => 235 | 129 => 82 | 317 => 257 | 318 => 258 | 319 => 259 | 320 => 260 | 337 => 185 | 338 => 273 | n => n, fun | 2 => 2 | 3 => 3 | 9 => 9 | 4 => 4 | 171 => 304 | 0 => 0 | 53 => 32 | 37 => 114 | 5 => 5 | 173 => 306 | 212 => 332 | 51 => 110 | 20 => 20 | 213 => 333 | 46 => 72 | 232 => 303 | 233 => 349 | n => n, fun | 17 => 5 | 18 => 2 | 19 => 8 | n => n⟩
open Go.RowKit Go.Sort Go.Lib in
def Tryz.laysM243_ren : Go.Shelf.Ren := ⟨fun | 243 => 144 | 246 => 193 | 283 => 232 | 284 => 233 | 285 => 234 | 286 => 235 | 129 => 82 | 317 => 257 | 318 => 258 | 319 => 259 | 320 => 260 | 337 => 185 | 338 => 273 | n => n, fun | 3 => 3 | 9 => 9 | 2 => 2 | 4 => 4 | 171 => 304 | 0 => 0 | 53 => 32 | 37 => 114 | 5 => 5 | 173 => 306 | 212 => 332 | 51 => 110 | 20 => 20 | 213 => 333 | 46 => 72 | 232 => 303 | 233 => 349 | n => n, fun | 17 => 5 | 18 => 2 | 19 => 8 | n => n⟩
open Go.RowKit Go.Sort Go.Lib in
def Tryz.lays243_ren : Go.Shelf.Ren := ⟨fun | 243 => 144 | 246 => 193 | 283 => 232 | 284 => 233 | 285 => 234 | 286 => 235 | 129 => 82 | 317 => 257 | 318 => 258 | 319 => 259 | 320 => 260 | 337 => 185 | 338 => 273 | n => n, fun | 3 => 3 | 9 => 9 | 2 => 2 | 4 => 4 | 171 => 304 | 0 => 0 | 53 => 32 | 37 => 114 | 5 => 5 | 173 => 306 | 212 => 332 | 51 => 110 | 20 => 20 | 213 => 333 | 46 => 72 | 232 => 303 | 233 => 349 | n => n, fun | 17 => 5 | 18 => 2 | 19 => 8 | n => n⟩
open Go.RowKit Go.Sort Go.Lib in
def Tryz.laysM171_ren : Go.Shelf.Ren := ⟨fun | 171 => 89 | 243 => 144 | 246 => 193 | 283 => 232 | 284 => 233 | 285 => 234 | 286 => 235 | 129 => 82 | 317 => 257 | 318 => 258 | 319 => 259 | 320 => 260 | 337 => 185 | 338 => 273 | n => n, fun | 3 => 3 | 9 => 9 | 2 => 2 | 4 => 4 | 171 => 304 | 0 => 0 | 53 => 32 | 37 => 114 | 5 => 5 | 173 => 306 | 212 => 332 | 51 => 110 | 20 => 20 | 213 => 333 | 46 => 72 | 232 => 303 | 233 => 349 | n => n, fun | 17 => 5 | 18 => 2 | 19 => 8 | n => n⟩
theorem Tryz.laysM171 : Go.Proofs.LaysM.n171 Tryz.prog Tryz.laysM171_ren := {
 mixed := by kernel_rfl
 f129 := Tryz.func82.trans (congrArg some (by kernel_rfl))
 f171 := Tryz.func89.trans (congrArg some (by kernel_rfl))
 f243 := Tryz.func144.trans (congrArg some (by kernel_rfl))
 f246 := Tryz.func193.trans (congrArg some (by kernel_rfl))
 f283 := Tryz.func232.trans (congrArg some (by kernel_rfl))
 f284 := Tryz.func233.trans (congrArg some (by kernel_rfl))
 f285 := Tryz.func234.trans (congrArg some (by kernel_rfl))
 f286 := Tryz.func235.trans (congrArg some (by kernel_rfl))
 f317 := Tryz.func257.trans (congrArg some (by kernel_rfl))
 f318 := Tryz.func258.trans (congrArg some (by kernel_rfl))
 f319 := Tryz.func259.trans (congrArg some (by kernel_rfl))
 f320 := Tryz.func260.trans (congrArg some (by kernel_rfl))
 f337 := Tryz.func185.trans (congrArg some (by kernel_rfl))
 f338 := Tryz.func273.trans (congrArg some (by kernel_rfl))
 t0 := Tryz.underlying0
 a0 := Tryz.isAgg0
 z0 := Tryz.sizeOf0
 v0 := Tryz.zeroValue0
 t2 := Tryz.underlying2
 a2 := Tryz.isAgg2
 z2 := Tryz.sizeOf2
 v2 := Tryz.zeroValue2
 t3 := Tryz.underlying3
 a3 := Tryz.isAgg3
 z3 := Tryz.sizeOf3
 v3 := Tryz.zeroValue3
 t4 := Tryz.underlying4
 a4 := Tryz.isAgg4
 z4 := Tryz.sizeOf4
 v4 := Tryz.zeroValue4
 t5 := Tryz.underlying5
 a5 := Tryz.isAgg5
 z5 := Tryz.sizeOf5
 v5 := Tryz.zeroValue5
 t9 := Tryz.underlying9
 a9 := Tryz.isAgg9
 z9 := Tryz.sizeOf9
 v9 := Tryz.zeroValue9
 t20 := Tryz.underlying20
 a20 := Tryz.isAgg20
 z20 := Tryz.sizeOf20
 v20 := Tryz.zeroValue20
 t37 := Tryz.underlying114
 a37 := Tryz.isAgg114
 z37 := Tryz.sizeOf114
 v37 := Tryz.zeroValue114
 t46 := Tryz.underlying72
 a46 := Tryz.isAgg72
 z46 := Tryz.sizeOf72
 v46 := Tryz.zeroValue72
 t51 := Tryz.underlying110
 a51 := Tryz.isAgg110
 z51 := Tryz.sizeOf110
 v51 := Tryz.zeroValue110
 t53 := Tryz.underlying32
 a53 := Tryz.isAgg32
 z53 := Tryz.sizeOf32
 v53 := Tryz.zeroValue32
 t171 := Tryz.underlying304
 a171 := Tryz.isAgg304
 z171 := Tryz.sizeOf304
 v171 := Tryz.zeroValue304
 t173 := Tryz.underlying306
 a173 := Tryz.isAgg306
 z173 := Tryz.sizeOf306
 v173 := Tryz.zeroValue306
 t212 := Tryz.underlying332
 a212 := Tryz.isAgg332
 z212 := Tryz.sizeOf332
 v212 := Tryz.zeroValue332
 t213 := Tryz.underlying333
 a213 := Tryz.isAgg333
 z213 := Tryz.sizeOf333
 t232 := Tryz.underlying303
 a232 := Tryz.isAgg303
 z232 := Tryz.sizeOf303
 v232 := Tryz.zeroValue303
 t233 := Tryz.underlying349
 a233 := Tryz.isAgg349
 z233 := Tryz.sizeOf349
 v233 := Tryz.zeroValue349
 g17 := by kernel_rfl
 g18 := by kernel_rfl
 g19 := by kernel_rfl
 i0 := by kernel_rfl
 i2 := by kernel_rfl
 i3 := by kernel_rfl
 i4 := by kernel_rfl
 i5 := by kernel_rfl
 i9 := by kernel_rfl
 i20 := by kernel_rfl
 i37 := by kernel_rfl
 i46 := by kernel_rfl
 i51 := by kernel_rfl
 i53 := by kernel_rfl
 i171 := by kernel_rfl
 i173 := by kernel_rfl
 i212 := by kernel_rfl
 i232 := by kernel_rfl
 i233 := by kernel_rfl
 m17 := by kernel_rfl
 m18 := by kernel_rfl
 m19 := by kernel_rfl }
open Go.RowKit Go.Sort Go.Lib in
theorem Tryz.strconv_Itoa (n : Int) (h0 : -9223372036854775808 <= n) (h1 : n <= 9223372036854775807) (w : World) (htab : Lib.TabIs Tryz.prog w "internal/strconv.uint64pow10" .u64 Lib.pow10Tab) :
  Calls Tryz.prog 89 #[.int .i64 n] w fun e w' => e = .returned (.string ⟨(Lib.itoa n).toArray⟩) /\ ∃ k os, w' = grow (w.drewN k) os := Any.strconv_Itoa Tryz.laysM171 n h0 h1 w htab
def Tryz.lays171_ren : Go.Shelf.Ren := ⟨fun | 171 => 89 | 243 => 144 | 246 => 193 | 283 => 232 | 284 => 233 | 285 => 234 | 286 => 235 | 129 => 82 | 317 => 257 | 318 => 258 | 319 => 259 | 320 => 260 | 337 => 185 | 338 => 273 | n => n, fun | 3 => 3 | 9 => 9 | 2 => 2 | 4 => 4 | 171 => 304 | 0 => 0 | 53 => 32 | 37 => 114 | 5 => 5 | 173 => 306 | 212 => 332 | 51 => 110 | 20 => 20 | 213 => 333 | 46 => 72 | 232 => 303 | 233 => 349 | n => n, fun | 17 => 5 | 18 => 2 | 19 => 8 | n => n⟩
open Go.RowKit Go.Sort Go.Lib in
def Tryz.laysM316_ren : Go.Shelf.Ren := ⟨fun | 316 => 276 | n => n, fun | 9 => 9 | 3 => 3 | 4 => 4 | 37 => 114 | 0 => 0 | 127 => 230 | 5 => 5 | n => n, fun | n => n⟩
open Go.RowKit in
def Tryz.lays321_ren : Go.Shelf.Ren := ⟨fun | 321 => 267 | n => n, fun | 5 => 5 | n => n, fun | n => n⟩
open Go.RowKit in
def Tryz.lays287_ren : Go.Shelf.Ren := ⟨fun | 287 => 246 | 321 => 267 | 322 => 268 | n => n, fun | 9 => 9 | 3 => 3 | 53 => 32 | 75 => 42 | 4 => 4 | 167 => 339 | 5 => 5 | 46 => 72 | 37 => 114 | 0 => 0 | 21 => 21 | 80 => 152 | n => n, fun | n => n⟩
open Go.RowKit in
open Go.RowKit in
open Go.RowKit in
def Tryz.laysM280_ren : Go.Shelf.Ren := ⟨fun | 280 => 270 | 316 => 276 | n => n, fun | 9 => 9 | 168 => 341 | 75 => 42 | 210 => 347 | 3 => 3 | 4 => 4 | 37 => 114 | 0 => 0 | 127 => 230 | 80 => 152 | 5 => 5 | n => n, fun | 16 => 7 | n => n⟩
open Go.RowKit in
def Tryz.laysC245_ren : Go.Shelf.Ren := ⟨fun | 245 => 247 | 279 => 269 | 280 => 270 | 281 => 271 | 282 => 272 | 316 => 276 | 171 => 89 | 205 => 277 | 243 => 144 | 246 => 193 | 283 => 232 | 284 => 233 | 285 => 234 | 286 => 235 | 129 => 82 | 317 => 257 | 318 => 258 | 319 => 259 | 320 => 260 | 337 => 185 | 338 => 273 | n => n, fun | 9 => 9 | 3 => 3 | 75 => 42 | 167 => 339 | 4 => 4 | 168 => 341 | 210 => 347 | 37 => 114 | 0 => 0 | 127 => 230 | 145 => 354 | 143 => 352 | 2 => 2 | 171 => 304 | 53 => 32 | 5 => 5 | 173 => 306 | 212 => 332 | 51 => 110 | 20 => 20 | 213 => 333 | 46 => 72 | 232 => 303 | 233 => 349 | 80 => 152 | n => n, fun | 15 => 6 | 16 => 7 | 17 => 5 | 18 => 2 | 19 => 8 | n => n⟩
open Go.RowKit in
def Tryz.laysPu14_ren : Go.Shelf.Ren := ⟨fun | 14 => 207 | 16 => 246 | 17 => 247 | 19 => 267 | 20 => 268 | 21 => 269 | 22 => 270 | 23 => 271 | 24 => 272 | 25 => 276 | 27 => 89 | 26 => 277 | 28 => 144 | 29 => 193 | 30 => 232 | 31 => 233 | 32 => 234 | 33 => 235 | 35 => 82 | 34 => 257 | 36 => 258 | 37 => 259 | 38 => 260 | 39 => 185 | 40 => 273 | n => n, fun | 9 => 9 | 3 => 3 | 22 => 32 | 24 => 42 | 25 => 292 | 4 => 4 | 34 => 339 | 5 => 5 | 36 => 72 | 37 => 114 | 0 => 0 | 39 => 341 | 21 => 21 | 44 => 347 | 47 => 230 | 50 => 354 | 48 => 352 | 2 => 2 | 52 => 304 | 55 => 306 | 59 => 332 | 60 => 110 | 20 => 20 | 61 => 333 | 65 => 303 | 66 => 349 | 67 => 152 | n => n, fun | 0 => 6 | 1 => 7 | 2 => 5 | 3 => 2 | 4 => 8 | n => n⟩
theorem Tryz.laysPu14 : Go.Proofs.LaysPu.n14 Tryz.prog Tryz.laysPu14_ren := {
 mixed := by kernel_rfl
 f14 := Tryz.func207.trans (congrArg some (by kernel_rfl))
 f16 := Tryz.func246.trans (congrArg some (by kernel_rfl))
 f17 := Tryz.func247.trans (congrArg some (by kernel_rfl))
 f19 := Tryz.func267.trans (congrArg some (by kernel_rfl))
 f20 := Tryz.func268.trans (congrArg some (by kernel_rfl))
 f21 := Tryz.func269.trans (congrArg some (by kernel_rfl))
 f22 := Tryz.func270.trans (congrArg some (by kernel_rfl))
 f23 := Tryz.func271.trans (congrArg some (by kernel_rfl))
 f24 := Tryz.func272.trans (congrArg some (by kernel_rfl))
 f25 := Tryz.func276.trans (congrArg some (by kernel_rfl))
 f26 := Tryz.func277.trans (congrArg some (by kernel_rfl))
 f27 := Tryz.func89.trans (congrArg some (by kernel_rfl))
 f28 := Tryz.func144.trans (congrArg some (by kernel_rfl))
 f29 := Tryz.func193.trans (congrArg some (by kernel_rfl))
 f30 := Tryz.func232.trans (congrArg some (by kernel_rfl))
 f31 := Tryz.func233.trans (congrArg some (by kernel_rfl))
 f32 := Tryz.func234.trans (congrArg some (by kernel_rfl))
 f33 := Tryz.func235.trans (congrArg some (by kernel_rfl))
 f34 := Tryz.func257.trans (congrArg some (by kernel_rfl))
 f35 := Tryz.func82.trans (congrArg some (by kernel_rfl))
 f36 := Tryz.func258.trans (congrArg some (by kernel_rfl))
 f37 := Tryz.func259.trans (congrArg some (by kernel_rfl))
 f38 := Tryz.func260.trans (congrArg some (by kernel_rfl))
 f39 := Tryz.func185.trans (congrArg some (by kernel_rfl))
 f40 := Tryz.func273.trans (congrArg some (by kernel_rfl))
 t0 := Tryz.underlying0
 a0 := Tryz.isAgg0
 z0 := Tryz.sizeOf0
 v0 := Tryz.zeroValue0
 i0 := by kernel_rfl
 t2 := Tryz.underlying2
 a2 := Tryz.isAgg2
 z2 := Tryz.sizeOf2
 v2 := Tryz.zeroValue2
 i2 := by kernel_rfl
 t3 := Tryz.underlying3
 a3 := Tryz.isAgg3
 z3 := Tryz.sizeOf3
 v3 := Tryz.zeroValue3
 i3 := by kernel_rfl
 t4 := Tryz.underlying4
 a4 := Tryz.isAgg4
 z4 := Tryz.sizeOf4
 v4 := Tryz.zeroValue4
 i4 := by kernel_rfl
 t5 := Tryz.underlying5
 a5 := Tryz.isAgg5
 z5 := Tryz.sizeOf5
 v5 := Tryz.zeroValue5
 i5 := by kernel_rfl
 t9 := Tryz.underlying9
 a9 := Tryz.isAgg9
 z9 := Tryz.sizeOf9
 v9 := Tryz.zeroValue9
 i9 := by kernel_rfl
 t20 := Tryz.underlying20
 a20 := Tryz.isAgg20
 z20 := Tryz.sizeOf20
 v20 := Tryz.zeroValue20
 i20 := by kernel_rfl
 t21 := Tryz.underlying21
 a21 := Tryz.isAgg21
 z21 := Tryz.sizeOf21
 v21 := Tryz.zeroValue21
 i21 := by kernel_rfl
 t22 := Tryz.underlying32
 a22 := Tryz.isAgg32
 z22 := Tryz.sizeOf32
 v22 := Tryz.zeroValue32
 i22 := by kernel_rfl
 t24 := Tryz.underlying42
 a24 := Tryz.isAgg42
 z24 := Tryz.sizeOf42
 v24 := Tryz.zeroValue42
 i24 := by kernel_rfl
 t25 := Tryz.underlying292
 a25 := Tryz.isAgg292
 z25 := Tryz.sizeOf292
 v25 := Tryz.zeroValue292
 i25 := by kernel_rfl
 t34 := Tryz.underlying339
 a34 := Tryz.isAgg339
 z34 := Tryz.sizeOf339
 v34 := Tryz.zeroValue339
 i34 := by kernel_rfl
 c34 := by kernel_rfl
 t36 := Tryz.underlying72
 a36 := Tryz.isAgg72
 z36 := Tryz.sizeOf72
 v36 := Tryz.zeroValue72
 i36 := by kernel_rfl
 t37 := Tryz.underlying114
 a37 := Tryz.isAgg114
 z37 := Tryz.sizeOf114
 v37 := Tryz.zeroValue114
 i37 := by kernel_rfl
 t39 := Tryz.underlying341
 a39 := Tryz.isAgg341
 z39 := Tryz.sizeOf341
 v39 := Tryz.zeroValue341
 i39 := by kernel_rfl
 t44 := Tryz.underlying347
 a44 := Tryz.isAgg347
 z44 := Tryz.sizeOf347
 v44 := Tryz.zeroValue347
 i44 := by kernel_rfl
 t47 := Tryz.underlying230
 a47 := Tryz.isAgg230
 z47 := Tryz.sizeOf230
 v47 := Tryz.zeroValue230
 i47 := by kernel_rfl
 t48 := Tryz.underlying352
 a48 := Tryz.isAgg352
 z48 := Tryz.sizeOf352
 v48 := Tryz.zeroValue352
 i48 := by kernel_rfl
 t50 := Tryz.underlying354
 a50 := Tryz.isAgg354
 z50 := Tryz.sizeOf354
 v50 := Tryz.zeroValue354
 i50 := by kernel_rfl
 t52 := Tryz.underlying304
 a52 := Tryz.isAgg304
 z52 := Tryz.sizeOf304
 v52 := Tryz.zeroValue304
 i52 := by kernel_rfl
 t55 := Tryz.underlying306
 a55 := Tryz.isAgg306
 z55 := Tryz.sizeOf306
 v55 := Tryz.zeroValue306
 i55 := by kernel_rfl
 t59 := Tryz.underlying332
 a59 := Tryz.isAgg332
 z59 := Tryz.sizeOf332
 v59 := Tryz.zeroValue332
 i59 := by kernel_rfl
 t60 := Tryz.underlying110
 a60 := Tryz.isAgg110
 z60 := Tryz.sizeOf110
 v60 := Tryz.zeroValue110
 i60 := by kernel_rfl
 t61 := Tryz.underlying333
 a61 := Tryz.isAgg333
 z61 := Tryz.sizeOf333
 t65 := Tryz.underlying303
 a65 := Tryz.isAgg303
 z65 := Tryz.sizeOf303
 v65 := Tryz.zeroValue303
 i65 := by kernel_rfl
 t66 := Tryz.underlying349
 a66 := Tryz.isAgg349
 z66 := Tryz.sizeOf349
 v66 := Tryz.zeroValue349
 i66 := by kernel_rfl
 t67 := Tryz.underlying152
 a67 := Tryz.isAgg152
 z67 := Tryz.sizeOf152
 v67 := Tryz.zeroValue152
 i67 := by kernel_rfl
 g0 := by kernel_rfl
 m0 := by kernel_rfl
 g1 := by kernel_rfl
 m1 := by kernel_rfl
 g2 := by kernel_rfl
 m2 := by kernel_rfl
 g3 := by kernel_rfl
 m3 := by kernel_rfl
 g4 := by kernel_rfl
 m4 := by kernel_rfl }
open Go.RowKit in
open Go.RowKit in
open Go.RowKit in
open Go.RowKit in
theorem Tryz.strconv_ParseUint_10_at64_ok (s : ByteArray) (hmax : s.size <= 9223372036854775806) (u : Nat) (h : Lib.parseUintB 64 s.data.toList = .ok u) (w : World) :
  Calls Tryz.prog 207 #[.string s, .int .i64 10, .int .i64 64] w fun e w' => e = .returned (.tuple #[.int .u64 u, .nilIface]) /\ (w' = w \/ w' = Lib.bytesWorld w 5 s) := Any.strconv_ParseUint_10_at64_ok Tryz.laysPu14 s hmax u h w
open Go.RowKit in
open Go.RowKit in
theorem Tryz.strconv_ParseUint_10_at64_range (s : ByteArray) (hlim : s.size <= 281474976710656) (h : Lib.parseUintB 64 s.data.toList = .range) (ev : Value) (w : World) (hv : w.cell? ⟨7, 0, none⟩ = some ev) (hev : ev = .nilIface \/ ∃ te pe, ev = .iface te pe) :
  Calls Tryz.prog 207 #[.string s, .int .i64 10, .int .i64 64] w fun e w' => ∃ N, e = .returned (.tuple #[.int .u64 18446744073709551615, .iface 341 (.pointer (some ⟨N, 0, none⟩))]) /\ w.heap.size <= N /\ w'.heap[N]? = some (.cells #[.string ⟨#[80, 97, 114, 115, 101, 85, 105, 110, 116]⟩, .string s, ev] 347 (0, 0)) /\ Below w.heap.size w w' := Any.strconv_ParseUint_10_at64_range Tryz.laysPu14 s hlim h ev w hv hev
open Go.RowKit in
open Go.RowKit in
open Go.RowKit in
open Go.RowKit in
open Go.RowKit in
open Go.RowKit in
open Go.RowKit in
open Go.RowKit in
open Go.RowKit in
open Go.RowKit in
open Go.RowKit in
open Go.RowKit in
open Go.RowKit in
open Go.RowKit in
open Go.RowKit in
open Go.RowKit in
open Go.RowKit in
open Go.RowKit in
open Go.RowKit in
def Tryz.lays217_ren : Go.Shelf.Ren := ⟨fun | 217 => 81 | 266 => 142 | n => n, fun | 9 => 9 | 5 => 5 | 3 => 3 | n => n, fun | n => n⟩
open Go.RowKit Go.Lib in
def Tryz.lays224_ren : Go.Shelf.Ren := ⟨fun | 224 => 279 | n => n, fun | 3 => 3 | n => n, fun | n => n⟩
open Go.RowKit Go.Lib in
def Tryz.lays206_ren : Go.Shelf.Ren := ⟨fun | 206 => 159 | n => n, fun | 9 => 9 | 4 => 4 | 3 => 3 | n => n, fun | n => n⟩
open Go.RowKit Go.Lib in
def Tryz.lays99_ren : Go.Shelf.Ren := ⟨fun | 99 => 103 | 206 => 159 | n => n, fun | 9 => 9 | 4 => 4 | 3 => 3 | n => n, fun | n => n⟩
theorem Tryz.lays99 : Go.Proofs.Lays.n99 Tryz.prog Tryz.lays99_ren := {
 mixed := by kernel_rfl
 f99 := Tryz.func103.trans (congrArg some (by kernel_rfl))
 f206 := Tryz.func159.trans (congrArg some (by kernel_rfl))
 t3 := Tryz.underlying3
 a3 := Tryz.isAgg3
 z3 := Tryz.sizeOf3
 v3 := Tryz.zeroValue3
 t4 := Tryz.underlying4
 a4 := Tryz.isAgg4
 z4 := Tryz.sizeOf4
 v4 := Tryz.zeroValue4
 t9 := Tryz.underlying9
 a9 := Tryz.isAgg9
 z9 := Tryz.sizeOf9
 v9 := Tryz.zeroValue9 }
open Go.RowKit Go.Lib in
theorem Tryz.strings_HasPrefix (s p : ByteArray) (w : World) :
  Calls Tryz.prog 103 #[.string s, .string p] w fun e w' => e = .returned (.bool (Lib.hasPrefix s.data.toList p.data.toList)) /\ w' = w := Any.strings_HasPrefix Tryz.lays99 s p w
def Tryz.lays197_ren : Go.Shelf.Ren := ⟨fun | 197 => 151 | 260 => 208 | n => n, fun | 9 => 9 | 21 => 21 | 3 => 3 | 4 => 4 | 5 => 5 | 105 => 235 | 119 => 320 | 0 => 0 | 46 => 72 | 139 => 323 | 138 => 322 | n => n, fun | 3 => 3 | 4 => 4 | n => n⟩
theorem Tryz.lays197 : Go.Proofs.Lays.n197 Tryz.prog Tryz.lays197_ren := {
 mixed := by kernel_rfl
 f197 := Tryz.func151.trans (congrArg some (by kernel_rfl))
 f260 := Tryz.func208.trans (congrArg some (by kernel_rfl))
 t0 := Tryz.underlying0
 a0 := Tryz.isAgg0
 z0 := Tryz.sizeOf0
 v0 := Tryz.zeroValue0
 t3 := Tryz.underlying3
 a3 := Tryz.isAgg3
 z3 := Tryz.sizeOf3
 v3 := Tryz.zeroValue3
 t4 := Tryz.underlying4
 a4 := Tryz.isAgg4
 z4 := Tryz.sizeOf4
 v4 := Tryz.zeroValue4
 t5 := Tryz.underlying5
 a5 := Tryz.isAgg5
 z5 := Tryz.sizeOf5
 v5 := Tryz.zeroValue5
 t9 := Tryz.underlying9
 a9 := Tryz.isAgg9
 z9 := Tryz.sizeOf9
 v9 := Tryz.zeroValue9
 t21 := Tryz.underlying21
 a21 := Tryz.isAgg21
 z21 := Tryz.sizeOf21
 v21 := Tryz.zeroValue21
 t46 := Tryz.underlying72
 a46 := Tryz.isAgg72
 z46 := Tryz.sizeOf72
 v46 := Tryz.zeroValue72
 t105 := Tryz.underlying235
 a105 := Tryz.isAgg235
 z105 := Tryz.sizeOf235
 v105 := Tryz.zeroValue235
 t119 := Tryz.underlying320
 a119 := Tryz.isAgg320
 z119 := Tryz.sizeOf320
 t138 := Tryz.underlying322
 a138 := Tryz.isAgg322
 z138 := Tryz.sizeOf322
 v138 := Tryz.zeroValue322
 t139 := Tryz.underlying323
 a139 := Tryz.isAgg323
 z139 := Tryz.sizeOf323
 v139 := Tryz.zeroValue323
 g3 := by kernel_rfl
 g4 := by kernel_rfl }
open Go.RowKit Go.Lib in
def Tryz.lays152_ren : Go.Shelf.Ren := ⟨fun | 152 => 274 | 137 => 44 | 119 => 278 | 224 => 279 | 225 => 280 | 217 => 81 | 266 => 142 | n => n, fun | 9 => 9 | 21 => 21 | 3 => 3 | 4 => 4 | 5 => 5 | 0 => 0 | 46 => 72 | n => n, fun | n => n⟩
open Go.RowKit Go.Lib in
def Tryz.lays151_ren : Go.Shelf.Ren := ⟨fun | 151 => 265 | 152 => 274 | 137 => 44 | 119 => 278 | 224 => 279 | 225 => 280 | 217 => 81 | 266 => 142 | n => n, fun | 9 => 9 | 21 => 21 | 4 => 4 | 3 => 3 | 5 => 5 | 0 => 0 | 46 => 72 | n => n, fun | n => n⟩
open Go.RowKit Go.Lib in
def Tryz.lays227_ren : Go.Shelf.Ren := ⟨fun | 227 => 240 | n => n, fun | 9 => 9 | 116 => 314 | 4 => 4 | 0 => 0 | 3 => 3 | 5 => 5 | n => n, fun | n => n⟩
open Go.RowKit Go.Lib in
def Tryz.lays228_ren : Go.Shelf.Ren := ⟨fun | 228 => 264 | n => n, fun | 124 => 318 | 5 => 5 | 4 => 4 | 0 => 0 | 116 => 314 | n => n, fun | n => n⟩
open Go.RowKit Go.Lib in
def Tryz.lays264_ren : Go.Shelf.Ren := ⟨fun | 264 => 158 | n => n, fun | 53 => 32 | 46 => 72 | n => n, fun | n => n⟩
open Go.RowKit Go.Lib in
def Tryz.lays212_ren : Go.Shelf.Ren := ⟨fun | 212 => 102 | 263 => 157 | 264 => 158 | n => n, fun | 46 => 72 | 51 => 110 | 146 => 242 | 53 => 32 | 148 => 244 | n => n, fun | n => n⟩
open Go.RowKit Go.Lib in
def Tryz.lays260_ren : Go.Shelf.Ren := ⟨fun | 260 => 208 | n => n, fun | 9 => 9 | 21 => 21 | 3 => 3 | 4 => 4 | 5 => 5 | 119 => 320 | 0 => 0 | 46 => 72 | 139 => 323 | 138 => 322 | n => n, fun | 3 => 3 | 4 => 4 | n => n⟩
theorem Tryz.lays260 : Go.Proofs.Lays.n260 Tryz.prog Tryz.lays260_ren := {
 mixed := by kernel_rfl
 f260 := Tryz.func208.trans (congrArg some (by kernel_rfl))
 t0 := Tryz.underlying0
 a0 := Tryz.isAgg0
 z0 := Tryz.sizeOf0
 v0 := Tryz.zeroValue0
 t3 := Tryz.underlying3
 a3 := Tryz.isAgg3
 z3 := Tryz.sizeOf3
 v3 := Tryz.zeroValue3
 t4 := Tryz.underlying4
 a4 := Tryz.isAgg4
 z4 := Tryz.sizeOf4
 v4 := Tryz.zeroValue4
 t5 := Tryz.underlying5
 a5 := Tryz.isAgg5
 z5 := Tryz.sizeOf5
 v5 := Tryz.zeroValue5
 t9 := Tryz.underlying9
 a9 := Tryz.isAgg9
 z9 := Tryz.sizeOf9
 v9 := Tryz.zeroValue9
 t21 := Tryz.underlying21
 a21 := Tryz.isAgg21
 z21 := Tryz.sizeOf21
 v21 := Tryz.zeroValue21
 t46 := Tryz.underlying72
 a46 := Tryz.isAgg72
 z46 := Tryz.sizeOf72
 v46 := Tryz.zeroValue72
 t119 := Tryz.underlying320
 a119 := Tryz.isAgg320
 z119 := Tryz.sizeOf320
 t138 := Tryz.underlying322
 a138 := Tryz.isAgg322
 z138 := Tryz.sizeOf322
 v138 := Tryz.zeroValue322
 t139 := Tryz.underlying323
 a139 := Tryz.isAgg323
 z139 := Tryz.sizeOf323
 v139 := Tryz.zeroValue323
 g3 := by kernel_rfl
 g4 := by kernel_rfl }
open Go.RowKit Go.Lib in
open Go.RowKit Go.Lib in
theorem Tryz.utf8_DecodeRuneInString (s : ByteArray) (w : World) (hT : Lib.Utf8Tabs 3 4 w) :
  Calls Tryz.prog 151 #[.string s] w fun e w' => e = .returned (.tuple #[.int .i32 (Lib.decodeGo s).1, .int .i64 (Lib.decodeGo s).2]) /\ Below w.heap.size w w' := Any.utf8_DecodeRuneInString Tryz.lays197 s w hT
end Go.Proofs
