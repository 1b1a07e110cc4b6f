/- Contracts of library functions, laid at this program by the shelf. -/
import Derived.Shelf.Strings.Builder1
import Derived.Shelf.Utf8.RuneCount
import Derived.Shelf.Strconv.Itoa0
import Derived.Shelf.Strconv.Itoa1
import Derived.Shelf.LaysM
import Derived.Shelf.Strconv.Itoa2
import Derived.Shelf.Strconv.Itoa3
import Derived.Shelf.Strings.Search1
import Derived.Shelf.Strings.Search2
import Derived.Shelf.Strings.Search3
import Derived.Shelf.Strings.Cut
import Derived.Shelf.Strings.Count
import Derived.Shelf.Strings.Shaped
import Derived.Shelf.Strings.Split
import Derived.Shelf.Strings.SplitShaped
import Derived.Shelf.Unicode.Decode
import Derived.Shelf.Strings.RuneCount
import Derived.Shelf.Strings.Explode
import Derived.Shelf.Unicode.DecodeSlow
import Derived.Shelf.Unicode.DecodeAny
import Derived.Test.YtkogipcdjalehaaDoorProg
namespace Go.Proofs
open Go.Shelf
def Tryd.lays143_ren : Go.Shelf.Ren := ⟨fun | 143 => 116 | 219 => 140 | 217 => 152 | 225 => 153 | 224 => 154 | 267 => 155 | 266 => 163 | 314 => 164 | n => n, fun | 9 => 9 | 3 => 3 | 4 => 4 | 5 => 5 | 46 => 158 | 146 => 204 | 51 => 203 | n => n, fun | 1 => 0 | n => n⟩
theorem Tryd.lays143 : Go.Proofs.Lays.n143 Tryd.prog Tryd.lays143_ren := {
 mixed := by kernel_rfl
 f143 := Tryd.func116.trans (congrArg some (by kernel_rfl))
 f217 := Tryd.func152.trans (congrArg some (by kernel_rfl))
 f219 := Tryd.func140.trans (congrArg some (by kernel_rfl))
 f224 := Tryd.func154.trans (congrArg some (by kernel_rfl))
 f225 := Tryd.func153.trans (congrArg some (by kernel_rfl))
 f266 := Tryd.func163.trans (congrArg some (by kernel_rfl))
 f267 := Tryd.func155.trans (congrArg some (by kernel_rfl))
 f314 := Tryd.func164.trans (congrArg some (by kernel_rfl))
 t3 := Tryd.underlying3
 a3 := Tryd.isAgg3
 z3 := Tryd.sizeOf3
 v3 := Tryd.zeroValue3
 t4 := Tryd.underlying4
 a4 := Tryd.isAgg4
 z4 := Tryd.sizeOf4
 v4 := Tryd.zeroValue4
 t5 := Tryd.underlying5
 a5 := Tryd.isAgg5
 z5 := Tryd.sizeOf5
 v5 := Tryd.zeroValue5
 t9 := Tryd.underlying9
 a9 := Tryd.isAgg9
 z9 := Tryd.sizeOf9
 v9 := Tryd.zeroValue9
 t46 := Tryd.underlying158
 a46 := Tryd.isAgg158
 z46 := Tryd.sizeOf158
 v46 := Tryd.zeroValue158
 t51 := Tryd.underlying203
 a51 := Tryd.isAgg203
 z51 := Tryd.sizeOf203
 v51 := Tryd.zeroValue203
 t146 := Tryd.underlying204
 a146 := Tryd.isAgg204
 z146 := Tryd.sizeOf204
 v146 := Tryd.zeroValue204
 g1 := by kernel_rfl }
open Go.RowKit Go.Lib in
theorem Tryd.strings_Index_one (s : ByteArray) (c : UInt8) (w : World) :
  Calls Tryd.prog 116 #[.string s, .string ⟨#[c]⟩] w fun e w' => e = .returned (.int .i64 (Lib.indexByte s.data.toList c)) ∧ w' = w := Any.strings_Index_one Tryd.lays143 s c w
def Tryd.lays138_ren : Go.Shelf.Ren := ⟨fun | 138 => 115 | 195 => 137 | 218 => 139 | 143 => 116 | 219 => 140 | 217 => 152 | 225 => 153 | 224 => 154 | 267 => 155 | 266 => 163 | 314 => 164 | n => n, fun | 9 => 9 | 3 => 3 | 4 => 4 | 5 => 5 | 0 => 0 | 46 => 158 | 146 => 204 | 51 => 203 | n => n, fun | 1 => 0 | n => n⟩
theorem Tryd.lays138 : Go.Proofs.Lays.n138 Tryd.prog Tryd.lays138_ren := {
 mixed := by kernel_rfl
 f138 := Tryd.func115.trans (congrArg some (by kernel_rfl))
 f143 := Tryd.func116.trans (congrArg some (by kernel_rfl))
 f195 := Tryd.func137.trans (congrArg some (by kernel_rfl))
 f217 := Tryd.func152.trans (congrArg some (by kernel_rfl))
 f218 := Tryd.func139.trans (congrArg some (by kernel_rfl))
 f219 := Tryd.func140.trans (congrArg some (by kernel_rfl))
 f224 := Tryd.func154.trans (congrArg some (by kernel_rfl))
 f225 := Tryd.func153.trans (congrArg some (by kernel_rfl))
 f266 := Tryd.func163.trans (congrArg some (by kernel_rfl))
 f267 := Tryd.func155.trans (congrArg some (by kernel_rfl))
 f314 := Tryd.func164.trans (congrArg some (by kernel_rfl))
 t0 := Tryd.underlying0
 a0 := Tryd.isAgg0
 z0 := Tryd.sizeOf0
 v0 := Tryd.zeroValue0
 t3 := Tryd.underlying3
 a3 := Tryd.isAgg3
 z3 := Tryd.sizeOf3
 v3 := Tryd.zeroValue3
 t4 := Tryd.underlying4
 a4 := Tryd.isAgg4
 z4 := Tryd.sizeOf4
 v4 := Tryd.zeroValue4
 t5 := Tryd.underlying5
 a5 := Tryd.isAgg5
 z5 := Tryd.sizeOf5
 v5 := Tryd.zeroValue5
 t9 := Tryd.underlying9
 a9 := Tryd.isAgg9
 z9 := Tryd.sizeOf9
 v9 := Tryd.zeroValue9
 t46 := Tryd.underlying158
 a46 := Tryd.isAgg158
 z46 := Tryd.sizeOf158
 v46 := Tryd.zeroValue158
 t51 := Tryd.underlying203
 a51 := Tryd.isAgg203
 z51 := Tryd.sizeOf203
 v51 := Tryd.zeroValue203
 t146 := Tryd.underlying204
 a146 := Tryd.isAgg204
 z146 := Tryd.sizeOf204
 v146 := Tryd.zeroValue204
 g1 := by kernel_rfl }
open Go.RowKit Go.Lib in
theorem Tryd.strings_Count_one (s : ByteArray) (c : UInt8) (w : World) :
  Calls Tryd.prog 115 #[.string s, .string ⟨#[c]⟩] w fun e w' => e = .returned (.int .i64 (Lib.countByte s.data.toList c)) ∧ w' = w := Any.strings_Count_one Tryd.lays138 s c w
def Tryd.lays221_ren : Go.Shelf.Ren := ⟨fun | 221 => 82 | 268 => 114 | 138 => 115 | 143 => 116 | 195 => 137 | 197 => 138 | 218 => 139 | 219 => 140 | 260 => 151 | 217 => 152 | 225 => 153 | 224 => 154 | 267 => 155 | 266 => 163 | 314 => 164 | n => n, fun | 9 => 9 | 3 => 3 | 31 => 75 | 4 => 4 | 0 => 0 | 105 => 179 | 21 => 21 | 5 => 5 | 46 => 158 | 119 => 199 | 139 => 202 | 138 => 201 | 146 => 204 | 51 => 203 | n => n, fun | 1 => 0 | 3 => 1 | 4 => 2 | n => n⟩
theorem Tryd.lays221 : Go.Proofs.Lays.n221 Tryd.prog Tryd.lays221_ren := {
 mixed := by kernel_rfl
 f138 := Tryd.func115.trans (congrArg some (by kernel_rfl))
 f143 := Tryd.func116.trans (congrArg some (by kernel_rfl))
 f195 := Tryd.func137.trans (congrArg some (by kernel_rfl))
 f197 := Tryd.func138.trans (congrArg some (by kernel_rfl))
 f217 := Tryd.func152.trans (congrArg some (by kernel_rfl))
 f218 := Tryd.func139.trans (congrArg some (by kernel_rfl))
 f219 := Tryd.func140.trans (congrArg some (by kernel_rfl))
 f221 := Tryd.func82.trans (congrArg some (by kernel_rfl))
 f224 := Tryd.func154.trans (congrArg some (by kernel_rfl))
 f225 := Tryd.func153.trans (congrArg some (by kernel_rfl))
 f260 := Tryd.func151.trans (congrArg some (by kernel_rfl))
 f266 := Tryd.func163.trans (congrArg some (by kernel_rfl))
 f267 := Tryd.func155.trans (congrArg some (by kernel_rfl))
 f268 := Tryd.func114.trans (congrArg some (by kernel_rfl))
 f314 := Tryd.func164.trans (congrArg some (by kernel_rfl))
 t0 := Tryd.underlying0
 a0 := Tryd.isAgg0
 z0 := Tryd.sizeOf0
 v0 := Tryd.zeroValue0
 t3 := Tryd.underlying3
 a3 := Tryd.isAgg3
 z3 := Tryd.sizeOf3
 v3 := Tryd.zeroValue3
 t4 := Tryd.underlying4
 a4 := Tryd.isAgg4
 z4 := Tryd.sizeOf4
 v4 := Tryd.zeroValue4
 t5 := Tryd.underlying5
 a5 := Tryd.isAgg5
 z5 := Tryd.sizeOf5
 v5 := Tryd.zeroValue5
 t9 := Tryd.underlying9
 a9 := Tryd.isAgg9
 z9 := Tryd.sizeOf9
 v9 := Tryd.zeroValue9
 t21 := Tryd.underlying21
 a21 := Tryd.isAgg21
 z21 := Tryd.sizeOf21
 v21 := Tryd.zeroValue21
 t31 := Tryd.underlying75
 a31 := Tryd.isAgg75
 z31 := Tryd.sizeOf75
 v31 := Tryd.zeroValue75
 t46 := Tryd.underlying158
 a46 := Tryd.isAgg158
 z46 := Tryd.sizeOf158
 v46 := Tryd.zeroValue158
 t51 := Tryd.underlying203
 a51 := Tryd.isAgg203
 z51 := Tryd.sizeOf203
 v51 := Tryd.zeroValue203
 t105 := Tryd.underlying179
 a105 := Tryd.isAgg179
 z105 := Tryd.sizeOf179
 v105 := Tryd.zeroValue179
 t119 := Tryd.underlying199
 a119 := Tryd.isAgg199
 z119 := Tryd.sizeOf199
 t138 := Tryd.underlying201
 a138 := Tryd.isAgg201
 z138 := Tryd.sizeOf201
 v138 := Tryd.zeroValue201
 t139 := Tryd.underlying202
 a139 := Tryd.isAgg202
 z139 := Tryd.sizeOf202
 v139 := Tryd.zeroValue202
 t146 := Tryd.underlying204
 a146 := Tryd.isAgg204
 z146 := Tryd.sizeOf204
 v146 := Tryd.zeroValue204
 g1 := by kernel_rfl
 g3 := by kernel_rfl
 g4 := by kernel_rfl }
end Go.Proofs
