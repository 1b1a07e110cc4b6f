/- Contracts of library functions, laid at this program by the shelf. -/
import Derived.Shelf.Strings.Builder1
import Derived.Shelf.Utf8.RuneCount
import Derived.Shelf.Strconv.Itoa0
import Derived.Shelf.Strconv.Itoa1
import Derived.Shelf.LaysM
import Derived.Shelf.Strconv.Itoa2
import Derived.Shelf.Strconv.Itoa3
import Derived.Shelf.Strings.Search1
import Derived.Shelf.Strings.Search2
import Derived.Shelf.Strings.Search3
import Derived.Shelf.Strings.Cut
import Derived.Shelf.Strings.Count
import Derived.Shelf.Strings.Shaped
import Derived.Shelf.Strings.Split
import Derived.Shelf.Strings.SplitShaped
import Derived.Shelf.Unicode.Decode
import Derived.Shelf.Strings.RuneCount
import Derived.Shelf.Strings.Explode
import Derived.Shelf.Unicode.DecodeSlow
import Derived.Shelf.Unicode.DecodeAny
import Derived.Test.YtkogipcdjalehaaDoorProg
namespace Go.Proofs
open Go.Shelf
def Tryd.lays169_ren : Go.Shelf.Ren := ⟨fun | 169 => 102 | n => n, fun | 70 => 144 | 9 => 9 | 0 => 0 | 72 => 147 | 37 => 145 | 127 => 175 | 3 => 3 | 5 => 5 | n => n, fun | n => n⟩
theorem Tryd.lays169 : Go.Proofs.Lays.n169 Tryd.prog Tryd.lays169_ren := {
 mixed := by kernel_rfl
 f169 := Tryd.func102.trans (congrArg some (by kernel_rfl))
 t0 := Tryd.underlying0
 a0 := Tryd.isAgg0
 z0 := Tryd.sizeOf0
 v0 := Tryd.zeroValue0
 t3 := Tryd.underlying3
 a3 := Tryd.isAgg3
 z3 := Tryd.sizeOf3
 v3 := Tryd.zeroValue3
 t9 := Tryd.underlying9
 a9 := Tryd.isAgg9
 z9 := Tryd.sizeOf9
 v9 := Tryd.zeroValue9
 t37 := Tryd.underlying145
 a37 := Tryd.isAgg145
 z37 := Tryd.sizeOf145
 v37 := Tryd.zeroValue145
 t70 := Tryd.underlying144
 a70 := Tryd.isAgg144
 z70 := Tryd.sizeOf144
 v70 := Tryd.zeroValue144
 t72 := Tryd.underlying147
 a72 := Tryd.isAgg147
 z72 := Tryd.sizeOf147
 v72 := Tryd.zeroValue147
 t127 := Tryd.underlying175
 a127 := Tryd.isAgg175
 z127 := Tryd.sizeOf175
 v127 := Tryd.zeroValue175 }
theorem Tryd.Builder_Extra_169 : Builder.Extra Tryd.prog Tryd.lays169_ren := {
 sizeBuilder := by kernel_rfl
 liesBuilder := by kernel_rfl
 t5 := Tryd.underlying5
 a5 := Tryd.isAgg5
 z5 := Tryd.sizeOf5
 v5 := Tryd.zeroValue5
 infoByte := by kernel_rfl
 cellsByte := by kernel_rfl
 sizeByte := by kernel_rfl
 neB5 := by decide }
open Go.RowKit in
theorem Tryd.Builder_String_any (B b : Nat) (l : List UInt8) (w : World) (h : Lib.IsBuilder 147 5 B b (Lib.byteCells l) w) (hBw : B ≤ w.heap.size) :
  Calls Tryd.prog 102 #[.pointer (some ⟨b, 0, none⟩)] w fun e w' => e = .returned (.string ⟨l.toArray⟩) ∧ Below B w w' := Any.Builder_String_any Tryd.lays169 Tryd.Builder_Extra_169 B b l w h hBw
def Tryd.lays246_ren : Go.Shelf.Ren := ⟨fun | 246 => 150 | 283 => 159 | 284 => 160 | 285 => 161 | 286 => 162 | 129 => 166 | 317 => 165 | 318 => 167 | 319 => 168 | 320 => 169 | 337 => 170 | 338 => 171 | n => n, fun | 2 => 2 | 3 => 3 | 9 => 9 | 4 => 4 | 171 => 193 | 0 => 0 | 53 => 194 | 37 => 145 | 5 => 5 | 173 => 197 | 212 => 207 | 51 => 203 | 20 => 20 | 213 => 208 | 46 => 158 | 232 => 212 | 233 => 213 | n => n, fun | 17 => 3 | 18 => 4 | 19 => 5 | n => n⟩
theorem Tryd.lays246 : Go.Proofs.Lays.n246 Tryd.prog Tryd.lays246_ren := {
 mixed := by kernel_rfl
 f129 := Tryd.func166.trans (congrArg some (by kernel_rfl))
 f246 := Tryd.func150.trans (congrArg some (by kernel_rfl))
 f283 := Tryd.func159.trans (congrArg some (by kernel_rfl))
 f284 := Tryd.func160.trans (congrArg some (by kernel_rfl))
 f285 := Tryd.func161.trans (congrArg some (by kernel_rfl))
 f286 := Tryd.func162.trans (congrArg some (by kernel_rfl))
 f317 := Tryd.func165.trans (congrArg some (by kernel_rfl))
 f318 := Tryd.func167.trans (congrArg some (by kernel_rfl))
 f319 := Tryd.func168.trans (congrArg some (by kernel_rfl))
 f320 := Tryd.func169.trans (congrArg some (by kernel_rfl))
 f337 := Tryd.func170.trans (congrArg some (by kernel_rfl))
 f338 := Tryd.func171.trans (congrArg some (by kernel_rfl))
 t0 := Tryd.underlying0
 a0 := Tryd.isAgg0
 z0 := Tryd.sizeOf0
 v0 := Tryd.zeroValue0
 t2 := Tryd.underlying2
 a2 := Tryd.isAgg2
 z2 := Tryd.sizeOf2
 v2 := Tryd.zeroValue2
 t3 := Tryd.underlying3
 a3 := Tryd.isAgg3
 z3 := Tryd.sizeOf3
 v3 := Tryd.zeroValue3
 t4 := Tryd.underlying4
 a4 := Tryd.isAgg4
 z4 := Tryd.sizeOf4
 v4 := Tryd.zeroValue4
 t5 := Tryd.underlying5
 a5 := Tryd.isAgg5
 z5 := Tryd.sizeOf5
 v5 := Tryd.zeroValue5
 t9 := Tryd.underlying9
 a9 := Tryd.isAgg9
 z9 := Tryd.sizeOf9
 v9 := Tryd.zeroValue9
 t20 := Tryd.underlying20
 a20 := Tryd.isAgg20
 z20 := Tryd.sizeOf20
 v20 := Tryd.zeroValue20
 t37 := Tryd.underlying145
 a37 := Tryd.isAgg145
 z37 := Tryd.sizeOf145
 v37 := Tryd.zeroValue145
 t46 := Tryd.underlying158
 a46 := Tryd.isAgg158
 z46 := Tryd.sizeOf158
 v46 := Tryd.zeroValue158
 t51 := Tryd.underlying203
 a51 := Tryd.isAgg203
 z51 := Tryd.sizeOf203
 v51 := Tryd.zeroValue203
 t53 := Tryd.underlying194
 a53 := Tryd.isAgg194
 z53 := Tryd.sizeOf194
 v53 := Tryd.zeroValue194
 t171 := Tryd.underlying193
 a171 := Tryd.isAgg193
 z171 := Tryd.sizeOf193
 v171 := Tryd.zeroValue193
 t173 := Tryd.underlying197
 a173 := Tryd.isAgg197
 z173 := Tryd.sizeOf197
 v173 := Tryd.zeroValue197
 t212 := Tryd.underlying207
 a212 := Tryd.isAgg207
 z212 := Tryd.sizeOf207
 v212 := Tryd.zeroValue207
 t213 := Tryd.underlying208
 a213 := Tryd.isAgg208
 z213 := Tryd.sizeOf208
 t232 := Tryd.underlying212
 a232 := Tryd.isAgg212
 z232 := Tryd.sizeOf212
 v232 := Tryd.zeroValue212
 t233 := Tryd.underlying213
 a233 := Tryd.isAgg213
 z233 := Tryd.sizeOf213
 v233 := Tryd.zeroValue213
 g17 := by kernel_rfl
 g18 := by kernel_rfl
 g19 := by kernel_rfl }
open Go.RowKit Go.Sort Go.Lib in
theorem Tryd.internal_strconv_FormatInt_10_small (i : Nat) (hi : i < 100) (w : World) :
  Calls Tryd.prog 150 #[.int .i64 i, .int .i64 10] w fun e w' => e = .returned (.string ⟨(Lib.decDigits i).toArray⟩) ∧ w' = w := Any.internal_strconv_FormatInt_10_small Tryd.lays246 i hi w
end Go.Proofs
