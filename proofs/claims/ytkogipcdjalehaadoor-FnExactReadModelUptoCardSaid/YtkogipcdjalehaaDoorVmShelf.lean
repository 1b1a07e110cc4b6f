/- Shelf2, Bw, Shelf. -/
import Derived.Shelf.Strings.Builder1
import Derived.Shelf.Strconv.Itoa0
import Derived.Shelf.Strconv.Itoa1
import Derived.Shelf.LaysM
import Derived.Shelf.Strconv.Itoa2
import Derived.Shelf.Strconv.Itoa3
import Derived.Shelf.Strings.Search1
import Derived.Shelf.Strings.Search2
import Derived.Shelf.Strings.Search3
import Derived.Shelf.Strings.Cut
import Derived.Shelf.Strings.Count
import Derived.Shelf.Strings.Shaped
import Derived.Shelf.Strings.Split
import Derived.Shelf.Unicode.Decode
import Derived.Shelf.Strings.RuneCount
import Derived.Shelf.Unicode.DecodeSlow
import Derived.Test.YtkogipcdjalehaaDoorProg
import Derived.WalkKit
import Derived.Lib.Builder
import Derived.Lib.AppendStr
import Derived.Lib.UnsafeStr
import Derived.Lib.Walk
import Derived.Lib.Strings
import Derived.Lib.Slices
import Derived.Lib.MakeNoZero
import Derived.Laws.Externs
import Derived.Laws.IdiomCopy
import Derived.BigCall
import Derived.OwnWalk
namespace Go.Proofs
open Go.Shelf
def Tryd.lays143_ren : Go.Shelf.Ren := ⟨fun | 143 => 116 | 219 => 140 | 217 => 152 | 225 => 153 | 224 => 154 | 267 => 155 | 266 => 163 | 314 => 164 | n => n, fun | 9 => 9 | 3 => 3 | 4 => 4 | 5 => 5 | 46 => 158 | 146 => 204 | 51 => 203 | n => n, fun | 1 => 0 | n => n⟩
theorem Tryd.lays143 : Go.Proofs.Lays.n143 Tryd.prog Tryd.lays143_ren := {
 mixed := by kernel_rfl
 f143 := Tryd.func116.trans (congrArg some (by kernel_rfl))
 f217 := Tryd.func152.trans (congrArg some (by kernel_rfl))
 f219 := Tryd.func140.trans (congrArg some (by kernel_rfl))
 f224 := Tryd.func154.trans (congrArg some (by kernel_rfl))
 f225 := Tryd.func153.trans (congrArg some (by kernel_rfl))
 f266 := Tryd.func163.trans (congrArg some (by kernel_rfl))
 f267 := Tryd.func155.trans (congrArg some (by kernel_rfl))
 f314 := Tryd.func164.trans (congrArg some (by kernel_rfl))
 t3 := Tryd.underlying3
 a3 := Tryd.isAgg3
 z3 := Tryd.sizeOf3
 v3 := Tryd.zeroValue3
 t4 := Tryd.underlying4
 a4 := Tryd.isAgg4
 z4 := Tryd.sizeOf4
 v4 := Tryd.zeroValue4
 t5 := Tryd.underlying5
 a5 := Tryd.isAgg5
 z5 := Tryd.sizeOf5
 v5 := Tryd.zeroValue5
 t9 := Tryd.underlying9
 a9 := Tryd.isAgg9
 z9 := Tryd.sizeOf9
 v9 := Tryd.zeroValue9
 t46 := Tryd.underlying158
 a46 := Tryd.isAgg158
 z46 := Tryd.sizeOf158
 v46 := Tryd.zeroValue158
 t51 := Tryd.underlying203
 a51 := Tryd.isAgg203
 z51 := Tryd.sizeOf203
 v51 := Tryd.zeroValue203
 t146 := Tryd.underlying204
 a146 := Tryd.isAgg204
 z146 := Tryd.sizeOf204
 v146 := Tryd.zeroValue204
 g1 := by kernel_rfl }
open Go.RowKit Go.Lib in
theorem Tryd.strings_Index_one (s : ByteArray) (c : UInt8) (w : World) :
 Calls Tryd.prog 116 #[.string s, .string ⟨#[c]⟩] w fun e w' => e = .returned (.int .i64 (Lib.indexByte s.data.toList c)) ∧ w' = w := Any.strings_Index_one Tryd.lays143 s c w
def Tryd.lays138_ren : Go.Shelf.Ren := ⟨fun | 138 => 115 | 195 => 137 | 218 => 139 | 143 => 116 | 219 => 140 | 217 => 152 | 225 => 153 | 224 => 154 | 267 => 155 | 266 => 163 | 314 => 164 | n => n, fun | 9 => 9 | 3 => 3 | 4 => 4 | 5 => 5 | 0 => 0 | 46 => 158 | 146 => 204 | 51 => 203 | n => n, fun | 1 => 0 | n => n⟩
theorem Tryd.lays138 : Go.Proofs.Lays.n138 Tryd.prog Tryd.lays138_ren := {
 mixed := by kernel_rfl
 f138 := Tryd.func115.trans (congrArg some (by kernel_rfl))
 f143 := Tryd.func116.trans (congrArg some (by kernel_rfl))
 f195 := Tryd.func137.trans (congrArg some (by kernel_rfl))
 f217 := Tryd.func152.trans (congrArg some (by kernel_rfl))
 f218 := Tryd.func139.trans (congrArg some (by kernel_rfl))
 f219 := Tryd.func140.trans (congrArg some (by kernel_rfl))
 f224 := Tryd.func154.trans (congrArg some (by kernel_rfl))
 f225 := Tryd.func153.trans (congrArg some (by kernel_rfl))
 f266 := Tryd.func163.trans (congrArg some (by kernel_rfl))
 f267 := Tryd.func155.trans (congrArg some (by kernel_rfl))
 f314 := Tryd.func164.trans (congrArg some (by kernel_rfl))
 t0 := Tryd.underlying0
 a0 := Tryd.isAgg0
 z0 := Tryd.sizeOf0
 v0 := Tryd.zeroValue0
 t3 := Tryd.underlying3
 a3 := Tryd.isAgg3
 z3 := Tryd.sizeOf3
 v3 := Tryd.zeroValue3
 t4 := Tryd.underlying4
 a4 := Tryd.isAgg4
 z4 := Tryd.sizeOf4
 v4 := Tryd.zeroValue4
 t5 := Tryd.underlying5
 a5 := Tryd.isAgg5
 z5 := Tryd.sizeOf5
 v5 := Tryd.zeroValue5
 t9 := Tryd.underlying9
 a9 := Tryd.isAgg9
 z9 := Tryd.sizeOf9
 v9 := Tryd.zeroValue9
 t46 := Tryd.underlying158
 a46 := Tryd.isAgg158
 z46 := Tryd.sizeOf158
 v46 := Tryd.zeroValue158
 t51 := Tryd.underlying203
 a51 := Tryd.isAgg203
 z51 := Tryd.sizeOf203
 v51 := Tryd.zeroValue203
 t146 := Tryd.underlying204
 a146 := Tryd.isAgg204
 z146 := Tryd.sizeOf204
 v146 := Tryd.zeroValue204
 g1 := by kernel_rfl }
open Go.RowKit Go.Lib in
theorem Tryd.strings_Count_one (s : ByteArray) (c : UInt8) (w : World) :
 Calls Tryd.prog 115 #[.string s, .string ⟨#[c]⟩] w fun e w' => e = .returned (.int .i64 (Lib.countByte s.data.toList c)) ∧ w' = w := Any.strings_Count_one Tryd.lays138 s c w
def Tryd.lays221_ren : Go.Shelf.Ren := ⟨fun | 221 => 82 | 268 => 114 | 138 => 115 | 143 => 116 | 195 => 137 | 197 => 138 | 218 => 139 | 219 => 140 | 260 => 151 | 217 => 152 | 225 => 153 | 224 => 154 | 267 => 155 | 266 => 163 | 314 => 164 | n => n, fun | 9 => 9 | 3 => 3 | 31 => 75 | 4 => 4 | 0 => 0 | 105 => 179 | 21 => 21 | 5 => 5 | 46 => 158 | 119 => 199 | 139 => 202 | 138 => 201 | 146 => 204 | 51 => 203 | n => n, fun | 1 => 0 | 3 => 1 | 4 => 2 | n => n⟩
theorem Tryd.lays221 : Go.Proofs.Lays.n221 Tryd.prog Tryd.lays221_ren := {
 mixed := by kernel_rfl
 f138 := Tryd.func115.trans (congrArg some (by kernel_rfl))
 f143 := Tryd.func116.trans (congrArg some (by kernel_rfl))
 f195 := Tryd.func137.trans (congrArg some (by kernel_rfl))
 f197 := Tryd.func138.trans (congrArg some (by kernel_rfl))
 f217 := Tryd.func152.trans (congrArg some (by kernel_rfl))
 f218 := Tryd.func139.trans (congrArg some (by kernel_rfl))
 f219 := Tryd.func140.trans (congrArg some (by kernel_rfl))
 f221 := Tryd.func82.trans (congrArg some (by kernel_rfl))
 f224 := Tryd.func154.trans (congrArg some (by kernel_rfl))
 f225 := Tryd.func153.trans (congrArg some (by kernel_rfl))
 f260 := Tryd.func151.trans (congrArg some (by kernel_rfl))
 f266 := Tryd.func163.trans (congrArg some (by kernel_rfl))
 f267 := Tryd.func155.trans (congrArg some (by kernel_rfl))
 f268 := Tryd.func114.trans (congrArg some (by kernel_rfl))
 f314 := Tryd.func164.trans (congrArg some (by kernel_rfl))
 t0 := Tryd.underlying0
 a0 := Tryd.isAgg0
 z0 := Tryd.sizeOf0
 v0 := Tryd.zeroValue0
 t3 := Tryd.underlying3
 a3 := Tryd.isAgg3
 z3 := Tryd.sizeOf3
 v3 := Tryd.zeroValue3
 t4 := Tryd.underlying4
 a4 := Tryd.isAgg4
 z4 := Tryd.sizeOf4
 v4 := Tryd.zeroValue4
 t5 := Tryd.underlying5
 a5 := Tryd.isAgg5
 z5 := Tryd.sizeOf5
 v5 := Tryd.zeroValue5
 t9 := Tryd.underlying9
 a9 := Tryd.isAgg9
 z9 := Tryd.sizeOf9
 v9 := Tryd.zeroValue9
 t21 := Tryd.underlying21
 a21 := Tryd.isAgg21
 z21 := Tryd.sizeOf21
 v21 := Tryd.zeroValue21
 t31 := Tryd.underlying75
 a31 := Tryd.isAgg75
 z31 := Tryd.sizeOf75
 v31 := Tryd.zeroValue75
 t46 := Tryd.underlying158
 a46 := Tryd.isAgg158
 z46 := Tryd.sizeOf158
 v46 := Tryd.zeroValue158
 t51 := Tryd.underlying203
 a51 := Tryd.isAgg203
 z51 := Tryd.sizeOf203
 v51 := Tryd.zeroValue203
 t105 := Tryd.underlying179
 a105 := Tryd.isAgg179
 z105 := Tryd.sizeOf179
 v105 := Tryd.zeroValue179
 t119 := Tryd.underlying199
 a119 := Tryd.isAgg199
 z119 := Tryd.sizeOf199
 t138 := Tryd.underlying201
 a138 := Tryd.isAgg201
 z138 := Tryd.sizeOf201
 v138 := Tryd.zeroValue201
 t139 := Tryd.underlying202
 a139 := Tryd.isAgg202
 z139 := Tryd.sizeOf202
 v139 := Tryd.zeroValue202
 t146 := Tryd.underlying204
 a146 := Tryd.isAgg204
 z146 := Tryd.sizeOf204
 v146 := Tryd.zeroValue204
 g1 := by kernel_rfl
 g3 := by kernel_rfl
 g4 := by kernel_rfl }
end Go.Proofs

set_option linter.unusedVariables false
namespace Go.Proofs.YtkogipcdjalehaaDoor
open Go.RowKit Go.Proofs
def KeepT (b : Nat) (w w' : World) : Prop := ∀ k cs T fz, w.heap[k]? = some (.cells cs T fz) → T ≠ 5 → k ≠ b → w'.heap[k]? = w.heap[k]?
theorem KeepT.refl (b : Nat) (w : World) : KeepT b w w := fun _ _ _ _ _ _ _ => rfl
theorem KeepT.trans {b : Nat} {w w1 w2 : World} (h : KeepT b w w1) (k : KeepT b w1 w2) : KeepT b w w2 := fun i cs T fz hi hT hb => by
 have e := h i cs T fz hi hT hb
 rw [k i cs T fz (e.trans hi) hT hb, e]
theorem lt_of_heap {w : World} {k : Nat} {x : Obj} (h : w.heap[k]? = some x) : k < w.heap.size := by
 rcases Nat.lt_or_ge k w.heap.size with h' | h'
 ·exact h'
 ·simp [Array.getElem?_eq_none h'] at h
theorem KeepT.alloc {b : Nat} {w w1 : World} (h : KeepT b w w1) (o : Obj) : KeepT b w (w1.alloc o) := fun i cs T fz hi hT hb => by
 have e := h i cs T fz hi hT hb
 rw [← e]
 exact Lib.alloc_old w1 o i (lt_of_heap (e.trans hi))
end Go.Proofs.YtkogipcdjalehaaDoor

namespace Go.Proofs
open Go.Shelf
def Tryd.lays246_ren : Go.Shelf.Ren := ⟨fun | 246 => 150 | 283 => 159 | 284 => 160 | 285 => 161 | 286 => 162 | 129 => 166 | 317 => 165 | 318 => 167 | 319 => 168 | 320 => 169 | 337 => 170 | 338 => 171 | n => n, fun | 2 => 2 | 3 => 3 | 9 => 9 | 4 => 4 | 171 => 193 | 0 => 0 | 53 => 194 | 37 => 145 | 5 => 5 | 173 => 197 | 212 => 207 | 51 => 203 | 20 => 20 | 213 => 208 | 46 => 158 | 232 => 212 | 233 => 213 | n => n, fun | 17 => 3 | 18 => 4 | 19 => 5 | n => n⟩
theorem Tryd.lays246 : Go.Proofs.Lays.n246 Tryd.prog Tryd.lays246_ren := {
 mixed := by kernel_rfl
 f129 := Tryd.func166.trans (congrArg some (by kernel_rfl))
 f246 := Tryd.func150.trans (congrArg some (by kernel_rfl))
 f283 := Tryd.func159.trans (congrArg some (by kernel_rfl))
 f284 := Tryd.func160.trans (congrArg some (by kernel_rfl))
 f285 := Tryd.func161.trans (congrArg some (by kernel_rfl))
 f286 := Tryd.func162.trans (congrArg some (by kernel_rfl))
 f317 := Tryd.func165.trans (congrArg some (by kernel_rfl))
 f318 := Tryd.func167.trans (congrArg some (by kernel_rfl))
 f319 := Tryd.func168.trans (congrArg some (by kernel_rfl))
 f320 := Tryd.func169.trans (congrArg some (by kernel_rfl))
 f337 := Tryd.func170.trans (congrArg some (by kernel_rfl))
 f338 := Tryd.func171.trans (congrArg some (by kernel_rfl))
 t0 := Tryd.underlying0
 a0 := Tryd.isAgg0
 z0 := Tryd.sizeOf0
 v0 := Tryd.zeroValue0
 t2 := Tryd.underlying2
 a2 := Tryd.isAgg2
 z2 := Tryd.sizeOf2
 v2 := Tryd.zeroValue2
 t3 := Tryd.underlying3
 a3 := Tryd.isAgg3
 z3 := Tryd.sizeOf3
 v3 := Tryd.zeroValue3
 t4 := Tryd.underlying4
 a4 := Tryd.isAgg4
 z4 := Tryd.sizeOf4
 v4 := Tryd.zeroValue4
 t5 := Tryd.underlying5
 a5 := Tryd.isAgg5
 z5 := Tryd.sizeOf5
 v5 := Tryd.zeroValue5
 t9 := Tryd.underlying9
 a9 := Tryd.isAgg9
 z9 := Tryd.sizeOf9
 v9 := Tryd.zeroValue9
 t20 := Tryd.underlying20
 a20 := Tryd.isAgg20
 z20 := Tryd.sizeOf20
 v20 := Tryd.zeroValue20
 t37 := Tryd.underlying145
 a37 := Tryd.isAgg145
 z37 := Tryd.sizeOf145
 v37 := Tryd.zeroValue145
 t46 := Tryd.underlying158
 a46 := Tryd.isAgg158
 z46 := Tryd.sizeOf158
 v46 := Tryd.zeroValue158
 t51 := Tryd.underlying203
 a51 := Tryd.isAgg203
 z51 := Tryd.sizeOf203
 v51 := Tryd.zeroValue203
 t53 := Tryd.underlying194
 a53 := Tryd.isAgg194
 z53 := Tryd.sizeOf194
 v53 := Tryd.zeroValue194
 t171 := Tryd.underlying193
 a171 := Tryd.isAgg193
 z171 := Tryd.sizeOf193
 v171 := Tryd.zeroValue193
 t173 := Tryd.underlying197
 a173 := Tryd.isAgg197
 z173 := Tryd.sizeOf197
 v173 := Tryd.zeroValue197
 t212 := Tryd.underlying207
 a212 := Tryd.isAgg207
 z212 := Tryd.sizeOf207
 v212 := Tryd.zeroValue207
 t213 := Tryd.underlying208
 a213 := Tryd.isAgg208
 z213 := Tryd.sizeOf208
 t232 := Tryd.underlying212
 a232 := Tryd.isAgg212
 z232 := Tryd.sizeOf212
 v232 := Tryd.zeroValue212
 t233 := Tryd.underlying213
 a233 := Tryd.isAgg213
 z233 := Tryd.sizeOf213
 v233 := Tryd.zeroValue213
 g17 := by kernel_rfl
 g18 := by kernel_rfl
 g19 := by kernel_rfl }
open Go.RowKit Go.Sort Go.Lib in
theorem Tryd.internal_strconv_FormatInt_10_small (i : Nat) (hi : i < 100) (w : World) :
  Calls Tryd.prog 150 #[.int .i64 i, .int .i64 10] w fun e w' => e = .returned (.string ⟨(Lib.decDigits i).toArray⟩) ∧ w' = w := Any.internal_strconv_FormatInt_10_small Tryd.lays246 i hi w
end Go.Proofs
