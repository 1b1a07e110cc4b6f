import Derived.Test.YtbphjcgkidlabaaDoorVmShelf2
import Derived.Test.YtbphjcgkidlabaaDoorVmValid
set_option linter.unusedVariables false
set_option maxRecDepth 4000
set_option maxHeartbeats 4000000
namespace Go.Proofs.YtbphjcgkidlabaaDoor
open Go.RowKit Go.Proofs
theorem bat_alloc {B b : Nat} {p : Value} {bs : List Value} {w : World} (h : Lib.BuilderAt 74 5 B b p bs w) (o : Obj) : Lib.BuilderAt 74 5 B b p bs (w.alloc o) := by
 obtain ⟨hB, v, hb, hown, hne⟩ := h
 exact ⟨hB, v, by rw [Lib.alloc_old w o b (lt_of_heap hb)]; exact hb, hown.alloc _, hne⟩
abbrev IsB (B b : Nat) (l : List UInt8) (w : World) : Prop := Lib.IsBuilder 74 5 B b (Lib.byteCells l) w
theorem isB_alloc {B b : Nat} {l : List UInt8} {w : World} (h : IsB B b l w) (o : Obj) : IsB B b l (w.alloc o) := h.imp (fun h => bat_alloc h o) (fun h => bat_alloc h o)
theorem isB_lt {B b : Nat} {l : List UInt8} {w : World} (h : IsB B b l w) : b < w.heap.size := by
 rcases h with h | h <;> exact h.lt
theorem ge_alloc {B : Nat} {w : World} (h : B ≤ w.heap.size) (o : Obj) : B ≤ (w.alloc o).heap.size := by simp; omega
theorem box_cell {b : Nat} {w w1 : World} {cs : Array Value} (h : KeepT b (w.alloc (.cells cs 31)) w1) (hb : b < w.heap.size) (j : Nat) {v : Value} (hj : cs[j]? = some v) : w1.cell? ⟨w.heap.size, j, none⟩ = some v := by
 have e := h w.heap.size cs 31 (0, 0) (heap_alloc_new w _) (by decide) (by omega)
 rw [World.cell?_of_block (a := ⟨w.heap.size, j, none⟩) e, Lib.cell_of_heap (heap_alloc_new w _)]
 exact hj
structure Wr (B b : Nat) (l t : List UInt8) (w w' : World) : Prop where
 isb : IsB B b (l ++ t) w'
 bel : Below B w w'
 keep : KeepT b w w'
theorem Wr.trans {B b : Nat} {l t u : List UInt8} {w w1 w2 : World} (h : Wr B b l t w w1) (k : Wr B b (l ++ t) u w1 w2) : Wr B b l (t ++ u) w w2 :=
 ⟨by rw [← List.append_assoc]; exact k.isb, h.bel.trans k.bel, h.keep.trans k.keep⟩
theorem Wr.alloc {B b : Nat} {l t : List UInt8} {w w1 : World} {o : Obj} (h : Wr B b l t (w.alloc o) w1) (hBw : B ≤ w.heap.size) : Wr B b l t w w1 :=
 ⟨h.isb, ((Below.refl B w).alloc hBw _).trans h.bel, ((KeepT.refl b w).alloc _).trans h.keep⟩
theorem ws (B b : Nat) (l : List UInt8) (s : ByteArray) (w : World) (h : IsB B b l w) (hlen : l.length + s.data.toList.length ≤ 140737488355328) (hBw : B ≤ w.heap.size) :
  Calls Tryd.prog 58 #[.pointer (some ⟨b, 0, none⟩), .string s] w fun e w' => e = .returned (.tuple #[.int .i64 s.size, .nilIface]) ∧ Wr B b l s.data.toList w w' := by
 refine (writeString B b _ s w h (by simpa [Lib.byteCells_length] using hlen) hBw).mono ?_
 rintro e w' ⟨rfl, h1, h2, h3⟩
 refine ⟨rfl, ?_, h2, h3⟩
 have : Lib.byteCells l ++ Lib.strCells s = Lib.byteCells (l ++ s.data.toList) := by simp [Lib.byteCells, Lib.strCells]
 rw [IsB, ← this]; exact h1
abbrev WrC (B b : Nat) (v : Value) (l t : List UInt8) (w : World) : Prop :=
 Calls Tryd.prog 41 #[.pointer (some ⟨b, 0, none⟩), v] w fun e w' => e = .returned (.tuple #[]) ∧ Wr B b l t w w'
set_option maxRecDepth 100000 in
theorem formatInt_small (i : Nat) (hi : i < 100) (w : World) :
  Calls Tryd.prog 66 #[.int .i64 i, .int .i64 10] w fun e w' => e = .returned (.string ⟨(Lib.decDigits i).toArray⟩) ∧ w' = w := by
 go_enter Tryd.func66, Tryd.ntmps66
 go_wp2_with (go_at_call 68; refine (Tryd.internal_strconv_FormatInt_10_small i hi _).mono ?_)
 rintro e w1 ⟨he, hw⟩; subst he hw
 go_wp2
 go_ret
 exact ⟨rfl, rfl⟩
set_option maxRecDepth 100000 in
theorem decimal_small (i : Nat) (hi : i < 100) (w : World) :
  Calls Tryd.prog 59 #[.int .i64 i] w fun e w' => e = .returned (.string ⟨(Lib.decDigits i).toArray⟩) ∧ w' = w := by
 go_enter Tryd.func59, Tryd.ntmps59
 go_wp2_with (go_at_call 66; refine (formatInt_small i hi _).mono ?_)
 rintro e w1 ⟨he, hw⟩; subst he hw
 go_wp2
 go_ret
 exact ⟨rfl, rfl⟩
set_option maxRecDepth 100000 in
theorem we1 (B b : Nat) (l : List UInt8) (n : Int) (sl : Value) (w : World) (h : IsB B b l w) (hlen : l.length + 1 ≤ 140737488355328) (hBw : B ≤ w.heap.size) :
  WrC B b (.agg #[.int .i64 1, .int .i64 n, sl]) l [48] w := by
 go_enter Tryd.func41, Tryd.ntmps41
 go_wp2_with (go_at_call 58; refine (ws B b l _ _ (isB_alloc h _) (by exact hlen) (ge_alloc hBw _)).mono ?_)
 intro e w1 he h1; subst he
 go_wp2
 go_end0
 exact ⟨rfl, h1.alloc hBw⟩
set_option maxRecDepth 100000 in
theorem we2 (B b : Nat) (l : List UInt8) (n : Int) (sl : Value) (w : World) (h : IsB B b l w) (hlen : l.length + 1 ≤ 140737488355328) (hBw : B ≤ w.heap.size) :
  WrC B b (.agg #[.int .i64 2, .int .i64 n, sl]) l [49] w := by
 go_enter Tryd.func41, Tryd.ntmps41
 go_wp2_with (go_at_call 58; refine (ws B b l _ _ (isB_alloc h _) (by exact hlen) (ge_alloc hBw _)).mono ?_)
 intro e w1 he h1; subst he
 go_wp2
 go_end0
 exact ⟨rfl, h1.alloc hBw⟩
set_option maxRecDepth 100000 in
theorem we3 (B b : Nat) (l : List UInt8) (i : Nat) (hi : i < 100) (sl : Value) (w : World) (h : IsB B b l w) (hlen : l.length + ((Lib.decDigits i).length + 1) ≤ 140737488355328) (hBw : B ≤ w.heap.size) :
  WrC B b (.agg #[.int .i64 3, .int .i64 i, sl]) l (116 :: Lib.decDigits i) w := by
 go_enter Tryd.func41, Tryd.ntmps41
 go_wp2_with (go_at_call 59; refine (decimal_small i hi _).mono ?_)
 rintro e w1 ⟨he, hw⟩; subst he hw
 go_wp2_with (go_at_call 58; refine (ws B b l _ _ (isB_alloc h _) (by simp; omega) (ge_alloc hBw _)).mono ?_)
 rintro e w1 ⟨he, h1⟩; subst he
 go_wp2
 go_end0
 exact ⟨rfl, by simpa using h1.alloc hBw⟩
set_option maxRecDepth 100000 in
theorem we4 (B b : Nat) (l : List UInt8) (i : Nat) (hi : i < 100) (sl : Value) (w : World) (h : IsB B b l w) (hlen : l.length + ((Lib.decDigits i).length + 1) ≤ 140737488355328) (hBw : B ≤ w.heap.size) :
  WrC B b (.agg #[.int .i64 4, .int .i64 i, sl]) l (97 :: Lib.decDigits i) w := by
 go_enter Tryd.func41, Tryd.ntmps41
 go_wp2_with (go_at_call 59; refine (decimal_small i hi _).mono ?_)
 rintro e w1 ⟨he, hw⟩; subst he hw
 go_wp2_with (go_at_call 58; refine (ws B b l _ _ (isB_alloc h _) (by simp; omega) (ge_alloc hBw _)).mono ?_)
 rintro e w1 ⟨he, h1⟩; subst he
 go_wp2
 go_end0
 exact ⟨rfl, by simpa using h1.alloc hBw⟩
set_option maxRecDepth 100000 in
theorem we5 (B b : Nat) (l t : List UInt8) (n : Int) (kb ko cap : Nat) (c0 c1 c2 : Value) (w : World) (h : IsB B b l w) (hlen : l.length + (t.length + 1) ≤ 140737488355328) (hBw : B ≤ w.heap.size)
  (hk0 : ∀ w1, Below B w w1 → ∀ j v, [c0, c1, c2][j]? = some v → w1.cell? ⟨kb, ko + 0 + j, none⟩ = some v)
  (ih0 : ∀ w1 l1, Below B w w1 → IsB B b l1 w1 → B ≤ w1.heap.size → l1.length + t.length ≤ 140737488355328 → WrC B b (.agg #[c0, c1, c2]) l1 t w1)
  : WrC B b (.agg #[.int .i64 5, .int .i64 n, .slice (some ⟨kb, ko, none⟩) 1 cap]) l (126 :: t) w := by
 go_enter Tryd.func41, Tryd.ntmps41
 go_wp2_with (go_at_call 58; refine (ws B b l _ _ (isB_alloc h _) (by simp; omega) (ge_alloc hBw _)).mono ?_)
 intro e w1 he h1; subst he
 have c2' := box_cell h1.keep (isB_lt h) 2 rfl
 have q00 : w1.cell? ⟨kb, ko, none⟩ = some c0 := by simpa [Nat.add_assoc] using hk0 w1 (h1.alloc hBw).bel 0 _ rfl
 have q01 : w1.cell? ⟨kb, ko + 1, none⟩ = some c1 := by simpa [Nat.add_assoc] using hk0 w1 (h1.alloc hBw).bel 1 _ rfl
 have q02 : w1.cell? ⟨kb, ko + 2, none⟩ = some c2 := by simpa [Nat.add_assoc] using hk0 w1 (h1.alloc hBw).bel 2 _ rfl
 go_wp2_with (go_at_call 41; refine (ih0 w1 _ (h1.alloc hBw).bel h1.isb (by have := (h1.alloc hBw).bel.size; omega) (by simp; omega)).mono ?_)
 rintro e w2 ⟨he, h2⟩; subst he
 go_wp2
 go_end0
 exact ⟨rfl, ((h1.alloc hBw).trans h2)⟩
set_option maxRecDepth 100000 in
theorem we8 (B b : Nat) (l t : List UInt8) (n : Int) (kb ko cap : Nat) (c0 c1 c2 : Value) (w : World) (h : IsB B b l w) (hlen : l.length + (t.length + 1) ≤ 140737488355328) (hBw : B ≤ w.heap.size)
  (hk0 : ∀ w1, Below B w w1 → ∀ j v, [c0, c1, c2][j]? = some v → w1.cell? ⟨kb, ko + 0 + j, none⟩ = some v)
  (ih0 : ∀ w1 l1, Below B w w1 → IsB B b l1 w1 → B ≤ w1.heap.size → l1.length + t.length ≤ 140737488355328 → WrC B b (.agg #[c0, c1, c2]) l1 t w1)
  : WrC B b (.agg #[.int .i64 8, .int .i64 n, .slice (some ⟨kb, ko, none⟩) 1 cap]) l (t ++ [42]) w := by
 have hb0 : Below B w (w.alloc (.cells #[.int .i64 8, .int .i64 n, .slice (some ⟨kb, ko, none⟩) 1 cap] 31)) := (Below.refl B w).alloc hBw _
 have q00 : (w.alloc (.cells #[.int .i64 8, .int .i64 n, .slice (some ⟨kb, ko, none⟩) 1 cap] 31)).cell? ⟨kb, ko, none⟩ = some c0 := by simpa [Nat.add_assoc] using hk0 (w.alloc (.cells #[.int .i64 8, .int .i64 n, .slice (some ⟨kb, ko, none⟩) 1 cap] 31)) hb0 0 _ rfl
 have q01 : (w.alloc (.cells #[.int .i64 8, .int .i64 n, .slice (some ⟨kb, ko, none⟩) 1 cap] 31)).cell? ⟨kb, ko + 1, none⟩ = some c1 := by simpa [Nat.add_assoc] using hk0 (w.alloc (.cells #[.int .i64 8, .int .i64 n, .slice (some ⟨kb, ko, none⟩) 1 cap] 31)) hb0 1 _ rfl
 have q02 : (w.alloc (.cells #[.int .i64 8, .int .i64 n, .slice (some ⟨kb, ko, none⟩) 1 cap] 31)).cell? ⟨kb, ko + 2, none⟩ = some c2 := by simpa [Nat.add_assoc] using hk0 (w.alloc (.cells #[.int .i64 8, .int .i64 n, .slice (some ⟨kb, ko, none⟩) 1 cap] 31)) hb0 2 _ rfl
 go_enter Tryd.func41, Tryd.ntmps41
 go_wp2_with (go_at_call 41; refine (ih0 _ _ hb0 (isB_alloc h _) (ge_alloc hBw _) (by omega)).mono ?_)
 rintro e w1 ⟨he, h1⟩; subst he
 go_wp2_with (go_at_call 58; refine (ws B b _ _ _ h1.isb (by simp; omega) (by have := (h1.alloc hBw).bel.size; omega)).mono ?_)
 intro e w2 he h2; subst he
 go_wp2
 go_end0
 exact ⟨rfl, ((h1.alloc hBw).trans h2)⟩
set_option maxRecDepth 100000 in
theorem we6 (B b : Nat) (l t u : List UInt8) (n : Int) (kb ko cap : Nat) (c0 c1 c2 d0 d1 d2 : Value) (w : World) (h : IsB B b l w) (hlen : l.length + (t.length + u.length + 5) ≤ 140737488355328) (hBw : B ≤ w.heap.size)
  (hk0 : ∀ w1, Below B w w1 → ∀ j v, [c0, c1, c2][j]? = some v → w1.cell? ⟨kb, ko + 0 + j, none⟩ = some v)
  (ih0 : ∀ w1 l1, Below B w w1 → IsB B b l1 w1 → B ≤ w1.heap.size → l1.length + t.length ≤ 140737488355328 → WrC B b (.agg #[c0, c1, c2]) l1 t w1)
  (hk1 : ∀ w1, Below B w w1 → ∀ j v, [d0, d1, d2][j]? = some v → w1.cell? ⟨kb, ko + 3 + j, none⟩ = some v)
  (ih1 : ∀ w1 l1, Below B w w1 → IsB B b l1 w1 → B ≤ w1.heap.size → l1.length + u.length ≤ 140737488355328 → WrC B b (.agg #[d0, d1, d2]) l1 u w1)
  : WrC B b (.agg #[.int .i64 6, .int .i64 n, .slice (some ⟨kb, ko, none⟩) 2 cap]) l ([40] ++ (t ++ ([32, 43, 32] ++ (u ++ [41])))) w := by
 go_enter Tryd.func41, Tryd.ntmps41
 go_wp2_with (go_at_call 58; refine (ws B b l _ _ (isB_alloc h _) (by simp; omega) (ge_alloc hBw _)).mono ?_)
 intro e w1 he h1; subst he
 have e1 := box_cell h1.keep (isB_lt h) 2 rfl
 have q00 : w1.cell? ⟨kb, ko, none⟩ = some c0 := by simpa [Nat.add_assoc] using hk0 w1 (h1.alloc hBw).bel 0 _ rfl
 have q01 : w1.cell? ⟨kb, ko + 1, none⟩ = some c1 := by simpa [Nat.add_assoc] using hk0 w1 (h1.alloc hBw).bel 1 _ rfl
 have q02 : w1.cell? ⟨kb, ko + 2, none⟩ = some c2 := by simpa [Nat.add_assoc] using hk0 w1 (h1.alloc hBw).bel 2 _ rfl
 have g1 := h1.alloc hBw
 have s1 : B ≤ w1.heap.size := by have := g1.bel.size; omega
 go_wp2_with (go_at_call 41; refine (ih0 w1 _ g1.bel h1.isb s1 (by simp; omega)).mono ?_)
 rintro e w2 ⟨he, h2⟩; subst he
 have s2 : B ≤ w2.heap.size := by have := h2.bel.size; omega
 go_wp2_with (go_at_call 58; refine (ws B b _ _ _ h2.isb (by simp; omega) s2).mono ?_)
 intro e w3 he h3; subst he
 have e3 := box_cell (h1.keep.trans (h2.keep.trans h3.keep)) (isB_lt h) 2 rfl
 have g3 := g1.bel.trans (h2.bel.trans h3.bel)
 have q10 : w3.cell? ⟨kb, ko + 3, none⟩ = some d0 := by simpa [Nat.add_assoc] using hk1 w3 g3 0 _ rfl
 have q11 : w3.cell? ⟨kb, ko + 4, none⟩ = some d1 := by simpa [Nat.add_assoc] using hk1 w3 g3 1 _ rfl
 have q12 : w3.cell? ⟨kb, ko + 5, none⟩ = some d2 := by simpa [Nat.add_assoc] using hk1 w3 g3 2 _ rfl
 have s3 : B ≤ w3.heap.size := by have := h3.bel.size; omega
 go_wp2_with (go_at_call 41; refine (ih1 w3 _ g3 h3.isb s3 (by simp; omega)).mono ?_)
 rintro e w4 ⟨he, h4⟩; subst he
 have s4 : B ≤ w4.heap.size := by have := h4.bel.size; omega
 go_wp2_with (go_at_call 58; refine (ws B b _ _ _ h4.isb (by simp; omega) s4).mono ?_)
 intro e w5 he h5; subst he
 go_wp2
 go_end0
 have j2 : Wr B b (l ++ [40]) t w1 w2 := by simpa using h2
 have j3 : Wr B b (l ++ [40] ++ t) [32, 43, 32] w2 w3 := by simpa using h3
 have j4 : Wr B b (l ++ [40] ++ t ++ [32, 43, 32]) u w3 w4 := by simpa using h4
 have j5 : Wr B b (l ++ [40] ++ t ++ [32, 43, 32] ++ u) [41] w4 w5 := by simpa using h5
 exact ⟨rfl, g1.trans (j2.trans (j3.trans (j4.trans j5)))⟩
set_option maxRecDepth 100000 in
theorem we7 (B b : Nat) (l t u : List UInt8) (n : Int) (kb ko cap : Nat) (c0 c1 c2 d0 d1 d2 : Value) (w : World) (h : IsB B b l w) (hlen : l.length + (t.length + u.length + 3) ≤ 140737488355328) (hBw : B ≤ w.heap.size)
  (hk0 : ∀ w1, Below B w w1 → ∀ j v, [c0, c1, c2][j]? = some v → w1.cell? ⟨kb, ko + 0 + j, none⟩ = some v)
  (ih0 : ∀ w1 l1, Below B w w1 → IsB B b l1 w1 → B ≤ w1.heap.size → l1.length + t.length ≤ 140737488355328 → WrC B b (.agg #[c0, c1, c2]) l1 t w1)
  (hk1 : ∀ w1, Below B w w1 → ∀ j v, [d0, d1, d2][j]? = some v → w1.cell? ⟨kb, ko + 3 + j, none⟩ = some v)
  (ih1 : ∀ w1 l1, Below B w w1 → IsB B b l1 w1 → B ≤ w1.heap.size → l1.length + u.length ≤ 140737488355328 → WrC B b (.agg #[d0, d1, d2]) l1 u w1)
  : WrC B b (.agg #[.int .i64 7, .int .i64 n, .slice (some ⟨kb, ko, none⟩) 2 cap]) l ([40] ++ (t ++ ([32] ++ (u ++ [41])))) w := by
 go_enter Tryd.func41, Tryd.ntmps41
 go_wp2_with (go_at_call 58; refine (ws B b l _ _ (isB_alloc h _) (by simp; omega) (ge_alloc hBw _)).mono ?_)
 intro e w1 he h1; subst he
 have e1 := box_cell h1.keep (isB_lt h) 2 rfl
 have q00 : w1.cell? ⟨kb, ko, none⟩ = some c0 := by simpa [Nat.add_assoc] using hk0 w1 (h1.alloc hBw).bel 0 _ rfl
 have q01 : w1.cell? ⟨kb, ko + 1, none⟩ = some c1 := by simpa [Nat.add_assoc] using hk0 w1 (h1.alloc hBw).bel 1 _ rfl
 have q02 : w1.cell? ⟨kb, ko + 2, none⟩ = some c2 := by simpa [Nat.add_assoc] using hk0 w1 (h1.alloc hBw).bel 2 _ rfl
 have g1 := h1.alloc hBw
 have s1 : B ≤ w1.heap.size := by have := g1.bel.size; omega
 go_wp2_with (go_at_call 41; refine (ih0 w1 _ g1.bel h1.isb s1 (by simp; omega)).mono ?_)
 rintro e w2 ⟨he, h2⟩; subst he
 have s2 : B ≤ w2.heap.size := by have := h2.bel.size; omega
 go_wp2_with (go_at_call 58; refine (ws B b _ _ _ h2.isb (by simp; omega) s2).mono ?_)
 intro e w3 he h3; subst he
 have e3 := box_cell (h1.keep.trans (h2.keep.trans h3.keep)) (isB_lt h) 2 rfl
 have g3 := g1.bel.trans (h2.bel.trans h3.bel)
 have q10 : w3.cell? ⟨kb, ko + 3, none⟩ = some d0 := by simpa [Nat.add_assoc] using hk1 w3 g3 0 _ rfl
 have q11 : w3.cell? ⟨kb, ko + 4, none⟩ = some d1 := by simpa [Nat.add_assoc] using hk1 w3 g3 1 _ rfl
 have q12 : w3.cell? ⟨kb, ko + 5, none⟩ = some d2 := by simpa [Nat.add_assoc] using hk1 w3 g3 2 _ rfl
 have s3 : B ≤ w3.heap.size := by have := h3.bel.size; omega
 go_wp2_with (go_at_call 41; refine (ih1 w3 _ g3 h3.isb s3 (by simp; omega)).mono ?_)
 rintro e w4 ⟨he, h4⟩; subst he
 have s4 : B ≤ w4.heap.size := by have := h4.bel.size; omega
 go_wp2_with (go_at_call 58; refine (ws B b _ _ _ h4.isb (by simp; omega) s4).mono ?_)
 intro e w5 he h5; subst he
 go_wp2
 go_end0
 have j2 : Wr B b (l ++ [40]) t w1 w2 := by simpa using h2
 have j3 : Wr B b (l ++ [40] ++ t) [32] w2 w3 := by simpa using h3
 have j4 : Wr B b (l ++ [40] ++ t ++ [32]) u w3 w4 := by simpa using h4
 have j5 : Wr B b (l ++ [40] ++ t ++ [32] ++ u) [41] w4 w5 := by simpa using h5
 exact ⟨rfl, g1.trans (j2.trans (j3.trans (j4.trans j5)))⟩
end Go.Proofs.YtbphjcgkidlabaaDoor
