/- Marks in tables of booleans. Printed by vmk.py. -/
import Derived.Test.YtkogipcdjalehaaDoorVmUse
import Derived.Test.YtkogipcdjalehaaDoorVmLib
import Derived.Test.YtkogipcdjalehaaDoorVmOwnFam2
set_option linter.unusedVariables false
set_option linter.unusedSimpArgs false
set_option linter.unusedSectionVars false
set_option maxRecDepth 4000
set_option maxHeartbeats 4000000
namespace Go.Proofs.YtkogipcdjalehaaDoor
noncomputable section
theorem mkL_take {α : Type} (cnt : α → Nat) (mk : Int → α → α) (z : α) : ∀ (k : Int) (xs : List α) (i : Nat), i < xs.length → mkL cnt mk k (xs.take (i + 1)) = mkL cnt mk k (xs.take i) ++ [mk (k + (szL cnt (xs.take i) : Int)) (xs.getD i z)]
 | k, [], i, h => by simp at h
 | k, x :: xs, 0, h => by simp [mkL, szL]
 | k, x :: xs, i + 1, h => by
  have := mkL_take cnt mk z (k + (cnt x : Int)) xs i (by simpa using h)
  simp only [List.take_succ_cons, mkL, this, List.getD_cons_succ, szL, List.cons_append]
  congr 4
  omega
theorem mkL_mk {α : Type} (cnt : α → Nat) (mk : Int → α → α) (h1 : ∀ k x, mk k (mk k x) = mk k x) (h2 : ∀ k x, cnt (mk k x) = cnt x) : ∀ (k : Int) (xs : List α), mkL cnt mk k (mkL cnt mk k xs) = mkL cnt mk k xs ∧ szL cnt (mkL cnt mk k xs) = szL cnt xs
 | _, [] => ⟨rfl, rfl⟩
 | k, x :: xs => by
  obtain ⟨i1, i2⟩ := mkL_mk cnt mk h1 h2 (k + (cnt x : Int)) xs
  simp only [mkL, szL, h1, h2, i1, i2, and_self]
def okL {α : Type} [DecidableEq α] (cnt : α → Nat) (mk : Int → α → α) (k : Int) (xs : List α) : Bool := decide (mkL cnt mk k xs = xs)
def heldL {α : Type} [DecidableEq α] (cnt : α → Nat) (mk : Int → α → α) (k : Int) (xs : List α) : Int := bif okL cnt mk k xs then k + (szL cnt xs : Int) else -1
theorem heldL_eq {α : Type} [DecidableEq α] (cnt : α → Nat) (mk : Int → α → α) (k : Int) (xs : List α) : (okL cnt mk k xs = true ∧ heldL cnt mk k xs = k + (szL cnt xs : Int)) ∨ (okL cnt mk k xs = false ∧ heldL cnt mk k xs = -1) := by
 unfold heldL
 cases okL cnt mk k xs <;> simp
theorem heldL_mk {α : Type} [DecidableEq α] (cnt : α → Nat) (mk : Int → α → α) (h1 : ∀ k x, mk k (mk k x) = mk k x) (h2 : ∀ k x, cnt (mk k x) = cnt x) (k : Int) (xs : List α) : okL cnt mk k (mkL cnt mk k xs) = true ∧ heldL cnt mk k (mkL cnt mk k xs) = k + (szL cnt xs : Int) := by
 obtain ⟨e1, e2⟩ := mkL_mk cnt mk h1 h2 k xs
 have : okL cnt mk k (mkL cnt mk k xs) = true := decide_eq_true e1
 refine ⟨this, ?_⟩
 unfold heldL
 rw [this, e2]; rfl
theorem okL_take {α : Type} [DecidableEq α] (cnt : α → Nat) (mk : Int → α → α) (z : α) (k : Int) (xs : List α) (i : Nat) (h : i < xs.length) : okL cnt mk k (xs.take (i + 1)) = (okL cnt mk k (xs.take i) && decide (mk (k + (szL cnt (xs.take i) : Int)) (xs.getD i z) = xs.getD i z)) := by
 rw [Bool.eq_iff_iff, Bool.and_eq_true]
 simp only [okL, decide_eq_true_eq]
 rw [mkL_take cnt mk z k xs i h, take_snoc z xs i h]
 constructor
 ·intro e
  have := List.append_inj e (by rw [mkL_length])
  exact ⟨this.1, by simpa using this.2⟩
 ·rintro ⟨e1, e2⟩; rw [e1, e2]
theorem okL_bad {α : Type} [DecidableEq α] (cnt : α → Nat) (mk : Int → α → α) (z : α) (k : Int) (xs : List α) (i : Nat) (h : i < xs.length) (e : ¬ mk (k + (szL cnt (xs.take i) : Int)) (xs.getD i z) = xs.getD i z) : okL cnt mk k xs = false := by
 refine decide_eq_false fun q => e ?_
 have h1 := mkL_getD cnt mk z k xs i h
 rw [q] at h1
 exact h1.symm
theorem okL_done {α : Type} [DecidableEq α] (cnt : α → Nat) (mk : Int → α → α) (k : Int) (xs : List α) (i : Nat) (h : xs.length ≤ i) : okL cnt mk k (xs.take i) = okL cnt mk k xs := by rw [List.take_of_length_le h]
def hfL {α : Type} (cnt : α → Nat) (mk : Int → α → α) (k : Int) (xs : List α) (i : Nat) : List α := half (mkL cnt mk k xs) xs i
theorem hfL_zero {α : Type} (cnt : α → Nat) (mk : Int → α → α) (k : Int) (xs : List α) : xs = hfL cnt mk k xs 0 := half_zero _ _
theorem hfL_all {α : Type} (cnt : α → Nat) (mk : Int → α → α) (k : Int) (xs : List α) (i : Nat) (h : xs.length ≤ i) : hfL cnt mk k xs i = mkL cnt mk k xs := half_all _ _ i (mkL_length cnt mk k xs) h
theorem hfL_len {α : Type} (cnt : α → Nat) (mk : Int → α → α) (k : Int) (xs : List α) (i : Nat) : (hfL cnt mk k xs i).length = xs.length := half_length _ _ i (mkL_length cnt mk k xs)
theorem hfL_get {α : Type} (cnt : α → Nat) (mk : Int → α → α) (k : Int) (xs : List α) (i : Nat) (z : α) (h : i < xs.length) : (hfL cnt mk k xs i).getD i z = xs.getD i z := half_getD _ _ z i (mkL_length cnt mk k xs) h
theorem hfL_step {α : Type} (cnt : α → Nat) (mk : Int → α → α) (k : Int) (xs : List α) (i : Nat) (z : α) (h : i < xs.length) : (hfL cnt mk k xs i).set i (mk (k + (szL cnt (xs.take i) : Int)) (xs.getD i z)) = hfL cnt mk k xs (i + 1) := mkL_step cnt mk k xs i z h _ rfl
def cB (_ : Bool) : Nat := 1
def mB (k : Int) (_ : Bool) : Bool := decide (Int.tmod k 3 = 0)
abbrev cn1 (xs : List Bool) : Nat := szL cB xs
abbrev mk1 (k : Int) (xs : List Bool) : List Bool := mkL cB mB k xs
abbrev cn2 (xs : List (List Bool)) : Nat := szL cn1 xs
abbrev mk2 (k : Int) (xs : List (List Bool)) : List (List Bool) := mkL cn1 mk1 k xs
structure smallL (xs : List (List (List Bool))) : Prop where
 len : xs.length ≤ 1048576
 at_ : ∀ i, (xs.getD i []).length ≤ 1048576
theorem mB_mB (k : Int) (x : Bool) : mB k (mB k x) = mB k x := rfl
theorem cB_mB (k : Int) (x : Bool) : cB (mB k x) = cB x := rfl
theorem mk1_mk (k : Int) (xs : List Bool) : mk1 k (mk1 k xs) = mk1 k xs := (mkL_mk cB mB mB_mB cB_mB k xs).1
theorem cn1_mk (k : Int) (xs : List Bool) : cn1 (mk1 k xs) = cn1 xs := (mkL_mk cB mB mB_mB cB_mB k xs).2
theorem mk2_mk (k : Int) (xs : List (List Bool)) : mk2 k (mk2 k xs) = mk2 k xs := (mkL_mk cn1 mk1 mk1_mk cn1_mk k xs).1
theorem cn2_mk (k : Int) (xs : List (List Bool)) : cn2 (mk2 k xs) = cn2 xs := (mkL_mk cn1 mk1 mk1_mk cn1_mk k xs).2
theorem mB_at (k : Int) (x : Bool) : mB k x = decide (Int.tmod k 3 = 0) := rfl
theorem cB_at (x : Bool) : cB x = 1 := rfl
theorem hel2 (k : Int) (xs : List Bool) : (mk1 k xs = xs → heldL cB mB k xs = k + (cn1 xs : Int)) ∧ (¬ mk1 k xs = xs → heldL cB mB k xs = -1) := by
 refine ⟨fun h => ?_, fun h => ?_⟩ <;> unfold heldL okL
 ·rw [decide_eq_true (show mkL cB mB k xs = xs from h)]; rfl
 ·rw [decide_eq_false (show ¬ mkL cB mB k xs = xs from h)]; rfl
theorem hel3 (k : Int) (xs : List (List Bool)) : (mk2 k xs = xs → heldL cn1 mk1 k xs = k + (cn2 xs : Int)) ∧ (¬ mk2 k xs = xs → heldL cn1 mk1 k xs = -1) := by
 refine ⟨fun h => ?_, fun h => ?_⟩ <;> unfold heldL okL
 ·rw [decide_eq_true (show mkL cn1 mk1 k xs = xs from h)]; rfl
 ·rw [decide_eq_false (show ¬ mkL cn1 mk1 k xs = xs from h)]; rfl
def mk_laws_markBoolS : MK := ⟨n_laws_markBoolS, ⟨(.slice .bool), fun (xs : List Bool) (k : Int) => (some (0 ≤ k ∧ k + (szL cB xs : Int) ≤ 4611686018427387904), mkL cB mB k xs, k + (szL cB xs : Int))⟩⟩
def lm_laws_markBoolS (xs : List Bool) (k : Int) : Nat → LoopInv := (fun zb => if Nat.beq zb 0 then .mk (Nat) (fun i => i ≤ xs.length) (fun i => xs.length - i) [] [2, 3] (fun i => [(5, .imm ⟨(.int .i64), ((i : Int) : Int)⟩), (1, .imm ⟨(.int .i64), ((k + (szL cB (xs.take i) : Int)) : Int)⟩), (0, .tree 50)]) [0, 1, 4, 5, 6, 7, 8, 9, 10, 11, 12, 13, 14, 15, 16, 17, 18, 19, 20] (fun i => [(50, .tree .bool (hfL cB mB k xs i : List Bool))]) [] [] (fun i => fun _ => .none) else .none)
theorem vcm_laws_markBoolS (xs : List Bool) (k : Int) : awp (envO [] [] [] [] []) (bodyOf f_laws_markBoolS) (lm_laws_markBoolS xs k) 0 (markPost f_laws_markBoolS mk_laws_markBoolS.m xs k) (markStart f_laws_markBoolS ⟨(.slice .bool), xs⟩ k) =
 (((∃ i1 : Nat, (i1 ≤ xs.length ∧ ((True ∧ (k = (k + (szL cB (xs.take i1) : Int)) ∧ ((0 : Int) = (0 : Int) ∧ ((0 : Int) = (i1 : Int) ∧ True)))) ∧ (xs = (hfL cB mB k xs i1) ∧ True)))) ∧ (∀ i1 : Nat, (i1 ≤ xs.length →
 (((decide ((i1 : Int) < (((hfL cB mB k xs i1).length : Int)))) = true →
 (((3 : Int) ≠ (0 : Int) ∧ inI64 ((k + (szL cB (xs.take i1) : Int)).tmod (3 : Int))) ∧ (idxOk (i1 : Int) (hfL cB mB k xs i1).length ∧ (inI64 ((k + (szL cB (xs.take i1) : Int)) + (1 : Int)) ∧ (inI64 ((i1 : Int) + (1 : Int)) ∧ (∃ i2 : Nat, (i2 ≤ xs.length ∧ (xs.length - i2 < xs.length - i1 ∧ ((True ∧ (((k + (szL cB (xs.take i1) : Int)) + (1 : Int)) = (k + (szL cB (xs.take i2) : Int)) ∧ ((0 : Int) = (0 : Int) ∧ (((i1 : Int) + (1 : Int)) = (i2 : Int) ∧ True)))) ∧ (((hfL cB mB k xs i1).set i1 (decide (((k + (szL cB (xs.take i1) : Int)).tmod (3 : Int)) = (0 : Int)))) = (hfL cB mB k xs i2) ∧ True)))))))))) ∧ ((decide ((i1 : Int) < (((hfL cB mB k xs i1).length : Int)))) = false →
 ((k + (szL cB (xs.take i1) : Int)) = (k + (szL cB xs : Int)) ∧ (hfL cB mB k xs i1) = (mkL cB mB k xs)))))))) := by kernel_rfl
theorem okm_laws_markBoolS (hE : AllGood []) (hO : AllO []) (hM : AllM []) (hS : AllS []) : MK.Good mk_laws_markBoolS := by
 refine ⟨fnOk_of at_laws_markBoolS rfl (by decide), mark_of_awp (own := []) (wr := []) (cl := []) (ro := []) hE hO hM hS at_laws_markBoolS body_laws_markBoolS (fun xs k => lm_laws_markBoolS xs k) (fun x => Nat.le_of_ble_eq_true rfl) (Nat.le_of_ble_eq_true (by kernel_rfl)) ?_⟩
 show ∀ (xs : List Bool) (k : Int), (0 ≤ k ∧ k + (szL cB xs : Int) ≤ 4611686018427387904) → inI64 k → awp (envO [] [] [] [] []) (bodyOf f_laws_markBoolS) (lm_laws_markBoolS xs k) 0 (markPost f_laws_markBoolS mk_laws_markBoolS.m xs k) (markStart f_laws_markBoolS ⟨(.slice .bool), xs⟩ k)
 intro xs k hp hk
 rewrite [vcm_laws_markBoolS xs k]
 have f0 := hfL_zero cB mB k xs
 have f1 := szL_zero cB xs
 have f3 := cnt_lenL cB (fun _ => Nat.le_refl 1) xs
 refine ⟨⟨0, ⟨?_, ⟨⟨trivial, ⟨?_, ⟨rfl, ⟨?_, trivial⟩⟩⟩⟩, ⟨?_, trivial⟩⟩⟩⟩, fun i1 a0 => have b0x0 := hfL_all cB mB k xs i1; have b0x1 := hfL_len cB mB k xs i1; have b0x2 := hfL_get cB mB k xs i1 false; have b0x3 := hfL_step cB mB k xs i1 false; have b0x4 := szL_take cB false xs i1; have b0x5 := szL_take_le cB xs i1; have b0x6 := szL_take_le cB xs (i1 + 1); have b0x7 := szL_all cB xs i1; ⟨fun a1 => ⟨⟨?_, ?_⟩, ⟨?_, ⟨?_, ⟨?_, ⟨i1 + 1, ⟨?_, ⟨?_, ⟨⟨trivial, ⟨?_, ⟨rfl, ⟨?_, trivial⟩⟩⟩⟩, ⟨?_, trivial⟩⟩⟩⟩⟩⟩⟩⟩⟩, fun a1 => ⟨?_, ?_⟩⟩⟩
 all_goals try and_intros
 all_goals first | rfl | trivial | omega | (simp only [decide_eq_true_eq, decide_eq_false_iff_not, idxOk, inI64, mB_at, cB_at, Bool.not_eq_true', Bool.not_eq_false'] at *; first | omega | grind) | grind
theorem mgood_laws_markBoolS : MK.Good mk_laws_markBoolS := okm_laws_markBoolS trivial trivial trivial trivial
def mk_laws_markBoolSS : MK := ⟨n_laws_markBoolSS, ⟨(.slice (.slice .bool)), fun (xs : List (List Bool)) (k : Int) => (some (0 ≤ k ∧ k + (szL cn1 xs : Int) ≤ 4611686018427387904 ∧ xs.length ≤ 1048576), mkL cn1 mk1 k xs, k + (szL cn1 xs : Int))⟩⟩
def lm_laws_markBoolSS (xs : List (List Bool)) (k : Int) : Nat → LoopInv := (fun zb => if Nat.beq zb 0 then .mk (Nat) (fun i => i ≤ xs.length) (fun i => xs.length - i) [] [2, 3] (fun i => [(5, .imm ⟨(.int .i64), ((i : Int) : Int)⟩), (1, .imm ⟨(.int .i64), ((k + (szL cn1 (xs.take i) : Int)) : Int)⟩), (0, .tree 50)]) [0, 1, 4, 5, 6, 7, 8, 9, 10, 11, 12, 13, 14, 15, 16, 17, 18] (fun i => [(50, .tree (.slice .bool) (hfL cn1 mk1 k xs i : List (List Bool)))]) [] [] (fun i => fun _ => .none) else .none)
theorem vcm_laws_markBoolSS (xs : List (List Bool)) (k : Int) : awp (envO [] [] [mk_laws_markBoolS] [17] []) (bodyOf f_laws_markBoolSS) (lm_laws_markBoolSS xs k) 0 (markPost f_laws_markBoolSS mk_laws_markBoolSS.m xs k) (markStart f_laws_markBoolSS ⟨(.slice (.slice .bool)), xs⟩ k) =
 (((∃ i1 : Nat, (i1 ≤ xs.length ∧ ((True ∧ (k = (k + (szL cn1 (xs.take i1) : Int)) ∧ ((0 : Int) = (0 : Int) ∧ ((0 : Int) = (i1 : Int) ∧ True)))) ∧ (xs = (hfL cn1 mk1 k xs i1) ∧ True)))) ∧ (∀ i1 : Nat, (i1 ≤ xs.length →
 (((decide ((i1 : Int) < (((hfL cn1 mk1 k xs i1).length : Int)))) = true →
 (idxOk (i1 : Int) (hfL cn1 mk1 k xs i1).length ∧ ((0 ≤ (k + (szL cn1 (xs.take i1) : Int)) ∧ (k + (szL cn1 (xs.take i1) : Int)) + (szL cB ((hfL cn1 mk1 k xs i1).getD i1 []) : Int) ≤ 4611686018427387904) ∧ (inI64 ((i1 : Int) + (1 : Int)) ∧ (∃ i2 : Nat, (i2 ≤ xs.length ∧ (xs.length - i2 < xs.length - i1 ∧ ((True ∧ (((k + (szL cn1 (xs.take i1) : Int)) + (szL cB ((hfL cn1 mk1 k xs i1).getD i1 []) : Int)) = (k + (szL cn1 (xs.take i2) : Int)) ∧ ((0 : Int) = (0 : Int) ∧ (((i1 : Int) + (1 : Int)) = (i2 : Int) ∧ True)))) ∧ (((hfL cn1 mk1 k xs i1).set i1 (mkL cB mB (k + (szL cn1 (xs.take i1) : Int)) ((hfL cn1 mk1 k xs i1).getD i1 []))) = (hfL cn1 mk1 k xs i2) ∧ True))))))))) ∧ ((decide ((i1 : Int) < (((hfL cn1 mk1 k xs i1).length : Int)))) = false →
 ((k + (szL cn1 (xs.take i1) : Int)) = (k + (szL cn1 xs : Int)) ∧ (hfL cn1 mk1 k xs i1) = (mkL cn1 mk1 k xs)))))))) := by kernel_rfl
theorem okm_laws_markBoolSS (hE : AllGood []) (hO : AllO []) (hM : AllM [mk_laws_markBoolS]) (hS : AllS []) : MK.Good mk_laws_markBoolSS := by
 refine ⟨fnOk_of at_laws_markBoolSS rfl (by decide), mark_of_awp (own := [17]) (wr := []) (cl := []) (ro := []) hE hO hM hS at_laws_markBoolSS body_laws_markBoolSS (fun xs k => lm_laws_markBoolSS xs k) (fun x => Nat.le_of_ble_eq_true rfl) (Nat.le_of_ble_eq_true (by kernel_rfl)) ?_⟩
 show ∀ (xs : List (List Bool)) (k : Int), (0 ≤ k ∧ k + (szL cn1 xs : Int) ≤ 4611686018427387904 ∧ xs.length ≤ 1048576) → inI64 k → awp (envO [] [] [mk_laws_markBoolS] [17] []) (bodyOf f_laws_markBoolSS) (lm_laws_markBoolSS xs k) 0 (markPost f_laws_markBoolSS mk_laws_markBoolSS.m xs k) (markStart f_laws_markBoolSS ⟨(.slice (.slice .bool)), xs⟩ k)
 intro xs k hp hk
 rewrite [vcm_laws_markBoolSS xs k]
 have f0 := hfL_zero cn1 mk1 k xs
 have f1 := szL_zero cn1 xs
 refine ⟨⟨0, ⟨?_, ⟨⟨trivial, ⟨?_, ⟨rfl, ⟨?_, trivial⟩⟩⟩⟩, ⟨?_, trivial⟩⟩⟩⟩, fun i1 a0 => have b0x0 := hfL_all cn1 mk1 k xs i1; have b0x1 := hfL_len cn1 mk1 k xs i1; have b0x2 := hfL_get cn1 mk1 k xs i1 []; have b0x3 := hfL_step cn1 mk1 k xs i1 []; have b0x4 := szL_take cn1 [] xs i1; have b0x5 := szL_take_le cn1 xs i1; have b0x6 := szL_take_le cn1 xs (i1 + 1); have b0x7 := szL_all cn1 xs i1; ⟨fun a1 => ⟨?_, ⟨?_, ⟨?_, ⟨i1 + 1, ⟨?_, ⟨?_, ⟨⟨trivial, ⟨?_, ⟨rfl, ⟨?_, trivial⟩⟩⟩⟩, ⟨?_, trivial⟩⟩⟩⟩⟩⟩⟩⟩, fun a1 => ⟨?_, ?_⟩⟩⟩
 all_goals try and_intros
 all_goals first | rfl | trivial | omega | (simp only [decide_eq_true_eq, decide_eq_false_iff_not, idxOk, inI64, mB_at, cB_at, Bool.not_eq_true', Bool.not_eq_false'] at *; first | omega | grind) | grind
theorem mgood_laws_markBoolSS : MK.Good mk_laws_markBoolSS := okm_laws_markBoolSS trivial trivial ⟨mgood_laws_markBoolS, trivial⟩ trivial
def mk_laws_markBoolSSS : MK := ⟨n_laws_markBoolSSS, ⟨(.slice (.slice (.slice .bool))), fun (xs : List (List (List Bool))) (k : Int) => (some (0 ≤ k ∧ k + (szL cn2 xs : Int) ≤ 4611686018427387904 ∧ smallL xs), mkL cn2 mk2 k xs, k + (szL cn2 xs : Int))⟩⟩
def lm_laws_markBoolSSS (xs : List (List (List Bool))) (k : Int) : Nat → LoopInv := (fun zb => if Nat.beq zb 0 then .mk (Nat) (fun i => i ≤ xs.length) (fun i => xs.length - i) [] [2, 3] (fun i => [(5, .imm ⟨(.int .i64), ((i : Int) : Int)⟩), (1, .imm ⟨(.int .i64), ((k + (szL cn2 (xs.take i) : Int)) : Int)⟩), (0, .tree 50)]) [0, 1, 4, 5, 6, 7, 8, 9, 10, 11, 12, 13, 14, 15, 16, 17, 18] (fun i => [(50, .tree (.slice (.slice .bool)) (hfL cn2 mk2 k xs i : List (List (List Bool))))]) [] [] (fun i => fun _ => .none) else .none)
theorem vcm_laws_markBoolSSS (xs : List (List (List Bool))) (k : Int) : awp (envO [] [] [mk_laws_markBoolSS] [17] []) (bodyOf f_laws_markBoolSSS) (lm_laws_markBoolSSS xs k) 0 (markPost f_laws_markBoolSSS mk_laws_markBoolSSS.m xs k) (markStart f_laws_markBoolSSS ⟨(.slice (.slice (.slice .bool))), xs⟩ k) =
 (((∃ i1 : Nat, (i1 ≤ xs.length ∧ ((True ∧ (k = (k + (szL cn2 (xs.take i1) : Int)) ∧ ((0 : Int) = (0 : Int) ∧ ((0 : Int) = (i1 : Int) ∧ True)))) ∧ (xs = (hfL cn2 mk2 k xs i1) ∧ True)))) ∧ (∀ i1 : Nat, (i1 ≤ xs.length →
 (((decide ((i1 : Int) < (((hfL cn2 mk2 k xs i1).length : Int)))) = true →
 (idxOk (i1 : Int) (hfL cn2 mk2 k xs i1).length ∧ ((0 ≤ (k + (szL cn2 (xs.take i1) : Int)) ∧ (k + (szL cn2 (xs.take i1) : Int)) + (szL cn1 ((hfL cn2 mk2 k xs i1).getD i1 []) : Int) ≤ 4611686018427387904 ∧ ((hfL cn2 mk2 k xs i1).getD i1 []).length ≤ 1048576) ∧ (inI64 ((i1 : Int) + (1 : Int)) ∧ (∃ i2 : Nat, (i2 ≤ xs.length ∧ (xs.length - i2 < xs.length - i1 ∧ ((True ∧ (((k + (szL cn2 (xs.take i1) : Int)) + (szL cn1 ((hfL cn2 mk2 k xs i1).getD i1 []) : Int)) = (k + (szL cn2 (xs.take i2) : Int)) ∧ ((0 : Int) = (0 : Int) ∧ (((i1 : Int) + (1 : Int)) = (i2 : Int) ∧ True)))) ∧ (((hfL cn2 mk2 k xs i1).set i1 (mkL cn1 mk1 (k + (szL cn2 (xs.take i1) : Int)) ((hfL cn2 mk2 k xs i1).getD i1 []))) = (hfL cn2 mk2 k xs i2) ∧ True))))))))) ∧ ((decide ((i1 : Int) < (((hfL cn2 mk2 k xs i1).length : Int)))) = false →
 ((k + (szL cn2 (xs.take i1) : Int)) = (k + (szL cn2 xs : Int)) ∧ (hfL cn2 mk2 k xs i1) = (mkL cn2 mk2 k xs)))))))) := by kernel_rfl
theorem okm_laws_markBoolSSS (hE : AllGood []) (hO : AllO []) (hM : AllM [mk_laws_markBoolSS]) (hS : AllS []) : MK.Good mk_laws_markBoolSSS := by
 refine ⟨fnOk_of at_laws_markBoolSSS rfl (by decide), mark_of_awp (own := [17]) (wr := []) (cl := []) (ro := []) hE hO hM hS at_laws_markBoolSSS body_laws_markBoolSSS (fun xs k => lm_laws_markBoolSSS xs k) (fun x => Nat.le_of_ble_eq_true rfl) (Nat.le_of_ble_eq_true (by kernel_rfl)) ?_⟩
 show ∀ (xs : List (List (List Bool))) (k : Int), (0 ≤ k ∧ k + (szL cn2 xs : Int) ≤ 4611686018427387904 ∧ smallL xs) → inI64 k → awp (envO [] [] [mk_laws_markBoolSS] [17] []) (bodyOf f_laws_markBoolSSS) (lm_laws_markBoolSSS xs k) 0 (markPost f_laws_markBoolSSS mk_laws_markBoolSSS.m xs k) (markStart f_laws_markBoolSSS ⟨(.slice (.slice (.slice .bool))), xs⟩ k)
 intro xs k hp hk
 rewrite [vcm_laws_markBoolSSS xs k]
 have f0 := hfL_zero cn2 mk2 k xs
 have f1 := szL_zero cn2 xs
 obtain ⟨f4, f5⟩ := (show smallL xs from hp.2.2)
 refine ⟨⟨0, ⟨?_, ⟨⟨trivial, ⟨?_, ⟨rfl, ⟨?_, trivial⟩⟩⟩⟩, ⟨?_, trivial⟩⟩⟩⟩, fun i1 a0 => have b0x0 := hfL_all cn2 mk2 k xs i1; have b0x1 := hfL_len cn2 mk2 k xs i1; have b0x2 := hfL_get cn2 mk2 k xs i1 []; have b0x3 := hfL_step cn2 mk2 k xs i1 []; have b0x4 := szL_take cn2 [] xs i1; have b0x5 := szL_take_le cn2 xs i1; have b0x6 := szL_take_le cn2 xs (i1 + 1); have b0x7 := szL_all cn2 xs i1; ⟨fun a1 => ⟨?_, ⟨?_, ⟨?_, ⟨i1 + 1, ⟨?_, ⟨?_, ⟨⟨trivial, ⟨?_, ⟨rfl, ⟨?_, trivial⟩⟩⟩⟩, ⟨?_, trivial⟩⟩⟩⟩⟩⟩⟩⟩, fun a1 => ⟨?_, ?_⟩⟩⟩
 all_goals try and_intros
 all_goals first | rfl | trivial | omega | (simp only [decide_eq_true_eq, decide_eq_false_iff_not, idxOk, inI64, mB_at, cB_at, Bool.not_eq_true', Bool.not_eq_false'] at *; first | omega | grind) | grind
theorem mgood_laws_markBoolSSS : MK.Good mk_laws_markBoolSSS := okm_laws_markBoolSSS trivial trivial ⟨mgood_laws_markBoolSS, trivial⟩ trivial
def k_laws_heldBoolS : Ctr := ⟨n_laws_heldBoolS, [.v (.slice .bool), .v (.int .i64)], fun (xs : List Bool) (k : Int) => ⟨(some (0 ≤ k ∧ k + (szL cB xs : Int) ≤ 4611686018427387904), [⟨(.int .i64), heldL cB mB k xs⟩])⟩⟩
def l_laws_heldBoolS (xs : List Bool) (k : Int) : Nat → LoopInv := (fun zb => if Nat.beq zb 0 then .mk (Nat) (fun i => i ≤ xs.length ∧ okL cB mB k (xs.take i) = true) (fun i => xs.length - i) [] [2, 3] (fun i => [(5, .imm ⟨(.int .i64), ((i : Int) : Int)⟩), (1, .imm ⟨(.int .i64), ((k + (szL cB (xs.take i) : Int)) : Int)⟩)]) [0, 1, 4, 5, 6, 7, 8, 9, 10, 11, 12, 13, 14, 15, 16, 17, 18, 19, 20, 21, 22] (fun i => []) [] [] (fun i => fun _ => .none) else .none)
theorem vc_laws_heldBoolS (xs : List Bool) (k : Int) : awp (envOf []) (bodyOf f_laws_heldBoolS) (l_laws_heldBoolS xs k) 0 (funPost (envOf []) f_laws_heldBoolS fun r => areEq r [⟨(.int .i64), heldL cB mB k xs⟩]) (startState f_laws_heldBoolS [.val ⟨(.slice .bool), xs⟩, .val ⟨(.int .i64), k⟩]) =
 (((∃ i1 : Nat, ((i1 ≤ xs.length ∧ okL cB mB k (xs.take i1) = true) ∧ ((xs = xs ∧ (k = (k + (szL cB (xs.take i1) : Int)) ∧ ((0 : Int) = (i1 : Int) ∧ True))) ∧ True))) ∧ (∀ i1 : Nat, ((i1 ≤ xs.length ∧ okL cB mB k (xs.take i1) = true) →
 (inI64 ((xs.length : Int)) →
 (((decide ((i1 : Int) < ((xs.length : Int)))) = true →
 (idxOk (i1 : Int) xs.length ∧ (((3 : Int) ≠ (0 : Int) ∧ inI64 ((k + (szL cB (xs.take i1) : Int)).tmod (3 : Int))) ∧ (((!((xs.getD i1 false) == (decide (((k + (szL cB (xs.take i1) : Int)).tmod (3 : Int)) = (0 : Int))))) = true →
 (-1 : Int) = (heldL cB mB k xs)) ∧ ((!((xs.getD i1 false) == (decide (((k + (szL cB (xs.take i1) : Int)).tmod (3 : Int)) = (0 : Int))))) = false →
 (inI64 ((k + (szL cB (xs.take i1) : Int)) + (1 : Int)) ∧ (inI64 ((i1 : Int) + (1 : Int)) ∧ (∃ i2 : Nat, ((i2 ≤ xs.length ∧ okL cB mB k (xs.take i2) = true) ∧ (xs.length - i2 < xs.length - i1 ∧ ((xs = xs ∧ (((k + (szL cB (xs.take i1) : Int)) + (1 : Int)) = (k + (szL cB (xs.take i2) : Int)) ∧ (((i1 : Int) + (1 : Int)) = (i2 : Int) ∧ True))) ∧ True))))))))))) ∧ ((decide ((i1 : Int) < ((xs.length : Int)))) = false →
 (k + (szL cB (xs.take i1) : Int)) = (heldL cB mB k xs)))))))) := by kernel_rfl
theorem ok_laws_heldBoolS (hE : AllGood []) : Ctr.Good k_laws_heldBoolS := by
 refine ⟨fnOk_of at_laws_heldBoolS rfl (by decide), ?_⟩
 show ∀ (xs : List Bool) (k : Int), (0 ≤ k ∧ k + (szL cB xs : Int) ≤ 4611686018427387904) → OkCall prog n_laws_heldBoolS [.val ⟨(.slice .bool), xs⟩, .val ⟨(.int .i64), k⟩] (· = [⟨(.int .i64), heldL cB mB k xs⟩])
 intro xs k hp
 refine ok_of_awp (wr := []) (cl := []) (ro := []) hE at_laws_heldBoolS body_laws_heldBoolS (l_laws_heldBoolS xs k) ?_
 rewrite [vc_laws_heldBoolS xs k]
 have f0 : okL cB mB k (xs.take 0) = true := rfl
 have f1 := szL_zero cB xs
 have f3 := cnt_lenL cB (fun _ => Nat.le_refl 1) xs
 have f2 := heldL_eq cB mB k xs
 refine ⟨⟨0, ⟨?_, ⟨⟨rfl, ⟨?_, ⟨?_, trivial⟩⟩⟩, trivial⟩⟩⟩, fun i1 a0 => have b0x0 := okL_take cB mB false k xs i1; have b0x1 := okL_bad cB mB false k xs i1; have b0x2 := okL_done cB mB k xs i1; have b0x3 := szL_take cB false xs i1; have b0x4 := szL_take_le cB xs i1; have b0x5 := szL_take_le cB xs (i1 + 1); have b0x6 := szL_all cB xs i1; have b0x7 := mB_at (k + (szL cB (xs.take i1) : Int)) (xs.getD i1 false); fun a1 => ⟨fun a2 => ⟨?_, ⟨⟨?_, ?_⟩, ⟨fun a3 => ?_, fun a3 => ⟨?_, ⟨?_, ⟨i1 + 1, ⟨?_, ⟨?_, ⟨⟨rfl, ⟨?_, ⟨?_, trivial⟩⟩⟩, trivial⟩⟩⟩⟩⟩⟩⟩⟩⟩, fun a2 => ?_⟩⟩
 all_goals try and_intros
 all_goals first | rfl | trivial | omega | (simp only [decide_eq_true_eq, decide_eq_false_iff_not, idxOk, inI64, mB_at, cB_at, Bool.not_eq_true', Bool.not_eq_false'] at *; first | omega | grind) | grind
theorem good_laws_heldBoolS : Ctr.Good k_laws_heldBoolS := ok_laws_heldBoolS trivial
def k_laws_heldBoolSS : Ctr := ⟨n_laws_heldBoolSS, [.v (.slice (.slice .bool)), .v (.int .i64)], fun (xs : List (List Bool)) (k : Int) => ⟨(some (0 ≤ k ∧ k + (szL cn1 xs : Int) ≤ 4611686018427387904 ∧ xs.length ≤ 1048576), [⟨(.int .i64), heldL cn1 mk1 k xs⟩])⟩⟩
def l_laws_heldBoolSS (xs : List (List Bool)) (k : Int) : Nat → LoopInv := (fun zb => if Nat.beq zb 0 then .mk (Nat) (fun i => i ≤ xs.length ∧ okL cn1 mk1 k (xs.take i) = true) (fun i => xs.length - i) [] [2, 3] (fun i => [(5, .imm ⟨(.int .i64), ((i : Int) : Int)⟩), (1, .imm ⟨(.int .i64), ((k + (szL cn1 (xs.take i) : Int)) : Int)⟩)]) [0, 1, 4, 5, 6, 7, 8, 9, 10, 11, 12, 13, 14, 15, 16, 17, 18, 19, 20] (fun i => []) [] [] (fun i => fun _ => .none) else .none)
theorem vc_laws_heldBoolSS (xs : List (List Bool)) (k : Int) : awp (envOf [k_laws_heldBoolS]) (bodyOf f_laws_heldBoolSS) (l_laws_heldBoolSS xs k) 0 (funPost (envOf [k_laws_heldBoolS]) f_laws_heldBoolSS fun r => areEq r [⟨(.int .i64), heldL cn1 mk1 k xs⟩]) (startState f_laws_heldBoolSS [.val ⟨(.slice (.slice .bool)), xs⟩, .val ⟨(.int .i64), k⟩]) =
 (((∃ i1 : Nat, ((i1 ≤ xs.length ∧ okL cn1 mk1 k (xs.take i1) = true) ∧ ((xs = xs ∧ (k = (k + (szL cn1 (xs.take i1) : Int)) ∧ ((0 : Int) = (i1 : Int) ∧ True))) ∧ True))) ∧ (∀ i1 : Nat, ((i1 ≤ xs.length ∧ okL cn1 mk1 k (xs.take i1) = true) →
 (inI64 ((xs.length : Int)) →
 (((decide ((i1 : Int) < ((xs.length : Int)))) = true →
 (idxOk (i1 : Int) xs.length ∧ ((xs.getD i1 []).length ≤ 140737488355328 →
 ((0 ≤ (k + (szL cn1 (xs.take i1) : Int)) ∧ (k + (szL cn1 (xs.take i1) : Int)) + (szL cB (xs.getD i1 []) : Int) ≤ 4611686018427387904) ∧ (inI64 (heldL cB mB (k + (szL cn1 (xs.take i1) : Int)) (xs.getD i1 [])) →
 (((decide ((heldL cB mB (k + (szL cn1 (xs.take i1) : Int)) (xs.getD i1 [])) < (0 : Int))) = true →
 (-1 : Int) = (heldL cn1 mk1 k xs)) ∧ ((decide ((heldL cB mB (k + (szL cn1 (xs.take i1) : Int)) (xs.getD i1 [])) < (0 : Int))) = false →
 (inI64 ((i1 : Int) + (1 : Int)) ∧ (∃ i2 : Nat, ((i2 ≤ xs.length ∧ okL cn1 mk1 k (xs.take i2) = true) ∧ (xs.length - i2 < xs.length - i1 ∧ ((xs = xs ∧ ((heldL cB mB (k + (szL cn1 (xs.take i1) : Int)) (xs.getD i1 [])) = (k + (szL cn1 (xs.take i2) : Int)) ∧ (((i1 : Int) + (1 : Int)) = (i2 : Int) ∧ True))) ∧ True)))))))))))) ∧ ((decide ((i1 : Int) < ((xs.length : Int)))) = false →
 (k + (szL cn1 (xs.take i1) : Int)) = (heldL cn1 mk1 k xs)))))))) := by kernel_rfl
theorem ok_laws_heldBoolSS (hE : AllGood [k_laws_heldBoolS]) : Ctr.Good k_laws_heldBoolSS := by
 refine ⟨fnOk_of at_laws_heldBoolSS rfl (by decide), ?_⟩
 show ∀ (xs : List (List Bool)) (k : Int), (0 ≤ k ∧ k + (szL cn1 xs : Int) ≤ 4611686018427387904 ∧ xs.length ≤ 1048576) → OkCall prog n_laws_heldBoolSS [.val ⟨(.slice (.slice .bool)), xs⟩, .val ⟨(.int .i64), k⟩] (· = [⟨(.int .i64), heldL cn1 mk1 k xs⟩])
 intro xs k hp
 refine ok_of_awp (wr := []) (cl := []) (ro := []) hE at_laws_heldBoolSS body_laws_heldBoolSS (l_laws_heldBoolSS xs k) ?_
 rewrite [vc_laws_heldBoolSS xs k]
 have f0 : okL cn1 mk1 k (xs.take 0) = true := rfl
 have f1 := szL_zero cn1 xs
 have f2 := heldL_eq cn1 mk1 k xs
 refine ⟨⟨0, ⟨?_, ⟨⟨rfl, ⟨?_, ⟨?_, trivial⟩⟩⟩, trivial⟩⟩⟩, fun i1 a0 => have b0x0 := okL_take cn1 mk1 [] k xs i1; have b0x1 := okL_bad cn1 mk1 [] k xs i1; have b0x2 := okL_done cn1 mk1 k xs i1; have b0x3 := szL_take cn1 [] xs i1; have b0x4 := szL_take_le cn1 xs i1; have b0x5 := szL_take_le cn1 xs (i1 + 1); have b0x6 := szL_all cn1 xs i1; have b0x7 := hel2 (k + (szL cn1 (xs.take i1) : Int)) (xs.getD i1 []); fun a1 => ⟨fun a2 => ⟨?_, fun a3 => ⟨?_, fun a4 => ⟨fun a5 => ?_, fun a5 => ⟨?_, ⟨i1 + 1, ⟨?_, ⟨?_, ⟨⟨rfl, ⟨?_, ⟨?_, trivial⟩⟩⟩, trivial⟩⟩⟩⟩⟩⟩⟩⟩, fun a2 => ?_⟩⟩
 all_goals try and_intros
 all_goals first | rfl | trivial | omega | (simp only [decide_eq_true_eq, decide_eq_false_iff_not, idxOk, inI64, mB_at, cB_at, Bool.not_eq_true', Bool.not_eq_false'] at *; first | omega | grind) | grind
theorem good_laws_heldBoolSS : Ctr.Good k_laws_heldBoolSS := ok_laws_heldBoolSS ⟨good_laws_heldBoolS, trivial⟩
def k_laws_heldBoolSSS : Ctr := ⟨n_laws_heldBoolSSS, [.v (.slice (.slice (.slice .bool))), .v (.int .i64)], fun (xs : List (List (List Bool))) (k : Int) => ⟨(some (0 ≤ k ∧ k + (szL cn2 xs : Int) ≤ 4611686018427387904 ∧ smallL xs), [⟨(.int .i64), heldL cn2 mk2 k xs⟩])⟩⟩
def l_laws_heldBoolSSS (xs : List (List (List Bool))) (k : Int) : Nat → LoopInv := (fun zb => if Nat.beq zb 0 then .mk (Nat) (fun i => i ≤ xs.length ∧ okL cn2 mk2 k (xs.take i) = true) (fun i => xs.length - i) [] [2, 3] (fun i => [(5, .imm ⟨(.int .i64), ((i : Int) : Int)⟩), (1, .imm ⟨(.int .i64), ((k + (szL cn2 (xs.take i) : Int)) : Int)⟩)]) [0, 1, 4, 5, 6, 7, 8, 9, 10, 11, 12, 13, 14, 15, 16, 17, 18, 19, 20] (fun i => []) [] [] (fun i => fun _ => .none) else .none)
theorem vc_laws_heldBoolSSS (xs : List (List (List Bool))) (k : Int) : awp (envOf [k_laws_heldBoolSS]) (bodyOf f_laws_heldBoolSSS) (l_laws_heldBoolSSS xs k) 0 (funPost (envOf [k_laws_heldBoolSS]) f_laws_heldBoolSSS fun r => areEq r [⟨(.int .i64), heldL cn2 mk2 k xs⟩]) (startState f_laws_heldBoolSSS [.val ⟨(.slice (.slice (.slice .bool))), xs⟩, .val ⟨(.int .i64), k⟩]) =
 (((∃ i1 : Nat, ((i1 ≤ xs.length ∧ okL cn2 mk2 k (xs.take i1) = true) ∧ ((xs = xs ∧ (k = (k + (szL cn2 (xs.take i1) : Int)) ∧ ((0 : Int) = (i1 : Int) ∧ True))) ∧ True))) ∧ (∀ i1 : Nat, ((i1 ≤ xs.length ∧ okL cn2 mk2 k (xs.take i1) = true) →
 (inI64 ((xs.length : Int)) →
 (((decide ((i1 : Int) < ((xs.length : Int)))) = true →
 (idxOk (i1 : Int) xs.length ∧ ((xs.getD i1 []).length ≤ 140737488355328 →
 ((0 ≤ (k + (szL cn2 (xs.take i1) : Int)) ∧ (k + (szL cn2 (xs.take i1) : Int)) + (szL cn1 (xs.getD i1 []) : Int) ≤ 4611686018427387904 ∧ (xs.getD i1 []).length ≤ 1048576) ∧ (inI64 (heldL cn1 mk1 (k + (szL cn2 (xs.take i1) : Int)) (xs.getD i1 [])) →
 (((decide ((heldL cn1 mk1 (k + (szL cn2 (xs.take i1) : Int)) (xs.getD i1 [])) < (0 : Int))) = true →
 (-1 : Int) = (heldL cn2 mk2 k xs)) ∧ ((decide ((heldL cn1 mk1 (k + (szL cn2 (xs.take i1) : Int)) (xs.getD i1 [])) < (0 : Int))) = false →
 (inI64 ((i1 : Int) + (1 : Int)) ∧ (∃ i2 : Nat, ((i2 ≤ xs.length ∧ okL cn2 mk2 k (xs.take i2) = true) ∧ (xs.length - i2 < xs.length - i1 ∧ ((xs = xs ∧ ((heldL cn1 mk1 (k + (szL cn2 (xs.take i1) : Int)) (xs.getD i1 [])) = (k + (szL cn2 (xs.take i2) : Int)) ∧ (((i1 : Int) + (1 : Int)) = (i2 : Int) ∧ True))) ∧ True)))))))))))) ∧ ((decide ((i1 : Int) < ((xs.length : Int)))) = false →
 (k + (szL cn2 (xs.take i1) : Int)) = (heldL cn2 mk2 k xs)))))))) := by kernel_rfl
theorem ok_laws_heldBoolSSS (hE : AllGood [k_laws_heldBoolSS]) : Ctr.Good k_laws_heldBoolSSS := by
 refine ⟨fnOk_of at_laws_heldBoolSSS rfl (by decide), ?_⟩
 show ∀ (xs : List (List (List Bool))) (k : Int), (0 ≤ k ∧ k + (szL cn2 xs : Int) ≤ 4611686018427387904 ∧ smallL xs) → OkCall prog n_laws_heldBoolSSS [.val ⟨(.slice (.slice (.slice .bool))), xs⟩, .val ⟨(.int .i64), k⟩] (· = [⟨(.int .i64), heldL cn2 mk2 k xs⟩])
 intro xs k hp
 refine ok_of_awp (wr := []) (cl := []) (ro := []) hE at_laws_heldBoolSSS body_laws_heldBoolSSS (l_laws_heldBoolSSS xs k) ?_
 rewrite [vc_laws_heldBoolSSS xs k]
 have f0 : okL cn2 mk2 k (xs.take 0) = true := rfl
 have f1 := szL_zero cn2 xs
 obtain ⟨f4, f5⟩ := (show smallL xs from hp.2.2)
 have f2 := heldL_eq cn2 mk2 k xs
 refine ⟨⟨0, ⟨?_, ⟨⟨rfl, ⟨?_, ⟨?_, trivial⟩⟩⟩, trivial⟩⟩⟩, fun i1 a0 => have b0x0 := okL_take cn2 mk2 [] k xs i1; have b0x1 := okL_bad cn2 mk2 [] k xs i1; have b0x2 := okL_done cn2 mk2 k xs i1; have b0x3 := szL_take cn2 [] xs i1; have b0x4 := szL_take_le cn2 xs i1; have b0x5 := szL_take_le cn2 xs (i1 + 1); have b0x6 := szL_all cn2 xs i1; have b0x7 := hel3 (k + (szL cn2 (xs.take i1) : Int)) (xs.getD i1 []); fun a1 => ⟨fun a2 => ⟨?_, fun a3 => ⟨?_, fun a4 => ⟨fun a5 => ?_, fun a5 => ⟨?_, ⟨i1 + 1, ⟨?_, ⟨?_, ⟨⟨rfl, ⟨?_, ⟨?_, trivial⟩⟩⟩, trivial⟩⟩⟩⟩⟩⟩⟩⟩, fun a2 => ?_⟩⟩
 all_goals try and_intros
 all_goals first | rfl | trivial | omega | (simp only [decide_eq_true_eq, decide_eq_false_iff_not, idxOk, inI64, mB_at, cB_at, Bool.not_eq_true', Bool.not_eq_false'] at *; first | omega | grind) | grind
theorem good_laws_heldBoolSSS : Ctr.Good k_laws_heldBoolSSS := ok_laws_heldBoolSSS ⟨good_laws_heldBoolSS, trivial⟩
end
end Go.Proofs.YtkogipcdjalehaaDoor
