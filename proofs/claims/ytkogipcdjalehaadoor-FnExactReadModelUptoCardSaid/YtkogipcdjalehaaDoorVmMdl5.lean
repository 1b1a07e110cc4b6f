/- ReadModel, on both sides. Printed by vmk.py. -/
import Derived.Test.YtkogipcdjalehaaDoorVmUse
import Derived.Test.YtkogipcdjalehaaDoorVmLib
import Derived.Test.YtkogipcdjalehaaDoorVmMdl2
import Derived.Test.YtkogipcdjalehaaDoorVmMdl3
import Derived.Test.YtkogipcdjalehaaDoorVmMdl4
set_option linter.unusedVariables false
set_option linter.unusedSimpArgs false
set_option linter.unusedSectionVars false
set_option maxRecDepth 4000
set_option maxHeartbeats 4000000
namespace Go.Proofs.YtkogipcdjalehaaDoor
noncomputable section
theorem lnI_len (t : List UInt8) : (lnI t).length = (cutL 10 t).length - 1 := by unfold lnI; simp
theorem lnI_sub (t : List UInt8) : ∀ x ∈ lnI t, x ∈ cutL 10 t := fun x hx => List.mem_of_mem_take hx
theorem ln_short (t : List UInt8) (i : Nat) : ((lnI t).getD i []).length ≤ t.length ∧ (((lnI t).drop 1).getD i []).length ≤ t.length := by
 have h := short_sub (cut_short 10 t) (lnI_sub t)
 exact ⟨short_get _ _ h i, short_get _ _ (short_sub h fun y hy => List.mem_of_mem_drop hy) i⟩
theorem lnI_hd (t : List UInt8) (h : 0 < (lnI t).length) : (lnI t).getD 0 [] = (cutL 10 t).getD 0 [] := by
 unfold lnI at h ⊢
 rw [List.getD_eq_getElem?_getD, List.getD_eq_getElem?_getD, List.getElem?_take]
 rw [List.length_take] at h
 rw [if_pos (by omega)]
theorem wd_ok (l : List UInt8) (h : l.length ≤ 1048576) : shortL 1048576 ((cutL 32 l).drop 1) ∧ (cutL 32 l).length ≤ l.length + 1 ∧ 1 ≤ (cutL 32 l).length ∧ ((cutL 32 l).getD 0 []).length ≤ 1048576 := by
 have q := cut_short 32 l
 refine ⟨fun x hx => ?_, cutL_len 32 l, cutL_pos 32 l, ?_⟩
 ·have := q x (List.mem_of_mem_drop hx); omega
 ·have := short_get _ _ q 0; omega
theorem rT_step (L : List (List UInt8)) (i : Nat) (h : i < L.length) :
  ((cutL 32 (L.getD i [])).getD 0 [] = [116, 101, 115, 116] → rTs (L.take (i + 1)) = rTs (L.take i) ++ ((cutL 32 (L.getD i [])).drop 1).map rdB ∧ rAs (L.take (i + 1)) = rAs (L.take i)) ∧
  (¬ (cutL 32 (L.getD i [])).getD 0 [] = [116, 101, 115, 116] → rTs (L.take (i + 1)) = rTs (L.take i) ∧ rAs (L.take (i + 1)) = rAs (L.take i) ++ [((cutL 32 (L.getD i [])).drop 1).map rdB]) := by
 have e1 : rTs (L.take (i + 1)) = rTs (L.take i) ++ rT1 (L.getD i []) := catL_take rT1 [] L i h
 have e2 : rAs (L.take (i + 1)) = rAs (L.take i) ++ rA1 (L.getD i []) := catL_take rA1 [] L i h
 refine ⟨fun k => ?_, fun k => ?_⟩
 ·have : isT (L.getD i []) = true := decide_eq_true k
  rw [e1, e2]; unfold rT1 rA1; rw [this]
  exact ⟨rfl, List.append_nil _⟩
 ·have : isT (L.getD i []) = false := decide_eq_false k
  rw [e1, e2]; unfold rT1 rA1; rw [this]
  exact ⟨List.append_nil _, rfl⟩
theorem rT_len (L : List (List UInt8)) (N : Nat) (h : shortL N L) : ∀ i, (rTs (L.take i)).length ≤ (N + 1) * i ∧ (rAs (L.take i)).length ≤ i
 | 0 => by constructor <;> exact Nat.zero_le _
 | i + 1 => by
  obtain ⟨h1, h2⟩ := rT_len L N h i
  rcases Nat.lt_or_ge i L.length with q | q
  ·have hl := h _ (getD_mem [] L i q)
   have hc := cutL_len 32 (L.getD i [])
   obtain ⟨s1, s2⟩ := rT_step L i q
   rw [Nat.mul_succ]
   by_cases k : (cutL 32 (L.getD i [])).getD 0 [] = [116, 101, 115, 116]
   ·obtain ⟨e1, e2⟩ := s1 k
    rw [e1, e2, List.length_append, List.length_map, List.length_drop]; omega
   ·obtain ⟨e1, e2⟩ := s2 k
    rw [e1, e2, List.length_append, List.length_cons, List.length_nil]; omega
  ·have : L.take (i + 1) = L.take i := by rw [List.take_of_length_le (by omega), List.take_of_length_le q]
   rw [this, Nat.mul_succ]; omega
theorem rT_room (t : List UInt8) (h : t.length ≤ 2000) (i : Nat) (hi : i ≤ ((lnI t).drop 1).length) : (rTs (((lnI t).drop 1).take i)).length ≤ 5000000 ∧ (rAs (((lnI t).drop 1).take i)).length ≤ 5000 := by
 have hs : shortL 2000 ((lnI t).drop 1) := fun x hx => by
  have := cut_short 10 t x (lnI_sub t x (List.mem_of_mem_drop hx)); omega
 obtain ⟨h1, h2⟩ := rT_len _ 2000 hs i
 have := lnI_len t
 have := cutL_len 10 t
 rw [List.length_drop] at hi
 have hb : i ≤ 2001 := by omega
 have := Nat.mul_le_mul_left 2001 hb
 omega
theorem mI_end (t : List UInt8) (i : Nat) (h : ((lnI t).drop 1).length ≤ i) : GModel.mk (GSig.mk ((mI t).sig.tests) ((mI t).sig.actions)) ((mI t).points) (rTs (((lnI t).drop 1).take i)) (rAs (((lnI t).drop 1).take i)) = mI t := by
 rw [List.take_of_length_le h]; rfl
theorem okI_no (t : List UInt8) (h : lnB t = false ∨ (lnI t).length = 0 ∨ 2000 < t.length) : okI t = false := by
 have e : okH t = false := by
  unfold okH
  rcases h with h | h | h
  ·rw [h]; rfl
  ·have := lnI_len t
   rw [decide_eq_false (show ¬ 1 < (cutL 10 t).length by omega)]; simp
  ·rw [decide_eq_false (show ¬ t.length ≤ 2000 by omega)]; simp
 unfold okI
 rw [e]; rfl
theorem okI_eq (t : List UInt8) (h1 : lnB t = true) (h2 : 0 < (lnI t).length) (h3 : t.length ≤ 2000) :
  okI t = (decide ((cutL 32 ((lnI t).getD 0 [])).length = 4) && (numB 1 ((cutL 32 ((lnI t).getD 0 [])).getD 1 []) && numB 1 ((cutL 32 ((lnI t).getD 0 [])).getD 2 []) && numB 1 ((cutL 32 ((lnI t).getD 0 [])).getD 3 [])) && mOk (mI t) && decide (mtx (mI t) = t)) ∧
  (mI t).sig.tests = numV 1 ((cutL 32 ((lnI t).getD 0 [])).getD 1 []) ∧ (mI t).sig.actions = numV 1 ((cutL 32 ((lnI t).getD 0 [])).getD 2 []) ∧ (mI t).points = numV 1 ((cutL 32 ((lnI t).getD 0 [])).getD 3 []) := by
 have e := lnI_hd t h2
 have e2 : okH t = true := by
  have := lnI_len t
  unfold okH
  rw [h1, decide_eq_true h3, decide_eq_true (show 1 < (cutL 10 t).length by omega)]; rfl
 rw [e]
 refine ⟨?_, rfl, rfl, rfl⟩
 unfold okI okN
 rw [e2]; rfl
def ko_impl_ReadModel : Ctr := ⟨n_impl_ReadModel, [.v .str], fun (t : List UInt8) => ⟨(some (t.length ≤ 1048576), [⟨(.st .model), rmV t⟩, ⟨(.int .i64), rmC t⟩])⟩⟩
def lo_impl_ReadModel (t : List UInt8) : Nat → LoopInv := (fun zb => if Nat.beq zb 100004 then .mk (Unit) (fun u => lnB t = true ∧ 0 < (lnI t).length ∧ t.length ≤ 2000) (fun u => 0) [] [1, 5, 14, 18, 19, 20, 21, 22, 23, 24, 25, 26, 27, 28, 29, 30, 31, 32, 33, 34, 35] (fun u => []) [0, 2, 3, 4, 6, 7, 8, 9, 10, 11, 12, 13, 15, 16, 17, 36, 37, 38, 39, 40, 41, 42, 43, 44, 45, 46, 47, 48, 49, 50, 51, 52, 53, 54, 55, 56, 57, 58, 59, 60, 61, 62, 63, 64, 65, 66, 67, 68, 69, 70, 71, 72, 73, 74, 75, 76, 77, 78, 79, 80, 81, 82, 83, 84, 85, 86, 87, 88, 89, 90, 91, 92, 93, 94, 95, 96, 97, 98, 99, 100, 101, 102, 103, 104, 105, 106, 107, 108, 109, 110, 111, 112, 113, 114, 115, 116, 117, 118, 119, 120] (fun u => []) [] [] (fun u => (fun zb => if Nat.beq zb 0 then .mk (Nat) (fun i => i ≤ ((lnI t).drop 1).length) (fun i => ((lnI t).drop 1).length - i) [] [1, 4, 5, 6, 7, 9, 11, 14, 18, 19, 20, 21, 22, 23, 24, 25, 26, 27, 28, 29, 30, 31, 32, 33, 34, 35, 36, 37, 38, 39, 40, 41, 42, 43, 44, 45, 46, 47, 48, 49, 50, 51, 52, 53, 54, 55, 56, 57, 58, 59, 60, 61, 62, 63, 64, 65, 66, 67, 68, 69, 70] (fun i => [(73, .imm ⟨(.int .i64), ((i : Int) : Int)⟩)]) [0, 2, 3, 8, 10, 12, 15, 16, 17, 71, 72, 73, 74, 75, 76, 77, 78, 79, 80, 81, 82, 83, 84, 85, 86, 87, 88, 89, 90, 91, 92, 93, 94, 95, 96, 97, 98, 99, 100, 101, 102, 103, 104, 105, 106, 107, 108, 109, 110, 111, 112, 113, 114, 115, 116, 117, 118, 119, 120] (fun i => [(13, .box [.imm ⟨(.int .i64), ((mI t).sig.tests : Int)⟩, .imm ⟨(.int .i64), ((mI t).sig.actions : Int)⟩, .imm ⟨(.int .i64), ((mI t).points : Int)⟩, .tree 9000, .tree 9600]), (9000, .tree (.slice .bool) (rTs (((lnI t).drop 1).take i) : List (List Bool))), (9600, .tree (.slice (.slice .bool)) (rAs (((lnI t).drop 1).take i) : List (List (List Bool))))]) [] [] (fun i => fun _ => .none) else .none)) else .none)
abbrev jo_impl_ReadModel_0 (t : List UInt8) : Prop := (∃ u1 : Unit, ((lnB t = true ∧ 0 < (lnI t).length ∧ t.length ≤ 2000) ∧ ((t = t ∧ (True ∧ ((lnI t) = (lnI t) ∧ True))) ∧ (((0 : Int) = (0 : Int) ∧ ((0 : Int) = (0 : Int) ∧ ((0 : Int) = (0 : Int) ∧ (True ∧ (True ∧ True))))) ∧ True))))
abbrev jo_impl_ReadModel_1 (t : List UInt8) : Prop := (inI64 ((t.length : Int)) →
 (((decide ((2000 : Int) < ((t.length : Int)))) = true →
 ((GModel.mk (GSig.mk (0 : Int) (0 : Int)) (0 : Int) [] []) = (rmV t) ∧ (5 : Int) = (rmC t))) ∧ ((decide ((2000 : Int) < ((t.length : Int)))) = false →
 (jo_impl_ReadModel_0 t))))
abbrev jo_impl_ReadModel_2 (t : List UInt8) : Prop := ((true = true →
 ((GModel.mk (GSig.mk (0 : Int) (0 : Int)) (0 : Int) [] []) = (rmV t) ∧ (5 : Int) = (rmC t))) ∧ (true = false →
 (jo_impl_ReadModel_0 t)))
abbrev jo_impl_ReadModel_3 (t : List UInt8) (i2 : Nat) (i3 : Nat) : Prop := (t = t ∧ (True ∧ ((numB (1 : Int) ((cutL (([32]).getD 0 0) ((lnI t).getD 0 [])).getD 1 [])) = (numB (1 : Int) ((cutL (([32]).getD 0 0) ((lnI t).getD 0 [])).getD 1 [])) ∧ ((numB (1 : Int) ((cutL (([32]).getD 0 0) ((lnI t).getD 0 [])).getD 2 [])) = (numB (1 : Int) ((cutL (([32]).getD 0 0) ((lnI t).getD 0 [])).getD 2 [])) ∧ ((numB (1 : Int) ((cutL (([32]).getD 0 0) ((lnI t).getD 0 [])).getD 3 [])) = (numB (1 : Int) ((cutL (([32]).getD 0 0) ((lnI t).getD 0 [])).getD 3 [])) ∧ (True ∧ ((((lnI t).take (Int.toNat (((lnI t).length : Int)))).drop 1) = (((lnI t).take (Int.toNat (((lnI t).length : Int)))).drop 1) ∧ ((((((lnI t).take (Int.toNat (((lnI t).length : Int)))).drop 1).length : Int)) = (((((lnI t).take (Int.toNat (((lnI t).length : Int)))).drop 1).length : Int)) ∧ (((i2 : Int) + (1 : Int)) = (i3 : Int) ∧ True)))))))))
abbrev jo_impl_ReadModel_4 (t : List UInt8) : Prop := (((mI t).sig.tests) = ((mI t).sig.tests) ∧ (((mI t).sig.actions) = ((mI t).sig.actions) ∧ (((mI t).points) = ((mI t).points) ∧ (True ∧ (True ∧ True)))))
abbrev jo_impl_ReadModel_5 (t : List UInt8) (i2 : Nat) : Prop := ((GModel.mk (GSig.mk ((mI t).sig.tests) ((mI t).sig.actions)) ((mI t).points) (rTs (((lnI t).drop 1).take i2)) (rAs (((lnI t).drop 1).take i2))) = (rmV t) ∧ (0 : Int) = (rmC t))
abbrev jo_impl_ReadModel_6 (t : List UInt8) (i2 : Nat) : Prop := (mOk (GModel.mk (GSig.mk ((mI t).sig.tests) ((mI t).sig.actions)) ((mI t).points) (rTs (((lnI t).drop 1).take i2)) (rAs (((lnI t).drop 1).take i2))) = true ∧ ((mtx (GModel.mk (GSig.mk ((mI t).sig.tests) ((mI t).sig.actions)) ((mI t).points) (rTs (((lnI t).drop 1).take i2)) (rAs (((lnI t).drop 1).take i2)))).length ≤ 140737488355328 →
 (((!decide ((mtx (GModel.mk (GSig.mk ((mI t).sig.tests) ((mI t).sig.actions)) ((mI t).points) (rTs (((lnI t).drop 1).take i2)) (rAs (((lnI t).drop 1).take i2)))) = t)) = true →
 ((GModel.mk (GSig.mk (0 : Int) (0 : Int)) (0 : Int) [] []) = (rmV t) ∧ (5 : Int) = (rmC t))) ∧ ((!decide ((mtx (GModel.mk (GSig.mk ((mI t).sig.tests) ((mI t).sig.actions)) ((mI t).points) (rTs (((lnI t).drop 1).take i2)) (rAs (((lnI t).drop 1).take i2)))) = t)) = false →
 (jo_impl_ReadModel_5 t i2)))))
abbrev jo_impl_ReadModel_7 (t : List UInt8) (i2 : Nat) : Prop := ((true = true →
 ((GModel.mk (GSig.mk (0 : Int) (0 : Int)) (0 : Int) [] []) = (rmV t) ∧ (5 : Int) = (rmC t))) ∧ (true = false →
 (jo_impl_ReadModel_5 t i2)))
abbrev jo_impl_ReadModel_8 (t : List UInt8) (i2 : Nat) : Prop := (((!(mOk (GModel.mk (GSig.mk ((mI t).sig.tests) ((mI t).sig.actions)) ((mI t).points) (rTs (((lnI t).drop 1).take i2)) (rAs (((lnI t).drop 1).take i2))))) = false →
 (jo_impl_ReadModel_6 t i2)) ∧ ((!(mOk (GModel.mk (GSig.mk ((mI t).sig.tests) ((mI t).sig.actions)) ((mI t).points) (rTs (((lnI t).drop 1).take i2)) (rAs (((lnI t).drop 1).take i2))))) = (!false) →
 (jo_impl_ReadModel_7 t i2)))
abbrev jo_impl_ReadModel_9 (t : List UInt8) (i2 : Nat) : Prop := (((!(numB (1 : Int) ((cutL (([32]).getD 0 0) ((lnI t).getD 0 [])).getD 3 []))) = false →
 (jo_impl_ReadModel_8 t i2)) ∧ ((!(numB (1 : Int) ((cutL (([32]).getD 0 0) ((lnI t).getD 0 [])).getD 3 []))) = (!false) →
 ((true = false →
 (jo_impl_ReadModel_6 t i2)) ∧ (true = (!false) →
 (jo_impl_ReadModel_7 t i2)))))
abbrev jo_impl_ReadModel_10 (t : List UInt8) (i2 : Nat) : Prop := ((true = false →
 (jo_impl_ReadModel_8 t i2)) ∧ (true = (!false) →
 ((true = false →
 (jo_impl_ReadModel_6 t i2)) ∧ (true = (!false) →
 (jo_impl_ReadModel_7 t i2)))))
theorem vco_impl_ReadModel (t : List UInt8) : awp (envO [k_impl_linesOf, k_strings_Split, k_impl_number, k_impl_ValidModel, k_impl_modelText] [ko_impl_rowsOf] [] [81, 89, 94, 95] []) (bodyOf f_impl_ReadModel) (lo_impl_ReadModel t) 0 (ownPost (envO [k_impl_linesOf, k_strings_Split, k_impl_number, k_impl_ValidModel, k_impl_modelText] [ko_impl_rowsOf] [] [81, 89, 94, 95] []) f_impl_ReadModel fun r => areEq r [⟨(.st .model), rmV t⟩, ⟨(.int .i64), rmC t⟩]) (startO f_impl_ReadModel [.val ⟨.str, t⟩]) =
 ((t.length ≤ 1048576 ∧ ((lnI t).length ≤ 140737488355328 →
 ((((!(lnB t)) = false →
 (inI64 (((lnI t).length : Int)) →
 (((decide ((((lnI t).length : Int)) = (0 : Int))) = false →
 (jo_impl_ReadModel_1 t)) ∧ ((decide ((((lnI t).length : Int)) = (0 : Int))) = (!false) →
 (jo_impl_ReadModel_2 t))))) ∧ ((!(lnB t)) = (!false) →
 ((true = false →
 (jo_impl_ReadModel_1 t)) ∧ (true = (!false) →
 (jo_impl_ReadModel_2 t))))) ∧ (∀ u1 : Unit, ((lnB t = true ∧ 0 < (lnI t).length ∧ t.length ≤ 2000) →
 (idxOk (0 : Int) (lnI t).length ∧ (((lnI t).getD 0 []).length ≤ 140737488355328 →
 ((([32]).length = 1 ∧ ((lnI t).getD 0 []).length ≤ 1048576) ∧ ((cutL (([32]).getD 0 0) ((lnI t).getD 0 [])).length ≤ 140737488355328 →
 (inI64 (((cutL (([32]).getD 0 0) ((lnI t).getD 0 [])).length : Int)) →
 (((!(decide ((((cutL (([32]).getD 0 0) ((lnI t).getD 0 [])).length : Int)) = (4 : Int)))) = true →
 ((GModel.mk (GSig.mk (0 : Int) (0 : Int)) (0 : Int) [] []) = (rmV t) ∧ (5 : Int) = (rmC t))) ∧ ((!(decide ((((cutL (([32]).getD 0 0) ((lnI t).getD 0 [])).length : Int)) = (4 : Int)))) = false →
 (idxOk (1 : Int) (cutL (([32]).getD 0 0) ((lnI t).getD 0 [])).length ∧ (((cutL (([32]).getD 0 0) ((lnI t).getD 0 [])).getD 1 []).length ≤ 140737488355328 →
 ((0 ≤ (1 : Int) ∧ (1 : Int) ≤ 9) ∧ (inI64 (numV (1 : Int) ((cutL (([32]).getD 0 0) ((lnI t).getD 0 [])).getD 1 [])) →
 (idxOk (2 : Int) (cutL (([32]).getD 0 0) ((lnI t).getD 0 [])).length ∧ (((cutL (([32]).getD 0 0) ((lnI t).getD 0 [])).getD 2 []).length ≤ 140737488355328 →
 ((0 ≤ (1 : Int) ∧ (1 : Int) ≤ 9) ∧ (inI64 (numV (1 : Int) ((cutL (([32]).getD 0 0) ((lnI t).getD 0 [])).getD 2 [])) →
 (idxOk (3 : Int) (cutL (([32]).getD 0 0) ((lnI t).getD 0 [])).length ∧ (((cutL (([32]).getD 0 0) ((lnI t).getD 0 [])).getD 3 []).length ≤ 140737488355328 →
 ((0 ≤ (1 : Int) ∧ (1 : Int) ≤ 9) ∧ (inI64 (numV (1 : Int) ((cutL (([32]).getD 0 0) ((lnI t).getD 0 [])).getD 3 [])) →
 (cutOk (1 : Int) (((lnI t).length : Int)) (lnI t).length ∧ (inI64 (((((lnI t).take (Int.toNat (((lnI t).length : Int)))).drop 1).length : Int)) →
 ((∃ i2 : Nat, (i2 ≤ ((lnI t).drop 1).length ∧ ((t = t ∧ (True ∧ ((numB (1 : Int) ((cutL (([32]).getD 0 0) ((lnI t).getD 0 [])).getD 1 [])) = (numB (1 : Int) ((cutL (([32]).getD 0 0) ((lnI t).getD 0 [])).getD 1 [])) ∧ ((numB (1 : Int) ((cutL (([32]).getD 0 0) ((lnI t).getD 0 [])).getD 2 [])) = (numB (1 : Int) ((cutL (([32]).getD 0 0) ((lnI t).getD 0 [])).getD 2 [])) ∧ ((numB (1 : Int) ((cutL (([32]).getD 0 0) ((lnI t).getD 0 [])).getD 3 [])) = (numB (1 : Int) ((cutL (([32]).getD 0 0) ((lnI t).getD 0 [])).getD 3 [])) ∧ (True ∧ ((((lnI t).take (Int.toNat (((lnI t).length : Int)))).drop 1) = (((lnI t).take (Int.toNat (((lnI t).length : Int)))).drop 1) ∧ ((((((lnI t).take (Int.toNat (((lnI t).length : Int)))).drop 1).length : Int)) = (((((lnI t).take (Int.toNat (((lnI t).length : Int)))).drop 1).length : Int)) ∧ ((0 : Int) = (i2 : Int) ∧ True))))))))) ∧ (((numV (1 : Int) ((cutL (([32]).getD 0 0) ((lnI t).getD 0 [])).getD 1 [])) = ((mI t).sig.tests) ∧ ((numV (1 : Int) ((cutL (([32]).getD 0 0) ((lnI t).getD 0 [])).getD 2 [])) = ((mI t).sig.actions) ∧ ((numV (1 : Int) ((cutL (([32]).getD 0 0) ((lnI t).getD 0 [])).getD 3 [])) = ((mI t).points) ∧ (True ∧ (True ∧ True))))) ∧ ((rTs (((lnI t).drop 1).take i2)) = [] ∧ ((rAs (((lnI t).drop 1).take i2)) = [] ∧ (((0 : Int) = (0 : Int) ∧ ((0 : Int) = (0 : Int) ∧ ((0 : Int) = (0 : Int) ∧ (True ∧ (True ∧ True))))) ∧ True))))))) ∧ (∀ i2 : Nat, (i2 ≤ ((lnI t).drop 1).length →
 (((decide ((i2 : Int) < (((((lnI t).take (Int.toNat (((lnI t).length : Int)))).drop 1).length : Int)))) = true →
 (idxOk (i2 : Int) (((lnI t).take (Int.toNat (((lnI t).length : Int)))).drop 1).length ∧ (((((lnI t).take (Int.toNat (((lnI t).length : Int)))).drop 1).getD i2 []).length ≤ 140737488355328 →
 ((([32]).length = 1 ∧ ((((lnI t).take (Int.toNat (((lnI t).length : Int)))).drop 1).getD i2 []).length ≤ 1048576) ∧ ((cutL (([32]).getD 0 0) ((((lnI t).take (Int.toNat (((lnI t).length : Int)))).drop 1).getD i2 [])).length ≤ 140737488355328 →
 (cutOk (1 : Int) (((cutL (([32]).getD 0 0) ((((lnI t).take (Int.toNat (((lnI t).length : Int)))).drop 1).getD i2 [])).length : Int)) (cutL (([32]).getD 0 0) ((((lnI t).take (Int.toNat (((lnI t).length : Int)))).drop 1).getD i2 [])).length ∧ ((shortL 1048576 (((cutL (([32]).getD 0 0) ((((lnI t).take (Int.toNat (((lnI t).length : Int)))).drop 1).getD i2 [])).take (Int.toNat (((cutL (([32]).getD 0 0) ((((lnI t).take (Int.toNat (((lnI t).length : Int)))).drop 1).getD i2 [])).length : Int)))).drop 1) ∧ (((cutL (([32]).getD 0 0) ((((lnI t).take (Int.toNat (((lnI t).length : Int)))).drop 1).getD i2 [])).take (Int.toNat (((cutL (([32]).getD 0 0) ((((lnI t).take (Int.toNat (((lnI t).length : Int)))).drop 1).getD i2 [])).length : Int)))).drop 1).length ≤ 1048577) ∧ (idxOk (0 : Int) (cutL (([32]).getD 0 0) ((((lnI t).take (Int.toNat (((lnI t).length : Int)))).drop 1).getD i2 [])).length ∧ (((cutL (([32]).getD 0 0) ((((lnI t).take (Int.toNat (((lnI t).length : Int)))).drop 1).getD i2 [])).getD 0 []).length ≤ 140737488355328 →
 (((decide (((cutL (([32]).getD 0 0) ((((lnI t).take (Int.toNat (((lnI t).length : Int)))).drop 1).getD i2 [])).getD 0 []) = ([116, 101, 115, 116]))) = true →
 (roomOk ((rTs (((lnI t).drop 1).take i2)).length + ((((cutL (([32]).getD 0 0) ((((lnI t).take (Int.toNat (((lnI t).length : Int)))).drop 1).getD i2 [])).take (Int.toNat (((cutL (([32]).getD 0 0) ((((lnI t).take (Int.toNat (((lnI t).length : Int)))).drop 1).getD i2 [])).length : Int)))).drop 1).map rdB).length) 24 ∧ (inI64 ((i2 : Int) + (1 : Int)) ∧ (∃ i3 : Nat, (i3 ≤ ((lnI t).drop 1).length ∧ (((lnI t).drop 1).length - i3 < ((lnI t).drop 1).length - i2 ∧ ((jo_impl_ReadModel_3 t i2 i3) ∧ ((jo_impl_ReadModel_4 t) ∧ (((rTs (((lnI t).drop 1).take i2)) ++ ((((cutL (([32]).getD 0 0) ((((lnI t).take (Int.toNat (((lnI t).length : Int)))).drop 1).getD i2 [])).take (Int.toNat (((cutL (([32]).getD 0 0) ((((lnI t).take (Int.toNat (((lnI t).length : Int)))).drop 1).getD i2 [])).length : Int)))).drop 1).map rdB)) = (rTs (((lnI t).drop 1).take i3)) ∧ ((rAs (((lnI t).drop 1).take i2)) = (rAs (((lnI t).drop 1).take i3)) ∧ (((0 : Int) = (0 : Int) ∧ ((0 : Int) = (0 : Int) ∧ ((0 : Int) = (0 : Int) ∧ (True ∧ (True ∧ True))))) ∧ True))))))))))) ∧ ((decide (((cutL (([32]).getD 0 0) ((((lnI t).take (Int.toNat (((lnI t).length : Int)))).drop 1).getD i2 [])).getD 0 []) = ([116, 101, 115, 116]))) = false →
 (roomOk ((rAs (((lnI t).drop 1).take i2)).length + ([((((cutL (([32]).getD 0 0) ((((lnI t).take (Int.toNat (((lnI t).length : Int)))).drop 1).getD i2 [])).take (Int.toNat (((cutL (([32]).getD 0 0) ((((lnI t).take (Int.toNat (((lnI t).length : Int)))).drop 1).getD i2 [])).length : Int)))).drop 1).map rdB)]).length) 24 ∧ (inI64 ((i2 : Int) + (1 : Int)) ∧ (∃ i3 : Nat, (i3 ≤ ((lnI t).drop 1).length ∧ (((lnI t).drop 1).length - i3 < ((lnI t).drop 1).length - i2 ∧ ((jo_impl_ReadModel_3 t i2 i3) ∧ ((jo_impl_ReadModel_4 t) ∧ ((rTs (((lnI t).drop 1).take i2)) = (rTs (((lnI t).drop 1).take i3)) ∧ (((rAs (((lnI t).drop 1).take i2)) ++ ([((((cutL (([32]).getD 0 0) ((((lnI t).take (Int.toNat (((lnI t).length : Int)))).drop 1).getD i2 [])).take (Int.toNat (((cutL (([32]).getD 0 0) ((((lnI t).take (Int.toNat (((lnI t).length : Int)))).drop 1).getD i2 [])).length : Int)))).drop 1).map rdB)])) = (rAs (((lnI t).drop 1).take i3)) ∧ (((0 : Int) = (0 : Int) ∧ ((0 : Int) = (0 : Int) ∧ ((0 : Int) = (0 : Int) ∧ (True ∧ (True ∧ True))))) ∧ True))))))))))))))))))))) ∧ ((decide ((i2 : Int) < (((((lnI t).take (Int.toNat (((lnI t).length : Int)))).drop 1).length : Int)))) = false →
 (((!(numB (1 : Int) ((cutL (([32]).getD 0 0) ((lnI t).getD 0 [])).getD 1 []))) = false →
 (((!(numB (1 : Int) ((cutL (([32]).getD 0 0) ((lnI t).getD 0 [])).getD 2 []))) = false →
 (jo_impl_ReadModel_9 t i2)) ∧ ((!(numB (1 : Int) ((cutL (([32]).getD 0 0) ((lnI t).getD 0 [])).getD 2 []))) = (!false) →
 (jo_impl_ReadModel_10 t i2)))) ∧ ((!(numB (1 : Int) ((cutL (([32]).getD 0 0) ((lnI t).getD 0 [])).getD 1 []))) = (!false) →
 ((true = false →
 (jo_impl_ReadModel_9 t i2)) ∧ (true = (!false) →
 (jo_impl_ReadModel_10 t i2))))))))))))))))))))))))))))))))))))) := by kernel_rfl
theorem oko_impl_ReadModel (hE : AllGood [k_impl_linesOf, k_strings_Split, k_impl_number, k_impl_ValidModel, k_impl_modelText]) (hO : AllO [ko_impl_rowsOf]) (hM : AllM []) (hS : AllS []) : Ctr.OGood ko_impl_ReadModel := by
 refine ⟨fnOk_of at_impl_ReadModel rfl (by decide), ?_⟩
 show ∀ (t : List UInt8), (t.length ≤ 1048576) → OkOwn prog n_impl_ReadModel [.val ⟨.str, t⟩] [⟨(.st .model), rmV t⟩, ⟨(.int .i64), rmC t⟩]
 intro t hp
 refine own_of_awp (own := [81, 89, 94, 95]) (wr := []) (cl := []) (ro := []) hE hO hM hS at_impl_ReadModel body_impl_ReadModel (lo_impl_ReadModel t) ?_
 rewrite [vco_impl_ReadModel t]
 have f0 := lnI_len t
 have f1 := cutL_len 10 t
 have f2 := ln_short t 0
 have f3 := wd_ok ((lnI t).getD 0 [])
 have f4 := okI_no t
 have f6 := rm_facts t
 have f7 : rTs (((lnI t).drop 1).take 0) = [] ∧ rAs (((lnI t).drop 1).take 0) = [] := ⟨rfl, rfl⟩
 refine ⟨?_, fun a0 => ⟨⟨fun a1 => fun a2 => ⟨fun a3 => fun a4 => ⟨fun a5 => ⟨?_, ?_⟩, fun a5 => ⟨(), ⟨?_, ⟨⟨rfl, ⟨trivial, ⟨rfl, trivial⟩⟩⟩, ⟨⟨rfl, ⟨rfl, ⟨rfl, ⟨trivial, ⟨trivial, trivial⟩⟩⟩⟩⟩, trivial⟩⟩⟩⟩⟩, fun a3 => ⟨fun a4 => ⟨?_, ?_⟩, fun a4 => ⟨(), ⟨?_, ⟨⟨rfl, ⟨trivial, ⟨rfl, trivial⟩⟩⟩, ⟨⟨rfl, ⟨rfl, ⟨rfl, ⟨trivial, ⟨trivial, trivial⟩⟩⟩⟩⟩, trivial⟩⟩⟩⟩⟩⟩, fun a1 => ⟨fun a2 => fun a3 => ⟨fun a4 => ⟨?_, ?_⟩, fun a4 => ⟨(), ⟨?_, ⟨⟨rfl, ⟨trivial, ⟨rfl, trivial⟩⟩⟩, ⟨⟨rfl, ⟨rfl, ⟨rfl, ⟨trivial, ⟨trivial, trivial⟩⟩⟩⟩⟩, trivial⟩⟩⟩⟩⟩, fun a2 => ⟨fun a3 => ⟨?_, ?_⟩, fun a3 => ⟨(), ⟨?_, ⟨⟨rfl, ⟨trivial, ⟨rfl, trivial⟩⟩⟩, ⟨⟨rfl, ⟨rfl, ⟨rfl, ⟨trivial, ⟨trivial, trivial⟩⟩⟩⟩⟩, trivial⟩⟩⟩⟩⟩⟩⟩, fun u1 a1 => have b1x0 := okI_eq t; have b1x1 := rT_room t; ⟨?_, fun a2 => ⟨?_, fun a3 => fun a4 => ⟨fun a5 => ⟨?_, ?_⟩, fun a5 => ⟨?_, fun a6 => ⟨?_, fun a7 => ⟨?_, fun a8 => ⟨?_, fun a9 => ⟨?_, fun a10 => ⟨?_, fun a11 => ⟨?_, fun a12 => ⟨⟨0, ⟨?_, ⟨⟨rfl, ⟨trivial, ⟨rfl, ⟨rfl, ⟨rfl, ⟨trivial, ⟨rfl, ⟨rfl, ⟨?_, trivial⟩⟩⟩⟩⟩⟩⟩⟩⟩, ⟨⟨?_, ⟨?_, ⟨?_, ⟨trivial, ⟨trivial, trivial⟩⟩⟩⟩⟩, ⟨?_, ⟨?_, ⟨⟨rfl, ⟨rfl, ⟨rfl, ⟨trivial, ⟨trivial, trivial⟩⟩⟩⟩⟩, trivial⟩⟩⟩⟩⟩⟩⟩, fun i2 a13 => have b13x0 := rT_step ((lnI t).drop 1) i2; have b13x1 := mI_end t i2; have b13x2 := wd_ok (((lnI t).drop 1).getD i2 []); have b13x3 := ln_short t i2; ⟨fun a14 => ⟨?_, fun a15 => ⟨?_, fun a16 => ⟨?_, ⟨?_, ⟨?_, fun a17 => ⟨fun a18 => ⟨?_, ⟨?_, ⟨i2 + 1, ⟨?_, ⟨?_, ⟨⟨rfl, ⟨trivial, ⟨rfl, ⟨rfl, ⟨rfl, ⟨trivial, ⟨rfl, ⟨rfl, ⟨?_, trivial⟩⟩⟩⟩⟩⟩⟩⟩⟩, ⟨⟨rfl, ⟨rfl, ⟨rfl, ⟨trivial, ⟨trivial, trivial⟩⟩⟩⟩⟩, ⟨?_, ⟨?_, ⟨⟨rfl, ⟨rfl, ⟨rfl, ⟨trivial, ⟨trivial, trivial⟩⟩⟩⟩⟩, trivial⟩⟩⟩⟩⟩⟩⟩⟩⟩⟩, fun a18 => ⟨?_, ⟨?_, ⟨i2 + 1, ⟨?_, ⟨?_, ⟨⟨rfl, ⟨trivial, ⟨rfl, ⟨rfl, ⟨rfl, ⟨trivial, ⟨rfl, ⟨rfl, ⟨?_, trivial⟩⟩⟩⟩⟩⟩⟩⟩⟩, ⟨⟨rfl, ⟨rfl, ⟨rfl, ⟨trivial, ⟨trivial, trivial⟩⟩⟩⟩⟩, ⟨?_, ⟨?_, ⟨⟨rfl, ⟨rfl, ⟨rfl, ⟨trivial, ⟨trivial, trivial⟩⟩⟩⟩⟩, trivial⟩⟩⟩⟩⟩⟩⟩⟩⟩⟩⟩⟩⟩⟩⟩⟩, fun a14 => ⟨fun a15 => ⟨fun a16 => ⟨fun a17 => ⟨fun a18 => ⟨?_, fun a19 => ⟨fun a20 => ⟨?_, ?_⟩, fun a20 => ⟨?_, ?_⟩⟩⟩, fun a18 => ⟨fun a19 => ⟨?_, ?_⟩, fun a19 => ⟨?_, ?_⟩⟩⟩, fun a17 => ⟨fun a18 => ⟨?_, fun a19 => ⟨fun a20 => ⟨?_, ?_⟩, fun a20 => ⟨?_, ?_⟩⟩⟩, fun a18 => ⟨fun a19 => ⟨?_, ?_⟩, fun a19 => ⟨?_, ?_⟩⟩⟩⟩, fun a16 => ⟨fun a17 => ⟨fun a18 => ⟨?_, fun a19 => ⟨fun a20 => ⟨?_, ?_⟩, fun a20 => ⟨?_, ?_⟩⟩⟩, fun a18 => ⟨fun a19 => ⟨?_, ?_⟩, fun a19 => ⟨?_, ?_⟩⟩⟩, fun a17 => ⟨fun a18 => ⟨?_, fun a19 => ⟨fun a20 => ⟨?_, ?_⟩, fun a20 => ⟨?_, ?_⟩⟩⟩, fun a18 => ⟨fun a19 => ⟨?_, ?_⟩, fun a19 => ⟨?_, ?_⟩⟩⟩⟩⟩, fun a15 => ⟨fun a16 => ⟨fun a17 => ⟨fun a18 => ⟨?_, fun a19 => ⟨fun a20 => ⟨?_, ?_⟩, fun a20 => ⟨?_, ?_⟩⟩⟩, fun a18 => ⟨fun a19 => ⟨?_, ?_⟩, fun a19 => ⟨?_, ?_⟩⟩⟩, fun a17 => ⟨fun a18 => ⟨?_, fun a19 => ⟨fun a20 => ⟨?_, ?_⟩, fun a20 => ⟨?_, ?_⟩⟩⟩, fun a18 => ⟨fun a19 => ⟨?_, ?_⟩, fun a19 => ⟨?_, ?_⟩⟩⟩⟩, fun a16 => ⟨fun a17 => ⟨fun a18 => ⟨?_, fun a19 => ⟨fun a20 => ⟨?_, ?_⟩, fun a20 => ⟨?_, ?_⟩⟩⟩, fun a18 => ⟨fun a19 => ⟨?_, ?_⟩, fun a19 => ⟨?_, ?_⟩⟩⟩, fun a17 => ⟨fun a18 => ⟨?_, fun a19 => ⟨fun a20 => ⟨?_, ?_⟩, fun a20 => ⟨?_, ?_⟩⟩⟩, fun a18 => ⟨fun a19 => ⟨?_, ?_⟩, fun a19 => ⟨?_, ?_⟩⟩⟩⟩⟩⟩⟩⟩⟩⟩⟩⟩⟩⟩⟩⟩⟩⟩⟩⟩
 all_goals try and_intros
 all_goals first | rfl | trivial | omega | ((try simp only [Int.toNat_natCast, List.take_length, List.getD_cons_zero, decide_eq_true_eq, decide_eq_false_iff_not, Bool.not_eq_true', Bool.not_eq_false', Bool.not_true, Bool.not_false, idxOk, inI64, cutOk, roomOk, List.length_cons, List.length_nil, List.length_map] at *); first | omega | (simp only [List.length_drop] at *; omega) | grind)
theorem ogood_impl_ReadModel : Ctr.OGood ko_impl_ReadModel := oko_impl_ReadModel ⟨good_impl_linesOf, good_strings_Split, good_impl_number, good_impl_ValidModel, good_impl_modelText, trivial⟩ ⟨ogood_impl_rowsOf, trivial⟩ trivial trivial
end
end Go.Proofs.YtkogipcdjalehaaDoor
