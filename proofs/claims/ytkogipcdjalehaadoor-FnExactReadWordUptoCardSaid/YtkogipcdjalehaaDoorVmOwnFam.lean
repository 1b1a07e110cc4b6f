/- Copies that are wholly the call's own; marks. Printed by vmk.py. -/
import Derived.Test.YtkogipcdjalehaaDoorVmUse
import Derived.Test.YtkogipcdjalehaaDoorVmLib
import Derived.Test.YtkogipcdjalehaaDoorVmSz
import Derived.Test.YtkogipcdjalehaaDoorVmTo
import Derived.Test.YtkogipcdjalehaaDoorVmEq
set_option linter.unusedVariables false
set_option linter.unusedSimpArgs false
set_option linter.unusedSectionVars false
set_option maxRecDepth 4000
set_option maxHeartbeats 4000000
namespace Go.Proofs.YtkogipcdjalehaaDoor
noncomputable section
def mkInts (k : Int) : List Int → List Int
 | [] => []
 | _ :: xs => k :: mkInts (k + 1) xs
theorem mkInts_length : ∀ (k : Int) (xs : List Int), (mkInts k xs).length = xs.length
 | _, [] => rfl
 | k, _ :: xs => by simp [mkInts, mkInts_length (k + 1) xs]
theorem mkInts_getD : ∀ (k : Int) (xs : List Int) (i : Nat) (d : Int), i < xs.length → (mkInts k xs).getD i d = k + i
 | k, [], i, d, h => by simp at h
 | k, _ :: xs, 0, d, h => by simp [mkInts]
 | k, _ :: xs, i + 1, d, h => by
  have := mkInts_getD (k + 1) xs i d (by simpa using h)
  simp [mkInts] at this ⊢; omega
def half {α : Type} (f : List α) (xs : List α) (i : Nat) : List α := f.take i ++ xs.drop i
theorem half_zero {α : Type} (f xs : List α) : xs = half f xs 0 := by simp [half]
theorem half_all {α : Type} (f xs : List α) (i : Nat) (h : f.length = xs.length) (hi : xs.length ≤ i) : half f xs i = f := by
 simp [half, List.take_of_length_le (h ▸ hi), List.drop_eq_nil_of_le hi]
theorem half_length {α : Type} (f xs : List α) (i : Nat) (h : f.length = xs.length) : (half f xs i).length = xs.length := by
 simp [half]; omega
theorem half_set {α : Type} (f xs : List α) (d : α) (i : Nat) (h : f.length = xs.length) (hi : i < xs.length) : (half f xs i).set i (f.getD i d) = half f xs (i + 1) := by
 unfold half
 rw [List.set_append_right _ _ (by simp; omega)]
 have e : i - (List.take i f).length = 0 := by simp; omega
 rw [e, List.drop_eq_getElem_cons (by omega : i < xs.length), List.set_cons_zero, take_snoc d f i (by omega)]
 simp
def mk_laws_markInt64S : MK := ⟨n_laws_markInt64S, ⟨(.slice (.int .i64)), fun (xs : List Int) (k : Int) => (some (0 ≤ k ∧ k + (xs.length : Int) ≤ 4611686018427387904), mkInts k xs, k + (xs.length : Int))⟩⟩
def lm_laws_markInt64S (xs : List Int) (k : Int) : Nat → LoopInv := (fun zb => if Nat.beq zb 0 then .mk (Nat) (fun i => i ≤ xs.length) (fun i => xs.length - i) [] [2, 3] (fun i => [(5, .imm ⟨(.int .i64), ((i : Int) : Int)⟩), (1, .imm ⟨(.int .i64), (k + (i : Int) : Int)⟩), (0, .tree 50)]) [0, 1, 4, 5, 6, 7, 8, 9, 10, 11, 12, 13, 14, 15, 16, 17, 18] (fun i => [(50, .tree (.int .i64) (half (mkInts k xs) xs i : List Int))]) [] [] (fun i => fun _ => .none) else .none)
theorem vcm_laws_markInt64S (xs : List Int) (k : Int) : awp (envO [] [] [] [] []) (bodyOf f_laws_markInt64S) (lm_laws_markInt64S xs k) 0 (markPost f_laws_markInt64S mk_laws_markInt64S.m xs k) (markStart f_laws_markInt64S ⟨(.slice (.int .i64)), xs⟩ k) =
 (((∃ i1 : Nat, (i1 ≤ xs.length ∧ ((True ∧ (k = (k + (i1 : Int)) ∧ ((0 : Int) = (0 : Int) ∧ ((0 : Int) = (i1 : Int) ∧ True)))) ∧ (xs = (half (mkInts k xs) xs i1) ∧ True)))) ∧ (∀ i1 : Nat, (i1 ≤ xs.length →
 (((decide ((i1 : Int) < (((half (mkInts k xs) xs i1).length : Int)))) = true →
 (idxOk (i1 : Int) (half (mkInts k xs) xs i1).length ∧ (inI64 ((k + (i1 : Int)) + (1 : Int)) ∧ (inI64 ((i1 : Int) + (1 : Int)) ∧ (∃ i2 : Nat, (i2 ≤ xs.length ∧ (xs.length - i2 < xs.length - i1 ∧ ((True ∧ (((k + (i1 : Int)) + (1 : Int)) = (k + (i2 : Int)) ∧ ((0 : Int) = (0 : Int) ∧ (((i1 : Int) + (1 : Int)) = (i2 : Int) ∧ True)))) ∧ (((half (mkInts k xs) xs i1).set i1 (k + (i1 : Int))) = (half (mkInts k xs) xs i2) ∧ True))))))))) ∧ ((decide ((i1 : Int) < (((half (mkInts k xs) xs i1).length : Int)))) = false →
 ((k + (i1 : Int)) = (k + (xs.length : Int)) ∧ (half (mkInts k xs) xs i1) = (mkInts k xs)))))))) := by kernel_rfl
theorem okm_laws_markInt64S (hE : AllGood []) (hO : AllO []) (hM : AllM []) (hS : AllS []) : MK.Good mk_laws_markInt64S := by
 refine ⟨fnOk_of at_laws_markInt64S rfl (by decide), mark_of_awp (own := []) (wr := []) (cl := []) (ro := []) hE hO hM hS at_laws_markInt64S body_laws_markInt64S (fun xs k => lm_laws_markInt64S xs k) (fun x => Nat.le_of_ble_eq_true rfl) (Nat.le_of_ble_eq_true (by kernel_rfl)) ?_⟩
 show ∀ (xs : List Int) (k : Int), (0 ≤ k ∧ k + (xs.length : Int) ≤ 4611686018427387904) → inI64 k → awp (envO [] [] [] [] []) (bodyOf f_laws_markInt64S) (lm_laws_markInt64S xs k) 0 (markPost f_laws_markInt64S mk_laws_markInt64S.m xs k) (markStart f_laws_markInt64S ⟨(.slice (.int .i64)), xs⟩ k)
 intro xs k hp hk
 rewrite [vcm_laws_markInt64S xs k]
 have f0 := half_zero (mkInts k xs) xs
 refine ⟨⟨0, ⟨?_, ⟨⟨trivial, ⟨?_, ⟨rfl, ⟨?_, trivial⟩⟩⟩⟩, ⟨?_, trivial⟩⟩⟩⟩, fun i1 a0 => have b0x0 := half_all (mkInts k xs) xs i1 (mkInts_length k xs); have b0x1 := half_length (mkInts k xs) xs i1 (mkInts_length k xs); have b0x2 := half_set (mkInts k xs) xs 0 i1 (mkInts_length k xs); have b0x3 := mkInts_getD k xs i1 0; ⟨fun a1 => ⟨?_, ⟨?_, ⟨?_, ⟨i1 + 1, ⟨?_, ⟨?_, ⟨⟨trivial, ⟨?_, ⟨rfl, ⟨?_, trivial⟩⟩⟩⟩, ⟨?_, trivial⟩⟩⟩⟩⟩⟩⟩⟩, fun a1 => ⟨?_, ?_⟩⟩⟩
 all_goals try and_intros
 all_goals first | rfl | trivial | (simp only [decide_eq_true_eq, decide_eq_false_iff_not, idxOk, inI64, inKind] at *; omega) | (simp only [decide_eq_true_eq, decide_eq_false_iff_not, idxOk, inI64] at *; first | omega | (rw [← half_zero]; done) | grind) | grind
theorem mgood_laws_markInt64S : MK.Good mk_laws_markInt64S := okm_laws_markInt64S trivial trivial trivial trivial
def okInts (k : Int) : List Int → Bool
 | [] => true
 | x :: xs => decide (x = k) && okInts (k + 1) xs
theorem okInts_iff : ∀ (k : Int) (xs : List Int), okInts k xs = true ↔ ∀ i, i < xs.length → xs.getD i 0 = k + i
 | k, [] => by simp [okInts]
 | k, x :: xs => by
  simp only [okInts, Bool.and_eq_true, decide_eq_true_eq, okInts_iff (k + 1) xs]
  constructor
  ·rintro ⟨h1, h2⟩ i hi
   cases i with
   | zero => simp [h1]
   | succ i => have := h2 i (by simpa using hi); simp at this ⊢; omega
  ·intro h
   refine ⟨by have := h 0 (by simp); simpa using this, fun i hi => ?_⟩
   have := h (i + 1) (by simpa using hi)
   simp at this ⊢; omega
theorem okInts_take (k : Int) (xs : List Int) (i : Nat) (h : i < xs.length) : okInts k (xs.take (i + 1)) = (okInts k (xs.take i) && decide (xs.getD i 0 = k + i)) := by
 induction xs generalizing k i with
 | nil => simp at h
 | cons x xs ih =>
  cases i with
  | zero => simp [okInts]
  | succ i =>
   have := ih (k + 1) i (by simpa using h)
   simp only [List.take_succ_cons, okInts, this, Bool.and_assoc, List.getD_cons_succ]
   congr 2
   congr 1
   simp only [eq_iff_iff]
   constructor <;> intro h <;> omega
theorem okInts_bad (k : Int) (xs : List Int) (i : Nat) (h : i < xs.length) (e : xs.getD i 0 ≠ k + i) : okInts k xs = false := by
 cases hb : okInts k xs with
 | false => rfl
 | true => exact absurd ((okInts_iff k xs).1 hb i h) e
theorem okInts_mk (k : Int) (xs : List Int) : okInts k (mkInts k xs) = true :=
 (okInts_iff k _).2 fun i hi => mkInts_getD k xs i 0 (by rwa [mkInts_length] at hi)
def heldI (k : Int) (xs : List Int) : Int := bif okInts k xs then k + (xs.length : Int) else -1
def k_laws_heldInt64S : Ctr := ⟨n_laws_heldInt64S, [.v (.slice (.int .i64)), .v (.int .i64)], fun (xs : List Int) (k : Int) => ⟨(some (0 ≤ k ∧ k + (xs.length : Int) ≤ 4611686018427387904), [⟨(.int .i64), heldI k xs⟩])⟩⟩
def l_laws_heldInt64S (xs : List Int) (k : Int) : Nat → LoopInv := (fun zb => if Nat.beq zb 0 then .mk (Nat) (fun i => i ≤ xs.length ∧ okInts k (xs.take i) = true) (fun i => xs.length - i) [] [2, 3] (fun i => [(5, .imm ⟨(.int .i64), ((i : Int) : Int)⟩), (1, .imm ⟨(.int .i64), (k + (i : Int) : Int)⟩)]) [0, 1, 4, 5, 6, 7, 8, 9, 10, 11, 12, 13, 14, 15, 16, 17, 18, 19, 20] (fun i => []) [] [] (fun i => fun _ => .none) else .none)
theorem vc_laws_heldInt64S (xs : List Int) (k : Int) : awp (envOf []) (bodyOf f_laws_heldInt64S) (l_laws_heldInt64S xs k) 0 (funPost (envOf []) f_laws_heldInt64S fun r => areEq r [⟨(.int .i64), heldI k xs⟩]) (startState f_laws_heldInt64S [.val ⟨(.slice (.int .i64)), xs⟩, .val ⟨(.int .i64), k⟩]) =
 (((∃ i1 : Nat, ((i1 ≤ xs.length ∧ okInts k (xs.take i1) = true) ∧ ((xs = xs ∧ (k = (k + (i1 : Int)) ∧ ((0 : Int) = (i1 : Int) ∧ True))) ∧ True))) ∧ (∀ i1 : Nat, ((i1 ≤ xs.length ∧ okInts k (xs.take i1) = true) →
 (inI64 ((xs.length : Int)) →
 (((decide ((i1 : Int) < ((xs.length : Int)))) = true →
 (idxOk (i1 : Int) xs.length ∧ (inI64 (xs.getD i1 (0 : Int)) →
 (((!(decide ((xs.getD i1 (0 : Int)) = (k + (i1 : Int))))) = true →
 (-1 : Int) = (heldI k xs)) ∧ ((!(decide ((xs.getD i1 (0 : Int)) = (k + (i1 : Int))))) = false →
 (inI64 ((k + (i1 : Int)) + (1 : Int)) ∧ (inI64 ((i1 : Int) + (1 : Int)) ∧ (∃ i2 : Nat, ((i2 ≤ xs.length ∧ okInts k (xs.take i2) = true) ∧ (xs.length - i2 < xs.length - i1 ∧ ((xs = xs ∧ (((k + (i1 : Int)) + (1 : Int)) = (k + (i2 : Int)) ∧ (((i1 : Int) + (1 : Int)) = (i2 : Int) ∧ True))) ∧ True))))))))))) ∧ ((decide ((i1 : Int) < ((xs.length : Int)))) = false →
 (k + (i1 : Int)) = (heldI k xs)))))))) := by kernel_rfl
theorem ok_laws_heldInt64S (hE : AllGood []) : Ctr.Good k_laws_heldInt64S := by
 refine ⟨fnOk_of at_laws_heldInt64S rfl (by decide), ?_⟩
 show ∀ (xs : List Int) (k : Int), (0 ≤ k ∧ k + (xs.length : Int) ≤ 4611686018427387904) → OkCall prog n_laws_heldInt64S [.val ⟨(.slice (.int .i64)), xs⟩, .val ⟨(.int .i64), k⟩] (· = [⟨(.int .i64), heldI k xs⟩])
 intro xs k hp
 refine ok_of_awp (wr := []) (cl := []) (ro := []) hE at_laws_heldInt64S body_laws_heldInt64S (l_laws_heldInt64S xs k) ?_
 rewrite [vc_laws_heldInt64S xs k]
 have f0 : okInts k (xs.take 0) = true := by simp [okInts]
 have f1 : ∀ i, xs.length ≤ i → xs.take i = xs := fun i h => List.take_of_length_le h
 refine ⟨⟨0, ⟨?_, ⟨⟨rfl, ⟨?_, ⟨?_, trivial⟩⟩⟩, trivial⟩⟩⟩, fun i1 a0 => have b0x0 := okInts_take k xs i1; have b0x1 := okInts_bad k xs i1; have b0x2 := all_done (fun _ => true) xs i1; fun a1 => ⟨fun a2 => ⟨?_, fun a3 => ⟨fun a4 => ?_, fun a4 => ⟨?_, ⟨?_, ⟨i1 + 1, ⟨?_, ⟨?_, ⟨⟨rfl, ⟨?_, ⟨?_, trivial⟩⟩⟩, trivial⟩⟩⟩⟩⟩⟩⟩⟩, fun a2 => ?_⟩⟩
 all_goals try and_intros
 all_goals try unfold heldI
 all_goals first | rfl | trivial | omega | (simp only [decide_eq_true_eq, decide_eq_false_iff_not, idxOk, inI64, Bool.not_eq_true', Bool.not_eq_false'] at *; first | omega | grind)
theorem good_laws_heldInt64S : Ctr.Good k_laws_heldInt64S := ok_laws_heldInt64S trivial
end
end Go.Proofs.YtkogipcdjalehaaDoor
