/- Plain facts about lists and budgets, with no program in sight. -/
import Derived.Test.YtkogipcdjalehaaDoorVmUse
set_option linter.unusedVariables false
namespace Go.Proofs.YtkogipcdjalehaaDoor
def szL {α : Type} (f : α → Nat) : List α → Nat
 | [] => 0
 | x :: xs => f x + szL f xs
section
variable {α : Type} (f : α → Nat)
theorem szL_take (d : α) : ∀ (xs : List α) (k : Nat), k < xs.length → szL f (xs.take (k + 1)) = szL f (xs.take k) + f (xs.getD k d)
 | [], k, h => by simp at h
 | x :: xs, 0, h => by simp [szL]
 | x :: xs, k + 1, h => by
  have := szL_take d xs k (by simpa using h)
  simp [szL] at this ⊢; omega
theorem szL_take_le : ∀ (xs : List α) (k : Nat), szL f (xs.take k) ≤ szL f xs
 | [], k => by simp
 | x :: xs, 0 => by simp [szL]
 | x :: xs, k + 1 => by
  have := szL_take_le xs k
  simp [szL]; omega
theorem szL_all (xs : List α) (k : Nat) : xs.length ≤ k → szL f (xs.take k) = szL f xs := fun h => by rw [List.take_of_length_le h]
theorem szL_zero (xs : List α) : szL f (xs.take 0) = 0 := by simp [szL]
theorem szL_getD (d : α) : ∀ (xs : List α) (k : Nat), k < xs.length → f (xs.getD k d) ≤ szL f xs
 | [], k, h => by simp at h
 | x :: xs, 0, h => by simp [szL]
 | x :: xs, k + 1, h => by
  have := szL_getD d xs k (by simpa using h)
  simp [szL] at this ⊢; omega
end
def szR (t : Nat) (left : Int) : Int := if (t : Int) ≤ left then left - t else -1
theorem szR_or (t : Nat) (left : Int) : ((t : Int) ≤ left ∧ szR t left = left - t) ∨ (left < (t : Int) ∧ szR t left = -1) := by
 unfold szR; split
 ·exact .inl ⟨by assumption, rfl⟩
 ·exact .inr ⟨by omega, rfl⟩
noncomputable def eqB {α : Type} (a b : α) : Bool := @decide (a = b) (Classical.propDecidable _)
theorem eqB_true {α : Type} {a b : α} (h : a = b) : true = eqB a b := by simp [eqB, h]
theorem eqB_false {α : Type} {a b : α} (h : a ≠ b) : false = eqB a b := by simp [eqB, h]
@[simp] theorem eqB_iff {α : Type} {a b : α} : eqB a b = true ↔ a = b := by simp [eqB]
@[simp] theorem eqB_iff' {α : Type} {a b : α} : eqB a b = false ↔ a ≠ b := by simp [eqB]
@[simp] theorem eqB_self {α : Type} {a : α} : eqB a a = true := by simp [eqB]
section
variable {α : Type}
theorem take_snoc (d : α) : ∀ (xs : List α) (k : Nat), k < xs.length → xs.take (k + 1) = xs.take k ++ [xs.getD k d]
 | [], k, h => by simp at h
 | x :: xs, 0, h => by simp
 | x :: xs, k + 1, h => by
  have := take_snoc d xs k (by simpa using h)
  simp at this ⊢; exact this
theorem take_same (d : α) (xs ys : List α) (k : Nat) (h1 : k < xs.length) (h2 : k < ys.length) (h : xs.take k = ys.take k) (e : xs.getD k d = ys.getD k d) : xs.take (k + 1) = ys.take (k + 1) := by
 rw [take_snoc d xs k h1, take_snoc d ys k h2, h, e]
theorem take_same_all (xs ys : List α) (k : Nat) (h1 : xs.length ≤ k) (h2 : ys.length ≤ k) (h : xs.take k = ys.take k) : xs = ys := by
 rwa [List.take_of_length_le h1, List.take_of_length_le h2] at h
def fill (xs : List α) (k : Nat) (z : α) : List α := xs.take k ++ List.replicate (xs.length - k) z
theorem fill_zero (xs : List α) (z : α) : List.replicate xs.length z = fill xs 0 z := by simp [fill]
theorem fill_all (xs : List α) (z : α) (k : Nat) (h : xs.length ≤ k) : fill xs k z = xs := by
 simp [fill, List.take_of_length_le h, Nat.sub_eq_zero_of_le h]
theorem length_fill (xs : List α) (z : α) (k : Nat) : k ≤ xs.length → (fill xs k z).length = xs.length := by
 intro h; simp [fill]; omega
theorem fill_set (xs : List α) (z d : α) (k : Nat) (h : k < xs.length) : (fill xs k z).set k (xs.getD k d) = fill xs (k + 1) z := by
 unfold fill
 rw [take_snoc d xs k h, List.set_append_right _ _ (by simp; omega)]
 have e : xs.length - k = (xs.length - (k + 1)) + 1 := by omega
 have e2 : (List.take k xs).length = k := by simp; omega
 rw [e2, Nat.sub_self, e, List.replicate_succ, List.set_cons_zero]
 simp
end
def maxL {α : Type} (f : α → Nat) : List α → Nat
 | [] => 0
 | x :: xs => max (f x) (maxL f xs)
section
variable {α : Type} (f : α → Nat)
theorem maxL_take (d : α) : ∀ (xs : List α) (k : Nat), k < xs.length → maxL f (xs.take (k + 1)) = max (maxL f (xs.take k)) (f (xs.getD k d))
 | [], k, h => by simp at h
 | x :: xs, 0, h => by simp [maxL]
 | x :: xs, k + 1, h => by
  have := maxL_take d xs k (by simpa using h)
  simp [maxL] at this ⊢; omega
theorem maxL_take_le : ∀ (xs : List α) (k : Nat), maxL f (xs.take k) ≤ maxL f xs
 | [], k => by simp
 | x :: xs, 0 => by simp [maxL]
 | x :: xs, k + 1 => by
  have := maxL_take_le xs k
  simp [maxL]; omega
theorem maxL_all (xs : List α) (k : Nat) : xs.length ≤ k → maxL f (xs.take k) = maxL f xs := fun h => by rw [List.take_of_length_le h]
theorem maxL_zero (xs : List α) : maxL f (xs.take 0) = 0 := by simp [maxL]
theorem maxL_getD (d : α) : ∀ (xs : List α) (k : Nat), k < xs.length → f (xs.getD k d) ≤ maxL f xs
 | [], k, h => by simp at h
 | x :: xs, 0, h => by simp [maxL]; omega
 | x :: xs, k + 1, h => by
  have := maxL_getD d xs k (by simpa using h)
  simp [maxL] at this ⊢; omega
end
def allL {α : Type} (f : α → Bool) : List α → Bool
 | [] => true
 | x :: xs => f x && allL f xs
section
variable {α : Type} (f : α → Bool)
theorem allL_append : ∀ (xs ys : List α), allL f (xs ++ ys) = (allL f xs && allL f ys)
 | [], ys => by simp [allL]
 | x :: xs, ys => by simp [allL, allL_append xs ys, Bool.and_assoc]
theorem all_take (d : α) (xs : List α) (k : Nat) (h : k < xs.length) : allL f (xs.take (k + 1)) = (allL f (xs.take k) && f (xs.getD k d)) := by
 rw [take_snoc d xs k h, allL_append]; simp [allL]
theorem all_bad (d : α) : ∀ (xs : List α) (k : Nat), k < xs.length → f (xs.getD k d) = false → allL f xs = false
 | [], k, h, _ => by simp at h
 | x :: xs, 0, h, e => by simp at e; simp [allL, e]
 | x :: xs, k + 1, h, e => by
  have := all_bad d xs k (by simpa using h) (by simpa using e)
  simp [allL, this]
theorem all_done (xs : List α) (k : Nat) : xs.length ≤ k → allL f (xs.take k) = allL f xs := fun h => by rw [List.take_of_length_le h]
theorem all_zero (xs : List α) : allL f (xs.take 0) = true := by simp [allL]
theorem all_getD (d : α) : ∀ (xs : List α) (k : Nat), k < xs.length → allL f xs = true → f (xs.getD k d) = true
 | [], k, h, _ => by simp at h
 | x :: xs, 0, h, e => by simp [allL] at e; simp [e.1]
 | x :: xs, k + 1, h, e => by
  simp only [allL, Bool.and_eq_true] at e
  have := all_getD d xs k (by simpa using h) e.2
  simpa using this
end
end Go.Proofs.YtkogipcdjalehaaDoor
