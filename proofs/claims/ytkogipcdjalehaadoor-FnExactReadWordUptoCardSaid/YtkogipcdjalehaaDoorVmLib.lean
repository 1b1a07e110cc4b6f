/- Plain facts about lists and budgets, with no program in sight. -/
import Derived.Test.YtkogipcdjalehaaDoorVmUse
set_option linter.unusedVariables false
namespace Go.Proofs.YtkogipcdjalehaaDoor
def szL {α : Type} (f : α → Nat) : List α → Nat
 | [] => 0
 | x :: xs => f x + szL f xs
section
variable {α : Type} (f : α → Nat)
end
noncomputable def eqB {α : Type} (a b : α) : Bool := @decide (a = b) (Classical.propDecidable _)
theorem eqB_true {α : Type} {a b : α} (h : a = b) : true = eqB a b := by simp [eqB, h]
theorem eqB_false {α : Type} {a b : α} (h : a ≠ b) : false = eqB a b := by simp [eqB, h]
@[simp] theorem eqB_iff {α : Type} {a b : α} : eqB a b = true ↔ a = b := by simp [eqB]
@[simp] theorem eqB_iff' {α : Type} {a b : α} : eqB a b = false ↔ a ≠ b := by simp [eqB]
@[simp] theorem eqB_self {α : Type} {a : α} : eqB a a = true := by simp [eqB]
section
variable {α : Type}
theorem take_snoc (d : α) : ∀ (xs : List α) (k : Nat), k < xs.length → xs.take (k + 1) = xs.take k ++ [xs.getD k d]
 | [], k, h => by simp at h
 | x :: xs, 0, h => by simp
 | x :: xs, k + 1, h => by
  have := take_snoc d xs k (by simpa using h)
  simp at this ⊢; exact this
theorem take_same (d : α) (xs ys : List α) (k : Nat) (h1 : k < xs.length) (h2 : k < ys.length) (h : xs.take k = ys.take k) (e : xs.getD k d = ys.getD k d) : xs.take (k + 1) = ys.take (k + 1) := by
 rw [take_snoc d xs k h1, take_snoc d ys k h2, h, e]
theorem take_same_all (xs ys : List α) (k : Nat) (h1 : xs.length ≤ k) (h2 : ys.length ≤ k) (h : xs.take k = ys.take k) : xs = ys := by
 rwa [List.take_of_length_le h1, List.take_of_length_le h2] at h
def fill (xs : List α) (k : Nat) (z : α) : List α := xs.take k ++ List.replicate (xs.length - k) z
end
section
variable {α : Type} (f : α → Nat)
end
def allL {α : Type} (f : α → Bool) : List α → Bool
 | [] => true
 | x :: xs => f x && allL f xs
section
variable {α : Type} (f : α → Bool)
theorem allL_append : ∀ (xs ys : List α), allL f (xs ++ ys) = (allL f xs && allL f ys)
 | [], ys => by simp [allL]
 | x :: xs, ys => by simp [allL, allL_append xs ys, Bool.and_assoc]
theorem all_take (d : α) (xs : List α) (k : Nat) (h : k < xs.length) : allL f (xs.take (k + 1)) = (allL f (xs.take k) && f (xs.getD k d)) := by
 rw [take_snoc d xs k h, allL_append]; simp [allL]
theorem all_bad (d : α) : ∀ (xs : List α) (k : Nat), k < xs.length → f (xs.getD k d) = false → allL f xs = false
 | [], k, h, _ => by simp at h
 | x :: xs, 0, h, e => by simp at e; simp [allL, e]
 | x :: xs, k + 1, h, e => by
  have := all_bad d xs k (by simpa using h) (by simpa using e)
  simp [allL, this]
theorem all_done (xs : List α) (k : Nat) : xs.length ≤ k → allL f (xs.take k) = allL f xs := fun h => by rw [List.take_of_length_le h]
theorem all_zero (xs : List α) : allL f (xs.take 0) = true := by simp [allL]
end
end Go.Proofs.YtkogipcdjalehaaDoor
