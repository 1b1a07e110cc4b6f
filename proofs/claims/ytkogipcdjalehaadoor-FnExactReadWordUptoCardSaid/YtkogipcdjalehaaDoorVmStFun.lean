/- A whole function that is handed variables by their pointers. -/
import Derived.Test.YtkogipcdjalehaaDoorVmOwnFun
set_option linter.unusedVariables false
set_option linter.unusedSimpArgs false
namespace Go.Proofs.YtkogipcdjalehaaDoor
section
variable {P : Program} {E : Env}
theorem BoxR.congr {w : World} {S : Nat → Prop} {B B' : Nat → Nat} {N : Nat} (hB : ∀ j, j < N → B j = B' j) : ∀ {ks : List CK} {ds : List TV} {l : List Value} {fp : List Nat}, (∀ j, CK.p j ∈ ks → j < N) → BoxR w S B ks ds l fp → BoxR w S B' ks ds l fp := by
 intro ks
 induction ks with
 | nil => intro ds l fp _ h; cases ds <;> cases l <;> exact h
 | cons k0 ks ih =>
  intro ds l fp hp h
  cases l with
  | nil => cases k0 <;> cases ds <;> cases h
  | cons x l =>
   cases k0 with
   | d τ =>
    cases ds with
    | nil => cases h
    | cons v ds => exact ⟨h.1, ih (fun j hj => hp j (by simp [hj])) h.2⟩
   | o τ =>
    cases ds with
    | nil => cases h
    | cons v ds =>
     obtain ⟨f1, f2, e, h1, h2⟩ := h
     exact ⟨f1, f2, e, h1, ih (fun j hj => hp j (by simp [hj])) h2⟩
   | p j =>
    have h : x = .pointer (some ⟨B j, 0, none⟩) ∧ BoxR w S B ks ds l fp := by cases ds <;> exact h
    have r := ih (fun j hj => hp j (by simp [hj])) h.2
    have e : x = .pointer (some ⟨B' j, 0, none⟩) := by rw [h.1, hB j (hp j (by simp))]
    cases ds <;> exact ⟨e, r⟩
theorem BoxesR.congr {w : World} {S : Nat → Prop} {B B' : Nat → Nat} {N : Nat} (hB : ∀ j, j < N → B j = B' j) : ∀ {sh : List (List CK)} {k : Nat} {dss : List (List TV)} {fa : List Nat}, k + sh.length ≤ N → (∀ ks ∈ sh, ∀ j, CK.p j ∈ ks → j < N) → BoxesR w S B k sh dss fa → BoxesR w S B' k sh dss fa
 | [], k, dss, fa, _, _, h => by cases dss <;> exact h
 | ks :: sh, k, [], fa, _, _, h => h.elim
 | ks :: sh, k, ds :: dss, fa, hk, hp, h => by
  obtain ⟨l, t, f1, f2, e, h1, h2, h3⟩ := h
  simp only [List.length_cons] at hk
  exact ⟨l, t, f1, f2, e, by rw [← hB k (by omega)]; exact h1, h2.congr hB (hp ks (by simp)), BoxesR.congr hB (by omega) (fun ks' hk' => hp ks' (by simp [hk'])) h3⟩
theorem BoxesR.len {w : World} {S : Nat → Prop} {B : Nat → Nat} : ∀ {sh : List (List CK)} {k : Nat} {dss : List (List TV)} {fa : List Nat}, BoxesR w S B k sh dss fa → sh.length = dss.length
 | [], _, [], _, _ => rfl
 | [], _, _ :: _, _, h => h.elim
 | _ :: _, _, [], _, h => h.elim
 | ks :: sh, k, ds :: dss, fa, h => by
  obtain ⟨l, t, f1, f2, e, h1, h2, h3⟩ := h
  simp [BoxesR.len h3]
end
end Go.Proofs.YtkogipcdjalehaaDoor
