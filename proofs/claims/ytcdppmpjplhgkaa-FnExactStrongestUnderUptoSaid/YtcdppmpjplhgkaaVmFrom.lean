/- Sets of atoms; the atoms behind the allowed words of programs, by the reference. Printed by vmk.py. -/
import Derived.Test.YtcdppmpjplhgkaaVmUse
import Derived.Test.YtcdppmpjplhgkaaVmLib
import Derived.Test.YtcdppmpjplhgkaaVmAllows
import Derived.Test.YtcdppmpjplhgkaaVmProg
import Derived.Test.YtcdppmpjplhgkaaVmLeads
import Derived.Test.YtcdppmpjplhgkaaVmLeads2
import Derived.Test.YtcdppmpjplhgkaaVmLeads3
set_option linter.unusedVariables false
set_option linter.unusedSimpArgs false
set_option linter.unusedSectionVars false
namespace Go.Proofs.Ytcdppmpjplhgkaa
noncomputable section

/-- A number to its place among rising ones, once. -/
def putL (v : Int) : List Int → List Int
  | [] => [v]
  | x :: xs => if x < v then x :: putL v xs else if x = v then x :: xs else v :: x :: xs
def ltP (v x : Int) : Bool := decide (x < v)
theorem ltP_eq (v x : Int) : ltP v x = decide (x < v) := rfl
/-- What is laid when so many are passed. -/
def putK (v : Int) (xs : List Int) (k : Nat) : List Int := bif allL (ltP v) (xs.take k) then xs.take k else putL v (xs.take k)
theorem putL_lt (v x : Int) : ∀ ys : List Int, v < x → putL v (ys ++ [x]) = putL v ys ++ [x]
  | [], h => by simp [putL, Int.not_lt.2 (Int.le_of_lt h), Int.ne_of_gt h]
  | y :: ys, h => by
    have := putL_lt v x ys h
    simp only [List.cons_append, putL]
    split
    · rw [this]; rfl
    · split <;> rfl
theorem putL_all (v : Int) : ∀ ys : List Int, allL (ltP v) ys = true → putL v ys = ys ++ [v] ∧ (∀ x, v ≤ x → putL v (ys ++ [x]) = if x = v then ys ++ [x] else ys ++ [v] ++ [x])
  | [], _ => ⟨rfl, fun x hx => by simp [putL, Int.not_lt.2 hx]⟩
  | y :: ys, h => by
    simp only [allL, Bool.and_eq_true, ltP, decide_eq_true_eq] at h
    obtain ⟨h1, h2⟩ := putL_all v ys (by simpa [ltP] using h.2)
    refine ⟨by simp [putL, h.1, h1], fun x hx => ?_⟩
    simp only [List.cons_append, putL, if_pos h.1, h2 x hx]
    split <;> rfl
theorem putL_not (v : Int) (x : Int) : ∀ ys : List Int, allL (ltP v) ys = false → putL v (ys ++ [x]) = putL v ys ++ [x]
  | [], h => by cases h
  | y :: ys, h => by
    simp only [List.cons_append, putL]
    split
    · rename_i hy
      have h' : allL (ltP v) ys = false := by simpa [allL, ltP, hy] using h
      rw [putL_not v x ys h']; rfl
    · split <;> rfl
theorem putK_step (v : Int) (xs : List Int) (k : Nat) (h : k < xs.length) :
    (allL (ltP v) (xs.take k) = true → xs.getD k 0 < v → putK v xs k ++ [xs.getD k 0] = putK v xs (k + 1)) ∧
    (allL (ltP v) (xs.take k) = true → v < xs.getD k 0 → putK v xs k ++ [v] ++ [xs.getD k 0] = putK v xs (k + 1)) ∧
    (allL (ltP v) (xs.take k) = true → xs.getD k 0 = v → putK v xs k ++ [xs.getD k 0] = putK v xs (k + 1)) ∧
    (allL (ltP v) (xs.take k) = false → putK v xs k ++ [xs.getD k 0] = putK v xs (k + 1)) ∧
    allL (ltP v) (xs.take (k + 1)) = (allL (ltP v) (xs.take k) && decide (xs.getD k 0 < v)) := by
  have ht := all_take (ltP v) 0 xs k h
  rw [ltP] at ht
  have hs := take_snoc 0 xs k h
  generalize xs.getD k 0 = y at *
  refine ⟨fun a b => ?_, fun a b => ?_, fun a b => ?_, fun a => ?_, ht⟩
  · unfold putK; rw [ht, a, hs]; simp [b]
  · unfold putK; rw [ht, a, hs]
    have := (putL_all v _ a).2 _ (Int.le_of_lt b)
    rw [if_neg (Int.ne_of_gt b)] at this
    simp [Int.not_lt.2 (Int.le_of_lt b)]
    simpa using this.symm
  · unfold putK; rw [ht, a, hs]
    have := (putL_all v _ a).2 _ (Int.le_of_eq b.symm)
    rw [if_pos b] at this
    simp [b]
    rw [b] at this
    simpa using this.symm
  · unfold putK; rw [ht, a, hs]
    simp [putL_not v _ _ a]
theorem putK_end (v : Int) (xs : List Int) (k : Nat) (h : xs.length ≤ k) : (allL (ltP v) (xs.take k) = true → putK v xs k ++ [v] = putL v xs) ∧ (allL (ltP v) (xs.take k) = false → putK v xs k = putL v xs) := by
  unfold putK
  rw [List.take_of_length_le h]
  refine ⟨fun a => ?_, fun a => ?_⟩
  · rw [a]; exact (putL_all v xs a).1.symm
  · rw [a]; rfl
theorem putK_len (v : Int) (xs : List Int) (k : Nat) : (putK v xs k).length ≤ xs.length + 1 := by
  have hp : ∀ ys : List Int, (putL v ys).length ≤ ys.length + 1 := by
    intro ys
    induction ys with
    | nil => simp [putL]
    | cons y ys ih => simp only [putL]; split <;> (try split) <;> simp <;> omega
  unfold putK
  cases allL (ltP v) (xs.take k)
  · have := hp (xs.take k)
    simp only [cond_false]
    rw [List.length_take] at this; omega
  · simp only [cond_true, List.length_take]; omega
theorem putK_zero (v : Int) (xs : List Int) : [] = putK v xs 0 := by simp [putK, allL]
theorem putL_len (v : Int) (xs : List Int) : (putL v xs).length ≤ xs.length + 1 := by
  induction xs with
  | nil => simp [putL]
  | cons y ys ih => simp only [putL]; split <;> (try split) <;> simp <;> omega

def k_spec_l00Own : Ctr := ⟨n_spec_l00Own, [.v (.slice (.int .i64))], fun (xs : List Int) => ⟨(some (xs.length ≤ 1048576), [⟨(.slice (.int .i64)), xs⟩])⟩⟩
def l_spec_l00Own (xs : List Int) : Nat → LoopInv := fun _ => .none
theorem vc_spec_l00Own (xs : List Int) : awp (envOf []) (bodyOf f_spec_l00Own) (l_spec_l00Own xs) 0 (funPost (envOf []) f_spec_l00Own fun r => areEq r [⟨(.slice (.int .i64)), xs⟩]) (startState f_spec_l00Own [.val ⟨(.slice (.int .i64)), xs⟩]) =
  ((roomOk ((@List.nil Int).length + xs.length) 8 ∧ ([] ++ xs) = xs)) := by kernel_rfl
set_option maxRecDepth 4000 in
set_option maxHeartbeats 1000000 in
theorem ok_spec_l00Own (hE : AllGood []) : Ctr.Good k_spec_l00Own := by
  refine ⟨fnOk_of at_spec_l00Own rfl (by decide), ?_⟩
  show ∀ (xs : List Int), (xs.length ≤ 1048576) → OkCall prog n_spec_l00Own [.val ⟨(.slice (.int .i64)), xs⟩] (· = [⟨(.slice (.int .i64)), xs⟩])
  intro xs hp
  refine ok_of_awp (wr := []) (cl := []) (ro := []) hE at_spec_l00Own body_spec_l00Own (l_spec_l00Own xs) ?_
  rewrite [vc_spec_l00Own xs]
  refine ⟨?_, ?_⟩
  all_goals try and_intros
  all_goals first | rfl | trivial | omega | (simp only [decide_eq_true_eq, decide_eq_false_iff_not, idxOk, inI64, roomOk, List.length_append, List.length_cons, List.length_nil] at *; omega) | grind [idxOk, inI64, roomOk]

theorem good_spec_l00Own : Ctr.Good k_spec_l00Own := ok_spec_l00Own trivial

def k_spec_l00Put : Ctr := ⟨n_spec_l00Put, [.v (.slice (.int .i64)), .v (.int .i64)], fun (xs : List Int) (v : Int) => ⟨(some (xs.length ≤ 1048576), [⟨(.slice (.int .i64)), putL v xs⟩])⟩⟩
def l_spec_l00Put (xs : List Int) (v : Int) : Nat → LoopInv := (fun zb => if Nat.beq zb 0 then .mk (Nat) (fun k => k ≤ xs.length) (fun k => xs.length - k) [] [2, 3, 8] (fun k => [(7, .imm ⟨(.int .i64), ((k : Int) : Int)⟩), (6, .imm ⟨.bool, (!(allL (ltP v) (xs.take k)) : Bool)⟩), (5, .row 8)]) [0, 1, 4, 5, 6, 7, 9, 10, 11, 12, 13, 14, 15, 16, 17, 18, 19, 20, 21, 22, 23, 24, 25, 26, 27, 28, 29, 30, 31, 32, 33, 34, 35, 36, 37, 38, 39, 40, 41, 42, 43, 44, 45, 46, 47, 48] (fun k => [(8, .row T_int64 (.int .i64) (putK v xs k : List Int))]) [] [] (fun k => fun _ => .none) else .none)
abbrev q_spec_l00Put_0 (xs : List Int) (v : Int) (k1 : Nat) : Prop := (idxOk (k1 : Int) xs.length ∧ (inI64 (xs.getD k1 (0 : Int)) →
 (((decide (v < (xs.getD k1 (0 : Int)))) = true →
 (roomOk ((putK v xs k1).length + ([v]).length) 8 ∧ (idxOk (k1 : Int) xs.length ∧ (inI64 (xs.getD k1 (0 : Int)) →
 (roomOk (((putK v xs k1) ++ ([v])).length + ([(xs.getD k1 (0 : Int))]).length) 8 ∧ (inI64 ((k1 : Int) + (1 : Int)) ∧ (∃ k2 : Nat, (k2 ≤ xs.length ∧ (xs.length - k2 < xs.length - k1 ∧ ((xs = xs ∧ (v = v ∧ (True ∧ (True ∧ (true = (!(allL (ltP v) (xs.take k2))) ∧ (((k1 : Int) + (1 : Int)) = (k2 : Int) ∧ True)))))) ∧ ((((putK v xs k1) ++ ([v])) ++ ([(xs.getD k1 (0 : Int))])) = (putK v xs k2) ∧ True))))))))))) ∧ ((decide (v < (xs.getD k1 (0 : Int)))) = false →
 (idxOk (k1 : Int) xs.length ∧ (inI64 (xs.getD k1 (0 : Int)) →
 (roomOk ((putK v xs k1).length + ([(xs.getD k1 (0 : Int))]).length) 8 ∧ (inI64 ((k1 : Int) + (1 : Int)) ∧ (∃ k2 : Nat, (k2 ≤ xs.length ∧ (xs.length - k2 < xs.length - k1 ∧ ((xs = xs ∧ (v = v ∧ (True ∧ (True ∧ (true = (!(allL (ltP v) (xs.take k2))) ∧ (((k1 : Int) + (1 : Int)) = (k2 : Int) ∧ True)))))) ∧ (((putK v xs k1) ++ ([(xs.getD k1 (0 : Int))])) = (putK v xs k2) ∧ True)))))))))))))
abbrev q_spec_l00Put_1 (xs : List Int) (v : Int) (k1 : Nat) : Prop := (idxOk (k1 : Int) xs.length ∧ (inI64 (xs.getD k1 (0 : Int)) →
 (roomOk ((putK v xs k1).length + ([(xs.getD k1 (0 : Int))]).length) 8 ∧ (inI64 ((k1 : Int) + (1 : Int)) ∧ (∃ k2 : Nat, (k2 ≤ xs.length ∧ (xs.length - k2 < xs.length - k1 ∧ ((xs = xs ∧ (v = v ∧ (True ∧ (True ∧ ((!(allL (ltP v) (xs.take k1))) = (!(allL (ltP v) (xs.take k2))) ∧ (((k1 : Int) + (1 : Int)) = (k2 : Int) ∧ True)))))) ∧ (((putK v xs k1) ++ ([(xs.getD k1 (0 : Int))])) = (putK v xs k2) ∧ True)))))))))
theorem vc_spec_l00Put (xs : List Int) (v : Int) : awp (envOf []) (bodyOf f_spec_l00Put) (l_spec_l00Put xs v) 0 (funPost (envOf []) f_spec_l00Put fun r => areEq r [⟨(.slice (.int .i64)), putL v xs⟩]) (startState f_spec_l00Put [.val ⟨(.slice (.int .i64)), xs⟩, .val ⟨(.int .i64), v⟩]) =
  (((∃ k1 : Nat, (k1 ≤ xs.length ∧ ((xs = xs ∧ (v = v ∧ (True ∧ (True ∧ (false = (!(allL (ltP v) (xs.take k1))) ∧ ((0 : Int) = (k1 : Int) ∧ True)))))) ∧ ([] = (putK v xs k1) ∧ True)))) ∧ (∀ k1 : Nat, (k1 ≤ xs.length →
 (inI64 ((xs.length : Int)) →
 (((decide ((k1 : Int) < ((xs.length : Int)))) = true →
 (((!(!(allL (ltP v) (xs.take k1)))) = true →
 (idxOk (k1 : Int) xs.length ∧ (inI64 (xs.getD k1 (0 : Int)) →
 (((decide (v ≤ (xs.getD k1 (0 : Int)))) = true →
 (q_spec_l00Put_0 xs v k1)) ∧ ((decide (v ≤ (xs.getD k1 (0 : Int)))) = false →
 (q_spec_l00Put_1 xs v k1)))))) ∧ ((!(!(allL (ltP v) (xs.take k1)))) = (!true) →
 ((false = true →
 (q_spec_l00Put_0 xs v k1)) ∧ (false = false →
 (q_spec_l00Put_1 xs v k1)))))) ∧ ((decide ((k1 : Int) < ((xs.length : Int)))) = false →
 (((!(!(allL (ltP v) (xs.take k1)))) = true →
 (roomOk ((putK v xs k1).length + ([v]).length) 8 ∧ ((putK v xs k1) ++ ([v])) = (putL v xs))) ∧ ((!(!(allL (ltP v) (xs.take k1)))) = false →
 (putK v xs k1) = (putL v xs)))))))))) := by kernel_rfl
set_option maxRecDepth 4000 in
set_option maxHeartbeats 1000000 in
theorem ok_spec_l00Put (hE : AllGood []) : Ctr.Good k_spec_l00Put := by
  refine ⟨fnOk_of at_spec_l00Put rfl (by decide), ?_⟩
  show ∀ (xs : List Int) (v : Int), (xs.length ≤ 1048576) → OkCall prog n_spec_l00Put [.val ⟨(.slice (.int .i64)), xs⟩, .val ⟨(.int .i64), v⟩] (· = [⟨(.slice (.int .i64)), putL v xs⟩])
  intro xs v hp
  refine ok_of_awp (wr := []) (cl := []) (ro := []) hE at_spec_l00Put body_spec_l00Put (l_spec_l00Put xs v) ?_
  rewrite [vc_spec_l00Put xs v]
  have f0 := putK_zero v xs
  have f1 := all_zero (ltP v) xs
  refine ⟨⟨0, ⟨?_, ⟨⟨rfl, ⟨rfl, ⟨trivial, ⟨trivial, ⟨?_, ⟨?_, trivial⟩⟩⟩⟩⟩⟩, ⟨?_, trivial⟩⟩⟩⟩, fun k1 a0 => have b0x0 := putK_step v xs k1; have b0x1 := putK_end v xs k1; have b0x2 := putK_len v xs k1; fun a1 => ⟨fun a2 => ⟨fun a3 => ⟨?_, fun a4 => ⟨fun a5 => ⟨?_, fun a6 => ⟨fun a7 => ⟨?_, ⟨?_, fun a8 => ⟨?_, ⟨?_, ⟨k1 + 1, ⟨?_, ⟨?_, ⟨⟨rfl, ⟨rfl, ⟨trivial, ⟨trivial, ⟨?_, ⟨?_, trivial⟩⟩⟩⟩⟩⟩, ⟨?_, trivial⟩⟩⟩⟩⟩⟩⟩⟩⟩, fun a7 => ⟨?_, fun a8 => ⟨?_, ⟨?_, ⟨k1 + 1, ⟨?_, ⟨?_, ⟨⟨rfl, ⟨rfl, ⟨trivial, ⟨trivial, ⟨?_, ⟨?_, trivial⟩⟩⟩⟩⟩⟩, ⟨?_, trivial⟩⟩⟩⟩⟩⟩⟩⟩⟩⟩, fun a5 => ⟨?_, fun a6 => ⟨?_, ⟨?_, ⟨k1 + 1, ⟨?_, ⟨?_, ⟨⟨rfl, ⟨rfl, ⟨trivial, ⟨trivial, ⟨?_, ⟨?_, trivial⟩⟩⟩⟩⟩⟩, ⟨?_, trivial⟩⟩⟩⟩⟩⟩⟩⟩⟩⟩, fun a3 => ⟨fun a4 => ⟨?_, fun a5 => ⟨fun a6 => ⟨?_, ⟨?_, fun a7 => ⟨?_, ⟨?_, ⟨k1 + 1, ⟨?_, ⟨?_, ⟨⟨rfl, ⟨rfl, ⟨trivial, ⟨trivial, ⟨?_, ⟨?_, trivial⟩⟩⟩⟩⟩⟩, ⟨?_, trivial⟩⟩⟩⟩⟩⟩⟩⟩⟩, fun a6 => ⟨?_, fun a7 => ⟨?_, ⟨?_, ⟨k1 + 1, ⟨?_, ⟨?_, ⟨⟨rfl, ⟨rfl, ⟨trivial, ⟨trivial, ⟨?_, ⟨?_, trivial⟩⟩⟩⟩⟩⟩, ⟨?_, trivial⟩⟩⟩⟩⟩⟩⟩⟩⟩⟩, fun a4 => ⟨?_, fun a5 => ⟨?_, ⟨?_, ⟨k1 + 1, ⟨?_, ⟨?_, ⟨⟨rfl, ⟨rfl, ⟨trivial, ⟨trivial, ⟨?_, ⟨?_, trivial⟩⟩⟩⟩⟩⟩, ⟨?_, trivial⟩⟩⟩⟩⟩⟩⟩⟩⟩⟩, fun a2 => ⟨fun a3 => ⟨?_, ?_⟩, fun a3 => ?_⟩⟩⟩
  all_goals try and_intros
  all_goals first | rfl | trivial | omega | (simp only [decide_eq_true_eq, decide_eq_false_iff_not, idxOk, inI64, roomOk, List.length_append, List.length_cons, List.length_nil] at *; omega) | grind [idxOk, inI64, roomOk]

theorem good_spec_l00Put : Ctr.Good k_spec_l00Put := ok_spec_l00Put trivial

end
end Go.Proofs.Ytcdppmpjplhgkaa
