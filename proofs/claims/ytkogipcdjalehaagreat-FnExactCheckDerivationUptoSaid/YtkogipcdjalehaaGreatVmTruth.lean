/- Truth of conditions at atoms; valid expressions. Printed by vmk.py. -/
import Derived.Test.YtkogipcdjalehaaGreatVmUse
import Derived.Test.YtkogipcdjalehaaGreatVmLib
import Derived.Test.YtkogipcdjalehaaGreatVmExpr
import Derived.Test.YtkogipcdjalehaaGreatVmExpr2
import Derived.Test.YtkogipcdjalehaaGreatVmShaped
set_option linter.unusedVariables false
set_option linter.unusedSimpArgs false
set_option linter.unusedSectionVars false
set_option maxRecDepth 4000
set_option maxHeartbeats 4000000
namespace Go.Proofs.YtkogipcdjalehaaGreat
noncomputable section
def bitAt (a n : Int) : Bool := decide (((Int.toNat (Int.fdiv a (2 ^ n.toNat)) &&& Int.toNat 1 : Nat) : Int) = 1)
def tOp (k n a : Int) (p q : Bool) : Bool := if k = 2 then true else if k = 3 then bitAt a n else if k = 5 then !p else if k = 6 then p || q else if k = 7 then p && q else false
mutual
def truE (a : Int) : GExpr → Bool
 | ⟨k, n, ks⟩ => tOp k n a ((truEs a ks).getD 0 false) ((truEs a ks).getD 1 false)
def truEs (a : Int) : List GExpr → List Bool
 | [] => []
 | k :: ks => truE a k :: truEs a ks
end
theorem truEs_getD (a : Int) (z : GExpr) : ∀ (xs : List GExpr) (i : Nat), i < xs.length → (truEs a xs).getD i false = truE a (xs.getD i z)
 | [], i, h => by simp at h
 | x :: xs, 0, h => by simp [truEs]
 | x :: xs, i + 1, h => by
  have := truEs_getD a z xs i (by simpa using h)
  simpa [truEs] using this
theorem truE_eq (a : Int) (x : GExpr) : truE a x = tOp x.kind x.num a ((truEs a x.kids).getD 0 false) ((truEs a x.kids).getD 1 false) := by
 cases x; rfl
def goodC (x : GExpr) : Bool := treeE 62 62 x && condE x
def goodKid (x : GExpr) (i : Nat) : Prop := goodC (x.kids.getD i ⟨0, 0, []⟩) = true ∧ msz (x.kids.getD i ⟨0, 0, []⟩) < msz x
theorem goodC_kid (x : GExpr) (h : goodC x = true) (i : Nat) (hi : i < x.kids.length) : goodKid x i := by
 unfold goodKid
 simp only [goodC, Bool.and_eq_true] at h ⊢
 rw [treeE_eq, condE_eq] at h
 simp only [Bool.and_eq_true] at h
 refine ⟨⟨all_getD _ _ _ _ hi h.1.2, all_getD _ _ _ _ hi h.2.2⟩, ?_⟩
 have := msz_getD (⟨0, 0, []⟩ : GExpr) x.kids i hi
 have := msz_kids x
 omega
theorem goodC_facts (x : GExpr) (h : goodC x = true) : (x.kind = 3 → 0 ≤ x.num ∧ x.num ≤ 62) ∧
  (x.kind = 5 → x.kids.length = 1 ∧ goodKid x 0) ∧ ((x.kind = 6 ∨ x.kind = 7) → x.kids.length = 2 ∧ goodKid x 0 ∧ goodKid x 1) ∧
  (x.kind = 1 ∨ x.kind = 2 ∨ x.kind = 3 ∨ x.kind = 5 ∨ x.kind = 6 ∨ x.kind = 7) := by
 have hk := goodC_kid x h
 simp only [goodC, Bool.and_eq_true] at h
 rw [treeE_eq, condE_eq, headE_eq] at h
 simp only [Bool.and_eq_true, decide_eq_true_eq] at h
 obtain ⟨⟨⟨⟨h1, h2⟩, _⟩, _⟩, h5, _⟩ := h
 simp only [condK, Bool.or_eq_true, decide_eq_true_eq] at h5
 refine ⟨fun e => ?_, fun e => ?_, fun e => ?_, by omega⟩
 ·simpa [numOk, e] using h2
 ·rw [e] at h1
  have h1' : x.kids.length = 1 := by simp [kidsN] at h1; omega
  exact ⟨h1', hk 0 (by omega)⟩
 ·have h1' : x.kids.length = 2 := by
   rcases e with e | e <;> rw [e] at h1 <;> simp [kidsN] at h1 <;> omega
  exact ⟨h1', hk 0 (by omega), hk 1 (by omega)⟩
theorem truE_facts (a : Int) (x : GExpr) (h : goodC x = true) : (x.kind = 1 → truE a x = false) ∧ (x.kind = 2 → truE a x = true) ∧ (x.kind = 3 → truE a x = bitAt a x.num) ∧
  (x.kind = 5 → truE a x = !truE a (x.kids.getD 0 ⟨0, 0, []⟩)) ∧ (x.kind = 6 → truE a x = (truE a (x.kids.getD 0 ⟨0, 0, []⟩) || truE a (x.kids.getD 1 ⟨0, 0, []⟩))) ∧
  (x.kind = 7 → truE a x = (truE a (x.kids.getD 0 ⟨0, 0, []⟩) && truE a (x.kids.getD 1 ⟨0, 0, []⟩))) := by
 have hf := goodC_facts x h
 rw [truE_eq]
 refine ⟨fun e => ?_, fun e => ?_, fun e => ?_, fun e => ?_, fun e => ?_, fun e => ?_⟩
 ·simp [tOp, e]
 ·simp [tOp, e]
 ·simp [tOp, e]
 ·have := (hf.2.1 e).1
  simp only [tOp, e]
  rw [truEs_getD a ⟨0, 0, []⟩ x.kids 0 (by omega)]; rfl
 ·have := (hf.2.2.1 (.inl e)).1
  simp only [tOp, e]
  rw [truEs_getD a ⟨0, 0, []⟩ x.kids 0 (by omega), truEs_getD a ⟨0, 0, []⟩ x.kids 1 (by omega)]; rfl
 ·have := (hf.2.2.1 (.inr e)).1
  simp only [tOp, e]
  rw [truEs_getD a ⟨0, 0, []⟩ x.kids 0 (by omega), truEs_getD a ⟨0, 0, []⟩ x.kids 1 (by omega)]; rfl
theorem fdiv_bounds (a n : Int) (h : 0 ≤ a ∧ a ≤ 4096) : 0 ≤ Int.fdiv a (2 ^ n.toNat) ∧ Int.fdiv a (2 ^ n.toNat) ≤ 4096 := by
 have e : (2 : Int) ^ n.toNat = ((2 ^ n.toNat : Nat) : Int) := by norm_cast
 have hp : 0 < 2 ^ n.toNat := Nat.pow_pos (by omega)
 rw [e, Int.fdiv_eq_ediv_of_nonneg _ (by omega)]
 refine ⟨Int.ediv_nonneg h.1 (by omega), ?_⟩
 have := Int.ediv_le_self (2 ^ n.toNat : Nat) h.1
 omega
theorem inKind_u64 (n : Int) : inKind .u64 n = (0 ≤ n ∧ n ≤ 18446744073709551615) := rfl
theorem u64_min : IntKind.u64.min = 0 := rfl
theorem u64_max : IntKind.u64.max = 18446744073709551615 := rfl
theorem inKind_i64 (n : Int) : inKind .i64 n = inI64 n := rfl
def kn_impl_truth (n : Nat) : Ctr := ⟨n_impl_truth, [.v (.st .expr), .v (.int .i64)], fun (x : GExpr) (atom : Int) => ⟨(some (msz x < n ∧ goodC x = true ∧ 0 ≤ atom ∧ atom ≤ 4096), [⟨.bool, truE atom x⟩])⟩⟩
def k_impl_truth : Ctr := ⟨n_impl_truth, [.v (.st .expr), .v (.int .i64)], fun (x : GExpr) (atom : Int) => ⟨(some (goodC x = true ∧ 0 ≤ atom ∧ atom ≤ 4096), [⟨.bool, truE atom x⟩])⟩⟩
def l_impl_truth (x : GExpr) (atom : Int) : Nat → LoopInv := fun _ => .none
abbrev q_impl_truth_0 (n : Nat) (x : GExpr) (atom : Int) : Prop := (x.kids.length ≤ 140737488355328 →
 (idxOk (1 : Int) x.kids.length ∧ ((msz (x.kids.getD 1 zE) < n ∧ goodC (x.kids.getD 1 zE) = true ∧ 0 ≤ atom ∧ atom ≤ 4096) ∧ (truE atom (x.kids.getD 1 zE)) = (truE atom x))))
theorem vc_impl_truth (n : Nat) (x : GExpr) (atom : Int) : awp (envOf [kn_impl_truth n] [] [] [2]) (bodyOf f_impl_truth) (l_impl_truth x atom) 0 (funPost (envOf [kn_impl_truth n] [] [] [2]) f_impl_truth fun r => areEq r [⟨.bool, truE atom x⟩]) (startState f_impl_truth [.val ⟨(.st .expr), x⟩, .val ⟨(.int .i64), atom⟩]) =
 ((inI64 x.kind →
 (((decide (x.kind = (2 : Int))) = true →
 true = (truE atom x)) ∧ ((decide (x.kind = (2 : Int))) = false →
 (((decide (x.kind = (3 : Int))) = true →
 (inI64 x.num →
 (((0 : Int) ≤ x.num ∧ (x.num < (64 : Int) ∧ inI64 (atom.fdiv (2 ^ x.num.toNat)))) ∧ (((0 : Int) ≤ (atom.fdiv (2 ^ x.num.toNat)) ∧ ((0 : Int) ≤ (1 : Int) ∧ (inI64 (atom.fdiv (2 ^ x.num.toNat)) ∧ inI64 (1 : Int)))) ∧ (decide (((((atom.fdiv (2 ^ x.num.toNat)).toNat &&& (1 : Int).toNat : Nat) : Int)) = (1 : Int))) = (truE atom x))))) ∧ ((decide (x.kind = (3 : Int))) = false →
 (((decide (x.kind = (5 : Int))) = true →
 (x.kids.length ≤ 140737488355328 →
 (idxOk (0 : Int) x.kids.length ∧ ((msz (x.kids.getD 0 zE) < n ∧ goodC (x.kids.getD 0 zE) = true ∧ 0 ≤ atom ∧ atom ≤ 4096) ∧ (!(truE atom (x.kids.getD 0 zE))) = (truE atom x))))) ∧ ((decide (x.kind = (5 : Int))) = false →
 (((decide (x.kind = (6 : Int))) = true →
 (x.kids.length ≤ 140737488355328 →
 (idxOk (0 : Int) x.kids.length ∧ ((msz (x.kids.getD 0 zE) < n ∧ goodC (x.kids.getD 0 zE) = true ∧ 0 ≤ atom ∧ atom ≤ 4096) ∧ (((truE atom (x.kids.getD 0 zE)) = false →
 (q_impl_truth_0 n x atom)) ∧ ((truE atom (x.kids.getD 0 zE)) = (!false) →
 true = (truE atom x))))))) ∧ ((decide (x.kind = (6 : Int))) = false →
 (((decide (x.kind = (7 : Int))) = true →
 (x.kids.length ≤ 140737488355328 →
 (idxOk (0 : Int) x.kids.length ∧ ((msz (x.kids.getD 0 zE) < n ∧ goodC (x.kids.getD 0 zE) = true ∧ 0 ≤ atom ∧ atom ≤ 4096) ∧ (((truE atom (x.kids.getD 0 zE)) = true →
 (q_impl_truth_0 n x atom)) ∧ ((truE atom (x.kids.getD 0 zE)) = (!true) →
 false = (truE atom x))))))) ∧ ((decide (x.kind = (7 : Int))) = false →
 false = (truE atom x))))))))))))) := by kernel_rfl
theorem ok_impl_truth (n : Nat) (hE : AllGood [kn_impl_truth n]) : Ctr.Good (kn_impl_truth (n + 1)) := by
 refine ⟨fnOk_of at_impl_truth rfl (by decide), ?_⟩
 show ∀ (x : GExpr) (atom : Int), (msz x < n + 1 ∧ goodC x = true ∧ 0 ≤ atom ∧ atom ≤ 4096) → OkCall prog n_impl_truth [.val ⟨(.st .expr), x⟩, .val ⟨(.int .i64), atom⟩] (· = [⟨.bool, truE atom x⟩])
 intro x atom hp
 refine ok_of_awp (wr := []) (cl := []) (ro := [2]) hE at_impl_truth body_impl_truth (l_impl_truth x atom) ?_
 rewrite [vc_impl_truth n x atom]
 have f1 := goodC_facts x hp.2.1
 have f2 := truE_facts atom x hp.2.1
 have f3 := fdiv_bounds atom x.num ⟨hp.2.2.1, hp.2.2.2⟩
 refine fun a0 => ⟨fun a1 => ?_, fun a1 => ⟨fun a2 => fun a3 => ⟨⟨?_, ⟨?_, ?_⟩⟩, ⟨⟨?_, ⟨?_, ⟨?_, ?_⟩⟩⟩, ?_⟩⟩, fun a2 => ⟨fun a3 => fun a4 => ⟨?_, ⟨?_, ?_⟩⟩, fun a3 => ⟨fun a4 => fun a5 => ⟨?_, ⟨?_, ⟨fun a6 => fun a7 => ⟨?_, ⟨?_, ?_⟩⟩, fun a6 => ?_⟩⟩⟩, fun a4 => ⟨fun a5 => fun a6 => ⟨?_, ⟨?_, ⟨fun a7 => fun a8 => ⟨?_, ⟨?_, ?_⟩⟩, fun a7 => ?_⟩⟩⟩, fun a5 => ?_⟩⟩⟩⟩⟩
 all_goals try and_intros
 all_goals first | rfl | trivial | omega | (simp only [decide_eq_true_eq, decide_eq_false_iff_not, idxOk, inI64, inKind_u64, inKind_i64, u64_min, u64_max] at *; omega) | (simp only [goodKid] at *; grind [idxOk, inI64, bitAt, u64_min, u64_max])
theorem all_truth_i  : ∀ n, AllGood [kn_impl_truth n]
 | 0 => ⟨⟨fnOk_of at_impl_truth rfl (by decide), fun _ _ h => absurd h.1 (Nat.not_lt_zero _)⟩, trivial⟩
 | n + 1 => by
  have ih := all_truth_i  n
  exact ⟨ok_impl_truth n ⟨ih.1, trivial⟩, trivial⟩
theorem good_impl_truth  : Ctr.Good k_impl_truth :=
 ⟨fnOk_of at_impl_truth rfl (by decide), fun x atom hp => (all_truth_i  (msz x + 1)).1.2 x atom (⟨Nat.lt_succ_self _, hp⟩)⟩
def kn_spec_l01True (n : Nat) : Ctr := ⟨n_spec_l01True, [.r (.st .expr), .v (.int .i64)], fun (x : GExpr) (atom : Int) => ⟨(some (msz x < n ∧ goodC x = true ∧ 0 ≤ atom ∧ atom ≤ 4096), [⟨.bool, truE atom x⟩])⟩⟩
def k_spec_l01True : Ctr := ⟨n_spec_l01True, [.r (.st .expr), .v (.int .i64)], fun (x : GExpr) (atom : Int) => ⟨(some (goodC x = true ∧ 0 ≤ atom ∧ atom ≤ 4096), [⟨.bool, truE atom x⟩])⟩⟩
def l_spec_l01True (x : GExpr) (atom : Int) : Nat → LoopInv := fun _ => .none
abbrev q_spec_l01True_0 (n : Nat) (x : GExpr) (atom : Int) : Prop := (x.kids.length ≤ 140737488355328 →
 (idxOk (1 : Int) x.kids.length ∧ ((msz (x.kids.getD 1 zE) < n ∧ goodC (x.kids.getD 1 zE) = true ∧ 0 ≤ atom ∧ atom ≤ 4096) ∧ (truE atom (x.kids.getD 1 zE)) = (truE atom x))))
theorem vc_spec_l01True (n : Nat) (x : GExpr) (atom : Int) : awp (envOf [kn_spec_l01True n]) (bodyOf f_spec_l01True) (l_spec_l01True x atom) 0 (funPost (envOf [kn_spec_l01True n]) f_spec_l01True fun r => areEq r [⟨.bool, truE atom x⟩]) (startState f_spec_l01True [.ref ⟨(.st .expr), x⟩, .val ⟨(.int .i64), atom⟩]) =
 ((inI64 x.kind →
 (((decide (x.kind = (1 : Int))) = true →
 false = (truE atom x)) ∧ ((decide (x.kind = (1 : Int))) = false →
 (((decide (x.kind = (2 : Int))) = true →
 true = (truE atom x)) ∧ ((decide (x.kind = (2 : Int))) = false →
 (((decide (x.kind = (3 : Int))) = true →
 (inI64 x.num →
 (inKind .u64 x.num ∧ (((0 : Int) ≤ x.num ∧ (x.num < (64 : Int) ∧ inI64 (atom.fdiv (2 ^ x.num.toNat)))) ∧ (((0 : Int) ≤ (atom.fdiv (2 ^ x.num.toNat)) ∧ ((0 : Int) ≤ (1 : Int) ∧ (inI64 (atom.fdiv (2 ^ x.num.toNat)) ∧ inI64 (1 : Int)))) ∧ (decide (((((atom.fdiv (2 ^ x.num.toNat)).toNat &&& (1 : Int).toNat : Nat) : Int)) = (1 : Int))) = (truE atom x)))))) ∧ ((decide (x.kind = (3 : Int))) = false →
 (((decide (x.kind = (5 : Int))) = true →
 (x.kids.length ≤ 140737488355328 →
 (idxOk (0 : Int) x.kids.length ∧ ((msz (x.kids.getD 0 zE) < n ∧ goodC (x.kids.getD 0 zE) = true ∧ 0 ≤ atom ∧ atom ≤ 4096) ∧ (!(truE atom (x.kids.getD 0 zE))) = (truE atom x))))) ∧ ((decide (x.kind = (5 : Int))) = false →
 (((decide (x.kind = (6 : Int))) = true →
 (x.kids.length ≤ 140737488355328 →
 (idxOk (0 : Int) x.kids.length ∧ ((msz (x.kids.getD 0 zE) < n ∧ goodC (x.kids.getD 0 zE) = true ∧ 0 ≤ atom ∧ atom ≤ 4096) ∧ (((truE atom (x.kids.getD 0 zE)) = false →
 (q_spec_l01True_0 n x atom)) ∧ ((truE atom (x.kids.getD 0 zE)) = (!false) →
 true = (truE atom x))))))) ∧ ((decide (x.kind = (6 : Int))) = false →
 (x.kids.length ≤ 140737488355328 →
 (idxOk (0 : Int) x.kids.length ∧ ((msz (x.kids.getD 0 zE) < n ∧ goodC (x.kids.getD 0 zE) = true ∧ 0 ≤ atom ∧ atom ≤ 4096) ∧ (((truE atom (x.kids.getD 0 zE)) = true →
 (q_spec_l01True_0 n x atom)) ∧ ((truE atom (x.kids.getD 0 zE)) = (!true) →
 false = (truE atom x)))))))))))))))))) := by kernel_rfl
theorem ok_spec_l01True (n : Nat) (hE : AllGood [kn_spec_l01True n]) : Ctr.Good (kn_spec_l01True (n + 1)) := by
 refine ⟨fnOk_of at_spec_l01True rfl (by decide), ?_⟩
 show ∀ (x : GExpr) (atom : Int), (msz x < n + 1 ∧ goodC x = true ∧ 0 ≤ atom ∧ atom ≤ 4096) → OkCall prog n_spec_l01True [.ref ⟨(.st .expr), x⟩, .val ⟨(.int .i64), atom⟩] (· = [⟨.bool, truE atom x⟩])
 intro x atom hp
 refine ok_of_awp (wr := []) (cl := []) (ro := []) hE at_spec_l01True body_spec_l01True (l_spec_l01True x atom) ?_
 rewrite [vc_spec_l01True n x atom]
 have f1 := goodC_facts x hp.2.1
 have f2 := truE_facts atom x hp.2.1
 have f3 := fdiv_bounds atom x.num ⟨hp.2.2.1, hp.2.2.2⟩
 refine fun a0 => ⟨fun a1 => ?_, fun a1 => ⟨fun a2 => ?_, fun a2 => ⟨fun a3 => fun a4 => ⟨?_, ⟨⟨?_, ⟨?_, ?_⟩⟩, ⟨⟨?_, ⟨?_, ⟨?_, ?_⟩⟩⟩, ?_⟩⟩⟩, fun a3 => ⟨fun a4 => fun a5 => ⟨?_, ⟨?_, ?_⟩⟩, fun a4 => ⟨fun a5 => fun a6 => ⟨?_, ⟨?_, ⟨fun a7 => fun a8 => ⟨?_, ⟨?_, ?_⟩⟩, fun a7 => ?_⟩⟩⟩, fun a5 => fun a6 => ⟨?_, ⟨?_, ⟨fun a7 => fun a8 => ⟨?_, ⟨?_, ?_⟩⟩, fun a7 => ?_⟩⟩⟩⟩⟩⟩⟩⟩
 all_goals try and_intros
 all_goals first | rfl | trivial | omega | (simp only [decide_eq_true_eq, decide_eq_false_iff_not, idxOk, inI64, inKind_u64, inKind_i64, u64_min, u64_max] at *; omega) | (simp only [goodKid] at *; grind [idxOk, inI64, bitAt, u64_min, u64_max])
theorem all_truth_s  : ∀ n, AllGood [kn_spec_l01True n]
 | 0 => ⟨⟨fnOk_of at_spec_l01True rfl (by decide), fun _ _ h => absurd h.1 (Nat.not_lt_zero _)⟩, trivial⟩
 | n + 1 => by
  have ih := all_truth_s  n
  exact ⟨ok_spec_l01True n ⟨ih.1, trivial⟩, trivial⟩
theorem good_spec_l01True  : Ctr.Good k_spec_l01True :=
 ⟨fnOk_of at_spec_l01True rfl (by decide), fun x atom hp => (all_truth_s  (msz x + 1)).1.2 x atom (⟨Nat.lt_succ_self _, hp⟩)⟩
end
end Go.Proofs.YtkogipcdjalehaaGreat
