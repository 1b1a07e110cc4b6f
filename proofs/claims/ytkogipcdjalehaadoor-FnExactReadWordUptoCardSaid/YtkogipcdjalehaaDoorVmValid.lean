/- Valid expressions and conditions; atoms. Printed by vmk.py. -/
import Derived.Test.YtkogipcdjalehaaDoorVmUse
import Derived.Test.YtkogipcdjalehaaDoorVmLib
import Derived.Test.YtkogipcdjalehaaDoorVmExpr
import Derived.Test.YtkogipcdjalehaaDoorVmExpr2
import Derived.Test.YtkogipcdjalehaaDoorVmShaped
import Derived.Test.YtkogipcdjalehaaDoorVmTruth
set_option linter.unusedVariables false
set_option linter.unusedSimpArgs false
set_option linter.unusedSectionVars false
set_option maxRecDepth 4000
set_option maxHeartbeats 4000000
namespace Go.Proofs.YtkogipcdjalehaaDoor
noncomputable section
def atomsN (gg : GSig) : Int := 1 * 2 ^ gg.tests.toNat
theorem atomsN_le (gg : GSig) (h : 0 ≤ gg.tests ∧ gg.tests ≤ 3) : 1 ≤ atomsN gg ∧ atomsN gg ≤ 8 := by
 have : gg.tests = 0 ∨ gg.tests = 1 ∨ gg.tests = 2 ∨ gg.tests = 3 := by omega
 unfold atomsN
 rcases this with e | e | e | e <;> rw [e] <;> decide
theorem sigOk_iff (gg : GSig) : sigOk gg = true ↔ (0 ≤ gg.tests ∧ gg.tests ≤ 3) ∧ (0 ≤ gg.actions ∧ gg.actions ≤ 4) := by
 simp [sigOk]
def allN (p : Nat → Bool) : Nat → Bool
 | 0 => true
 | n + 1 => allN p n && p n
theorem allN_bad (p : Nat → Bool) : ∀ (n k : Nat), k < n → p k = false → allN p n = false
 | n + 1, k, h, e => by
  rcases Nat.lt_or_ge k n with h' | h'
  ·simp [allN, allN_bad p n k h' e]
  ·have : k = n := by omega
   subst this; simp [allN, e]
theorem allN_succ (p : Nat → Bool) (n : Nat) : allN p (n + 1) = (allN p n && p n) := rfl
def k_impl_atomsIn : Ctr := ⟨n_impl_atomsIn, [.v (.st .sig)], fun (gg : GSig) => ⟨(some (0 ≤ gg.tests ∧ gg.tests ≤ 3), [⟨(.int .i64), atomsN gg⟩])⟩⟩
def l_impl_atomsIn (gg : GSig) : Nat → LoopInv := fun _ => .none
theorem vc_impl_atomsIn (gg : GSig) : awp (envOf [] [] [] [1]) (bodyOf f_impl_atomsIn) (l_impl_atomsIn gg) 0 (funPost (envOf [] [] [] [1]) f_impl_atomsIn fun r => areEq r [⟨(.int .i64), atomsN gg⟩]) (startState f_impl_atomsIn [.val ⟨(.st .sig), gg⟩]) =
 ((inI64 gg.tests →
 (((0 : Int) ≤ gg.tests ∧ (gg.tests < (64 : Int) ∧ inI64 ((1 : Int) * 2 ^ gg.tests.toNat))) ∧ ((1 : Int) * 2 ^ gg.tests.toNat) = (atomsN gg)))) := by kernel_rfl
theorem ok_impl_atomsIn (hE : AllGood []) : Ctr.Good k_impl_atomsIn := by
 refine ⟨fnOk_of at_impl_atomsIn rfl (by decide), ?_⟩
 show ∀ (gg : GSig), (0 ≤ gg.tests ∧ gg.tests ≤ 3) → OkCall prog n_impl_atomsIn [.val ⟨(.st .sig), gg⟩] (· = [⟨(.int .i64), atomsN gg⟩])
 intro gg hp
 refine ok_of_awp (wr := []) (cl := []) (ro := [1]) hE at_impl_atomsIn body_impl_atomsIn (l_impl_atomsIn gg) ?_
 rewrite [vc_impl_atomsIn gg]
 have f1 := atomsN_le gg hp
 refine fun a0 => ⟨⟨?_, ⟨?_, ?_⟩⟩, ?_⟩
 all_goals try and_intros
 all_goals first | rfl | trivial | (simp only [decide_eq_true_eq, decide_eq_false_iff_not, idxOk, inI64, inKind_u64, inKind_i64, u64_min, u64_max, atomsN] at *; omega)
theorem good_impl_atomsIn : Ctr.Good k_impl_atomsIn := ok_impl_atomsIn trivial
def k_spec_l01Atoms : Ctr := ⟨n_spec_l01Atoms, [.v (.st .sig)], fun (gg : GSig) => ⟨(some (0 ≤ gg.tests ∧ gg.tests ≤ 3), [⟨(.int .i64), atomsN gg⟩])⟩⟩
def l_spec_l01Atoms (gg : GSig) : Nat → LoopInv := fun _ => .none
theorem vc_spec_l01Atoms (gg : GSig) : awp (envOf [] [] [] [1]) (bodyOf f_spec_l01Atoms) (l_spec_l01Atoms gg) 0 (funPost (envOf [] [] [] [1]) f_spec_l01Atoms fun r => areEq r [⟨(.int .i64), atomsN gg⟩]) (startState f_spec_l01Atoms [.val ⟨(.st .sig), gg⟩]) =
 ((inI64 gg.tests →
 (inKind .u64 gg.tests ∧ (((0 : Int) ≤ gg.tests ∧ (gg.tests < (64 : Int) ∧ inI64 ((1 : Int) * 2 ^ gg.tests.toNat))) ∧ ((1 : Int) * 2 ^ gg.tests.toNat) = (atomsN gg))))) := by kernel_rfl
theorem ok_spec_l01Atoms (hE : AllGood []) : Ctr.Good k_spec_l01Atoms := by
 refine ⟨fnOk_of at_spec_l01Atoms rfl (by decide), ?_⟩
 show ∀ (gg : GSig), (0 ≤ gg.tests ∧ gg.tests ≤ 3) → OkCall prog n_spec_l01Atoms [.val ⟨(.st .sig), gg⟩] (· = [⟨(.int .i64), atomsN gg⟩])
 intro gg hp
 refine ok_of_awp (wr := []) (cl := []) (ro := [1]) hE at_spec_l01Atoms body_spec_l01Atoms (l_spec_l01Atoms gg) ?_
 rewrite [vc_spec_l01Atoms gg]
 have f1 := atomsN_le gg hp
 refine fun a0 => ⟨?_, ⟨⟨?_, ⟨?_, ?_⟩⟩, ?_⟩⟩
 all_goals try and_intros
 all_goals first | rfl | trivial | (simp only [decide_eq_true_eq, decide_eq_false_iff_not, idxOk, inI64, inKind_u64, inKind_i64, u64_min, u64_max, atomsN] at *; omega)
theorem good_spec_l01Atoms : Ctr.Good k_spec_l01Atoms := ok_spec_l01Atoms trivial
end
end Go.Proofs.YtkogipcdjalehaaDoor
