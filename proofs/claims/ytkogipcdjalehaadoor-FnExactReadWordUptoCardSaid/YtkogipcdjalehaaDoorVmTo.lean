/- The copies of data. Printed by vmk.py. -/
import Derived.Test.YtkogipcdjalehaaDoorVmUse
import Derived.Test.YtkogipcdjalehaaDoorVmLib
import Derived.Test.YtkogipcdjalehaaDoorVmSz
set_option linter.unusedVariables false
set_option linter.unusedSimpArgs false
set_option linter.unusedSectionVars false
set_option maxRecDepth 4000
set_option maxHeartbeats 4000000
namespace Go.Proofs.YtkogipcdjalehaaDoor
noncomputable section
def k_laws_toSig : Ctr := ⟨n_laws_toSig, [.v (.st .sig)], fun (x : GSig) => ⟨(none, [⟨(.st .sig), x⟩])⟩⟩
def l_laws_toSig (x : GSig) : Nat → LoopInv := fun _ => .none
theorem vc_laws_toSig (x : GSig) : awp (envOf [] [] [] [1]) (bodyOf f_laws_toSig) (l_laws_toSig x) 0 (funPost (envOf [] [] [] [1]) f_laws_toSig fun r => areEq r [⟨(.st .sig), x⟩]) (startState f_laws_toSig [.val ⟨(.st .sig), x⟩]) =
 ((inI64 x.tests →
 (inI64 x.actions →
 x = x))) := by kernel_rfl
theorem ok_laws_toSig (hE : AllGood []) : Ctr.Good k_laws_toSig := by
 refine ⟨fnOk_of at_laws_toSig rfl (by decide), ?_⟩
 show ∀ (x : GSig), True → OkCall prog n_laws_toSig [.val ⟨(.st .sig), x⟩] (· = [⟨(.st .sig), x⟩])
 intro x _
 refine ok_of_awp (wr := []) (cl := []) (ro := [1]) hE at_laws_toSig body_laws_toSig (l_laws_toSig x) ?_
 rewrite [vc_laws_toSig x]
 refine fun a0 => fun a1 => rfl
 all_goals try and_intros
 all_goals first | rfl | trivial | omega | (simp only [decide_eq_true_eq, decide_eq_false_iff_not, idxOk, inI64, inKind, cutOk, makeOk, roomOk] at *; omega) | (simp [idxOk, inI64] at *; omega) | grind
theorem good_laws_toSig : Ctr.Good k_laws_toSig := ok_laws_toSig trivial
end
end Go.Proofs.YtkogipcdjalehaaDoor
