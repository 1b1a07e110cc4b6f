/- Expressions: the signature, the whole form. Printed by vmk.py. -/
import Derived.Test.YtkogipcdjalehaaDoorVmUse
import Derived.Test.YtkogipcdjalehaaDoorVmLib
import Derived.Test.YtkogipcdjalehaaDoorVmExpr
set_option linter.unusedVariables false
set_option linter.unusedSimpArgs false
set_option linter.unusedSectionVars false
set_option maxRecDepth 4000
set_option maxHeartbeats 4000000
namespace Go.Proofs.YtkogipcdjalehaaDoor
noncomputable section
def sigOk (gg : GSig) : Bool := decide (0 ≤ gg.tests ∧ gg.tests ≤ 3) && decide (0 ≤ gg.actions ∧ gg.actions ≤ 4)
def k_impl_ValidSig : Ctr := ⟨n_impl_ValidSig, [.v (.st .sig)], fun (gg : GSig) => ⟨(none, [⟨.bool, sigOk gg⟩])⟩⟩
def l_impl_ValidSig (gg : GSig) : Nat → LoopInv := fun _ => .none
theorem vc_impl_ValidSig (gg : GSig) : awp (envOf [k_impl_within] [] [] [1]) (bodyOf f_impl_ValidSig) (l_impl_ValidSig gg) 0 (funPost (envOf [k_impl_within] [] [] [1]) f_impl_ValidSig fun r => areEq r [⟨.bool, sigOk gg⟩]) (startState f_impl_ValidSig [.val ⟨(.st .sig), gg⟩]) =
 ((inI64 gg.tests →
 ((((decide ((0 : Int) ≤ gg.tests ∧ gg.tests ≤ (3 : Int))) = true) →
 (inI64 gg.actions →
 ((decide ((0 : Int) ≤ gg.actions ∧ gg.actions ≤ (4 : Int))) = (sigOk gg)))) ∧ (((decide ((0 : Int) ≤ gg.tests ∧ gg.tests ≤ (3 : Int))) = (!true)) →
 false = (sigOk gg))))) := by kernel_rfl
theorem ok_impl_ValidSig (hE : AllGood [k_impl_within]) : Ctr.Good k_impl_ValidSig := by
 refine ⟨fnOk_of at_impl_ValidSig rfl (by decide), ?_⟩
 show ∀ (gg : GSig), True → OkCall prog n_impl_ValidSig [.val ⟨(.st .sig), gg⟩] (· = [⟨.bool, sigOk gg⟩])
 intro gg _
 refine ok_of_awp (wr := []) (cl := []) (ro := [1]) hE at_impl_ValidSig body_impl_ValidSig (l_impl_ValidSig gg) ?_
 rewrite [vc_impl_ValidSig gg]
 refine fun a0 => ⟨fun a1 => fun a2 => ?_, fun a1 => ?_⟩
 all_goals try and_intros
 all_goals first | rfl | trivial | (simp_all [sigOk]; done) | (simp_all [sigOk]; omega)
theorem good_impl_ValidSig : Ctr.Good k_impl_ValidSig := ok_impl_ValidSig ⟨good_impl_within, trivial⟩
def k_spec_l01Sig : Ctr := ⟨n_spec_l01Sig, [.v (.st .sig)], fun (gg : GSig) => ⟨(none, [⟨.bool, sigOk gg⟩])⟩⟩
def l_spec_l01Sig (gg : GSig) : Nat → LoopInv := fun _ => .none
theorem vc_spec_l01Sig (gg : GSig) : awp (envOf [k_spec_l00In] [] [] [1]) (bodyOf f_spec_l01Sig) (l_spec_l01Sig gg) 0 (funPost (envOf [k_spec_l00In] [] [] [1]) f_spec_l01Sig fun r => areEq r [⟨.bool, sigOk gg⟩]) (startState f_spec_l01Sig [.val ⟨(.st .sig), gg⟩]) =
 ((inI64 gg.tests →
 ((((decide ((0 : Int) ≤ gg.tests ∧ gg.tests ≤ (3 : Int))) = true) →
 (inI64 gg.actions →
 ((decide ((0 : Int) ≤ gg.actions ∧ gg.actions ≤ (4 : Int))) = (sigOk gg)))) ∧ (((decide ((0 : Int) ≤ gg.tests ∧ gg.tests ≤ (3 : Int))) = (!true)) →
 false = (sigOk gg))))) := by kernel_rfl
theorem ok_spec_l01Sig (hE : AllGood [k_spec_l00In]) : Ctr.Good k_spec_l01Sig := by
 refine ⟨fnOk_of at_spec_l01Sig rfl (by decide), ?_⟩
 show ∀ (gg : GSig), True → OkCall prog n_spec_l01Sig [.val ⟨(.st .sig), gg⟩] (· = [⟨.bool, sigOk gg⟩])
 intro gg _
 refine ok_of_awp (wr := []) (cl := []) (ro := [1]) hE at_spec_l01Sig body_spec_l01Sig (l_spec_l01Sig gg) ?_
 rewrite [vc_spec_l01Sig gg]
 refine fun a0 => ⟨fun a1 => fun a2 => ?_, fun a1 => ?_⟩
 all_goals try and_intros
 all_goals first | rfl | trivial | (simp_all [sigOk]; done) | (simp_all [sigOk]; omega)
theorem good_spec_l01Sig : Ctr.Good k_spec_l01Sig := ok_spec_l01Sig ⟨good_spec_l00In, trivial⟩
end
end Go.Proofs.YtkogipcdjalehaaDoor
