/- The law FnExactValidPremises. Printed by vmk.py. -/
import Derived.Test.YtiikoicminohpaaVmUse
import Derived.Test.YtiikoicminohpaaVmLib
import Derived.Test.YtiikoicminohpaaVmSz
import Derived.Test.YtiikoicminohpaaVmTo
import Derived.Test.YtiikoicminohpaaVmEq
import Derived.Test.YtiikoicminohpaaVmPrem
set_option linter.unusedVariables false
set_option linter.unusedSimpArgs false
set_option linter.unusedSectionVars false
namespace Go.Proofs.Ytiikoicminohpaa
noncomputable section

def k_laws_FnExactValidPremises : Ctr := ⟨n_laws_FnExactValidPremises, [.v (.st .sig), .v (.slice (.st .premise))], fun (gg : GSig) (xs : List GPremise) => ⟨(none, [⟨.bool, true⟩])⟩⟩
def l_laws_FnExactValidPremises (gg : GSig) (xs : List GPremise) : Nat → LoopInv := fun _ => .none
theorem vc_laws_FnExactValidPremises (gg : GSig) (xs : List GPremise) : awp (envOf [k_laws_szPremiseS, k_laws_toPremiseS, k_laws_toSig, k_spec_ValidPremises, k_impl_ValidPremises, k_laws_eqPremiseS]) (bodyOf f_laws_FnExactValidPremises) (l_laws_FnExactValidPremises gg xs) 0 (funPost (envOf [k_laws_szPremiseS, k_laws_toPremiseS, k_laws_toSig, k_spec_ValidPremises, k_impl_ValidPremises, k_laws_eqPremiseS]) f_laws_FnExactValidPremises fun r => areEq r [⟨.bool, true⟩]) (startState f_laws_FnExactValidPremises [.val ⟨(.st .sig), gg⟩, .val ⟨(.slice (.st .premise)), xs⟩]) =
  (((0 ≤ (1048576 : Int) ∧ (1048576 : Int) ≤ 1048576) ∧ (inI64 (szR (xs.length + szL sz_premise xs) (1048576 : Int)) →
   (((decide ((szR (xs.length + szL sz_premise xs) (1048576 : Int)) < (0 : Int))) = true →
     true = true) ∧ ((decide ((szR (xs.length + szL sz_premise xs) (1048576 : Int)) < (0 : Int))) = false →
     (xs.length + szL sz_premise xs ≤ 1048576 ∧ (xs.length ≤ 140737488355328 →
       (xs.length + szL sz_premise xs ≤ 1048576 ∧ (xs.length ≤ 140737488355328 →
         (((!((premsOk gg xs) == (premsOk gg xs))) = true →
           false = true) ∧ ((!((premsOk gg xs) == (premsOk gg xs))) = false →
           (xs.length + szL sz_premise xs ≤ 1048576 ∧ (xs.length ≤ 140737488355328 →
             (((!(eqB xs xs)) = true →
               false = true) ∧ ((!(eqB xs xs)) = false →
               true = true))))))))))))))) := by kernel_rfl
set_option maxRecDepth 4000 in
set_option maxHeartbeats 1000000 in
theorem ok_laws_FnExactValidPremises (hE : AllGood [k_laws_szPremiseS, k_laws_toPremiseS, k_laws_toSig, k_spec_ValidPremises, k_impl_ValidPremises, k_laws_eqPremiseS]) : Ctr.Good k_laws_FnExactValidPremises := by
  refine ⟨fnOk_of at_laws_FnExactValidPremises rfl (by decide), ?_⟩
  show ∀ (gg : GSig) (xs : List GPremise), True → OkCall prog n_laws_FnExactValidPremises [.val ⟨(.st .sig), gg⟩, .val ⟨(.slice (.st .premise)), xs⟩] (· = [⟨.bool, true⟩])
  intro gg xs _
  refine ok_of_awp (wr := []) hE at_laws_FnExactValidPremises body_laws_FnExactValidPremises (l_laws_FnExactValidPremises gg xs) ?_
  rewrite [vc_laws_FnExactValidPremises gg xs]
  have f0 := szR_or (xs.length + szL sz_premise xs) 1048576
  refine ⟨?_, fun a0 => ⟨fun a1 => rfl, fun a1 => ⟨?_, fun a2 => ⟨?_, fun a3 => ⟨fun a4 => ?_, fun a4 => ⟨?_, fun a5 => ⟨fun a6 => ?_, fun a6 => rfl⟩⟩⟩⟩⟩⟩⟩
  all_goals try and_intros
  all_goals first | rfl | trivial | omega | (simp only [decide_eq_true_eq, decide_eq_false_iff_not, idxOk, inI64, inKind, cutOk, makeOk, roomOk] at *; omega) | (simp [idxOk, inI64] at *; omega) | grind | (simp_all; done)

theorem good_laws_FnExactValidPremises : Ctr.Good k_laws_FnExactValidPremises := ok_laws_FnExactValidPremises ⟨good_laws_szPremiseS, good_laws_toPremiseS, good_laws_toSig, good_spec_ValidPremises, good_impl_ValidPremises, good_laws_eqPremiseS, trivial⟩

theorem law_FnExactValidPremises : ∀ tvs : List TV, tvs.map TV.τ = [(.st .sig), (.slice (.st .premise))] → OkCall prog n_laws_FnExactValidPremises (tvs.map .val) (· = [⟨.bool, true⟩]) := by
  intro tvs h
  match tvs, h with
  | [⟨t0, a0⟩, ⟨t1, a1⟩], h =>
    simp only [List.map_cons, List.map_nil, List.cons.injEq, and_true] at h
    obtain ⟨rfl, rfl⟩ := h
    exact good_laws_FnExactValidPremises.2 a0 a1 trivial

end
end Go.Proofs.Ytiikoicminohpaa
