/- The law FnExactCheckDerivation. Printed by vmk.py. -/
import Derived.Test.YtkogipcdjalehaaGreatVmUse
import Derived.Test.YtkogipcdjalehaaGreatVmLib
import Derived.Test.YtkogipcdjalehaaGreatVmSz
import Derived.Test.YtkogipcdjalehaaGreatVmTo
import Derived.Test.YtkogipcdjalehaaGreatVmEq
import Derived.Test.YtkogipcdjalehaaGreatVmDeriv
import Derived.Test.YtkogipcdjalehaaGreatVmDeriv2
import Derived.Test.YtkogipcdjalehaaGreatVmDeriv3
import Derived.Test.YtkogipcdjalehaaGreatVmDeriv4
set_option linter.unusedVariables false
set_option linter.unusedSimpArgs false
set_option linter.unusedSectionVars false
set_option maxRecDepth 4000
set_option maxHeartbeats 4000000
namespace Go.Proofs.YtkogipcdjalehaaGreat
noncomputable section
def k_laws_FnExactCheckDerivation : Ctr := ⟨n_laws_FnExactCheckDerivation, [.v (.st .sig), .v (.slice (.st .premise)), .v (.st .derivation)], fun (gg : GSig) (xs : List GPremise) (d : GDerivation) => ⟨(none, [⟨.bool, true⟩])⟩⟩
def l_laws_FnExactCheckDerivation (gg : GSig) (xs : List GPremise) (d : GDerivation) : Nat → LoopInv := fun _ => .none
abbrev j_laws_FnExactCheckDerivation_0 (xs : List GPremise) (d : GDerivation) : Prop := (xs.length + szL sz_premise xs ≤ 1048576 ∧ (xs.length ≤ 140737488355328 →
 (((!(eqB xs xs)) = true →
 false = true) ∧ ((!(eqB xs xs)) = false →
 (sz_derivation d ≤ 1048576 ∧ (((!(eqB (e_derivation d) d)) = true →
 false = true) ∧ ((!(eqB (e_derivation d) d)) = false →
 true = true)))))))
theorem vc_laws_FnExactCheckDerivation (gg : GSig) (xs : List GPremise) (d : GDerivation) : awp (envOf [k_laws_szPremiseS, k_laws_szDerivation, k_laws_toSig, k_laws_toPremiseS, k_laws_toDerivation, k_spec_CheckDerivation, k_impl_CheckDerivation, k_laws_eqPremiseS, k_laws_eqDerivation] [] [] [3, 5]) (bodyOf f_laws_FnExactCheckDerivation) (l_laws_FnExactCheckDerivation gg xs d) 0 (funPost (envOf [k_laws_szPremiseS, k_laws_szDerivation, k_laws_toSig, k_laws_toPremiseS, k_laws_toDerivation, k_spec_CheckDerivation, k_impl_CheckDerivation, k_laws_eqPremiseS, k_laws_eqDerivation] [] [] [3, 5]) f_laws_FnExactCheckDerivation fun r => areEq r [⟨.bool, true⟩]) (startState f_laws_FnExactCheckDerivation [.val ⟨(.st .sig), gg⟩, .val ⟨(.slice (.st .premise)), xs⟩, .val ⟨(.st .derivation), d⟩]) =
 (((0 ≤ (1048576 : Int) ∧ (1048576 : Int) ≤ 1048576) ∧ (inI64 (szR (xs.length + szL sz_premise xs) (1048576 : Int)) →
 (((decide ((szR (xs.length + szL sz_premise xs) (1048576 : Int)) < (0 : Int))) = true →
 true = true) ∧ ((decide ((szR (xs.length + szL sz_premise xs) (1048576 : Int)) < (0 : Int))) = false →
 ((0 ≤ (szR (xs.length + szL sz_premise xs) (1048576 : Int)) ∧ (szR (xs.length + szL sz_premise xs) (1048576 : Int)) ≤ 1048576) ∧ (inI64 (szR (sz_derivation d) (szR (xs.length + szL sz_premise xs) (1048576 : Int))) →
 (((decide ((szR (sz_derivation d) (szR (xs.length + szL sz_premise xs) (1048576 : Int))) < (0 : Int))) = true →
 true = true) ∧ ((decide ((szR (sz_derivation d) (szR (xs.length + szL sz_premise xs) (1048576 : Int))) < (0 : Int))) = false →
 (xs.length + szL sz_premise xs ≤ 1048576 ∧ (sz_derivation d ≤ 1048576 ∧ (dsz d ≤ 4194304 ∧ (xs.length ≤ 140737488355328 →
 (inI64 (cdN gg xs d) →
 (inI64 (cdC gg xs d) →
 (xs.length + szL sz_premise xs ≤ 1048576 ∧ (xs.length ≤ 140737488355328 →
 (sz_derivation d ≤ 1048576 ∧ (dsz (e_derivation d) ≤ 4194304 ∧ (inI64 (cdN gg xs (e_derivation d)) →
 (inI64 (cdC gg xs (e_derivation d)) →
 (((!(decide ((cdN gg xs (e_derivation d)) = (cdN gg xs d)))) = false →
 (((!(decide ((cdC gg xs (e_derivation d)) = (cdC gg xs d)))) = true →
 false = true) ∧ ((!(decide ((cdC gg xs (e_derivation d)) = (cdC gg xs d)))) = false →
 (j_laws_FnExactCheckDerivation_0 xs d)))) ∧ ((!(decide ((cdN gg xs (e_derivation d)) = (cdN gg xs d)))) = (!false) →
 ((true = true →
 false = true) ∧ (true = false →
 (j_laws_FnExactCheckDerivation_0 xs d)))))))))))))))))))))))))) := by kernel_rfl
theorem ok_laws_FnExactCheckDerivation (hE : AllGood [k_laws_szPremiseS, k_laws_szDerivation, k_laws_toSig, k_laws_toPremiseS, k_laws_toDerivation, k_spec_CheckDerivation, k_impl_CheckDerivation, k_laws_eqPremiseS, k_laws_eqDerivation]) : Ctr.Good k_laws_FnExactCheckDerivation := by
 refine ⟨fnOk_of at_laws_FnExactCheckDerivation rfl (by decide), ?_⟩
 show ∀ (gg : GSig) (xs : List GPremise) (d : GDerivation), True → OkCall prog n_laws_FnExactCheckDerivation [.val ⟨(.st .sig), gg⟩, .val ⟨(.slice (.st .premise)), xs⟩, .val ⟨(.st .derivation), d⟩] (· = [⟨.bool, true⟩])
 intro gg xs d _
 refine ok_of_awp (wr := []) (cl := []) (ro := [3, 5]) hE at_laws_FnExactCheckDerivation body_laws_FnExactCheckDerivation (l_laws_FnExactCheckDerivation gg xs d) ?_
 rewrite [vc_laws_FnExactCheckDerivation gg xs d]
 have f0 := szR_or (xs.length + szL sz_premise xs) 1048576
 have f1 := szR_or (sz_derivation d) (szR (xs.length + szL sz_premise xs) 1048576)
 have f2 := dsz_le d
 refine ⟨?_, fun a0 => ⟨fun a1 => rfl, fun a1 => ⟨?_, fun a2 => ⟨fun a3 => rfl, fun a3 => ⟨?_, ⟨?_, ⟨?_, fun a4 => fun a5 => fun a6 => ⟨?_, fun a7 => ⟨?_, ⟨?_, fun a8 => fun a9 => ⟨fun a10 => ⟨fun a11 => ?_, fun a11 => ⟨?_, fun a12 => ⟨fun a13 => ?_, fun a13 => ⟨?_, ⟨fun a14 => ?_, fun a14 => rfl⟩⟩⟩⟩⟩, fun a10 => ⟨fun a11 => ?_, fun a11 => ⟨?_, fun a12 => ⟨fun a13 => ?_, fun a13 => ⟨?_, ⟨fun a14 => ?_, fun a14 => rfl⟩⟩⟩⟩⟩⟩⟩⟩⟩⟩⟩⟩⟩⟩⟩⟩
 all_goals try and_intros
 all_goals try simp only [GExpr.eta, GProg.eta, GDerivation.eta, GTriple.eta, GPremise.eta, GClaim.eta, GEquation.eta, GPair.eta, GSpot.eta, e_expr_eq, e_pair_eq, e_equation_eq, e_claim_eq, e_prog_eq, e_spot_eq, e_triple_eq, e_premise_eq, e_derivation_eq] at *
 all_goals first | rfl | trivial | omega | (simp only [decide_eq_true_eq, decide_eq_false_iff_not, idxOk, inI64, inKind, cutOk, makeOk, roomOk] at *; omega) | (simp [idxOk, inI64] at *; omega) | grind | (simp_all; done)
theorem good_laws_FnExactCheckDerivation : Ctr.Good k_laws_FnExactCheckDerivation := ok_laws_FnExactCheckDerivation ⟨good_laws_szPremiseS, good_laws_szDerivation, good_laws_toSig, good_laws_toPremiseS, good_laws_toDerivation, good_spec_CheckDerivation, good_impl_CheckDerivation, good_laws_eqPremiseS, good_laws_eqDerivation, trivial⟩
theorem law_FnExactCheckDerivation : ∀ tvs : List TV, tvs.map TV.τ = [(.st .sig), (.slice (.st .premise)), (.st .derivation)] → OkCall prog n_laws_FnExactCheckDerivation (tvs.map .val) (· = [⟨.bool, true⟩]) := by
 intro tvs h
 match tvs, h with
 | [⟨t0, a0⟩, ⟨t1, a1⟩, ⟨t2, a2⟩], h =>
  simp only [List.map_cons, List.map_nil, List.cons.injEq, and_true] at h
  obtain ⟨rfl, rfl, rfl⟩ := h
  exact good_laws_FnExactCheckDerivation.2 a0 a1 a2 trivial
end
end Go.Proofs.YtkogipcdjalehaaGreat
