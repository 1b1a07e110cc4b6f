/- Premises. Printed by vmk.py. -/
import Derived.Test.YtkogipcdjalehaaGreatVmUse
import Derived.Test.YtkogipcdjalehaaGreatVmLib
import Derived.Test.YtkogipcdjalehaaGreatVmExpr
import Derived.Test.YtkogipcdjalehaaGreatVmExpr2
import Derived.Test.YtkogipcdjalehaaGreatVmShaped
import Derived.Test.YtkogipcdjalehaaGreatVmTruth
import Derived.Test.YtkogipcdjalehaaGreatVmValid
set_option linter.unusedVariables false
set_option linter.unusedSimpArgs false
set_option linter.unusedSectionVars false
set_option maxRecDepth 4000
set_option maxHeartbeats 4000000
namespace Go.Proofs.YtkogipcdjalehaaGreat
noncomputable section
def pmI (gg : GSig) (x : GPremise) : Bool := isC gg x.pre && isC gg x.post && decide (0 ≤ x.act ∧ x.act ≤ gg.actions - 1)
def pmS (gg : GSig) (x : GPremise) : Bool := sigOk gg && pmI gg x
def premsOk (gg : GSig) (xs : List GPremise) : Bool := sigOk gg && decide (xs.length ≤ 12) && allL (pmI gg) xs
theorem pmI_eq (gg : GSig) (x : GPremise) : pmI gg x = (isC gg x.pre && isC gg x.post && decide (0 ≤ x.act ∧ x.act ≤ gg.actions - 1)) := rfl
theorem okC_eq (gg : GSig) (x : GExpr) : okC gg x = (sigOk gg && isC gg x) := by simp [okC, okE, isC, Bool.and_assoc]
theorem sigOk_acts (gg : GSig) (h : sigOk gg = true) : (0 ≤ gg.tests ∧ gg.tests ≤ 3) ∧ 0 ≤ gg.actions ∧ gg.actions ≤ 4 := (sigOk_iff gg).1 h
theorem premsOk_eq (gg : GSig) (xs : List GPremise) : premsOk gg xs = (allL (pmS gg) xs && (sigOk gg && decide ((xs.length : Int) ≤ 12))) := by
 have e : decide ((xs.length : Int) ≤ 12) = decide (xs.length ≤ 12) := by rw [decide_eq_decide]; omega
 rw [premsOk, e]
 cases h : sigOk gg
 ·simp
 ·have : pmS gg = pmI gg := by funext x; simp [pmS, h]
  rw [this]
  cases allL (pmI gg) xs <;> simp
def k_impl_isPremise : Ctr := ⟨n_impl_isPremise, [.v (.st .sig), .v (.st .premise)], fun (gg : GSig) (x : GPremise) => ⟨(some (sigOk gg = true), [⟨.bool, pmI gg x⟩])⟩⟩
def l_impl_isPremise (gg : GSig) (x : GPremise) : Nat → LoopInv := fun _ => .none
abbrev q_impl_isPremise_0 (gg : GSig) (x : GPremise) : Prop := (inI64 x.act →
 (inI64 gg.actions →
 (inI64 (gg.actions - (1 : Int)) ∧ ((decide ((0 : Int) ≤ x.act ∧ x.act ≤ (gg.actions - (1 : Int)))) = (pmI gg x)))))
theorem vc_impl_isPremise (gg : GSig) (x : GPremise) : awp (envOf [k_impl_isCondition, k_impl_within] [] [] [2, 3]) (bodyOf f_impl_isPremise) (l_impl_isPremise gg x) 0 (funPost (envOf [k_impl_isCondition, k_impl_within] [] [] [2, 3]) f_impl_isPremise fun r => areEq r [⟨.bool, pmI gg x⟩]) (startState f_impl_isPremise [.val ⟨(.st .sig), gg⟩, .val ⟨(.st .premise), x⟩]) =
 ((((isC gg x.pre) = true →
 (((isC gg x.post) = true →
 (q_impl_isPremise_0 gg x)) ∧ ((isC gg x.post) = (!true) →
 false = (pmI gg x)))) ∧ ((isC gg x.pre) = (!true) →
 ((false = true →
 (q_impl_isPremise_0 gg x)) ∧ (false = (!true) →
 false = (pmI gg x)))))) := by kernel_rfl
theorem ok_impl_isPremise (hE : AllGood [k_impl_isCondition, k_impl_within]) : Ctr.Good k_impl_isPremise := by
 refine ⟨fnOk_of at_impl_isPremise rfl (by decide), ?_⟩
 show ∀ (gg : GSig) (x : GPremise), (sigOk gg = true) → OkCall prog n_impl_isPremise [.val ⟨(.st .sig), gg⟩, .val ⟨(.st .premise), x⟩] (· = [⟨.bool, pmI gg x⟩])
 intro gg x hp
 refine ok_of_awp (wr := []) (cl := []) (ro := [2, 3]) hE at_impl_isPremise body_impl_isPremise (l_impl_isPremise gg x) ?_
 rewrite [vc_impl_isPremise gg x]
 have f0 := sigOk_acts gg hp
 refine ⟨fun a0 => ⟨fun a1 => fun a2 => fun a3 => ⟨?_, ?_⟩, fun a1 => ?_⟩, fun a0 => ⟨fun a1 => fun a2 => fun a3 => ⟨?_, ?_⟩, fun a1 => ?_⟩⟩
 all_goals try and_intros
 all_goals try rw [pmI_eq]
 all_goals first | rfl | trivial | omega | (simp only [decide_eq_true_eq, decide_eq_false_iff_not, idxOk, inI64] at *; omega) | grind [idxOk, inI64]
theorem good_impl_isPremise : Ctr.Good k_impl_isPremise := ok_impl_isPremise ⟨good_impl_isCondition, good_impl_within, trivial⟩
def k_spec_l02Act : Ctr := ⟨n_spec_l02Act, [.v (.st .sig), .v (.int .i64)], fun (gg : GSig) (act : Int) => ⟨(some (sigOk gg = true), [⟨.bool, decide (0 ≤ act ∧ act ≤ gg.actions - 1)⟩])⟩⟩
def l_spec_l02Act (gg : GSig) (act : Int) : Nat → LoopInv := fun _ => .none
theorem vc_spec_l02Act (gg : GSig) (act : Int) : awp (envOf [k_spec_l00In] [] [] [2]) (bodyOf f_spec_l02Act) (l_spec_l02Act gg act) 0 (funPost (envOf [k_spec_l00In] [] [] [2]) f_spec_l02Act fun r => areEq r [⟨.bool, decide (0 ≤ act ∧ act ≤ gg.actions - 1)⟩]) (startState f_spec_l02Act [.val ⟨(.st .sig), gg⟩, .val ⟨(.int .i64), act⟩]) =
 ((inI64 gg.actions →
 (inI64 (gg.actions - (1 : Int)) ∧ ((decide ((0 : Int) ≤ act ∧ act ≤ (gg.actions - (1 : Int)))) = (decide (0 ≤ act ∧ act ≤ gg.actions - 1)))))) := by kernel_rfl
theorem ok_spec_l02Act (hE : AllGood [k_spec_l00In]) : Ctr.Good k_spec_l02Act := by
 refine ⟨fnOk_of at_spec_l02Act rfl (by decide), ?_⟩
 show ∀ (gg : GSig) (act : Int), (sigOk gg = true) → OkCall prog n_spec_l02Act [.val ⟨(.st .sig), gg⟩, .val ⟨(.int .i64), act⟩] (· = [⟨.bool, decide (0 ≤ act ∧ act ≤ gg.actions - 1)⟩])
 intro gg act hp
 refine ok_of_awp (wr := []) (cl := []) (ro := [2]) hE at_spec_l02Act body_spec_l02Act (l_spec_l02Act gg act) ?_
 rewrite [vc_spec_l02Act gg act]
 have f0 := sigOk_acts gg hp
 refine fun a0 => ⟨?_, ?_⟩
 all_goals try and_intros
 all_goals first | rfl | trivial | omega | (simp only [decide_eq_true_eq, decide_eq_false_iff_not, idxOk, inI64] at *; omega) | grind [idxOk, inI64]
theorem good_spec_l02Act : Ctr.Good k_spec_l02Act := ok_spec_l02Act ⟨good_spec_l00In, trivial⟩
def k_spec_l07Premise : Ctr := ⟨n_spec_l07Premise, [.v (.st .sig), .r (.st .premise)], fun (gg : GSig) (x : GPremise) => ⟨(none, [⟨.bool, pmS gg x⟩])⟩⟩
def l_spec_l07Premise (gg : GSig) (x : GPremise) : Nat → LoopInv := fun _ => .none
theorem vc_spec_l07Premise (gg : GSig) (x : GPremise) : awp (envOf [k_spec_l06Cond, k_spec_l02Act] [] [] [2]) (bodyOf f_spec_l07Premise) (l_spec_l07Premise gg x) 0 (funPost (envOf [k_spec_l06Cond, k_spec_l02Act] [] [] [2]) f_spec_l07Premise fun r => areEq r [⟨.bool, pmS gg x⟩]) (startState f_spec_l07Premise [.val ⟨(.st .sig), gg⟩, .ref ⟨(.st .premise), x⟩]) =
 ((((okC gg x.pre) = true →
 (((okC gg x.post) = true →
 (inI64 x.act →
 (sigOk gg = true ∧ ((decide (0 ≤ x.act ∧ x.act ≤ gg.actions - 1)) = (pmS gg x))))) ∧ ((okC gg x.post) = (!true) →
 false = (pmS gg x)))) ∧ ((okC gg x.pre) = (!true) →
 ((false = true →
 (inI64 x.act →
 (sigOk gg = true ∧ ((decide (0 ≤ x.act ∧ x.act ≤ gg.actions - 1)) = (pmS gg x))))) ∧ (false = (!true) →
 false = (pmS gg x)))))) := by kernel_rfl
theorem ok_spec_l07Premise (hE : AllGood [k_spec_l06Cond, k_spec_l02Act]) : Ctr.Good k_spec_l07Premise := by
 refine ⟨fnOk_of at_spec_l07Premise rfl (by decide), ?_⟩
 show ∀ (gg : GSig) (x : GPremise), True → OkCall prog n_spec_l07Premise [.val ⟨(.st .sig), gg⟩, .ref ⟨(.st .premise), x⟩] (· = [⟨.bool, pmS gg x⟩])
 intro gg x _
 refine ok_of_awp (wr := []) (cl := []) (ro := [2]) hE at_spec_l07Premise body_spec_l07Premise (l_spec_l07Premise gg x) ?_
 rewrite [vc_spec_l07Premise gg x]
 simp only [okC_eq]
 refine ⟨fun a0 => ⟨fun a1 => fun a2 => ⟨?_, ?_⟩, fun a1 => ?_⟩, fun a0 => ⟨fun a1 => fun a2 => ⟨?_, ?_⟩, fun a1 => ?_⟩⟩
 all_goals try and_intros
 all_goals try rw [show pmS gg x = (sigOk gg && (isC gg x.pre && isC gg x.post && decide (0 ≤ x.act ∧ x.act ≤ gg.actions - 1))) from rfl]
 all_goals first | rfl | trivial | omega | (simp only [decide_eq_true_eq, decide_eq_false_iff_not, idxOk, inI64] at *; omega) | grind [idxOk, inI64]
theorem good_spec_l07Premise : Ctr.Good k_spec_l07Premise := ok_spec_l07Premise ⟨good_spec_l06Cond, good_spec_l02Act, trivial⟩
def k_impl_ValidPremises : Ctr := ⟨n_impl_ValidPremises, [.v (.st .sig), .v (.slice (.st .premise))], fun (gg : GSig) (xs : List GPremise) => ⟨(none, [⟨.bool, premsOk gg xs⟩])⟩⟩
def l_impl_ValidPremises (gg : GSig) (xs : List GPremise) : Nat → LoopInv := (fun zb => if Nat.beq zb 0 then .mk (Nat) (fun k => k ≤ xs.length ∧ allL (pmI gg) (xs.take k) = true) (fun k => xs.length - k) [] [0, 1, 3, 5, 7, 8, 9, 10, 11, 12, 13, 14] (fun k => [(17, .imm ⟨(.int .i64), ((k : Int) : Int)⟩)]) [2, 4, 6, 15, 16, 17, 18, 19, 20, 21, 22, 23, 24, 25] (fun k => []) [] [] (fun k => fun _ => .none) else .none)
abbrev q_impl_ValidPremises_0 (gg : GSig) (xs : List GPremise) : Prop := (inI64 ((xs.length : Int)) →
 ((∃ k1 : Nat, ((k1 ≤ xs.length ∧ allL (pmI gg) (xs.take k1) = true) ∧ ((gg = gg ∧ (xs = xs ∧ (((xs.length : Int)) = ((xs.length : Int)) ∧ ((0 : Int) = (k1 : Int) ∧ True)))) ∧ True))) ∧ (∀ k1 : Nat, ((k1 ≤ xs.length ∧ allL (pmI gg) (xs.take k1) = true) →
 (((decide ((k1 : Int) < ((xs.length : Int)))) = true →
 (idxOk (k1 : Int) xs.length ∧ (sigOk gg = true ∧ (((!(pmI gg (e_premise (xs.getD k1 (GPremise.mk zE (0 : Int) zE))))) = true →
 false = (premsOk gg xs)) ∧ ((!(pmI gg (e_premise (xs.getD k1 (GPremise.mk zE (0 : Int) zE))))) = false →
 (inI64 ((k1 : Int) + (1 : Int)) ∧ (∃ k2 : Nat, ((k2 ≤ xs.length ∧ allL (pmI gg) (xs.take k2) = true) ∧ (xs.length - k2 < xs.length - k1 ∧ ((gg = gg ∧ (xs = xs ∧ (((xs.length : Int)) = ((xs.length : Int)) ∧ (((k1 : Int) + (1 : Int)) = (k2 : Int) ∧ True)))) ∧ True)))))))))) ∧ ((decide ((k1 : Int) < ((xs.length : Int)))) = false →
 true = (premsOk gg xs)))))))
theorem vc_impl_ValidPremises (gg : GSig) (xs : List GPremise) : awp (envOf [k_impl_ValidSig, k_impl_isPremise] [] [] [2]) (bodyOf f_impl_ValidPremises) (l_impl_ValidPremises gg xs) 0 (funPost (envOf [k_impl_ValidSig, k_impl_isPremise] [] [] [2]) f_impl_ValidPremises fun r => areEq r [⟨.bool, premsOk gg xs⟩]) (startState f_impl_ValidPremises [.val ⟨(.st .sig), gg⟩, .val ⟨(.slice (.st .premise)), xs⟩]) =
 ((((!(sigOk gg)) = false →
 (inI64 ((xs.length : Int)) →
 (((decide ((12 : Int) < ((xs.length : Int)))) = true →
 false = (premsOk gg xs)) ∧ ((decide ((12 : Int) < ((xs.length : Int)))) = false →
 (q_impl_ValidPremises_0 gg xs))))) ∧ ((!(sigOk gg)) = (!false) →
 ((true = true →
 false = (premsOk gg xs)) ∧ (true = false →
 (q_impl_ValidPremises_0 gg xs)))))) := by kernel_rfl
theorem ok_impl_ValidPremises (hE : AllGood [k_impl_ValidSig, k_impl_isPremise]) : Ctr.Good k_impl_ValidPremises := by
 refine ⟨fnOk_of at_impl_ValidPremises rfl (by decide), ?_⟩
 show ∀ (gg : GSig) (xs : List GPremise), True → OkCall prog n_impl_ValidPremises [.val ⟨(.st .sig), gg⟩, .val ⟨(.slice (.st .premise)), xs⟩] (· = [⟨.bool, premsOk gg xs⟩])
 intro gg xs _
 refine ok_of_awp (wr := []) (cl := []) (ro := [2]) hE at_impl_ValidPremises body_impl_ValidPremises (l_impl_ValidPremises gg xs) ?_
 rewrite [vc_impl_ValidPremises gg xs]
 have f0 := all_zero (pmI gg) xs
 refine ⟨fun a0 => fun a1 => ⟨fun a2 => ?_, fun a2 => fun a3 => ⟨⟨0, ⟨?_, ⟨⟨rfl, ⟨rfl, ⟨rfl, ⟨?_, trivial⟩⟩⟩⟩, trivial⟩⟩⟩, fun k1 a4 => have b4x0 := all_take (pmI gg) (GPremise.mk (GExpr.mk 0 0 []) 0 (GExpr.mk 0 0 [])) xs k1; have b4x1 := all_bad (pmI gg) (GPremise.mk (GExpr.mk 0 0 []) 0 (GExpr.mk 0 0 [])) xs k1; have b4x2 := all_done (pmI gg) xs k1; ⟨fun a5 => ⟨?_, ⟨?_, ⟨fun a6 => ?_, fun a6 => ⟨?_, ⟨k1 + 1, ⟨?_, ⟨?_, ⟨⟨rfl, ⟨rfl, ⟨rfl, ⟨?_, trivial⟩⟩⟩⟩, trivial⟩⟩⟩⟩⟩⟩⟩⟩, fun a5 => ?_⟩⟩⟩, fun a0 => ⟨fun a1 => ?_, fun a1 => fun a2 => ⟨⟨0, ⟨?_, ⟨⟨rfl, ⟨rfl, ⟨rfl, ⟨?_, trivial⟩⟩⟩⟩, trivial⟩⟩⟩, fun k1 a3 => have b3x0 := all_take (pmI gg) (GPremise.mk (GExpr.mk 0 0 []) 0 (GExpr.mk 0 0 [])) xs k1; have b3x1 := all_bad (pmI gg) (GPremise.mk (GExpr.mk 0 0 []) 0 (GExpr.mk 0 0 [])) xs k1; have b3x2 := all_done (pmI gg) xs k1; ⟨fun a4 => ⟨?_, ⟨?_, ⟨fun a5 => ?_, fun a5 => ⟨?_, ⟨k1 + 1, ⟨?_, ⟨?_, ⟨⟨rfl, ⟨rfl, ⟨rfl, ⟨?_, trivial⟩⟩⟩⟩, trivial⟩⟩⟩⟩⟩⟩⟩⟩, fun a4 => ?_⟩⟩⟩⟩
 all_goals try and_intros
 all_goals try simp only [GExpr.eta, GProg.eta, GDerivation.eta, GTriple.eta, GPremise.eta, GClaim.eta, GEquation.eta, GPair.eta, GSpot.eta, e_expr_eq, e_pair_eq, e_equation_eq, e_claim_eq, e_prog_eq, e_spot_eq, e_triple_eq, e_premise_eq, e_derivation_eq] at *
 all_goals try rw [premsOk]
 all_goals first | rfl | trivial | omega | (simp only [decide_eq_true_eq, decide_eq_false_iff_not, idxOk, inI64] at *; omega) | grind [idxOk, inI64]
theorem good_impl_ValidPremises : Ctr.Good k_impl_ValidPremises := ok_impl_ValidPremises ⟨good_impl_ValidSig, good_impl_isPremise, trivial⟩
def k_spec_l07Premises : Ctr := ⟨n_spec_l07Premises, [.v (.st .sig), .v (.slice (.st .premise))], fun (gg : GSig) (xs : List GPremise) => ⟨(none, [⟨.bool, premsOk gg xs⟩])⟩⟩
def l_spec_l07Premises (gg : GSig) (xs : List GPremise) : Nat → LoopInv := (fun zb => if Nat.beq zb 0 then .mk (Nat) (fun k => k ≤ xs.length ∧ allL (pmS gg) (xs.take k) = true) (fun k => xs.length - k) [] [0, 3] (fun k => [(5, .imm ⟨(.int .i64), ((k : Int) : Int)⟩)]) [1, 2, 4, 5, 6, 7, 8, 9, 10, 11, 12, 13, 14, 15, 16, 17, 18, 19, 20, 21, 22, 23, 24] (fun k => []) [] [] (fun k => fun _ => .none) else .none)
theorem vc_spec_l07Premises (gg : GSig) (xs : List GPremise) : awp (envOf [k_spec_l01Sig, k_spec_l07Premise] [] [] [2]) (bodyOf f_spec_l07Premises) (l_spec_l07Premises gg xs) 0 (funPost (envOf [k_spec_l01Sig, k_spec_l07Premise] [] [] [2]) f_spec_l07Premises fun r => areEq r [⟨.bool, premsOk gg xs⟩]) (startState f_spec_l07Premises [.val ⟨(.st .sig), gg⟩, .val ⟨(.slice (.st .premise)), xs⟩]) =
 (((∃ k1 : Nat, ((k1 ≤ xs.length ∧ allL (pmS gg) (xs.take k1) = true) ∧ ((xs = xs ∧ (gg = gg ∧ ((0 : Int) = (k1 : Int) ∧ True))) ∧ True))) ∧ (∀ k1 : Nat, ((k1 ≤ xs.length ∧ allL (pmS gg) (xs.take k1) = true) →
 (inI64 ((xs.length : Int)) →
 (((decide ((k1 : Int) < ((xs.length : Int)))) = true →
 (idxOk (k1 : Int) xs.length ∧ (((!(pmS gg (xs.getD k1 (GPremise.mk zE (0 : Int) zE)))) = true →
 false = (premsOk gg xs)) ∧ ((!(pmS gg (xs.getD k1 (GPremise.mk zE (0 : Int) zE)))) = false →
 (inI64 ((k1 : Int) + (1 : Int)) ∧ (∃ k2 : Nat, ((k2 ≤ xs.length ∧ allL (pmS gg) (xs.take k2) = true) ∧ (xs.length - k2 < xs.length - k1 ∧ ((xs = xs ∧ (gg = gg ∧ (((k1 : Int) + (1 : Int)) = (k2 : Int) ∧ True))) ∧ True))))))))) ∧ ((decide ((k1 : Int) < ((xs.length : Int)))) = false →
 (((sigOk gg) = true →
 (inI64 ((xs.length : Int)) →
 (decide (((xs.length : Int)) ≤ (12 : Int))) = (premsOk gg xs))) ∧ ((sigOk gg) = (!true) →
 false = (premsOk gg xs)))))))))) := by kernel_rfl
theorem ok_spec_l07Premises (hE : AllGood [k_spec_l01Sig, k_spec_l07Premise]) : Ctr.Good k_spec_l07Premises := by
 refine ⟨fnOk_of at_spec_l07Premises rfl (by decide), ?_⟩
 show ∀ (gg : GSig) (xs : List GPremise), True → OkCall prog n_spec_l07Premises [.val ⟨(.st .sig), gg⟩, .val ⟨(.slice (.st .premise)), xs⟩] (· = [⟨.bool, premsOk gg xs⟩])
 intro gg xs _
 refine ok_of_awp (wr := []) (cl := []) (ro := [2]) hE at_spec_l07Premises body_spec_l07Premises (l_spec_l07Premises gg xs) ?_
 rewrite [vc_spec_l07Premises gg xs]
 have f0 := all_zero (pmS gg) xs
 refine ⟨⟨0, ⟨?_, ⟨⟨rfl, ⟨rfl, ⟨?_, trivial⟩⟩⟩, trivial⟩⟩⟩, fun k1 a0 => have b0x0 := all_take (pmS gg) (GPremise.mk (GExpr.mk 0 0 []) 0 (GExpr.mk 0 0 [])) xs k1; have b0x1 := all_bad (pmS gg) (GPremise.mk (GExpr.mk 0 0 []) 0 (GExpr.mk 0 0 [])) xs k1; have b0x2 := all_done (pmS gg) xs k1; fun a1 => ⟨fun a2 => ⟨?_, ⟨fun a3 => ?_, fun a3 => ⟨?_, ⟨k1 + 1, ⟨?_, ⟨?_, ⟨⟨rfl, ⟨rfl, ⟨?_, trivial⟩⟩⟩, trivial⟩⟩⟩⟩⟩⟩⟩, fun a2 => ⟨fun a3 => fun a4 => ?_, fun a3 => ?_⟩⟩⟩
 all_goals try and_intros
 all_goals try rw [premsOk_eq]
 all_goals first | rfl | trivial | omega | (simp only [decide_eq_true_eq, decide_eq_false_iff_not, idxOk, inI64] at *; omega) | grind [idxOk, inI64]
theorem good_spec_l07Premises : Ctr.Good k_spec_l07Premises := ok_spec_l07Premises ⟨good_spec_l01Sig, good_spec_l07Premise, trivial⟩
end
end Go.Proofs.YtkogipcdjalehaaGreat
