/- The law FnExactPremiseExpr. Printed by vmk.py. -/
import Derived.Test.YtiikoicminohpaaVmUse
import Derived.Test.YtiikoicminohpaaVmLib
import Derived.Test.YtiikoicminohpaaVmSz
import Derived.Test.YtiikoicminohpaaVmTo
import Derived.Test.YtiikoicminohpaaVmEq
import Derived.Test.YtiikoicminohpaaVmOwnFam
import Derived.Test.YtiikoicminohpaaVmOwnFam2
import Derived.Test.YtiikoicminohpaaVmHeld
import Derived.Test.YtiikoicminohpaaVmPrem
import Derived.Test.YtiikoicminohpaaVmBld
import Derived.Test.YtiikoicminohpaaVmBld2
set_option linter.unusedVariables false
set_option linter.unusedSimpArgs false
set_option linter.unusedSectionVars false
namespace Go.Proofs.Ytiikoicminohpaa
noncomputable section

def mk_laws_markPremise : MK := ⟨n_laws_markPremise, ⟨(.st .premise), fun (x : GPremise) (k : Int) => (some (0 ≤ k ∧ k + (szL cntX x.pre.kids : Int) + (szL cntX x.post.kids : Int) ≤ 4611686018427387904), (GPremise.mk (GExpr.mk x.pre.kind x.pre.num (mkXs k x.pre.kids)) x.act (GExpr.mk x.post.kind x.post.num (mkXs (k + (szL cntX x.pre.kids : Int)) x.post.kids))), k + (szL cntX x.pre.kids : Int) + (szL cntX x.post.kids : Int))⟩⟩
def lm_laws_markPremise (x : GPremise) (k : Int) : Nat → LoopInv := fun _ => .none
theorem vcm_laws_markPremise (x : GPremise) (k : Int) : awp (envO [] [] [mk_laws_markExpr] [8, 12] []) (bodyOf f_laws_markPremise) (lm_laws_markPremise x k) 0 (markPost f_laws_markPremise mk_laws_markPremise.m x k) (markStart f_laws_markPremise ⟨(.st .premise), x⟩ k) =
  (((0 ≤ k ∧ k + (szL cntX (e_expr x.pre).kids : Int) ≤ 4611686018427387904) ∧ ((0 ≤ (k + (szL cntX (e_expr x.pre).kids : Int)) ∧ (k + (szL cntX (e_expr x.pre).kids : Int)) + (szL cntX (e_expr x.post).kids : Int) ≤ 4611686018427387904) ∧ (((k + (szL cntX (e_expr x.pre).kids : Int)) + (szL cntX (e_expr x.post).kids : Int)) = (k + (szL cntX x.pre.kids : Int) + (szL cntX x.post.kids : Int)) ∧ (GPremise.mk (GExpr.mk x.pre.kind x.pre.num ((GExpr.mk (e_expr x.pre).kind (e_expr x.pre).num (mkXs k (e_expr x.pre).kids))).kids) x.act (GExpr.mk x.post.kind x.post.num ((GExpr.mk (e_expr x.post).kind (e_expr x.post).num (mkXs (k + (szL cntX (e_expr x.pre).kids : Int)) (e_expr x.post).kids))).kids)) = (GPremise.mk (GExpr.mk x.pre.kind x.pre.num (mkXs k x.pre.kids)) x.act (GExpr.mk x.post.kind x.post.num (mkXs (k + (szL cntX x.pre.kids : Int)) x.post.kids))))))) := by kernel_rfl
set_option maxRecDepth 4000 in
set_option maxHeartbeats 1000000 in
theorem okm_laws_markPremise (hE : AllGood []) (hO : AllO []) (hM : AllM [mk_laws_markExpr]) : MK.Good mk_laws_markPremise := by
  refine ⟨fnOk_of at_laws_markPremise rfl (by decide), mark_of_awp (own := [8, 12]) (wr := []) (cl := []) (ro := []) hE hO hM at_laws_markPremise body_laws_markPremise (fun x k => lm_laws_markPremise x k) (fun x => Nat.le_of_ble_eq_true rfl) (Nat.le_of_ble_eq_true (by kernel_rfl)) ?_⟩
  show ∀ (x : GPremise) (k : Int), (0 ≤ k ∧ k + (szL cntX x.pre.kids : Int) + (szL cntX x.post.kids : Int) ≤ 4611686018427387904) → inI64 k → awp (envO [] [] [mk_laws_markExpr] [8, 12] []) (bodyOf f_laws_markPremise) (lm_laws_markPremise x k) 0 (markPost f_laws_markPremise mk_laws_markPremise.m x k) (markStart f_laws_markPremise ⟨(.st .premise), x⟩ k)
  intro x k hp hk
  rewrite [vcm_laws_markPremise x k]
  refine ⟨?_, ⟨?_, ⟨?_, ?_⟩⟩⟩
  all_goals try and_intros
  all_goals try simp only [GExpr.eta, GProg.eta, GDerivation.eta, GTriple.eta, GPremise.eta, GClaim.eta, GEquation.eta, GPair.eta, GSpot.eta, e_expr_eq, e_pair_eq, e_equation_eq, e_claim_eq, e_prog_eq, e_spot_eq, e_triple_eq, e_premise_eq, e_derivation_eq] at *
  all_goals first | rfl | trivial | omega | (simp only [decide_eq_true_eq, decide_eq_false_iff_not, idxOk, inI64, inKind, cutOk, makeOk, roomOk] at *; omega) | (simp [idxOk, inI64] at *; omega) | grind

theorem mgood_laws_markPremise : MK.Good mk_laws_markPremise := okm_laws_markPremise trivial trivial ⟨mgood_laws_markExpr, trivial⟩

mutual
theorem cntX_szE : ∀ x : GExpr, cntX x = 2 + 2 * sz_expr x
  | ⟨k, n, ks⟩ => by
    have := cntXs_szE ks
    simp only [cntX, sz_expr, this, szs_expr_eq]
theorem cntXs_szE : ∀ xs : List GExpr, cntXs xs = 2 * (xs.length + szL sz_expr xs)
  | [] => by simp [cntXs, szL]
  | x :: xs => by
    have h1 := cntX_szE x
    have h2 := cntXs_szE xs
    simp only [cntXs, szL, List.length_cons, h1, h2]; omega
end
theorem cnt_szE (x : GExpr) : szL cntX x.kids = 2 * sz_expr x := by
  have := cntXs_szE x.kids
  rw [cntXs_eq] at this
  rw [this, sz_expr_eq]
theorem prV_sz (gg : GSig) (x : GPremise) : sz_expr (prV gg x) ≤ 1048576 := by
  unfold prV
  split
  · rename_i h; exact isE_sz gg _ h.2.2
  · decide
theorem held_prV (gg : GSig) (x : GPremise) : heldXs 1 (mkXs 1 (prV gg x).kids) = 1 + 2 * (sz_expr (prV gg x) : Int) := by
  rw [heldXs_mk, cnt_szE]; omega
theorem cnt_mkXs (k : Int) (x : GExpr) : szL cntX (mkXs k x.kids) = 2 * sz_expr x := by
  have h := cntXs_mk k x.kids
  rw [cntXs_eq, cntXs_eq, cnt_szE] at h
  exact h

def k_laws_FnExactPremiseExpr : Ctr := ⟨n_laws_FnExactPremiseExpr, [.v (.st .sig), .v (.st .premise)], fun (gg : GSig) (x : GPremise) => ⟨(none, [⟨.bool, true⟩])⟩⟩
def l_laws_FnExactPremiseExpr (gg : GSig) (x : GPremise) : Nat → LoopInv := fun _ => .none
abbrev q_laws_FnExactPremiseExpr_0 (x : GPremise) : Prop := (x.pre.kind = x.pre.kind ∧ (x.pre.num = x.pre.num ∧ ((3102 : Nat) = 3102 ∧ (x.act = x.act ∧ (x.post.kind = x.post.kind ∧ (x.post.num = x.post.num ∧ ((3106 : Nat) = 3106 ∧ True)))))))
abbrev q_laws_FnExactPremiseExpr_1 (gg : GSig) (x : GPremise) : Prop := ((decide ((heldXs (1 : Int) (GExpr.mk (prV gg (e_premise x)).kind (prV gg (e_premise x)).num ((GExpr.mk (e_expr (prV gg (e_premise x))).kind (e_expr (prV gg (e_premise x))).num (mkXs (1 : Int) (e_expr (prV gg (e_premise x))).kids))).kids).kids) < (0 : Int))) = true →
 false = true)
abbrev q_laws_FnExactPremiseExpr_2 (gg : GSig) (x : GPremise) : Prop := ((!(decide ((heldXs (1 : Int) (GExpr.mk (prV gg (e_premise x)).kind (prV gg (e_premise x)).num ((GExpr.mk (e_expr (prV gg (e_premise x))).kind (e_expr (prV gg (e_premise x))).num (mkXs (1 : Int) (e_expr (prV gg (e_premise x))).kids))).kids).kids) = ((1 : Int) + (szL cntX (e_expr (prV gg (e_premise x))).kids : Int))))) = true →
 false = true)
abbrev q_laws_FnExactPremiseExpr_3 (gg : GSig) (x : GPremise) : Prop := ((0 ≤ (1 : Int) ∧ (1 : Int) + (szL cntX (GExpr.mk (prV gg (e_premise x)).kind (prV gg (e_premise x)).num ((GExpr.mk (e_expr (prV gg (e_premise x))).kind (e_expr (prV gg (e_premise x))).num (mkXs (1 : Int) (e_expr (prV gg (e_premise x))).kids))).kids).kids : Int) ≤ 4611686018427387904) ∧ (inI64 (heldXs (1 : Int) (GExpr.mk (prV gg (e_premise x)).kind (prV gg (e_premise x)).num ((GExpr.mk (e_expr (prV gg (e_premise x))).kind (e_expr (prV gg (e_premise x))).num (mkXs (1 : Int) (e_expr (prV gg (e_premise x))).kids))).kids).kids) →
 ((q_laws_FnExactPremiseExpr_1 gg x) ∧ ((decide ((heldXs (1 : Int) (GExpr.mk (prV gg (e_premise x)).kind (prV gg (e_premise x)).num ((GExpr.mk (e_expr (prV gg (e_premise x))).kind (e_expr (prV gg (e_premise x))).num (mkXs (1 : Int) (e_expr (prV gg (e_premise x))).kids))).kids).kids) < (0 : Int))) = false →
 ((q_laws_FnExactPremiseExpr_2 gg x) ∧ ((!(decide ((heldXs (1 : Int) (GExpr.mk (prV gg (e_premise x)).kind (prV gg (e_premise x)).num ((GExpr.mk (e_expr (prV gg (e_premise x))).kind (e_expr (prV gg (e_premise x))).num (mkXs (1 : Int) (e_expr (prV gg (e_premise x))).kids))).kids).kids) = ((1 : Int) + (szL cntX (e_expr (prV gg (e_premise x))).kids : Int))))) = false →
 true = true))))))
abbrev q_laws_FnExactPremiseExpr_4 (gg : GSig) (x : GPremise) : Prop := ((0 ≤ (1 : Int) ∧ (1 : Int) + (szL cntX (e_expr (prV gg (e_premise x))).kids : Int) ≤ 4611686018427387904) ∧ ((0 ≤ (1 : Int) ∧ (1 : Int) + (szL cntX (GExpr.mk (prV gg (e_premise x)).kind (prV gg (e_premise x)).num ((GExpr.mk (e_expr (prV gg (e_premise x))).kind (e_expr (prV gg (e_premise x))).num (mkXs (1 : Int) (e_expr (prV gg (e_premise x))).kids))).kids).kids : Int) ≤ 4611686018427387904) ∧ (inI64 (heldXs (1 : Int) (GExpr.mk (prV gg (e_premise x)).kind (prV gg (e_premise x)).num ((GExpr.mk (e_expr (prV gg (e_premise x))).kind (e_expr (prV gg (e_premise x))).num (mkXs (1 : Int) (e_expr (prV gg (e_premise x))).kids))).kids).kids) →
 ((q_laws_FnExactPremiseExpr_1 gg x) ∧ ((decide ((heldXs (1 : Int) (GExpr.mk (prV gg (e_premise x)).kind (prV gg (e_premise x)).num ((GExpr.mk (e_expr (prV gg (e_premise x))).kind (e_expr (prV gg (e_premise x))).num (mkXs (1 : Int) (e_expr (prV gg (e_premise x))).kids))).kids).kids) < (0 : Int))) = false →
 ((q_laws_FnExactPremiseExpr_2 gg x) ∧ ((!(decide ((heldXs (1 : Int) (GExpr.mk (prV gg (e_premise x)).kind (prV gg (e_premise x)).num ((GExpr.mk (e_expr (prV gg (e_premise x))).kind (e_expr (prV gg (e_premise x))).num (mkXs (1 : Int) (e_expr (prV gg (e_premise x))).kids))).kids).kids) = ((1 : Int) + (szL cntX (e_expr (prV gg (e_premise x))).kids : Int))))) = false →
 (gg = gg ∧ (x = x ∧ (x = x ∧ (sz_premise x ≤ 1048576 ∧ (inI64 (prC gg x) →
 (((!(eqB (e_expr (prV gg x)) (e_expr (prV gg x)))) = false →
 (((!(decide ((prC gg x) = (prC gg x)))) = true →
 false = true) ∧ ((!(decide ((prC gg x) = (prC gg x)))) = false →
 (q_laws_FnExactPremiseExpr_3 gg x)))) ∧ ((!(eqB (e_expr (prV gg x)) (e_expr (prV gg x)))) = (!false) →
 ((true = true →
 false = true) ∧ (true = false →
 (q_laws_FnExactPremiseExpr_3 gg x)))))))))))))))))
abbrev q_laws_FnExactPremiseExpr_5 (gg : GSig) (x : GPremise) : Prop := (((!(decide ((prC gg (e_premise x)) = (prC gg x)))) = true →
 false = true) ∧ ((!(decide ((prC gg (e_premise x)) = (prC gg x)))) = false →
 (q_laws_FnExactPremiseExpr_4 gg x)))
abbrev q_laws_FnExactPremiseExpr_6 (gg : GSig) (x : GPremise) : Prop := (sz_premise x ≤ 1048576 ∧ (((!(eqB (e_premise x) x)) = true →
 false = true) ∧ ((!(eqB (e_premise x) x)) = false →
 ((0 ≤ (1 : Int) ∧ (1 : Int) + (szL cntX (e_premise x).pre.kids : Int) + (szL cntX (e_premise x).post.kids : Int) ≤ 4611686018427387904) ∧ (((decide (((1 : Int) + (szL cntX (e_premise x).pre.kids : Int) + (szL cntX (e_premise x).post.kids : Int)) < (0 : Int))) = false →
 (((!(eqB (e_expr (prV gg (e_premise x))) (e_expr (prV gg x)))) = false →
 (q_laws_FnExactPremiseExpr_5 gg x)) ∧ ((!(eqB (e_expr (prV gg (e_premise x))) (e_expr (prV gg x)))) = (!false) →
 ((true = true →
 false = true) ∧ (true = false →
 (q_laws_FnExactPremiseExpr_4 gg x)))))) ∧ ((decide (((1 : Int) + (szL cntX (e_premise x).pre.kids : Int) + (szL cntX (e_premise x).post.kids : Int)) < (0 : Int))) = (!false) →
 ((true = false →
 (q_laws_FnExactPremiseExpr_5 gg x)) ∧ (true = (!false) →
 ((true = true →
 false = true) ∧ (true = false →
 (q_laws_FnExactPremiseExpr_4 gg x)))))))))))
theorem vc_laws_FnExactPremiseExpr (gg : GSig) (x : GPremise) : awp (envO [k_laws_szPremise, k_laws_toPremise, k_laws_toSig, k_laws_eqExpr, k_laws_eqPremise, k_laws_heldExpr] [ko_laws_toPremise, ko_impl_PremiseExpr, ko_spec_PremiseExpr] [mk_laws_markExpr, mk_laws_markPremise] [26, 35, 54, 70, 84, 30] [] [] [2, 3]) (bodyOf f_laws_FnExactPremiseExpr) (l_laws_FnExactPremiseExpr gg x) 0 (funPost (envO [k_laws_szPremise, k_laws_toPremise, k_laws_toSig, k_laws_eqExpr, k_laws_eqPremise, k_laws_heldExpr] [ko_laws_toPremise, ko_impl_PremiseExpr, ko_spec_PremiseExpr] [mk_laws_markExpr, mk_laws_markPremise] [26, 35, 54, 70, 84, 30] [] [] [2, 3]) f_laws_FnExactPremiseExpr fun r => areEq r [⟨.bool, true⟩]) (startState f_laws_FnExactPremiseExpr [.val ⟨(.st .sig), gg⟩, .val ⟨(.st .premise), x⟩]) =
  (((0 ≤ (1048576 : Int) ∧ (1048576 : Int) ≤ 1048576) ∧ (inI64 (szR (sz_premise x) (1048576 : Int)) →
 (((decide ((szR (sz_premise x) (1048576 : Int)) < (0 : Int))) = true →
 true = true) ∧ ((decide ((szR (sz_premise x) (1048576 : Int)) < (0 : Int))) = false →
 (gg = gg ∧ (x = x ∧ (x = x ∧ (sz_premise x ≤ 1048576 ∧ (inI64 (prC gg x) →
 (sz_premise x ≤ 1048576 ∧ (gg = gg ∧ ((q_laws_FnExactPremiseExpr_0 x) ∧ ((q_laws_FnExactPremiseExpr_0 x) ∧ (inI64 (prC gg (e_premise x)) →
 (((!(eqB (e_expr (prV gg (e_premise x))) (e_expr (prV gg x)))) = false →
 (((!(decide ((prC gg (e_premise x)) = (prC gg x)))) = true →
 false = true) ∧ ((!(decide ((prC gg (e_premise x)) = (prC gg x)))) = false →
 (q_laws_FnExactPremiseExpr_6 gg x)))) ∧ ((!(eqB (e_expr (prV gg (e_premise x))) (e_expr (prV gg x)))) = (!false) →
 ((true = true →
 false = true) ∧ (true = false →
 (q_laws_FnExactPremiseExpr_6 gg x)))))))))))))))))))) := by kernel_rfl
set_option maxRecDepth 4000 in
set_option maxHeartbeats 1000000 in
theorem ok_laws_FnExactPremiseExpr (hE : AllGood [k_laws_szPremise, k_laws_toPremise, k_laws_toSig, k_laws_eqExpr, k_laws_eqPremise, k_laws_heldExpr]) (hO : AllO [ko_laws_toPremise, ko_impl_PremiseExpr, ko_spec_PremiseExpr]) (hM : AllM [mk_laws_markExpr, mk_laws_markPremise]) : Ctr.Good k_laws_FnExactPremiseExpr := by
  refine ⟨fnOk_of at_laws_FnExactPremiseExpr rfl (by decide), ?_⟩
  show ∀ (gg : GSig) (x : GPremise), True → OkCall prog n_laws_FnExactPremiseExpr [.val ⟨(.st .sig), gg⟩, .val ⟨(.st .premise), x⟩] (· = [⟨.bool, true⟩])
  intro gg x _
  refine ok_of_awpO (own := [26, 35, 54, 70, 84, 30]) (wr := []) (cl := []) (ro := [2, 3]) hE hO hM at_laws_FnExactPremiseExpr body_laws_FnExactPremiseExpr (l_laws_FnExactPremiseExpr gg x) ?_
  rewrite [vc_laws_FnExactPremiseExpr gg x]
  have f0 := szR_or (sz_premise x) 1048576
  have f1 := sz_premise_eq x
  have f2 := cnt_szE x.pre
  have f3 := cnt_szE x.post
  have f4 := prV_sz gg x
  have f5 := cnt_szE (prV gg x)
  have f6 := held_prV gg x
  have f7 := cnt_mkXs 1 (prV gg x)
  refine ⟨?_, fun a0 => ⟨fun a1 => rfl, fun a1 => ⟨rfl, ⟨rfl, ⟨rfl, ⟨?_, fun a2 => ⟨?_, ⟨rfl, ⟨⟨rfl, ⟨rfl, ⟨?_, ⟨rfl, ⟨rfl, ⟨rfl, ⟨?_, ?_⟩⟩⟩⟩⟩⟩⟩, ⟨⟨rfl, ⟨rfl, ⟨?_, ⟨rfl, ⟨rfl, ⟨rfl, ⟨?_, ?_⟩⟩⟩⟩⟩⟩⟩, fun a3 => ⟨fun a4 => ⟨fun a5 => ?_, fun a5 => ⟨?_, ⟨fun a6 => ?_, fun a6 => ⟨?_, ⟨fun a7 => ⟨fun a8 => ⟨fun a9 => ?_, fun a9 => ⟨?_, ⟨?_, fun a10 => ⟨fun a11 => ?_, fun a11 => ⟨fun a12 => ?_, fun a12 => ⟨rfl, ⟨rfl, ⟨rfl, ⟨?_, fun a13 => ⟨fun a14 => ⟨fun a15 => ?_, fun a15 => ⟨?_, fun a16 => ⟨fun a17 => ?_, fun a17 => ⟨fun a18 => ?_, fun a18 => rfl⟩⟩⟩⟩, fun a14 => ⟨fun a15 => ?_, fun a15 => ⟨?_, fun a16 => ⟨fun a17 => ?_, fun a17 => ⟨fun a18 => ?_, fun a18 => rfl⟩⟩⟩⟩⟩⟩⟩⟩⟩⟩⟩⟩⟩⟩, fun a8 => ⟨fun a9 => ?_, fun a9 => ⟨?_, ⟨?_, fun a10 => ⟨fun a11 => ?_, fun a11 => ⟨fun a12 => ?_, fun a12 => ⟨rfl, ⟨rfl, ⟨rfl, ⟨?_, fun a13 => ⟨fun a14 => ⟨fun a15 => ?_, fun a15 => ⟨?_, fun a16 => ⟨fun a17 => ?_, fun a17 => ⟨fun a18 => ?_, fun a18 => rfl⟩⟩⟩⟩, fun a14 => ⟨fun a15 => ?_, fun a15 => ⟨?_, fun a16 => ⟨fun a17 => ?_, fun a17 => ⟨fun a18 => ?_, fun a18 => rfl⟩⟩⟩⟩⟩⟩⟩⟩⟩⟩⟩⟩⟩⟩⟩, fun a7 => ⟨fun a8 => ⟨fun a9 => ?_, fun a9 => ⟨?_, ⟨?_, fun a10 => ⟨fun a11 => ?_, fun a11 => ⟨fun a12 => ?_, fun a12 => ⟨rfl, ⟨rfl, ⟨rfl, ⟨?_, fun a13 => ⟨fun a14 => ⟨fun a15 => ?_, fun a15 => ⟨?_, fun a16 => ⟨fun a17 => ?_, fun a17 => ⟨fun a18 => ?_, fun a18 => rfl⟩⟩⟩⟩, fun a14 => ⟨fun a15 => ?_, fun a15 => ⟨?_, fun a16 => ⟨fun a17 => ?_, fun a17 => ⟨fun a18 => ?_, fun a18 => rfl⟩⟩⟩⟩⟩⟩⟩⟩⟩⟩⟩⟩⟩⟩, fun a8 => ⟨fun a9 => ?_, fun a9 => ⟨?_, ⟨?_, fun a10 => ⟨fun a11 => ?_, fun a11 => ⟨fun a12 => ?_, fun a12 => ⟨rfl, ⟨rfl, ⟨rfl, ⟨?_, fun a13 => ⟨fun a14 => ⟨fun a15 => ?_, fun a15 => ⟨?_, fun a16 => ⟨fun a17 => ?_, fun a17 => ⟨fun a18 => ?_, fun a18 => rfl⟩⟩⟩⟩, fun a14 => ⟨fun a15 => ?_, fun a15 => ⟨?_, fun a16 => ⟨fun a17 => ?_, fun a17 => ⟨fun a18 => ?_, fun a18 => rfl⟩⟩⟩⟩⟩⟩⟩⟩⟩⟩⟩⟩⟩⟩⟩⟩⟩⟩⟩⟩, fun a4 => ⟨fun a5 => ?_, fun a5 => ⟨?_, ⟨fun a6 => ?_, fun a6 => ⟨?_, ⟨fun a7 => ⟨fun a8 => ⟨fun a9 => ?_, fun a9 => ⟨?_, ⟨?_, fun a10 => ⟨fun a11 => ?_, fun a11 => ⟨fun a12 => ?_, fun a12 => ⟨rfl, ⟨rfl, ⟨rfl, ⟨?_, fun a13 => ⟨fun a14 => ⟨fun a15 => ?_, fun a15 => ⟨?_, fun a16 => ⟨fun a17 => ?_, fun a17 => ⟨fun a18 => ?_, fun a18 => rfl⟩⟩⟩⟩, fun a14 => ⟨fun a15 => ?_, fun a15 => ⟨?_, fun a16 => ⟨fun a17 => ?_, fun a17 => ⟨fun a18 => ?_, fun a18 => rfl⟩⟩⟩⟩⟩⟩⟩⟩⟩⟩⟩⟩⟩⟩, fun a8 => ⟨fun a9 => ?_, fun a9 => ⟨?_, ⟨?_, fun a10 => ⟨fun a11 => ?_, fun a11 => ⟨fun a12 => ?_, fun a12 => ⟨rfl, ⟨rfl, ⟨rfl, ⟨?_, fun a13 => ⟨fun a14 => ⟨fun a15 => ?_, fun a15 => ⟨?_, fun a16 => ⟨fun a17 => ?_, fun a17 => ⟨fun a18 => ?_, fun a18 => rfl⟩⟩⟩⟩, fun a14 => ⟨fun a15 => ?_, fun a15 => ⟨?_, fun a16 => ⟨fun a17 => ?_, fun a17 => ⟨fun a18 => ?_, fun a18 => rfl⟩⟩⟩⟩⟩⟩⟩⟩⟩⟩⟩⟩⟩⟩⟩, fun a7 => ⟨fun a8 => ⟨fun a9 => ?_, fun a9 => ⟨?_, ⟨?_, fun a10 => ⟨fun a11 => ?_, fun a11 => ⟨fun a12 => ?_, fun a12 => ⟨rfl, ⟨rfl, ⟨rfl, ⟨?_, fun a13 => ⟨fun a14 => ⟨fun a15 => ?_, fun a15 => ⟨?_, fun a16 => ⟨fun a17 => ?_, fun a17 => ⟨fun a18 => ?_, fun a18 => rfl⟩⟩⟩⟩, fun a14 => ⟨fun a15 => ?_, fun a15 => ⟨?_, fun a16 => ⟨fun a17 => ?_, fun a17 => ⟨fun a18 => ?_, fun a18 => rfl⟩⟩⟩⟩⟩⟩⟩⟩⟩⟩⟩⟩⟩⟩, fun a8 => ⟨fun a9 => ?_, fun a9 => ⟨?_, ⟨?_, fun a10 => ⟨fun a11 => ?_, fun a11 => ⟨fun a12 => ?_, fun a12 => ⟨rfl, ⟨rfl, ⟨rfl, ⟨?_, fun a13 => ⟨fun a14 => ⟨fun a15 => ?_, fun a15 => ⟨?_, fun a16 => ⟨fun a17 => ?_, fun a17 => ⟨fun a18 => ?_, fun a18 => rfl⟩⟩⟩⟩, fun a14 => ⟨fun a15 => ?_, fun a15 => ⟨?_, fun a16 => ⟨fun a17 => ?_, fun a17 => ⟨fun a18 => ?_, fun a18 => rfl⟩⟩⟩⟩⟩⟩⟩⟩⟩⟩⟩⟩⟩⟩⟩⟩⟩⟩⟩⟩⟩⟩⟩⟩⟩⟩⟩⟩⟩⟩⟩
  all_goals try and_intros
  all_goals try simp only [GExpr.eta, GProg.eta, GDerivation.eta, GTriple.eta, GPremise.eta, GClaim.eta, GEquation.eta, GPair.eta, GSpot.eta, e_expr_eq, e_pair_eq, e_equation_eq, e_claim_eq, e_prog_eq, e_spot_eq, e_triple_eq, e_premise_eq, e_derivation_eq] at *
  all_goals first | rfl | trivial | omega | (simp only [decide_eq_true_eq, decide_eq_false_iff_not, idxOk, inI64, inKind, cutOk, makeOk, roomOk] at *; omega) | (simp [idxOk, inI64] at *; omega) | grind | (simp_all; done)

theorem good_laws_FnExactPremiseExpr : Ctr.Good k_laws_FnExactPremiseExpr := ok_laws_FnExactPremiseExpr ⟨good_laws_szPremise, good_laws_toPremise, good_laws_toSig, good_laws_eqExpr, good_laws_eqPremise, good_laws_heldExpr, trivial⟩ ⟨ogood_laws_toPremise, ogood_impl_PremiseExpr, ogood_spec_PremiseExpr, trivial⟩ ⟨mgood_laws_markExpr, mgood_laws_markPremise, trivial⟩

theorem law_FnExactPremiseExpr : ∀ tvs : List TV, tvs.map TV.τ = [(.st .sig), (.st .premise)] → OkCall prog n_laws_FnExactPremiseExpr (tvs.map .val) (· = [⟨.bool, true⟩]) := by
  intro tvs h
  match tvs, h with
  | [⟨t0, a0⟩, ⟨t1, a1⟩], h =>
    simp only [List.map_cons, List.map_nil, List.cons.injEq, and_true] at h
    obtain ⟨rfl, rfl⟩ := h
    exact good_laws_FnExactPremiseExpr.2 a0 a1 trivial

end
end Go.Proofs.Ytiikoicminohpaa
