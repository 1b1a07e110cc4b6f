/- The law FnExactReadExpr. Printed by vmk.py. -/
import Derived.Test.YtkogipcdjalehaaDoorVmUse
import Derived.Test.YtkogipcdjalehaaDoorVmLib
import Derived.Test.YtkogipcdjalehaaDoorVmHeld
import Derived.Test.YtkogipcdjalehaaDoorVmRdx
set_option linter.unusedVariables false
set_option linter.unusedSimpArgs false
set_option linter.unusedSectionVars false
set_option maxRecDepth 4000
set_option maxHeartbeats 4000000
namespace Go.Proofs.YtkogipcdjalehaaDoor
noncomputable section
mutual
theorem cntX_szE : ∀ x : GExpr, cntX x = 2 + 2 * sz_expr x
 | ⟨k, n, ks⟩ => by
  have := cntXs_szE ks
  simp only [cntX, sz_expr, this, szs_expr_eq]
theorem cntXs_szE : ∀ xs : List GExpr, cntXs xs = 2 * (xs.length + szL sz_expr xs)
 | [] => by simp [cntXs, szL]
 | x :: xs => by
  have h1 := cntX_szE x
  have h2 := cntXs_szE xs
  simp only [cntXs, szL, List.length_cons, h1, h2]; omega
end
theorem cnt_szE (x : GExpr) : szL cntX x.kids = 2 * sz_expr x := by
 have := cntXs_szE x.kids
 rw [cntXs_eq] at this
 rw [this, sz_expr_eq]
mutual
theorem sz_nodes : ∀ x : GExpr, sz_expr x + 1 = nodesE x
 | ⟨_, _, ks⟩ => by
  have := szs_nodes ks
  simp only [sz_expr, nodesE]; omega
theorem szs_nodes : ∀ xs : List GExpr, xs.length + szs_expr xs = nodesEs xs
 | [] => rfl
 | x :: xs => by
  have h1 := sz_nodes x
  have h2 := szs_nodes xs
  simp only [szs_expr, nodesEs, List.length_cons]; omega
end
theorem isE_sz (gg : GSig) (x : GExpr) (h : isE gg x = true) : sz_expr x ≤ 1048576 := by
 rw [isE_iff] at h
 have := sz_nodes x
 omega
theorem rxV_sz (gg : GSig) (t : List UInt8) : sz_expr (rxV gg t) ≤ 1048576 := by
 unfold rxV
 cases sigOk gg && decide (t.length ≤ 4000)
 ·exact Nat.le_of_ble_eq_true rfl
 ·show sz_expr (rdV gg t) ≤ _
  unfold rdV
  cases h : rdOk gg t
  ·exact Nat.le_of_ble_eq_true rfl
  ·simp only [rdOk, Bool.and_eq_true] at h
   exact isE_sz gg _ h.1.2
theorem held_rxV (gg : GSig) (t : List UInt8) : heldXs 1 (mkXs 1 (rxV gg t).kids) = 1 + 2 * (sz_expr (rxV gg t) : Int) := by
 rw [heldXs_mk, cnt_szE]; omega
theorem cnt_mkXs (k : Int) (x : GExpr) : szL cntX (mkXs k x.kids) = 2 * sz_expr x := by
 have h := cntXs_mk k x.kids
 rw [cntXs_eq, cntXs_eq, cnt_szE] at h
 exact h
def k_laws_FnExactReadExpr : Ctr := ⟨n_laws_FnExactReadExpr, [.v (.st .sig), .v .str], fun (gg : GSig) (t : List UInt8) => ⟨(none, [⟨.bool, true⟩])⟩⟩
def l_laws_FnExactReadExpr (gg : GSig) (t : List UInt8) : Nat → LoopInv := fun _ => .none
abbrev j_laws_FnExactReadExpr_0 (gg : GSig) (t : List UInt8) : Prop := ((decide ((heldXs (1 : Int) (GExpr.mk (rxV gg t).kind (rxV gg t).num ((GExpr.mk (e_expr (rxV gg t)).kind (e_expr (rxV gg t)).num (mkXs (1 : Int) (e_expr (rxV gg t)).kids))).kids).kids) < (0 : Int))) = true →
 false = true)
abbrev j_laws_FnExactReadExpr_1 (gg : GSig) (t : List UInt8) : Prop := ((!(decide ((heldXs (1 : Int) (GExpr.mk (rxV gg t).kind (rxV gg t).num ((GExpr.mk (e_expr (rxV gg t)).kind (e_expr (rxV gg t)).num (mkXs (1 : Int) (e_expr (rxV gg t)).kids))).kids).kids) = ((1 : Int) + (szL cntX (e_expr (rxV gg t)).kids : Int))))) = true →
 false = true)
abbrev j_laws_FnExactReadExpr_2 (gg : GSig) (t : List UInt8) : Prop := ((0 ≤ (1 : Int) ∧ (1 : Int) + (szL cntX (GExpr.mk (rxV gg t).kind (rxV gg t).num ((GExpr.mk (e_expr (rxV gg t)).kind (e_expr (rxV gg t)).num (mkXs (1 : Int) (e_expr (rxV gg t)).kids))).kids).kids : Int) ≤ 4611686018427387904) ∧ (inI64 (heldXs (1 : Int) (GExpr.mk (rxV gg t).kind (rxV gg t).num ((GExpr.mk (e_expr (rxV gg t)).kind (e_expr (rxV gg t)).num (mkXs (1 : Int) (e_expr (rxV gg t)).kids))).kids).kids) →
 ((j_laws_FnExactReadExpr_0 gg t) ∧ ((decide ((heldXs (1 : Int) (GExpr.mk (rxV gg t).kind (rxV gg t).num ((GExpr.mk (e_expr (rxV gg t)).kind (e_expr (rxV gg t)).num (mkXs (1 : Int) (e_expr (rxV gg t)).kids))).kids).kids) < (0 : Int))) = false →
 ((j_laws_FnExactReadExpr_1 gg t) ∧ ((!(decide ((heldXs (1 : Int) (GExpr.mk (rxV gg t).kind (rxV gg t).num ((GExpr.mk (e_expr (rxV gg t)).kind (e_expr (rxV gg t)).num (mkXs (1 : Int) (e_expr (rxV gg t)).kids))).kids).kids) = ((1 : Int) + (szL cntX (e_expr (rxV gg t)).kids : Int))))) = false →
 true = true))))))
abbrev j_laws_FnExactReadExpr_3 (gg : GSig) (t : List UInt8) : Prop := ((0 ≤ (1 : Int) ∧ (1 : Int) + (szL cntX (e_expr (rxV gg t)).kids : Int) ≤ 4611686018427387904) ∧ ((0 ≤ (1 : Int) ∧ (1 : Int) + (szL cntX (GExpr.mk (rxV gg t).kind (rxV gg t).num ((GExpr.mk (e_expr (rxV gg t)).kind (e_expr (rxV gg t)).num (mkXs (1 : Int) (e_expr (rxV gg t)).kids))).kids).kids : Int) ≤ 4611686018427387904) ∧ (inI64 (heldXs (1 : Int) (GExpr.mk (rxV gg t).kind (rxV gg t).num ((GExpr.mk (e_expr (rxV gg t)).kind (e_expr (rxV gg t)).num (mkXs (1 : Int) (e_expr (rxV gg t)).kids))).kids).kids) →
 ((j_laws_FnExactReadExpr_0 gg t) ∧ ((decide ((heldXs (1 : Int) (GExpr.mk (rxV gg t).kind (rxV gg t).num ((GExpr.mk (e_expr (rxV gg t)).kind (e_expr (rxV gg t)).num (mkXs (1 : Int) (e_expr (rxV gg t)).kids))).kids).kids) < (0 : Int))) = false →
 ((j_laws_FnExactReadExpr_1 gg t) ∧ ((!(decide ((heldXs (1 : Int) (GExpr.mk (rxV gg t).kind (rxV gg t).num ((GExpr.mk (e_expr (rxV gg t)).kind (e_expr (rxV gg t)).num (mkXs (1 : Int) (e_expr (rxV gg t)).kids))).kids).kids) = ((1 : Int) + (szL cntX (e_expr (rxV gg t)).kids : Int))))) = false →
 (inI64 (rxC gg t) →
 (((!(eqB (e_expr (rxV gg t)) (e_expr (rxV gg t)))) = false →
 (((!(decide ((rxC gg t) = (rxC gg t)))) = true →
 false = true) ∧ ((!(decide ((rxC gg t) = (rxC gg t)))) = false →
 (j_laws_FnExactReadExpr_2 gg t)))) ∧ ((!(eqB (e_expr (rxV gg t)) (e_expr (rxV gg t)))) = (!false) →
 ((true = true →
 false = true) ∧ (true = false →
 (j_laws_FnExactReadExpr_2 gg t)))))))))))))
theorem vc_laws_FnExactReadExpr (gg : GSig) (t : List UInt8) : awp (envO [k_laws_toSig, k_laws_eqExpr, k_laws_heldExpr] [ko_impl_ReadExpr, ko_spec_ReadExpr] [mk_laws_markExpr] [20, 27, 41, 54] [] [] [2]) (bodyOf f_laws_FnExactReadExpr) (l_laws_FnExactReadExpr gg t) 0 (funPost (envO [k_laws_toSig, k_laws_eqExpr, k_laws_heldExpr] [ko_impl_ReadExpr, ko_spec_ReadExpr] [mk_laws_markExpr] [20, 27, 41, 54] [] [] [2]) f_laws_FnExactReadExpr fun r => areEq r [⟨.bool, true⟩]) (startState f_laws_FnExactReadExpr [.val ⟨(.st .sig), gg⟩, .val ⟨.str, t⟩]) =
 ((inI64 ((t.length : Int)) →
 (((decide ((1048576 : Int) < ((t.length : Int)))) = true →
 true = true) ∧ ((decide ((1048576 : Int) < ((t.length : Int)))) = false →
 (inI64 (rxC gg t) →
 (inI64 (rxC gg t) →
 (((!(eqB (e_expr (rxV gg t)) (e_expr (rxV gg t)))) = false →
 (((!(decide ((rxC gg t) = (rxC gg t)))) = true →
 false = true) ∧ ((!(decide ((rxC gg t) = (rxC gg t)))) = false →
 (j_laws_FnExactReadExpr_3 gg t)))) ∧ ((!(eqB (e_expr (rxV gg t)) (e_expr (rxV gg t)))) = (!false) →
 ((true = true →
 false = true) ∧ (true = false →
 (j_laws_FnExactReadExpr_3 gg t))))))))))) := by kernel_rfl
theorem ok_laws_FnExactReadExpr (hE : AllGood [k_laws_toSig, k_laws_eqExpr, k_laws_heldExpr]) (hO : AllO [ko_impl_ReadExpr, ko_spec_ReadExpr]) (hM : AllM [mk_laws_markExpr]) (hS : AllS []) : Ctr.Good k_laws_FnExactReadExpr := by
 refine ⟨fnOk_of at_laws_FnExactReadExpr rfl (by decide), ?_⟩
 show ∀ (gg : GSig) (t : List UInt8), True → OkCall prog n_laws_FnExactReadExpr [.val ⟨(.st .sig), gg⟩, .val ⟨.str, t⟩] (· = [⟨.bool, true⟩])
 intro gg t _
 refine ok_of_awpO (own := [20, 27, 41, 54]) (wr := []) (cl := []) (ro := [2]) hE hO hM hS at_laws_FnExactReadExpr body_laws_FnExactReadExpr (l_laws_FnExactReadExpr gg t) ?_
 rewrite [vc_laws_FnExactReadExpr gg t]
 have f4 := rxV_sz gg t
 have f5 := cnt_szE (rxV gg t)
 have f6 := held_rxV gg t
 have f7 := cnt_mkXs 1 (rxV gg t)
 refine fun a0 => ⟨fun a1 => rfl, fun a1 => fun a2 => fun a3 => ⟨fun a4 => ⟨fun a5 => ?_, fun a5 => ⟨?_, ⟨?_, fun a6 => ⟨fun a7 => ?_, fun a7 => ⟨fun a8 => ?_, fun a8 => fun a9 => ⟨fun a10 => ⟨fun a11 => ?_, fun a11 => ⟨?_, fun a12 => ⟨fun a13 => ?_, fun a13 => ⟨fun a14 => ?_, fun a14 => rfl⟩⟩⟩⟩, fun a10 => ⟨fun a11 => ?_, fun a11 => ⟨?_, fun a12 => ⟨fun a13 => ?_, fun a13 => ⟨fun a14 => ?_, fun a14 => rfl⟩⟩⟩⟩⟩⟩⟩⟩⟩⟩, fun a4 => ⟨fun a5 => ?_, fun a5 => ⟨?_, ⟨?_, fun a6 => ⟨fun a7 => ?_, fun a7 => ⟨fun a8 => ?_, fun a8 => fun a9 => ⟨fun a10 => ⟨fun a11 => ?_, fun a11 => ⟨?_, fun a12 => ⟨fun a13 => ?_, fun a13 => ⟨fun a14 => ?_, fun a14 => rfl⟩⟩⟩⟩, fun a10 => ⟨fun a11 => ?_, fun a11 => ⟨?_, fun a12 => ⟨fun a13 => ?_, fun a13 => ⟨fun a14 => ?_, fun a14 => rfl⟩⟩⟩⟩⟩⟩⟩⟩⟩⟩⟩⟩
 all_goals try and_intros
 all_goals try simp only [GExpr.eta, GProg.eta, GDerivation.eta, GTriple.eta, GPremise.eta, GClaim.eta, GEquation.eta, GPair.eta, GSpot.eta, e_expr_eq, e_pair_eq, e_equation_eq, e_claim_eq, e_prog_eq, e_spot_eq, e_triple_eq, e_premise_eq, e_derivation_eq] at *
 all_goals first | rfl | trivial | omega | (simp only [decide_eq_true_eq, decide_eq_false_iff_not, idxOk, inI64, inKind, cutOk, makeOk, roomOk] at *; omega) | (simp [idxOk, inI64] at *; omega) | grind | (simp_all; done)
theorem good_laws_FnExactReadExpr : Ctr.Good k_laws_FnExactReadExpr := ok_laws_FnExactReadExpr ⟨good_laws_toSig, good_laws_eqExpr, good_laws_heldExpr, trivial⟩ ⟨ogood_impl_ReadExpr, ogood_spec_ReadExpr, trivial⟩ ⟨mgood_laws_markExpr, trivial⟩ trivial
theorem law_FnExactReadExpr : ∀ tvs : List TV, tvs.map TV.τ = [(.st .sig), .str] → OkCall prog n_laws_FnExactReadExpr (tvs.map .val) (· = [⟨.bool, true⟩]) := by
 intro tvs h
 match tvs, h with
 | [⟨t0, a0⟩, ⟨t1, a1⟩], h =>
  simp only [List.map_cons, List.map_nil, List.cons.injEq, and_true] at h
  obtain ⟨rfl, rfl⟩ := h
  exact good_laws_FnExactReadExpr.2 a0 a1 trivial
end
end Go.Proofs.YtkogipcdjalehaaDoor
