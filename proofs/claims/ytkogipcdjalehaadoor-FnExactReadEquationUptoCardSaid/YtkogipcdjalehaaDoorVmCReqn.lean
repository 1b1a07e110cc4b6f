/- The law FnExactReadEquation. Printed by vmk.py. -/
import Derived.Test.YtkogipcdjalehaaDoorVmUse
import Derived.Test.YtkogipcdjalehaaDoorVmLib
import Derived.Test.YtkogipcdjalehaaDoorVmHeld
import Derived.Test.YtkogipcdjalehaaDoorVmEqn
set_option linter.unusedVariables false
set_option linter.unusedSimpArgs false
set_option linter.unusedSectionVars false
set_option maxRecDepth 4000
set_option maxHeartbeats 4000000
namespace Go.Proofs.YtkogipcdjalehaaDoor
noncomputable section
mutual
theorem cntX_szE : ∀ x : GExpr, cntX x = 2 + 2 * sz_expr x
 | ⟨k, n, ks⟩ => by
  have := cntXs_szE ks
  simp only [cntX, sz_expr, this, szs_expr_eq]
theorem cntXs_szE : ∀ xs : List GExpr, cntXs xs = 2 * (xs.length + szL sz_expr xs)
 | [] => by simp [cntXs, szL]
 | x :: xs => by
  have h1 := cntX_szE x
  have h2 := cntXs_szE xs
  simp only [cntXs, szL, List.length_cons, h1, h2]; omega
end
theorem cnt_szE (x : GExpr) : szL cntX x.kids = 2 * sz_expr x := by
 have := cntXs_szE x.kids
 rw [cntXs_eq] at this
 rw [this, sz_expr_eq]
mutual
theorem sz_nodes : ∀ x : GExpr, sz_expr x + 1 = nodesE x
 | ⟨_, _, ks⟩ => by
  have := szs_nodes ks
  simp only [sz_expr, nodesE]; omega
theorem szs_nodes : ∀ xs : List GExpr, xs.length + szs_expr xs = nodesEs xs
 | [] => rfl
 | x :: xs => by
  have h1 := sz_nodes x
  have h2 := szs_nodes xs
  simp only [szs_expr, nodesEs, List.length_cons]; omega
end
theorem rdV_sz (gg : GSig) (t : List UInt8) : sz_expr (rdV gg t) ≤ 1000 := by
 unfold rdV
 cases h : rdOk gg t
 ·exact Nat.le_of_ble_eq_true rfl
 ·simp only [rdOk, Bool.and_eq_true] at h
  have h2 := h.1.2
  rw [isE_iff] at h2
  have := sz_nodes (topI t).e
  show sz_expr (topI t).e ≤ 1000
  omega
theorem rqV_sz (gg : GSig) (t : List UInt8) : sz_expr (rqV gg t).left ≤ 1000 ∧ sz_expr (rqV gg t).right ≤ 1000 := by
 unfold rqV
 cases rqOk gg t
 ·exact ⟨Nat.le_of_ble_eq_true rfl, Nat.le_of_ble_eq_true rfl⟩
 ·exact ⟨rdV_sz gg _, rdV_sz gg _⟩
theorem reV_sz (gg : GSig) (t : List UInt8) : sz_expr (reV gg t).left ≤ 1000 ∧ sz_expr (reV gg t).right ≤ 1000 := by
 unfold reV
 cases sigOk gg && decide (t.length ≤ 8000)
 ·exact ⟨Nat.le_of_ble_eq_true rfl, Nat.le_of_ble_eq_true rfl⟩
 ·exact rqV_sz gg t
theorem cnt_mkXs (k : Int) (x : GExpr) : szL cntX (mkXs k x.kids) = 2 * sz_expr x := by
 have h := cntXs_mk k x.kids
 rw [cntXs_eq, cntXs_eq, cnt_szE] at h
 exact h
def heldQ (k : Int) (xs ys : List GExpr) : Int := bif okXs k xs then heldXs (k + (szL cntX xs : Int)) ys else -1
theorem heldQ_eq (k : Int) (xs ys : List GExpr) : (okXs k xs = true → heldQ k xs ys = heldXs (k + (szL cntX xs : Int)) ys) ∧ (okXs k xs = false → heldQ k xs ys = -1) := by
 refine ⟨fun h => ?_, fun h => ?_⟩ <;> · unfold heldQ; rw [h]; rfl
theorem heldQ_mk (l r : GExpr) : heldQ 1 (mkXs 1 l.kids) (mkXs (1 + (szL cntX l.kids : Int)) r.kids) = 1 + (szL cntX l.kids : Int) + (szL cntX r.kids : Int) := by
 have h : okXs 1 (mkXs 1 l.kids) = true := by
  have := mkXs_mk 1 l.kids
  simp [okXs, this]
 have hc : szL cntX (mkXs 1 l.kids) = szL cntX l.kids := by rw [cnt_mkXs, cnt_szE]
 rw [(heldQ_eq _ _ _).1 h, hc, heldXs_mk]
def mk_laws_markEquation : MK := ⟨n_laws_markEquation, ⟨(.st .equation), fun (x : GEquation) (k : Int) => (some (0 ≤ k ∧ k + (szL cntX x.left.kids : Int) + (szL cntX x.right.kids : Int) ≤ 4611686018427387904), (GEquation.mk (GExpr.mk x.left.kind x.left.num (mkXs k x.left.kids)) (GExpr.mk x.right.kind x.right.num (mkXs (k + (szL cntX x.left.kids : Int)) x.right.kids))), k + (szL cntX x.left.kids : Int) + (szL cntX x.right.kids : Int))⟩⟩
def lm_laws_markEquation (x : GEquation) (k : Int) : Nat → LoopInv := fun _ => .none
theorem vcm_laws_markEquation (x : GEquation) (k : Int) : awp (envO [] [] [mk_laws_markExpr] [8, 12] []) (bodyOf f_laws_markEquation) (lm_laws_markEquation x k) 0 (markPost f_laws_markEquation mk_laws_markEquation.m x k) (markStart f_laws_markEquation ⟨(.st .equation), x⟩ k) =
 (((0 ≤ k ∧ k + (szL cntX (e_expr x.left).kids : Int) ≤ 4611686018427387904) ∧ ((0 ≤ (k + (szL cntX (e_expr x.left).kids : Int)) ∧ (k + (szL cntX (e_expr x.left).kids : Int)) + (szL cntX (e_expr x.right).kids : Int) ≤ 4611686018427387904) ∧ (((k + (szL cntX (e_expr x.left).kids : Int)) + (szL cntX (e_expr x.right).kids : Int)) = (k + (szL cntX x.left.kids : Int) + (szL cntX x.right.kids : Int)) ∧ (GEquation.mk (GExpr.mk x.left.kind x.left.num ((GExpr.mk (e_expr x.left).kind (e_expr x.left).num (mkXs k (e_expr x.left).kids))).kids) (GExpr.mk x.right.kind x.right.num ((GExpr.mk (e_expr x.right).kind (e_expr x.right).num (mkXs (k + (szL cntX (e_expr x.left).kids : Int)) (e_expr x.right).kids))).kids)) = (GEquation.mk (GExpr.mk x.left.kind x.left.num (mkXs k x.left.kids)) (GExpr.mk x.right.kind x.right.num (mkXs (k + (szL cntX x.left.kids : Int)) x.right.kids))))))) := by kernel_rfl
theorem okm_laws_markEquation (hE : AllGood []) (hO : AllO []) (hM : AllM [mk_laws_markExpr]) (hS : AllS []) : MK.Good mk_laws_markEquation := by
 refine ⟨fnOk_of at_laws_markEquation rfl (by decide), mark_of_awp (own := [8, 12]) (wr := []) (cl := []) (ro := []) hE hO hM hS at_laws_markEquation body_laws_markEquation (fun x k => lm_laws_markEquation x k) (fun x => Nat.le_of_ble_eq_true rfl) (Nat.le_of_ble_eq_true (by kernel_rfl)) ?_⟩
 show ∀ (x : GEquation) (k : Int), (0 ≤ k ∧ k + (szL cntX x.left.kids : Int) + (szL cntX x.right.kids : Int) ≤ 4611686018427387904) → inI64 k → awp (envO [] [] [mk_laws_markExpr] [8, 12] []) (bodyOf f_laws_markEquation) (lm_laws_markEquation x k) 0 (markPost f_laws_markEquation mk_laws_markEquation.m x k) (markStart f_laws_markEquation ⟨(.st .equation), x⟩ k)
 intro x k hp hk
 rewrite [vcm_laws_markEquation x k]
 refine ⟨?_, ⟨?_, ⟨?_, ?_⟩⟩⟩
 all_goals try and_intros
 all_goals try simp only [GExpr.eta, GProg.eta, GDerivation.eta, GTriple.eta, GPremise.eta, GClaim.eta, GEquation.eta, GPair.eta, GSpot.eta, e_expr_eq, e_pair_eq, e_equation_eq, e_claim_eq, e_prog_eq, e_spot_eq, e_triple_eq, e_premise_eq, e_derivation_eq] at *
 all_goals first | rfl | trivial | omega | (simp only [decide_eq_true_eq, decide_eq_false_iff_not, idxOk, inI64, inKind, cutOk, makeOk, roomOk] at *; omega) | (simp [idxOk, inI64] at *; omega) | grind
theorem mgood_laws_markEquation : MK.Good mk_laws_markEquation := okm_laws_markEquation trivial trivial ⟨mgood_laws_markExpr, trivial⟩ trivial
def k_laws_heldEquation : Ctr := ⟨n_laws_heldEquation, [.v (.st .equation), .v (.int .i64)], fun (x : GEquation) (k : Int) => ⟨(some (0 ≤ k ∧ k + (szL cntX x.left.kids : Int) + (szL cntX x.right.kids : Int) ≤ 4611686018427387904), [⟨(.int .i64), heldQ k x.left.kids x.right.kids⟩])⟩⟩
def l_laws_heldEquation (x : GEquation) (k : Int) : Nat → LoopInv := fun _ => .none
theorem vc_laws_heldEquation (x : GEquation) (k : Int) : awp (envOf [k_laws_heldExpr] [] [] [2]) (bodyOf f_laws_heldEquation) (l_laws_heldEquation x k) 0 (funPost (envOf [k_laws_heldExpr] [] [] [2]) f_laws_heldEquation fun r => areEq r [⟨(.int .i64), heldQ k x.left.kids x.right.kids⟩]) (startState f_laws_heldEquation [.val ⟨(.st .equation), x⟩, .val ⟨(.int .i64), k⟩]) =
 (((0 ≤ k ∧ k + (szL cntX x.left.kids : Int) ≤ 4611686018427387904) ∧ (inI64 (heldXs k x.left.kids) →
 (((decide ((heldXs k x.left.kids) < (0 : Int))) = true →
 (-1 : Int) = (heldQ k x.left.kids x.right.kids)) ∧ ((decide ((heldXs k x.left.kids) < (0 : Int))) = false →
 ((0 ≤ (heldXs k x.left.kids) ∧ (heldXs k x.left.kids) + (szL cntX x.right.kids : Int) ≤ 4611686018427387904) ∧ (inI64 (heldXs (heldXs k x.left.kids) x.right.kids) →
 (((decide ((heldXs (heldXs k x.left.kids) x.right.kids) < (0 : Int))) = true →
 (-1 : Int) = (heldQ k x.left.kids x.right.kids)) ∧ ((decide ((heldXs (heldXs k x.left.kids) x.right.kids) < (0 : Int))) = false →
 (heldXs (heldXs k x.left.kids) x.right.kids) = (heldQ k x.left.kids x.right.kids)))))))))) := by kernel_rfl
theorem ok_laws_heldEquation (hE : AllGood [k_laws_heldExpr]) : Ctr.Good k_laws_heldEquation := by
 refine ⟨fnOk_of at_laws_heldEquation rfl (by decide), ?_⟩
 show ∀ (x : GEquation) (k : Int), (0 ≤ k ∧ k + (szL cntX x.left.kids : Int) + (szL cntX x.right.kids : Int) ≤ 4611686018427387904) → OkCall prog n_laws_heldEquation [.val ⟨(.st .equation), x⟩, .val ⟨(.int .i64), k⟩] (· = [⟨(.int .i64), heldQ k x.left.kids x.right.kids⟩])
 intro x k hp
 refine ok_of_awp (wr := []) (cl := []) (ro := [2]) hE at_laws_heldEquation body_laws_heldEquation (l_laws_heldEquation x k) ?_
 rewrite [vc_laws_heldEquation x k]
 have f2 := heldXs_eq k x.left.kids
 have f3 := heldXs_eq (k + (szL cntX x.left.kids : Int)) x.right.kids
 have f4 := heldQ_eq k x.left.kids x.right.kids
 refine ⟨?_, fun a0 => ⟨fun a1 => ?_, fun a1 => ⟨?_, fun a2 => ⟨fun a3 => ?_, fun a3 => ?_⟩⟩⟩⟩
 all_goals try and_intros
 all_goals first | rfl | trivial | omega | (simp only [decide_eq_true_eq, decide_eq_false_iff_not, idxOk, inI64, Bool.not_eq_true', Bool.not_eq_false'] at *; first | omega | grind)
theorem good_laws_heldEquation : Ctr.Good k_laws_heldEquation := ok_laws_heldEquation ⟨good_laws_heldExpr, trivial⟩
def k_laws_FnExactReadEquation : Ctr := ⟨n_laws_FnExactReadEquation, [.v (.st .sig), .v .str], fun (gg : GSig) (t : List UInt8) => ⟨(none, [⟨.bool, true⟩])⟩⟩
def l_laws_FnExactReadEquation (gg : GSig) (t : List UInt8) : Nat → LoopInv := fun _ => .none
abbrev j_laws_FnExactReadEquation_0 (gg : GSig) (t : List UInt8) : Prop := ((decide ((heldQ (1 : Int) (GEquation.mk (GExpr.mk (reV gg t).left.kind (reV gg t).left.num ((GEquation.mk (GExpr.mk (e_equation (reV gg t)).left.kind (e_equation (reV gg t)).left.num (mkXs (1 : Int) (e_equation (reV gg t)).left.kids)) (GExpr.mk (e_equation (reV gg t)).right.kind (e_equation (reV gg t)).right.num (mkXs ((1 : Int) + (szL cntX (e_equation (reV gg t)).left.kids : Int)) (e_equation (reV gg t)).right.kids)))).left.kids) (GExpr.mk (reV gg t).right.kind (reV gg t).right.num ((GEquation.mk (GExpr.mk (e_equation (reV gg t)).left.kind (e_equation (reV gg t)).left.num (mkXs (1 : Int) (e_equation (reV gg t)).left.kids)) (GExpr.mk (e_equation (reV gg t)).right.kind (e_equation (reV gg t)).right.num (mkXs ((1 : Int) + (szL cntX (e_equation (reV gg t)).left.kids : Int)) (e_equation (reV gg t)).right.kids)))).right.kids)).left.kids (GEquation.mk (GExpr.mk (reV gg t).left.kind (reV gg t).left.num ((GEquation.mk (GExpr.mk (e_equation (reV gg t)).left.kind (e_equation (reV gg t)).left.num (mkXs (1 : Int) (e_equation (reV gg t)).left.kids)) (GExpr.mk (e_equation (reV gg t)).right.kind (e_equation (reV gg t)).right.num (mkXs ((1 : Int) + (szL cntX (e_equation (reV gg t)).left.kids : Int)) (e_equation (reV gg t)).right.kids)))).left.kids) (GExpr.mk (reV gg t).right.kind (reV gg t).right.num ((GEquation.mk (GExpr.mk (e_equation (reV gg t)).left.kind (e_equation (reV gg t)).left.num (mkXs (1 : Int) (e_equation (reV gg t)).left.kids)) (GExpr.mk (e_equation (reV gg t)).right.kind (e_equation (reV gg t)).right.num (mkXs ((1 : Int) + (szL cntX (e_equation (reV gg t)).left.kids : Int)) (e_equation (reV gg t)).right.kids)))).right.kids)).right.kids) < (0 : Int))) = true →
 false = true)
abbrev j_laws_FnExactReadEquation_1 (gg : GSig) (t : List UInt8) : Prop := ((!(decide ((heldQ (1 : Int) (GEquation.mk (GExpr.mk (reV gg t).left.kind (reV gg t).left.num ((GEquation.mk (GExpr.mk (e_equation (reV gg t)).left.kind (e_equation (reV gg t)).left.num (mkXs (1 : Int) (e_equation (reV gg t)).left.kids)) (GExpr.mk (e_equation (reV gg t)).right.kind (e_equation (reV gg t)).right.num (mkXs ((1 : Int) + (szL cntX (e_equation (reV gg t)).left.kids : Int)) (e_equation (reV gg t)).right.kids)))).left.kids) (GExpr.mk (reV gg t).right.kind (reV gg t).right.num ((GEquation.mk (GExpr.mk (e_equation (reV gg t)).left.kind (e_equation (reV gg t)).left.num (mkXs (1 : Int) (e_equation (reV gg t)).left.kids)) (GExpr.mk (e_equation (reV gg t)).right.kind (e_equation (reV gg t)).right.num (mkXs ((1 : Int) + (szL cntX (e_equation (reV gg t)).left.kids : Int)) (e_equation (reV gg t)).right.kids)))).right.kids)).left.kids (GEquation.mk (GExpr.mk (reV gg t).left.kind (reV gg t).left.num ((GEquation.mk (GExpr.mk (e_equation (reV gg t)).left.kind (e_equation (reV gg t)).left.num (mkXs (1 : Int) (e_equation (reV gg t)).left.kids)) (GExpr.mk (e_equation (reV gg t)).right.kind (e_equation (reV gg t)).right.num (mkXs ((1 : Int) + (szL cntX (e_equation (reV gg t)).left.kids : Int)) (e_equation (reV gg t)).right.kids)))).left.kids) (GExpr.mk (reV gg t).right.kind (reV gg t).right.num ((GEquation.mk (GExpr.mk (e_equation (reV gg t)).left.kind (e_equation (reV gg t)).left.num (mkXs (1 : Int) (e_equation (reV gg t)).left.kids)) (GExpr.mk (e_equation (reV gg t)).right.kind (e_equation (reV gg t)).right.num (mkXs ((1 : Int) + (szL cntX (e_equation (reV gg t)).left.kids : Int)) (e_equation (reV gg t)).right.kids)))).right.kids)).right.kids) = ((1 : Int) + (szL cntX (e_equation (reV gg t)).left.kids : Int) + (szL cntX (e_equation (reV gg t)).right.kids : Int))))) = true →
 false = true)
abbrev j_laws_FnExactReadEquation_2 (gg : GSig) (t : List UInt8) : Prop := ((0 ≤ (1 : Int) ∧ (1 : Int) + (szL cntX (GEquation.mk (GExpr.mk (reV gg t).left.kind (reV gg t).left.num ((GEquation.mk (GExpr.mk (e_equation (reV gg t)).left.kind (e_equation (reV gg t)).left.num (mkXs (1 : Int) (e_equation (reV gg t)).left.kids)) (GExpr.mk (e_equation (reV gg t)).right.kind (e_equation (reV gg t)).right.num (mkXs ((1 : Int) + (szL cntX (e_equation (reV gg t)).left.kids : Int)) (e_equation (reV gg t)).right.kids)))).left.kids) (GExpr.mk (reV gg t).right.kind (reV gg t).right.num ((GEquation.mk (GExpr.mk (e_equation (reV gg t)).left.kind (e_equation (reV gg t)).left.num (mkXs (1 : Int) (e_equation (reV gg t)).left.kids)) (GExpr.mk (e_equation (reV gg t)).right.kind (e_equation (reV gg t)).right.num (mkXs ((1 : Int) + (szL cntX (e_equation (reV gg t)).left.kids : Int)) (e_equation (reV gg t)).right.kids)))).right.kids)).left.kids : Int) + (szL cntX (GEquation.mk (GExpr.mk (reV gg t).left.kind (reV gg t).left.num ((GEquation.mk (GExpr.mk (e_equation (reV gg t)).left.kind (e_equation (reV gg t)).left.num (mkXs (1 : Int) (e_equation (reV gg t)).left.kids)) (GExpr.mk (e_equation (reV gg t)).right.kind (e_equation (reV gg t)).right.num (mkXs ((1 : Int) + (szL cntX (e_equation (reV gg t)).left.kids : Int)) (e_equation (reV gg t)).right.kids)))).left.kids) (GExpr.mk (reV gg t).right.kind (reV gg t).right.num ((GEquation.mk (GExpr.mk (e_equation (reV gg t)).left.kind (e_equation (reV gg t)).left.num (mkXs (1 : Int) (e_equation (reV gg t)).left.kids)) (GExpr.mk (e_equation (reV gg t)).right.kind (e_equation (reV gg t)).right.num (mkXs ((1 : Int) + (szL cntX (e_equation (reV gg t)).left.kids : Int)) (e_equation (reV gg t)).right.kids)))).right.kids)).right.kids : Int) ≤ 4611686018427387904) ∧ (inI64 (heldQ (1 : Int) (GEquation.mk (GExpr.mk (reV gg t).left.kind (reV gg t).left.num ((GEquation.mk (GExpr.mk (e_equation (reV gg t)).left.kind (e_equation (reV gg t)).left.num (mkXs (1 : Int) (e_equation (reV gg t)).left.kids)) (GExpr.mk (e_equation (reV gg t)).right.kind (e_equation (reV gg t)).right.num (mkXs ((1 : Int) + (szL cntX (e_equation (reV gg t)).left.kids : Int)) (e_equation (reV gg t)).right.kids)))).left.kids) (GExpr.mk (reV gg t).right.kind (reV gg t).right.num ((GEquation.mk (GExpr.mk (e_equation (reV gg t)).left.kind (e_equation (reV gg t)).left.num (mkXs (1 : Int) (e_equation (reV gg t)).left.kids)) (GExpr.mk (e_equation (reV gg t)).right.kind (e_equation (reV gg t)).right.num (mkXs ((1 : Int) + (szL cntX (e_equation (reV gg t)).left.kids : Int)) (e_equation (reV gg t)).right.kids)))).right.kids)).left.kids (GEquation.mk (GExpr.mk (reV gg t).left.kind (reV gg t).left.num ((GEquation.mk (GExpr.mk (e_equation (reV gg t)).left.kind (e_equation (reV gg t)).left.num (mkXs (1 : Int) (e_equation (reV gg t)).left.kids)) (GExpr.mk (e_equation (reV gg t)).right.kind (e_equation (reV gg t)).right.num (mkXs ((1 : Int) + (szL cntX (e_equation (reV gg t)).left.kids : Int)) (e_equation (reV gg t)).right.kids)))).left.kids) (GExpr.mk (reV gg t).right.kind (reV gg t).right.num ((GEquation.mk (GExpr.mk (e_equation (reV gg t)).left.kind (e_equation (reV gg t)).left.num (mkXs (1 : Int) (e_equation (reV gg t)).left.kids)) (GExpr.mk (e_equation (reV gg t)).right.kind (e_equation (reV gg t)).right.num (mkXs ((1 : Int) + (szL cntX (e_equation (reV gg t)).left.kids : Int)) (e_equation (reV gg t)).right.kids)))).right.kids)).right.kids) →
 ((j_laws_FnExactReadEquation_0 gg t) ∧ ((decide ((heldQ (1 : Int) (GEquation.mk (GExpr.mk (reV gg t).left.kind (reV gg t).left.num ((GEquation.mk (GExpr.mk (e_equation (reV gg t)).left.kind (e_equation (reV gg t)).left.num (mkXs (1 : Int) (e_equation (reV gg t)).left.kids)) (GExpr.mk (e_equation (reV gg t)).right.kind (e_equation (reV gg t)).right.num (mkXs ((1 : Int) + (szL cntX (e_equation (reV gg t)).left.kids : Int)) (e_equation (reV gg t)).right.kids)))).left.kids) (GExpr.mk (reV gg t).right.kind (reV gg t).right.num ((GEquation.mk (GExpr.mk (e_equation (reV gg t)).left.kind (e_equation (reV gg t)).left.num (mkXs (1 : Int) (e_equation (reV gg t)).left.kids)) (GExpr.mk (e_equation (reV gg t)).right.kind (e_equation (reV gg t)).right.num (mkXs ((1 : Int) + (szL cntX (e_equation (reV gg t)).left.kids : Int)) (e_equation (reV gg t)).right.kids)))).right.kids)).left.kids (GEquation.mk (GExpr.mk (reV gg t).left.kind (reV gg t).left.num ((GEquation.mk (GExpr.mk (e_equation (reV gg t)).left.kind (e_equation (reV gg t)).left.num (mkXs (1 : Int) (e_equation (reV gg t)).left.kids)) (GExpr.mk (e_equation (reV gg t)).right.kind (e_equation (reV gg t)).right.num (mkXs ((1 : Int) + (szL cntX (e_equation (reV gg t)).left.kids : Int)) (e_equation (reV gg t)).right.kids)))).left.kids) (GExpr.mk (reV gg t).right.kind (reV gg t).right.num ((GEquation.mk (GExpr.mk (e_equation (reV gg t)).left.kind (e_equation (reV gg t)).left.num (mkXs (1 : Int) (e_equation (reV gg t)).left.kids)) (GExpr.mk (e_equation (reV gg t)).right.kind (e_equation (reV gg t)).right.num (mkXs ((1 : Int) + (szL cntX (e_equation (reV gg t)).left.kids : Int)) (e_equation (reV gg t)).right.kids)))).right.kids)).right.kids) < (0 : Int))) = false →
 ((j_laws_FnExactReadEquation_1 gg t) ∧ ((!(decide ((heldQ (1 : Int) (GEquation.mk (GExpr.mk (reV gg t).left.kind (reV gg t).left.num ((GEquation.mk (GExpr.mk (e_equation (reV gg t)).left.kind (e_equation (reV gg t)).left.num (mkXs (1 : Int) (e_equation (reV gg t)).left.kids)) (GExpr.mk (e_equation (reV gg t)).right.kind (e_equation (reV gg t)).right.num (mkXs ((1 : Int) + (szL cntX (e_equation (reV gg t)).left.kids : Int)) (e_equation (reV gg t)).right.kids)))).left.kids) (GExpr.mk (reV gg t).right.kind (reV gg t).right.num ((GEquation.mk (GExpr.mk (e_equation (reV gg t)).left.kind (e_equation (reV gg t)).left.num (mkXs (1 : Int) (e_equation (reV gg t)).left.kids)) (GExpr.mk (e_equation (reV gg t)).right.kind (e_equation (reV gg t)).right.num (mkXs ((1 : Int) + (szL cntX (e_equation (reV gg t)).left.kids : Int)) (e_equation (reV gg t)).right.kids)))).right.kids)).left.kids (GEquation.mk (GExpr.mk (reV gg t).left.kind (reV gg t).left.num ((GEquation.mk (GExpr.mk (e_equation (reV gg t)).left.kind (e_equation (reV gg t)).left.num (mkXs (1 : Int) (e_equation (reV gg t)).left.kids)) (GExpr.mk (e_equation (reV gg t)).right.kind (e_equation (reV gg t)).right.num (mkXs ((1 : Int) + (szL cntX (e_equation (reV gg t)).left.kids : Int)) (e_equation (reV gg t)).right.kids)))).left.kids) (GExpr.mk (reV gg t).right.kind (reV gg t).right.num ((GEquation.mk (GExpr.mk (e_equation (reV gg t)).left.kind (e_equation (reV gg t)).left.num (mkXs (1 : Int) (e_equation (reV gg t)).left.kids)) (GExpr.mk (e_equation (reV gg t)).right.kind (e_equation (reV gg t)).right.num (mkXs ((1 : Int) + (szL cntX (e_equation (reV gg t)).left.kids : Int)) (e_equation (reV gg t)).right.kids)))).right.kids)).right.kids) = ((1 : Int) + (szL cntX (e_equation (reV gg t)).left.kids : Int) + (szL cntX (e_equation (reV gg t)).right.kids : Int))))) = false →
 true = true))))))
abbrev j_laws_FnExactReadEquation_3 (gg : GSig) (t : List UInt8) : Prop := ((0 ≤ (1 : Int) ∧ (1 : Int) + (szL cntX (e_equation (reV gg t)).left.kids : Int) + (szL cntX (e_equation (reV gg t)).right.kids : Int) ≤ 4611686018427387904) ∧ ((0 ≤ (1 : Int) ∧ (1 : Int) + (szL cntX (GEquation.mk (GExpr.mk (reV gg t).left.kind (reV gg t).left.num ((GEquation.mk (GExpr.mk (e_equation (reV gg t)).left.kind (e_equation (reV gg t)).left.num (mkXs (1 : Int) (e_equation (reV gg t)).left.kids)) (GExpr.mk (e_equation (reV gg t)).right.kind (e_equation (reV gg t)).right.num (mkXs ((1 : Int) + (szL cntX (e_equation (reV gg t)).left.kids : Int)) (e_equation (reV gg t)).right.kids)))).left.kids) (GExpr.mk (reV gg t).right.kind (reV gg t).right.num ((GEquation.mk (GExpr.mk (e_equation (reV gg t)).left.kind (e_equation (reV gg t)).left.num (mkXs (1 : Int) (e_equation (reV gg t)).left.kids)) (GExpr.mk (e_equation (reV gg t)).right.kind (e_equation (reV gg t)).right.num (mkXs ((1 : Int) + (szL cntX (e_equation (reV gg t)).left.kids : Int)) (e_equation (reV gg t)).right.kids)))).right.kids)).left.kids : Int) + (szL cntX (GEquation.mk (GExpr.mk (reV gg t).left.kind (reV gg t).left.num ((GEquation.mk (GExpr.mk (e_equation (reV gg t)).left.kind (e_equation (reV gg t)).left.num (mkXs (1 : Int) (e_equation (reV gg t)).left.kids)) (GExpr.mk (e_equation (reV gg t)).right.kind (e_equation (reV gg t)).right.num (mkXs ((1 : Int) + (szL cntX (e_equation (reV gg t)).left.kids : Int)) (e_equation (reV gg t)).right.kids)))).left.kids) (GExpr.mk (reV gg t).right.kind (reV gg t).right.num ((GEquation.mk (GExpr.mk (e_equation (reV gg t)).left.kind (e_equation (reV gg t)).left.num (mkXs (1 : Int) (e_equation (reV gg t)).left.kids)) (GExpr.mk (e_equation (reV gg t)).right.kind (e_equation (reV gg t)).right.num (mkXs ((1 : Int) + (szL cntX (e_equation (reV gg t)).left.kids : Int)) (e_equation (reV gg t)).right.kids)))).right.kids)).right.kids : Int) ≤ 4611686018427387904) ∧ (inI64 (heldQ (1 : Int) (GEquation.mk (GExpr.mk (reV gg t).left.kind (reV gg t).left.num ((GEquation.mk (GExpr.mk (e_equation (reV gg t)).left.kind (e_equation (reV gg t)).left.num (mkXs (1 : Int) (e_equation (reV gg t)).left.kids)) (GExpr.mk (e_equation (reV gg t)).right.kind (e_equation (reV gg t)).right.num (mkXs ((1 : Int) + (szL cntX (e_equation (reV gg t)).left.kids : Int)) (e_equation (reV gg t)).right.kids)))).left.kids) (GExpr.mk (reV gg t).right.kind (reV gg t).right.num ((GEquation.mk (GExpr.mk (e_equation (reV gg t)).left.kind (e_equation (reV gg t)).left.num (mkXs (1 : Int) (e_equation (reV gg t)).left.kids)) (GExpr.mk (e_equation (reV gg t)).right.kind (e_equation (reV gg t)).right.num (mkXs ((1 : Int) + (szL cntX (e_equation (reV gg t)).left.kids : Int)) (e_equation (reV gg t)).right.kids)))).right.kids)).left.kids (GEquation.mk (GExpr.mk (reV gg t).left.kind (reV gg t).left.num ((GEquation.mk (GExpr.mk (e_equation (reV gg t)).left.kind (e_equation (reV gg t)).left.num (mkXs (1 : Int) (e_equation (reV gg t)).left.kids)) (GExpr.mk (e_equation (reV gg t)).right.kind (e_equation (reV gg t)).right.num (mkXs ((1 : Int) + (szL cntX (e_equation (reV gg t)).left.kids : Int)) (e_equation (reV gg t)).right.kids)))).left.kids) (GExpr.mk (reV gg t).right.kind (reV gg t).right.num ((GEquation.mk (GExpr.mk (e_equation (reV gg t)).left.kind (e_equation (reV gg t)).left.num (mkXs (1 : Int) (e_equation (reV gg t)).left.kids)) (GExpr.mk (e_equation (reV gg t)).right.kind (e_equation (reV gg t)).right.num (mkXs ((1 : Int) + (szL cntX (e_equation (reV gg t)).left.kids : Int)) (e_equation (reV gg t)).right.kids)))).right.kids)).right.kids) →
 ((j_laws_FnExactReadEquation_0 gg t) ∧ ((decide ((heldQ (1 : Int) (GEquation.mk (GExpr.mk (reV gg t).left.kind (reV gg t).left.num ((GEquation.mk (GExpr.mk (e_equation (reV gg t)).left.kind (e_equation (reV gg t)).left.num (mkXs (1 : Int) (e_equation (reV gg t)).left.kids)) (GExpr.mk (e_equation (reV gg t)).right.kind (e_equation (reV gg t)).right.num (mkXs ((1 : Int) + (szL cntX (e_equation (reV gg t)).left.kids : Int)) (e_equation (reV gg t)).right.kids)))).left.kids) (GExpr.mk (reV gg t).right.kind (reV gg t).right.num ((GEquation.mk (GExpr.mk (e_equation (reV gg t)).left.kind (e_equation (reV gg t)).left.num (mkXs (1 : Int) (e_equation (reV gg t)).left.kids)) (GExpr.mk (e_equation (reV gg t)).right.kind (e_equation (reV gg t)).right.num (mkXs ((1 : Int) + (szL cntX (e_equation (reV gg t)).left.kids : Int)) (e_equation (reV gg t)).right.kids)))).right.kids)).left.kids (GEquation.mk (GExpr.mk (reV gg t).left.kind (reV gg t).left.num ((GEquation.mk (GExpr.mk (e_equation (reV gg t)).left.kind (e_equation (reV gg t)).left.num (mkXs (1 : Int) (e_equation (reV gg t)).left.kids)) (GExpr.mk (e_equation (reV gg t)).right.kind (e_equation (reV gg t)).right.num (mkXs ((1 : Int) + (szL cntX (e_equation (reV gg t)).left.kids : Int)) (e_equation (reV gg t)).right.kids)))).left.kids) (GExpr.mk (reV gg t).right.kind (reV gg t).right.num ((GEquation.mk (GExpr.mk (e_equation (reV gg t)).left.kind (e_equation (reV gg t)).left.num (mkXs (1 : Int) (e_equation (reV gg t)).left.kids)) (GExpr.mk (e_equation (reV gg t)).right.kind (e_equation (reV gg t)).right.num (mkXs ((1 : Int) + (szL cntX (e_equation (reV gg t)).left.kids : Int)) (e_equation (reV gg t)).right.kids)))).right.kids)).right.kids) < (0 : Int))) = false →
 ((j_laws_FnExactReadEquation_1 gg t) ∧ ((!(decide ((heldQ (1 : Int) (GEquation.mk (GExpr.mk (reV gg t).left.kind (reV gg t).left.num ((GEquation.mk (GExpr.mk (e_equation (reV gg t)).left.kind (e_equation (reV gg t)).left.num (mkXs (1 : Int) (e_equation (reV gg t)).left.kids)) (GExpr.mk (e_equation (reV gg t)).right.kind (e_equation (reV gg t)).right.num (mkXs ((1 : Int) + (szL cntX (e_equation (reV gg t)).left.kids : Int)) (e_equation (reV gg t)).right.kids)))).left.kids) (GExpr.mk (reV gg t).right.kind (reV gg t).right.num ((GEquation.mk (GExpr.mk (e_equation (reV gg t)).left.kind (e_equation (reV gg t)).left.num (mkXs (1 : Int) (e_equation (reV gg t)).left.kids)) (GExpr.mk (e_equation (reV gg t)).right.kind (e_equation (reV gg t)).right.num (mkXs ((1 : Int) + (szL cntX (e_equation (reV gg t)).left.kids : Int)) (e_equation (reV gg t)).right.kids)))).right.kids)).left.kids (GEquation.mk (GExpr.mk (reV gg t).left.kind (reV gg t).left.num ((GEquation.mk (GExpr.mk (e_equation (reV gg t)).left.kind (e_equation (reV gg t)).left.num (mkXs (1 : Int) (e_equation (reV gg t)).left.kids)) (GExpr.mk (e_equation (reV gg t)).right.kind (e_equation (reV gg t)).right.num (mkXs ((1 : Int) + (szL cntX (e_equation (reV gg t)).left.kids : Int)) (e_equation (reV gg t)).right.kids)))).left.kids) (GExpr.mk (reV gg t).right.kind (reV gg t).right.num ((GEquation.mk (GExpr.mk (e_equation (reV gg t)).left.kind (e_equation (reV gg t)).left.num (mkXs (1 : Int) (e_equation (reV gg t)).left.kids)) (GExpr.mk (e_equation (reV gg t)).right.kind (e_equation (reV gg t)).right.num (mkXs ((1 : Int) + (szL cntX (e_equation (reV gg t)).left.kids : Int)) (e_equation (reV gg t)).right.kids)))).right.kids)).right.kids) = ((1 : Int) + (szL cntX (e_equation (reV gg t)).left.kids : Int) + (szL cntX (e_equation (reV gg t)).right.kids : Int))))) = false →
 (inI64 (reC gg t) →
 (((!(eqB (e_equation (reV gg t)) (e_equation (reV gg t)))) = false →
 (((!(decide ((reC gg t) = (reC gg t)))) = true →
 false = true) ∧ ((!(decide ((reC gg t) = (reC gg t)))) = false →
 (j_laws_FnExactReadEquation_2 gg t)))) ∧ ((!(eqB (e_equation (reV gg t)) (e_equation (reV gg t)))) = (!false) →
 ((true = true →
 false = true) ∧ (true = false →
 (j_laws_FnExactReadEquation_2 gg t)))))))))))))
theorem vc_laws_FnExactReadEquation (gg : GSig) (t : List UInt8) : awp (envO [k_laws_toSig, k_laws_eqEquation, k_laws_heldEquation] [ko_impl_ReadEquation, ko_spec_ReadEquation] [mk_laws_markEquation] [20, 27, 41, 54] [] [] [2]) (bodyOf f_laws_FnExactReadEquation) (l_laws_FnExactReadEquation gg t) 0 (funPost (envO [k_laws_toSig, k_laws_eqEquation, k_laws_heldEquation] [ko_impl_ReadEquation, ko_spec_ReadEquation] [mk_laws_markEquation] [20, 27, 41, 54] [] [] [2]) f_laws_FnExactReadEquation fun r => areEq r [⟨.bool, true⟩]) (startState f_laws_FnExactReadEquation [.val ⟨(.st .sig), gg⟩, .val ⟨.str, t⟩]) =
 ((inI64 ((t.length : Int)) →
 (((decide ((1048576 : Int) < ((t.length : Int)))) = true →
 true = true) ∧ ((decide ((1048576 : Int) < ((t.length : Int)))) = false →
 (inI64 (reC gg t) →
 (inI64 (reC gg t) →
 (((!(eqB (e_equation (reV gg t)) (e_equation (reV gg t)))) = false →
 (((!(decide ((reC gg t) = (reC gg t)))) = true →
 false = true) ∧ ((!(decide ((reC gg t) = (reC gg t)))) = false →
 (j_laws_FnExactReadEquation_3 gg t)))) ∧ ((!(eqB (e_equation (reV gg t)) (e_equation (reV gg t)))) = (!false) →
 ((true = true →
 false = true) ∧ (true = false →
 (j_laws_FnExactReadEquation_3 gg t))))))))))) := by kernel_rfl
theorem ok_laws_FnExactReadEquation (hE : AllGood [k_laws_toSig, k_laws_eqEquation, k_laws_heldEquation]) (hO : AllO [ko_impl_ReadEquation, ko_spec_ReadEquation]) (hM : AllM [mk_laws_markEquation]) (hS : AllS []) : Ctr.Good k_laws_FnExactReadEquation := by
 refine ⟨fnOk_of at_laws_FnExactReadEquation rfl (by decide), ?_⟩
 show ∀ (gg : GSig) (t : List UInt8), True → OkCall prog n_laws_FnExactReadEquation [.val ⟨(.st .sig), gg⟩, .val ⟨.str, t⟩] (· = [⟨.bool, true⟩])
 intro gg t _
 refine ok_of_awpO (own := [20, 27, 41, 54]) (wr := []) (cl := []) (ro := [2]) hE hO hM hS at_laws_FnExactReadEquation body_laws_FnExactReadEquation (l_laws_FnExactReadEquation gg t) ?_
 rewrite [vc_laws_FnExactReadEquation gg t]
 have f4 := reV_sz gg t
 have f5 := cnt_szE (reV gg t).left
 have f6 := cnt_szE (reV gg t).right
 have f7 := heldQ_mk (reV gg t).left (reV gg t).right
 have f8 := cnt_mkXs 1 (reV gg t).left
 have f9 := cnt_mkXs (1 + (szL cntX (reV gg t).left.kids : Int)) (reV gg t).right
 refine fun a0 => ⟨fun a1 => rfl, fun a1 => fun a2 => fun a3 => ⟨fun a4 => ⟨fun a5 => ?_, fun a5 => ⟨?_, ⟨?_, fun a6 => ⟨fun a7 => ?_, fun a7 => ⟨fun a8 => ?_, fun a8 => fun a9 => ⟨fun a10 => ⟨fun a11 => ?_, fun a11 => ⟨?_, fun a12 => ⟨fun a13 => ?_, fun a13 => ⟨fun a14 => ?_, fun a14 => rfl⟩⟩⟩⟩, fun a10 => ⟨fun a11 => ?_, fun a11 => ⟨?_, fun a12 => ⟨fun a13 => ?_, fun a13 => ⟨fun a14 => ?_, fun a14 => rfl⟩⟩⟩⟩⟩⟩⟩⟩⟩⟩, fun a4 => ⟨fun a5 => ?_, fun a5 => ⟨?_, ⟨?_, fun a6 => ⟨fun a7 => ?_, fun a7 => ⟨fun a8 => ?_, fun a8 => fun a9 => ⟨fun a10 => ⟨fun a11 => ?_, fun a11 => ⟨?_, fun a12 => ⟨fun a13 => ?_, fun a13 => ⟨fun a14 => ?_, fun a14 => rfl⟩⟩⟩⟩, fun a10 => ⟨fun a11 => ?_, fun a11 => ⟨?_, fun a12 => ⟨fun a13 => ?_, fun a13 => ⟨fun a14 => ?_, fun a14 => rfl⟩⟩⟩⟩⟩⟩⟩⟩⟩⟩⟩⟩
 all_goals try and_intros
 all_goals try simp only [GExpr.eta, GProg.eta, GDerivation.eta, GTriple.eta, GPremise.eta, GClaim.eta, GEquation.eta, GPair.eta, GSpot.eta, e_expr_eq, e_pair_eq, e_equation_eq, e_claim_eq, e_prog_eq, e_spot_eq, e_triple_eq, e_premise_eq, e_derivation_eq] at *
 all_goals first | rfl | trivial | omega | (simp only [decide_eq_true_eq, decide_eq_false_iff_not, idxOk, inI64, inKind, cutOk, makeOk, roomOk] at *; omega) | (simp [idxOk, inI64] at *; omega) | grind | (simp_all; done)
theorem good_laws_FnExactReadEquation : Ctr.Good k_laws_FnExactReadEquation := ok_laws_FnExactReadEquation ⟨good_laws_toSig, good_laws_eqEquation, good_laws_heldEquation, trivial⟩ ⟨ogood_impl_ReadEquation, ogood_spec_ReadEquation, trivial⟩ ⟨mgood_laws_markEquation, trivial⟩ trivial
theorem law_FnExactReadEquation : ∀ tvs : List TV, tvs.map TV.τ = [(.st .sig), .str] → OkCall prog n_laws_FnExactReadEquation (tvs.map .val) (· = [⟨.bool, true⟩]) := by
 intro tvs h
 match tvs, h with
 | [⟨t0, a0⟩, ⟨t1, a1⟩], h =>
  simp only [List.map_cons, List.map_nil, List.cons.injEq, and_true] at h
  obtain ⟨rfl, rfl⟩ := h
  exact good_laws_FnExactReadEquation.2 a0 a1 trivial
end
end Go.Proofs.YtkogipcdjalehaaDoor
