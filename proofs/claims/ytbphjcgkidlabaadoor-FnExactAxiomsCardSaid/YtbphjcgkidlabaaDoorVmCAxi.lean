/- The law FnExactAxioms. Printed by vmk.py. -/
import Derived.Test.YtbphjcgkidlabaaDoorVmUse
import Derived.Test.YtbphjcgkidlabaaDoorVmLib
import Derived.Test.YtbphjcgkidlabaaDoorVmHeld
import Derived.Test.YtbphjcgkidlabaaDoorVmHeldQ
import Derived.Test.YtbphjcgkidlabaaDoorVmAxi
set_option linter.unusedVariables false
set_option linter.unusedSimpArgs false
set_option linter.unusedSectionVars false
set_option maxRecDepth 4000
set_option maxHeartbeats 4000000
namespace Go.Proofs.YtbphjcgkidlabaaDoor
noncomputable section
mutual
theorem cntX_szE : ∀ x : GExpr, cntX x = 2 + 2 * sz_expr x
 | ⟨k, n, ks⟩ => by
  have := cntXs_szE ks
  simp only [cntX, sz_expr, this, szs_expr_eq]
theorem cntXs_szE : ∀ xs : List GExpr, cntXs xs = 2 * (xs.length + szL sz_expr xs)
 | [] => by simp [cntXs, szL]
 | x :: xs => by
  have h1 := cntX_szE x
  have h2 := cntXs_szE xs
  simp only [cntXs, szL, List.length_cons, h1, h2]; omega
end
theorem cnt_szE (x : GExpr) : szL cntX x.kids = 2 * sz_expr x := by
 have := cntXs_szE x.kids
 rw [cntXs_eq] at this
 rw [this, sz_expr_eq]
mutual
theorem sz_nodes : ∀ x : GExpr, sz_expr x + 1 = nodesE x
 | ⟨_, _, ks⟩ => by
  have := szs_nodes ks
  simp only [sz_expr, nodesE]; omega
theorem szs_nodes : ∀ xs : List GExpr, xs.length + szs_expr xs = nodesEs xs
 | [] => rfl
 | x :: xs => by
  have h1 := sz_nodes x
  have h2 := szs_nodes xs
  simp only [szs_expr, nodesEs, List.length_cons]; omega
end
theorem rdV_sz (gg : GSig) (t : List UInt8) : sz_expr (rdV gg t) ≤ 1000 := by
 unfold rdV
 cases h : rdOk gg t
 ·exact Nat.le_of_ble_eq_true rfl
 ·simp only [rdOk, Bool.and_eq_true] at h
  have h2 := h.1.2
  rw [isE_iff] at h2
  have := sz_nodes (topI t).e
  show sz_expr (topI t).e ≤ 1000
  omega
theorem rqV_sz (gg : GSig) (t : List UInt8) : sz_expr (rqV gg t).left ≤ 1000 ∧ sz_expr (rqV gg t).right ≤ 1000 := by
 unfold rqV
 cases rqOk gg t
 ·exact ⟨Nat.le_of_ble_eq_true rfl, Nat.le_of_ble_eq_true rfl⟩
 ·exact ⟨rdV_sz gg _, rdV_sz gg _⟩
theorem szL_bound {α : Type} (f : α → Nat) (M : Nat) : ∀ xs : List α, (∀ x ∈ xs, f x ≤ M) → szL f xs ≤ M * xs.length
 | [], _ => by simp [szL]
 | x :: xs, h => by
  have h1 := szL_bound f M xs fun y hy => h y (by simp [hy])
  have h2 := h x (by simp)
  simp only [szL, List.length_cons, Nat.mul_succ]; omega
theorem axQ_sz : szL cnt_equation axQ ≤ 200000 := by
 have h := szL_bound cnt_equation 4004 axQ fun x hx => by
  obtain ⟨t, _, rfl⟩ := List.mem_map.1 hx
  have h1 := rqV_sz gP t
  have h2 := cnt_szE (rqV gP t).left
  have h3 := cnt_szE (rqV gP t).right
  rw [cnt_equation_eq]; omega
 have hl : axQ.length = 24 := rfl
 rw [hl] at h; omega
def k_laws_FnExactAxioms : Ctr := ⟨n_laws_FnExactAxioms, [], ⟨(none, [⟨.bool, true⟩])⟩⟩
def l_laws_FnExactAxioms  : Nat → LoopInv := fun _ => .none
abbrev j_laws_FnExactAxioms_0  : Prop := ((!(decide ((heldQs (1 : Int) (mkL cnt_equation mk_equation (1 : Int) (axQ))) = ((1 : Int) + (szL cnt_equation (axQ) : Int))))) = true →
 false = true)
theorem vc_laws_FnExactAxioms  : awp (envO [k_laws_eqEquationS, k_laws_heldEquationS] [ko_impl_Axioms, ko_spec_Axioms] [mk_laws_markEquationS] [6, 7, 14, 23] []) (bodyOf f_laws_FnExactAxioms) (l_laws_FnExactAxioms ) 0 (funPost (envO [k_laws_eqEquationS, k_laws_heldEquationS] [ko_impl_Axioms, ko_spec_Axioms] [mk_laws_markEquationS] [6, 7, 14, 23] []) f_laws_FnExactAxioms fun r => areEq r [⟨.bool, true⟩]) (startState f_laws_FnExactAxioms []) =
 ((((!(eqB (axQ) (axQ))) = true →
 false = true) ∧ ((!(eqB (axQ) (axQ))) = false →
 ((0 ≤ (1 : Int) ∧ (1 : Int) + (szL cnt_equation (axQ) : Int) ≤ 4611686018427387904) ∧ ((0 ≤ (1 : Int) ∧ (1 : Int) + (szL cnt_equation (mkL cnt_equation mk_equation (1 : Int) (axQ)) : Int) ≤ 4611686018427387904) ∧ (inI64 (heldQs (1 : Int) (mkL cnt_equation mk_equation (1 : Int) (axQ))) →
 (((decide ((heldQs (1 : Int) (mkL cnt_equation mk_equation (1 : Int) (axQ))) < (0 : Int))) = true →
 false = true) ∧ ((decide ((heldQs (1 : Int) (mkL cnt_equation mk_equation (1 : Int) (axQ))) < (0 : Int))) = false →
 (j_laws_FnExactAxioms_0 ∧ ((!(decide ((heldQs (1 : Int) (mkL cnt_equation mk_equation (1 : Int) (axQ))) = ((1 : Int) + (szL cnt_equation (axQ) : Int))))) = false →
 (((!(eqB (axQ) (axQ))) = true →
 false = true) ∧ ((!(eqB (axQ) (axQ))) = false →
 ((0 ≤ (1 : Int) ∧ (1 : Int) + (szL cnt_equation (mkL cnt_equation mk_equation (1 : Int) (axQ)) : Int) ≤ 4611686018427387904) ∧ (inI64 (heldQs (1 : Int) (mkL cnt_equation mk_equation (1 : Int) (axQ))) →
 (((decide ((heldQs (1 : Int) (mkL cnt_equation mk_equation (1 : Int) (axQ))) < (0 : Int))) = true →
 false = true) ∧ ((decide ((heldQs (1 : Int) (mkL cnt_equation mk_equation (1 : Int) (axQ))) < (0 : Int))) = false →
 (j_laws_FnExactAxioms_0 ∧ ((!(decide ((heldQs (1 : Int) (mkL cnt_equation mk_equation (1 : Int) (axQ))) = ((1 : Int) + (szL cnt_equation (axQ) : Int))))) = false →
 true = true)))))))))))))))))) := by kernel_rfl
theorem ok_laws_FnExactAxioms (hE : AllGood [k_laws_eqEquationS, k_laws_heldEquationS]) (hO : AllO [ko_impl_Axioms, ko_spec_Axioms]) (hM : AllM [mk_laws_markEquationS]) (hS : AllS []) : Ctr.Good k_laws_FnExactAxioms := by
 refine ⟨fnOk_of at_laws_FnExactAxioms rfl (by decide), ?_⟩
 show True → OkCall prog n_laws_FnExactAxioms [] (· = [⟨.bool, true⟩])
 intro  _
 refine ok_of_awpO (own := [6, 7, 14, 23]) (wr := []) (cl := []) (ro := []) hE hO hM hS at_laws_FnExactAxioms body_laws_FnExactAxioms (l_laws_FnExactAxioms ) ?_
 rewrite [vc_laws_FnExactAxioms ]
 have f4 := axQ_sz
 have f5 := heldQs_mk 1 axQ
 have f6 := (mkL_mk cnt_equation mk_equation mkQ_mk cntQ_mk 1 axQ).2
 refine ⟨fun a0 => ?_, fun a0 => ⟨?_, ⟨?_, fun a1 => ⟨fun a2 => ?_, fun a2 => ⟨fun a3 => ?_, fun a3 => ⟨fun a4 => ?_, fun a4 => ⟨?_, fun a5 => ⟨fun a6 => ?_, fun a6 => ⟨fun a7 => ?_, fun a7 => rfl⟩⟩⟩⟩⟩⟩⟩⟩⟩
 all_goals try and_intros
 all_goals first | rfl | trivial | omega | (simp only [decide_eq_true_eq, decide_eq_false_iff_not, idxOk, inI64, inKind, cutOk, makeOk, roomOk] at *; omega) | (simp [idxOk, inI64] at *; omega) | grind | (simp_all; done)
theorem good_laws_FnExactAxioms : Ctr.Good k_laws_FnExactAxioms := ok_laws_FnExactAxioms ⟨good_laws_eqEquationS, good_laws_heldEquationS, trivial⟩ ⟨ogood_impl_Axioms, ogood_spec_Axioms, trivial⟩ ⟨mgood_laws_markEquationS, trivial⟩ trivial
theorem law_FnExactAxioms : ∀ tvs : List TV, tvs.map TV.τ = [] → OkCall prog n_laws_FnExactAxioms (tvs.map .val) (· = [⟨.bool, true⟩]) := by
 intro tvs h
 match tvs, h with
 | [], _ => exact good_laws_FnExactAxioms.2 trivial
end
end Go.Proofs.YtbphjcgkidlabaaDoor
