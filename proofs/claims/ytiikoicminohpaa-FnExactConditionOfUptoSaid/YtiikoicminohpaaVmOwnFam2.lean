/- Marks in lists of structs. Printed by vmk.py. -/
import Derived.Test.YtiikoicminohpaaVmUse
import Derived.Test.YtiikoicminohpaaVmLib
import Derived.Test.YtiikoicminohpaaVmSz
import Derived.Test.YtiikoicminohpaaVmTo
import Derived.Test.YtiikoicminohpaaVmEq
import Derived.Test.YtiikoicminohpaaVmOwnFam
set_option linter.unusedVariables false
set_option linter.unusedSimpArgs false
set_option linter.unusedSectionVars false
namespace Go.Proofs.Ytiikoicminohpaa
noncomputable section

/-- A list's elements get their marks one behind the other. -/
def mkL {α : Type} (cnt : α → Nat) (mk : Int → α → α) (k : Int) : List α → List α
  | [] => []
  | x :: xs => mk k x :: mkL cnt mk (k + (cnt x : Int)) xs
theorem mkL_length {α : Type} (cnt : α → Nat) (mk : Int → α → α) : ∀ (k : Int) (xs : List α), (mkL cnt mk k xs).length = xs.length
  | _, [] => rfl
  | k, x :: xs => by simp [mkL, mkL_length cnt mk _ xs]
theorem mkL_getD {α : Type} (cnt : α → Nat) (mk : Int → α → α) (z : α) : ∀ (k : Int) (xs : List α) (i : Nat), i < xs.length → (mkL cnt mk k xs).getD i z = mk (k + (szL cnt (xs.take i) : Int)) (xs.getD i z)
  | k, [], i, h => by simp at h
  | k, x :: xs, 0, h => by simp [mkL, szL]
  | k, x :: xs, i + 1, h => by
    have := mkL_getD cnt mk z (k + (cnt x : Int)) xs i (by simpa using h)
    simp only [mkL, List.getD_cons_succ, this, List.take_succ_cons, szL]
    congr 1
    omega
theorem mkL_step {α : Type} (cnt : α → Nat) (mk : Int → α → α) (k : Int) (xs : List α) (i : Nat) (z : α) (h : i < xs.length) (y : α) (e : y = mk (k + (szL cnt (xs.take i) : Int)) (xs.getD i z)) :
    (half (mkL cnt mk k xs) xs i).set i y = half (mkL cnt mk k xs) xs (i + 1) := by
  rw [e, ← mkL_getD cnt mk z k xs i h, half_set _ _ z i (mkL_length cnt mk k xs) h]
theorem cnt_lenL {α : Type} (cnt : α → Nat) (h : ∀ x, 1 ≤ cnt x) : ∀ xs : List α, xs.length ≤ szL cnt xs
  | [] => by simp [szL]
  | x :: xs => by
    have := cnt_lenL cnt h xs
    have := h x
    simp only [szL, List.length_cons]; omega

def ko_laws_toPremise : Ctr := ⟨n_laws_toPremise, [.v (.st .premise)], fun (x : GPremise) => ⟨(some (sz_premise x ≤ 1048576), [⟨(.st .premise), x⟩])⟩⟩
def lo_laws_toPremise (x : GPremise) : Nat → LoopInv := fun _ => .none
theorem vco_laws_toPremise (x : GPremise) : awp (envO [] [ko_laws_toExpr] [] [6, 13] [] [] [1]) (bodyOf f_laws_toPremise) (lo_laws_toPremise x) 0 (ownPost (envO [] [ko_laws_toExpr] [] [6, 13] [] [] [1]) f_laws_toPremise fun r => areEq r [⟨(.st .premise), x⟩]) (startO f_laws_toPremise [.val ⟨(.st .premise), x⟩]) =
  ((sz_expr x.pre ≤ 1048576 ∧ (inI64 x.act →
 (sz_expr x.post ≤ 1048576 ∧ (e_premise x) = x)))) := by kernel_rfl
set_option maxRecDepth 4000 in
set_option maxHeartbeats 1000000 in
theorem oko_laws_toPremise (hE : AllGood []) (hO : AllO [ko_laws_toExpr]) (hM : AllM []) (hS : AllS []) : Ctr.OGood ko_laws_toPremise := by
  refine ⟨fnOk_of at_laws_toPremise rfl (by decide), ?_⟩
  show ∀ (x : GPremise), (sz_premise x ≤ 1048576) → OkOwn prog n_laws_toPremise [.val ⟨(.st .premise), x⟩] [⟨(.st .premise), x⟩]
  intro x hp
  refine own_of_awp (own := [6, 13]) (wr := []) (cl := []) (ro := [1]) hE hO hM hS at_laws_toPremise body_laws_toPremise (lo_laws_toPremise x) ?_
  rewrite [vco_laws_toPremise x]
  rw [sz_premise_eq] at hp
  refine ⟨?_, fun a0 => ⟨?_, ?_⟩⟩
  all_goals try and_intros
  all_goals try simp only [GExpr.eta, GProg.eta, GDerivation.eta, GTriple.eta, GPremise.eta, GClaim.eta, GEquation.eta, GPair.eta, GSpot.eta, e_expr_eq, e_pair_eq, e_equation_eq, e_claim_eq, e_prog_eq, e_spot_eq, e_triple_eq, e_premise_eq, e_derivation_eq] at *
  all_goals first | rfl | trivial | omega | (simp only [decide_eq_true_eq, decide_eq_false_iff_not, idxOk, inI64, inKind, cutOk, makeOk, roomOk] at *; omega) | (simp [idxOk, inI64] at *; omega) | grind

theorem ogood_laws_toPremise : Ctr.OGood ko_laws_toPremise := oko_laws_toPremise trivial ⟨ogood_laws_toExpr, trivial⟩ trivial trivial

def ko_laws_toPremiseS : Ctr := ⟨n_laws_toPremiseS, [.v (.slice (.st .premise))], fun (xs : List GPremise) => ⟨(some (xs.length + szL sz_premise xs ≤ 1048576), [⟨(.slice (.st .premise)), xs⟩])⟩⟩
def lo_laws_toPremiseS (xs : List GPremise) : Nat → LoopInv := (fun zb => if Nat.beq zb 0 then .mk (Nat) (fun k => k ≤ xs.length) (fun k => xs.length - k) [] [1, 5, 6, 7] (fun k => [(4, .imm ⟨(.int .i64), ((k : Int) : Int)⟩), (3, .tree 7)]) [0, 2, 3, 4, 8, 9, 10, 11, 12, 13, 14, 15, 16, 17, 18, 19, 20, 21, 22] (fun k => [(7, .tree (.st .premise) (fill xs k (GPremise.mk (GExpr.mk (0 : Int) (0 : Int) []) (0 : Int) (GExpr.mk (0 : Int) (0 : Int) [])) : List GPremise))]) [] [] (fun k => fun _ => .none) else .none)
theorem vco_laws_toPremiseS (xs : List GPremise) : awp (envO [] [ko_laws_toPremise] [] [7, 20] []) (bodyOf f_laws_toPremiseS) (lo_laws_toPremiseS xs) 0 (ownPost (envO [] [ko_laws_toPremise] [] [7, 20] []) f_laws_toPremiseS fun r => areEq r [⟨(.slice (.st .premise)), xs⟩]) (startO f_laws_toPremiseS [.val ⟨(.slice (.st .premise)), xs⟩]) =
  ((inI64 ((xs.length : Int)) →
 (makeOk ((xs.length : Int)) ((xs.length : Int)) 88 ∧ ((∃ k1 : Nat, (k1 ≤ xs.length ∧ ((xs = xs ∧ (True ∧ (True ∧ ((0 : Int) = (k1 : Int) ∧ True)))) ∧ ((List.replicate (Int.toNat ((xs.length : Int))) (GPremise.mk (GExpr.mk (0 : Int) (0 : Int) []) (0 : Int) (GExpr.mk (0 : Int) (0 : Int) []))) = (fill xs k1 (GPremise.mk (GExpr.mk (0 : Int) (0 : Int) []) (0 : Int) (GExpr.mk (0 : Int) (0 : Int) []))) ∧ True)))) ∧ (∀ k1 : Nat, (k1 ≤ xs.length →
 (inI64 ((xs.length : Int)) →
 (((decide ((k1 : Int) < ((xs.length : Int)))) = true →
 (idxOk (k1 : Int) xs.length ∧ (sz_premise (xs.getD k1 (GPremise.mk (GExpr.mk (0 : Int) (0 : Int) []) (0 : Int) (GExpr.mk (0 : Int) (0 : Int) []))) ≤ 1048576 ∧ (idxOk (k1 : Int) (fill xs k1 (GPremise.mk (GExpr.mk (0 : Int) (0 : Int) []) (0 : Int) (GExpr.mk (0 : Int) (0 : Int) []))).length ∧ (inI64 ((k1 : Int) + (1 : Int)) ∧ (∃ k2 : Nat, (k2 ≤ xs.length ∧ (xs.length - k2 < xs.length - k1 ∧ ((xs = xs ∧ (True ∧ (True ∧ (((k1 : Int) + (1 : Int)) = (k2 : Int) ∧ True)))) ∧ (((fill xs k1 (GPremise.mk (GExpr.mk (0 : Int) (0 : Int) []) (0 : Int) (GExpr.mk (0 : Int) (0 : Int) []))).set k1 (e_premise (xs.getD k1 (GPremise.mk (GExpr.mk (0 : Int) (0 : Int) []) (0 : Int) (GExpr.mk (0 : Int) (0 : Int) []))))) = (fill xs k2 (GPremise.mk (GExpr.mk (0 : Int) (0 : Int) []) (0 : Int) (GExpr.mk (0 : Int) (0 : Int) []))) ∧ True)))))))))) ∧ ((decide ((k1 : Int) < ((xs.length : Int)))) = false →
 (fill xs k1 (GPremise.mk (GExpr.mk (0 : Int) (0 : Int) []) (0 : Int) (GExpr.mk (0 : Int) (0 : Int) []))) = xs))))))))) := by kernel_rfl
set_option maxRecDepth 4000 in
set_option maxHeartbeats 1000000 in
theorem oko_laws_toPremiseS (hE : AllGood []) (hO : AllO [ko_laws_toPremise]) (hM : AllM []) (hS : AllS []) : Ctr.OGood ko_laws_toPremiseS := by
  refine ⟨fnOk_of at_laws_toPremiseS rfl (by decide), ?_⟩
  show ∀ (xs : List GPremise), (xs.length + szL sz_premise xs ≤ 1048576) → OkOwn prog n_laws_toPremiseS [.val ⟨(.slice (.st .premise)), xs⟩] [⟨(.slice (.st .premise)), xs⟩]
  intro xs hp
  refine own_of_awp (own := [7, 20]) (wr := []) (cl := []) (ro := []) hE hO hM hS at_laws_toPremiseS body_laws_toPremiseS (lo_laws_toPremiseS xs) ?_
  rewrite [vco_laws_toPremiseS xs]
  refine fun a0 => ⟨?_, ⟨⟨0, ⟨?_, ⟨⟨rfl, ⟨trivial, ⟨trivial, ⟨?_, trivial⟩⟩⟩⟩, ⟨?_, trivial⟩⟩⟩⟩, fun k1 a1 => have b1x0 := fill_all xs (GPremise.mk (GExpr.mk (0 : Int) (0 : Int) []) (0 : Int) (GExpr.mk (0 : Int) (0 : Int) [])) k1; have b1x1 := length_fill xs (GPremise.mk (GExpr.mk (0 : Int) (0 : Int) []) (0 : Int) (GExpr.mk (0 : Int) (0 : Int) [])) k1; have b1x2 := fill_set xs (GPremise.mk (GExpr.mk (0 : Int) (0 : Int) []) (0 : Int) (GExpr.mk (0 : Int) (0 : Int) [])) (GPremise.mk (GExpr.mk (0 : Int) (0 : Int) []) (0 : Int) (GExpr.mk (0 : Int) (0 : Int) [])) k1; have b1x3 := szL_getD sz_premise (GPremise.mk (GExpr.mk (0 : Int) (0 : Int) []) (0 : Int) (GExpr.mk (0 : Int) (0 : Int) [])) xs k1; fun a2 => ⟨fun a3 => ⟨?_, ⟨?_, ⟨?_, ⟨?_, ⟨k1 + 1, ⟨?_, ⟨?_, ⟨⟨rfl, ⟨trivial, ⟨trivial, ⟨?_, trivial⟩⟩⟩⟩, ⟨?_, trivial⟩⟩⟩⟩⟩⟩⟩⟩⟩, fun a3 => ?_⟩⟩⟩
  all_goals try and_intros
  all_goals try simp only [GExpr.eta, GProg.eta, GDerivation.eta, GTriple.eta, GPremise.eta, GClaim.eta, GEquation.eta, GPair.eta, GSpot.eta, e_expr_eq, e_pair_eq, e_equation_eq, e_claim_eq, e_prog_eq, e_spot_eq, e_triple_eq, e_premise_eq, e_derivation_eq] at *
  all_goals first | rfl | trivial | omega | (simp only [decide_eq_true_eq, decide_eq_false_iff_not, idxOk, inI64, inKind, cutOk, makeOk, roomOk] at *; omega) | (simp [idxOk, inI64] at *; omega) | grind | exact fill_zero xs _ | (simp only [decide_eq_true_eq, decide_eq_false_iff_not] at *; first | exact fill_set _ _ _ _ (by omega) | exact fill_all _ _ _ (by omega) | (simp only [makeOk]; omega))

theorem ogood_laws_toPremiseS : Ctr.OGood ko_laws_toPremiseS := oko_laws_toPremiseS trivial ⟨ogood_laws_toPremise, trivial⟩ trivial trivial

end
end Go.Proofs.Ytiikoicminohpaa
