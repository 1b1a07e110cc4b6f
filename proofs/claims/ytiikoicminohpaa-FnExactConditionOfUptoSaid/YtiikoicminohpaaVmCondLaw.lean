/- The law FnExactConditionOf. Printed by vmk.py. -/
import Derived.Test.YtiikoicminohpaaVmUse
import Derived.Test.YtiikoicminohpaaVmLib
import Derived.Test.YtiikoicminohpaaVmSz
import Derived.Test.YtiikoicminohpaaVmTo
import Derived.Test.YtiikoicminohpaaVmEq
import Derived.Test.YtiikoicminohpaaVmOwnFam
import Derived.Test.YtiikoicminohpaaVmOwnFam2
import Derived.Test.YtiikoicminohpaaVmHeld
import Derived.Test.YtiikoicminohpaaVmValid
import Derived.Test.YtiikoicminohpaaVmBld
import Derived.Test.YtiikoicminohpaaVmCond
import Derived.Test.YtiikoicminohpaaVmCond2
set_option linter.unusedVariables false
set_option linter.unusedSimpArgs false
set_option linter.unusedSectionVars false
namespace Go.Proofs.Ytiikoicminohpaa
noncomputable section

theorem allN_iff (p : Nat → Bool) : ∀ n, allN p n = true ↔ ∀ k, k < n → p k = true
  | 0 => by simp [allN]
  | n + 1 => by
    rw [allN_succ, Bool.and_eq_true, allN_iff p n]
    constructor
    · rintro ⟨h1, h2⟩ k hk
      rcases Nat.lt_or_ge k n with h | h
      · exact h1 k h
      · rw [show k = n by omega]; exact h2
    · exact fun h => ⟨fun k hk => h k (by omega), h n (by omega)⟩
theorem allL_iff {α : Type} (f : α → Bool) (z : α) : ∀ xs : List α, allL f xs = true ↔ ∀ k, k < xs.length → f (xs.getD k z) = true
  | [] => by simp [allL]
  | x :: xs => by
    simp only [allL, Bool.and_eq_true, allL_iff f z xs, List.length_cons]
    constructor
    · rintro ⟨h1, h2⟩ k hk
      cases k with
      | zero => simpa using h1
      | succ k => simpa using h2 k (by omega)
    · intro h
      exact ⟨by simpa using h 0 (by omega), fun k hk => by simpa using h (k + 1) (by omega)⟩
def cvOk (gg : GSig) (xs : List Int) : Bool := ascB xs && allL (inB0 (atomsN gg)) xs
theorem ris_eq (gg : GSig) (xs : List Int) : risB 0 (atomsN gg - 1) xs = cvOk gg xs := by
  refine Bool.eq_iff_iff.2 ?_
  simp only [risB, cvOk, ascB, Bool.and_eq_true, allN_iff, allL_iff (inB0 (atomsN gg)) 0, risAt, inB0]
  constructor
  · exact fun h => ⟨fun k hk => (h k hk).2, fun k hk => (h k hk).1⟩
  · exact fun h k hk => ⟨h.2 k hk, h.1 k hk⟩
theorem asc_ge (xs : List Int) (h : ascB xs = true) (h0 : ∀ k, k < xs.length → 0 ≤ xs.getD k 0) : ∀ k, k < xs.length → (k : Int) ≤ xs.getD k 0
  | 0, hk => h0 0 hk
  | k + 1, hk => by
    have h1 := asc_ge xs h h0 k (by omega)
    have h2 := (allN_iff (ascAt xs) xs.length).1 h (k + 1) hk
    rw [ascAt_eq xs (k + 1) (by omega)] at h2
    simp only [decide_eq_true_eq, Nat.add_sub_cancel] at h2
    omega
theorem cvOk_spec (gg : GSig) (xs : List Int) (hg : 0 ≤ gg.tests ∧ gg.tests ≤ 3) (h : cvOk gg xs = true) : allL (inB0 8) xs = true ∧ xs.length ≤ 8 := by
  have ha := atomsN_le gg hg
  simp only [cvOk, Bool.and_eq_true] at h
  have h2 := (allL_iff (inB0 (atomsN gg)) 0 xs).1 h.2
  have h3 : ∀ k, k < xs.length → 0 ≤ xs.getD k 0 ∧ xs.getD k 0 ≤ 7 := fun k hk => by
    have := h2 k hk
    simp only [inB0, decide_eq_true_eq] at this
    omega
  refine ⟨(allL_iff (inB0 8) 0 xs).2 fun k hk => ?_, ?_⟩
  · have := h3 k hk
    simp only [inB0, decide_eq_true_eq]; omega
  · rcases Nat.lt_or_ge 8 xs.length with hl | hl
    · have h4 := asc_ge xs h.1 (fun k hk => (h3 k hk).1) 8 hl
      have h5 := (h3 8 hl).2
      omega
    · exact hl
def cvV (gg : GSig) (xs : List Int) : GExpr := if sigOk gg = true ∧ cvOk gg xs = true then ofA gg xs else GExpr.mk 0 0 []
def cvC (gg : GSig) (xs : List Int) : Int := if sigOk gg = true then (if cvOk gg xs = true then 0 else 2) else 1
theorem cvV_ok (gg : GSig) (xs : List Int) (h1 : sigOk gg = true) (h2 : cvOk gg xs = true) : cvV gg xs = ofA gg xs ∧ cvC gg xs = 0 := by simp [cvV, cvC, h1, h2]
theorem cvV_no (gg : GSig) (xs : List Int) (h1 : sigOk gg = true) (h2 : cvOk gg xs = false) : cvV gg xs = GExpr.mk 0 0 [] ∧ cvC gg xs = 2 := by simp [cvV, cvC, h1, h2]
theorem cvV_sig (gg : GSig) (xs : List Int) (h1 : sigOk gg = false) : cvV gg xs = GExpr.mk 0 0 [] ∧ cvC gg xs = 1 := by simp [cvV, cvC, h1]
theorem cvOk_eq (gg : GSig) (xs : List Int) : cvOk gg xs = (ascB xs && allL (inB0 (atomsN gg)) xs) := rfl
theorem sz_litA (a n : Int) : sz_expr (litA a n) ≤ 1 := by
  unfold litA
  split <;> simp [sz_expr_eq, szL]
theorem sz_conN (a : Int) : ∀ n : Nat, sz_expr (conN a n) ≤ 3 * n
  | 0 => by simp [conN, sz_expr_eq, szL]
  | 1 => by have := sz_litA a 0; simp only [conN]; omega
  | n + 2 => by
    have h1 := sz_conN a (n + 1)
    have h2 := sz_litA a ((n + 1 : Nat) : Int)
    simp only [conN, sz_expr_eq, szL, List.length_cons, List.length_nil] at *
    omega
theorem sz_foldE : ∀ (xs : List GExpr) (o : GExpr), sz_expr (xs.foldl (fun o e => GExpr.mk 6 0 [o, e]) o) = sz_expr o + 2 * xs.length + szL sz_expr xs
  | [], o => by simp [szL]
  | x :: xs, o => by
    rw [List.foldl_cons, sz_foldE xs]
    rw [sz_expr_eq (GExpr.mk 6 0 [o, x])]
    simp only [szL, List.length_cons, List.length_nil]; omega
theorem szL_con (n : Nat) : ∀ xs : List Int, szL sz_expr (xs.map fun a => conN a n) ≤ xs.length * (3 * n)
  | [] => by simp [szL]
  | x :: xs => by
    have h1 := szL_con n xs
    have h2 := sz_conN x n
    simp only [List.map_cons, szL, List.length_cons, Nat.add_mul]; omega
theorem cvV_sz (gg : GSig) (xs : List Int) : sz_expr (cvV gg xs) ≤ 1048576 := by
  unfold cvV
  split
  · rename_i h
    have hg := ((sigOk_iff gg).1 h.1).1
    have hl := (cvOk_spec gg xs hg h.2).2
    have h1 := szL_con gg.tests.toNat xs
    have h3 : xs.length * (3 * gg.tests.toNat) ≤ 8 * 9 := Nat.mul_le_mul hl (by omega)
    unfold ofA sumE
    rw [sz_foldE]
    simp only [List.length_map]
    rw [show sz_expr (GExpr.mk 1 0 []) = 0 by simp [sz_expr_eq, szL]]
    omega
  · simp [sz_expr_eq, szL]
mutual
theorem cntX_szC : ∀ x : GExpr, cntX x = 2 + 2 * sz_expr x
  | ⟨k, n, ks⟩ => by
    have := cntXs_szC ks
    simp only [cntX, sz_expr, this, szs_expr_eq]
theorem cntXs_szC : ∀ xs : List GExpr, cntXs xs = 2 * (xs.length + szL sz_expr xs)
  | [] => by simp [cntXs, szL]
  | x :: xs => by
    have h1 := cntX_szC x
    have h2 := cntXs_szC xs
    simp only [cntXs, szL, List.length_cons, h1, h2]; omega
end
theorem cnt_szC (x : GExpr) : szL cntX x.kids = 2 * sz_expr x := by
  have := cntXs_szC x.kids
  rw [cntXs_eq] at this
  rw [this, sz_expr_eq]
theorem held_cvV (gg : GSig) (xs : List Int) : heldXs 1 (mkXs 1 (cvV gg xs).kids) = 1 + 2 * (sz_expr (cvV gg xs) : Int) := by
  rw [heldXs_mk, cnt_szC]; omega
theorem cnt_mkXsC (k : Int) (x : GExpr) : szL cntX (mkXs k x.kids) = 2 * sz_expr x := by
  have h := cntXs_mk k x.kids
  rw [cntXs_eq, cntXs_eq, cnt_szC] at h
  exact h

def ko_impl_ConditionOf : Ctr := ⟨n_impl_ConditionOf, [.v (.st .sig), .v (.slice (.int .i64))], fun (gg : GSig) (xs : List Int) => ⟨(none, [⟨(.st .expr), cvV gg xs⟩, ⟨(.int .i64), cvC gg xs⟩])⟩⟩
def lo_impl_ConditionOf (gg : GSig) (xs : List Int) : Nat → LoopInv := fun _ => .none
abbrev qo_impl_ConditionOf_0 (gg : GSig) (xs : List Int) : Prop := (((0 ≤ gg.tests ∧ gg.tests ≤ 3) ∧ allL (inB0 8) xs = true ∧ xs.length ≤ 8) ∧ ((e_expr (ofA gg xs)) = (cvV gg xs) ∧ (0 : Int) = (cvC gg xs)))
theorem vco_impl_ConditionOf (gg : GSig) (xs : List Int) : awp (envO [k_impl_ValidSig, k_impl_ascending, k_impl_atomsIn, k_impl_inRange] [ko_impl_ofAtoms] [] [23] [] [] [2]) (bodyOf f_impl_ConditionOf) (lo_impl_ConditionOf gg xs) 0 (ownPost (envO [k_impl_ValidSig, k_impl_ascending, k_impl_atomsIn, k_impl_inRange] [ko_impl_ofAtoms] [] [23] [] [] [2]) f_impl_ConditionOf fun r => areEq r [⟨(.st .expr), cvV gg xs⟩, ⟨(.int .i64), cvC gg xs⟩]) (startO f_impl_ConditionOf [.val ⟨(.st .sig), gg⟩, .val ⟨(.slice (.int .i64)), xs⟩]) =
  ((((!(sigOk gg)) = true →
 ((GExpr.mk (0 : Int) (0 : Int) []) = (cvV gg xs) ∧ (1 : Int) = (cvC gg xs))) ∧ ((!(sigOk gg)) = false →
 (((!(ascB xs)) = false →
 ((0 ≤ gg.tests ∧ gg.tests ≤ 3) ∧ (inI64 (atomsN gg) →
 ((0 ≤ (atomsN gg) ∧ (atomsN gg) ≤ 4096) ∧ (((!(allL (inB0 (atomsN gg)) xs)) = true →
 ((GExpr.mk (0 : Int) (0 : Int) []) = (cvV gg xs) ∧ (2 : Int) = (cvC gg xs))) ∧ ((!(allL (inB0 (atomsN gg)) xs)) = false →
 (qo_impl_ConditionOf_0 gg xs))))))) ∧ ((!(ascB xs)) = (!false) →
 ((true = true →
 ((GExpr.mk (0 : Int) (0 : Int) []) = (cvV gg xs) ∧ (2 : Int) = (cvC gg xs))) ∧ (true = false →
 (qo_impl_ConditionOf_0 gg xs)))))))) := by kernel_rfl
set_option maxRecDepth 4000 in
set_option maxHeartbeats 1000000 in
theorem oko_impl_ConditionOf (hE : AllGood [k_impl_ValidSig, k_impl_ascending, k_impl_atomsIn, k_impl_inRange]) (hO : AllO [ko_impl_ofAtoms]) (hM : AllM []) (hS : AllS []) : Ctr.OGood ko_impl_ConditionOf := by
  refine ⟨fnOk_of at_impl_ConditionOf rfl (by decide), ?_⟩
  show ∀ (gg : GSig) (xs : List Int), True → OkOwn prog n_impl_ConditionOf [.val ⟨(.st .sig), gg⟩, .val ⟨(.slice (.int .i64)), xs⟩] [⟨(.st .expr), cvV gg xs⟩, ⟨(.int .i64), cvC gg xs⟩]
  intro gg xs _
  refine own_of_awp (own := [23]) (wr := []) (cl := []) (ro := [2]) hE hO hM hS at_impl_ConditionOf body_impl_ConditionOf (lo_impl_ConditionOf gg xs) ?_
  rewrite [vco_impl_ConditionOf gg xs]
  have f0 := fun h => ((sigOk_iff gg).1 h).1
  have f1 := fun h => atomsN_le gg (f0 h)
  have f2 := fun h1 h2 => cvOk_spec gg xs (f0 h1) h2
  have f3 := cvV_ok gg xs
  have f4 := cvV_no gg xs
  have f5 := cvV_sig gg xs
  have f6 := cvOk_eq gg xs
  have f7 := ris_eq gg xs
  refine ⟨fun a0 => ⟨?_, ?_⟩, fun a0 => ⟨fun a1 => ⟨?_, fun a2 => ⟨?_, ⟨fun a3 => ⟨?_, ?_⟩, fun a3 => ⟨?_, ⟨?_, ?_⟩⟩⟩⟩⟩, fun a1 => ⟨fun a2 => ⟨?_, ?_⟩, fun a2 => ⟨?_, ⟨?_, ?_⟩⟩⟩⟩⟩
  all_goals try and_intros
  all_goals try simp only [GExpr.eta, GProg.eta, GDerivation.eta, GTriple.eta, GPremise.eta, GClaim.eta, GEquation.eta, GPair.eta, GSpot.eta, e_expr_eq, e_pair_eq, e_equation_eq, e_claim_eq, e_prog_eq, e_spot_eq, e_triple_eq, e_premise_eq, e_derivation_eq] at *
  all_goals first | rfl | trivial | omega | (simp_all; done) | (simp only [inI64] at *; grind) | grind

theorem ogood_impl_ConditionOf : Ctr.OGood ko_impl_ConditionOf := oko_impl_ConditionOf ⟨good_impl_ValidSig, good_impl_ascending, good_impl_atomsIn, good_impl_inRange, trivial⟩ ⟨ogood_impl_ofAtoms, trivial⟩ trivial trivial

def k_spec_ConditionOf : Ctr := ⟨n_spec_ConditionOf, [.v (.st .sig), .v (.slice (.int .i64))], fun (gg : GSig) (xs : List Int) => ⟨(none, [⟨(.st .expr), cvV gg xs⟩, ⟨(.int .i64), cvC gg xs⟩])⟩⟩
def l_spec_ConditionOf (gg : GSig) (xs : List Int) : Nat → LoopInv := fun _ => .none
theorem vc_spec_ConditionOf (gg : GSig) (xs : List Int) : awp (envOf [k_spec_l01Sig, k_spec_l01Atoms, k_spec_l00Rises, k_spec_l07Of] [] [] [2]) (bodyOf f_spec_ConditionOf) (l_spec_ConditionOf gg xs) 0 (funPost (envOf [k_spec_l01Sig, k_spec_l01Atoms, k_spec_l00Rises, k_spec_l07Of] [] [] [2]) f_spec_ConditionOf fun r => areEq r [⟨(.st .expr), cvV gg xs⟩, ⟨(.int .i64), cvC gg xs⟩]) (startState f_spec_ConditionOf [.val ⟨(.st .sig), gg⟩, .val ⟨(.slice (.int .i64)), xs⟩]) =
  ((((!(sigOk gg)) = true →
 ((GExpr.mk (0 : Int) (0 : Int) []) = (cvV gg xs) ∧ (1 : Int) = (cvC gg xs))) ∧ ((!(sigOk gg)) = false →
 ((0 ≤ gg.tests ∧ gg.tests ≤ 3) ∧ (inI64 (atomsN gg) →
 (inI64 ((atomsN gg) - (1 : Int)) ∧ (((!(risB (0 : Int) ((atomsN gg) - (1 : Int)) xs)) = true →
 ((GExpr.mk (0 : Int) (0 : Int) []) = (cvV gg xs) ∧ (2 : Int) = (cvC gg xs))) ∧ ((!(risB (0 : Int) ((atomsN gg) - (1 : Int)) xs)) = false →
 (((0 ≤ gg.tests ∧ gg.tests ≤ 3) ∧ allL (inB0 8) xs = true ∧ xs.length ≤ 8) ∧ ((e_expr (ofA gg xs)) = (cvV gg xs) ∧ (0 : Int) = (cvC gg xs))))))))))) := by kernel_rfl
set_option maxRecDepth 4000 in
set_option maxHeartbeats 1000000 in
theorem ok_spec_ConditionOf (hE : AllGood [k_spec_l01Sig, k_spec_l01Atoms, k_spec_l00Rises, k_spec_l07Of]) : Ctr.Good k_spec_ConditionOf := by
  refine ⟨fnOk_of at_spec_ConditionOf rfl (by decide), ?_⟩
  show ∀ (gg : GSig) (xs : List Int), True → OkCall prog n_spec_ConditionOf [.val ⟨(.st .sig), gg⟩, .val ⟨(.slice (.int .i64)), xs⟩] (· = [⟨(.st .expr), cvV gg xs⟩, ⟨(.int .i64), cvC gg xs⟩])
  intro gg xs _
  refine ok_of_awp (wr := []) (cl := []) (ro := [2]) hE at_spec_ConditionOf body_spec_ConditionOf (l_spec_ConditionOf gg xs) ?_
  rewrite [vc_spec_ConditionOf gg xs]
  have f0 := fun h => ((sigOk_iff gg).1 h).1
  have f1 := fun h => atomsN_le gg (f0 h)
  have f2 := fun h1 h2 => cvOk_spec gg xs (f0 h1) h2
  have f3 := cvV_ok gg xs
  have f4 := cvV_no gg xs
  have f5 := cvV_sig gg xs
  have f6 := cvOk_eq gg xs
  have f7 := ris_eq gg xs
  refine ⟨fun a0 => ⟨?_, ?_⟩, fun a0 => ⟨?_, fun a1 => ⟨?_, ⟨fun a2 => ⟨?_, ?_⟩, fun a2 => ⟨?_, ⟨?_, ?_⟩⟩⟩⟩⟩⟩
  all_goals try and_intros
  all_goals try simp only [GExpr.eta, GProg.eta, GDerivation.eta, GTriple.eta, GPremise.eta, GClaim.eta, GEquation.eta, GPair.eta, GSpot.eta, e_expr_eq, e_pair_eq, e_equation_eq, e_claim_eq, e_prog_eq, e_spot_eq, e_triple_eq, e_premise_eq, e_derivation_eq] at *
  all_goals first | rfl | trivial | omega | (simp_all; done) | (simp only [inI64] at *; grind) | grind

theorem good_spec_ConditionOf : Ctr.Good k_spec_ConditionOf := ok_spec_ConditionOf ⟨good_spec_l01Sig, good_spec_l01Atoms, good_spec_l00Rises, good_spec_l07Of, trivial⟩

def k_laws_FnExactConditionOf : Ctr := ⟨n_laws_FnExactConditionOf, [.v (.st .sig), .v (.slice (.int .i64))], fun (gg : GSig) (xs : List Int) => ⟨(none, [⟨.bool, true⟩])⟩⟩
def l_laws_FnExactConditionOf (gg : GSig) (xs : List Int) : Nat → LoopInv := fun _ => .none
abbrev q_laws_FnExactConditionOf_0 (gg : GSig) (xs : List Int) : Prop := ((decide ((heldXs (1 : Int) (GExpr.mk (cvV gg xs).kind (cvV gg xs).num ((GExpr.mk (e_expr (cvV gg xs)).kind (e_expr (cvV gg xs)).num (mkXs (1 : Int) (e_expr (cvV gg xs)).kids))).kids).kids) < (0 : Int))) = true →
 false = true)
abbrev q_laws_FnExactConditionOf_1 (gg : GSig) (xs : List Int) : Prop := ((!(decide ((heldXs (1 : Int) (GExpr.mk (cvV gg xs).kind (cvV gg xs).num ((GExpr.mk (e_expr (cvV gg xs)).kind (e_expr (cvV gg xs)).num (mkXs (1 : Int) (e_expr (cvV gg xs)).kids))).kids).kids) = ((1 : Int) + (szL cntX (e_expr (cvV gg xs)).kids : Int))))) = true →
 false = true)
abbrev q_laws_FnExactConditionOf_2 (gg : GSig) (xs : List Int) : Prop := ((0 ≤ (1 : Int) ∧ (1 : Int) + (szL cntX (GExpr.mk (cvV gg xs).kind (cvV gg xs).num ((GExpr.mk (e_expr (cvV gg xs)).kind (e_expr (cvV gg xs)).num (mkXs (1 : Int) (e_expr (cvV gg xs)).kids))).kids).kids : Int) ≤ 4611686018427387904) ∧ (inI64 (heldXs (1 : Int) (GExpr.mk (cvV gg xs).kind (cvV gg xs).num ((GExpr.mk (e_expr (cvV gg xs)).kind (e_expr (cvV gg xs)).num (mkXs (1 : Int) (e_expr (cvV gg xs)).kids))).kids).kids) →
 ((q_laws_FnExactConditionOf_0 gg xs) ∧ ((decide ((heldXs (1 : Int) (GExpr.mk (cvV gg xs).kind (cvV gg xs).num ((GExpr.mk (e_expr (cvV gg xs)).kind (e_expr (cvV gg xs)).num (mkXs (1 : Int) (e_expr (cvV gg xs)).kids))).kids).kids) < (0 : Int))) = false →
 ((q_laws_FnExactConditionOf_1 gg xs) ∧ ((!(decide ((heldXs (1 : Int) (GExpr.mk (cvV gg xs).kind (cvV gg xs).num ((GExpr.mk (e_expr (cvV gg xs)).kind (e_expr (cvV gg xs)).num (mkXs (1 : Int) (e_expr (cvV gg xs)).kids))).kids).kids) = ((1 : Int) + (szL cntX (e_expr (cvV gg xs)).kids : Int))))) = false →
 true = true))))))
abbrev q_laws_FnExactConditionOf_3 (gg : GSig) (xs : List Int) : Prop := ((0 ≤ (1 : Int) ∧ (1 : Int) + (szL cntX (e_expr (cvV gg xs)).kids : Int) ≤ 4611686018427387904) ∧ ((0 ≤ (1 : Int) ∧ (1 : Int) + (szL cntX (GExpr.mk (cvV gg xs).kind (cvV gg xs).num ((GExpr.mk (e_expr (cvV gg xs)).kind (e_expr (cvV gg xs)).num (mkXs (1 : Int) (e_expr (cvV gg xs)).kids))).kids).kids : Int) ≤ 4611686018427387904) ∧ (inI64 (heldXs (1 : Int) (GExpr.mk (cvV gg xs).kind (cvV gg xs).num ((GExpr.mk (e_expr (cvV gg xs)).kind (e_expr (cvV gg xs)).num (mkXs (1 : Int) (e_expr (cvV gg xs)).kids))).kids).kids) →
 ((q_laws_FnExactConditionOf_0 gg xs) ∧ ((decide ((heldXs (1 : Int) (GExpr.mk (cvV gg xs).kind (cvV gg xs).num ((GExpr.mk (e_expr (cvV gg xs)).kind (e_expr (cvV gg xs)).num (mkXs (1 : Int) (e_expr (cvV gg xs)).kids))).kids).kids) < (0 : Int))) = false →
 ((q_laws_FnExactConditionOf_1 gg xs) ∧ ((!(decide ((heldXs (1 : Int) (GExpr.mk (cvV gg xs).kind (cvV gg xs).num ((GExpr.mk (e_expr (cvV gg xs)).kind (e_expr (cvV gg xs)).num (mkXs (1 : Int) (e_expr (cvV gg xs)).kids))).kids).kids) = ((1 : Int) + (szL cntX (e_expr (cvV gg xs)).kids : Int))))) = false →
 (xs.length ≤ 1048576 ∧ (xs.length ≤ 140737488355328 →
 (inI64 (cvC gg xs) →
 (((!(eqB (e_expr (cvV gg xs)) (e_expr (cvV gg xs)))) = false →
 (((!(decide ((cvC gg xs) = (cvC gg xs)))) = true →
 false = true) ∧ ((!(decide ((cvC gg xs) = (cvC gg xs)))) = false →
 (q_laws_FnExactConditionOf_2 gg xs)))) ∧ ((!(eqB (e_expr (cvV gg xs)) (e_expr (cvV gg xs)))) = (!false) →
 ((true = true →
 false = true) ∧ (true = false →
 (q_laws_FnExactConditionOf_2 gg xs)))))))))))))))
abbrev q_laws_FnExactConditionOf_4 (gg : GSig) (xs : List Int) : Prop := (((!(decide ((cvC gg xs) = (cvC gg xs)))) = true →
 false = true) ∧ ((!(decide ((cvC gg xs) = (cvC gg xs)))) = false →
 (q_laws_FnExactConditionOf_3 gg xs)))
abbrev q_laws_FnExactConditionOf_5 (gg : GSig) (xs : List Int) : Prop := (xs.length ≤ 1048576 ∧ (xs.length ≤ 140737488355328 →
 (((!(eqB xs xs)) = true →
 false = true) ∧ ((!(eqB xs xs)) = false →
 ((0 ≤ (1 : Int) ∧ (1 : Int) + (xs.length : Int) ≤ 4611686018427387904) ∧ (((decide (((1 : Int) + (xs.length : Int)) < (0 : Int))) = false →
 (((!(eqB (e_expr (cvV gg xs)) (e_expr (cvV gg xs)))) = false →
 (q_laws_FnExactConditionOf_4 gg xs)) ∧ ((!(eqB (e_expr (cvV gg xs)) (e_expr (cvV gg xs)))) = (!false) →
 ((true = true →
 false = true) ∧ (true = false →
 (q_laws_FnExactConditionOf_3 gg xs)))))) ∧ ((decide (((1 : Int) + (xs.length : Int)) < (0 : Int))) = (!false) →
 ((true = false →
 (q_laws_FnExactConditionOf_4 gg xs)) ∧ (true = (!false) →
 ((true = true →
 false = true) ∧ (true = false →
 (q_laws_FnExactConditionOf_3 gg xs))))))))))))
theorem vc_laws_FnExactConditionOf (gg : GSig) (xs : List Int) : awp (envO [k_laws_toSig, k_laws_toInt64S, k_spec_ConditionOf, k_laws_eqExpr, k_laws_eqInt64S, k_laws_heldExpr] [ko_laws_toInt64S, ko_impl_ConditionOf] [mk_laws_markExpr, mk_laws_markInt64S] [32, 51, 67, 81, 27] [] [] [2]) (bodyOf f_laws_FnExactConditionOf) (l_laws_FnExactConditionOf gg xs) 0 (funPost (envO [k_laws_toSig, k_laws_toInt64S, k_spec_ConditionOf, k_laws_eqExpr, k_laws_eqInt64S, k_laws_heldExpr] [ko_laws_toInt64S, ko_impl_ConditionOf] [mk_laws_markExpr, mk_laws_markInt64S] [32, 51, 67, 81, 27] [] [] [2]) f_laws_FnExactConditionOf fun r => areEq r [⟨.bool, true⟩]) (startState f_laws_FnExactConditionOf [.val ⟨(.st .sig), gg⟩, .val ⟨(.slice (.int .i64)), xs⟩]) =
  ((inI64 ((xs.length : Int)) →
 (((decide ((1048576 : Int) < ((xs.length : Int)))) = true →
 true = true) ∧ ((decide ((1048576 : Int) < ((xs.length : Int)))) = false →
 (xs.length ≤ 1048576 ∧ (xs.length ≤ 140737488355328 →
 (inI64 (cvC gg xs) →
 (xs.length ≤ 1048576 ∧ (inI64 (cvC gg xs) →
 (((!(eqB (e_expr (cvV gg xs)) (e_expr (cvV gg xs)))) = false →
 (((!(decide ((cvC gg xs) = (cvC gg xs)))) = true →
 false = true) ∧ ((!(decide ((cvC gg xs) = (cvC gg xs)))) = false →
 (q_laws_FnExactConditionOf_5 gg xs)))) ∧ ((!(eqB (e_expr (cvV gg xs)) (e_expr (cvV gg xs)))) = (!false) →
 ((true = true →
 false = true) ∧ (true = false →
 (q_laws_FnExactConditionOf_5 gg xs)))))))))))))) := by kernel_rfl
set_option maxRecDepth 4000 in
set_option maxHeartbeats 1000000 in
theorem ok_laws_FnExactConditionOf (hE : AllGood [k_laws_toSig, k_laws_toInt64S, k_spec_ConditionOf, k_laws_eqExpr, k_laws_eqInt64S, k_laws_heldExpr]) (hO : AllO [ko_laws_toInt64S, ko_impl_ConditionOf]) (hM : AllM [mk_laws_markExpr, mk_laws_markInt64S]) (hS : AllS []) : Ctr.Good k_laws_FnExactConditionOf := by
  refine ⟨fnOk_of at_laws_FnExactConditionOf rfl (by decide), ?_⟩
  show ∀ (gg : GSig) (xs : List Int), True → OkCall prog n_laws_FnExactConditionOf [.val ⟨(.st .sig), gg⟩, .val ⟨(.slice (.int .i64)), xs⟩] (· = [⟨.bool, true⟩])
  intro gg xs _
  refine ok_of_awpO (own := [32, 51, 67, 81, 27]) (wr := []) (cl := []) (ro := [2]) hE hO hM hS at_laws_FnExactConditionOf body_laws_FnExactConditionOf (l_laws_FnExactConditionOf gg xs) ?_
  rewrite [vc_laws_FnExactConditionOf gg xs]
  have f1 := cnt_szC (cvV gg xs)
  have f2 := cvV_sz gg xs
  have f3 := held_cvV gg xs
  have f4 := cnt_mkXsC 1 (cvV gg xs)
  have f5 := mkInts_length 1 xs
  refine fun a0 => ⟨fun a1 => rfl, fun a1 => ⟨?_, fun a2 => fun a3 => ⟨?_, fun a4 => ⟨fun a5 => ⟨fun a6 => ?_, fun a6 => ⟨?_, fun a7 => ⟨fun a8 => ?_, fun a8 => ⟨?_, ⟨fun a9 => ⟨fun a10 => ⟨fun a11 => ?_, fun a11 => ⟨?_, ⟨?_, fun a12 => ⟨fun a13 => ?_, fun a13 => ⟨fun a14 => ?_, fun a14 => ⟨?_, fun a15 => fun a16 => ⟨fun a17 => ⟨fun a18 => ?_, fun a18 => ⟨?_, fun a19 => ⟨fun a20 => ?_, fun a20 => ⟨fun a21 => ?_, fun a21 => rfl⟩⟩⟩⟩, fun a17 => ⟨fun a18 => ?_, fun a18 => ⟨?_, fun a19 => ⟨fun a20 => ?_, fun a20 => ⟨fun a21 => ?_, fun a21 => rfl⟩⟩⟩⟩⟩⟩⟩⟩⟩⟩⟩, fun a10 => ⟨fun a11 => ?_, fun a11 => ⟨?_, ⟨?_, fun a12 => ⟨fun a13 => ?_, fun a13 => ⟨fun a14 => ?_, fun a14 => ⟨?_, fun a15 => fun a16 => ⟨fun a17 => ⟨fun a18 => ?_, fun a18 => ⟨?_, fun a19 => ⟨fun a20 => ?_, fun a20 => ⟨fun a21 => ?_, fun a21 => rfl⟩⟩⟩⟩, fun a17 => ⟨fun a18 => ?_, fun a18 => ⟨?_, fun a19 => ⟨fun a20 => ?_, fun a20 => ⟨fun a21 => ?_, fun a21 => rfl⟩⟩⟩⟩⟩⟩⟩⟩⟩⟩⟩⟩, fun a9 => ⟨fun a10 => ⟨fun a11 => ?_, fun a11 => ⟨?_, ⟨?_, fun a12 => ⟨fun a13 => ?_, fun a13 => ⟨fun a14 => ?_, fun a14 => ⟨?_, fun a15 => fun a16 => ⟨fun a17 => ⟨fun a18 => ?_, fun a18 => ⟨?_, fun a19 => ⟨fun a20 => ?_, fun a20 => ⟨fun a21 => ?_, fun a21 => rfl⟩⟩⟩⟩, fun a17 => ⟨fun a18 => ?_, fun a18 => ⟨?_, fun a19 => ⟨fun a20 => ?_, fun a20 => ⟨fun a21 => ?_, fun a21 => rfl⟩⟩⟩⟩⟩⟩⟩⟩⟩⟩⟩, fun a10 => ⟨fun a11 => ?_, fun a11 => ⟨?_, ⟨?_, fun a12 => ⟨fun a13 => ?_, fun a13 => ⟨fun a14 => ?_, fun a14 => ⟨?_, fun a15 => fun a16 => ⟨fun a17 => ⟨fun a18 => ?_, fun a18 => ⟨?_, fun a19 => ⟨fun a20 => ?_, fun a20 => ⟨fun a21 => ?_, fun a21 => rfl⟩⟩⟩⟩, fun a17 => ⟨fun a18 => ?_, fun a18 => ⟨?_, fun a19 => ⟨fun a20 => ?_, fun a20 => ⟨fun a21 => ?_, fun a21 => rfl⟩⟩⟩⟩⟩⟩⟩⟩⟩⟩⟩⟩⟩⟩⟩⟩⟩, fun a5 => ⟨fun a6 => ?_, fun a6 => ⟨?_, fun a7 => ⟨fun a8 => ?_, fun a8 => ⟨?_, ⟨fun a9 => ⟨fun a10 => ⟨fun a11 => ?_, fun a11 => ⟨?_, ⟨?_, fun a12 => ⟨fun a13 => ?_, fun a13 => ⟨fun a14 => ?_, fun a14 => ⟨?_, fun a15 => fun a16 => ⟨fun a17 => ⟨fun a18 => ?_, fun a18 => ⟨?_, fun a19 => ⟨fun a20 => ?_, fun a20 => ⟨fun a21 => ?_, fun a21 => rfl⟩⟩⟩⟩, fun a17 => ⟨fun a18 => ?_, fun a18 => ⟨?_, fun a19 => ⟨fun a20 => ?_, fun a20 => ⟨fun a21 => ?_, fun a21 => rfl⟩⟩⟩⟩⟩⟩⟩⟩⟩⟩⟩, fun a10 => ⟨fun a11 => ?_, fun a11 => ⟨?_, ⟨?_, fun a12 => ⟨fun a13 => ?_, fun a13 => ⟨fun a14 => ?_, fun a14 => ⟨?_, fun a15 => fun a16 => ⟨fun a17 => ⟨fun a18 => ?_, fun a18 => ⟨?_, fun a19 => ⟨fun a20 => ?_, fun a20 => ⟨fun a21 => ?_, fun a21 => rfl⟩⟩⟩⟩, fun a17 => ⟨fun a18 => ?_, fun a18 => ⟨?_, fun a19 => ⟨fun a20 => ?_, fun a20 => ⟨fun a21 => ?_, fun a21 => rfl⟩⟩⟩⟩⟩⟩⟩⟩⟩⟩⟩⟩, fun a9 => ⟨fun a10 => ⟨fun a11 => ?_, fun a11 => ⟨?_, ⟨?_, fun a12 => ⟨fun a13 => ?_, fun a13 => ⟨fun a14 => ?_, fun a14 => ⟨?_, fun a15 => fun a16 => ⟨fun a17 => ⟨fun a18 => ?_, fun a18 => ⟨?_, fun a19 => ⟨fun a20 => ?_, fun a20 => ⟨fun a21 => ?_, fun a21 => rfl⟩⟩⟩⟩, fun a17 => ⟨fun a18 => ?_, fun a18 => ⟨?_, fun a19 => ⟨fun a20 => ?_, fun a20 => ⟨fun a21 => ?_, fun a21 => rfl⟩⟩⟩⟩⟩⟩⟩⟩⟩⟩⟩, fun a10 => ⟨fun a11 => ?_, fun a11 => ⟨?_, ⟨?_, fun a12 => ⟨fun a13 => ?_, fun a13 => ⟨fun a14 => ?_, fun a14 => ⟨?_, fun a15 => fun a16 => ⟨fun a17 => ⟨fun a18 => ?_, fun a18 => ⟨?_, fun a19 => ⟨fun a20 => ?_, fun a20 => ⟨fun a21 => ?_, fun a21 => rfl⟩⟩⟩⟩, fun a17 => ⟨fun a18 => ?_, fun a18 => ⟨?_, fun a19 => ⟨fun a20 => ?_, fun a20 => ⟨fun a21 => ?_, fun a21 => rfl⟩⟩⟩⟩⟩⟩⟩⟩⟩⟩⟩⟩⟩⟩⟩⟩⟩⟩⟩⟩⟩
  all_goals try and_intros
  all_goals try simp only [GExpr.eta, GProg.eta, GDerivation.eta, GTriple.eta, GPremise.eta, GClaim.eta, GEquation.eta, GPair.eta, GSpot.eta, e_expr_eq, e_pair_eq, e_equation_eq, e_claim_eq, e_prog_eq, e_spot_eq, e_triple_eq, e_premise_eq, e_derivation_eq] at *
  all_goals first | rfl | trivial | omega | (simp only [decide_eq_true_eq, decide_eq_false_iff_not, idxOk, inI64, inKind, cutOk, makeOk, roomOk] at *; omega) | (simp [idxOk, inI64] at *; omega) | grind | (simp_all; done)

theorem good_laws_FnExactConditionOf : Ctr.Good k_laws_FnExactConditionOf := ok_laws_FnExactConditionOf ⟨good_laws_toSig, good_laws_toInt64S, good_spec_ConditionOf, good_laws_eqExpr, good_laws_eqInt64S, good_laws_heldExpr, trivial⟩ ⟨ogood_laws_toInt64S, ogood_impl_ConditionOf, trivial⟩ ⟨mgood_laws_markExpr, mgood_laws_markInt64S, trivial⟩ trivial

theorem law_FnExactConditionOf : ∀ tvs : List TV, tvs.map TV.τ = [(.st .sig), (.slice (.int .i64))] → OkCall prog n_laws_FnExactConditionOf (tvs.map .val) (· = [⟨.bool, true⟩]) := by
  intro tvs h
  match tvs, h with
  | [⟨t0, a0⟩, ⟨t1, a1⟩], h =>
    simp only [List.map_cons, List.map_nil, List.cons.injEq, and_true] at h
    obtain ⟨rfl, rfl⟩ := h
    exact good_laws_FnExactConditionOf.2 a0 a1 trivial

end
end Go.Proofs.Ytiikoicminohpaa
