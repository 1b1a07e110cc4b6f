/- The atoms that an action allows. Printed by vmk.py. -/
import Derived.Test.YtcdppmpjplhgkaaVmUse
import Derived.Test.YtcdppmpjplhgkaaVmLib
import Derived.Test.YtcdppmpjplhgkaaVmPrem
set_option linter.unusedVariables false
set_option linter.unusedSimpArgs false
set_option linter.unusedSectionVars false
namespace Go.Proofs.Ytcdppmpjplhgkaa
noncomputable section

/-- A premise lets an action lead from an atom to another one. -/
def alwAt (act x y : Int) (p : GPremise) : Bool := !(decide (p.act = act) && truE x p.pre && !truE y p.post)
theorem alwAt_eq (act x y : Int) (p : GPremise) : alwAt act x y p = !(decide (p.act = act) && truE x p.pre && !truE y p.post) := rfl
def alwB (xs : List GPremise) (act x y : Int) : Bool := allL (alwAt act x y) xs
/-- All premises have right conditions. -/
def gdP (p : GPremise) : Bool := goodC p.pre && goodC p.post
theorem gdP_eq (p : GPremise) : gdP p = (goodC p.pre && goodC p.post) := rfl
theorem premsOk_sig (gg : GSig) (xs : List GPremise) (h : premsOk gg xs = true) : sigOk gg = true := by
  simp only [premsOk, Bool.and_eq_true] at h; exact h.1.1
theorem premsOk_gd (gg : GSig) (xs : List GPremise) (h : premsOk gg xs = true) : allL gdP xs = true := by
  have hs := premsOk_sig gg xs h
  simp only [premsOk, Bool.and_eq_true] at h
  have h2 := h.2
  clear h
  induction xs with
  | nil => rfl
  | cons x xs ih =>
    simp only [allL, Bool.and_eq_true] at h2 ⊢
    refine ⟨?_, ih h2.2⟩
    have := h2.1
    simp only [pmI, Bool.and_eq_true] at this
    simp only [gdP, Bool.and_eq_true]
    exact ⟨isC_good gg _ hs this.1.1, isC_good gg _ hs this.1.2⟩
/-- The first atoms that an action allows. -/
def nextL (xs : List GPremise) (act x : Int) : Nat → List Int
  | 0 => []
  | n + 1 => nextL xs act x n ++ (bif alwB xs act x (n : Int) then [(n : Int)] else [])
theorem nextL_len (xs : List GPremise) (act x : Int) : ∀ n, (nextL xs act x n).length ≤ n
  | 0 => Nat.le_refl _
  | n + 1 => by
    have := nextL_len xs act x n
    simp only [nextL, List.length_append]
    cases alwB xs act x (n : Int) <;> simp <;> omega
theorem nextL_t (xs : List GPremise) (act x : Int) (n : Nat) (h : alwB xs act x (n : Int) = true) : nextL xs act x n ++ [(n : Int)] = nextL xs act x (n + 1) := by simp [nextL, h]
theorem nextL_f (xs : List GPremise) (act x : Int) (n : Nat) (h : alwB xs act x (n : Int) = false) : nextL xs act x n = nextL xs act x (n + 1) := by simp [nextL, h]
def nextA (gg : GSig) (xs : List GPremise) (act x : Int) : List Int := nextL xs act x (atomsN gg).toNat
theorem nextA_len (gg : GSig) (xs : List GPremise) (act x : Int) (h : 0 ≤ gg.tests ∧ gg.tests ≤ 3) : (nextA gg xs act x).length ≤ 8 := by
  have := nextL_len xs act x (atomsN gg).toNat
  have := atomsN_le gg h
  unfold nextA; omega
theorem nextA_eq (gg : GSig) (xs : List GPremise) (act x : Int) (k : Nat) (h1 : atomsN gg ≤ (k : Int)) (h2 : k ≤ (atomsN gg).toNat) : nextL xs act x k = nextA gg xs act x := by
  have : k = (atomsN gg).toNat := by omega
  rw [this]; rfl
def anIn (gg : GSig) (act x : Int) : Bool := decide (0 ≤ act ∧ act ≤ gg.actions - 1) && decide (0 ≤ x ∧ x ≤ atomsN gg - 1)
theorem anIn_eq (gg : GSig) (act x : Int) : anIn gg act x = (decide (0 ≤ act ∧ act ≤ gg.actions - 1) && decide (0 ≤ x ∧ x ≤ atomsN gg - 1)) := rfl
def anV (gg : GSig) (xs : List GPremise) (act x : Int) : List Int := bif premsOk gg xs && anIn gg act x then nextA gg xs act x else []
def anC (gg : GSig) (xs : List GPremise) (act x : Int) : Int := bif premsOk gg xs then (bif anIn gg act x then 0 else 2) else 1
theorem anV_len (gg : GSig) (xs : List GPremise) (act x : Int) : (anV gg xs act x).length ≤ 8 := by
  unfold anV
  cases h : premsOk gg xs
  · simp
  · cases anIn gg act x
    · simp
    · exact nextA_len gg xs act x (sigOk_acts gg (premsOk_sig gg xs h)).1

def k_impl_allows : Ctr := ⟨n_impl_allows, [.v (.slice (.st .premise)), .v (.int .i64), .v (.int .i64), .v (.int .i64)], fun (xs : List GPremise) (act : Int) (x : Int) (y : Int) => ⟨(some (allL gdP xs = true ∧ 0 ≤ x ∧ x ≤ 4096 ∧ 0 ≤ y ∧ y ≤ 4096), [⟨.bool, alwB xs act x y⟩])⟩⟩
def l_impl_allows (xs : List GPremise) (act : Int) (x : Int) (y : Int) : Nat → LoopInv := (fun zb => if Nat.beq zb 0 then .mk (Nat) (fun k => k ≤ xs.length ∧ allL (alwAt act x y) (xs.take k) = true) (fun k => xs.length - k) [] [0, 4, 5, 6, 7, 9] (fun k => [(13, .imm ⟨(.int .i64), ((k : Int) : Int)⟩)]) [1, 2, 3, 8, 10, 11, 12, 13, 14, 15, 16, 17, 18, 19, 20, 21, 22, 23, 24, 25, 26, 27, 28, 29, 30, 31, 32, 33, 34] (fun k => []) [] [] (fun k => fun _ => .none) else .none)
abbrev q_impl_allows_0 (xs : List GPremise) (act : Int) (x : Int) (y : Int) (k1 : Nat) : Prop := (inI64 ((k1 : Int) + (1 : Int)) ∧ (∃ k2 : Nat, ((k2 ≤ xs.length ∧ allL (alwAt act x y) (xs.take k2) = true) ∧ (xs.length - k2 < xs.length - k1 ∧ ((act = act ∧ (x = x ∧ (y = y ∧ (xs = xs ∧ (((xs.length : Int)) = ((xs.length : Int)) ∧ (((k1 : Int) + (1 : Int)) = (k2 : Int) ∧ True)))))) ∧ True)))))
abbrev q_impl_allows_1 (xs : List GPremise) (act : Int) (x : Int) (y : Int) (k1 : Nat) : Prop := ((goodC (e_expr (xs.getD k1 (GPremise.mk (GExpr.mk (0 : Int) (0 : Int) []) (0 : Int) (GExpr.mk (0 : Int) (0 : Int) []))).post) = true ∧ 0 ≤ y ∧ y ≤ 4096) ∧ (((!(truE y (e_expr (xs.getD k1 (GPremise.mk (GExpr.mk (0 : Int) (0 : Int) []) (0 : Int) (GExpr.mk (0 : Int) (0 : Int) []))).post))) = true →
 false = (alwB xs act x y)) ∧ ((!(truE y (e_expr (xs.getD k1 (GPremise.mk (GExpr.mk (0 : Int) (0 : Int) []) (0 : Int) (GExpr.mk (0 : Int) (0 : Int) []))).post))) = false →
 (q_impl_allows_0 xs act x y k1))))
theorem vc_impl_allows (xs : List GPremise) (act : Int) (x : Int) (y : Int) : awp (envOf [k_impl_truth]) (bodyOf f_impl_allows) (l_impl_allows xs act x y) 0 (funPost (envOf [k_impl_truth]) f_impl_allows fun r => areEq r [⟨.bool, alwB xs act x y⟩]) (startState f_impl_allows [.val ⟨(.slice (.st .premise)), xs⟩, .val ⟨(.int .i64), act⟩, .val ⟨(.int .i64), x⟩, .val ⟨(.int .i64), y⟩]) =
  ((inI64 ((xs.length : Int)) →
 ((∃ k1 : Nat, ((k1 ≤ xs.length ∧ allL (alwAt act x y) (xs.take k1) = true) ∧ ((act = act ∧ (x = x ∧ (y = y ∧ (xs = xs ∧ (((xs.length : Int)) = ((xs.length : Int)) ∧ ((0 : Int) = (k1 : Int) ∧ True)))))) ∧ True))) ∧ (∀ k1 : Nat, ((k1 ≤ xs.length ∧ allL (alwAt act x y) (xs.take k1) = true) →
 (((decide ((k1 : Int) < ((xs.length : Int)))) = true →
 (idxOk (k1 : Int) xs.length ∧ (inI64 (xs.getD k1 (GPremise.mk (GExpr.mk (0 : Int) (0 : Int) []) (0 : Int) (GExpr.mk (0 : Int) (0 : Int) []))).act →
 (((decide ((xs.getD k1 (GPremise.mk (GExpr.mk (0 : Int) (0 : Int) []) (0 : Int) (GExpr.mk (0 : Int) (0 : Int) []))).act = act)) = true →
 ((goodC (e_expr (xs.getD k1 (GPremise.mk (GExpr.mk (0 : Int) (0 : Int) []) (0 : Int) (GExpr.mk (0 : Int) (0 : Int) []))).pre) = true ∧ 0 ≤ x ∧ x ≤ 4096) ∧ (((truE x (e_expr (xs.getD k1 (GPremise.mk (GExpr.mk (0 : Int) (0 : Int) []) (0 : Int) (GExpr.mk (0 : Int) (0 : Int) []))).pre)) = true →
 (q_impl_allows_1 xs act x y k1)) ∧ ((truE x (e_expr (xs.getD k1 (GPremise.mk (GExpr.mk (0 : Int) (0 : Int) []) (0 : Int) (GExpr.mk (0 : Int) (0 : Int) []))).pre)) = (!true) →
 ((false = true →
 false = (alwB xs act x y)) ∧ (false = false →
 (q_impl_allows_0 xs act x y k1))))))) ∧ ((decide ((xs.getD k1 (GPremise.mk (GExpr.mk (0 : Int) (0 : Int) []) (0 : Int) (GExpr.mk (0 : Int) (0 : Int) []))).act = act)) = (!true) →
 ((false = true →
 (q_impl_allows_1 xs act x y k1)) ∧ (false = (!true) →
 ((false = true →
 false = (alwB xs act x y)) ∧ (false = false →
 (q_impl_allows_0 xs act x y k1)))))))))) ∧ ((decide ((k1 : Int) < ((xs.length : Int)))) = false →
 true = (alwB xs act x y)))))))) := by kernel_rfl
set_option maxRecDepth 4000 in
set_option maxHeartbeats 1000000 in
theorem ok_impl_allows (hE : AllGood [k_impl_truth]) : Ctr.Good k_impl_allows := by
  refine ⟨fnOk_of at_impl_allows rfl (by decide), ?_⟩
  show ∀ (xs : List GPremise) (act : Int) (x : Int) (y : Int), (allL gdP xs = true ∧ 0 ≤ x ∧ x ≤ 4096 ∧ 0 ≤ y ∧ y ≤ 4096) → OkCall prog n_impl_allows [.val ⟨(.slice (.st .premise)), xs⟩, .val ⟨(.int .i64), act⟩, .val ⟨(.int .i64), x⟩, .val ⟨(.int .i64), y⟩] (· = [⟨.bool, alwB xs act x y⟩])
  intro xs act x y hp
  refine ok_of_awp (wr := []) (cl := []) (ro := []) hE at_impl_allows body_impl_allows (l_impl_allows xs act x y) ?_
  rewrite [vc_impl_allows xs act x y]
  have f0 := all_zero (alwAt act x y) xs
  have f1 : alwB xs act x y = allL (alwAt act x y) xs := rfl
  refine fun a0 => ⟨⟨0, ⟨?_, ⟨⟨rfl, ⟨rfl, ⟨rfl, ⟨rfl, ⟨rfl, ⟨?_, trivial⟩⟩⟩⟩⟩⟩, trivial⟩⟩⟩, fun k1 a1 => have b1x0 := all_take (alwAt act x y) (GPremise.mk (GExpr.mk 0 0 []) 0 (GExpr.mk 0 0 [])) xs k1; have b1x1 := all_bad (alwAt act x y) (GPremise.mk (GExpr.mk 0 0 []) 0 (GExpr.mk 0 0 [])) xs k1; have b1x2 := all_done (alwAt act x y) xs k1; have b1x3 := all_getD gdP (GPremise.mk (GExpr.mk 0 0 []) 0 (GExpr.mk 0 0 [])) xs k1; have b1x4 := gdP_eq (xs.getD k1 (GPremise.mk (GExpr.mk 0 0 []) 0 (GExpr.mk 0 0 []))); have b1x5 := alwAt_eq act x y (xs.getD k1 (GPremise.mk (GExpr.mk 0 0 []) 0 (GExpr.mk 0 0 []))); ⟨fun a2 => ⟨?_, fun a3 => ⟨fun a4 => ⟨?_, ⟨fun a5 => ⟨?_, ⟨fun a6 => ?_, fun a6 => ⟨?_, ⟨k1 + 1, ⟨?_, ⟨?_, ⟨⟨rfl, ⟨rfl, ⟨rfl, ⟨rfl, ⟨rfl, ⟨?_, trivial⟩⟩⟩⟩⟩⟩, trivial⟩⟩⟩⟩⟩⟩⟩, fun a5 => ⟨fun a6 => ?_, fun a6 => ⟨?_, ⟨k1 + 1, ⟨?_, ⟨?_, ⟨⟨rfl, ⟨rfl, ⟨rfl, ⟨rfl, ⟨rfl, ⟨?_, trivial⟩⟩⟩⟩⟩⟩, trivial⟩⟩⟩⟩⟩⟩⟩⟩, fun a4 => ⟨fun a5 => ⟨?_, ⟨fun a6 => ?_, fun a6 => ⟨?_, ⟨k1 + 1, ⟨?_, ⟨?_, ⟨⟨rfl, ⟨rfl, ⟨rfl, ⟨rfl, ⟨rfl, ⟨?_, trivial⟩⟩⟩⟩⟩⟩, trivial⟩⟩⟩⟩⟩⟩⟩, fun a5 => ⟨fun a6 => ?_, fun a6 => ⟨?_, ⟨k1 + 1, ⟨?_, ⟨?_, ⟨⟨rfl, ⟨rfl, ⟨rfl, ⟨rfl, ⟨rfl, ⟨?_, trivial⟩⟩⟩⟩⟩⟩, trivial⟩⟩⟩⟩⟩⟩⟩⟩⟩, fun a2 => ?_⟩⟩
  all_goals try and_intros
  all_goals try simp only [GExpr.eta, GProg.eta, GDerivation.eta, GTriple.eta, GPremise.eta, GClaim.eta, GEquation.eta, GPair.eta, GSpot.eta, e_expr_eq, e_pair_eq, e_equation_eq, e_claim_eq, e_prog_eq, e_spot_eq, e_triple_eq, e_premise_eq, e_derivation_eq] at *
  all_goals try rw [f1]
  all_goals first | rfl | trivial | omega | (simp only [decide_eq_true_eq, decide_eq_false_iff_not, idxOk, inI64] at *; omega) | grind

theorem good_impl_allows : Ctr.Good k_impl_allows := ok_impl_allows ⟨good_impl_truth, trivial⟩

def k_spec_l07Allows : Ctr := ⟨n_spec_l07Allows, [.v (.slice (.st .premise)), .v (.int .i64), .v (.int .i64), .v (.int .i64)], fun (xs : List GPremise) (act : Int) (x : Int) (y : Int) => ⟨(some (allL gdP xs = true ∧ 0 ≤ x ∧ x ≤ 4096 ∧ 0 ≤ y ∧ y ≤ 4096), [⟨.bool, alwB xs act x y⟩])⟩⟩
def l_spec_l07Allows (xs : List GPremise) (act : Int) (x : Int) (y : Int) : Nat → LoopInv := (fun zb => if Nat.beq zb 0 then .mk (Nat) (fun k => k ≤ xs.length ∧ allL (alwAt act x y) (xs.take k) = true) (fun k => xs.length - k) [] [4, 5, 6, 7] (fun k => [(9, .imm ⟨(.int .i64), ((k : Int) : Int)⟩)]) [0, 1, 2, 3, 8, 9, 10, 11, 12, 13, 14, 15, 16, 17, 18, 19, 20, 21, 22, 23, 24, 25, 26, 27, 28, 29, 30, 31, 32, 33, 34, 35, 36, 37, 38, 39] (fun k => []) [] [] (fun k => fun _ => .none) else .none)
abbrev q_spec_l07Allows_0 (xs : List GPremise) (act : Int) (x : Int) (y : Int) (k1 : Nat) : Prop := (inI64 ((k1 : Int) + (1 : Int)) ∧ (∃ k2 : Nat, ((k2 ≤ xs.length ∧ allL (alwAt act x y) (xs.take k2) = true) ∧ (xs.length - k2 < xs.length - k1 ∧ ((xs = xs ∧ (act = act ∧ (x = x ∧ (y = y ∧ (((k1 : Int) + (1 : Int)) = (k2 : Int) ∧ True))))) ∧ True)))))
abbrev q_spec_l07Allows_1 (xs : List GPremise) (act : Int) (x : Int) (y : Int) (k1 : Nat) : Prop := (idxOk (k1 : Int) xs.length ∧ ((goodC (xs.getD k1 (GPremise.mk (GExpr.mk (0 : Int) (0 : Int) []) (0 : Int) (GExpr.mk (0 : Int) (0 : Int) []))).post = true ∧ 0 ≤ y ∧ y ≤ 4096) ∧ (((!(truE y (xs.getD k1 (GPremise.mk (GExpr.mk (0 : Int) (0 : Int) []) (0 : Int) (GExpr.mk (0 : Int) (0 : Int) []))).post)) = true →
 false = (alwB xs act x y)) ∧ ((!(truE y (xs.getD k1 (GPremise.mk (GExpr.mk (0 : Int) (0 : Int) []) (0 : Int) (GExpr.mk (0 : Int) (0 : Int) []))).post)) = false →
 (q_spec_l07Allows_0 xs act x y k1)))))
theorem vc_spec_l07Allows (xs : List GPremise) (act : Int) (x : Int) (y : Int) : awp (envOf [k_spec_l01True]) (bodyOf f_spec_l07Allows) (l_spec_l07Allows xs act x y) 0 (funPost (envOf [k_spec_l01True]) f_spec_l07Allows fun r => areEq r [⟨.bool, alwB xs act x y⟩]) (startState f_spec_l07Allows [.val ⟨(.slice (.st .premise)), xs⟩, .val ⟨(.int .i64), act⟩, .val ⟨(.int .i64), x⟩, .val ⟨(.int .i64), y⟩]) =
  (((∃ k1 : Nat, ((k1 ≤ xs.length ∧ allL (alwAt act x y) (xs.take k1) = true) ∧ ((xs = xs ∧ (act = act ∧ (x = x ∧ (y = y ∧ ((0 : Int) = (k1 : Int) ∧ True))))) ∧ True))) ∧ (∀ k1 : Nat, ((k1 ≤ xs.length ∧ allL (alwAt act x y) (xs.take k1) = true) →
 (inI64 ((xs.length : Int)) →
 (((decide ((k1 : Int) < ((xs.length : Int)))) = true →
 (idxOk (k1 : Int) xs.length ∧ (inI64 (xs.getD k1 (GPremise.mk (GExpr.mk (0 : Int) (0 : Int) []) (0 : Int) (GExpr.mk (0 : Int) (0 : Int) []))).act →
 (((decide ((xs.getD k1 (GPremise.mk (GExpr.mk (0 : Int) (0 : Int) []) (0 : Int) (GExpr.mk (0 : Int) (0 : Int) []))).act = act)) = true →
 (idxOk (k1 : Int) xs.length ∧ ((goodC (xs.getD k1 (GPremise.mk (GExpr.mk (0 : Int) (0 : Int) []) (0 : Int) (GExpr.mk (0 : Int) (0 : Int) []))).pre = true ∧ 0 ≤ x ∧ x ≤ 4096) ∧ (((truE x (xs.getD k1 (GPremise.mk (GExpr.mk (0 : Int) (0 : Int) []) (0 : Int) (GExpr.mk (0 : Int) (0 : Int) []))).pre) = true →
 (q_spec_l07Allows_1 xs act x y k1)) ∧ ((truE x (xs.getD k1 (GPremise.mk (GExpr.mk (0 : Int) (0 : Int) []) (0 : Int) (GExpr.mk (0 : Int) (0 : Int) []))).pre) = (!true) →
 ((false = true →
 false = (alwB xs act x y)) ∧ (false = false →
 (q_spec_l07Allows_0 xs act x y k1)))))))) ∧ ((decide ((xs.getD k1 (GPremise.mk (GExpr.mk (0 : Int) (0 : Int) []) (0 : Int) (GExpr.mk (0 : Int) (0 : Int) []))).act = act)) = (!true) →
 ((false = true →
 (q_spec_l07Allows_1 xs act x y k1)) ∧ (false = (!true) →
 ((false = true →
 false = (alwB xs act x y)) ∧ (false = false →
 (q_spec_l07Allows_0 xs act x y k1)))))))))) ∧ ((decide ((k1 : Int) < ((xs.length : Int)))) = false →
 true = (alwB xs act x y)))))))) := by kernel_rfl
set_option maxRecDepth 4000 in
set_option maxHeartbeats 1000000 in
theorem ok_spec_l07Allows (hE : AllGood [k_spec_l01True]) : Ctr.Good k_spec_l07Allows := by
  refine ⟨fnOk_of at_spec_l07Allows rfl (by decide), ?_⟩
  show ∀ (xs : List GPremise) (act : Int) (x : Int) (y : Int), (allL gdP xs = true ∧ 0 ≤ x ∧ x ≤ 4096 ∧ 0 ≤ y ∧ y ≤ 4096) → OkCall prog n_spec_l07Allows [.val ⟨(.slice (.st .premise)), xs⟩, .val ⟨(.int .i64), act⟩, .val ⟨(.int .i64), x⟩, .val ⟨(.int .i64), y⟩] (· = [⟨.bool, alwB xs act x y⟩])
  intro xs act x y hp
  refine ok_of_awp (wr := []) (cl := []) (ro := []) hE at_spec_l07Allows body_spec_l07Allows (l_spec_l07Allows xs act x y) ?_
  rewrite [vc_spec_l07Allows xs act x y]
  have f0 := all_zero (alwAt act x y) xs
  have f1 : alwB xs act x y = allL (alwAt act x y) xs := rfl
  refine ⟨⟨0, ⟨?_, ⟨⟨rfl, ⟨rfl, ⟨rfl, ⟨rfl, ⟨?_, trivial⟩⟩⟩⟩⟩, trivial⟩⟩⟩, fun k1 a0 => have b0x0 := all_take (alwAt act x y) (GPremise.mk (GExpr.mk 0 0 []) 0 (GExpr.mk 0 0 [])) xs k1; have b0x1 := all_bad (alwAt act x y) (GPremise.mk (GExpr.mk 0 0 []) 0 (GExpr.mk 0 0 [])) xs k1; have b0x2 := all_done (alwAt act x y) xs k1; have b0x3 := all_getD gdP (GPremise.mk (GExpr.mk 0 0 []) 0 (GExpr.mk 0 0 [])) xs k1; have b0x4 := gdP_eq (xs.getD k1 (GPremise.mk (GExpr.mk 0 0 []) 0 (GExpr.mk 0 0 []))); have b0x5 := alwAt_eq act x y (xs.getD k1 (GPremise.mk (GExpr.mk 0 0 []) 0 (GExpr.mk 0 0 []))); fun a1 => ⟨fun a2 => ⟨?_, fun a3 => ⟨fun a4 => ⟨?_, ⟨?_, ⟨fun a5 => ⟨?_, ⟨?_, ⟨fun a6 => ?_, fun a6 => ⟨?_, ⟨k1 + 1, ⟨?_, ⟨?_, ⟨⟨rfl, ⟨rfl, ⟨rfl, ⟨rfl, ⟨?_, trivial⟩⟩⟩⟩⟩, trivial⟩⟩⟩⟩⟩⟩⟩⟩, fun a5 => ⟨fun a6 => ?_, fun a6 => ⟨?_, ⟨k1 + 1, ⟨?_, ⟨?_, ⟨⟨rfl, ⟨rfl, ⟨rfl, ⟨rfl, ⟨?_, trivial⟩⟩⟩⟩⟩, trivial⟩⟩⟩⟩⟩⟩⟩⟩⟩, fun a4 => ⟨fun a5 => ⟨?_, ⟨?_, ⟨fun a6 => ?_, fun a6 => ⟨?_, ⟨k1 + 1, ⟨?_, ⟨?_, ⟨⟨rfl, ⟨rfl, ⟨rfl, ⟨rfl, ⟨?_, trivial⟩⟩⟩⟩⟩, trivial⟩⟩⟩⟩⟩⟩⟩⟩, fun a5 => ⟨fun a6 => ?_, fun a6 => ⟨?_, ⟨k1 + 1, ⟨?_, ⟨?_, ⟨⟨rfl, ⟨rfl, ⟨rfl, ⟨rfl, ⟨?_, trivial⟩⟩⟩⟩⟩, trivial⟩⟩⟩⟩⟩⟩⟩⟩⟩, fun a2 => ?_⟩⟩
  all_goals try and_intros
  all_goals try rw [f1]
  all_goals first | rfl | trivial | omega | (simp only [decide_eq_true_eq, decide_eq_false_iff_not, idxOk, inI64] at *; omega) | grind

theorem good_spec_l07Allows : Ctr.Good k_spec_l07Allows := ok_spec_l07Allows ⟨good_spec_l01True, trivial⟩

def k_spec_l07Next : Ctr := ⟨n_spec_l07Next, [.v (.st .sig), .v (.slice (.st .premise)), .v (.int .i64), .v (.int .i64)], fun (gg : GSig) (xs : List GPremise) (act : Int) (x : Int) => ⟨(some (premsOk gg xs = true ∧ anIn gg act x = true), [⟨(.slice (.int .i64)), nextA gg xs act x⟩])⟩⟩
def l_spec_l07Next (gg : GSig) (xs : List GPremise) (act : Int) (x : Int) : Nat → LoopInv := (fun zb => if Nat.beq zb 0 then .mk (Nat) (fun k => k ≤ (atomsN gg).toNat) (fun k => (atomsN gg).toNat - k) [] [0, 5, 6, 7, 11] (fun k => [(10, .imm ⟨(.int .i64), ((k : Int) : Int)⟩), (9, .row 11)]) [1, 2, 3, 4, 8, 9, 10, 12, 13, 14, 15, 16, 17, 18, 19, 20, 21, 22, 23, 24, 25, 26, 27] (fun k => [(11, .row T_int64 (.int .i64) (nextL xs act x k : List Int))]) [] [] (fun k => fun _ => .none) else .none)
theorem vc_spec_l07Next (gg : GSig) (xs : List GPremise) (act : Int) (x : Int) : awp (envOf [k_spec_l01Atoms, k_spec_l07Allows] [] [] [4]) (bodyOf f_spec_l07Next) (l_spec_l07Next gg xs act x) 0 (funPost (envOf [k_spec_l01Atoms, k_spec_l07Allows] [] [] [4]) f_spec_l07Next fun r => areEq r [⟨(.slice (.int .i64)), nextA gg xs act x⟩]) (startState f_spec_l07Next [.val ⟨(.st .sig), gg⟩, .val ⟨(.slice (.st .premise)), xs⟩, .val ⟨(.int .i64), act⟩, .val ⟨(.int .i64), x⟩]) =
  (((∃ k1 : Nat, (k1 ≤ (atomsN gg).toNat ∧ ((xs = xs ∧ (act = act ∧ (x = x ∧ (gg = gg ∧ (True ∧ (True ∧ ((0 : Int) = (k1 : Int) ∧ True))))))) ∧ ([] = (nextL xs act x k1) ∧ True)))) ∧ (∀ k1 : Nat, (k1 ≤ (atomsN gg).toNat →
 ((0 ≤ gg.tests ∧ gg.tests ≤ 3) ∧ (inI64 (atomsN gg) →
 (((decide ((k1 : Int) < (atomsN gg))) = true →
 ((allL gdP xs = true ∧ 0 ≤ x ∧ x ≤ 4096 ∧ 0 ≤ (k1 : Int) ∧ (k1 : Int) ≤ 4096) ∧ (((alwB xs act x (k1 : Int)) = true →
 (roomOk ((nextL xs act x k1).length + ([(k1 : Int)]).length) 8 ∧ (inI64 ((k1 : Int) + (1 : Int)) ∧ (∃ k2 : Nat, (k2 ≤ (atomsN gg).toNat ∧ ((atomsN gg).toNat - k2 < (atomsN gg).toNat - k1 ∧ ((xs = xs ∧ (act = act ∧ (x = x ∧ (gg = gg ∧ (True ∧ (True ∧ (((k1 : Int) + (1 : Int)) = (k2 : Int) ∧ True))))))) ∧ (((nextL xs act x k1) ++ ([(k1 : Int)])) = (nextL xs act x k2) ∧ True)))))))) ∧ ((alwB xs act x (k1 : Int)) = false →
 (inI64 ((k1 : Int) + (1 : Int)) ∧ (∃ k2 : Nat, (k2 ≤ (atomsN gg).toNat ∧ ((atomsN gg).toNat - k2 < (atomsN gg).toNat - k1 ∧ ((xs = xs ∧ (act = act ∧ (x = x ∧ (gg = gg ∧ (True ∧ (True ∧ (((k1 : Int) + (1 : Int)) = (k2 : Int) ∧ True))))))) ∧ ((nextL xs act x k1) = (nextL xs act x k2) ∧ True)))))))))) ∧ ((decide ((k1 : Int) < (atomsN gg))) = false →
 (nextL xs act x k1) = (nextA gg xs act x))))))))) := by kernel_rfl
set_option maxRecDepth 4000 in
set_option maxHeartbeats 1000000 in
theorem ok_spec_l07Next (hE : AllGood [k_spec_l01Atoms, k_spec_l07Allows]) : Ctr.Good k_spec_l07Next := by
  refine ⟨fnOk_of at_spec_l07Next rfl (by decide), ?_⟩
  show ∀ (gg : GSig) (xs : List GPremise) (act : Int) (x : Int), (premsOk gg xs = true ∧ anIn gg act x = true) → OkCall prog n_spec_l07Next [.val ⟨(.st .sig), gg⟩, .val ⟨(.slice (.st .premise)), xs⟩, .val ⟨(.int .i64), act⟩, .val ⟨(.int .i64), x⟩] (· = [⟨(.slice (.int .i64)), nextA gg xs act x⟩])
  intro gg xs act x hp
  refine ok_of_awp (wr := []) (cl := []) (ro := [4]) hE at_spec_l07Next body_spec_l07Next (l_spec_l07Next gg xs act x) ?_
  rewrite [vc_spec_l07Next gg xs act x]
  have f0 := sigOk_acts gg (premsOk_sig gg xs hp.1)
  have f1 := atomsN_le gg f0.1
  have f2 := premsOk_gd gg xs hp.1
  have f3 : ([] : List Int) = nextL xs act x 0 := rfl
  have f4 := hp.2
  simp only [anIn_eq, Bool.and_eq_true, decide_eq_true_eq] at f4
  refine ⟨⟨0, ⟨?_, ⟨⟨rfl, ⟨rfl, ⟨rfl, ⟨rfl, ⟨trivial, ⟨trivial, ⟨?_, trivial⟩⟩⟩⟩⟩⟩⟩, ⟨?_, trivial⟩⟩⟩⟩, fun k1 a0 => have b0x0 := nextL_t xs act x k1; have b0x1 := nextL_f xs act x k1; have b0x2 := nextL_len xs act x k1; have b0x3 := nextA_eq gg xs act x k1; ⟨?_, fun a1 => ⟨fun a2 => ⟨?_, ⟨fun a3 => ⟨?_, ⟨?_, ⟨k1 + 1, ⟨?_, ⟨?_, ⟨⟨rfl, ⟨rfl, ⟨rfl, ⟨rfl, ⟨trivial, ⟨trivial, ⟨?_, trivial⟩⟩⟩⟩⟩⟩⟩, ⟨?_, trivial⟩⟩⟩⟩⟩⟩⟩, fun a3 => ⟨?_, ⟨k1 + 1, ⟨?_, ⟨?_, ⟨⟨rfl, ⟨rfl, ⟨rfl, ⟨rfl, ⟨trivial, ⟨trivial, ⟨?_, trivial⟩⟩⟩⟩⟩⟩⟩, ⟨?_, trivial⟩⟩⟩⟩⟩⟩⟩⟩, fun a2 => ?_⟩⟩⟩
  all_goals try and_intros
  all_goals first | rfl | trivial | omega | (simp only [decide_eq_true_eq, decide_eq_false_iff_not, idxOk, inI64, inKind_u64, inKind_i64, u64_min, u64_max, roomOk, List.length_append, List.length_cons, List.length_nil] at *; omega) | grind

theorem good_spec_l07Next : Ctr.Good k_spec_l07Next := ok_spec_l07Next ⟨good_spec_l01Atoms, good_spec_l07Allows, trivial⟩

end
end Go.Proofs.Ytcdppmpjplhgkaa
