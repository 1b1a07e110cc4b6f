/- The atoms that an action allows; the law FnExactAllowedNext. Printed by vmk.py. -/
import Derived.Test.YtlmgmdkelbdmgaaVmUse
import Derived.Test.YtlmgmdkelbdmgaaVmLib
import Derived.Test.YtlmgmdkelbdmgaaVmSz
import Derived.Test.YtlmgmdkelbdmgaaVmTo
import Derived.Test.YtlmgmdkelbdmgaaVmEq
import Derived.Test.YtlmgmdkelbdmgaaVmOwnFam
import Derived.Test.YtlmgmdkelbdmgaaVmOwnFam2
import Derived.Test.YtlmgmdkelbdmgaaVmPrem
set_option linter.unusedVariables false
set_option linter.unusedSimpArgs false
set_option linter.unusedSectionVars false
namespace Go.Proofs.Ytlmgmdkelbdmgaa
noncomputable section

/-- A premise lets an action lead from an atom to another one. -/
def alwAt (act x y : Int) (p : GPremise) : Bool := !(decide (p.act = act) && truE x p.pre && !truE y p.post)
theorem alwAt_eq (act x y : Int) (p : GPremise) : alwAt act x y p = !(decide (p.act = act) && truE x p.pre && !truE y p.post) := rfl
def alwB (xs : List GPremise) (act x y : Int) : Bool := allL (alwAt act x y) xs
/-- All premises have right conditions. -/
def gdP (p : GPremise) : Bool := goodC p.pre && goodC p.post
theorem gdP_eq (p : GPremise) : gdP p = (goodC p.pre && goodC p.post) := rfl
theorem premsOk_sig (gg : GSig) (xs : List GPremise) (h : premsOk gg xs = true) : sigOk gg = true := by
  simp only [premsOk, Bool.and_eq_true] at h; exact h.1.1
theorem premsOk_gd (gg : GSig) (xs : List GPremise) (h : premsOk gg xs = true) : allL gdP xs = true := by
  have hs := premsOk_sig gg xs h
  simp only [premsOk, Bool.and_eq_true] at h
  have h2 := h.2
  clear h
  induction xs with
  | nil => rfl
  | cons x xs ih =>
    simp only [allL, Bool.and_eq_true] at h2 ⊢
    refine ⟨?_, ih h2.2⟩
    have := h2.1
    simp only [pmI, Bool.and_eq_true] at this
    simp only [gdP, Bool.and_eq_true]
    exact ⟨isC_good gg _ hs this.1.1, isC_good gg _ hs this.1.2⟩
/-- The first atoms that an action allows. -/
def nextL (xs : List GPremise) (act x : Int) : Nat → List Int
  | 0 => []
  | n + 1 => nextL xs act x n ++ (bif alwB xs act x (n : Int) then [(n : Int)] else [])
theorem nextL_len (xs : List GPremise) (act x : Int) : ∀ n, (nextL xs act x n).length ≤ n
  | 0 => Nat.le_refl _
  | n + 1 => by
    have := nextL_len xs act x n
    simp only [nextL, List.length_append]
    cases alwB xs act x (n : Int) <;> simp <;> omega
theorem nextL_t (xs : List GPremise) (act x : Int) (n : Nat) (h : alwB xs act x (n : Int) = true) : nextL xs act x n ++ [(n : Int)] = nextL xs act x (n + 1) := by simp [nextL, h]
theorem nextL_f (xs : List GPremise) (act x : Int) (n : Nat) (h : alwB xs act x (n : Int) = false) : nextL xs act x n = nextL xs act x (n + 1) := by simp [nextL, h]
def nextA (gg : GSig) (xs : List GPremise) (act x : Int) : List Int := nextL xs act x (atomsN gg).toNat
theorem nextA_len (gg : GSig) (xs : List GPremise) (act x : Int) (h : 0 ≤ gg.tests ∧ gg.tests ≤ 3) : (nextA gg xs act x).length ≤ 8 := by
  have := nextL_len xs act x (atomsN gg).toNat
  have := atomsN_le gg h
  unfold nextA; omega
theorem nextA_eq (gg : GSig) (xs : List GPremise) (act x : Int) (k : Nat) (h1 : atomsN gg ≤ (k : Int)) (h2 : k ≤ (atomsN gg).toNat) : nextL xs act x k = nextA gg xs act x := by
  have : k = (atomsN gg).toNat := by omega
  rw [this]; rfl
def anIn (gg : GSig) (act x : Int) : Bool := decide (0 ≤ act ∧ act ≤ gg.actions - 1) && decide (0 ≤ x ∧ x ≤ atomsN gg - 1)
theorem anIn_eq (gg : GSig) (act x : Int) : anIn gg act x = (decide (0 ≤ act ∧ act ≤ gg.actions - 1) && decide (0 ≤ x ∧ x ≤ atomsN gg - 1)) := rfl
def anV (gg : GSig) (xs : List GPremise) (act x : Int) : List Int := bif premsOk gg xs && anIn gg act x then nextA gg xs act x else []
def anC (gg : GSig) (xs : List GPremise) (act x : Int) : Int := bif premsOk gg xs then (bif anIn gg act x then 0 else 2) else 1
theorem anV_len (gg : GSig) (xs : List GPremise) (act x : Int) : (anV gg xs act x).length ≤ 8 := by
  unfold anV
  cases h : premsOk gg xs
  · simp
  · cases anIn gg act x
    · simp
    · exact nextA_len gg xs act x (sigOk_acts gg (premsOk_sig gg xs h)).1

def k_impl_allows : Ctr := ⟨n_impl_allows, [.v (.slice (.st .premise)), .v (.int .i64), .v (.int .i64), .v (.int .i64)], fun (xs : List GPremise) (act : Int) (x : Int) (y : Int) => ⟨(some (allL gdP xs = true ∧ 0 ≤ x ∧ x ≤ 4096 ∧ 0 ≤ y ∧ y ≤ 4096), [⟨.bool, alwB xs act x y⟩])⟩⟩
def l_impl_allows (xs : List GPremise) (act : Int) (x : Int) (y : Int) : Nat → LoopInv := (fun zb => if Nat.beq zb 0 then .mk (Nat) (fun k => k ≤ xs.length ∧ allL (alwAt act x y) (xs.take k) = true) (fun k => xs.length - k) [] [0, 4, 5, 6, 7, 9] (fun k => [(13, .imm ⟨(.int .i64), ((k : Int) : Int)⟩)]) [1, 2, 3, 8, 10, 11, 12, 13, 14, 15, 16, 17, 18, 19, 20, 21, 22, 23, 24, 25, 26, 27, 28, 29, 30, 31, 32, 33, 34] (fun k => []) [] [] (fun k => fun _ => .none) else .none)
theorem vc_impl_allows (xs : List GPremise) (act : Int) (x : Int) (y : Int) : awp (envOf [k_impl_truth]) (bodyOf f_impl_allows) (l_impl_allows xs act x y) 0 (funPost (envOf [k_impl_truth]) f_impl_allows fun r => areEq r [⟨.bool, alwB xs act x y⟩]) (startState f_impl_allows [.val ⟨(.slice (.st .premise)), xs⟩, .val ⟨(.int .i64), act⟩, .val ⟨(.int .i64), x⟩, .val ⟨(.int .i64), y⟩]) =
  ((inI64 ((xs.length : Int)) →
   ((∃ k1 : Nat, ((k1 ≤ xs.length ∧ allL (alwAt act x y) (xs.take k1) = true) ∧ ((act = act ∧ (x = x ∧ (y = y ∧ (xs = xs ∧ (((xs.length : Int)) = ((xs.length : Int)) ∧ ((0 : Int) = (k1 : Int) ∧ True)))))) ∧ True))) ∧ (∀ k2 : Nat, ((k2 ≤ xs.length ∧ allL (alwAt act x y) (xs.take k2) = true) →
       (((decide ((k2 : Int) < ((xs.length : Int)))) = true →
         (idxOk (k2 : Int) xs.length ∧ (inI64 (xs.getD k2 (GPremise.mk (GExpr.mk (0 : Int) (0 : Int) []) (0 : Int) (GExpr.mk (0 : Int) (0 : Int) []))).act →
           (((decide ((xs.getD k2 (GPremise.mk (GExpr.mk (0 : Int) (0 : Int) []) (0 : Int) (GExpr.mk (0 : Int) (0 : Int) []))).act = act)) = true →
             ((goodC (xs.getD k2 (GPremise.mk (GExpr.mk (0 : Int) (0 : Int) []) (0 : Int) (GExpr.mk (0 : Int) (0 : Int) []))).pre = true ∧ 0 ≤ x ∧ x ≤ 4096) ∧ (((truE x (xs.getD k2 (GPremise.mk (GExpr.mk (0 : Int) (0 : Int) []) (0 : Int) (GExpr.mk (0 : Int) (0 : Int) []))).pre) = true →
               ((goodC (xs.getD k2 (GPremise.mk (GExpr.mk (0 : Int) (0 : Int) []) (0 : Int) (GExpr.mk (0 : Int) (0 : Int) []))).post = true ∧ 0 ≤ y ∧ y ≤ 4096) ∧ (((!(truE y (xs.getD k2 (GPremise.mk (GExpr.mk (0 : Int) (0 : Int) []) (0 : Int) (GExpr.mk (0 : Int) (0 : Int) []))).post)) = true →
                 false = (alwB xs act x y)) ∧ ((!(truE y (xs.getD k2 (GPremise.mk (GExpr.mk (0 : Int) (0 : Int) []) (0 : Int) (GExpr.mk (0 : Int) (0 : Int) []))).post)) = false →
                 (inI64 ((k2 : Int) + (1 : Int)) ∧ (∃ k3 : Nat, ((k3 ≤ xs.length ∧ allL (alwAt act x y) (xs.take k3) = true) ∧ (xs.length - k3 < xs.length - k2 ∧ ((act = act ∧ (x = x ∧ (y = y ∧ (xs = xs ∧ (((xs.length : Int)) = ((xs.length : Int)) ∧ (((k2 : Int) + (1 : Int)) = (k3 : Int) ∧ True)))))) ∧ True))))))))) ∧ ((truE x (xs.getD k2 (GPremise.mk (GExpr.mk (0 : Int) (0 : Int) []) (0 : Int) (GExpr.mk (0 : Int) (0 : Int) []))).pre) = (!true) →
               ((false = true →
                 false = (alwB xs act x y)) ∧ (false = false →
                 (inI64 ((k2 : Int) + (1 : Int)) ∧ (∃ k4 : Nat, ((k4 ≤ xs.length ∧ allL (alwAt act x y) (xs.take k4) = true) ∧ (xs.length - k4 < xs.length - k2 ∧ ((act = act ∧ (x = x ∧ (y = y ∧ (xs = xs ∧ (((xs.length : Int)) = ((xs.length : Int)) ∧ (((k2 : Int) + (1 : Int)) = (k4 : Int) ∧ True)))))) ∧ True))))))))))) ∧ ((decide ((xs.getD k2 (GPremise.mk (GExpr.mk (0 : Int) (0 : Int) []) (0 : Int) (GExpr.mk (0 : Int) (0 : Int) []))).act = act)) = (!true) →
             ((false = true →
               ((goodC (xs.getD k2 (GPremise.mk (GExpr.mk (0 : Int) (0 : Int) []) (0 : Int) (GExpr.mk (0 : Int) (0 : Int) []))).post = true ∧ 0 ≤ y ∧ y ≤ 4096) ∧ (((!(truE y (xs.getD k2 (GPremise.mk (GExpr.mk (0 : Int) (0 : Int) []) (0 : Int) (GExpr.mk (0 : Int) (0 : Int) []))).post)) = true →
                 false = (alwB xs act x y)) ∧ ((!(truE y (xs.getD k2 (GPremise.mk (GExpr.mk (0 : Int) (0 : Int) []) (0 : Int) (GExpr.mk (0 : Int) (0 : Int) []))).post)) = false →
                 (inI64 ((k2 : Int) + (1 : Int)) ∧ (∃ k5 : Nat, ((k5 ≤ xs.length ∧ allL (alwAt act x y) (xs.take k5) = true) ∧ (xs.length - k5 < xs.length - k2 ∧ ((act = act ∧ (x = x ∧ (y = y ∧ (xs = xs ∧ (((xs.length : Int)) = ((xs.length : Int)) ∧ (((k2 : Int) + (1 : Int)) = (k5 : Int) ∧ True)))))) ∧ True))))))))) ∧ (false = (!true) →
               ((false = true →
                 false = (alwB xs act x y)) ∧ (false = false →
                 (inI64 ((k2 : Int) + (1 : Int)) ∧ (∃ k6 : Nat, ((k6 ≤ xs.length ∧ allL (alwAt act x y) (xs.take k6) = true) ∧ (xs.length - k6 < xs.length - k2 ∧ ((act = act ∧ (x = x ∧ (y = y ∧ (xs = xs ∧ (((xs.length : Int)) = ((xs.length : Int)) ∧ (((k2 : Int) + (1 : Int)) = (k6 : Int) ∧ True)))))) ∧ True)))))))))))))) ∧ ((decide ((k2 : Int) < ((xs.length : Int)))) = false →
         true = (alwB xs act x y)))))))) := by
  refine Eq.trans (b := (((inI64 ((xs.length : Int)) →
   ((∃ k1 : Nat, ((k1 ≤ xs.length ∧ allL (alwAt act x y) (xs.take k1) = true) ∧ ((act = act ∧ (x = x ∧ (y = y ∧ (xs = xs ∧ (((xs.length : Int)) = ((xs.length : Int)) ∧ ((0 : Int) = (k1 : Int) ∧ True)))))) ∧ True))) ∧ (∀ k2 : Nat, ((k2 ≤ xs.length ∧ allL (alwAt act x y) (xs.take k2) = true) →
       (((decide ((k2 : Int) < ((xs.length : Int)))) = true →
         (idxOk (k2 : Int) xs.length ∧ (inI64 (xs.getD k2 (GPremise.mk (GExpr.mk (0 : Int) (0 : Int) []) (0 : Int) (GExpr.mk (0 : Int) (0 : Int) []))).act →
           (((decide ((xs.getD k2 (GPremise.mk (GExpr.mk (0 : Int) (0 : Int) []) (0 : Int) (GExpr.mk (0 : Int) (0 : Int) []))).act = act)) = true →
             ((goodC (GExpr.mk (xs.getD k2 (GPremise.mk (GExpr.mk (0 : Int) (0 : Int) []) (0 : Int) (GExpr.mk (0 : Int) (0 : Int) []))).pre.kind (xs.getD k2 (GPremise.mk (GExpr.mk (0 : Int) (0 : Int) []) (0 : Int) (GExpr.mk (0 : Int) (0 : Int) []))).pre.num (xs.getD k2 (GPremise.mk (GExpr.mk (0 : Int) (0 : Int) []) (0 : Int) (GExpr.mk (0 : Int) (0 : Int) []))).pre.kids) = true ∧ 0 ≤ x ∧ x ≤ 4096) ∧ (((truE x (GExpr.mk (xs.getD k2 (GPremise.mk (GExpr.mk (0 : Int) (0 : Int) []) (0 : Int) (GExpr.mk (0 : Int) (0 : Int) []))).pre.kind (xs.getD k2 (GPremise.mk (GExpr.mk (0 : Int) (0 : Int) []) (0 : Int) (GExpr.mk (0 : Int) (0 : Int) []))).pre.num (xs.getD k2 (GPremise.mk (GExpr.mk (0 : Int) (0 : Int) []) (0 : Int) (GExpr.mk (0 : Int) (0 : Int) []))).pre.kids)) = true →
               ((goodC (GExpr.mk (xs.getD k2 (GPremise.mk (GExpr.mk (0 : Int) (0 : Int) []) (0 : Int) (GExpr.mk (0 : Int) (0 : Int) []))).post.kind (xs.getD k2 (GPremise.mk (GExpr.mk (0 : Int) (0 : Int) []) (0 : Int) (GExpr.mk (0 : Int) (0 : Int) []))).post.num (xs.getD k2 (GPremise.mk (GExpr.mk (0 : Int) (0 : Int) []) (0 : Int) (GExpr.mk (0 : Int) (0 : Int) []))).post.kids) = true ∧ 0 ≤ y ∧ y ≤ 4096) ∧ (((!(truE y (GExpr.mk (xs.getD k2 (GPremise.mk (GExpr.mk (0 : Int) (0 : Int) []) (0 : Int) (GExpr.mk (0 : Int) (0 : Int) []))).post.kind (xs.getD k2 (GPremise.mk (GExpr.mk (0 : Int) (0 : Int) []) (0 : Int) (GExpr.mk (0 : Int) (0 : Int) []))).post.num (xs.getD k2 (GPremise.mk (GExpr.mk (0 : Int) (0 : Int) []) (0 : Int) (GExpr.mk (0 : Int) (0 : Int) []))).post.kids))) = true →
                 false = (alwB xs act x y)) ∧ ((!(truE y (GExpr.mk (xs.getD k2 (GPremise.mk (GExpr.mk (0 : Int) (0 : Int) []) (0 : Int) (GExpr.mk (0 : Int) (0 : Int) []))).post.kind (xs.getD k2 (GPremise.mk (GExpr.mk (0 : Int) (0 : Int) []) (0 : Int) (GExpr.mk (0 : Int) (0 : Int) []))).post.num (xs.getD k2 (GPremise.mk (GExpr.mk (0 : Int) (0 : Int) []) (0 : Int) (GExpr.mk (0 : Int) (0 : Int) []))).post.kids))) = false →
                 (inI64 ((k2 : Int) + (1 : Int)) ∧ (∃ k3 : Nat, ((k3 ≤ xs.length ∧ allL (alwAt act x y) (xs.take k3) = true) ∧ (xs.length - k3 < xs.length - k2 ∧ ((act = act ∧ (x = x ∧ (y = y ∧ (xs = xs ∧ (((xs.length : Int)) = ((xs.length : Int)) ∧ (((k2 : Int) + (1 : Int)) = (k3 : Int) ∧ True)))))) ∧ True))))))))) ∧ ((truE x (GExpr.mk (xs.getD k2 (GPremise.mk (GExpr.mk (0 : Int) (0 : Int) []) (0 : Int) (GExpr.mk (0 : Int) (0 : Int) []))).pre.kind (xs.getD k2 (GPremise.mk (GExpr.mk (0 : Int) (0 : Int) []) (0 : Int) (GExpr.mk (0 : Int) (0 : Int) []))).pre.num (xs.getD k2 (GPremise.mk (GExpr.mk (0 : Int) (0 : Int) []) (0 : Int) (GExpr.mk (0 : Int) (0 : Int) []))).pre.kids)) = (!true) →
               ((false = true →
                 false = (alwB xs act x y)) ∧ (false = false →
                 (inI64 ((k2 : Int) + (1 : Int)) ∧ (∃ k4 : Nat, ((k4 ≤ xs.length ∧ allL (alwAt act x y) (xs.take k4) = true) ∧ (xs.length - k4 < xs.length - k2 ∧ ((act = act ∧ (x = x ∧ (y = y ∧ (xs = xs ∧ (((xs.length : Int)) = ((xs.length : Int)) ∧ (((k2 : Int) + (1 : Int)) = (k4 : Int) ∧ True)))))) ∧ True))))))))))) ∧ ((decide ((xs.getD k2 (GPremise.mk (GExpr.mk (0 : Int) (0 : Int) []) (0 : Int) (GExpr.mk (0 : Int) (0 : Int) []))).act = act)) = (!true) →
             ((false = true →
               ((goodC (GExpr.mk (xs.getD k2 (GPremise.mk (GExpr.mk (0 : Int) (0 : Int) []) (0 : Int) (GExpr.mk (0 : Int) (0 : Int) []))).post.kind (xs.getD k2 (GPremise.mk (GExpr.mk (0 : Int) (0 : Int) []) (0 : Int) (GExpr.mk (0 : Int) (0 : Int) []))).post.num (xs.getD k2 (GPremise.mk (GExpr.mk (0 : Int) (0 : Int) []) (0 : Int) (GExpr.mk (0 : Int) (0 : Int) []))).post.kids) = true ∧ 0 ≤ y ∧ y ≤ 4096) ∧ (((!(truE y (GExpr.mk (xs.getD k2 (GPremise.mk (GExpr.mk (0 : Int) (0 : Int) []) (0 : Int) (GExpr.mk (0 : Int) (0 : Int) []))).post.kind (xs.getD k2 (GPremise.mk (GExpr.mk (0 : Int) (0 : Int) []) (0 : Int) (GExpr.mk (0 : Int) (0 : Int) []))).post.num (xs.getD k2 (GPremise.mk (GExpr.mk (0 : Int) (0 : Int) []) (0 : Int) (GExpr.mk (0 : Int) (0 : Int) []))).post.kids))) = true →
                 false = (alwB xs act x y)) ∧ ((!(truE y (GExpr.mk (xs.getD k2 (GPremise.mk (GExpr.mk (0 : Int) (0 : Int) []) (0 : Int) (GExpr.mk (0 : Int) (0 : Int) []))).post.kind (xs.getD k2 (GPremise.mk (GExpr.mk (0 : Int) (0 : Int) []) (0 : Int) (GExpr.mk (0 : Int) (0 : Int) []))).post.num (xs.getD k2 (GPremise.mk (GExpr.mk (0 : Int) (0 : Int) []) (0 : Int) (GExpr.mk (0 : Int) (0 : Int) []))).post.kids))) = false →
                 (inI64 ((k2 : Int) + (1 : Int)) ∧ (∃ k5 : Nat, ((k5 ≤ xs.length ∧ allL (alwAt act x y) (xs.take k5) = true) ∧ (xs.length - k5 < xs.length - k2 ∧ ((act = act ∧ (x = x ∧ (y = y ∧ (xs = xs ∧ (((xs.length : Int)) = ((xs.length : Int)) ∧ (((k2 : Int) + (1 : Int)) = (k5 : Int) ∧ True)))))) ∧ True))))))))) ∧ (false = (!true) →
               ((false = true →
                 false = (alwB xs act x y)) ∧ (false = false →
                 (inI64 ((k2 : Int) + (1 : Int)) ∧ (∃ k6 : Nat, ((k6 ≤ xs.length ∧ allL (alwAt act x y) (xs.take k6) = true) ∧ (xs.length - k6 < xs.length - k2 ∧ ((act = act ∧ (x = x ∧ (y = y ∧ (xs = xs ∧ (((xs.length : Int)) = ((xs.length : Int)) ∧ (((k2 : Int) + (1 : Int)) = (k6 : Int) ∧ True)))))) ∧ True)))))))))))))) ∧ ((decide ((k2 : Int) < ((xs.length : Int)))) = false →
         true = (alwB xs act x y)))))))))) (by kernel_rfl) ?_
  simp only [GExpr.eta, GProg.eta, GDerivation.eta, GTriple.eta, GPremise.eta, GClaim.eta, GEquation.eta, GPair.eta, GSpot.eta]
set_option maxRecDepth 4000 in
set_option maxHeartbeats 1000000 in
theorem ok_impl_allows (hE : AllGood [k_impl_truth]) : Ctr.Good k_impl_allows := by
  refine ⟨fnOk_of at_impl_allows rfl (by decide), ?_⟩
  show ∀ (xs : List GPremise) (act : Int) (x : Int) (y : Int), (allL gdP xs = true ∧ 0 ≤ x ∧ x ≤ 4096 ∧ 0 ≤ y ∧ y ≤ 4096) → OkCall prog n_impl_allows [.val ⟨(.slice (.st .premise)), xs⟩, .val ⟨(.int .i64), act⟩, .val ⟨(.int .i64), x⟩, .val ⟨(.int .i64), y⟩] (· = [⟨.bool, alwB xs act x y⟩])
  intro xs act x y hp
  refine ok_of_awp (wr := []) hE at_impl_allows body_impl_allows (l_impl_allows xs act x y) ?_
  rewrite [vc_impl_allows xs act x y]
  have f0 := all_zero (alwAt act x y) xs
  have f1 : alwB xs act x y = allL (alwAt act x y) xs := rfl
  rw [f1]
  refine fun a0 => ⟨⟨0, ⟨?_, ⟨⟨rfl, ⟨rfl, ⟨rfl, ⟨rfl, ⟨rfl, ⟨?_, trivial⟩⟩⟩⟩⟩⟩, trivial⟩⟩⟩, fun k2 a1 => have b1x0 := all_take (alwAt act x y) (GPremise.mk (GExpr.mk 0 0 []) 0 (GExpr.mk 0 0 [])) xs k2; have b1x1 := all_bad (alwAt act x y) (GPremise.mk (GExpr.mk 0 0 []) 0 (GExpr.mk 0 0 [])) xs k2; have b1x2 := all_done (alwAt act x y) xs k2; have b1x3 := all_getD gdP (GPremise.mk (GExpr.mk 0 0 []) 0 (GExpr.mk 0 0 [])) xs k2; have b1x4 := gdP_eq (xs.getD k2 (GPremise.mk (GExpr.mk 0 0 []) 0 (GExpr.mk 0 0 []))); have b1x5 := alwAt_eq act x y (xs.getD k2 (GPremise.mk (GExpr.mk 0 0 []) 0 (GExpr.mk 0 0 []))); ⟨fun a2 => ⟨?_, fun a3 => ⟨fun a4 => ⟨?_, ⟨fun a5 => ⟨?_, ⟨fun a6 => ?_, fun a6 => ⟨?_, ⟨k2 + 1, ⟨?_, ⟨?_, ⟨⟨rfl, ⟨rfl, ⟨rfl, ⟨rfl, ⟨rfl, ⟨?_, trivial⟩⟩⟩⟩⟩⟩, trivial⟩⟩⟩⟩⟩⟩⟩, fun a5 => ⟨fun a6 => ?_, fun a6 => ⟨?_, ⟨k2 + 1, ⟨?_, ⟨?_, ⟨⟨rfl, ⟨rfl, ⟨rfl, ⟨rfl, ⟨rfl, ⟨?_, trivial⟩⟩⟩⟩⟩⟩, trivial⟩⟩⟩⟩⟩⟩⟩⟩, fun a4 => ⟨fun a5 => ⟨?_, ⟨fun a6 => ?_, fun a6 => ⟨?_, ⟨k2 + 1, ⟨?_, ⟨?_, ⟨⟨rfl, ⟨rfl, ⟨rfl, ⟨rfl, ⟨rfl, ⟨?_, trivial⟩⟩⟩⟩⟩⟩, trivial⟩⟩⟩⟩⟩⟩⟩, fun a5 => ⟨fun a6 => ?_, fun a6 => ⟨?_, ⟨k2 + 1, ⟨?_, ⟨?_, ⟨⟨rfl, ⟨rfl, ⟨rfl, ⟨rfl, ⟨rfl, ⟨?_, trivial⟩⟩⟩⟩⟩⟩, trivial⟩⟩⟩⟩⟩⟩⟩⟩⟩, fun a2 => ?_⟩⟩
  all_goals try and_intros
  all_goals first | rfl | trivial | omega | (simp only [decide_eq_true_eq, decide_eq_false_iff_not, idxOk, inI64] at *; omega) | grind

theorem good_impl_allows : Ctr.Good k_impl_allows := ok_impl_allows ⟨good_impl_truth, trivial⟩

def k_spec_l07Allows : Ctr := ⟨n_spec_l07Allows, [.v (.slice (.st .premise)), .v (.int .i64), .v (.int .i64), .v (.int .i64)], fun (xs : List GPremise) (act : Int) (x : Int) (y : Int) => ⟨(some (allL gdP xs = true ∧ 0 ≤ x ∧ x ≤ 4096 ∧ 0 ≤ y ∧ y ≤ 4096), [⟨.bool, alwB xs act x y⟩])⟩⟩
def l_spec_l07Allows (xs : List GPremise) (act : Int) (x : Int) (y : Int) : Nat → LoopInv := (fun zb => if Nat.beq zb 0 then .mk (Nat) (fun k => k ≤ xs.length ∧ allL (alwAt act x y) (xs.take k) = true) (fun k => xs.length - k) [] [4, 5, 6, 7] (fun k => [(9, .imm ⟨(.int .i64), ((k : Int) : Int)⟩)]) [0, 1, 2, 3, 8, 9, 10, 11, 12, 13, 14, 15, 16, 17, 18, 19, 20, 21, 22, 23, 24, 25, 26, 27, 28, 29, 30, 31, 32, 33, 34, 35, 36, 37, 38, 39] (fun k => []) [] [] (fun k => fun _ => .none) else .none)
theorem vc_spec_l07Allows (xs : List GPremise) (act : Int) (x : Int) (y : Int) : awp (envOf [k_spec_l01True]) (bodyOf f_spec_l07Allows) (l_spec_l07Allows xs act x y) 0 (funPost (envOf [k_spec_l01True]) f_spec_l07Allows fun r => areEq r [⟨.bool, alwB xs act x y⟩]) (startState f_spec_l07Allows [.val ⟨(.slice (.st .premise)), xs⟩, .val ⟨(.int .i64), act⟩, .val ⟨(.int .i64), x⟩, .val ⟨(.int .i64), y⟩]) =
  (((∃ k1 : Nat, ((k1 ≤ xs.length ∧ allL (alwAt act x y) (xs.take k1) = true) ∧ ((xs = xs ∧ (act = act ∧ (x = x ∧ (y = y ∧ ((0 : Int) = (k1 : Int) ∧ True))))) ∧ True))) ∧ (∀ k2 : Nat, ((k2 ≤ xs.length ∧ allL (alwAt act x y) (xs.take k2) = true) →
     (inI64 ((xs.length : Int)) →
       (((decide ((k2 : Int) < ((xs.length : Int)))) = true →
         (idxOk (k2 : Int) xs.length ∧ (inI64 (xs.getD k2 (GPremise.mk (GExpr.mk (0 : Int) (0 : Int) []) (0 : Int) (GExpr.mk (0 : Int) (0 : Int) []))).act →
           (((decide ((xs.getD k2 (GPremise.mk (GExpr.mk (0 : Int) (0 : Int) []) (0 : Int) (GExpr.mk (0 : Int) (0 : Int) []))).act = act)) = true →
             (idxOk (k2 : Int) xs.length ∧ ((goodC (xs.getD k2 (GPremise.mk (GExpr.mk (0 : Int) (0 : Int) []) (0 : Int) (GExpr.mk (0 : Int) (0 : Int) []))).pre = true ∧ 0 ≤ x ∧ x ≤ 4096) ∧ (((truE x (xs.getD k2 (GPremise.mk (GExpr.mk (0 : Int) (0 : Int) []) (0 : Int) (GExpr.mk (0 : Int) (0 : Int) []))).pre) = true →
               (idxOk (k2 : Int) xs.length ∧ ((goodC (xs.getD k2 (GPremise.mk (GExpr.mk (0 : Int) (0 : Int) []) (0 : Int) (GExpr.mk (0 : Int) (0 : Int) []))).post = true ∧ 0 ≤ y ∧ y ≤ 4096) ∧ (((!(truE y (xs.getD k2 (GPremise.mk (GExpr.mk (0 : Int) (0 : Int) []) (0 : Int) (GExpr.mk (0 : Int) (0 : Int) []))).post)) = true →
                 false = (alwB xs act x y)) ∧ ((!(truE y (xs.getD k2 (GPremise.mk (GExpr.mk (0 : Int) (0 : Int) []) (0 : Int) (GExpr.mk (0 : Int) (0 : Int) []))).post)) = false →
                 (inI64 ((k2 : Int) + (1 : Int)) ∧ (∃ k3 : Nat, ((k3 ≤ xs.length ∧ allL (alwAt act x y) (xs.take k3) = true) ∧ (xs.length - k3 < xs.length - k2 ∧ ((xs = xs ∧ (act = act ∧ (x = x ∧ (y = y ∧ (((k2 : Int) + (1 : Int)) = (k3 : Int) ∧ True))))) ∧ True)))))))))) ∧ ((truE x (xs.getD k2 (GPremise.mk (GExpr.mk (0 : Int) (0 : Int) []) (0 : Int) (GExpr.mk (0 : Int) (0 : Int) []))).pre) = (!true) →
               ((false = true →
                 false = (alwB xs act x y)) ∧ (false = false →
                 (inI64 ((k2 : Int) + (1 : Int)) ∧ (∃ k4 : Nat, ((k4 ≤ xs.length ∧ allL (alwAt act x y) (xs.take k4) = true) ∧ (xs.length - k4 < xs.length - k2 ∧ ((xs = xs ∧ (act = act ∧ (x = x ∧ (y = y ∧ (((k2 : Int) + (1 : Int)) = (k4 : Int) ∧ True))))) ∧ True)))))))))))) ∧ ((decide ((xs.getD k2 (GPremise.mk (GExpr.mk (0 : Int) (0 : Int) []) (0 : Int) (GExpr.mk (0 : Int) (0 : Int) []))).act = act)) = (!true) →
             ((false = true →
               (idxOk (k2 : Int) xs.length ∧ ((goodC (xs.getD k2 (GPremise.mk (GExpr.mk (0 : Int) (0 : Int) []) (0 : Int) (GExpr.mk (0 : Int) (0 : Int) []))).post = true ∧ 0 ≤ y ∧ y ≤ 4096) ∧ (((!(truE y (xs.getD k2 (GPremise.mk (GExpr.mk (0 : Int) (0 : Int) []) (0 : Int) (GExpr.mk (0 : Int) (0 : Int) []))).post)) = true →
                 false = (alwB xs act x y)) ∧ ((!(truE y (xs.getD k2 (GPremise.mk (GExpr.mk (0 : Int) (0 : Int) []) (0 : Int) (GExpr.mk (0 : Int) (0 : Int) []))).post)) = false →
                 (inI64 ((k2 : Int) + (1 : Int)) ∧ (∃ k5 : Nat, ((k5 ≤ xs.length ∧ allL (alwAt act x y) (xs.take k5) = true) ∧ (xs.length - k5 < xs.length - k2 ∧ ((xs = xs ∧ (act = act ∧ (x = x ∧ (y = y ∧ (((k2 : Int) + (1 : Int)) = (k5 : Int) ∧ True))))) ∧ True)))))))))) ∧ (false = (!true) →
               ((false = true →
                 false = (alwB xs act x y)) ∧ (false = false →
                 (inI64 ((k2 : Int) + (1 : Int)) ∧ (∃ k6 : Nat, ((k6 ≤ xs.length ∧ allL (alwAt act x y) (xs.take k6) = true) ∧ (xs.length - k6 < xs.length - k2 ∧ ((xs = xs ∧ (act = act ∧ (x = x ∧ (y = y ∧ (((k2 : Int) + (1 : Int)) = (k6 : Int) ∧ True))))) ∧ True)))))))))))))) ∧ ((decide ((k2 : Int) < ((xs.length : Int)))) = false →
         true = (alwB xs act x y)))))))) := by kernel_rfl
set_option maxRecDepth 4000 in
set_option maxHeartbeats 1000000 in
theorem ok_spec_l07Allows (hE : AllGood [k_spec_l01True]) : Ctr.Good k_spec_l07Allows := by
  refine ⟨fnOk_of at_spec_l07Allows rfl (by decide), ?_⟩
  show ∀ (xs : List GPremise) (act : Int) (x : Int) (y : Int), (allL gdP xs = true ∧ 0 ≤ x ∧ x ≤ 4096 ∧ 0 ≤ y ∧ y ≤ 4096) → OkCall prog n_spec_l07Allows [.val ⟨(.slice (.st .premise)), xs⟩, .val ⟨(.int .i64), act⟩, .val ⟨(.int .i64), x⟩, .val ⟨(.int .i64), y⟩] (· = [⟨.bool, alwB xs act x y⟩])
  intro xs act x y hp
  refine ok_of_awp (wr := []) hE at_spec_l07Allows body_spec_l07Allows (l_spec_l07Allows xs act x y) ?_
  rewrite [vc_spec_l07Allows xs act x y]
  have f0 := all_zero (alwAt act x y) xs
  have f1 : alwB xs act x y = allL (alwAt act x y) xs := rfl
  rw [f1]
  refine ⟨⟨0, ⟨?_, ⟨⟨rfl, ⟨rfl, ⟨rfl, ⟨rfl, ⟨?_, trivial⟩⟩⟩⟩⟩, trivial⟩⟩⟩, fun k2 a0 => have b0x0 := all_take (alwAt act x y) (GPremise.mk (GExpr.mk 0 0 []) 0 (GExpr.mk 0 0 [])) xs k2; have b0x1 := all_bad (alwAt act x y) (GPremise.mk (GExpr.mk 0 0 []) 0 (GExpr.mk 0 0 [])) xs k2; have b0x2 := all_done (alwAt act x y) xs k2; have b0x3 := all_getD gdP (GPremise.mk (GExpr.mk 0 0 []) 0 (GExpr.mk 0 0 [])) xs k2; have b0x4 := gdP_eq (xs.getD k2 (GPremise.mk (GExpr.mk 0 0 []) 0 (GExpr.mk 0 0 []))); have b0x5 := alwAt_eq act x y (xs.getD k2 (GPremise.mk (GExpr.mk 0 0 []) 0 (GExpr.mk 0 0 []))); fun a1 => ⟨fun a2 => ⟨?_, fun a3 => ⟨fun a4 => ⟨?_, ⟨?_, ⟨fun a5 => ⟨?_, ⟨?_, ⟨fun a6 => ?_, fun a6 => ⟨?_, ⟨k2 + 1, ⟨?_, ⟨?_, ⟨⟨rfl, ⟨rfl, ⟨rfl, ⟨rfl, ⟨?_, trivial⟩⟩⟩⟩⟩, trivial⟩⟩⟩⟩⟩⟩⟩⟩, fun a5 => ⟨fun a6 => ?_, fun a6 => ⟨?_, ⟨k2 + 1, ⟨?_, ⟨?_, ⟨⟨rfl, ⟨rfl, ⟨rfl, ⟨rfl, ⟨?_, trivial⟩⟩⟩⟩⟩, trivial⟩⟩⟩⟩⟩⟩⟩⟩⟩, fun a4 => ⟨fun a5 => ⟨?_, ⟨?_, ⟨fun a6 => ?_, fun a6 => ⟨?_, ⟨k2 + 1, ⟨?_, ⟨?_, ⟨⟨rfl, ⟨rfl, ⟨rfl, ⟨rfl, ⟨?_, trivial⟩⟩⟩⟩⟩, trivial⟩⟩⟩⟩⟩⟩⟩⟩, fun a5 => ⟨fun a6 => ?_, fun a6 => ⟨?_, ⟨k2 + 1, ⟨?_, ⟨?_, ⟨⟨rfl, ⟨rfl, ⟨rfl, ⟨rfl, ⟨?_, trivial⟩⟩⟩⟩⟩, trivial⟩⟩⟩⟩⟩⟩⟩⟩⟩, fun a2 => ?_⟩⟩
  all_goals try and_intros
  all_goals first | rfl | trivial | omega | (simp only [decide_eq_true_eq, decide_eq_false_iff_not, idxOk, inI64] at *; omega) | grind

theorem good_spec_l07Allows : Ctr.Good k_spec_l07Allows := ok_spec_l07Allows ⟨good_spec_l01True, trivial⟩

def k_impl_isAtom : Ctr := ⟨n_impl_isAtom, [.v (.st .sig), .v (.int .i64)], fun (gg : GSig) (x : Int) => ⟨(some (0 ≤ gg.tests ∧ gg.tests ≤ 3), [⟨.bool, decide (0 ≤ x ∧ x ≤ atomsN gg - 1)⟩])⟩⟩
def l_impl_isAtom (gg : GSig) (x : Int) : Nat → LoopInv := fun _ => .none
theorem vc_impl_isAtom (gg : GSig) (x : Int) : awp (envOf [k_impl_atomsIn, k_impl_within]) (bodyOf f_impl_isAtom) (l_impl_isAtom gg x) 0 (funPost (envOf [k_impl_atomsIn, k_impl_within]) f_impl_isAtom fun r => areEq r [⟨.bool, decide (0 ≤ x ∧ x ≤ atomsN gg - 1)⟩]) (startState f_impl_isAtom [.val ⟨(.st .sig), gg⟩, .val ⟨(.int .i64), x⟩]) =
  (((0 ≤ gg.tests ∧ gg.tests ≤ 3) ∧ (inI64 (atomsN gg) →
   (inI64 ((atomsN gg) - (1 : Int)) ∧ ((decide ((0 : Int) ≤ x ∧ x ≤ ((atomsN gg) - (1 : Int)))) = (decide (0 ≤ x ∧ x ≤ atomsN gg - 1))))))) := by kernel_rfl
set_option maxRecDepth 4000 in
set_option maxHeartbeats 1000000 in
theorem ok_impl_isAtom (hE : AllGood [k_impl_atomsIn, k_impl_within]) : Ctr.Good k_impl_isAtom := by
  refine ⟨fnOk_of at_impl_isAtom rfl (by decide), ?_⟩
  show ∀ (gg : GSig) (x : Int), (0 ≤ gg.tests ∧ gg.tests ≤ 3) → OkCall prog n_impl_isAtom [.val ⟨(.st .sig), gg⟩, .val ⟨(.int .i64), x⟩] (· = [⟨.bool, decide (0 ≤ x ∧ x ≤ atomsN gg - 1)⟩])
  intro gg x hp
  refine ok_of_awp (wr := []) hE at_impl_isAtom body_impl_isAtom (l_impl_isAtom gg x) ?_
  rewrite [vc_impl_isAtom gg x]
  have f0 := atomsN_le gg hp
  refine ⟨?_, fun a0 => ⟨?_, ?_⟩⟩
  all_goals try and_intros
  all_goals first | rfl | trivial | omega | (simp only [decide_eq_true_eq, decide_eq_false_iff_not, idxOk, inI64] at *; omega) | grind

theorem good_impl_isAtom : Ctr.Good k_impl_isAtom := ok_impl_isAtom ⟨good_impl_atomsIn, good_impl_within, trivial⟩

def k_spec_l02Atom : Ctr := ⟨n_spec_l02Atom, [.v (.st .sig), .v (.int .i64)], fun (gg : GSig) (x : Int) => ⟨(some (0 ≤ gg.tests ∧ gg.tests ≤ 3), [⟨.bool, decide (0 ≤ x ∧ x ≤ atomsN gg - 1)⟩])⟩⟩
def l_spec_l02Atom (gg : GSig) (x : Int) : Nat → LoopInv := fun _ => .none
theorem vc_spec_l02Atom (gg : GSig) (x : Int) : awp (envOf [k_spec_l01Atoms, k_spec_l00In]) (bodyOf f_spec_l02Atom) (l_spec_l02Atom gg x) 0 (funPost (envOf [k_spec_l01Atoms, k_spec_l00In]) f_spec_l02Atom fun r => areEq r [⟨.bool, decide (0 ≤ x ∧ x ≤ atomsN gg - 1)⟩]) (startState f_spec_l02Atom [.val ⟨(.st .sig), gg⟩, .val ⟨(.int .i64), x⟩]) =
  (((0 ≤ gg.tests ∧ gg.tests ≤ 3) ∧ (inI64 (atomsN gg) →
   (inI64 ((atomsN gg) - (1 : Int)) ∧ ((decide ((0 : Int) ≤ x ∧ x ≤ ((atomsN gg) - (1 : Int)))) = (decide (0 ≤ x ∧ x ≤ atomsN gg - 1))))))) := by kernel_rfl
set_option maxRecDepth 4000 in
set_option maxHeartbeats 1000000 in
theorem ok_spec_l02Atom (hE : AllGood [k_spec_l01Atoms, k_spec_l00In]) : Ctr.Good k_spec_l02Atom := by
  refine ⟨fnOk_of at_spec_l02Atom rfl (by decide), ?_⟩
  show ∀ (gg : GSig) (x : Int), (0 ≤ gg.tests ∧ gg.tests ≤ 3) → OkCall prog n_spec_l02Atom [.val ⟨(.st .sig), gg⟩, .val ⟨(.int .i64), x⟩] (· = [⟨.bool, decide (0 ≤ x ∧ x ≤ atomsN gg - 1)⟩])
  intro gg x hp
  refine ok_of_awp (wr := []) hE at_spec_l02Atom body_spec_l02Atom (l_spec_l02Atom gg x) ?_
  rewrite [vc_spec_l02Atom gg x]
  have f0 := atomsN_le gg hp
  refine ⟨?_, fun a0 => ⟨?_, ?_⟩⟩
  all_goals try and_intros
  all_goals first | rfl | trivial | omega | (simp only [decide_eq_true_eq, decide_eq_false_iff_not, idxOk, inI64] at *; omega) | grind

theorem good_spec_l02Atom : Ctr.Good k_spec_l02Atom := ok_spec_l02Atom ⟨good_spec_l01Atoms, good_spec_l00In, trivial⟩

def k_spec_l07Next : Ctr := ⟨n_spec_l07Next, [.v (.st .sig), .v (.slice (.st .premise)), .v (.int .i64), .v (.int .i64)], fun (gg : GSig) (xs : List GPremise) (act : Int) (x : Int) => ⟨(some (premsOk gg xs = true ∧ anIn gg act x = true), [⟨(.slice (.int .i64)), nextA gg xs act x⟩])⟩⟩
def l_spec_l07Next (gg : GSig) (xs : List GPremise) (act : Int) (x : Int) : Nat → LoopInv := (fun zb => if Nat.beq zb 0 then .mk (Nat) (fun k => k ≤ (atomsN gg).toNat) (fun k => (atomsN gg).toNat - k) [] [0, 5, 6, 7, 11] (fun k => [(10, .imm ⟨(.int .i64), ((k : Int) : Int)⟩), (9, .row 11)]) [1, 2, 3, 4, 8, 9, 10, 12, 13, 14, 15, 16, 17, 18, 19, 20, 21, 22, 23, 24, 25, 26, 27] (fun k => [(11, .row T_int64 (.int .i64) (nextL xs act x k : List Int))]) [] [] (fun k => fun _ => .none) else .none)
theorem vc_spec_l07Next (gg : GSig) (xs : List GPremise) (act : Int) (x : Int) : awp (envOf [k_spec_l01Atoms, k_spec_l07Allows]) (bodyOf f_spec_l07Next) (l_spec_l07Next gg xs act x) 0 (funPost (envOf [k_spec_l01Atoms, k_spec_l07Allows]) f_spec_l07Next fun r => areEq r [⟨(.slice (.int .i64)), nextA gg xs act x⟩]) (startState f_spec_l07Next [.val ⟨(.st .sig), gg⟩, .val ⟨(.slice (.st .premise)), xs⟩, .val ⟨(.int .i64), act⟩, .val ⟨(.int .i64), x⟩]) =
  (((∃ k1 : Nat, (k1 ≤ (atomsN gg).toNat ∧ ((xs = xs ∧ (act = act ∧ (x = x ∧ (True ∧ (True ∧ (True ∧ ((0 : Int) = (k1 : Int) ∧ True))))))) ∧ ([] = (nextL xs act x k1) ∧ ((gg.tests = gg.tests ∧ (gg.actions = gg.actions ∧ True)) ∧ True))))) ∧ (∀ k2 : Nat, (k2 ≤ (atomsN gg).toNat →
     ((0 ≤ gg.tests ∧ gg.tests ≤ 3) ∧ (inI64 (atomsN gg) →
       (((decide ((k2 : Int) < (atomsN gg))) = true →
         ((allL gdP xs = true ∧ 0 ≤ x ∧ x ≤ 4096 ∧ 0 ≤ (k2 : Int) ∧ (k2 : Int) ≤ 4096) ∧ (((alwB xs act x (k2 : Int)) = true →
           (roomOk ((nextL xs act x k2).length + ([(k2 : Int)]).length) 8 ∧ (inI64 ((k2 : Int) + (1 : Int)) ∧ (∃ k3 : Nat, (k3 ≤ (atomsN gg).toNat ∧ ((atomsN gg).toNat - k3 < (atomsN gg).toNat - k2 ∧ ((xs = xs ∧ (act = act ∧ (x = x ∧ (True ∧ (True ∧ (True ∧ (((k2 : Int) + (1 : Int)) = (k3 : Int) ∧ True))))))) ∧ (((nextL xs act x k2) ++ ([(k2 : Int)])) = (nextL xs act x k3) ∧ ((gg.tests = gg.tests ∧ (gg.actions = gg.actions ∧ True)) ∧ True))))))))) ∧ ((alwB xs act x (k2 : Int)) = false →
           (inI64 ((k2 : Int) + (1 : Int)) ∧ (∃ k4 : Nat, (k4 ≤ (atomsN gg).toNat ∧ ((atomsN gg).toNat - k4 < (atomsN gg).toNat - k2 ∧ ((xs = xs ∧ (act = act ∧ (x = x ∧ (True ∧ (True ∧ (True ∧ (((k2 : Int) + (1 : Int)) = (k4 : Int) ∧ True))))))) ∧ ((nextL xs act x k2) = (nextL xs act x k4) ∧ ((gg.tests = gg.tests ∧ (gg.actions = gg.actions ∧ True)) ∧ True))))))))))) ∧ ((decide ((k2 : Int) < (atomsN gg))) = false →
         (nextL xs act x k2) = (nextA gg xs act x))))))))) := by kernel_rfl
set_option maxRecDepth 4000 in
set_option maxHeartbeats 1000000 in
theorem ok_spec_l07Next (hE : AllGood [k_spec_l01Atoms, k_spec_l07Allows]) : Ctr.Good k_spec_l07Next := by
  refine ⟨fnOk_of at_spec_l07Next rfl (by decide), ?_⟩
  show ∀ (gg : GSig) (xs : List GPremise) (act : Int) (x : Int), (premsOk gg xs = true ∧ anIn gg act x = true) → OkCall prog n_spec_l07Next [.val ⟨(.st .sig), gg⟩, .val ⟨(.slice (.st .premise)), xs⟩, .val ⟨(.int .i64), act⟩, .val ⟨(.int .i64), x⟩] (· = [⟨(.slice (.int .i64)), nextA gg xs act x⟩])
  intro gg xs act x hp
  refine ok_of_awp (wr := []) hE at_spec_l07Next body_spec_l07Next (l_spec_l07Next gg xs act x) ?_
  rewrite [vc_spec_l07Next gg xs act x]
  have f0 := sigOk_acts gg (premsOk_sig gg xs hp.1)
  have f1 := atomsN_le gg f0.1
  have f2 := premsOk_gd gg xs hp.1
  have f3 : ([] : List Int) = nextL xs act x 0 := rfl
  have f4 := hp.2
  simp only [anIn_eq, Bool.and_eq_true, decide_eq_true_eq] at f4
  refine ⟨⟨0, ⟨?_, ⟨⟨rfl, ⟨rfl, ⟨rfl, ⟨trivial, ⟨trivial, ⟨trivial, ⟨?_, trivial⟩⟩⟩⟩⟩⟩⟩, ⟨?_, ⟨⟨rfl, ⟨rfl, trivial⟩⟩, trivial⟩⟩⟩⟩⟩, fun k2 a0 => have b0x0 := nextL_t xs act x k2; have b0x1 := nextL_f xs act x k2; have b0x2 := nextL_len xs act x k2; have b0x3 := nextA_eq gg xs act x k2; ⟨?_, fun a1 => ⟨fun a2 => ⟨?_, ⟨fun a3 => ⟨?_, ⟨?_, ⟨k2 + 1, ⟨?_, ⟨?_, ⟨⟨rfl, ⟨rfl, ⟨rfl, ⟨trivial, ⟨trivial, ⟨trivial, ⟨?_, trivial⟩⟩⟩⟩⟩⟩⟩, ⟨?_, ⟨⟨rfl, ⟨rfl, trivial⟩⟩, trivial⟩⟩⟩⟩⟩⟩⟩⟩, fun a3 => ⟨?_, ⟨k2 + 1, ⟨?_, ⟨?_, ⟨⟨rfl, ⟨rfl, ⟨rfl, ⟨trivial, ⟨trivial, ⟨trivial, ⟨?_, trivial⟩⟩⟩⟩⟩⟩⟩, ⟨?_, ⟨⟨rfl, ⟨rfl, trivial⟩⟩, trivial⟩⟩⟩⟩⟩⟩⟩⟩⟩, fun a2 => ?_⟩⟩⟩
  all_goals try and_intros
  all_goals first | rfl | trivial | omega | (simp only [decide_eq_true_eq, decide_eq_false_iff_not, idxOk, inI64, inKind_u64, inKind_i64, u64_min, u64_max, roomOk, List.length_append, List.length_cons, List.length_nil] at *; omega) | grind

theorem good_spec_l07Next : Ctr.Good k_spec_l07Next := ok_spec_l07Next ⟨good_spec_l01Atoms, good_spec_l07Allows, trivial⟩

def k_spec_AllowedNext : Ctr := ⟨n_spec_AllowedNext, [.v (.st .sig), .v (.slice (.st .premise)), .v (.int .i64), .v (.int .i64)], fun (gg : GSig) (xs : List GPremise) (act : Int) (x : Int) => ⟨(none, [⟨(.slice (.int .i64)), anV gg xs act x⟩, ⟨(.int .i64), anC gg xs act x⟩])⟩⟩
def l_spec_AllowedNext (gg : GSig) (xs : List GPremise) (act : Int) (x : Int) : Nat → LoopInv := fun _ => .none
theorem vc_spec_AllowedNext (gg : GSig) (xs : List GPremise) (act : Int) (x : Int) : awp (envOf [k_spec_l07Premises, k_spec_l02Act, k_spec_l02Atom, k_spec_l07Next]) (bodyOf f_spec_AllowedNext) (l_spec_AllowedNext gg xs act x) 0 (funPost (envOf [k_spec_l07Premises, k_spec_l02Act, k_spec_l02Atom, k_spec_l07Next]) f_spec_AllowedNext fun r => areEq r [⟨(.slice (.int .i64)), anV gg xs act x⟩, ⟨(.int .i64), anC gg xs act x⟩]) (startState f_spec_AllowedNext [.val ⟨(.st .sig), gg⟩, .val ⟨(.slice (.st .premise)), xs⟩, .val ⟨(.int .i64), act⟩, .val ⟨(.int .i64), x⟩]) =
  ((((!(premsOk gg xs)) = true →
   ([] = (anV gg xs act x) ∧ (1 : Int) = (anC gg xs act x))) ∧ ((!(premsOk gg xs)) = false →
   (sigOk gg = true ∧ ((((!(decide (0 ≤ act ∧ act ≤ gg.actions - 1))) = false) →
     ((0 ≤ gg.tests ∧ gg.tests ≤ 3) ∧ ((((!(decide (0 ≤ x ∧ x ≤ atomsN gg - 1))) = true) →
       ([] = (anV gg xs act x) ∧ (2 : Int) = (anC gg xs act x))) ∧ (((!(decide (0 ≤ x ∧ x ≤ atomsN gg - 1))) = false) →
       ((premsOk gg xs = true ∧ anIn gg act x = true) ∧ ((nextA gg xs act x).length ≤ 140737488355328 →
         ((nextA gg xs act x) = (anV gg xs act x) ∧ (0 : Int) = (anC gg xs act x)))))))) ∧ (((!(decide (0 ≤ act ∧ act ≤ gg.actions - 1))) = (!false)) →
     ((true = true →
       ([] = (anV gg xs act x) ∧ (2 : Int) = (anC gg xs act x))) ∧ (true = false →
       ((premsOk gg xs = true ∧ anIn gg act x = true) ∧ ((nextA gg xs act x).length ≤ 140737488355328 →
         ((nextA gg xs act x) = (anV gg xs act x) ∧ (0 : Int) = (anC gg xs act x)))))))))))) := by kernel_rfl
set_option maxRecDepth 4000 in
set_option maxHeartbeats 1000000 in
theorem ok_spec_AllowedNext (hE : AllGood [k_spec_l07Premises, k_spec_l02Act, k_spec_l02Atom, k_spec_l07Next]) : Ctr.Good k_spec_AllowedNext := by
  refine ⟨fnOk_of at_spec_AllowedNext rfl (by decide), ?_⟩
  show ∀ (gg : GSig) (xs : List GPremise) (act : Int) (x : Int), True → OkCall prog n_spec_AllowedNext [.val ⟨(.st .sig), gg⟩, .val ⟨(.slice (.st .premise)), xs⟩, .val ⟨(.int .i64), act⟩, .val ⟨(.int .i64), x⟩] (· = [⟨(.slice (.int .i64)), anV gg xs act x⟩, ⟨(.int .i64), anC gg xs act x⟩])
  intro gg xs act x _
  refine ok_of_awp (wr := []) hE at_spec_AllowedNext body_spec_AllowedNext (l_spec_AllowedNext gg xs act x) ?_
  rewrite [vc_spec_AllowedNext gg xs act x]
  have f0 := premsOk_sig gg xs
  have f1 := sigOk_acts gg
  have f2 := anIn_eq gg act x
  refine ⟨fun a0 => ⟨?_, ?_⟩, fun a0 => ⟨?_, ⟨fun a1 => ⟨?_, ⟨fun a2 => ⟨?_, ?_⟩, fun a2 => ⟨?_, fun a3 => ⟨?_, ?_⟩⟩⟩⟩, fun a1 => ⟨fun a2 => ⟨?_, ?_⟩, fun a2 => ⟨?_, fun a3 => ⟨?_, ?_⟩⟩⟩⟩⟩⟩
  all_goals try and_intros
  all_goals first | rfl | trivial | grind [anV, anC]

theorem good_spec_AllowedNext : Ctr.Good k_spec_AllowedNext := ok_spec_AllowedNext ⟨good_spec_l07Premises, good_spec_l02Act, good_spec_l02Atom, good_spec_l07Next, trivial⟩

def ko_impl_AllowedNext : Ctr := ⟨n_impl_AllowedNext, [.v (.st .sig), .v (.slice (.st .premise)), .v (.int .i64), .v (.int .i64)], fun (gg : GSig) (xs : List GPremise) (act : Int) (x : Int) => ⟨(none, [⟨(.slice (.int .i64)), anV gg xs act x⟩, ⟨(.int .i64), anC gg xs act x⟩])⟩⟩
def lo_impl_AllowedNext (gg : GSig) (xs : List GPremise) (act : Int) (x : Int) : Nat → LoopInv := (fun zb => if Nat.beq zb 0 then .mk (Nat) (fun k => k ≤ (atomsN gg).toNat ∧ premsOk gg xs = true ∧ anIn gg act x = true) (fun k => (atomsN gg).toNat - k) [] [0, 4, 5, 6, 7, 12, 13, 14, 15, 16, 17, 18, 19, 20, 21, 22, 23, 24, 25, 26, 27, 28, 29] (fun k => [(31, .imm ⟨(.int .i64), ((k : Int) : Int)⟩), (10, .row 28)]) [1, 2, 3, 8, 9, 10, 11, 30, 31, 32, 33, 34, 35, 36, 37, 38, 39, 40, 41, 42, 43, 44] (fun k => [(28, .row T_int64 (.int .i64) (nextL xs act x k : List Int))]) [] [] (fun k => fun _ => .none) else .none)
theorem vco_impl_AllowedNext (gg : GSig) (xs : List GPremise) (act : Int) (x : Int) : awp (envO [k_impl_ValidPremises, k_impl_within, k_impl_isAtom, k_impl_atomsIn, k_impl_allows] [] [] [] []) (bodyOf f_impl_AllowedNext) (lo_impl_AllowedNext gg xs act x) 0 (ownPost (envO [k_impl_ValidPremises, k_impl_within, k_impl_isAtom, k_impl_atomsIn, k_impl_allows] [] [] [] []) f_impl_AllowedNext fun r => areEq r [⟨(.slice (.int .i64)), anV gg xs act x⟩, ⟨(.int .i64), anC gg xs act x⟩]) (startState f_impl_AllowedNext [.val ⟨(.st .sig), gg⟩, .val ⟨(.slice (.st .premise)), xs⟩, .val ⟨(.int .i64), act⟩, .val ⟨(.int .i64), x⟩]) =
  ((((!(premsOk gg xs)) = true →
   ([] = (anV gg xs act x) ∧ (1 : Int) = (anC gg xs act x))) ∧ ((!(premsOk gg xs)) = false →
   (inI64 gg.actions →
     (inI64 (gg.actions - (1 : Int)) ∧ ((((!(decide ((0 : Int) ≤ act ∧ act ≤ (gg.actions - (1 : Int))))) = false) →
       ((0 ≤ gg.tests ∧ gg.tests ≤ 3) ∧ ((((!(decide (0 ≤ x ∧ x ≤ atomsN gg - 1))) = true) →
         ([] = (anV gg xs act x) ∧ (2 : Int) = (anC gg xs act x))) ∧ (((!(decide (0 ≤ x ∧ x ≤ atomsN gg - 1))) = false) →
         ((0 ≤ gg.tests ∧ gg.tests ≤ 3) ∧ (inI64 (atomsN gg) →
           ((∃ k1 : Nat, ((k1 ≤ (atomsN gg).toNat ∧ premsOk gg xs = true ∧ anIn gg act x = true) ∧ ((xs = xs ∧ (act = act ∧ (x = x ∧ (True ∧ ((0 : Int) = (0 : Int) ∧ (True ∧ ((atomsN gg) = (atomsN gg) ∧ ((0 : Int) = (k1 : Int) ∧ True)))))))) ∧ ([] = (nextL xs act x k1) ∧ True)))) ∧ (∀ k2 : Nat, ((k2 ≤ (atomsN gg).toNat ∧ premsOk gg xs = true ∧ anIn gg act x = true) →
               (((decide ((k2 : Int) < (atomsN gg))) = true →
                 ((allL gdP xs = true ∧ 0 ≤ x ∧ x ≤ 4096 ∧ 0 ≤ (k2 : Int) ∧ (k2 : Int) ≤ 4096) ∧ (((alwB xs act x (k2 : Int)) = true →
                   (roomOk ((nextL xs act x k2).length + ([(k2 : Int)]).length) 8 ∧ (inI64 ((k2 : Int) + (1 : Int)) ∧ (∃ k3 : Nat, ((k3 ≤ (atomsN gg).toNat ∧ premsOk gg xs = true ∧ anIn gg act x = true) ∧ ((atomsN gg).toNat - k3 < (atomsN gg).toNat - k2 ∧ ((xs = xs ∧ (act = act ∧ (x = x ∧ (True ∧ ((0 : Int) = (0 : Int) ∧ (True ∧ ((atomsN gg) = (atomsN gg) ∧ (((k2 : Int) + (1 : Int)) = (k3 : Int) ∧ True)))))))) ∧ (((nextL xs act x k2) ++ ([(k2 : Int)])) = (nextL xs act x k3) ∧ True)))))))) ∧ ((alwB xs act x (k2 : Int)) = false →
                   (inI64 ((k2 : Int) + (1 : Int)) ∧ (∃ k4 : Nat, ((k4 ≤ (atomsN gg).toNat ∧ premsOk gg xs = true ∧ anIn gg act x = true) ∧ ((atomsN gg).toNat - k4 < (atomsN gg).toNat - k2 ∧ ((xs = xs ∧ (act = act ∧ (x = x ∧ (True ∧ ((0 : Int) = (0 : Int) ∧ (True ∧ ((atomsN gg) = (atomsN gg) ∧ (((k2 : Int) + (1 : Int)) = (k4 : Int) ∧ True)))))))) ∧ ((nextL xs act x k2) = (nextL xs act x k4) ∧ True)))))))))) ∧ ((decide ((k2 : Int) < (atomsN gg))) = false →
                 ((nextL xs act x k2) = (anV gg xs act x) ∧ (0 : Int) = (anC gg xs act x))))))))))))) ∧ (((!(decide ((0 : Int) ≤ act ∧ act ≤ (gg.actions - (1 : Int))))) = (!false)) →
       ((true = true →
         ([] = (anV gg xs act x) ∧ (2 : Int) = (anC gg xs act x))) ∧ (true = false →
         ((0 ≤ gg.tests ∧ gg.tests ≤ 3) ∧ (inI64 (atomsN gg) →
           ((∃ k5 : Nat, ((k5 ≤ (atomsN gg).toNat ∧ premsOk gg xs = true ∧ anIn gg act x = true) ∧ ((xs = xs ∧ (act = act ∧ (x = x ∧ (True ∧ ((0 : Int) = (0 : Int) ∧ (True ∧ ((atomsN gg) = (atomsN gg) ∧ ((0 : Int) = (k5 : Int) ∧ True)))))))) ∧ ([] = (nextL xs act x k5) ∧ True)))) ∧ (∀ k6 : Nat, ((k6 ≤ (atomsN gg).toNat ∧ premsOk gg xs = true ∧ anIn gg act x = true) →
               (((decide ((k6 : Int) < (atomsN gg))) = true →
                 ((allL gdP xs = true ∧ 0 ≤ x ∧ x ≤ 4096 ∧ 0 ≤ (k6 : Int) ∧ (k6 : Int) ≤ 4096) ∧ (((alwB xs act x (k6 : Int)) = true →
                   (roomOk ((nextL xs act x k6).length + ([(k6 : Int)]).length) 8 ∧ (inI64 ((k6 : Int) + (1 : Int)) ∧ (∃ k7 : Nat, ((k7 ≤ (atomsN gg).toNat ∧ premsOk gg xs = true ∧ anIn gg act x = true) ∧ ((atomsN gg).toNat - k7 < (atomsN gg).toNat - k6 ∧ ((xs = xs ∧ (act = act ∧ (x = x ∧ (True ∧ ((0 : Int) = (0 : Int) ∧ (True ∧ ((atomsN gg) = (atomsN gg) ∧ (((k6 : Int) + (1 : Int)) = (k7 : Int) ∧ True)))))))) ∧ (((nextL xs act x k6) ++ ([(k6 : Int)])) = (nextL xs act x k7) ∧ True)))))))) ∧ ((alwB xs act x (k6 : Int)) = false →
                   (inI64 ((k6 : Int) + (1 : Int)) ∧ (∃ k8 : Nat, ((k8 ≤ (atomsN gg).toNat ∧ premsOk gg xs = true ∧ anIn gg act x = true) ∧ ((atomsN gg).toNat - k8 < (atomsN gg).toNat - k6 ∧ ((xs = xs ∧ (act = act ∧ (x = x ∧ (True ∧ ((0 : Int) = (0 : Int) ∧ (True ∧ ((atomsN gg) = (atomsN gg) ∧ (((k6 : Int) + (1 : Int)) = (k8 : Int) ∧ True)))))))) ∧ ((nextL xs act x k6) = (nextL xs act x k8) ∧ True)))))))))) ∧ ((decide ((k6 : Int) < (atomsN gg))) = false →
                 ((nextL xs act x k6) = (anV gg xs act x) ∧ (0 : Int) = (anC gg xs act x)))))))))))))))))) := by kernel_rfl
set_option maxRecDepth 4000 in
set_option maxHeartbeats 1000000 in
theorem oko_impl_AllowedNext (hE : AllGood [k_impl_ValidPremises, k_impl_within, k_impl_isAtom, k_impl_atomsIn, k_impl_allows]) (hO : AllO []) (hM : AllM []) : Ctr.OGood ko_impl_AllowedNext := by
  refine ⟨fnOk_of at_impl_AllowedNext rfl (by decide), ?_⟩
  show ∀ (gg : GSig) (xs : List GPremise) (act : Int) (x : Int), True → OkOwn prog n_impl_AllowedNext [.val ⟨(.st .sig), gg⟩, .val ⟨(.slice (.st .premise)), xs⟩, .val ⟨(.int .i64), act⟩, .val ⟨(.int .i64), x⟩] [⟨(.slice (.int .i64)), anV gg xs act x⟩, ⟨(.int .i64), anC gg xs act x⟩]
  intro gg xs act x _
  refine own_of_awp (own := []) (wr := []) hE hO hM at_impl_AllowedNext body_impl_AllowedNext (lo_impl_AllowedNext gg xs act x) ?_
  rewrite [vco_impl_AllowedNext gg xs act x]
  have f0 := premsOk_sig gg xs
  have f1 := sigOk_acts gg
  have f2 := anIn_eq gg act x
  have f3 : ([] : List Int) = nextL xs act x 0 := rfl
  have f5 := atomsN_le gg
  refine ⟨fun a0 => ⟨?_, ?_⟩, fun a0 => fun a1 => ⟨?_, ⟨fun a2 => ⟨?_, ⟨fun a3 => ⟨?_, ?_⟩, fun a3 => ⟨?_, fun a4 => ⟨⟨0, ⟨?_, ⟨⟨rfl, ⟨rfl, ⟨rfl, ⟨trivial, ⟨rfl, ⟨trivial, ⟨rfl, ⟨?_, trivial⟩⟩⟩⟩⟩⟩⟩⟩, ⟨?_, trivial⟩⟩⟩⟩, fun k2 a5 => have b5x0 := nextL_t xs act x k2; have b5x1 := nextL_f xs act x k2; have b5x2 := nextL_len xs act x k2; have b5x3 := nextA_eq gg xs act x k2; have b5x4 := sigOk_acts gg; have b5x5 := premsOk_sig gg xs; have b5x6 := atomsN_le gg; have b5x7 := premsOk_gd gg xs; ⟨fun a6 => ⟨?_, ⟨fun a7 => ⟨?_, ⟨?_, ⟨k2 + 1, ⟨?_, ⟨?_, ⟨⟨rfl, ⟨rfl, ⟨rfl, ⟨trivial, ⟨rfl, ⟨trivial, ⟨rfl, ⟨?_, trivial⟩⟩⟩⟩⟩⟩⟩⟩, ⟨?_, trivial⟩⟩⟩⟩⟩⟩⟩, fun a7 => ⟨?_, ⟨k2 + 1, ⟨?_, ⟨?_, ⟨⟨rfl, ⟨rfl, ⟨rfl, ⟨trivial, ⟨rfl, ⟨trivial, ⟨rfl, ⟨?_, trivial⟩⟩⟩⟩⟩⟩⟩⟩, ⟨?_, trivial⟩⟩⟩⟩⟩⟩⟩⟩, fun a6 => ⟨?_, ?_⟩⟩⟩⟩⟩⟩, fun a2 => ⟨fun a3 => ⟨?_, ?_⟩, fun a3 => ⟨?_, fun a4 => ⟨⟨0, ⟨?_, ⟨⟨rfl, ⟨rfl, ⟨rfl, ⟨trivial, ⟨rfl, ⟨trivial, ⟨rfl, ⟨?_, trivial⟩⟩⟩⟩⟩⟩⟩⟩, ⟨?_, trivial⟩⟩⟩⟩, fun k6 a5 => have b5x0 := nextL_t xs act x k6; have b5x1 := nextL_f xs act x k6; have b5x2 := nextL_len xs act x k6; have b5x3 := nextA_eq gg xs act x k6; have b5x4 := sigOk_acts gg; have b5x5 := premsOk_sig gg xs; have b5x6 := atomsN_le gg; have b5x7 := premsOk_gd gg xs; ⟨fun a6 => ⟨?_, ⟨fun a7 => ⟨?_, ⟨?_, ⟨k6 + 1, ⟨?_, ⟨?_, ⟨⟨rfl, ⟨rfl, ⟨rfl, ⟨trivial, ⟨rfl, ⟨trivial, ⟨rfl, ⟨?_, trivial⟩⟩⟩⟩⟩⟩⟩⟩, ⟨?_, trivial⟩⟩⟩⟩⟩⟩⟩, fun a7 => ⟨?_, ⟨k6 + 1, ⟨?_, ⟨?_, ⟨⟨rfl, ⟨rfl, ⟨rfl, ⟨trivial, ⟨rfl, ⟨trivial, ⟨rfl, ⟨?_, trivial⟩⟩⟩⟩⟩⟩⟩⟩, ⟨?_, trivial⟩⟩⟩⟩⟩⟩⟩⟩, fun a6 => ⟨?_, ?_⟩⟩⟩⟩⟩⟩⟩⟩
  all_goals try and_intros
  all_goals first | rfl | trivial | omega | (simp only [decide_eq_true_eq, decide_eq_false_iff_not, idxOk, inI64, inKind_u64, inKind_i64, u64_min, u64_max, roomOk, List.length_append, List.length_cons, List.length_nil] at *; omega) | grind | grind [anV, anC, inI64, roomOk, idxOk]

theorem ogood_impl_AllowedNext : Ctr.OGood ko_impl_AllowedNext := oko_impl_AllowedNext ⟨good_impl_ValidPremises, good_impl_within, good_impl_isAtom, good_impl_atomsIn, good_impl_allows, trivial⟩ trivial trivial

theorem heldI_mk (k : Int) (xs : List Int) : heldI k (mkInts k xs) = k + (xs.length : Int) := by
  simp [heldI, okInts_mk, mkInts_length]
mutual
theorem cntX_sz : ∀ x : GExpr, cntX x = 2 + 2 * sz_expr x
  | ⟨k, n, ks⟩ => by
    have := cntXs_sz ks
    simp only [cntX, sz_expr, this, szs_expr_eq]
theorem cntXs_sz : ∀ xs : List GExpr, cntXs xs = 2 * (xs.length + szL sz_expr xs)
  | [] => by simp [cntXs, szL]
  | x :: xs => by
    have h1 := cntX_sz x
    have h2 := cntXs_sz xs
    simp only [cntXs, szL, List.length_cons, h1, h2]; omega
end
theorem cnt_sz (x : GExpr) : szL cntX x.kids = 2 * sz_expr x := by
  have := cntXs_sz x.kids
  rw [cntXs_eq] at this
  rw [this, sz_expr_eq]
theorem cntP_sz : ∀ xs : List GPremise, szL cnt_premise xs ≤ 5 * (xs.length + szL sz_premise xs)
  | [] => by simp [szL]
  | x :: xs => by
    have h1 := cntP_sz xs
    have h2 := cnt_premise_eq x
    have h3 := sz_premise_eq x
    rw [cnt_sz, cnt_sz] at h2
    simp only [szL, List.length_cons]; omega

def k_laws_FnExactAllowedNext : Ctr := ⟨n_laws_FnExactAllowedNext, [.v (.st .sig), .v (.slice (.st .premise)), .v (.int .i64), .v (.int .i64)], fun (gg : GSig) (xs : List GPremise) (act : Int) (x : Int) => ⟨(none, [⟨.bool, true⟩])⟩⟩
def l_laws_FnExactAllowedNext (gg : GSig) (xs : List GPremise) (act : Int) (x : Int) : Nat → LoopInv := fun _ => .none
theorem vc_laws_FnExactAllowedNext (gg : GSig) (xs : List GPremise) (act : Int) (x : Int) : awp (envO [k_laws_szPremiseS, k_laws_toPremiseS, k_laws_toSig, k_spec_AllowedNext, k_laws_eqInt64S, k_laws_eqPremiseS, k_laws_heldInt64S] [ko_laws_toPremiseS, ko_impl_AllowedNext] [mk_laws_markPremiseS, mk_laws_markInt64S] [36, 43, 62, 78, 94] []) (bodyOf f_laws_FnExactAllowedNext) (l_laws_FnExactAllowedNext gg xs act x) 0 (funPost (envO [k_laws_szPremiseS, k_laws_toPremiseS, k_laws_toSig, k_spec_AllowedNext, k_laws_eqInt64S, k_laws_eqPremiseS, k_laws_heldInt64S] [ko_laws_toPremiseS, ko_impl_AllowedNext] [mk_laws_markPremiseS, mk_laws_markInt64S] [36, 43, 62, 78, 94] []) f_laws_FnExactAllowedNext fun r => areEq r [⟨.bool, true⟩]) (startState f_laws_FnExactAllowedNext [.val ⟨(.st .sig), gg⟩, .val ⟨(.slice (.st .premise)), xs⟩, .val ⟨(.int .i64), act⟩, .val ⟨(.int .i64), x⟩]) =
  (((0 ≤ (1048576 : Int) ∧ (1048576 : Int) ≤ 1048576) ∧ (inI64 (szR (xs.length + szL sz_premise xs) (1048576 : Int)) →
   (((decide ((szR (xs.length + szL sz_premise xs) (1048576 : Int)) < (0 : Int))) = true →
     true = true) ∧ ((decide ((szR (xs.length + szL sz_premise xs) (1048576 : Int)) < (0 : Int))) = false →
     (xs.length + szL sz_premise xs ≤ 1048576 ∧ (xs.length ≤ 140737488355328 →
       ((anV gg xs act x).length ≤ 140737488355328 →
         (inI64 (anC gg xs act x) →
           (xs.length + szL sz_premise xs ≤ 1048576 ∧ (inI64 (anC gg xs act x) →
             (((!(eqB (anV gg xs act x) (anV gg xs act x))) = false →
               (((!(decide ((anC gg xs act x) = (anC gg xs act x)))) = true →
                 false = true) ∧ ((!(decide ((anC gg xs act x) = (anC gg xs act x)))) = false →
                 (xs.length + szL sz_premise xs ≤ 1048576 ∧ (xs.length ≤ 140737488355328 →
                   (((!(eqB xs xs)) = true →
                     false = true) ∧ ((!(eqB xs xs)) = false →
                     ((0 ≤ (1 : Int) ∧ (1 : Int) + (szL cnt_premise xs : Int) ≤ 4611686018427387904) ∧ (((decide (((1 : Int) + (szL cnt_premise xs : Int)) < (0 : Int))) = false →
                       (((!(eqB (anV gg xs act x) (anV gg xs act x))) = false →
                         (((!(decide ((anC gg xs act x) = (anC gg xs act x)))) = true →
                           false = true) ∧ ((!(decide ((anC gg xs act x) = (anC gg xs act x)))) = false →
                           ((0 ≤ (1 : Int) ∧ (1 : Int) + ((anV gg xs act x).length : Int) ≤ 4611686018427387904) ∧ ((0 ≤ (1 : Int) ∧ (1 : Int) + ((mkInts (1 : Int) (anV gg xs act x)).length : Int) ≤ 4611686018427387904) ∧ (inI64 (heldI (1 : Int) (mkInts (1 : Int) (anV gg xs act x))) →
                             (((decide ((heldI (1 : Int) (mkInts (1 : Int) (anV gg xs act x))) < (0 : Int))) = true →
                               false = true) ∧ ((decide ((heldI (1 : Int) (mkInts (1 : Int) (anV gg xs act x))) < (0 : Int))) = false →
                               (((!(decide ((heldI (1 : Int) (mkInts (1 : Int) (anV gg xs act x))) = ((1 : Int) + ((anV gg xs act x).length : Int))))) = true →
                                 false = true) ∧ ((!(decide ((heldI (1 : Int) (mkInts (1 : Int) (anV gg xs act x))) = ((1 : Int) + ((anV gg xs act x).length : Int))))) = false →
                                 (xs.length + szL sz_premise xs ≤ 1048576 ∧ (xs.length ≤ 140737488355328 →
                                   (inI64 (anC gg xs act x) →
                                     (((!(eqB (anV gg xs act x) (anV gg xs act x))) = false →
                                       (((!(decide ((anC gg xs act x) = (anC gg xs act x)))) = true →
                                         false = true) ∧ ((!(decide ((anC gg xs act x) = (anC gg xs act x)))) = false →
                                         ((0 ≤ (1 : Int) ∧ (1 : Int) + ((mkInts (1 : Int) (anV gg xs act x)).length : Int) ≤ 4611686018427387904) ∧ (inI64 (heldI (1 : Int) (mkInts (1 : Int) (anV gg xs act x))) →
                                           (((decide ((heldI (1 : Int) (mkInts (1 : Int) (anV gg xs act x))) < (0 : Int))) = true →
                                             false = true) ∧ ((decide ((heldI (1 : Int) (mkInts (1 : Int) (anV gg xs act x))) < (0 : Int))) = false →
                                             (((!(decide ((heldI (1 : Int) (mkInts (1 : Int) (anV gg xs act x))) = ((1 : Int) + ((anV gg xs act x).length : Int))))) = true →
                                               false = true) ∧ ((!(decide ((heldI (1 : Int) (mkInts (1 : Int) (anV gg xs act x))) = ((1 : Int) + ((anV gg xs act x).length : Int))))) = false →
                                               true = true))))))))) ∧ ((!(eqB (anV gg xs act x) (anV gg xs act x))) = (!false) →
                                       ((true = true →
                                         false = true) ∧ (true = false →
                                         ((0 ≤ (1 : Int) ∧ (1 : Int) + ((mkInts (1 : Int) (anV gg xs act x)).length : Int) ≤ 4611686018427387904) ∧ (inI64 (heldI (1 : Int) (mkInts (1 : Int) (anV gg xs act x))) →
                                           (((decide ((heldI (1 : Int) (mkInts (1 : Int) (anV gg xs act x))) < (0 : Int))) = true →
                                             false = true) ∧ ((decide ((heldI (1 : Int) (mkInts (1 : Int) (anV gg xs act x))) < (0 : Int))) = false →
                                             (((!(decide ((heldI (1 : Int) (mkInts (1 : Int) (anV gg xs act x))) = ((1 : Int) + ((anV gg xs act x).length : Int))))) = true →
                                               false = true) ∧ ((!(decide ((heldI (1 : Int) (mkInts (1 : Int) (anV gg xs act x))) = ((1 : Int) + ((anV gg xs act x).length : Int))))) = false →
                                               true = true))))))))))))))))))))))) ∧ ((!(eqB (anV gg xs act x) (anV gg xs act x))) = (!false) →
                         ((true = true →
                           false = true) ∧ (true = false →
                           ((0 ≤ (1 : Int) ∧ (1 : Int) + ((anV gg xs act x).length : Int) ≤ 4611686018427387904) ∧ ((0 ≤ (1 : Int) ∧ (1 : Int) + ((mkInts (1 : Int) (anV gg xs act x)).length : Int) ≤ 4611686018427387904) ∧ (inI64 (heldI (1 : Int) (mkInts (1 : Int) (anV gg xs act x))) →
                             (((decide ((heldI (1 : Int) (mkInts (1 : Int) (anV gg xs act x))) < (0 : Int))) = true →
                               false = true) ∧ ((decide ((heldI (1 : Int) (mkInts (1 : Int) (anV gg xs act x))) < (0 : Int))) = false →
                               (((!(decide ((heldI (1 : Int) (mkInts (1 : Int) (anV gg xs act x))) = ((1 : Int) + ((anV gg xs act x).length : Int))))) = true →
                                 false = true) ∧ ((!(decide ((heldI (1 : Int) (mkInts (1 : Int) (anV gg xs act x))) = ((1 : Int) + ((anV gg xs act x).length : Int))))) = false →
                                 (xs.length + szL sz_premise xs ≤ 1048576 ∧ (xs.length ≤ 140737488355328 →
                                   (inI64 (anC gg xs act x) →
                                     (((!(eqB (anV gg xs act x) (anV gg xs act x))) = false →
                                       (((!(decide ((anC gg xs act x) = (anC gg xs act x)))) = true →
                                         false = true) ∧ ((!(decide ((anC gg xs act x) = (anC gg xs act x)))) = false →
                                         ((0 ≤ (1 : Int) ∧ (1 : Int) + ((mkInts (1 : Int) (anV gg xs act x)).length : Int) ≤ 4611686018427387904) ∧ (inI64 (heldI (1 : Int) (mkInts (1 : Int) (anV gg xs act x))) →
                                           (((decide ((heldI (1 : Int) (mkInts (1 : Int) (anV gg xs act x))) < (0 : Int))) = true →
                                             false = true) ∧ ((decide ((heldI (1 : Int) (mkInts (1 : Int) (anV gg xs act x))) < (0 : Int))) = false →
                                             (((!(decide ((heldI (1 : Int) (mkInts (1 : Int) (anV gg xs act x))) = ((1 : Int) + ((anV gg xs act x).length : Int))))) = true →
                                               false = true) ∧ ((!(decide ((heldI (1 : Int) (mkInts (1 : Int) (anV gg xs act x))) = ((1 : Int) + ((anV gg xs act x).length : Int))))) = false →
                                               true = true))))))))) ∧ ((!(eqB (anV gg xs act x) (anV gg xs act x))) = (!false) →
                                       ((true = true →
                                         false = true) ∧ (true = false →
                                         ((0 ≤ (1 : Int) ∧ (1 : Int) + ((mkInts (1 : Int) (anV gg xs act x)).length : Int) ≤ 4611686018427387904) ∧ (inI64 (heldI (1 : Int) (mkInts (1 : Int) (anV gg xs act x))) →
                                           (((decide ((heldI (1 : Int) (mkInts (1 : Int) (anV gg xs act x))) < (0 : Int))) = true →
                                             false = true) ∧ ((decide ((heldI (1 : Int) (mkInts (1 : Int) (anV gg xs act x))) < (0 : Int))) = false →
                                             (((!(decide ((heldI (1 : Int) (mkInts (1 : Int) (anV gg xs act x))) = ((1 : Int) + ((anV gg xs act x).length : Int))))) = true →
                                               false = true) ∧ ((!(decide ((heldI (1 : Int) (mkInts (1 : Int) (anV gg xs act x))) = ((1 : Int) + ((anV gg xs act x).length : Int))))) = false →
                                               true = true))))))))))))))))))))))))) ∧ ((decide (((1 : Int) + (szL cnt_premise xs : Int)) < (0 : Int))) = (!false) →
                       ((true = false →
                         (((!(decide ((anC gg xs act x) = (anC gg xs act x)))) = true →
                           false = true) ∧ ((!(decide ((anC gg xs act x) = (anC gg xs act x)))) = false →
                           ((0 ≤ (1 : Int) ∧ (1 : Int) + ((anV gg xs act x).length : Int) ≤ 4611686018427387904) ∧ ((0 ≤ (1 : Int) ∧ (1 : Int) + ((mkInts (1 : Int) (anV gg xs act x)).length : Int) ≤ 4611686018427387904) ∧ (inI64 (heldI (1 : Int) (mkInts (1 : Int) (anV gg xs act x))) →
                             (((decide ((heldI (1 : Int) (mkInts (1 : Int) (anV gg xs act x))) < (0 : Int))) = true →
                               false = true) ∧ ((decide ((heldI (1 : Int) (mkInts (1 : Int) (anV gg xs act x))) < (0 : Int))) = false →
                               (((!(decide ((heldI (1 : Int) (mkInts (1 : Int) (anV gg xs act x))) = ((1 : Int) + ((anV gg xs act x).length : Int))))) = true →
                                 false = true) ∧ ((!(decide ((heldI (1 : Int) (mkInts (1 : Int) (anV gg xs act x))) = ((1 : Int) + ((anV gg xs act x).length : Int))))) = false →
                                 (xs.length + szL sz_premise xs ≤ 1048576 ∧ (xs.length ≤ 140737488355328 →
                                   (inI64 (anC gg xs act x) →
                                     (((!(eqB (anV gg xs act x) (anV gg xs act x))) = false →
                                       (((!(decide ((anC gg xs act x) = (anC gg xs act x)))) = true →
                                         false = true) ∧ ((!(decide ((anC gg xs act x) = (anC gg xs act x)))) = false →
                                         ((0 ≤ (1 : Int) ∧ (1 : Int) + ((mkInts (1 : Int) (anV gg xs act x)).length : Int) ≤ 4611686018427387904) ∧ (inI64 (heldI (1 : Int) (mkInts (1 : Int) (anV gg xs act x))) →
                                           (((decide ((heldI (1 : Int) (mkInts (1 : Int) (anV gg xs act x))) < (0 : Int))) = true →
                                             false = true) ∧ ((decide ((heldI (1 : Int) (mkInts (1 : Int) (anV gg xs act x))) < (0 : Int))) = false →
                                             (((!(decide ((heldI (1 : Int) (mkInts (1 : Int) (anV gg xs act x))) = ((1 : Int) + ((anV gg xs act x).length : Int))))) = true →
                                               false = true) ∧ ((!(decide ((heldI (1 : Int) (mkInts (1 : Int) (anV gg xs act x))) = ((1 : Int) + ((anV gg xs act x).length : Int))))) = false →
                                               true = true))))))))) ∧ ((!(eqB (anV gg xs act x) (anV gg xs act x))) = (!false) →
                                       ((true = true →
                                         false = true) ∧ (true = false →
                                         ((0 ≤ (1 : Int) ∧ (1 : Int) + ((mkInts (1 : Int) (anV gg xs act x)).length : Int) ≤ 4611686018427387904) ∧ (inI64 (heldI (1 : Int) (mkInts (1 : Int) (anV gg xs act x))) →
                                           (((decide ((heldI (1 : Int) (mkInts (1 : Int) (anV gg xs act x))) < (0 : Int))) = true →
                                             false = true) ∧ ((decide ((heldI (1 : Int) (mkInts (1 : Int) (anV gg xs act x))) < (0 : Int))) = false →
                                             (((!(decide ((heldI (1 : Int) (mkInts (1 : Int) (anV gg xs act x))) = ((1 : Int) + ((anV gg xs act x).length : Int))))) = true →
                                               false = true) ∧ ((!(decide ((heldI (1 : Int) (mkInts (1 : Int) (anV gg xs act x))) = ((1 : Int) + ((anV gg xs act x).length : Int))))) = false →
                                               true = true))))))))))))))))))))))) ∧ (true = (!false) →
                         ((true = true →
                           false = true) ∧ (true = false →
                           ((0 ≤ (1 : Int) ∧ (1 : Int) + ((anV gg xs act x).length : Int) ≤ 4611686018427387904) ∧ ((0 ≤ (1 : Int) ∧ (1 : Int) + ((mkInts (1 : Int) (anV gg xs act x)).length : Int) ≤ 4611686018427387904) ∧ (inI64 (heldI (1 : Int) (mkInts (1 : Int) (anV gg xs act x))) →
                             (((decide ((heldI (1 : Int) (mkInts (1 : Int) (anV gg xs act x))) < (0 : Int))) = true →
                               false = true) ∧ ((decide ((heldI (1 : Int) (mkInts (1 : Int) (anV gg xs act x))) < (0 : Int))) = false →
                               (((!(decide ((heldI (1 : Int) (mkInts (1 : Int) (anV gg xs act x))) = ((1 : Int) + ((anV gg xs act x).length : Int))))) = true →
                                 false = true) ∧ ((!(decide ((heldI (1 : Int) (mkInts (1 : Int) (anV gg xs act x))) = ((1 : Int) + ((anV gg xs act x).length : Int))))) = false →
                                 (xs.length + szL sz_premise xs ≤ 1048576 ∧ (xs.length ≤ 140737488355328 →
                                   (inI64 (anC gg xs act x) →
                                     (((!(eqB (anV gg xs act x) (anV gg xs act x))) = false →
                                       (((!(decide ((anC gg xs act x) = (anC gg xs act x)))) = true →
                                         false = true) ∧ ((!(decide ((anC gg xs act x) = (anC gg xs act x)))) = false →
                                         ((0 ≤ (1 : Int) ∧ (1 : Int) + ((mkInts (1 : Int) (anV gg xs act x)).length : Int) ≤ 4611686018427387904) ∧ (inI64 (heldI (1 : Int) (mkInts (1 : Int) (anV gg xs act x))) →
                                           (((decide ((heldI (1 : Int) (mkInts (1 : Int) (anV gg xs act x))) < (0 : Int))) = true →
                                             false = true) ∧ ((decide ((heldI (1 : Int) (mkInts (1 : Int) (anV gg xs act x))) < (0 : Int))) = false →
                                             (((!(decide ((heldI (1 : Int) (mkInts (1 : Int) (anV gg xs act x))) = ((1 : Int) + ((anV gg xs act x).length : Int))))) = true →
                                               false = true) ∧ ((!(decide ((heldI (1 : Int) (mkInts (1 : Int) (anV gg xs act x))) = ((1 : Int) + ((anV gg xs act x).length : Int))))) = false →
                                               true = true))))))))) ∧ ((!(eqB (anV gg xs act x) (anV gg xs act x))) = (!false) →
                                       ((true = true →
                                         false = true) ∧ (true = false →
                                         ((0 ≤ (1 : Int) ∧ (1 : Int) + ((mkInts (1 : Int) (anV gg xs act x)).length : Int) ≤ 4611686018427387904) ∧ (inI64 (heldI (1 : Int) (mkInts (1 : Int) (anV gg xs act x))) →
                                           (((decide ((heldI (1 : Int) (mkInts (1 : Int) (anV gg xs act x))) < (0 : Int))) = true →
                                             false = true) ∧ ((decide ((heldI (1 : Int) (mkInts (1 : Int) (anV gg xs act x))) < (0 : Int))) = false →
                                             (((!(decide ((heldI (1 : Int) (mkInts (1 : Int) (anV gg xs act x))) = ((1 : Int) + ((anV gg xs act x).length : Int))))) = true →
                                               false = true) ∧ ((!(decide ((heldI (1 : Int) (mkInts (1 : Int) (anV gg xs act x))) = ((1 : Int) + ((anV gg xs act x).length : Int))))) = false →
                                               true = true)))))))))))))))))))))))))))))))))) ∧ ((!(eqB (anV gg xs act x) (anV gg xs act x))) = (!false) →
               ((true = true →
                 false = true) ∧ (true = false →
                 (xs.length + szL sz_premise xs ≤ 1048576 ∧ (xs.length ≤ 140737488355328 →
                   (((!(eqB xs xs)) = true →
                     false = true) ∧ ((!(eqB xs xs)) = false →
                     ((0 ≤ (1 : Int) ∧ (1 : Int) + (szL cnt_premise xs : Int) ≤ 4611686018427387904) ∧ (((decide (((1 : Int) + (szL cnt_premise xs : Int)) < (0 : Int))) = false →
                       (((!(eqB (anV gg xs act x) (anV gg xs act x))) = false →
                         (((!(decide ((anC gg xs act x) = (anC gg xs act x)))) = true →
                           false = true) ∧ ((!(decide ((anC gg xs act x) = (anC gg xs act x)))) = false →
                           ((0 ≤ (1 : Int) ∧ (1 : Int) + ((anV gg xs act x).length : Int) ≤ 4611686018427387904) ∧ ((0 ≤ (1 : Int) ∧ (1 : Int) + ((mkInts (1 : Int) (anV gg xs act x)).length : Int) ≤ 4611686018427387904) ∧ (inI64 (heldI (1 : Int) (mkInts (1 : Int) (anV gg xs act x))) →
                             (((decide ((heldI (1 : Int) (mkInts (1 : Int) (anV gg xs act x))) < (0 : Int))) = true →
                               false = true) ∧ ((decide ((heldI (1 : Int) (mkInts (1 : Int) (anV gg xs act x))) < (0 : Int))) = false →
                               (((!(decide ((heldI (1 : Int) (mkInts (1 : Int) (anV gg xs act x))) = ((1 : Int) + ((anV gg xs act x).length : Int))))) = true →
                                 false = true) ∧ ((!(decide ((heldI (1 : Int) (mkInts (1 : Int) (anV gg xs act x))) = ((1 : Int) + ((anV gg xs act x).length : Int))))) = false →
                                 (xs.length + szL sz_premise xs ≤ 1048576 ∧ (xs.length ≤ 140737488355328 →
                                   (inI64 (anC gg xs act x) →
                                     (((!(eqB (anV gg xs act x) (anV gg xs act x))) = false →
                                       (((!(decide ((anC gg xs act x) = (anC gg xs act x)))) = true →
                                         false = true) ∧ ((!(decide ((anC gg xs act x) = (anC gg xs act x)))) = false →
                                         ((0 ≤ (1 : Int) ∧ (1 : Int) + ((mkInts (1 : Int) (anV gg xs act x)).length : Int) ≤ 4611686018427387904) ∧ (inI64 (heldI (1 : Int) (mkInts (1 : Int) (anV gg xs act x))) →
                                           (((decide ((heldI (1 : Int) (mkInts (1 : Int) (anV gg xs act x))) < (0 : Int))) = true →
                                             false = true) ∧ ((decide ((heldI (1 : Int) (mkInts (1 : Int) (anV gg xs act x))) < (0 : Int))) = false →
                                             (((!(decide ((heldI (1 : Int) (mkInts (1 : Int) (anV gg xs act x))) = ((1 : Int) + ((anV gg xs act x).length : Int))))) = true →
                                               false = true) ∧ ((!(decide ((heldI (1 : Int) (mkInts (1 : Int) (anV gg xs act x))) = ((1 : Int) + ((anV gg xs act x).length : Int))))) = false →
                                               true = true))))))))) ∧ ((!(eqB (anV gg xs act x) (anV gg xs act x))) = (!false) →
                                       ((true = true →
                                         false = true) ∧ (true = false →
                                         ((0 ≤ (1 : Int) ∧ (1 : Int) + ((mkInts (1 : Int) (anV gg xs act x)).length : Int) ≤ 4611686018427387904) ∧ (inI64 (heldI (1 : Int) (mkInts (1 : Int) (anV gg xs act x))) →
                                           (((decide ((heldI (1 : Int) (mkInts (1 : Int) (anV gg xs act x))) < (0 : Int))) = true →
                                             false = true) ∧ ((decide ((heldI (1 : Int) (mkInts (1 : Int) (anV gg xs act x))) < (0 : Int))) = false →
                                             (((!(decide ((heldI (1 : Int) (mkInts (1 : Int) (anV gg xs act x))) = ((1 : Int) + ((anV gg xs act x).length : Int))))) = true →
                                               false = true) ∧ ((!(decide ((heldI (1 : Int) (mkInts (1 : Int) (anV gg xs act x))) = ((1 : Int) + ((anV gg xs act x).length : Int))))) = false →
                                               true = true))))))))))))))))))))))) ∧ ((!(eqB (anV gg xs act x) (anV gg xs act x))) = (!false) →
                         ((true = true →
                           false = true) ∧ (true = false →
                           ((0 ≤ (1 : Int) ∧ (1 : Int) + ((anV gg xs act x).length : Int) ≤ 4611686018427387904) ∧ ((0 ≤ (1 : Int) ∧ (1 : Int) + ((mkInts (1 : Int) (anV gg xs act x)).length : Int) ≤ 4611686018427387904) ∧ (inI64 (heldI (1 : Int) (mkInts (1 : Int) (anV gg xs act x))) →
                             (((decide ((heldI (1 : Int) (mkInts (1 : Int) (anV gg xs act x))) < (0 : Int))) = true →
                               false = true) ∧ ((decide ((heldI (1 : Int) (mkInts (1 : Int) (anV gg xs act x))) < (0 : Int))) = false →
                               (((!(decide ((heldI (1 : Int) (mkInts (1 : Int) (anV gg xs act x))) = ((1 : Int) + ((anV gg xs act x).length : Int))))) = true →
                                 false = true) ∧ ((!(decide ((heldI (1 : Int) (mkInts (1 : Int) (anV gg xs act x))) = ((1 : Int) + ((anV gg xs act x).length : Int))))) = false →
                                 (xs.length + szL sz_premise xs ≤ 1048576 ∧ (xs.length ≤ 140737488355328 →
                                   (inI64 (anC gg xs act x) →
                                     (((!(eqB (anV gg xs act x) (anV gg xs act x))) = false →
                                       (((!(decide ((anC gg xs act x) = (anC gg xs act x)))) = true →
                                         false = true) ∧ ((!(decide ((anC gg xs act x) = (anC gg xs act x)))) = false →
                                         ((0 ≤ (1 : Int) ∧ (1 : Int) + ((mkInts (1 : Int) (anV gg xs act x)).length : Int) ≤ 4611686018427387904) ∧ (inI64 (heldI (1 : Int) (mkInts (1 : Int) (anV gg xs act x))) →
                                           (((decide ((heldI (1 : Int) (mkInts (1 : Int) (anV gg xs act x))) < (0 : Int))) = true →
                                             false = true) ∧ ((decide ((heldI (1 : Int) (mkInts (1 : Int) (anV gg xs act x))) < (0 : Int))) = false →
                                             (((!(decide ((heldI (1 : Int) (mkInts (1 : Int) (anV gg xs act x))) = ((1 : Int) + ((anV gg xs act x).length : Int))))) = true →
                                               false = true) ∧ ((!(decide ((heldI (1 : Int) (mkInts (1 : Int) (anV gg xs act x))) = ((1 : Int) + ((anV gg xs act x).length : Int))))) = false →
                                               true = true))))))))) ∧ ((!(eqB (anV gg xs act x) (anV gg xs act x))) = (!false) →
                                       ((true = true →
                                         false = true) ∧ (true = false →
                                         ((0 ≤ (1 : Int) ∧ (1 : Int) + ((mkInts (1 : Int) (anV gg xs act x)).length : Int) ≤ 4611686018427387904) ∧ (inI64 (heldI (1 : Int) (mkInts (1 : Int) (anV gg xs act x))) →
                                           (((decide ((heldI (1 : Int) (mkInts (1 : Int) (anV gg xs act x))) < (0 : Int))) = true →
                                             false = true) ∧ ((decide ((heldI (1 : Int) (mkInts (1 : Int) (anV gg xs act x))) < (0 : Int))) = false →
                                             (((!(decide ((heldI (1 : Int) (mkInts (1 : Int) (anV gg xs act x))) = ((1 : Int) + ((anV gg xs act x).length : Int))))) = true →
                                               false = true) ∧ ((!(decide ((heldI (1 : Int) (mkInts (1 : Int) (anV gg xs act x))) = ((1 : Int) + ((anV gg xs act x).length : Int))))) = false →
                                               true = true))))))))))))))))))))))))) ∧ ((decide (((1 : Int) + (szL cnt_premise xs : Int)) < (0 : Int))) = (!false) →
                       ((true = false →
                         (((!(decide ((anC gg xs act x) = (anC gg xs act x)))) = true →
                           false = true) ∧ ((!(decide ((anC gg xs act x) = (anC gg xs act x)))) = false →
                           ((0 ≤ (1 : Int) ∧ (1 : Int) + ((anV gg xs act x).length : Int) ≤ 4611686018427387904) ∧ ((0 ≤ (1 : Int) ∧ (1 : Int) + ((mkInts (1 : Int) (anV gg xs act x)).length : Int) ≤ 4611686018427387904) ∧ (inI64 (heldI (1 : Int) (mkInts (1 : Int) (anV gg xs act x))) →
                             (((decide ((heldI (1 : Int) (mkInts (1 : Int) (anV gg xs act x))) < (0 : Int))) = true →
                               false = true) ∧ ((decide ((heldI (1 : Int) (mkInts (1 : Int) (anV gg xs act x))) < (0 : Int))) = false →
                               (((!(decide ((heldI (1 : Int) (mkInts (1 : Int) (anV gg xs act x))) = ((1 : Int) + ((anV gg xs act x).length : Int))))) = true →
                                 false = true) ∧ ((!(decide ((heldI (1 : Int) (mkInts (1 : Int) (anV gg xs act x))) = ((1 : Int) + ((anV gg xs act x).length : Int))))) = false →
                                 (xs.length + szL sz_premise xs ≤ 1048576 ∧ (xs.length ≤ 140737488355328 →
                                   (inI64 (anC gg xs act x) →
                                     (((!(eqB (anV gg xs act x) (anV gg xs act x))) = false →
                                       (((!(decide ((anC gg xs act x) = (anC gg xs act x)))) = true →
                                         false = true) ∧ ((!(decide ((anC gg xs act x) = (anC gg xs act x)))) = false →
                                         ((0 ≤ (1 : Int) ∧ (1 : Int) + ((mkInts (1 : Int) (anV gg xs act x)).length : Int) ≤ 4611686018427387904) ∧ (inI64 (heldI (1 : Int) (mkInts (1 : Int) (anV gg xs act x))) →
                                           (((decide ((heldI (1 : Int) (mkInts (1 : Int) (anV gg xs act x))) < (0 : Int))) = true →
                                             false = true) ∧ ((decide ((heldI (1 : Int) (mkInts (1 : Int) (anV gg xs act x))) < (0 : Int))) = false →
                                             (((!(decide ((heldI (1 : Int) (mkInts (1 : Int) (anV gg xs act x))) = ((1 : Int) + ((anV gg xs act x).length : Int))))) = true →
                                               false = true) ∧ ((!(decide ((heldI (1 : Int) (mkInts (1 : Int) (anV gg xs act x))) = ((1 : Int) + ((anV gg xs act x).length : Int))))) = false →
                                               true = true))))))))) ∧ ((!(eqB (anV gg xs act x) (anV gg xs act x))) = (!false) →
                                       ((true = true →
                                         false = true) ∧ (true = false →
                                         ((0 ≤ (1 : Int) ∧ (1 : Int) + ((mkInts (1 : Int) (anV gg xs act x)).length : Int) ≤ 4611686018427387904) ∧ (inI64 (heldI (1 : Int) (mkInts (1 : Int) (anV gg xs act x))) →
                                           (((decide ((heldI (1 : Int) (mkInts (1 : Int) (anV gg xs act x))) < (0 : Int))) = true →
                                             false = true) ∧ ((decide ((heldI (1 : Int) (mkInts (1 : Int) (anV gg xs act x))) < (0 : Int))) = false →
                                             (((!(decide ((heldI (1 : Int) (mkInts (1 : Int) (anV gg xs act x))) = ((1 : Int) + ((anV gg xs act x).length : Int))))) = true →
                                               false = true) ∧ ((!(decide ((heldI (1 : Int) (mkInts (1 : Int) (anV gg xs act x))) = ((1 : Int) + ((anV gg xs act x).length : Int))))) = false →
                                               true = true))))))))))))))))))))))) ∧ (true = (!false) →
                         ((true = true →
                           false = true) ∧ (true = false →
                           ((0 ≤ (1 : Int) ∧ (1 : Int) + ((anV gg xs act x).length : Int) ≤ 4611686018427387904) ∧ ((0 ≤ (1 : Int) ∧ (1 : Int) + ((mkInts (1 : Int) (anV gg xs act x)).length : Int) ≤ 4611686018427387904) ∧ (inI64 (heldI (1 : Int) (mkInts (1 : Int) (anV gg xs act x))) →
                             (((decide ((heldI (1 : Int) (mkInts (1 : Int) (anV gg xs act x))) < (0 : Int))) = true →
                               false = true) ∧ ((decide ((heldI (1 : Int) (mkInts (1 : Int) (anV gg xs act x))) < (0 : Int))) = false →
                               (((!(decide ((heldI (1 : Int) (mkInts (1 : Int) (anV gg xs act x))) = ((1 : Int) + ((anV gg xs act x).length : Int))))) = true →
                                 false = true) ∧ ((!(decide ((heldI (1 : Int) (mkInts (1 : Int) (anV gg xs act x))) = ((1 : Int) + ((anV gg xs act x).length : Int))))) = false →
                                 (xs.length + szL sz_premise xs ≤ 1048576 ∧ (xs.length ≤ 140737488355328 →
                                   (inI64 (anC gg xs act x) →
                                     (((!(eqB (anV gg xs act x) (anV gg xs act x))) = false →
                                       (((!(decide ((anC gg xs act x) = (anC gg xs act x)))) = true →
                                         false = true) ∧ ((!(decide ((anC gg xs act x) = (anC gg xs act x)))) = false →
                                         ((0 ≤ (1 : Int) ∧ (1 : Int) + ((mkInts (1 : Int) (anV gg xs act x)).length : Int) ≤ 4611686018427387904) ∧ (inI64 (heldI (1 : Int) (mkInts (1 : Int) (anV gg xs act x))) →
                                           (((decide ((heldI (1 : Int) (mkInts (1 : Int) (anV gg xs act x))) < (0 : Int))) = true →
                                             false = true) ∧ ((decide ((heldI (1 : Int) (mkInts (1 : Int) (anV gg xs act x))) < (0 : Int))) = false →
                                             (((!(decide ((heldI (1 : Int) (mkInts (1 : Int) (anV gg xs act x))) = ((1 : Int) + ((anV gg xs act x).length : Int))))) = true →
                                               false = true) ∧ ((!(decide ((heldI (1 : Int) (mkInts (1 : Int) (anV gg xs act x))) = ((1 : Int) + ((anV gg xs act x).length : Int))))) = false →
                                               true = true))))))))) ∧ ((!(eqB (anV gg xs act x) (anV gg xs act x))) = (!false) →
                                       ((true = true →
                                         false = true) ∧ (true = false →
                                         ((0 ≤ (1 : Int) ∧ (1 : Int) + ((mkInts (1 : Int) (anV gg xs act x)).length : Int) ≤ 4611686018427387904) ∧ (inI64 (heldI (1 : Int) (mkInts (1 : Int) (anV gg xs act x))) →
                                           (((decide ((heldI (1 : Int) (mkInts (1 : Int) (anV gg xs act x))) < (0 : Int))) = true →
                                             false = true) ∧ ((decide ((heldI (1 : Int) (mkInts (1 : Int) (anV gg xs act x))) < (0 : Int))) = false →
                                             (((!(decide ((heldI (1 : Int) (mkInts (1 : Int) (anV gg xs act x))) = ((1 : Int) + ((anV gg xs act x).length : Int))))) = true →
                                               false = true) ∧ ((!(decide ((heldI (1 : Int) (mkInts (1 : Int) (anV gg xs act x))) = ((1 : Int) + ((anV gg xs act x).length : Int))))) = false →
                                               true = true)))))))))))))))))))))))))))))))))))))))))))))) := by kernel_rfl
set_option maxRecDepth 4000 in
set_option maxHeartbeats 1000000 in
theorem ok_laws_FnExactAllowedNext (hE : AllGood [k_laws_szPremiseS, k_laws_toPremiseS, k_laws_toSig, k_spec_AllowedNext, k_laws_eqInt64S, k_laws_eqPremiseS, k_laws_heldInt64S]) (hO : AllO [ko_laws_toPremiseS, ko_impl_AllowedNext]) (hM : AllM [mk_laws_markPremiseS, mk_laws_markInt64S]) : Ctr.Good k_laws_FnExactAllowedNext := by
  refine ⟨fnOk_of at_laws_FnExactAllowedNext rfl (by decide), ?_⟩
  show ∀ (gg : GSig) (xs : List GPremise) (act : Int) (x : Int), True → OkCall prog n_laws_FnExactAllowedNext [.val ⟨(.st .sig), gg⟩, .val ⟨(.slice (.st .premise)), xs⟩, .val ⟨(.int .i64), act⟩, .val ⟨(.int .i64), x⟩] (· = [⟨.bool, true⟩])
  intro gg xs act x _
  refine ok_of_awpO (own := [36, 43, 62, 78, 94]) (wr := []) hE hO hM at_laws_FnExactAllowedNext body_laws_FnExactAllowedNext (l_laws_FnExactAllowedNext gg xs act x) ?_
  rewrite [vc_laws_FnExactAllowedNext gg xs act x]
  have f0 := szR_or (xs.length + szL sz_premise xs) 1048576
  have f1 := cntP_sz xs
  have f2 := anV_len gg xs act x
  have f3 := heldI_mk 1 (anV gg xs act x)
  have f4 := mkInts_length 1 (anV gg xs act x)
  refine ⟨?_, fun a0 => ⟨fun a1 => rfl, fun a1 => ⟨?_, fun a2 => fun a3 => fun a4 => ⟨?_, fun a5 => ⟨fun a6 => ⟨fun a7 => ?_, fun a7 => ⟨?_, fun a8 => ⟨fun a9 => ?_, fun a9 => ⟨?_, ⟨fun a10 => ⟨fun a11 => ⟨fun a12 => ?_, fun a12 => ⟨?_, ⟨?_, fun a13 => ⟨fun a14 => ?_, fun a14 => ⟨fun a15 => ?_, fun a15 => ⟨?_, fun a16 => fun a17 => ⟨fun a18 => ⟨fun a19 => ?_, fun a19 => ⟨?_, fun a20 => ⟨fun a21 => ?_, fun a21 => ⟨fun a22 => ?_, fun a22 => rfl⟩⟩⟩⟩, fun a18 => ⟨fun a19 => ?_, fun a19 => ⟨?_, fun a20 => ⟨fun a21 => ?_, fun a21 => ⟨fun a22 => ?_, fun a22 => rfl⟩⟩⟩⟩⟩⟩⟩⟩⟩⟩⟩, fun a11 => ⟨fun a12 => ?_, fun a12 => ⟨?_, ⟨?_, fun a13 => ⟨fun a14 => ?_, fun a14 => ⟨fun a15 => ?_, fun a15 => ⟨?_, fun a16 => fun a17 => ⟨fun a18 => ⟨fun a19 => ?_, fun a19 => ⟨?_, fun a20 => ⟨fun a21 => ?_, fun a21 => ⟨fun a22 => ?_, fun a22 => rfl⟩⟩⟩⟩, fun a18 => ⟨fun a19 => ?_, fun a19 => ⟨?_, fun a20 => ⟨fun a21 => ?_, fun a21 => ⟨fun a22 => ?_, fun a22 => rfl⟩⟩⟩⟩⟩⟩⟩⟩⟩⟩⟩⟩, fun a10 => ⟨fun a11 => ⟨fun a12 => ?_, fun a12 => ⟨?_, ⟨?_, fun a13 => ⟨fun a14 => ?_, fun a14 => ⟨fun a15 => ?_, fun a15 => ⟨?_, fun a16 => fun a17 => ⟨fun a18 => ⟨fun a19 => ?_, fun a19 => ⟨?_, fun a20 => ⟨fun a21 => ?_, fun a21 => ⟨fun a22 => ?_, fun a22 => rfl⟩⟩⟩⟩, fun a18 => ⟨fun a19 => ?_, fun a19 => ⟨?_, fun a20 => ⟨fun a21 => ?_, fun a21 => ⟨fun a22 => ?_, fun a22 => rfl⟩⟩⟩⟩⟩⟩⟩⟩⟩⟩⟩, fun a11 => ⟨fun a12 => ?_, fun a12 => ⟨?_, ⟨?_, fun a13 => ⟨fun a14 => ?_, fun a14 => ⟨fun a15 => ?_, fun a15 => ⟨?_, fun a16 => fun a17 => ⟨fun a18 => ⟨fun a19 => ?_, fun a19 => ⟨?_, fun a20 => ⟨fun a21 => ?_, fun a21 => ⟨fun a22 => ?_, fun a22 => rfl⟩⟩⟩⟩, fun a18 => ⟨fun a19 => ?_, fun a19 => ⟨?_, fun a20 => ⟨fun a21 => ?_, fun a21 => ⟨fun a22 => ?_, fun a22 => rfl⟩⟩⟩⟩⟩⟩⟩⟩⟩⟩⟩⟩⟩⟩⟩⟩⟩, fun a6 => ⟨fun a7 => ?_, fun a7 => ⟨?_, fun a8 => ⟨fun a9 => ?_, fun a9 => ⟨?_, ⟨fun a10 => ⟨fun a11 => ⟨fun a12 => ?_, fun a12 => ⟨?_, ⟨?_, fun a13 => ⟨fun a14 => ?_, fun a14 => ⟨fun a15 => ?_, fun a15 => ⟨?_, fun a16 => fun a17 => ⟨fun a18 => ⟨fun a19 => ?_, fun a19 => ⟨?_, fun a20 => ⟨fun a21 => ?_, fun a21 => ⟨fun a22 => ?_, fun a22 => rfl⟩⟩⟩⟩, fun a18 => ⟨fun a19 => ?_, fun a19 => ⟨?_, fun a20 => ⟨fun a21 => ?_, fun a21 => ⟨fun a22 => ?_, fun a22 => rfl⟩⟩⟩⟩⟩⟩⟩⟩⟩⟩⟩, fun a11 => ⟨fun a12 => ?_, fun a12 => ⟨?_, ⟨?_, fun a13 => ⟨fun a14 => ?_, fun a14 => ⟨fun a15 => ?_, fun a15 => ⟨?_, fun a16 => fun a17 => ⟨fun a18 => ⟨fun a19 => ?_, fun a19 => ⟨?_, fun a20 => ⟨fun a21 => ?_, fun a21 => ⟨fun a22 => ?_, fun a22 => rfl⟩⟩⟩⟩, fun a18 => ⟨fun a19 => ?_, fun a19 => ⟨?_, fun a20 => ⟨fun a21 => ?_, fun a21 => ⟨fun a22 => ?_, fun a22 => rfl⟩⟩⟩⟩⟩⟩⟩⟩⟩⟩⟩⟩, fun a10 => ⟨fun a11 => ⟨fun a12 => ?_, fun a12 => ⟨?_, ⟨?_, fun a13 => ⟨fun a14 => ?_, fun a14 => ⟨fun a15 => ?_, fun a15 => ⟨?_, fun a16 => fun a17 => ⟨fun a18 => ⟨fun a19 => ?_, fun a19 => ⟨?_, fun a20 => ⟨fun a21 => ?_, fun a21 => ⟨fun a22 => ?_, fun a22 => rfl⟩⟩⟩⟩, fun a18 => ⟨fun a19 => ?_, fun a19 => ⟨?_, fun a20 => ⟨fun a21 => ?_, fun a21 => ⟨fun a22 => ?_, fun a22 => rfl⟩⟩⟩⟩⟩⟩⟩⟩⟩⟩⟩, fun a11 => ⟨fun a12 => ?_, fun a12 => ⟨?_, ⟨?_, fun a13 => ⟨fun a14 => ?_, fun a14 => ⟨fun a15 => ?_, fun a15 => ⟨?_, fun a16 => fun a17 => ⟨fun a18 => ⟨fun a19 => ?_, fun a19 => ⟨?_, fun a20 => ⟨fun a21 => ?_, fun a21 => ⟨fun a22 => ?_, fun a22 => rfl⟩⟩⟩⟩, fun a18 => ⟨fun a19 => ?_, fun a19 => ⟨?_, fun a20 => ⟨fun a21 => ?_, fun a21 => ⟨fun a22 => ?_, fun a22 => rfl⟩⟩⟩⟩⟩⟩⟩⟩⟩⟩⟩⟩⟩⟩⟩⟩⟩⟩⟩⟩⟩⟩
  all_goals try and_intros
  all_goals first | rfl | trivial | omega | (simp only [decide_eq_true_eq, decide_eq_false_iff_not, idxOk, inI64, inKind, cutOk, makeOk, roomOk] at *; omega) | (simp [idxOk, inI64] at *; omega) | grind | (simp_all; done)

theorem good_laws_FnExactAllowedNext : Ctr.Good k_laws_FnExactAllowedNext := ok_laws_FnExactAllowedNext ⟨good_laws_szPremiseS, good_laws_toPremiseS, good_laws_toSig, good_spec_AllowedNext, good_laws_eqInt64S, good_laws_eqPremiseS, good_laws_heldInt64S, trivial⟩ ⟨ogood_laws_toPremiseS, ogood_impl_AllowedNext, trivial⟩ ⟨mgood_laws_markPremiseS, mgood_laws_markInt64S, trivial⟩

theorem law_FnExactAllowedNext : ∀ tvs : List TV, tvs.map TV.τ = [(.st .sig), (.slice (.st .premise)), (.int .i64), (.int .i64)] → OkCall prog n_laws_FnExactAllowedNext (tvs.map .val) (· = [⟨.bool, true⟩]) := by
  intro tvs h
  match tvs, h with
  | [⟨t0, a0⟩, ⟨t1, a1⟩, ⟨t2, a2⟩, ⟨t3, a3⟩], h =>
    simp only [List.map_cons, List.map_nil, List.cons.injEq, and_true] at h
    obtain ⟨rfl, rfl, rfl, rfl⟩ := h
    exact good_laws_FnExactAllowedNext.2 a0 a1 a2 a3 trivial

end
end Go.Proofs.Ytlmgmdkelbdmgaa
