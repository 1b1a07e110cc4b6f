/- Truth, Valid. -/
import Derived.Test.YtbphjcgkidlabaaDoorVmUse
import Derived.Test.YtbphjcgkidlabaaDoorVmLib
import Derived.Test.YtbphjcgkidlabaaDoorVmShaped
set_option linter.unusedVariables false
set_option linter.unusedSimpArgs false
set_option linter.unusedSectionVars false
namespace Go.Proofs.YtbphjcgkidlabaaDoor
noncomputable section
end
end Go.Proofs.YtbphjcgkidlabaaDoor

set_option linter.unusedVariables false
set_option linter.unusedSimpArgs false
set_option linter.unusedSectionVars false
set_option maxRecDepth 4000
set_option maxHeartbeats 4000000
namespace Go.Proofs.YtbphjcgkidlabaaDoor
noncomputable section
def atomsN (gg : GSig) : Int := 1 * 2 ^ gg.tests.toNat
theorem sigOk_iff (gg : GSig) : sigOk gg = true ↔ (0 ≤ gg.tests ∧ gg.tests ≤ 3) ∧ (0 ≤ gg.actions ∧ gg.actions ≤ 4) := by
 simp [sigOk]
def isE (gg : GSig) (x : GExpr) : Bool := shB gg x 200 40
def okE (gg : GSig) (x : GExpr) : Bool := sigOk gg && isE gg x
theorem isE_iff (gg : GSig) (x : GExpr) : isE gg x = true ↔ treeE (pred64 gg.tests) (pred64 gg.actions) x = true ∧ nodesE x ≤ 200 ∧ depthE x ≤ 40 := by
 simp only [isE, shB, Bool.and_eq_true, decide_eq_true_eq]
 constructor
 ·rintro ⟨⟨a, b⟩, c⟩; exact ⟨a, by omega, by omega⟩
 ·rintro ⟨a, b, c⟩; exact ⟨⟨a, by omega⟩, by omega⟩
theorem headE_mono (t a t' a' : Int) (h1 : t ≤ t') (h2 : a ≤ a') (x : GExpr) (h : headE t a x = true) : headE t' a' x = true := by
 rw [headE_eq] at h ⊢
 simp only [Bool.and_eq_true] at h ⊢
 refine ⟨⟨h.1.1, ?_⟩, h.2⟩
 have := h.1.2
 unfold numOk at this ⊢
 split
 ·rename_i e; rw [if_pos e] at this; simp only [decide_eq_true_eq] at this ⊢; omega
 ·rename_i e; rw [if_neg e] at this
  split
  ·rename_i e'; rw [if_pos e'] at this; simp only [decide_eq_true_eq] at this ⊢; omega
  ·rename_i e'; rw [if_neg e'] at this; exact this
mutual
theorem treeE_mono (t a t' a' : Int) (h1 : t ≤ t') (h2 : a ≤ a') : ∀ x : GExpr, treeE t a x = true → treeE t' a' x = true
 | ⟨k, n, ks⟩ => fun h => by
  simp only [treeE, Bool.and_eq_true] at h ⊢
  exact ⟨headE_mono t a t' a' h1 h2 _ h.1, treeEs_mono t a t' a' h1 h2 ks h.2⟩
theorem treeEs_mono (t a t' a' : Int) (h1 : t ≤ t') (h2 : a ≤ a') : ∀ xs : List GExpr, treeEs t a xs = true → treeEs t' a' xs = true
 | [] => fun _ => rfl
 | x :: xs => fun h => by
  simp only [treeEs, Bool.and_eq_true] at h ⊢
  exact ⟨treeE_mono t a t' a' h1 h2 x h.1, treeEs_mono t a t' a' h1 h2 xs h.2⟩
end
def allN (p : Nat → Bool) : Nat → Bool
 | 0 => true
 | n + 1 => allN p n && p n
def k_impl_isExpr : Ctr := ⟨n_impl_isExpr, [.v (.st .sig), .v (.st .expr)], fun (gg : GSig) (x : GExpr) => ⟨(none, [⟨.bool, isE gg x⟩])⟩⟩
def l_impl_isExpr (gg : GSig) (x : GExpr) : Nat → LoopInv := fun _ => .none
theorem vc_impl_isExpr (gg : GSig) (x : GExpr) : awp (envOf [k_impl_shaped] [] [] [2, 3]) (bodyOf f_impl_isExpr) (l_impl_isExpr gg x) 0 (funPost (envOf [k_impl_shaped] [] [] [2, 3]) f_impl_isExpr fun r => areEq r [⟨.bool, isE gg x⟩]) (startState f_impl_isExpr [.val ⟨(.st .sig), gg⟩, .val ⟨(.st .expr), x⟩]) =
 (((0 ≤ (200 : Int) ∧ (200 : Int) ≤ 1048576 ∧ 0 ≤ (40 : Int) ∧ (40 : Int) ≤ 1048576) ∧ (inI64 (shN gg x (200 : Int) (40 : Int)) →
 (shB gg x (200 : Int) (40 : Int)) = (isE gg x)))) := by kernel_rfl
theorem ok_impl_isExpr (hE : AllGood [k_impl_shaped]) : Ctr.Good k_impl_isExpr := by
 refine ⟨fnOk_of at_impl_isExpr rfl (by decide), ?_⟩
 show ∀ (gg : GSig) (x : GExpr), True → OkCall prog n_impl_isExpr [.val ⟨(.st .sig), gg⟩, .val ⟨(.st .expr), x⟩] (· = [⟨.bool, isE gg x⟩])
 intro gg x _
 refine ok_of_awp (wr := []) (cl := []) (ro := [2, 3]) hE at_impl_isExpr body_impl_isExpr (l_impl_isExpr gg x) ?_
 rewrite [vc_impl_isExpr gg x]
 refine ⟨?_, fun a0 => ?_⟩
 all_goals try and_intros
 all_goals first | rfl | trivial | omega | (simp only [decide_eq_true_eq, decide_eq_false_iff_not, idxOk, inI64, inKind, cutOk, makeOk, roomOk] at *; omega) | (simp [idxOk, inI64] at *; omega) | grind
theorem good_impl_isExpr : Ctr.Good k_impl_isExpr := ok_impl_isExpr ⟨good_impl_shaped, trivial⟩
def k_spec_l01Ok : Ctr := ⟨n_spec_l01Ok, [.v (.st .sig), .r (.st .expr)], fun (gg : GSig) (x : GExpr) => ⟨(none, [⟨.bool, okE gg x⟩])⟩⟩
def l_spec_l01Ok (gg : GSig) (x : GExpr) : Nat → LoopInv := fun _ => .none
abbrev j_spec_l01Ok_0 (gg : GSig) (x : GExpr) : Prop := (depthE x ≤ 1048576 ∧ (inI64 ((depthE x : Int)) →
 (((decide (((depthE x : Int)) ≤ (40 : Int))) = true →
 (treeE (pred64 gg.tests) (pred64 gg.actions) x) = (okE gg x)) ∧ ((decide (((depthE x : Int)) ≤ (40 : Int))) = (!true) →
 false = (okE gg x)))))
theorem vc_spec_l01Ok (gg : GSig) (x : GExpr) : awp (envOf [k_spec_l01Sig, k_spec_l01Left, k_spec_l01Depth, k_spec_l01Tree] [] [] [2]) (bodyOf f_spec_l01Ok) (l_spec_l01Ok gg x) 0 (funPost (envOf [k_spec_l01Sig, k_spec_l01Left, k_spec_l01Depth, k_spec_l01Tree] [] [] [2]) f_spec_l01Ok fun r => areEq r [⟨.bool, okE gg x⟩]) (startState f_spec_l01Ok [.val ⟨(.st .sig), gg⟩, .ref ⟨(.st .expr), x⟩]) =
 ((((sigOk gg) = true →
 ((0 ≤ (200 : Int) ∧ (200 : Int) ≤ 1048576) ∧ (inI64 (szR (nodesE x) (200 : Int)) →
 (((decide ((0 : Int) ≤ (szR (nodesE x) (200 : Int)))) = true →
 (j_spec_l01Ok_0 gg x)) ∧ ((decide ((0 : Int) ≤ (szR (nodesE x) (200 : Int)))) = (!true) →
 ((false = true →
 (treeE (pred64 gg.tests) (pred64 gg.actions) x) = (okE gg x)) ∧ (false = (!true) →
 false = (okE gg x)))))))) ∧ ((sigOk gg) = (!true) →
 ((false = true →
 (j_spec_l01Ok_0 gg x)) ∧ (false = (!true) →
 ((false = true →
 (treeE (pred64 gg.tests) (pred64 gg.actions) x) = (okE gg x)) ∧ (false = (!true) →
 false = (okE gg x)))))))) := by kernel_rfl
theorem ok_spec_l01Ok (hE : AllGood [k_spec_l01Sig, k_spec_l01Left, k_spec_l01Depth, k_spec_l01Tree]) : Ctr.Good k_spec_l01Ok := by
 refine ⟨fnOk_of at_spec_l01Ok rfl (by decide), ?_⟩
 show ∀ (gg : GSig) (x : GExpr), True → OkCall prog n_spec_l01Ok [.val ⟨(.st .sig), gg⟩, .ref ⟨(.st .expr), x⟩] (· = [⟨.bool, okE gg x⟩])
 intro gg x _
 refine ok_of_awp (wr := []) (cl := []) (ro := [2]) hE at_spec_l01Ok body_spec_l01Ok (l_spec_l01Ok gg x) ?_
 rewrite [vc_spec_l01Ok gg x]
 have f1 := szR_or (nodesE x) 200
 have f2 := depth_nodes x
 have f3 : okE gg x = (sigOk gg && (treeE (pred64 gg.tests) (pred64 gg.actions) x && decide ((nodesE x : Int) ≤ 200) && decide ((depthE x : Int) ≤ 40))) := rfl
 refine ⟨fun a0 => ⟨?_, fun a1 => ⟨fun a2 => ⟨?_, fun a3 => ⟨fun a4 => ?_, fun a4 => ?_⟩⟩, fun a2 => ⟨fun a3 => ?_, fun a3 => ?_⟩⟩⟩, fun a0 => ⟨fun a1 => ⟨?_, fun a2 => ⟨fun a3 => ?_, fun a3 => ?_⟩⟩, fun a1 => ⟨fun a2 => ?_, fun a2 => ?_⟩⟩⟩
 all_goals try and_intros
 all_goals try rw [f3]
 all_goals first | rfl | trivial | omega | (simp only [decide_eq_true_eq, decide_eq_false_iff_not, Bool.not_eq_true', Bool.not_eq_false'] at *; omega) | grind
theorem good_spec_l01Ok : Ctr.Good k_spec_l01Ok := ok_spec_l01Ok ⟨good_spec_l01Sig, good_spec_l01Left, good_spec_l01Depth, good_spec_l01Tree, trivial⟩
end
end Go.Proofs.YtbphjcgkidlabaaDoor
