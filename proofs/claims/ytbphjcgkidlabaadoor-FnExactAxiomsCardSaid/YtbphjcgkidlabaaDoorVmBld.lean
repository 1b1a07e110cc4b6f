/- Expressions that are built. Printed by vmk.py. -/
import Derived.Test.YtbphjcgkidlabaaDoorVmUse
import Derived.Test.YtbphjcgkidlabaaDoorVmLib
import Derived.Test.YtbphjcgkidlabaaDoorVmHeld
set_option linter.unusedVariables false
set_option linter.unusedSimpArgs false
set_option linter.unusedSectionVars false
set_option maxRecDepth 4000
set_option maxHeartbeats 4000000
namespace Go.Proofs.YtbphjcgkidlabaaDoor
noncomputable section
def ko_impl_leaf : Ctr := ⟨n_impl_leaf, [.v (.int .i64), .v (.int .i64)], fun (k : Int) (m : Int) => ⟨(none, [⟨(.st .expr), GExpr.mk k m []⟩])⟩⟩
def lo_impl_leaf (k : Int) (m : Int) : Nat → LoopInv := fun _ => .none
theorem vco_impl_leaf (k : Int) (m : Int) : awp (envO [] [] [] [] []) (bodyOf f_impl_leaf) (lo_impl_leaf k m) 0 (ownPost (envO [] [] [] [] []) f_impl_leaf fun r => areEq r [⟨(.st .expr), GExpr.mk k m []⟩]) (startO f_impl_leaf [.val ⟨(.int .i64), k⟩, .val ⟨(.int .i64), m⟩]) =
 ((GExpr.mk k m []) = (GExpr.mk k m [])) := by kernel_rfl
theorem oko_impl_leaf (hE : AllGood []) (hO : AllO []) (hM : AllM []) (hS : AllS []) : Ctr.OGood ko_impl_leaf := by
 refine ⟨fnOk_of at_impl_leaf rfl (by decide), ?_⟩
 show ∀ (k : Int) (m : Int), True → OkOwn prog n_impl_leaf [.val ⟨(.int .i64), k⟩, .val ⟨(.int .i64), m⟩] [⟨(.st .expr), GExpr.mk k m []⟩]
 intro k m _
 refine own_of_awp (own := []) (wr := []) (cl := []) (ro := []) hE hO hM hS at_impl_leaf body_impl_leaf (lo_impl_leaf k m) ?_
 rewrite [vco_impl_leaf k m]
 refine rfl
 all_goals try and_intros
 all_goals first | rfl | trivial | omega | (simp only [decide_eq_true_eq, decide_eq_false_iff_not, idxOk, inI64, inKind, cutOk, makeOk, roomOk] at *; omega) | (simp [idxOk, inI64] at *; omega) | grind
theorem ogood_impl_leaf : Ctr.OGood ko_impl_leaf := oko_impl_leaf trivial trivial trivial trivial
def ko_impl_tree : Ctr := ⟨n_impl_tree, [.v (.int .i64), .o (.slice (.st .expr))], fun (k : Int) (ks : List GExpr) => ⟨(none, [⟨(.st .expr), GExpr.mk k 0 ks⟩])⟩⟩
def lo_impl_tree (k : Int) (ks : List GExpr) : Nat → LoopInv := fun _ => .none
theorem vco_impl_tree (k : Int) (ks : List GExpr) : awp (envO [] [] [] [] []) (bodyOf f_impl_tree) (lo_impl_tree k ks) 0 (ownPost (envO [] [] [] [] []) f_impl_tree fun r => areEq r [⟨(.st .expr), GExpr.mk k 0 ks⟩]) (startO f_impl_tree [.val ⟨(.int .i64), k⟩, .own ⟨(.slice (.st .expr)), ks⟩]) =
 ((GExpr.mk k (0 : Int) ks) = (GExpr.mk k 0 ks)) := by kernel_rfl
theorem oko_impl_tree (hE : AllGood []) (hO : AllO []) (hM : AllM []) (hS : AllS []) : Ctr.OGood ko_impl_tree := by
 refine ⟨fnOk_of at_impl_tree rfl (by decide), ?_⟩
 show ∀ (k : Int) (ks : List GExpr), True → OkOwn prog n_impl_tree [.val ⟨(.int .i64), k⟩, .own ⟨(.slice (.st .expr)), ks⟩] [⟨(.st .expr), GExpr.mk k 0 ks⟩]
 intro k ks _
 refine own_of_awp (own := []) (wr := []) (cl := []) (ro := []) hE hO hM hS at_impl_tree body_impl_tree (lo_impl_tree k ks) ?_
 rewrite [vco_impl_tree k ks]
 refine ?_
 all_goals try and_intros
 all_goals first | rfl | trivial | omega | (simp only [decide_eq_true_eq, decide_eq_false_iff_not, idxOk, inI64, inKind, cutOk, makeOk, roomOk] at *; omega) | (simp [idxOk, inI64] at *; omega) | grind
theorem ogood_impl_tree : Ctr.OGood ko_impl_tree := oko_impl_tree trivial trivial trivial trivial
end
end Go.Proofs.YtbphjcgkidlabaaDoor
