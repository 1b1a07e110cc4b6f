/- Expressions: sizes, forms, conditions, truth. Printed by vmk.py. -/
import Derived.Test.YtkogipcdjalehaaDoorVmUse
import Derived.Test.YtkogipcdjalehaaDoorVmLib
set_option linter.unusedVariables false
set_option linter.unusedSimpArgs false
set_option linter.unusedSectionVars false
set_option maxRecDepth 4000
set_option maxHeartbeats 4000000
namespace Go.Proofs.YtkogipcdjalehaaDoor
noncomputable section
def k_impl_within : Ctr := ⟨n_impl_within, [.v (.int .i64), .v (.int .i64), .v (.int .i64)], fun (n : Int) (least : Int) (most : Int) => ⟨(none, [⟨.bool, decide (least ≤ n ∧ n ≤ most)⟩])⟩⟩
def l_impl_within (n : Int) (least : Int) (most : Int) : Nat → LoopInv := fun _ => .none
theorem vc_impl_within (n : Int) (least : Int) (most : Int) : awp (envOf []) (bodyOf f_impl_within) (l_impl_within n least most) 0 (funPost (envOf []) f_impl_within fun r => areEq r [⟨.bool, decide (least ≤ n ∧ n ≤ most)⟩]) (startState f_impl_within [.val ⟨(.int .i64), n⟩, .val ⟨(.int .i64), least⟩, .val ⟨(.int .i64), most⟩]) =
 ((((decide (least ≤ n)) = true →
 ((decide (n ≤ most)) = (decide (least ≤ n ∧ n ≤ most)))) ∧ ((decide (least ≤ n)) = (!true) →
 (false = (decide (least ≤ n ∧ n ≤ most)))))) := by kernel_rfl
theorem ok_impl_within (hE : AllGood []) : Ctr.Good k_impl_within := by
 refine ⟨fnOk_of at_impl_within rfl (by decide), ?_⟩
 show ∀ (n : Int) (least : Int) (most : Int), True → OkCall prog n_impl_within [.val ⟨(.int .i64), n⟩, .val ⟨(.int .i64), least⟩, .val ⟨(.int .i64), most⟩] (· = [⟨.bool, decide (least ≤ n ∧ n ≤ most)⟩])
 intro n least most _
 refine ok_of_awp (wr := []) (cl := []) (ro := []) hE at_impl_within body_impl_within (l_impl_within n least most) ?_
 rewrite [vc_impl_within n least most]
 refine ⟨fun a0 => ?_, fun a0 => ?_⟩
 all_goals try and_intros
 all_goals first | rfl | trivial | (simp_all; done) | (simp_all; omega)
theorem good_impl_within : Ctr.Good k_impl_within := ok_impl_within trivial
def k_spec_l00In : Ctr := ⟨n_spec_l00In, [.v (.int .i64), .v (.int .i64), .v (.int .i64)], fun (n : Int) (low : Int) (high : Int) => ⟨(none, [⟨.bool, decide (low ≤ n ∧ n ≤ high)⟩])⟩⟩
def l_spec_l00In (n : Int) (low : Int) (high : Int) : Nat → LoopInv := fun _ => .none
theorem vc_spec_l00In (n : Int) (low : Int) (high : Int) : awp (envOf []) (bodyOf f_spec_l00In) (l_spec_l00In n low high) 0 (funPost (envOf []) f_spec_l00In fun r => areEq r [⟨.bool, decide (low ≤ n ∧ n ≤ high)⟩]) (startState f_spec_l00In [.val ⟨(.int .i64), n⟩, .val ⟨(.int .i64), low⟩, .val ⟨(.int .i64), high⟩]) =
 ((((decide (low ≤ n)) = true →
 ((decide (n ≤ high)) = (decide (low ≤ n ∧ n ≤ high)))) ∧ ((decide (low ≤ n)) = (!true) →
 (false = (decide (low ≤ n ∧ n ≤ high)))))) := by kernel_rfl
theorem ok_spec_l00In (hE : AllGood []) : Ctr.Good k_spec_l00In := by
 refine ⟨fnOk_of at_spec_l00In rfl (by decide), ?_⟩
 show ∀ (n : Int) (low : Int) (high : Int), True → OkCall prog n_spec_l00In [.val ⟨(.int .i64), n⟩, .val ⟨(.int .i64), low⟩, .val ⟨(.int .i64), high⟩] (· = [⟨.bool, decide (low ≤ n ∧ n ≤ high)⟩])
 intro n low high _
 refine ok_of_awp (wr := []) (cl := []) (ro := []) hE at_spec_l00In body_spec_l00In (l_spec_l00In n low high) ?_
 rewrite [vc_spec_l00In n low high]
 refine ⟨fun a0 => ?_, fun a0 => ?_⟩
 all_goals try and_intros
 all_goals first | rfl | trivial | (simp_all; done) | (simp_all; omega)
theorem good_spec_l00In : Ctr.Good k_spec_l00In := ok_spec_l00In trivial
end
end Go.Proofs.YtkogipcdjalehaaDoor
