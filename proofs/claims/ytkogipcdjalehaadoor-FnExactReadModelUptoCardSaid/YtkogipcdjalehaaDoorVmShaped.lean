/- Expr, Expr2, Shaped. -/
import Derived.Test.YtkogipcdjalehaaDoorVmUse
import Derived.Test.YtkogipcdjalehaaDoorVmLib
set_option linter.unusedVariables false
set_option linter.unusedSimpArgs false
set_option linter.unusedSectionVars false
set_option maxRecDepth 4000
set_option maxHeartbeats 4000000
namespace Go.Proofs.YtkogipcdjalehaaDoor
noncomputable section
def condK (k : Int) : Bool := decide (k = 1) || decide (k = 2) || decide (k = 3) || decide (k = 5) || decide (k = 6) || decide (k = 7)
mutual
def condE : GExpr → Bool
 | ⟨k, _, ks⟩ => condK k && condEs ks
def condEs : List GExpr → Bool
 | [] => true
 | k :: ks => condE k && condEs ks
end
def kidsN (k : Int) : Int := if k = 1 ∨ k = 2 ∨ k = 3 ∨ k = 4 then 0 else if k = 5 ∨ k = 8 then 1 else if k = 6 ∨ k = 7 then 2 else -1
def k_impl_within : Ctr := ⟨n_impl_within, [.v (.int .i64), .v (.int .i64), .v (.int .i64)], fun (n : Int) (least : Int) (most : Int) => ⟨(none, [⟨.bool, decide (least ≤ n ∧ n ≤ most)⟩])⟩⟩
def l_impl_within (n : Int) (least : Int) (most : Int) : Nat → LoopInv := fun _ => .none
theorem vc_impl_within (n : Int) (least : Int) (most : Int) : awp (envOf []) (bodyOf f_impl_within) (l_impl_within n least most) 0 (funPost (envOf []) f_impl_within fun r => areEq r [⟨.bool, decide (least ≤ n ∧ n ≤ most)⟩]) (startState f_impl_within [.val ⟨(.int .i64), n⟩, .val ⟨(.int .i64), least⟩, .val ⟨(.int .i64), most⟩]) =
 ((((decide (least ≤ n)) = true →
 ((decide (n ≤ most)) = (decide (least ≤ n ∧ n ≤ most)))) ∧ ((decide (least ≤ n)) = (!true) →
 (false = (decide (least ≤ n ∧ n ≤ most)))))) := by kernel_rfl
theorem ok_impl_within (hE : AllGood []) : Ctr.Good k_impl_within := by
 refine ⟨fnOk_of at_impl_within rfl (by decide), ?_⟩
 show ∀ (n : Int) (least : Int) (most : Int), True → OkCall prog n_impl_within [.val ⟨(.int .i64), n⟩, .val ⟨(.int .i64), least⟩, .val ⟨(.int .i64), most⟩] (· = [⟨.bool, decide (least ≤ n ∧ n ≤ most)⟩])
 intro n least most _
 refine ok_of_awp (wr := []) (cl := []) (ro := []) hE at_impl_within body_impl_within (l_impl_within n least most) ?_
 rewrite [vc_impl_within n least most]
 refine ⟨fun a0 => ?_, fun a0 => ?_⟩
 all_goals try and_intros
 all_goals first | rfl | trivial | (simp_all; done) | (simp_all; omega)
theorem good_impl_within : Ctr.Good k_impl_within := ok_impl_within trivial
def k_spec_l00In : Ctr := ⟨n_spec_l00In, [.v (.int .i64), .v (.int .i64), .v (.int .i64)], fun (n : Int) (low : Int) (high : Int) => ⟨(none, [⟨.bool, decide (low ≤ n ∧ n ≤ high)⟩])⟩⟩
def l_spec_l00In (n : Int) (low : Int) (high : Int) : Nat → LoopInv := fun _ => .none
theorem vc_spec_l00In (n : Int) (low : Int) (high : Int) : awp (envOf []) (bodyOf f_spec_l00In) (l_spec_l00In n low high) 0 (funPost (envOf []) f_spec_l00In fun r => areEq r [⟨.bool, decide (low ≤ n ∧ n ≤ high)⟩]) (startState f_spec_l00In [.val ⟨(.int .i64), n⟩, .val ⟨(.int .i64), low⟩, .val ⟨(.int .i64), high⟩]) =
 ((((decide (low ≤ n)) = true →
 ((decide (n ≤ high)) = (decide (low ≤ n ∧ n ≤ high)))) ∧ ((decide (low ≤ n)) = (!true) →
 (false = (decide (low ≤ n ∧ n ≤ high)))))) := by kernel_rfl
theorem ok_spec_l00In (hE : AllGood []) : Ctr.Good k_spec_l00In := by
 refine ⟨fnOk_of at_spec_l00In rfl (by decide), ?_⟩
 show ∀ (n : Int) (low : Int) (high : Int), True → OkCall prog n_spec_l00In [.val ⟨(.int .i64), n⟩, .val ⟨(.int .i64), low⟩, .val ⟨(.int .i64), high⟩] (· = [⟨.bool, decide (low ≤ n ∧ n ≤ high)⟩])
 intro n low high _
 refine ok_of_awp (wr := []) (cl := []) (ro := []) hE at_spec_l00In body_spec_l00In (l_spec_l00In n low high) ?_
 rewrite [vc_spec_l00In n low high]
 refine ⟨fun a0 => ?_, fun a0 => ?_⟩
 all_goals try and_intros
 all_goals first | rfl | trivial | (simp_all; done) | (simp_all; omega)
theorem good_spec_l00In : Ctr.Good k_spec_l00In := ok_spec_l00In trivial
def headE (t a : Int) (x : GExpr) : Bool := decide (kidsN x.kind = (x.kids.length : Int)) &&
 (if x.kind = 3 then decide (0 ≤ x.num ∧ x.num ≤ t) else if x.kind = 4 then decide (0 ≤ x.num ∧ x.num ≤ a) else decide (x.num = 0)) &&
 (!decide (x.kind = 5) || condE (x.kids.getD 0 ⟨0, 0, []⟩))
mutual
def treeE (t a : Int) : GExpr → Bool
 | ⟨k, n, ks⟩ => headE t a ⟨k, n, ks⟩ && treeEs t a ks
def treeEs (t a : Int) : List GExpr → Bool
 | [] => true
 | k :: ks => treeE t a k && treeEs t a ks
end
end
end Go.Proofs.YtkogipcdjalehaaDoor

set_option linter.unusedVariables false
set_option linter.unusedSimpArgs false
set_option linter.unusedSectionVars false
set_option maxRecDepth 4000
set_option maxHeartbeats 4000000
namespace Go.Proofs.YtkogipcdjalehaaDoor
noncomputable section
def sigOk (gg : GSig) : Bool := decide (0 ≤ gg.tests ∧ gg.tests ≤ 3) && decide (0 ≤ gg.actions ∧ gg.actions ≤ 4)
def k_impl_ValidSig : Ctr := ⟨n_impl_ValidSig, [.v (.st .sig)], fun (gg : GSig) => ⟨(none, [⟨.bool, sigOk gg⟩])⟩⟩
def l_impl_ValidSig (gg : GSig) : Nat → LoopInv := fun _ => .none
theorem vc_impl_ValidSig (gg : GSig) : awp (envOf [k_impl_within] [] [] [1]) (bodyOf f_impl_ValidSig) (l_impl_ValidSig gg) 0 (funPost (envOf [k_impl_within] [] [] [1]) f_impl_ValidSig fun r => areEq r [⟨.bool, sigOk gg⟩]) (startState f_impl_ValidSig [.val ⟨(.st .sig), gg⟩]) =
 ((inI64 gg.tests →
 ((((decide ((0 : Int) ≤ gg.tests ∧ gg.tests ≤ (3 : Int))) = true) →
 (inI64 gg.actions →
 ((decide ((0 : Int) ≤ gg.actions ∧ gg.actions ≤ (4 : Int))) = (sigOk gg)))) ∧ (((decide ((0 : Int) ≤ gg.tests ∧ gg.tests ≤ (3 : Int))) = (!true)) →
 false = (sigOk gg))))) := by kernel_rfl
theorem ok_impl_ValidSig (hE : AllGood [k_impl_within]) : Ctr.Good k_impl_ValidSig := by
 refine ⟨fnOk_of at_impl_ValidSig rfl (by decide), ?_⟩
 show ∀ (gg : GSig), True → OkCall prog n_impl_ValidSig [.val ⟨(.st .sig), gg⟩] (· = [⟨.bool, sigOk gg⟩])
 intro gg _
 refine ok_of_awp (wr := []) (cl := []) (ro := [1]) hE at_impl_ValidSig body_impl_ValidSig (l_impl_ValidSig gg) ?_
 rewrite [vc_impl_ValidSig gg]
 refine fun a0 => ⟨fun a1 => fun a2 => ?_, fun a1 => ?_⟩
 all_goals try and_intros
 all_goals first | rfl | trivial | (simp_all [sigOk]; done) | (simp_all [sigOk]; omega)
theorem good_impl_ValidSig : Ctr.Good k_impl_ValidSig := ok_impl_ValidSig ⟨good_impl_within, trivial⟩
def k_spec_l01Sig : Ctr := ⟨n_spec_l01Sig, [.v (.st .sig)], fun (gg : GSig) => ⟨(none, [⟨.bool, sigOk gg⟩])⟩⟩
def l_spec_l01Sig (gg : GSig) : Nat → LoopInv := fun _ => .none
theorem vc_spec_l01Sig (gg : GSig) : awp (envOf [k_spec_l00In] [] [] [1]) (bodyOf f_spec_l01Sig) (l_spec_l01Sig gg) 0 (funPost (envOf [k_spec_l00In] [] [] [1]) f_spec_l01Sig fun r => areEq r [⟨.bool, sigOk gg⟩]) (startState f_spec_l01Sig [.val ⟨(.st .sig), gg⟩]) =
 ((inI64 gg.tests →
 ((((decide ((0 : Int) ≤ gg.tests ∧ gg.tests ≤ (3 : Int))) = true) →
 (inI64 gg.actions →
 ((decide ((0 : Int) ≤ gg.actions ∧ gg.actions ≤ (4 : Int))) = (sigOk gg)))) ∧ (((decide ((0 : Int) ≤ gg.tests ∧ gg.tests ≤ (3 : Int))) = (!true)) →
 false = (sigOk gg))))) := by kernel_rfl
theorem ok_spec_l01Sig (hE : AllGood [k_spec_l00In]) : Ctr.Good k_spec_l01Sig := by
 refine ⟨fnOk_of at_spec_l01Sig rfl (by decide), ?_⟩
 show ∀ (gg : GSig), True → OkCall prog n_spec_l01Sig [.val ⟨(.st .sig), gg⟩] (· = [⟨.bool, sigOk gg⟩])
 intro gg _
 refine ok_of_awp (wr := []) (cl := []) (ro := [1]) hE at_spec_l01Sig body_spec_l01Sig (l_spec_l01Sig gg) ?_
 rewrite [vc_spec_l01Sig gg]
 refine fun a0 => ⟨fun a1 => fun a2 => ?_, fun a1 => ?_⟩
 all_goals try and_intros
 all_goals first | rfl | trivial | (simp_all [sigOk]; done) | (simp_all [sigOk]; omega)
theorem good_spec_l01Sig : Ctr.Good k_spec_l01Sig := ok_spec_l01Sig ⟨good_spec_l00In, trivial⟩
end
end Go.Proofs.YtkogipcdjalehaaDoor

set_option linter.unusedVariables false
set_option linter.unusedSimpArgs false
set_option linter.unusedSectionVars false
namespace Go.Proofs.YtkogipcdjalehaaDoor
noncomputable section
end
end Go.Proofs.YtkogipcdjalehaaDoor
