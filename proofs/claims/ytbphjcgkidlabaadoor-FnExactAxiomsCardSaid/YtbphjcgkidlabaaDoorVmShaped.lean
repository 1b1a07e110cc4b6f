/- Expr, Expr2, Shaped. -/
import Derived.Test.YtbphjcgkidlabaaDoorVmUse
import Derived.Test.YtbphjcgkidlabaaDoorVmLib
set_option linter.unusedVariables false
set_option linter.unusedSimpArgs false
set_option linter.unusedSectionVars false
set_option maxRecDepth 4000
set_option maxHeartbeats 4000000
namespace Go.Proofs.YtbphjcgkidlabaaDoor
noncomputable section
mutual
def nodesE : GExpr → Nat
 | ⟨_, _, ks⟩ => 1 + nodesEs ks
def nodesEs : List GExpr → Nat
 | [] => 0
 | k :: ks => nodesE k + nodesEs ks
end
theorem nodesEs_eq : ∀ xs, nodesEs xs = szL nodesE xs
 | [] => rfl
 | x :: xs => by rw [nodesEs, szL, nodesEs_eq xs]
theorem nodesE_eq (x : GExpr) : nodesE x = 1 + szL nodesE x.kids := by
 cases x; simp [nodesE, nodesEs_eq]
mutual
def depthE : GExpr → Nat
 | ⟨_, _, ks⟩ => 1 + depthEs ks
def depthEs : List GExpr → Nat
 | [] => 0
 | k :: ks => max (depthE k) (depthEs ks)
end
theorem depthEs_eq : ∀ xs, depthEs xs = maxL depthE xs
 | [] => rfl
 | x :: xs => by rw [depthEs, maxL, depthEs_eq xs]
theorem depthE_eq (x : GExpr) : depthE x = 1 + maxL depthE x.kids := by
 cases x; simp [depthE, depthEs_eq]
mutual
theorem depth_nodes : ∀ x : GExpr, depthE x ≤ nodesE x
 | ⟨k, n, ks⟩ => by
  have := depths_nodes ks
  simp only [depthE, nodesE]; omega
theorem depths_nodes : ∀ xs : List GExpr, depthEs xs ≤ nodesEs xs
 | [] => by simp [depthEs]
 | x :: xs => by
  have h1 := depth_nodes x
  have h2 := depths_nodes xs
  simp only [depthEs, nodesEs]; omega
end
def condK (k : Int) : Bool := decide (k = 1) || decide (k = 2) || decide (k = 3) || decide (k = 5) || decide (k = 6) || decide (k = 7)
mutual
def condE : GExpr → Bool
 | ⟨k, _, ks⟩ => condK k && condEs ks
def condEs : List GExpr → Bool
 | [] => true
 | k :: ks => condE k && condEs ks
end
theorem condEs_eq : ∀ xs, condEs xs = allL condE xs
 | [] => rfl
 | x :: xs => by rw [condEs, allL, condEs_eq xs]
theorem condE_eq (x : GExpr) : condE x = (condK x.kind && allL condE x.kids) := by
 cases x; simp [condE, condEs_eq]
def kidsN (k : Int) : Int := if k = 1 ∨ k = 2 ∨ k = 3 ∨ k = 4 then 0 else if k = 5 ∨ k = 8 then 1 else if k = 6 ∨ k = 7 then 2 else -1
def k_impl_within : Ctr := ⟨n_impl_within, [.v (.int .i64), .v (.int .i64), .v (.int .i64)], fun (n : Int) (least : Int) (most : Int) => ⟨(none, [⟨.bool, decide (least ≤ n ∧ n ≤ most)⟩])⟩⟩
def l_impl_within (n : Int) (least : Int) (most : Int) : Nat → LoopInv := fun _ => .none
theorem vc_impl_within (n : Int) (least : Int) (most : Int) : awp (envOf []) (bodyOf f_impl_within) (l_impl_within n least most) 0 (funPost (envOf []) f_impl_within fun r => areEq r [⟨.bool, decide (least ≤ n ∧ n ≤ most)⟩]) (startState f_impl_within [.val ⟨(.int .i64), n⟩, .val ⟨(.int .i64), least⟩, .val ⟨(.int .i64), most⟩]) =
 ((((decide (least ≤ n)) = true →
 ((decide (n ≤ most)) = (decide (least ≤ n ∧ n ≤ most)))) ∧ ((decide (least ≤ n)) = (!true) →
 (false = (decide (least ≤ n ∧ n ≤ most)))))) := by kernel_rfl
theorem ok_impl_within (hE : AllGood []) : Ctr.Good k_impl_within := by
 refine ⟨fnOk_of at_impl_within rfl (by decide), ?_⟩
 show ∀ (n : Int) (least : Int) (most : Int), True → OkCall prog n_impl_within [.val ⟨(.int .i64), n⟩, .val ⟨(.int .i64), least⟩, .val ⟨(.int .i64), most⟩] (· = [⟨.bool, decide (least ≤ n ∧ n ≤ most)⟩])
 intro n least most _
 refine ok_of_awp (wr := []) (cl := []) (ro := []) hE at_impl_within body_impl_within (l_impl_within n least most) ?_
 rewrite [vc_impl_within n least most]
 refine ⟨fun a0 => ?_, fun a0 => ?_⟩
 all_goals try and_intros
 all_goals first | rfl | trivial | (simp_all; done) | (simp_all; omega)
theorem good_impl_within : Ctr.Good k_impl_within := ok_impl_within trivial
def k_spec_l00In : Ctr := ⟨n_spec_l00In, [.v (.int .i64), .v (.int .i64), .v (.int .i64)], fun (n : Int) (low : Int) (high : Int) => ⟨(none, [⟨.bool, decide (low ≤ n ∧ n ≤ high)⟩])⟩⟩
def l_spec_l00In (n : Int) (low : Int) (high : Int) : Nat → LoopInv := fun _ => .none
theorem vc_spec_l00In (n : Int) (low : Int) (high : Int) : awp (envOf []) (bodyOf f_spec_l00In) (l_spec_l00In n low high) 0 (funPost (envOf []) f_spec_l00In fun r => areEq r [⟨.bool, decide (low ≤ n ∧ n ≤ high)⟩]) (startState f_spec_l00In [.val ⟨(.int .i64), n⟩, .val ⟨(.int .i64), low⟩, .val ⟨(.int .i64), high⟩]) =
 ((((decide (low ≤ n)) = true →
 ((decide (n ≤ high)) = (decide (low ≤ n ∧ n ≤ high)))) ∧ ((decide (low ≤ n)) = (!true) →
 (false = (decide (low ≤ n ∧ n ≤ high)))))) := by kernel_rfl
theorem ok_spec_l00In (hE : AllGood []) : Ctr.Good k_spec_l00In := by
 refine ⟨fnOk_of at_spec_l00In rfl (by decide), ?_⟩
 show ∀ (n : Int) (low : Int) (high : Int), True → OkCall prog n_spec_l00In [.val ⟨(.int .i64), n⟩, .val ⟨(.int .i64), low⟩, .val ⟨(.int .i64), high⟩] (· = [⟨.bool, decide (low ≤ n ∧ n ≤ high)⟩])
 intro n low high _
 refine ok_of_awp (wr := []) (cl := []) (ro := []) hE at_spec_l00In body_spec_l00In (l_spec_l00In n low high) ?_
 rewrite [vc_spec_l00In n low high]
 refine ⟨fun a0 => ?_, fun a0 => ?_⟩
 all_goals try and_intros
 all_goals first | rfl | trivial | (simp_all; done) | (simp_all; omega)
theorem good_spec_l00In : Ctr.Good k_spec_l00In := ok_spec_l00In trivial
def k_spec_l00Max : Ctr := ⟨n_spec_l00Max, [.v (.int .i64), .v (.int .i64)], fun (a : Int) (b : Int) => ⟨(none, [⟨(.int .i64), max a b⟩])⟩⟩
def l_spec_l00Max (a : Int) (b : Int) : Nat → LoopInv := fun _ => .none
theorem vc_spec_l00Max (a : Int) (b : Int) : awp (envOf []) (bodyOf f_spec_l00Max) (l_spec_l00Max a b) 0 (funPost (envOf []) f_spec_l00Max fun r => areEq r [⟨(.int .i64), max a b⟩]) (startState f_spec_l00Max [.val ⟨(.int .i64), a⟩, .val ⟨(.int .i64), b⟩]) =
 ((((decide (b < a)) = true →
 a = (max a b)) ∧ ((decide (b < a)) = false →
 b = (max a b)))) := by kernel_rfl
theorem ok_spec_l00Max (hE : AllGood []) : Ctr.Good k_spec_l00Max := by
 refine ⟨fnOk_of at_spec_l00Max rfl (by decide), ?_⟩
 show ∀ (a : Int) (b : Int), True → OkCall prog n_spec_l00Max [.val ⟨(.int .i64), a⟩, .val ⟨(.int .i64), b⟩] (· = [⟨(.int .i64), max a b⟩])
 intro a b _
 refine ok_of_awp (wr := []) (cl := []) (ro := []) hE at_spec_l00Max body_spec_l00Max (l_spec_l00Max a b) ?_
 rewrite [vc_spec_l00Max a b]
 refine ⟨fun a0 => ?_, fun a0 => ?_⟩
 all_goals try and_intros
 all_goals first | rfl | trivial | (simp_all; omega)
theorem good_spec_l00Max : Ctr.Good k_spec_l00Max := ok_spec_l00Max trivial
def k_impl_kidsOf : Ctr := ⟨n_impl_kidsOf, [.v (.int .i64)], fun (k : Int) => ⟨(none, [⟨(.int .i64), kidsN k⟩])⟩⟩
def l_impl_kidsOf (k : Int) : Nat → LoopInv := fun _ => .none
abbrev j_impl_kidsOf_0 (k : Int) : Prop := (((decide (k = (6 : Int))) = true →
 (((decide (k = (6 : Int))) = true →
 (2 : Int) = (kidsN k)) ∧ ((decide (k = (6 : Int))) = false →
 (-1 : Int) = (kidsN k)))) ∧ ((decide (k = (6 : Int))) = false →
 (((decide (k = (7 : Int))) = true →
 (2 : Int) = (kidsN k)) ∧ ((decide (k = (7 : Int))) = false →
 (-1 : Int) = (kidsN k)))))
abbrev j_impl_kidsOf_1 (k : Int) : Prop := (((decide (k = (5 : Int))) = true →
 (((decide (k = (5 : Int))) = true →
 (1 : Int) = (kidsN k)) ∧ ((decide (k = (5 : Int))) = false →
 (j_impl_kidsOf_0 k)))) ∧ ((decide (k = (5 : Int))) = false →
 (((decide (k = (8 : Int))) = true →
 (1 : Int) = (kidsN k)) ∧ ((decide (k = (8 : Int))) = false →
 (j_impl_kidsOf_0 k)))))
theorem vc_impl_kidsOf (k : Int) : awp (envOf []) (bodyOf f_impl_kidsOf) (l_impl_kidsOf k) 0 (funPost (envOf []) f_impl_kidsOf fun r => areEq r [⟨(.int .i64), kidsN k⟩]) (startState f_impl_kidsOf [.val ⟨(.int .i64), k⟩]) =
 ((((decide (k = (1 : Int))) = true →
 (((decide (k = (1 : Int))) = true →
 (0 : Int) = (kidsN k)) ∧ ((decide (k = (1 : Int))) = false →
 (j_impl_kidsOf_1 k)))) ∧ ((decide (k = (1 : Int))) = false →
 (((decide (k = (2 : Int))) = true →
 (((decide (k = (2 : Int))) = true →
 (0 : Int) = (kidsN k)) ∧ ((decide (k = (2 : Int))) = false →
 (j_impl_kidsOf_1 k)))) ∧ ((decide (k = (2 : Int))) = false →
 (((decide (k = (3 : Int))) = true →
 (((decide (k = (3 : Int))) = true →
 (0 : Int) = (kidsN k)) ∧ ((decide (k = (3 : Int))) = false →
 (j_impl_kidsOf_1 k)))) ∧ ((decide (k = (3 : Int))) = false →
 (((decide (k = (4 : Int))) = true →
 (0 : Int) = (kidsN k)) ∧ ((decide (k = (4 : Int))) = false →
 (j_impl_kidsOf_1 k)))))))))) := by kernel_rfl
theorem ok_impl_kidsOf (hE : AllGood []) : Ctr.Good k_impl_kidsOf := by
 refine ⟨fnOk_of at_impl_kidsOf rfl (by decide), ?_⟩
 show ∀ (k : Int), True → OkCall prog n_impl_kidsOf [.val ⟨(.int .i64), k⟩] (· = [⟨(.int .i64), kidsN k⟩])
 intro k _
 refine ok_of_awp (wr := []) (cl := []) (ro := []) hE at_impl_kidsOf body_impl_kidsOf (l_impl_kidsOf k) ?_
 rewrite [vc_impl_kidsOf k]
 refine ⟨fun a0 => ⟨fun a1 => ?_, fun a1 => ⟨fun a2 => ⟨fun a3 => ?_, fun a3 => ⟨fun a4 => ⟨fun a5 => ?_, fun a5 => ?_⟩, fun a4 => ⟨fun a5 => ?_, fun a5 => ?_⟩⟩⟩, fun a2 => ⟨fun a3 => ?_, fun a3 => ⟨fun a4 => ⟨fun a5 => ?_, fun a5 => ?_⟩, fun a4 => ⟨fun a5 => ?_, fun a5 => ?_⟩⟩⟩⟩⟩, fun a0 => ⟨fun a1 => ⟨fun a2 => ?_, fun a2 => ⟨fun a3 => ⟨fun a4 => ?_, fun a4 => ⟨fun a5 => ⟨fun a6 => ?_, fun a6 => ?_⟩, fun a5 => ⟨fun a6 => ?_, fun a6 => ?_⟩⟩⟩, fun a3 => ⟨fun a4 => ?_, fun a4 => ⟨fun a5 => ⟨fun a6 => ?_, fun a6 => ?_⟩, fun a5 => ⟨fun a6 => ?_, fun a6 => ?_⟩⟩⟩⟩⟩, fun a1 => ⟨fun a2 => ⟨fun a3 => ?_, fun a3 => ⟨fun a4 => ⟨fun a5 => ?_, fun a5 => ⟨fun a6 => ⟨fun a7 => ?_, fun a7 => ?_⟩, fun a6 => ⟨fun a7 => ?_, fun a7 => ?_⟩⟩⟩, fun a4 => ⟨fun a5 => ?_, fun a5 => ⟨fun a6 => ⟨fun a7 => ?_, fun a7 => ?_⟩, fun a6 => ⟨fun a7 => ?_, fun a7 => ?_⟩⟩⟩⟩⟩, fun a2 => ⟨fun a3 => ?_, fun a3 => ⟨fun a4 => ⟨fun a5 => ?_, fun a5 => ⟨fun a6 => ⟨fun a7 => ?_, fun a7 => ?_⟩, fun a6 => ⟨fun a7 => ?_, fun a7 => ?_⟩⟩⟩, fun a4 => ⟨fun a5 => ?_, fun a5 => ⟨fun a6 => ⟨fun a7 => ?_, fun a7 => ?_⟩, fun a6 => ⟨fun a7 => ?_, fun a7 => ?_⟩⟩⟩⟩⟩⟩⟩⟩
 all_goals try and_intros
 all_goals first | rfl | trivial | (simp only [decide_eq_true_eq, decide_eq_false_iff_not] at *; simp [kidsN, *]; done) | (simp only [decide_eq_true_eq, decide_eq_false_iff_not] at *; unfold kidsN; repeat (first | omega | split))
theorem good_impl_kidsOf : Ctr.Good k_impl_kidsOf := ok_impl_kidsOf trivial
def k_spec_l01Kids : Ctr := ⟨n_spec_l01Kids, [.v (.int .i64)], fun (k : Int) => ⟨(none, [⟨(.int .i64), kidsN k⟩])⟩⟩
def l_spec_l01Kids (k : Int) : Nat → LoopInv := fun _ => .none
abbrev j_spec_l01Kids_0 (k : Int) : Prop := (((decide (k = (6 : Int))) = true →
 (((decide (k = (6 : Int))) = true →
 (2 : Int) = (kidsN k)) ∧ ((decide (k = (6 : Int))) = false →
 (-1 : Int) = (kidsN k)))) ∧ ((decide (k = (6 : Int))) = false →
 (((decide (k = (7 : Int))) = true →
 (2 : Int) = (kidsN k)) ∧ ((decide (k = (7 : Int))) = false →
 (-1 : Int) = (kidsN k)))))
abbrev j_spec_l01Kids_1 (k : Int) : Prop := (((decide (k = (5 : Int))) = true →
 (((decide (k = (5 : Int))) = true →
 (1 : Int) = (kidsN k)) ∧ ((decide (k = (5 : Int))) = false →
 (j_spec_l01Kids_0 k)))) ∧ ((decide (k = (5 : Int))) = false →
 (((decide (k = (8 : Int))) = true →
 (1 : Int) = (kidsN k)) ∧ ((decide (k = (8 : Int))) = false →
 (j_spec_l01Kids_0 k)))))
theorem vc_spec_l01Kids (k : Int) : awp (envOf []) (bodyOf f_spec_l01Kids) (l_spec_l01Kids k) 0 (funPost (envOf []) f_spec_l01Kids fun r => areEq r [⟨(.int .i64), kidsN k⟩]) (startState f_spec_l01Kids [.val ⟨(.int .i64), k⟩]) =
 ((((decide (k = (1 : Int))) = true →
 (((decide (k = (1 : Int))) = true →
 (0 : Int) = (kidsN k)) ∧ ((decide (k = (1 : Int))) = false →
 (j_spec_l01Kids_1 k)))) ∧ ((decide (k = (1 : Int))) = false →
 (((decide (k = (2 : Int))) = true →
 (((decide (k = (2 : Int))) = true →
 (0 : Int) = (kidsN k)) ∧ ((decide (k = (2 : Int))) = false →
 (j_spec_l01Kids_1 k)))) ∧ ((decide (k = (2 : Int))) = false →
 (((decide (k = (3 : Int))) = true →
 (((decide (k = (3 : Int))) = true →
 (0 : Int) = (kidsN k)) ∧ ((decide (k = (3 : Int))) = false →
 (j_spec_l01Kids_1 k)))) ∧ ((decide (k = (3 : Int))) = false →
 (((decide (k = (4 : Int))) = true →
 (0 : Int) = (kidsN k)) ∧ ((decide (k = (4 : Int))) = false →
 (j_spec_l01Kids_1 k)))))))))) := by kernel_rfl
theorem ok_spec_l01Kids (hE : AllGood []) : Ctr.Good k_spec_l01Kids := by
 refine ⟨fnOk_of at_spec_l01Kids rfl (by decide), ?_⟩
 show ∀ (k : Int), True → OkCall prog n_spec_l01Kids [.val ⟨(.int .i64), k⟩] (· = [⟨(.int .i64), kidsN k⟩])
 intro k _
 refine ok_of_awp (wr := []) (cl := []) (ro := []) hE at_spec_l01Kids body_spec_l01Kids (l_spec_l01Kids k) ?_
 rewrite [vc_spec_l01Kids k]
 refine ⟨fun a0 => ⟨fun a1 => ?_, fun a1 => ⟨fun a2 => ⟨fun a3 => ?_, fun a3 => ⟨fun a4 => ⟨fun a5 => ?_, fun a5 => ?_⟩, fun a4 => ⟨fun a5 => ?_, fun a5 => ?_⟩⟩⟩, fun a2 => ⟨fun a3 => ?_, fun a3 => ⟨fun a4 => ⟨fun a5 => ?_, fun a5 => ?_⟩, fun a4 => ⟨fun a5 => ?_, fun a5 => ?_⟩⟩⟩⟩⟩, fun a0 => ⟨fun a1 => ⟨fun a2 => ?_, fun a2 => ⟨fun a3 => ⟨fun a4 => ?_, fun a4 => ⟨fun a5 => ⟨fun a6 => ?_, fun a6 => ?_⟩, fun a5 => ⟨fun a6 => ?_, fun a6 => ?_⟩⟩⟩, fun a3 => ⟨fun a4 => ?_, fun a4 => ⟨fun a5 => ⟨fun a6 => ?_, fun a6 => ?_⟩, fun a5 => ⟨fun a6 => ?_, fun a6 => ?_⟩⟩⟩⟩⟩, fun a1 => ⟨fun a2 => ⟨fun a3 => ?_, fun a3 => ⟨fun a4 => ⟨fun a5 => ?_, fun a5 => ⟨fun a6 => ⟨fun a7 => ?_, fun a7 => ?_⟩, fun a6 => ⟨fun a7 => ?_, fun a7 => ?_⟩⟩⟩, fun a4 => ⟨fun a5 => ?_, fun a5 => ⟨fun a6 => ⟨fun a7 => ?_, fun a7 => ?_⟩, fun a6 => ⟨fun a7 => ?_, fun a7 => ?_⟩⟩⟩⟩⟩, fun a2 => ⟨fun a3 => ?_, fun a3 => ⟨fun a4 => ⟨fun a5 => ?_, fun a5 => ⟨fun a6 => ⟨fun a7 => ?_, fun a7 => ?_⟩, fun a6 => ⟨fun a7 => ?_, fun a7 => ?_⟩⟩⟩, fun a4 => ⟨fun a5 => ?_, fun a5 => ⟨fun a6 => ⟨fun a7 => ?_, fun a7 => ?_⟩, fun a6 => ⟨fun a7 => ?_, fun a7 => ?_⟩⟩⟩⟩⟩⟩⟩⟩
 all_goals try and_intros
 all_goals first | rfl | trivial | (simp only [decide_eq_true_eq, decide_eq_false_iff_not] at *; simp [kidsN, *]; done) | (simp only [decide_eq_true_eq, decide_eq_false_iff_not] at *; unfold kidsN; repeat (first | omega | split))
theorem good_spec_l01Kids : Ctr.Good k_spec_l01Kids := ok_spec_l01Kids trivial
def kn_impl_IsCondition (n : Nat) : Ctr := ⟨n_impl_IsCondition, [.v (.st .expr)], fun (x : GExpr) => ⟨(some (msz x < n), [⟨.bool, condE x⟩])⟩⟩
def k_impl_IsCondition : Ctr := ⟨n_impl_IsCondition, [.v (.st .expr)], fun (x : GExpr) => ⟨(none, [⟨.bool, condE x⟩])⟩⟩
def l_impl_IsCondition (x : GExpr) : Nat → LoopInv := (fun zb => if Nat.beq zb 1 then .mk (Nat) (fun k => k ≤ x.kids.length ∧ allL condE (x.kids.take k) = true) (fun k => x.kids.length - k) [] [0, 1, 3, 5, 6, 7, 8, 9, 10, 11, 12, 13, 14] (fun k => [(17, .imm ⟨(.int .i64), ((k : Int) : Int)⟩)]) [2, 4, 15, 16, 17, 18, 19, 20, 21, 22, 23, 24] (fun k => []) [] [] (fun k => fun _ => .none) else .none)
abbrev j_impl_IsCondition_0 (n : Nat) (x : GExpr) : Prop := (x.kids.length ≤ 140737488355328 →
 (inI64 ((x.kids.length : Int)) →
 ((∃ k1 : Nat, ((k1 ≤ x.kids.length ∧ allL condE (x.kids.take k1) = true) ∧ ((x.kids = x.kids ∧ (((x.kids.length : Int)) = ((x.kids.length : Int)) ∧ ((0 : Int) = (k1 : Int) ∧ True))) ∧ True))) ∧ (∀ k1 : Nat, ((k1 ≤ x.kids.length ∧ allL condE (x.kids.take k1) = true) →
 (((decide ((k1 : Int) < ((x.kids.length : Int)))) = true →
 (idxOk (k1 : Int) x.kids.length ∧ (msz (e_expr (x.kids.getD k1 zE)) < n ∧ (((!(condE (e_expr (x.kids.getD k1 zE)))) = true →
 false = (condE x)) ∧ ((!(condE (e_expr (x.kids.getD k1 zE)))) = false →
 (inI64 ((k1 : Int) + (1 : Int)) ∧ (∃ k2 : Nat, ((k2 ≤ x.kids.length ∧ allL condE (x.kids.take k2) = true) ∧ (x.kids.length - k2 < x.kids.length - k1 ∧ ((x.kids = x.kids ∧ (((x.kids.length : Int)) = ((x.kids.length : Int)) ∧ (((k1 : Int) + (1 : Int)) = (k2 : Int) ∧ True))) ∧ True)))))))))) ∧ ((decide ((k1 : Int) < ((x.kids.length : Int)))) = false →
 true = (condE x))))))))
theorem vc_impl_IsCondition (n : Nat) (x : GExpr) : awp (envOf [kn_impl_IsCondition n] [] [] [1]) (bodyOf f_impl_IsCondition) (l_impl_IsCondition x) 0 (funPost (envOf [kn_impl_IsCondition n] [] [] [1]) f_impl_IsCondition fun r => areEq r [⟨.bool, condE x⟩]) (startState f_impl_IsCondition [.val ⟨(.st .expr), x⟩]) =
 ((inI64 x.kind →
 (((decide (x.kind = (1 : Int))) = true →
 (((decide (x.kind = (1 : Int))) = true →
 (j_impl_IsCondition_0 n x)) ∧ ((decide (x.kind = (1 : Int))) = false →
 false = (condE x)))) ∧ ((decide (x.kind = (1 : Int))) = false →
 (((decide (x.kind = (2 : Int))) = true →
 (((decide (x.kind = (2 : Int))) = true →
 (j_impl_IsCondition_0 n x)) ∧ ((decide (x.kind = (2 : Int))) = false →
 false = (condE x)))) ∧ ((decide (x.kind = (2 : Int))) = false →
 (((decide (x.kind = (3 : Int))) = true →
 (((decide (x.kind = (3 : Int))) = true →
 (j_impl_IsCondition_0 n x)) ∧ ((decide (x.kind = (3 : Int))) = false →
 false = (condE x)))) ∧ ((decide (x.kind = (3 : Int))) = false →
 (((decide (x.kind = (5 : Int))) = true →
 (((decide (x.kind = (5 : Int))) = true →
 (j_impl_IsCondition_0 n x)) ∧ ((decide (x.kind = (5 : Int))) = false →
 false = (condE x)))) ∧ ((decide (x.kind = (5 : Int))) = false →
 (((decide (x.kind = (6 : Int))) = true →
 (((decide (x.kind = (6 : Int))) = true →
 (j_impl_IsCondition_0 n x)) ∧ ((decide (x.kind = (6 : Int))) = false →
 false = (condE x)))) ∧ ((decide (x.kind = (6 : Int))) = false →
 (((decide (x.kind = (7 : Int))) = true →
 (j_impl_IsCondition_0 n x)) ∧ ((decide (x.kind = (7 : Int))) = false →
 false = (condE x))))))))))))))) := by kernel_rfl
theorem ok_impl_IsCondition (n : Nat) (hE : AllGood [kn_impl_IsCondition n]) : Ctr.Good (kn_impl_IsCondition (n + 1)) := by
 refine ⟨fnOk_of at_impl_IsCondition rfl (by decide), ?_⟩
 show ∀ (x : GExpr), (msz x < n + 1) → OkCall prog n_impl_IsCondition [.val ⟨(.st .expr), x⟩] (· = [⟨.bool, condE x⟩])
 intro x hp
 refine ok_of_awp (wr := []) (cl := []) (ro := [1]) hE at_impl_IsCondition body_impl_IsCondition (l_impl_IsCondition x) ?_
 rewrite [vc_impl_IsCondition n x]
 have f0 := msz_kids x
 have f1 := all_zero condE x.kids
 refine fun a0 => ⟨fun a1 => ⟨fun a2 => fun a3 => fun a4 => ⟨⟨0, ⟨?_, ⟨⟨rfl, ⟨rfl, ⟨?_, trivial⟩⟩⟩, trivial⟩⟩⟩, fun k1 a5 => have b5x0 := all_take condE zE x.kids k1; have b5x1 := all_bad condE zE x.kids k1; have b5x2 := all_done condE x.kids k1; have b5x3 := msz_getD zE x.kids k1; ⟨fun a6 => ⟨?_, ⟨?_, ⟨fun a7 => ?_, fun a7 => ⟨?_, ⟨k1 + 1, ⟨?_, ⟨?_, ⟨⟨rfl, ⟨rfl, ⟨?_, trivial⟩⟩⟩, trivial⟩⟩⟩⟩⟩⟩⟩⟩, fun a6 => ?_⟩⟩, fun a2 => ?_⟩, fun a1 => ⟨fun a2 => ⟨fun a3 => fun a4 => fun a5 => ⟨⟨0, ⟨?_, ⟨⟨rfl, ⟨rfl, ⟨?_, trivial⟩⟩⟩, trivial⟩⟩⟩, fun k1 a6 => have b6x0 := all_take condE zE x.kids k1; have b6x1 := all_bad condE zE x.kids k1; have b6x2 := all_done condE x.kids k1; have b6x3 := msz_getD zE x.kids k1; ⟨fun a7 => ⟨?_, ⟨?_, ⟨fun a8 => ?_, fun a8 => ⟨?_, ⟨k1 + 1, ⟨?_, ⟨?_, ⟨⟨rfl, ⟨rfl, ⟨?_, trivial⟩⟩⟩, trivial⟩⟩⟩⟩⟩⟩⟩⟩, fun a7 => ?_⟩⟩, fun a3 => ?_⟩, fun a2 => ⟨fun a3 => ⟨fun a4 => fun a5 => fun a6 => ⟨⟨0, ⟨?_, ⟨⟨rfl, ⟨rfl, ⟨?_, trivial⟩⟩⟩, trivial⟩⟩⟩, fun k1 a7 => have b7x0 := all_take condE zE x.kids k1; have b7x1 := all_bad condE zE x.kids k1; have b7x2 := all_done condE x.kids k1; have b7x3 := msz_getD zE x.kids k1; ⟨fun a8 => ⟨?_, ⟨?_, ⟨fun a9 => ?_, fun a9 => ⟨?_, ⟨k1 + 1, ⟨?_, ⟨?_, ⟨⟨rfl, ⟨rfl, ⟨?_, trivial⟩⟩⟩, trivial⟩⟩⟩⟩⟩⟩⟩⟩, fun a8 => ?_⟩⟩, fun a4 => ?_⟩, fun a3 => ⟨fun a4 => ⟨fun a5 => fun a6 => fun a7 => ⟨⟨0, ⟨?_, ⟨⟨rfl, ⟨rfl, ⟨?_, trivial⟩⟩⟩, trivial⟩⟩⟩, fun k1 a8 => have b8x0 := all_take condE zE x.kids k1; have b8x1 := all_bad condE zE x.kids k1; have b8x2 := all_done condE x.kids k1; have b8x3 := msz_getD zE x.kids k1; ⟨fun a9 => ⟨?_, ⟨?_, ⟨fun a10 => ?_, fun a10 => ⟨?_, ⟨k1 + 1, ⟨?_, ⟨?_, ⟨⟨rfl, ⟨rfl, ⟨?_, trivial⟩⟩⟩, trivial⟩⟩⟩⟩⟩⟩⟩⟩, fun a9 => ?_⟩⟩, fun a5 => ?_⟩, fun a4 => ⟨fun a5 => ⟨fun a6 => fun a7 => fun a8 => ⟨⟨0, ⟨?_, ⟨⟨rfl, ⟨rfl, ⟨?_, trivial⟩⟩⟩, trivial⟩⟩⟩, fun k1 a9 => have b9x0 := all_take condE zE x.kids k1; have b9x1 := all_bad condE zE x.kids k1; have b9x2 := all_done condE x.kids k1; have b9x3 := msz_getD zE x.kids k1; ⟨fun a10 => ⟨?_, ⟨?_, ⟨fun a11 => ?_, fun a11 => ⟨?_, ⟨k1 + 1, ⟨?_, ⟨?_, ⟨⟨rfl, ⟨rfl, ⟨?_, trivial⟩⟩⟩, trivial⟩⟩⟩⟩⟩⟩⟩⟩, fun a10 => ?_⟩⟩, fun a6 => ?_⟩, fun a5 => ⟨fun a6 => fun a7 => fun a8 => ⟨⟨0, ⟨?_, ⟨⟨rfl, ⟨rfl, ⟨?_, trivial⟩⟩⟩, trivial⟩⟩⟩, fun k1 a9 => have b9x0 := all_take condE zE x.kids k1; have b9x1 := all_bad condE zE x.kids k1; have b9x2 := all_done condE x.kids k1; have b9x3 := msz_getD zE x.kids k1; ⟨fun a10 => ⟨?_, ⟨?_, ⟨fun a11 => ?_, fun a11 => ⟨?_, ⟨k1 + 1, ⟨?_, ⟨?_, ⟨⟨rfl, ⟨rfl, ⟨?_, trivial⟩⟩⟩, trivial⟩⟩⟩⟩⟩⟩⟩⟩, fun a10 => ?_⟩⟩, fun a6 => ?_⟩⟩⟩⟩⟩⟩
 all_goals try and_intros
 all_goals try simp only [GExpr.eta, GProg.eta, GDerivation.eta, GTriple.eta, GPremise.eta, GClaim.eta, GEquation.eta, GPair.eta, GSpot.eta, e_expr_eq, e_pair_eq, e_equation_eq, e_claim_eq, e_prog_eq, e_spot_eq, e_triple_eq, e_premise_eq, e_derivation_eq] at *
 all_goals try rw [condE_eq x]
 all_goals first | rfl | trivial | (simp only [decide_eq_true_eq, decide_eq_false_iff_not, idxOk, inI64] at *; omega) | (simp_all [condK]; done) | (simp_all [condK, idxOk, inI64]; omega)
theorem all_cond_i  : ∀ n, AllGood [kn_impl_IsCondition n]
 | 0 => ⟨⟨fnOk_of at_impl_IsCondition rfl (by decide), fun _ h => absurd h (Nat.not_lt_zero _)⟩, trivial⟩
 | n + 1 => by
  have ih := all_cond_i  n
  exact ⟨ok_impl_IsCondition n ⟨ih.1, trivial⟩, trivial⟩
theorem good_impl_IsCondition  : Ctr.Good k_impl_IsCondition :=
 ⟨fnOk_of at_impl_IsCondition rfl (by decide), fun x hp => (all_cond_i  (msz x + 1)).1.2 x (Nat.lt_succ_self _)⟩
def kn_spec_l01Condition (n : Nat) : Ctr := ⟨n_spec_l01Condition, [.r (.st .expr)], fun (x : GExpr) => ⟨(some (msz x < n), [⟨.bool, condE x⟩])⟩⟩
def k_spec_l01Condition : Ctr := ⟨n_spec_l01Condition, [.r (.st .expr)], fun (x : GExpr) => ⟨(none, [⟨.bool, condE x⟩])⟩⟩
def l_spec_l01Condition (x : GExpr) : Nat → LoopInv := (fun zb => if Nat.beq zb 0 then .mk (Nat) (fun k => k ≤ x.kids.length ∧ allL condE (x.kids.take k) = true) (fun k => x.kids.length - k) [] [1, 4, 5, 6, 7, 8, 9, 10, 11, 12, 13, 14, 15, 16] (fun k => [(3, .imm ⟨(.int .i64), ((k : Int) : Int)⟩)]) [0, 2, 3, 17, 18, 19, 20, 21, 22, 23, 24, 25, 26, 27, 28, 29, 30, 31, 32, 33] (fun k => []) [] [] (fun k => fun _ => .none) else .none)
abbrev j_spec_l01Condition_0 (n : Nat) (x : GExpr) : Prop := ((∃ k1 : Nat, ((k1 ≤ x.kids.length ∧ allL condE (x.kids.take k1) = true) ∧ ((x = x ∧ ((0 : Int) = (k1 : Int) ∧ True)) ∧ True))) ∧ (∀ k1 : Nat, ((k1 ≤ x.kids.length ∧ allL condE (x.kids.take k1) = true) →
 (x.kids.length ≤ 140737488355328 →
 (inI64 ((x.kids.length : Int)) →
 (((decide ((k1 : Int) < ((x.kids.length : Int)))) = true →
 (x.kids.length ≤ 140737488355328 →
 (idxOk (k1 : Int) x.kids.length ∧ (msz (x.kids.getD k1 zE) < n ∧ (((!(condE (x.kids.getD k1 zE))) = true →
 false = (condE x)) ∧ ((!(condE (x.kids.getD k1 zE))) = false →
 (inI64 ((k1 : Int) + (1 : Int)) ∧ (∃ k2 : Nat, ((k2 ≤ x.kids.length ∧ allL condE (x.kids.take k2) = true) ∧ (x.kids.length - k2 < x.kids.length - k1 ∧ ((x = x ∧ (((k1 : Int) + (1 : Int)) = (k2 : Int) ∧ True)) ∧ True))))))))))) ∧ ((decide ((k1 : Int) < ((x.kids.length : Int)))) = false →
 true = (condE x))))))))
theorem vc_spec_l01Condition (n : Nat) (x : GExpr) : awp (envOf [kn_spec_l01Condition n, k_spec_l00In]) (bodyOf f_spec_l01Condition) (l_spec_l01Condition x) 0 (funPost (envOf [kn_spec_l01Condition n, k_spec_l00In]) f_spec_l01Condition fun r => areEq r [⟨.bool, condE x⟩]) (startState f_spec_l01Condition [.ref ⟨(.st .expr), x⟩]) =
 ((inI64 x.kind →
 ((((!(decide ((1 : Int) ≤ x.kind ∧ x.kind ≤ (7 : Int)))) = false) →
 (inI64 x.kind →
 (((decide (x.kind = (4 : Int))) = true →
 false = (condE x)) ∧ ((decide (x.kind = (4 : Int))) = false →
 (j_spec_l01Condition_0 n x))))) ∧ (((!(decide ((1 : Int) ≤ x.kind ∧ x.kind ≤ (7 : Int)))) = (!false)) →
 ((true = true →
 false = (condE x)) ∧ (true = false →
 (j_spec_l01Condition_0 n x))))))) := by kernel_rfl
theorem ok_spec_l01Condition (n : Nat) (hE : AllGood [kn_spec_l01Condition n, k_spec_l00In]) : Ctr.Good (kn_spec_l01Condition (n + 1)) := by
 refine ⟨fnOk_of at_spec_l01Condition rfl (by decide), ?_⟩
 show ∀ (x : GExpr), (msz x < n + 1) → OkCall prog n_spec_l01Condition [.ref ⟨(.st .expr), x⟩] (· = [⟨.bool, condE x⟩])
 intro x hp
 refine ok_of_awp (wr := []) (cl := []) (ro := []) hE at_spec_l01Condition body_spec_l01Condition (l_spec_l01Condition x) ?_
 rewrite [vc_spec_l01Condition n x]
 have f0 := msz_kids x
 have f1 := all_zero condE x.kids
 refine fun a0 => ⟨fun a1 => fun a2 => ⟨fun a3 => ?_, fun a3 => ⟨⟨0, ⟨?_, ⟨⟨rfl, ⟨?_, trivial⟩⟩, trivial⟩⟩⟩, fun k1 a4 => have b4x0 := all_take condE zE x.kids k1; have b4x1 := all_bad condE zE x.kids k1; have b4x2 := all_done condE x.kids k1; have b4x3 := msz_getD zE x.kids k1; fun a5 => fun a6 => ⟨fun a7 => fun a8 => ⟨?_, ⟨?_, ⟨fun a9 => ?_, fun a9 => ⟨?_, ⟨k1 + 1, ⟨?_, ⟨?_, ⟨⟨rfl, ⟨?_, trivial⟩⟩, trivial⟩⟩⟩⟩⟩⟩⟩⟩, fun a7 => ?_⟩⟩⟩, fun a1 => ⟨fun a2 => ?_, fun a2 => ⟨⟨0, ⟨?_, ⟨⟨rfl, ⟨?_, trivial⟩⟩, trivial⟩⟩⟩, fun k1 a3 => have b3x0 := all_take condE zE x.kids k1; have b3x1 := all_bad condE zE x.kids k1; have b3x2 := all_done condE x.kids k1; have b3x3 := msz_getD zE x.kids k1; fun a4 => fun a5 => ⟨fun a6 => fun a7 => ⟨?_, ⟨?_, ⟨fun a8 => ?_, fun a8 => ⟨?_, ⟨k1 + 1, ⟨?_, ⟨?_, ⟨⟨rfl, ⟨?_, trivial⟩⟩, trivial⟩⟩⟩⟩⟩⟩⟩⟩, fun a6 => ?_⟩⟩⟩⟩
 all_goals try and_intros
 all_goals try rw [condE_eq x]
 all_goals first | rfl | trivial | (simp only [decide_eq_true_eq, decide_eq_false_iff_not, idxOk, inI64] at *; omega) | (simp_all [condK]; done) | (simp_all [condK, idxOk, inI64]; omega)
theorem all_cond_s  : ∀ n, AllGood [kn_spec_l01Condition n]
 | 0 => ⟨⟨fnOk_of at_spec_l01Condition rfl (by decide), fun _ h => absurd h (Nat.not_lt_zero _)⟩, trivial⟩
 | n + 1 => by
  have ih := all_cond_s  n
  exact ⟨ok_spec_l01Condition n ⟨ih.1, good_spec_l00In, trivial⟩, trivial⟩
theorem good_spec_l01Condition  : Ctr.Good k_spec_l01Condition :=
 ⟨fnOk_of at_spec_l01Condition rfl (by decide), fun x hp => (all_cond_s  (msz x + 1)).1.2 x (Nat.lt_succ_self _)⟩
def headE (t a : Int) (x : GExpr) : Bool := decide (kidsN x.kind = (x.kids.length : Int)) &&
 (if x.kind = 3 then decide (0 ≤ x.num ∧ x.num ≤ t) else if x.kind = 4 then decide (0 ≤ x.num ∧ x.num ≤ a) else decide (x.num = 0)) &&
 (!decide (x.kind = 5) || condE (x.kids.getD 0 ⟨0, 0, []⟩))
mutual
def treeE (t a : Int) : GExpr → Bool
 | ⟨k, n, ks⟩ => headE t a ⟨k, n, ks⟩ && treeEs t a ks
def treeEs (t a : Int) : List GExpr → Bool
 | [] => true
 | k :: ks => treeE t a k && treeEs t a ks
end
theorem treeEs_eq (t a : Int) : ∀ xs, treeEs t a xs = allL (treeE t a) xs
 | [] => rfl
 | x :: xs => by rw [treeEs, allL, treeEs_eq t a xs]
theorem treeE_eq (t a : Int) (x : GExpr) : treeE t a x = (headE t a x && allL (treeE t a) x.kids) := by
 cases x; simp [treeE, treeEs_eq]
def pred64 (n : Int) : Int := IntKind.wrap .i64 (n - 1)
theorem pred64_of (n : Int) (h : -9223372036854775807 ≤ n ∧ n ≤ 9223372036854775807) : pred64 n = n - 1 := by
 simp [pred64, IntKind.wrap, IntKind.signed, IntKind.bits]; omega
def kn_spec_l01Left (n : Nat) : Ctr := ⟨n_spec_l01Left, [.r (.st .expr), .v (.int .i64)], fun (x : GExpr) (left : Int) => ⟨(some (msz x < n ∧ 0 ≤ left ∧ left ≤ 1048576), [⟨(.int .i64), szR (nodesE x) left⟩])⟩⟩
def k_spec_l01Left : Ctr := ⟨n_spec_l01Left, [.r (.st .expr), .v (.int .i64)], fun (x : GExpr) (left : Int) => ⟨(some (0 ≤ left ∧ left ≤ 1048576), [⟨(.int .i64), szR (nodesE x) left⟩])⟩⟩
def l_spec_l01Left (x : GExpr) (left : Int) : Nat → LoopInv := (fun zb => if Nat.beq zb 0 then .mk (Nat) (fun k => k ≤ x.kids.length) (fun k => x.kids.length - k) [] [2, 3, 6, 7] (fun k => [(5, .imm ⟨(.int .i64), ((k : Int) : Int)⟩), (1, .imm ⟨(.int .i64), (szR (1 + szL nodesE (x.kids.take k)) left : Int)⟩)]) [0, 1, 4, 5, 8, 9, 10, 11, 12, 13, 14, 15, 16, 17, 18, 19, 20, 21, 22, 23, 24, 25, 26, 27, 28, 29] (fun k => []) [] [] (fun k => fun _ => .none) else .none)
abbrev j_spec_l01Left_0 (n : Nat) (x : GExpr) (left : Int) (k1 : Nat) : Prop := (x.kids.length ≤ 140737488355328 →
 (idxOk (k1 : Int) x.kids.length ∧ ((msz (x.kids.getD k1 zE) < n ∧ 0 ≤ (szR (1 + szL nodesE (x.kids.take k1)) left) ∧ (szR (1 + szL nodesE (x.kids.take k1)) left) ≤ 1048576) ∧ (inI64 (szR (nodesE (x.kids.getD k1 zE)) (szR (1 + szL nodesE (x.kids.take k1)) left)) →
 (inI64 ((k1 : Int) + (1 : Int)) ∧ (∃ k2 : Nat, (k2 ≤ x.kids.length ∧ (x.kids.length - k2 < x.kids.length - k1 ∧ ((x = x ∧ ((szR (nodesE (x.kids.getD k1 zE)) (szR (1 + szL nodesE (x.kids.take k1)) left)) = (szR (1 + szL nodesE (x.kids.take k2)) left) ∧ ((0 : Int) = (0 : Int) ∧ (((k1 : Int) + (1 : Int)) = (k2 : Int) ∧ True)))) ∧ True)))))))))
theorem vc_spec_l01Left (n : Nat) (x : GExpr) (left : Int) : awp (envOf [kn_spec_l01Left n]) (bodyOf f_spec_l01Left) (l_spec_l01Left x left) 0 (funPost (envOf [kn_spec_l01Left n]) f_spec_l01Left fun r => areEq r [⟨(.int .i64), szR (nodesE x) left⟩]) (startState f_spec_l01Left [.ref ⟨(.st .expr), x⟩, .val ⟨(.int .i64), left⟩]) =
 ((inI64 (left - (1 : Int)) ∧ ((∃ k1 : Nat, (k1 ≤ x.kids.length ∧ ((x = x ∧ ((left - (1 : Int)) = (szR (1 + szL nodesE (x.kids.take k1)) left) ∧ ((0 : Int) = (0 : Int) ∧ ((0 : Int) = (k1 : Int) ∧ True)))) ∧ True))) ∧ (∀ k1 : Nat, (k1 ≤ x.kids.length →
 (x.kids.length ≤ 140737488355328 →
 (inI64 ((x.kids.length : Int)) →
 (((decide ((k1 : Int) < ((x.kids.length : Int)))) = true →
 (((decide ((0 : Int) ≤ (szR (1 + szL nodesE (x.kids.take k1)) left))) = true →
 (j_spec_l01Left_0 n x left k1)) ∧ ((decide ((0 : Int) ≤ (szR (1 + szL nodesE (x.kids.take k1)) left))) = false →
 (szR (1 + szL nodesE (x.kids.take k1)) left) = (szR (nodesE x) left)))) ∧ ((decide ((k1 : Int) < ((x.kids.length : Int)))) = (!true) →
 ((false = true →
 (j_spec_l01Left_0 n x left k1)) ∧ (false = false →
 (szR (1 + szL nodesE (x.kids.take k1)) left) = (szR (nodesE x) left)))))))))))) := by kernel_rfl
theorem ok_spec_l01Left (n : Nat) (hE : AllGood [kn_spec_l01Left n]) : Ctr.Good (kn_spec_l01Left (n + 1)) := by
 refine ⟨fnOk_of at_spec_l01Left rfl (by decide), ?_⟩
 show ∀ (x : GExpr) (left : Int), (msz x < n + 1 ∧ 0 ≤ left ∧ left ≤ 1048576) → OkCall prog n_spec_l01Left [.ref ⟨(.st .expr), x⟩, .val ⟨(.int .i64), left⟩] (· = [⟨(.int .i64), szR (nodesE x) left⟩])
 intro x left hp
 refine ok_of_awp (wr := []) (cl := []) (ro := []) hE at_spec_l01Left body_spec_l01Left (l_spec_l01Left x left) ?_
 rewrite [vc_spec_l01Left n x left]
 have f0 := msz_kids x
 have f1 := szL_zero nodesE x.kids
 have f2 := szR_or (1 + szL nodesE (x.kids.take 0)) left
 refine ⟨?_, ⟨⟨0, ⟨?_, ⟨⟨rfl, ⟨?_, ⟨rfl, ⟨?_, trivial⟩⟩⟩⟩, trivial⟩⟩⟩, fun k1 a0 => have b0x0 := szL_take nodesE zE x.kids k1; have b0x1 := szL_take_le nodesE x.kids k1; have b0x2 := szL_take_le nodesE x.kids (k1 + 1); have b0x3 := szL_all nodesE x.kids k1; have b0x4 := msz_getD zE x.kids k1; have b0x5 := szR_or (1 + szL nodesE (x.kids.take k1)) left; have b0x6 := szR_or (1 + szL nodesE (x.kids.take (k1 + 1))) left; have b0x7 := szR_or (nodesE (x.kids.getD k1 zE)) (szR (1 + szL nodesE (x.kids.take k1)) left); have b0x8 := szR_or (1 + szL nodesE x.kids) left; fun a1 => fun a2 => ⟨fun a3 => ⟨fun a4 => fun a5 => ⟨?_, ⟨?_, fun a6 => ⟨?_, ⟨k1 + 1, ⟨?_, ⟨?_, ⟨⟨rfl, ⟨?_, ⟨rfl, ⟨?_, trivial⟩⟩⟩⟩, trivial⟩⟩⟩⟩⟩⟩⟩, fun a4 => ?_⟩, fun a3 => ⟨fun a4 => fun a5 => ⟨?_, ⟨?_, fun a6 => ⟨?_, ⟨k1 + 1, ⟨?_, ⟨?_, ⟨⟨rfl, ⟨?_, ⟨rfl, ⟨?_, trivial⟩⟩⟩⟩, trivial⟩⟩⟩⟩⟩⟩⟩, fun a4 => ?_⟩⟩⟩⟩
 all_goals try and_intros
 all_goals try rw [nodesE_eq x]
 all_goals first | rfl | trivial | omega | (simp only [decide_eq_true_eq, decide_eq_false_iff_not, idxOk, inI64, inKind, cutOk, makeOk, roomOk] at *; omega) | (simp [idxOk, inI64] at *; omega) | grind
theorem all_left_s  : ∀ n, AllGood [kn_spec_l01Left n]
 | 0 => ⟨⟨fnOk_of at_spec_l01Left rfl (by decide), fun _ _ h => absurd h.1 (Nat.not_lt_zero _)⟩, trivial⟩
 | n + 1 => by
  have ih := all_left_s  n
  exact ⟨ok_spec_l01Left n ⟨ih.1, trivial⟩, trivial⟩
theorem good_spec_l01Left  : Ctr.Good k_spec_l01Left :=
 ⟨fnOk_of at_spec_l01Left rfl (by decide), fun x left hp => (all_left_s  (msz x + 1)).1.2 x left (⟨Nat.lt_succ_self _, hp⟩)⟩
def kn_spec_l01Depth (n : Nat) : Ctr := ⟨n_spec_l01Depth, [.r (.st .expr)], fun (x : GExpr) => ⟨(some (msz x < n ∧ depthE x ≤ 1048576), [⟨(.int .i64), (depthE x : Int)⟩])⟩⟩
def k_spec_l01Depth : Ctr := ⟨n_spec_l01Depth, [.r (.st .expr)], fun (x : GExpr) => ⟨(some (depthE x ≤ 1048576), [⟨(.int .i64), (depthE x : Int)⟩])⟩⟩
def l_spec_l01Depth (x : GExpr) : Nat → LoopInv := (fun zb => if Nat.beq zb 0 then .mk (Nat) (fun k => k ≤ x.kids.length) (fun k => x.kids.length - k) [] [1] (fun k => [(4, .imm ⟨(.int .i64), ((k : Int) : Int)⟩), (3, .imm ⟨(.int .i64), ((maxL depthE (x.kids.take k) : Int) : Int)⟩)]) [0, 2, 3, 4, 5, 6, 7, 8, 9, 10, 11, 12, 13, 14, 15, 16, 17, 18, 19, 20, 21, 22, 23, 24] (fun k => []) [] [] (fun k => fun _ => .none) else .none)
theorem vc_spec_l01Depth (n : Nat) (x : GExpr) : awp (envOf [kn_spec_l01Depth n, k_spec_l00Max]) (bodyOf f_spec_l01Depth) (l_spec_l01Depth x) 0 (funPost (envOf [kn_spec_l01Depth n, k_spec_l00Max]) f_spec_l01Depth fun r => areEq r [⟨(.int .i64), (depthE x : Int)⟩]) (startState f_spec_l01Depth [.ref ⟨(.st .expr), x⟩]) =
 (((∃ k1 : Nat, (k1 ≤ x.kids.length ∧ ((x = x ∧ ((0 : Int) = (0 : Int) ∧ ((0 : Int) = (maxL depthE (x.kids.take k1) : Int) ∧ ((0 : Int) = (k1 : Int) ∧ True)))) ∧ True))) ∧ (∀ k1 : Nat, (k1 ≤ x.kids.length →
 (x.kids.length ≤ 140737488355328 →
 (inI64 ((x.kids.length : Int)) →
 (((decide ((k1 : Int) < ((x.kids.length : Int)))) = true →
 (x.kids.length ≤ 140737488355328 →
 (idxOk (k1 : Int) x.kids.length ∧ ((msz (x.kids.getD k1 zE) < n ∧ depthE (x.kids.getD k1 zE) ≤ 1048576) ∧ (inI64 ((depthE (x.kids.getD k1 zE) : Int)) →
 (inI64 (max (maxL depthE (x.kids.take k1) : Int) ((depthE (x.kids.getD k1 zE) : Int))) →
 (inI64 ((k1 : Int) + (1 : Int)) ∧ (∃ k2 : Nat, (k2 ≤ x.kids.length ∧ (x.kids.length - k2 < x.kids.length - k1 ∧ ((x = x ∧ ((0 : Int) = (0 : Int) ∧ ((max (maxL depthE (x.kids.take k1) : Int) ((depthE (x.kids.getD k1 zE) : Int))) = (maxL depthE (x.kids.take k2) : Int) ∧ (((k1 : Int) + (1 : Int)) = (k2 : Int) ∧ True)))) ∧ True))))))))))) ∧ ((decide ((k1 : Int) < ((x.kids.length : Int)))) = false →
 (inI64 ((maxL depthE (x.kids.take k1) : Int) + (1 : Int)) ∧ ((maxL depthE (x.kids.take k1) : Int) + (1 : Int)) = (depthE x : Int)))))))))) := by kernel_rfl
theorem ok_spec_l01Depth (n : Nat) (hE : AllGood [kn_spec_l01Depth n, k_spec_l00Max]) : Ctr.Good (kn_spec_l01Depth (n + 1)) := by
 refine ⟨fnOk_of at_spec_l01Depth rfl (by decide), ?_⟩
 show ∀ (x : GExpr), (msz x < n + 1 ∧ depthE x ≤ 1048576) → OkCall prog n_spec_l01Depth [.ref ⟨(.st .expr), x⟩] (· = [⟨(.int .i64), (depthE x : Int)⟩])
 intro x hp
 refine ok_of_awp (wr := []) (cl := []) (ro := []) hE at_spec_l01Depth body_spec_l01Depth (l_spec_l01Depth x) ?_
 rewrite [vc_spec_l01Depth n x]
 rw [depthE_eq x] at hp
 have f0 := msz_kids x
 have f1 := maxL_zero depthE x.kids
 refine ⟨⟨0, ⟨?_, ⟨⟨rfl, ⟨rfl, ⟨?_, ⟨?_, trivial⟩⟩⟩⟩, trivial⟩⟩⟩, fun k1 a0 => have b0x0 := maxL_take depthE zE x.kids k1; have b0x1 := maxL_take_le depthE x.kids k1; have b0x2 := maxL_take_le depthE x.kids (k1 + 1); have b0x3 := maxL_all depthE x.kids k1; have b0x4 := msz_getD zE x.kids k1; have b0x5 := maxL_getD depthE zE x.kids k1; fun a1 => fun a2 => ⟨fun a3 => fun a4 => ⟨?_, ⟨?_, fun a5 => fun a6 => ⟨?_, ⟨k1 + 1, ⟨?_, ⟨?_, ⟨⟨rfl, ⟨rfl, ⟨?_, ⟨?_, trivial⟩⟩⟩⟩, trivial⟩⟩⟩⟩⟩⟩⟩, fun a3 => ⟨?_, ?_⟩⟩⟩
 all_goals try and_intros
 all_goals try rw [depthE_eq x]
 all_goals first | rfl | trivial | omega | (simp only [decide_eq_true_eq, decide_eq_false_iff_not, idxOk, inI64, inKind, cutOk, makeOk, roomOk] at *; omega) | (simp [idxOk, inI64] at *; omega) | grind
theorem all_depth_s  : ∀ n, AllGood [kn_spec_l01Depth n]
 | 0 => ⟨⟨fnOk_of at_spec_l01Depth rfl (by decide), fun _ h => absurd h.1 (Nat.not_lt_zero _)⟩, trivial⟩
 | n + 1 => by
  have ih := all_depth_s  n
  exact ⟨ok_spec_l01Depth n ⟨ih.1, good_spec_l00Max, trivial⟩, trivial⟩
theorem good_spec_l01Depth  : Ctr.Good k_spec_l01Depth :=
 ⟨fnOk_of at_spec_l01Depth rfl (by decide), fun x hp => (all_depth_s  (msz x + 1)).1.2 x (⟨Nat.lt_succ_self _, hp⟩)⟩
def kn_spec_l01Tree (n : Nat) : Ctr := ⟨n_spec_l01Tree, [.v (.st .sig), .r (.st .expr)], fun (gg : GSig) (x : GExpr) => ⟨(some (msz x < n), [⟨.bool, treeE (pred64 gg.tests) (pred64 gg.actions) x⟩])⟩⟩
def k_spec_l01Tree : Ctr := ⟨n_spec_l01Tree, [.v (.st .sig), .r (.st .expr)], fun (gg : GSig) (x : GExpr) => ⟨(none, [⟨.bool, treeE (pred64 gg.tests) (pred64 gg.actions) x⟩])⟩⟩
def l_spec_l01Tree (gg : GSig) (x : GExpr) : Nat → LoopInv := (fun zb => if Nat.beq zb 1 then .mk (Nat) (fun k => k ≤ x.kids.length ∧ allL (treeE (pred64 gg.tests) (pred64 gg.actions)) (x.kids.take k) = true) (fun k => x.kids.length - k) [] [0, 3, 6, 7, 8, 9, 10, 11, 12, 13, 14, 15, 16, 17, 18, 19, 20, 21, 22, 23, 24, 25, 26, 27, 28, 29, 30, 31, 32, 33, 34, 35, 36, 37, 38, 39, 40, 41, 42, 43, 44, 45, 46, 47, 48, 49, 50, 51, 52, 53, 54, 55, 56, 57, 58, 59, 60, 61] (fun k => [(5, .imm ⟨(.int .i64), ((k : Int) : Int)⟩)]) [1, 2, 4, 5, 62, 63, 64, 65, 66, 67, 68, 69, 70, 71, 72, 73, 74, 75, 76, 77, 78, 79] (fun k => []) [] [] (fun k => fun _ => .none) else .none)
abbrev j_spec_l01Tree_0 (n : Nat) (gg : GSig) (x : GExpr) : Prop := ((∃ k1 : Nat, ((k1 ≤ x.kids.length ∧ allL (treeE (pred64 gg.tests) (pred64 gg.actions)) (x.kids.take k1) = true) ∧ ((x = x ∧ (gg = gg ∧ ((0 : Int) = (k1 : Int) ∧ True))) ∧ True))) ∧ (∀ k1 : Nat, ((k1 ≤ x.kids.length ∧ allL (treeE (pred64 gg.tests) (pred64 gg.actions)) (x.kids.take k1) = true) →
 (x.kids.length ≤ 140737488355328 →
 (inI64 ((x.kids.length : Int)) →
 (((decide ((k1 : Int) < ((x.kids.length : Int)))) = true →
 (idxOk (k1 : Int) x.kids.length ∧ (x.kids.length ≤ 140737488355328 →
 (msz (x.kids.getD k1 zE) < n ∧ (((!(treeE (pred64 gg.tests) (pred64 gg.actions) (x.kids.getD k1 zE))) = true →
 false = (treeE (pred64 gg.tests) (pred64 gg.actions) x)) ∧ ((!(treeE (pred64 gg.tests) (pred64 gg.actions) (x.kids.getD k1 zE))) = false →
 (inI64 ((k1 : Int) + (1 : Int)) ∧ (∃ k2 : Nat, ((k2 ≤ x.kids.length ∧ allL (treeE (pred64 gg.tests) (pred64 gg.actions)) (x.kids.take k2) = true) ∧ (x.kids.length - k2 < x.kids.length - k1 ∧ ((x = x ∧ (gg = gg ∧ (((k1 : Int) + (1 : Int)) = (k2 : Int) ∧ True))) ∧ True))))))))))) ∧ ((decide ((k1 : Int) < ((x.kids.length : Int)))) = false →
 true = (treeE (pred64 gg.tests) (pred64 gg.actions) x))))))))
theorem vc_spec_l01Tree (n : Nat) (gg : GSig) (x : GExpr) : awp (envOf [kn_spec_l01Tree n, k_spec_l01Kids, k_spec_l00In, k_spec_l01Condition] [29, 39] [] [2]) (bodyOf f_spec_l01Tree) (l_spec_l01Tree gg x) 0 (funPost (envOf [kn_spec_l01Tree n, k_spec_l01Kids, k_spec_l00In, k_spec_l01Condition] [29, 39] [] [2]) f_spec_l01Tree fun r => areEq r [⟨.bool, treeE (pred64 gg.tests) (pred64 gg.actions) x⟩]) (startState f_spec_l01Tree [.val ⟨(.st .sig), gg⟩, .ref ⟨(.st .expr), x⟩]) =
 ((x.kids.length ≤ 140737488355328 →
 (inI64 ((x.kids.length : Int)) →
 (inI64 x.kind →
 (inI64 (kidsN x.kind) →
 (((!(decide (((x.kids.length : Int)) = (kidsN x.kind)))) = true →
 false = (treeE (pred64 gg.tests) (pred64 gg.actions) x)) ∧ ((!(decide (((x.kids.length : Int)) = (kidsN x.kind)))) = false →
 (inI64 x.kind →
 (((decide (x.kind = (3 : Int))) = true →
 (inI64 x.num →
 (inI64 gg.tests →
 ((decide ((0 : Int) ≤ x.num ∧ x.num ≤ (IntKind.wrap .i64 (gg.tests - (1 : Int))))) = (treeE (pred64 gg.tests) (pred64 gg.actions) x))))) ∧ ((decide (x.kind = (3 : Int))) = false →
 (((decide (x.kind = (4 : Int))) = true →
 (inI64 x.num →
 (inI64 gg.actions →
 ((decide ((0 : Int) ≤ x.num ∧ x.num ≤ (IntKind.wrap .i64 (gg.actions - (1 : Int))))) = (treeE (pred64 gg.tests) (pred64 gg.actions) x))))) ∧ ((decide (x.kind = (4 : Int))) = false →
 (inI64 x.num →
 (((!(decide (x.num = (0 : Int)))) = false →
 (inI64 x.kind →
 (((decide (x.kind = (5 : Int))) = true →
 (x.kids.length ≤ 140737488355328 →
 (idxOk (0 : Int) x.kids.length ∧ (((!(condE (x.kids.getD 0 zE))) = true →
 false = (treeE (pred64 gg.tests) (pred64 gg.actions) x)) ∧ ((!(condE (x.kids.getD 0 zE))) = false →
 (j_spec_l01Tree_0 n gg x)))))) ∧ ((decide (x.kind = (5 : Int))) = (!true) →
 ((false = true →
 false = (treeE (pred64 gg.tests) (pred64 gg.actions) x)) ∧ (false = false →
 (j_spec_l01Tree_0 n gg x))))))) ∧ ((!(decide (x.num = (0 : Int)))) = (!false) →
 ((true = true →
 false = (treeE (pred64 gg.tests) (pred64 gg.actions) x)) ∧ (true = false →
 (j_spec_l01Tree_0 n gg x)))))))))))))))))) := by kernel_rfl
theorem ok_spec_l01Tree (n : Nat) (hE : AllGood [kn_spec_l01Tree n, k_spec_l01Kids, k_spec_l00In, k_spec_l01Condition]) : Ctr.Good (kn_spec_l01Tree (n + 1)) := by
 refine ⟨fnOk_of at_spec_l01Tree rfl (by decide), ?_⟩
 show ∀ (gg : GSig) (x : GExpr), (msz x < n + 1) → OkCall prog n_spec_l01Tree [.val ⟨(.st .sig), gg⟩, .ref ⟨(.st .expr), x⟩] (· = [⟨.bool, treeE (pred64 gg.tests) (pred64 gg.actions) x⟩])
 intro gg x hp
 refine ok_of_awp (wr := [29, 39]) (cl := []) (ro := [2]) hE at_spec_l01Tree body_spec_l01Tree (l_spec_l01Tree gg x) ?_
 rewrite [vc_spec_l01Tree n gg x]
 have f0 := msz_kids x
 have f1 := all_zero (treeE (pred64 gg.tests) (pred64 gg.actions)) x.kids
 refine fun a0 => fun a1 => fun a2 => fun a3 => ⟨fun a4 => ?_, fun a4 => fun a5 => ⟨fun a6 => fun a7 => fun a8 => ?_, fun a6 => ⟨fun a7 => fun a8 => fun a9 => ?_, fun a7 => fun a8 => ⟨fun a9 => fun a10 => ⟨fun a11 => fun a12 => ⟨?_, ⟨fun a13 => ?_, fun a13 => ⟨⟨0, ⟨?_, ⟨⟨rfl, ⟨rfl, ⟨?_, trivial⟩⟩⟩, trivial⟩⟩⟩, fun k1 a14 => have b14x0 := all_take (treeE (pred64 gg.tests) (pred64 gg.actions)) zE x.kids k1; have b14x1 := all_bad (treeE (pred64 gg.tests) (pred64 gg.actions)) zE x.kids k1; have b14x2 := all_done (treeE (pred64 gg.tests) (pred64 gg.actions)) x.kids k1; have b14x3 := msz_getD zE x.kids k1; fun a15 => fun a16 => ⟨fun a17 => ⟨?_, fun a18 => ⟨?_, ⟨fun a19 => ?_, fun a19 => ⟨?_, ⟨k1 + 1, ⟨?_, ⟨?_, ⟨⟨rfl, ⟨rfl, ⟨?_, trivial⟩⟩⟩, trivial⟩⟩⟩⟩⟩⟩⟩⟩, fun a17 => ?_⟩⟩⟩⟩, fun a11 => ⟨fun a12 => ?_, fun a12 => ⟨⟨0, ⟨?_, ⟨⟨rfl, ⟨rfl, ⟨?_, trivial⟩⟩⟩, trivial⟩⟩⟩, fun k1 a13 => have b13x0 := all_take (treeE (pred64 gg.tests) (pred64 gg.actions)) zE x.kids k1; have b13x1 := all_bad (treeE (pred64 gg.tests) (pred64 gg.actions)) zE x.kids k1; have b13x2 := all_done (treeE (pred64 gg.tests) (pred64 gg.actions)) x.kids k1; have b13x3 := msz_getD zE x.kids k1; fun a14 => fun a15 => ⟨fun a16 => ⟨?_, fun a17 => ⟨?_, ⟨fun a18 => ?_, fun a18 => ⟨?_, ⟨k1 + 1, ⟨?_, ⟨?_, ⟨⟨rfl, ⟨rfl, ⟨?_, trivial⟩⟩⟩, trivial⟩⟩⟩⟩⟩⟩⟩⟩, fun a16 => ?_⟩⟩⟩⟩, fun a9 => ⟨fun a10 => ?_, fun a10 => ⟨⟨0, ⟨?_, ⟨⟨rfl, ⟨rfl, ⟨?_, trivial⟩⟩⟩, trivial⟩⟩⟩, fun k1 a11 => have b11x0 := all_take (treeE (pred64 gg.tests) (pred64 gg.actions)) zE x.kids k1; have b11x1 := all_bad (treeE (pred64 gg.tests) (pred64 gg.actions)) zE x.kids k1; have b11x2 := all_done (treeE (pred64 gg.tests) (pred64 gg.actions)) x.kids k1; have b11x3 := msz_getD zE x.kids k1; fun a12 => fun a13 => ⟨fun a14 => ⟨?_, fun a15 => ⟨?_, ⟨fun a16 => ?_, fun a16 => ⟨?_, ⟨k1 + 1, ⟨?_, ⟨?_, ⟨⟨rfl, ⟨rfl, ⟨?_, trivial⟩⟩⟩, trivial⟩⟩⟩⟩⟩⟩⟩⟩, fun a14 => ?_⟩⟩⟩⟩⟩⟩⟩
 all_goals try and_intros
 all_goals try rw [treeE_eq _ _ x]
 all_goals first | rfl | trivial | (simp only [decide_eq_true_eq, decide_eq_false_iff_not, idxOk, inI64] at *; omega) | (simp_all [headE, pred64]; done) | (simp_all [headE, pred64, idxOk, inI64]; omega) | grind [headE, pred64, kidsN, idxOk, inI64]
theorem all_tree_s  : ∀ n, AllGood [kn_spec_l01Tree n]
 | 0 => ⟨⟨fnOk_of at_spec_l01Tree rfl (by decide), fun _ _ h => absurd h (Nat.not_lt_zero _)⟩, trivial⟩
 | n + 1 => by
  have ih := all_tree_s  n
  exact ⟨ok_spec_l01Tree n ⟨ih.1, good_spec_l01Kids, good_spec_l00In, good_spec_l01Condition, trivial⟩, trivial⟩
theorem good_spec_l01Tree  : Ctr.Good k_spec_l01Tree :=
 ⟨fnOk_of at_spec_l01Tree rfl (by decide), fun gg x hp => (all_tree_s  (msz x + 1)).1.2 gg x (Nat.lt_succ_self _)⟩
end
end Go.Proofs.YtbphjcgkidlabaaDoor

set_option linter.unusedVariables false
set_option linter.unusedSimpArgs false
set_option linter.unusedSectionVars false
set_option maxRecDepth 4000
set_option maxHeartbeats 4000000
namespace Go.Proofs.YtbphjcgkidlabaaDoor
noncomputable section
def sigOk (gg : GSig) : Bool := decide (0 ≤ gg.tests ∧ gg.tests ≤ 3) && decide (0 ≤ gg.actions ∧ gg.actions ≤ 4)
def shB (gg : GSig) (x : GExpr) (nodes depth : Int) : Bool := treeE (pred64 gg.tests) (pred64 gg.actions) x && decide ((nodesE x : Int) ≤ nodes) && decide ((depthE x : Int) ≤ depth)
def shN (gg : GSig) (x : GExpr) (nodes depth : Int) : Int := bif shB gg x nodes depth then nodes - nodesE x else 0
def k_spec_l01Sig : Ctr := ⟨n_spec_l01Sig, [.v (.st .sig)], fun (gg : GSig) => ⟨(none, [⟨.bool, sigOk gg⟩])⟩⟩
def l_spec_l01Sig (gg : GSig) : Nat → LoopInv := fun _ => .none
theorem vc_spec_l01Sig (gg : GSig) : awp (envOf [k_spec_l00In] [] [] [1]) (bodyOf f_spec_l01Sig) (l_spec_l01Sig gg) 0 (funPost (envOf [k_spec_l00In] [] [] [1]) f_spec_l01Sig fun r => areEq r [⟨.bool, sigOk gg⟩]) (startState f_spec_l01Sig [.val ⟨(.st .sig), gg⟩]) =
 ((inI64 gg.tests →
 ((((decide ((0 : Int) ≤ gg.tests ∧ gg.tests ≤ (3 : Int))) = true) →
 (inI64 gg.actions →
 ((decide ((0 : Int) ≤ gg.actions ∧ gg.actions ≤ (4 : Int))) = (sigOk gg)))) ∧ (((decide ((0 : Int) ≤ gg.tests ∧ gg.tests ≤ (3 : Int))) = (!true)) →
 false = (sigOk gg))))) := by kernel_rfl
theorem ok_spec_l01Sig (hE : AllGood [k_spec_l00In]) : Ctr.Good k_spec_l01Sig := by
 refine ⟨fnOk_of at_spec_l01Sig rfl (by decide), ?_⟩
 show ∀ (gg : GSig), True → OkCall prog n_spec_l01Sig [.val ⟨(.st .sig), gg⟩] (· = [⟨.bool, sigOk gg⟩])
 intro gg _
 refine ok_of_awp (wr := []) (cl := []) (ro := [1]) hE at_spec_l01Sig body_spec_l01Sig (l_spec_l01Sig gg) ?_
 rewrite [vc_spec_l01Sig gg]
 refine fun a0 => ⟨fun a1 => fun a2 => ?_, fun a1 => ?_⟩
 all_goals try and_intros
 all_goals first | rfl | trivial | (simp_all [sigOk]; done) | (simp_all [sigOk]; omega)
theorem good_spec_l01Sig : Ctr.Good k_spec_l01Sig := ok_spec_l01Sig ⟨good_spec_l00In, trivial⟩
end
end Go.Proofs.YtbphjcgkidlabaaDoor

set_option linter.unusedVariables false
set_option linter.unusedSimpArgs false
set_option linter.unusedSectionVars false
set_option maxRecDepth 4000
set_option maxHeartbeats 4000000
namespace Go.Proofs.YtbphjcgkidlabaaDoor
noncomputable section
def numOk (t a : Int) (x : GExpr) : Bool := if x.kind = 3 then decide (0 ≤ x.num ∧ x.num ≤ t) else if x.kind = 4 then decide (0 ≤ x.num ∧ x.num ≤ a) else decide (x.num = 0)
theorem headE_eq (t a : Int) (x : GExpr) : headE t a x = (decide (kidsN x.kind = (x.kids.length : Int)) && numOk t a x && (!decide (x.kind = 5) || condE (x.kids.getD 0 ⟨0, 0, []⟩))) := rfl
theorem shB_cases (gg : GSig) (x : GExpr) (nodes depth : Int) :
  (treeE (pred64 gg.tests) (pred64 gg.actions) x = true ∧ (nodesE x : Int) ≤ nodes ∧ (depthE x : Int) ≤ depth ∧ shB gg x nodes depth = true ∧ shN gg x nodes depth = nodes - nodesE x) ∨
  ((treeE (pred64 gg.tests) (pred64 gg.actions) x = false ∨ nodes < (nodesE x : Int) ∨ depth < (depthE x : Int)) ∧ shB gg x nodes depth = false ∧ shN gg x nodes depth = 0) := by
 unfold shN shB
 cases treeE (pred64 gg.tests) (pred64 gg.actions) x
 ·right; simp
 ·rcases Int.lt_or_le nodes (nodesE x) with h | h
  ·right; simp [h, Int.not_le.2 h]
  ·rcases Int.lt_or_le depth (depthE x) with h' | h'
   ·right; simp [h', Int.not_le.2 h']
   ·left; simp [h, h']
def kn_impl_shaped (n : Nat) : Ctr := ⟨n_impl_shaped, [.v (.st .sig), .v (.st .expr), .v (.int .i64), .v (.int .i64)], fun (gg : GSig) (x : GExpr) (nodes : Int) (depth : Int) => ⟨(some (msz x < n ∧ 0 ≤ nodes ∧ nodes ≤ 1048576 ∧ 0 ≤ depth ∧ depth ≤ 1048576), [⟨(.int .i64), shN gg x nodes depth⟩, ⟨.bool, shB gg x nodes depth⟩])⟩⟩
def k_impl_shaped : Ctr := ⟨n_impl_shaped, [.v (.st .sig), .v (.st .expr), .v (.int .i64), .v (.int .i64)], fun (gg : GSig) (x : GExpr) (nodes : Int) (depth : Int) => ⟨(some (0 ≤ nodes ∧ nodes ≤ 1048576 ∧ 0 ≤ depth ∧ depth ≤ 1048576), [⟨(.int .i64), shN gg x nodes depth⟩, ⟨.bool, shB gg x nodes depth⟩])⟩⟩
def l_impl_shaped (gg : GSig) (x : GExpr) (nodes : Int) (depth : Int) : Nat → LoopInv := (fun zb => if Nat.beq zb 100012 then .mk (Unit) (fun u => kidsN x.kind = (x.kids.length : Int) ∧ 1 ≤ nodes ∧ 1 ≤ depth ∧ numOk (pred64 gg.tests) (pred64 gg.actions) x = true) (fun u => 0) [] [0, 1, 6, 7, 10, 14, 15, 16, 17, 18, 19, 20, 21, 22, 23, 24, 25, 26, 27, 28, 29, 30, 31, 32, 33, 34, 35, 36, 37, 38, 39, 40, 41, 42, 43, 44, 45, 46, 47, 48, 49, 50, 51] (fun u => []) [2, 3, 4, 5, 8, 9, 11, 12, 13, 52, 53, 54, 55, 56, 57, 58, 59, 60, 61, 62, 63, 64, 65, 66, 67, 68, 69, 70, 71, 72, 73, 74, 75, 76, 77, 78, 79, 80, 81, 82, 83, 84, 85] (fun u => []) [] [] (fun u => (fun zb => if Nat.beq zb 100014 then .mk (Unit) (fun u => headE (pred64 gg.tests) (pred64 gg.actions) x = true ∧ 1 ≤ nodes ∧ 1 ≤ depth) (fun u => 0) [] [0, 1, 6, 7, 10, 14, 15, 16, 17, 18, 19, 20, 21, 22, 23, 24, 25, 26, 27, 28, 29, 30, 31, 32, 33, 34, 35, 36, 37, 38, 39, 40, 41, 42, 43, 44, 45, 46, 47, 48, 49, 50, 51, 52, 53, 54, 55, 56, 57, 58, 59, 60, 61, 62] (fun u => []) [2, 3, 4, 5, 8, 9, 11, 12, 13, 63, 64, 65, 66, 67, 68, 69, 70, 71, 72, 73, 74, 75, 76, 77, 78, 79, 80, 81, 82, 83, 84, 85] (fun u => []) [] [] (fun u => (fun zb => if Nat.beq zb 1 then .mk (Nat) (fun k => k ≤ x.kids.length ∧ allL (treeE (pred64 gg.tests) (pred64 gg.actions)) (x.kids.take k) = true ∧ 1 + (szL nodesE (x.kids.take k) : Int) ≤ nodes ∧ 1 + (maxL depthE (x.kids.take k) : Int) ≤ depth) (fun k => x.kids.length - k) [] [0, 1, 5, 6, 7, 10, 14, 15, 16, 17, 18, 19, 20, 21, 22, 23, 24, 25, 26, 27, 28, 29, 30, 31, 32, 33, 34, 35, 36, 37, 38, 39, 40, 41, 42, 43, 44, 45, 46, 47, 48, 49, 50, 51, 52, 53, 54, 55, 56, 57, 58, 59, 60, 61, 62, 63, 64, 65] (fun k => [(68, .imm ⟨(.int .i64), ((k : Int) : Int)⟩), (2, .imm ⟨(.int .i64), (nodes - (1 + (szL nodesE (x.kids.take k) : Int)) : Int)⟩)]) [2, 3, 4, 8, 9, 11, 12, 13, 66, 67, 68, 69, 70, 71, 72, 73, 74, 75, 76, 77, 78, 79, 80, 81, 82, 83, 84, 85] (fun k => []) [] [] (fun k => fun _ => .none) else .none)) else .none)) else .none)
abbrev j_impl_shaped_0 (gg : GSig) (x : GExpr) (nodes : Int) (depth : Int) : Prop := (∃ u1 : Unit, ((kidsN x.kind = (x.kids.length : Int) ∧ 1 ≤ nodes ∧ 1 ≤ depth ∧ numOk (pred64 gg.tests) (pred64 gg.actions) x = true) ∧ ((nodes = nodes ∧ (depth = depth ∧ (gg = gg ∧ (x = x ∧ True)))) ∧ True)))
abbrev j_impl_shaped_1 (gg : GSig) (x : GExpr) (nodes : Int) (depth : Int) : Prop := (∃ u2 : Unit, ((headE (pred64 gg.tests) (pred64 gg.actions) x = true ∧ 1 ≤ nodes ∧ 1 ≤ depth) ∧ ((nodes = nodes ∧ (depth = depth ∧ (gg = gg ∧ (x = x ∧ True)))) ∧ True)))
abbrev j_impl_shaped_2 (n : Nat) (gg : GSig) (x : GExpr) (nodes : Int) (depth : Int) : Prop := ((inI64 x.kind →
 (((decide (x.kind = (3 : Int))) = true →
 (inI64 x.num →
 (inI64 gg.tests →
 ((((!(decide ((0 : Int) ≤ x.num ∧ x.num ≤ (IntKind.wrap .i64 (gg.tests - (1 : Int)))))) = true) →
 ((0 : Int) = (shN gg x nodes depth) ∧ false = (shB gg x nodes depth))) ∧ (((!(decide ((0 : Int) ≤ x.num ∧ x.num ≤ (IntKind.wrap .i64 (gg.tests - (1 : Int)))))) = false) →
 (j_impl_shaped_0 gg x nodes depth)))))) ∧ ((decide (x.kind = (3 : Int))) = false →
 (((decide (x.kind = (4 : Int))) = true →
 (inI64 x.num →
 (inI64 gg.actions →
 ((((!(decide ((0 : Int) ≤ x.num ∧ x.num ≤ (IntKind.wrap .i64 (gg.actions - (1 : Int)))))) = true) →
 ((0 : Int) = (shN gg x nodes depth) ∧ false = (shB gg x nodes depth))) ∧ (((!(decide ((0 : Int) ≤ x.num ∧ x.num ≤ (IntKind.wrap .i64 (gg.actions - (1 : Int)))))) = false) →
 (j_impl_shaped_0 gg x nodes depth)))))) ∧ ((decide (x.kind = (4 : Int))) = false →
 (inI64 x.num →
 (((!(decide (x.num = (0 : Int)))) = true →
 ((0 : Int) = (shN gg x nodes depth) ∧ false = (shB gg x nodes depth))) ∧ ((!(decide (x.num = (0 : Int)))) = false →
 (j_impl_shaped_0 gg x nodes depth))))))))) ∧ (∀ u1 : Unit, ((kidsN x.kind = (x.kids.length : Int) ∧ 1 ≤ nodes ∧ 1 ≤ depth ∧ numOk (pred64 gg.tests) (pred64 gg.actions) x = true) →
 ((inI64 x.kind →
 (((decide (x.kind = (5 : Int))) = true →
 (x.kids.length ≤ 140737488355328 →
 (idxOk (0 : Int) x.kids.length ∧ (((!(condE (x.kids.getD 0 zE))) = true →
 ((0 : Int) = (shN gg x nodes depth) ∧ false = (shB gg x nodes depth))) ∧ ((!(condE (x.kids.getD 0 zE))) = false →
 (j_impl_shaped_1 gg x nodes depth)))))) ∧ ((decide (x.kind = (5 : Int))) = (!true) →
 ((false = true →
 ((0 : Int) = (shN gg x nodes depth) ∧ false = (shB gg x nodes depth))) ∧ (false = false →
 (j_impl_shaped_1 gg x nodes depth)))))) ∧ (∀ u2 : Unit, ((headE (pred64 gg.tests) (pred64 gg.actions) x = true ∧ 1 ≤ nodes ∧ 1 ≤ depth) →
 (inI64 (nodes - (1 : Int)) ∧ (x.kids.length ≤ 140737488355328 →
 (inI64 ((x.kids.length : Int)) →
 ((∃ k3 : Nat, ((k3 ≤ x.kids.length ∧ allL (treeE (pred64 gg.tests) (pred64 gg.actions)) (x.kids.take k3) = true ∧ 1 + (szL nodesE (x.kids.take k3) : Int) ≤ nodes ∧ 1 + (maxL depthE (x.kids.take k3) : Int) ≤ depth) ∧ (((nodes - (1 : Int)) = (nodes - (1 + (szL nodesE (x.kids.take k3) : Int))) ∧ (depth = depth ∧ (gg = gg ∧ (x.kids = x.kids ∧ (((x.kids.length : Int)) = ((x.kids.length : Int)) ∧ ((0 : Int) = (k3 : Int) ∧ True)))))) ∧ True))) ∧ (∀ k3 : Nat, ((k3 ≤ x.kids.length ∧ allL (treeE (pred64 gg.tests) (pred64 gg.actions)) (x.kids.take k3) = true ∧ 1 + (szL nodesE (x.kids.take k3) : Int) ≤ nodes ∧ 1 + (maxL depthE (x.kids.take k3) : Int) ≤ depth) →
 (((decide ((k3 : Int) < ((x.kids.length : Int)))) = true →
 (idxOk (k3 : Int) x.kids.length ∧ (inI64 (depth - (1 : Int)) ∧ ((msz (e_expr (x.kids.getD k3 zE)) < n ∧ 0 ≤ (nodes - (1 + (szL nodesE (x.kids.take k3) : Int))) ∧ (nodes - (1 + (szL nodesE (x.kids.take k3) : Int))) ≤ 1048576 ∧ 0 ≤ (depth - (1 : Int)) ∧ (depth - (1 : Int)) ≤ 1048576) ∧ (inI64 (shN gg (e_expr (x.kids.getD k3 zE)) (nodes - (1 + (szL nodesE (x.kids.take k3) : Int))) (depth - (1 : Int))) →
 (((!(shB gg (e_expr (x.kids.getD k3 zE)) (nodes - (1 + (szL nodesE (x.kids.take k3) : Int))) (depth - (1 : Int)))) = true →
 ((0 : Int) = (shN gg x nodes depth) ∧ false = (shB gg x nodes depth))) ∧ ((!(shB gg (e_expr (x.kids.getD k3 zE)) (nodes - (1 + (szL nodesE (x.kids.take k3) : Int))) (depth - (1 : Int)))) = false →
 (inI64 ((k3 : Int) + (1 : Int)) ∧ (∃ k4 : Nat, ((k4 ≤ x.kids.length ∧ allL (treeE (pred64 gg.tests) (pred64 gg.actions)) (x.kids.take k4) = true ∧ 1 + (szL nodesE (x.kids.take k4) : Int) ≤ nodes ∧ 1 + (maxL depthE (x.kids.take k4) : Int) ≤ depth) ∧ (x.kids.length - k4 < x.kids.length - k3 ∧ (((shN gg (e_expr (x.kids.getD k3 zE)) (nodes - (1 + (szL nodesE (x.kids.take k3) : Int))) (depth - (1 : Int))) = (nodes - (1 + (szL nodesE (x.kids.take k4) : Int))) ∧ (depth = depth ∧ (gg = gg ∧ (x.kids = x.kids ∧ (((x.kids.length : Int)) = ((x.kids.length : Int)) ∧ (((k3 : Int) + (1 : Int)) = (k4 : Int) ∧ True)))))) ∧ True)))))))))))) ∧ ((decide ((k3 : Int) < ((x.kids.length : Int)))) = false →
 ((nodes - (1 + (szL nodesE (x.kids.take k3) : Int))) = (shN gg x nodes depth) ∧ true = (shB gg x nodes depth))))))))))))))))
abbrev j_impl_shaped_3 (n : Nat) (gg : GSig) (x : GExpr) (nodes : Int) (depth : Int) : Prop := (inI64 x.kind →
 (inI64 (kidsN x.kind) →
 (x.kids.length ≤ 140737488355328 →
 (inI64 ((x.kids.length : Int)) →
 (((!(decide ((kidsN x.kind) = ((x.kids.length : Int))))) = true →
 ((0 : Int) = (shN gg x nodes depth) ∧ false = (shB gg x nodes depth))) ∧ ((!(decide ((kidsN x.kind) = ((x.kids.length : Int))))) = false →
 (j_impl_shaped_2 n gg x nodes depth)))))))
abbrev j_impl_shaped_4 (n : Nat) (gg : GSig) (x : GExpr) (nodes : Int) (depth : Int) : Prop := ((true = true →
 ((0 : Int) = (shN gg x nodes depth) ∧ false = (shB gg x nodes depth))) ∧ (true = false →
 (j_impl_shaped_2 n gg x nodes depth)))
theorem vc_impl_shaped (n : Nat) (gg : GSig) (x : GExpr) (nodes : Int) (depth : Int) : awp (envOf [kn_impl_shaped n, k_impl_kidsOf, k_impl_within, k_impl_IsCondition] [40, 49] [] [4, 5]) (bodyOf f_impl_shaped) (l_impl_shaped gg x nodes depth) 0 (funPost (envOf [kn_impl_shaped n, k_impl_kidsOf, k_impl_within, k_impl_IsCondition] [40, 49] [] [4, 5]) f_impl_shaped fun r => areEq r [⟨(.int .i64), shN gg x nodes depth⟩, ⟨.bool, shB gg x nodes depth⟩]) (startState f_impl_shaped [.val ⟨(.st .sig), gg⟩, .val ⟨(.st .expr), x⟩, .val ⟨(.int .i64), nodes⟩, .val ⟨(.int .i64), depth⟩]) =
 ((((decide (nodes = (0 : Int))) = false →
 (((decide (depth = (0 : Int))) = false →
 (j_impl_shaped_3 n gg x nodes depth)) ∧ ((decide (depth = (0 : Int))) = (!false) →
 (j_impl_shaped_4 n gg x nodes depth)))) ∧ ((decide (nodes = (0 : Int))) = (!false) →
 ((true = false →
 (j_impl_shaped_3 n gg x nodes depth)) ∧ (true = (!false) →
 (j_impl_shaped_4 n gg x nodes depth)))))) := by kernel_rfl
theorem ok_impl_shaped (n : Nat) (hE : AllGood [kn_impl_shaped n, k_impl_kidsOf, k_impl_within, k_impl_IsCondition]) : Ctr.Good (kn_impl_shaped (n + 1)) := by
 refine ⟨fnOk_of at_impl_shaped rfl (by decide), ?_⟩
 show ∀ (gg : GSig) (x : GExpr) (nodes : Int) (depth : Int), (msz x < n + 1 ∧ 0 ≤ nodes ∧ nodes ≤ 1048576 ∧ 0 ≤ depth ∧ depth ≤ 1048576) → OkCall prog n_impl_shaped [.val ⟨(.st .sig), gg⟩, .val ⟨(.st .expr), x⟩, .val ⟨(.int .i64), nodes⟩, .val ⟨(.int .i64), depth⟩] (· = [⟨(.int .i64), shN gg x nodes depth⟩, ⟨.bool, shB gg x nodes depth⟩])
 intro gg x nodes depth hp
 refine ok_of_awp (wr := [40, 49]) (cl := []) (ro := [4, 5]) hE at_impl_shaped body_impl_shaped (l_impl_shaped gg x nodes depth) ?_
 rewrite [vc_impl_shaped n gg x nodes depth]
 have fs := shB_cases gg x nodes depth
 rw [treeE_eq _ _ x, nodesE_eq x, depthE_eq x] at fs
 have f0 := msz_kids x
 have f1 := szL_zero nodesE x.kids
 have f2 := maxL_zero depthE x.kids
 have f3 := all_zero (treeE (pred64 gg.tests) (pred64 gg.actions)) x.kids
 refine ⟨fun a0 => ⟨fun a1 => fun a2 => fun a3 => fun a4 => fun a5 => ⟨fun a6 => ⟨?_, ?_⟩, fun a6 => ⟨fun a7 => ⟨fun a8 => fun a9 => fun a10 => ⟨fun a11 => ⟨?_, ?_⟩, fun a11 => ⟨(), ⟨?_, ⟨⟨rfl, ⟨rfl, ⟨rfl, ⟨rfl, trivial⟩⟩⟩⟩, trivial⟩⟩⟩⟩, fun a8 => ⟨fun a9 => fun a10 => fun a11 => ⟨fun a12 => ⟨?_, ?_⟩, fun a12 => ⟨(), ⟨?_, ⟨⟨rfl, ⟨rfl, ⟨rfl, ⟨rfl, trivial⟩⟩⟩⟩, trivial⟩⟩⟩⟩, fun a9 => fun a10 => ⟨fun a11 => ⟨?_, ?_⟩, fun a11 => ⟨(), ⟨?_, ⟨⟨rfl, ⟨rfl, ⟨rfl, ⟨rfl, trivial⟩⟩⟩⟩, trivial⟩⟩⟩⟩⟩⟩, fun u1 => fun a7 => ⟨fun a8 => ⟨fun a9 => fun a10 => ⟨?_, ⟨fun a11 => ⟨?_, ?_⟩, fun a11 => ⟨(), ⟨?_, ⟨⟨rfl, ⟨rfl, ⟨rfl, ⟨rfl, trivial⟩⟩⟩⟩, trivial⟩⟩⟩⟩⟩, fun a9 => ⟨fun a10 => ⟨?_, ?_⟩, fun a10 => ⟨(), ⟨?_, ⟨⟨rfl, ⟨rfl, ⟨rfl, ⟨rfl, trivial⟩⟩⟩⟩, trivial⟩⟩⟩⟩⟩, fun u2 => fun a8 => ⟨?_, fun a9 => fun a10 => ⟨⟨0, ⟨?_, ⟨⟨?_, ⟨rfl, ⟨rfl, ⟨rfl, ⟨rfl, ⟨?_, trivial⟩⟩⟩⟩⟩⟩, trivial⟩⟩⟩, fun k3 a11 => have b11x0 := all_take (treeE (pred64 gg.tests) (pred64 gg.actions)) zE x.kids k3; have b11x1 := all_bad (treeE (pred64 gg.tests) (pred64 gg.actions)) zE x.kids k3; have b11x2 := all_done (treeE (pred64 gg.tests) (pred64 gg.actions)) x.kids k3; have b11x3 := msz_getD zE x.kids k3; have b11x4 := szL_take nodesE zE x.kids k3; have b11x5 := szL_take_le nodesE x.kids (k3 + 1); have b11x6 := szL_all nodesE x.kids k3; have b11x7 := maxL_take depthE zE x.kids k3; have b11x8 := maxL_take_le depthE x.kids (k3 + 1); have b11x9 := maxL_all depthE x.kids k3; have b11x10 := shB_cases gg (x.kids.getD k3 zE) (nodes - (1 + (szL nodesE (x.kids.take k3) : Int))) (depth - 1); ⟨fun a12 => ⟨?_, ⟨?_, ⟨?_, fun a13 => ⟨fun a14 => ⟨?_, ?_⟩, fun a14 => ⟨?_, ⟨k3 + 1, ⟨?_, ⟨?_, ⟨⟨?_, ⟨rfl, ⟨rfl, ⟨rfl, ⟨rfl, ⟨?_, trivial⟩⟩⟩⟩⟩⟩, trivial⟩⟩⟩⟩⟩⟩⟩⟩⟩, fun a12 => ⟨?_, ?_⟩⟩⟩⟩⟩⟩⟩, fun a1 => ⟨fun a2 => ⟨?_, ?_⟩, fun a2 => ⟨fun a3 => ⟨fun a4 => fun a5 => fun a6 => ⟨fun a7 => ⟨?_, ?_⟩, fun a7 => ⟨(), ⟨?_, ⟨⟨rfl, ⟨rfl, ⟨rfl, ⟨rfl, trivial⟩⟩⟩⟩, trivial⟩⟩⟩⟩, fun a4 => ⟨fun a5 => fun a6 => fun a7 => ⟨fun a8 => ⟨?_, ?_⟩, fun a8 => ⟨(), ⟨?_, ⟨⟨rfl, ⟨rfl, ⟨rfl, ⟨rfl, trivial⟩⟩⟩⟩, trivial⟩⟩⟩⟩, fun a5 => fun a6 => ⟨fun a7 => ⟨?_, ?_⟩, fun a7 => ⟨(), ⟨?_, ⟨⟨rfl, ⟨rfl, ⟨rfl, ⟨rfl, trivial⟩⟩⟩⟩, trivial⟩⟩⟩⟩⟩⟩, fun u1 => fun a3 => ⟨fun a4 => ⟨fun a5 => fun a6 => ⟨?_, ⟨fun a7 => ⟨?_, ?_⟩, fun a7 => ⟨(), ⟨?_, ⟨⟨rfl, ⟨rfl, ⟨rfl, ⟨rfl, trivial⟩⟩⟩⟩, trivial⟩⟩⟩⟩⟩, fun a5 => ⟨fun a6 => ⟨?_, ?_⟩, fun a6 => ⟨(), ⟨?_, ⟨⟨rfl, ⟨rfl, ⟨rfl, ⟨rfl, trivial⟩⟩⟩⟩, trivial⟩⟩⟩⟩⟩, fun u2 => fun a4 => ⟨?_, fun a5 => fun a6 => ⟨⟨0, ⟨?_, ⟨⟨?_, ⟨rfl, ⟨rfl, ⟨rfl, ⟨rfl, ⟨?_, trivial⟩⟩⟩⟩⟩⟩, trivial⟩⟩⟩, fun k3 a7 => have b7x0 := all_take (treeE (pred64 gg.tests) (pred64 gg.actions)) zE x.kids k3; have b7x1 := all_bad (treeE (pred64 gg.tests) (pred64 gg.actions)) zE x.kids k3; have b7x2 := all_done (treeE (pred64 gg.tests) (pred64 gg.actions)) x.kids k3; have b7x3 := msz_getD zE x.kids k3; have b7x4 := szL_take nodesE zE x.kids k3; have b7x5 := szL_take_le nodesE x.kids (k3 + 1); have b7x6 := szL_all nodesE x.kids k3; have b7x7 := maxL_take depthE zE x.kids k3; have b7x8 := maxL_take_le depthE x.kids (k3 + 1); have b7x9 := maxL_all depthE x.kids k3; have b7x10 := shB_cases gg (x.kids.getD k3 zE) (nodes - (1 + (szL nodesE (x.kids.take k3) : Int))) (depth - 1); ⟨fun a8 => ⟨?_, ⟨?_, ⟨?_, fun a9 => ⟨fun a10 => ⟨?_, ?_⟩, fun a10 => ⟨?_, ⟨k3 + 1, ⟨?_, ⟨?_, ⟨⟨?_, ⟨rfl, ⟨rfl, ⟨rfl, ⟨rfl, ⟨?_, trivial⟩⟩⟩⟩⟩⟩, trivial⟩⟩⟩⟩⟩⟩⟩⟩⟩, fun a8 => ⟨?_, ?_⟩⟩⟩⟩⟩⟩⟩⟩, fun a0 => ⟨fun a1 => fun a2 => fun a3 => fun a4 => fun a5 => ⟨fun a6 => ⟨?_, ?_⟩, fun a6 => ⟨fun a7 => ⟨fun a8 => fun a9 => fun a10 => ⟨fun a11 => ⟨?_, ?_⟩, fun a11 => ⟨(), ⟨?_, ⟨⟨rfl, ⟨rfl, ⟨rfl, ⟨rfl, trivial⟩⟩⟩⟩, trivial⟩⟩⟩⟩, fun a8 => ⟨fun a9 => fun a10 => fun a11 => ⟨fun a12 => ⟨?_, ?_⟩, fun a12 => ⟨(), ⟨?_, ⟨⟨rfl, ⟨rfl, ⟨rfl, ⟨rfl, trivial⟩⟩⟩⟩, trivial⟩⟩⟩⟩, fun a9 => fun a10 => ⟨fun a11 => ⟨?_, ?_⟩, fun a11 => ⟨(), ⟨?_, ⟨⟨rfl, ⟨rfl, ⟨rfl, ⟨rfl, trivial⟩⟩⟩⟩, trivial⟩⟩⟩⟩⟩⟩, fun u1 => fun a7 => ⟨fun a8 => ⟨fun a9 => fun a10 => ⟨?_, ⟨fun a11 => ⟨?_, ?_⟩, fun a11 => ⟨(), ⟨?_, ⟨⟨rfl, ⟨rfl, ⟨rfl, ⟨rfl, trivial⟩⟩⟩⟩, trivial⟩⟩⟩⟩⟩, fun a9 => ⟨fun a10 => ⟨?_, ?_⟩, fun a10 => ⟨(), ⟨?_, ⟨⟨rfl, ⟨rfl, ⟨rfl, ⟨rfl, trivial⟩⟩⟩⟩, trivial⟩⟩⟩⟩⟩, fun u2 => fun a8 => ⟨?_, fun a9 => fun a10 => ⟨⟨0, ⟨?_, ⟨⟨?_, ⟨rfl, ⟨rfl, ⟨rfl, ⟨rfl, ⟨?_, trivial⟩⟩⟩⟩⟩⟩, trivial⟩⟩⟩, fun k3 a11 => have b11x0 := all_take (treeE (pred64 gg.tests) (pred64 gg.actions)) zE x.kids k3; have b11x1 := all_bad (treeE (pred64 gg.tests) (pred64 gg.actions)) zE x.kids k3; have b11x2 := all_done (treeE (pred64 gg.tests) (pred64 gg.actions)) x.kids k3; have b11x3 := msz_getD zE x.kids k3; have b11x4 := szL_take nodesE zE x.kids k3; have b11x5 := szL_take_le nodesE x.kids (k3 + 1); have b11x6 := szL_all nodesE x.kids k3; have b11x7 := maxL_take depthE zE x.kids k3; have b11x8 := maxL_take_le depthE x.kids (k3 + 1); have b11x9 := maxL_all depthE x.kids k3; have b11x10 := shB_cases gg (x.kids.getD k3 zE) (nodes - (1 + (szL nodesE (x.kids.take k3) : Int))) (depth - 1); ⟨fun a12 => ⟨?_, ⟨?_, ⟨?_, fun a13 => ⟨fun a14 => ⟨?_, ?_⟩, fun a14 => ⟨?_, ⟨k3 + 1, ⟨?_, ⟨?_, ⟨⟨?_, ⟨rfl, ⟨rfl, ⟨rfl, ⟨rfl, ⟨?_, trivial⟩⟩⟩⟩⟩⟩, trivial⟩⟩⟩⟩⟩⟩⟩⟩⟩, fun a12 => ⟨?_, ?_⟩⟩⟩⟩⟩⟩⟩, fun a1 => ⟨fun a2 => ⟨?_, ?_⟩, fun a2 => ⟨fun a3 => ⟨fun a4 => fun a5 => fun a6 => ⟨fun a7 => ⟨?_, ?_⟩, fun a7 => ⟨(), ⟨?_, ⟨⟨rfl, ⟨rfl, ⟨rfl, ⟨rfl, trivial⟩⟩⟩⟩, trivial⟩⟩⟩⟩, fun a4 => ⟨fun a5 => fun a6 => fun a7 => ⟨fun a8 => ⟨?_, ?_⟩, fun a8 => ⟨(), ⟨?_, ⟨⟨rfl, ⟨rfl, ⟨rfl, ⟨rfl, trivial⟩⟩⟩⟩, trivial⟩⟩⟩⟩, fun a5 => fun a6 => ⟨fun a7 => ⟨?_, ?_⟩, fun a7 => ⟨(), ⟨?_, ⟨⟨rfl, ⟨rfl, ⟨rfl, ⟨rfl, trivial⟩⟩⟩⟩, trivial⟩⟩⟩⟩⟩⟩, fun u1 => fun a3 => ⟨fun a4 => ⟨fun a5 => fun a6 => ⟨?_, ⟨fun a7 => ⟨?_, ?_⟩, fun a7 => ⟨(), ⟨?_, ⟨⟨rfl, ⟨rfl, ⟨rfl, ⟨rfl, trivial⟩⟩⟩⟩, trivial⟩⟩⟩⟩⟩, fun a5 => ⟨fun a6 => ⟨?_, ?_⟩, fun a6 => ⟨(), ⟨?_, ⟨⟨rfl, ⟨rfl, ⟨rfl, ⟨rfl, trivial⟩⟩⟩⟩, trivial⟩⟩⟩⟩⟩, fun u2 => fun a4 => ⟨?_, fun a5 => fun a6 => ⟨⟨0, ⟨?_, ⟨⟨?_, ⟨rfl, ⟨rfl, ⟨rfl, ⟨rfl, ⟨?_, trivial⟩⟩⟩⟩⟩⟩, trivial⟩⟩⟩, fun k3 a7 => have b7x0 := all_take (treeE (pred64 gg.tests) (pred64 gg.actions)) zE x.kids k3; have b7x1 := all_bad (treeE (pred64 gg.tests) (pred64 gg.actions)) zE x.kids k3; have b7x2 := all_done (treeE (pred64 gg.tests) (pred64 gg.actions)) x.kids k3; have b7x3 := msz_getD zE x.kids k3; have b7x4 := szL_take nodesE zE x.kids k3; have b7x5 := szL_take_le nodesE x.kids (k3 + 1); have b7x6 := szL_all nodesE x.kids k3; have b7x7 := maxL_take depthE zE x.kids k3; have b7x8 := maxL_take_le depthE x.kids (k3 + 1); have b7x9 := maxL_all depthE x.kids k3; have b7x10 := shB_cases gg (x.kids.getD k3 zE) (nodes - (1 + (szL nodesE (x.kids.take k3) : Int))) (depth - 1); ⟨fun a8 => ⟨?_, ⟨?_, ⟨?_, fun a9 => ⟨fun a10 => ⟨?_, ?_⟩, fun a10 => ⟨?_, ⟨k3 + 1, ⟨?_, ⟨?_, ⟨⟨?_, ⟨rfl, ⟨rfl, ⟨rfl, ⟨rfl, ⟨?_, trivial⟩⟩⟩⟩⟩⟩, trivial⟩⟩⟩⟩⟩⟩⟩⟩⟩, fun a8 => ⟨?_, ?_⟩⟩⟩⟩⟩⟩⟩⟩⟩
 all_goals try and_intros
 all_goals try simp only [GExpr.eta, GProg.eta, GDerivation.eta, GTriple.eta, GPremise.eta, GClaim.eta, GEquation.eta, GPair.eta, GSpot.eta, e_expr_eq, e_pair_eq, e_equation_eq, e_claim_eq, e_prog_eq, e_spot_eq, e_triple_eq, e_premise_eq, e_derivation_eq] at *
 all_goals ((try simp only [pred64] at *); generalize IntKind.wrap .i64 (gg.tests - 1) = T at *; generalize IntKind.wrap .i64 (gg.actions - 1) = A at *; first | rfl | trivial | (simp only [decide_eq_true_eq, decide_eq_false_iff_not, idxOk, inI64] at *; omega) | (rcases fs with ⟨t1, t2, t3, t4, t5⟩ | ⟨t1, t4, t5⟩ <;> (try rw [t4]) <;> (try rw [t5]) <;> clear t4 t5 <;> simp only [decide_eq_true_eq, decide_eq_false_iff_not, headE_eq, numOk, Bool.and_eq_true, Bool.and_eq_false_iff, Bool.not_eq_true', Bool.not_eq_false', inI64] at * <;> first | rfl | omega | grind | grind [kidsN]))
theorem all_shaped_i  : ∀ n, AllGood [kn_impl_shaped n]
 | 0 => ⟨⟨fnOk_of at_impl_shaped rfl (by decide), fun _ _ _ _ h => absurd h.1 (Nat.not_lt_zero _)⟩, trivial⟩
 | n + 1 => by
  have ih := all_shaped_i  n
  exact ⟨ok_impl_shaped n ⟨ih.1, good_impl_kidsOf, good_impl_within, good_impl_IsCondition, trivial⟩, trivial⟩
theorem good_impl_shaped  : Ctr.Good k_impl_shaped :=
 ⟨fnOk_of at_impl_shaped rfl (by decide), fun gg x nodes depth hp => (all_shaped_i  (msz x + 1)).1.2 gg x nodes depth (⟨Nat.lt_succ_self _, hp⟩)⟩
end
end Go.Proofs.YtbphjcgkidlabaaDoor
