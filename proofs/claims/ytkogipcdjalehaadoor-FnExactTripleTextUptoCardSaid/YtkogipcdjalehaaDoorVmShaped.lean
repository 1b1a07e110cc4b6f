/- The form of an expression: impl.shaped. Printed by vmk.py. -/
import Derived.Test.YtkogipcdjalehaaDoorVmUse
import Derived.Test.YtkogipcdjalehaaDoorVmLib
import Derived.Test.YtkogipcdjalehaaDoorVmExpr
import Derived.Test.YtkogipcdjalehaaDoorVmExpr2
set_option linter.unusedVariables false
set_option linter.unusedSimpArgs false
set_option linter.unusedSectionVars false
set_option maxRecDepth 4000
set_option maxHeartbeats 4000000
namespace Go.Proofs.YtkogipcdjalehaaDoor
noncomputable section
def numOk (t a : Int) (x : GExpr) : Bool := if x.kind = 3 then decide (0 ≤ x.num ∧ x.num ≤ t) else if x.kind = 4 then decide (0 ≤ x.num ∧ x.num ≤ a) else decide (x.num = 0)
theorem headE_eq (t a : Int) (x : GExpr) : headE t a x = (decide (kidsN x.kind = (x.kids.length : Int)) && numOk t a x && (!decide (x.kind = 5) || condE (x.kids.getD 0 ⟨0, 0, []⟩))) := rfl
theorem shB_cases (gg : GSig) (x : GExpr) (nodes depth : Int) :
  (treeE (pred64 gg.tests) (pred64 gg.actions) x = true ∧ (nodesE x : Int) ≤ nodes ∧ (depthE x : Int) ≤ depth ∧ shB gg x nodes depth = true ∧ shN gg x nodes depth = nodes - nodesE x) ∨
  ((treeE (pred64 gg.tests) (pred64 gg.actions) x = false ∨ nodes < (nodesE x : Int) ∨ depth < (depthE x : Int)) ∧ shB gg x nodes depth = false ∧ shN gg x nodes depth = 0) := by
 unfold shN shB
 cases treeE (pred64 gg.tests) (pred64 gg.actions) x
 ·right; simp
 ·rcases Int.lt_or_le nodes (nodesE x) with h | h
  ·right; simp [h, Int.not_le.2 h]
  ·rcases Int.lt_or_le depth (depthE x) with h' | h'
   ·right; simp [h', Int.not_le.2 h']
   ·left; simp [h, h']
def kn_impl_shaped (n : Nat) : Ctr := ⟨n_impl_shaped, [.v (.st .sig), .v (.st .expr), .v (.int .i64), .v (.int .i64)], fun (gg : GSig) (x : GExpr) (nodes : Int) (depth : Int) => ⟨(some (msz x < n ∧ 0 ≤ nodes ∧ nodes ≤ 1048576 ∧ 0 ≤ depth ∧ depth ≤ 1048576), [⟨(.int .i64), shN gg x nodes depth⟩, ⟨.bool, shB gg x nodes depth⟩])⟩⟩
def k_impl_shaped : Ctr := ⟨n_impl_shaped, [.v (.st .sig), .v (.st .expr), .v (.int .i64), .v (.int .i64)], fun (gg : GSig) (x : GExpr) (nodes : Int) (depth : Int) => ⟨(some (0 ≤ nodes ∧ nodes ≤ 1048576 ∧ 0 ≤ depth ∧ depth ≤ 1048576), [⟨(.int .i64), shN gg x nodes depth⟩, ⟨.bool, shB gg x nodes depth⟩])⟩⟩
def l_impl_shaped (gg : GSig) (x : GExpr) (nodes : Int) (depth : Int) : Nat → LoopInv := (fun zb => if Nat.beq zb 100012 then .mk (Unit) (fun u => kidsN x.kind = (x.kids.length : Int) ∧ 1 ≤ nodes ∧ 1 ≤ depth ∧ numOk (pred64 gg.tests) (pred64 gg.actions) x = true) (fun u => 0) [] [0, 1, 6, 7, 10, 14, 15, 16, 17, 18, 19, 20, 21, 22, 23, 24, 25, 26, 27, 28, 29, 30, 31, 32, 33, 34, 35, 36, 37, 38, 39, 40, 41, 42, 43, 44, 45, 46, 47, 48, 49, 50, 51] (fun u => []) [2, 3, 4, 5, 8, 9, 11, 12, 13, 52, 53, 54, 55, 56, 57, 58, 59, 60, 61, 62, 63, 64, 65, 66, 67, 68, 69, 70, 71, 72, 73, 74, 75, 76, 77, 78, 79, 80, 81, 82, 83, 84, 85] (fun u => []) [] [] (fun u => (fun zb => if Nat.beq zb 100014 then .mk (Unit) (fun u => headE (pred64 gg.tests) (pred64 gg.actions) x = true ∧ 1 ≤ nodes ∧ 1 ≤ depth) (fun u => 0) [] [0, 1, 6, 7, 10, 14, 15, 16, 17, 18, 19, 20, 21, 22, 23, 24, 25, 26, 27, 28, 29, 30, 31, 32, 33, 34, 35, 36, 37, 38, 39, 40, 41, 42, 43, 44, 45, 46, 47, 48, 49, 50, 51, 52, 53, 54, 55, 56, 57, 58, 59, 60, 61, 62] (fun u => []) [2, 3, 4, 5, 8, 9, 11, 12, 13, 63, 64, 65, 66, 67, 68, 69, 70, 71, 72, 73, 74, 75, 76, 77, 78, 79, 80, 81, 82, 83, 84, 85] (fun u => []) [] [] (fun u => (fun zb => if Nat.beq zb 1 then .mk (Nat) (fun k => k ≤ x.kids.length ∧ allL (treeE (pred64 gg.tests) (pred64 gg.actions)) (x.kids.take k) = true ∧ 1 + (szL nodesE (x.kids.take k) : Int) ≤ nodes ∧ 1 + (maxL depthE (x.kids.take k) : Int) ≤ depth) (fun k => x.kids.length - k) [] [0, 1, 5, 6, 7, 10, 14, 15, 16, 17, 18, 19, 20, 21, 22, 23, 24, 25, 26, 27, 28, 29, 30, 31, 32, 33, 34, 35, 36, 37, 38, 39, 40, 41, 42, 43, 44, 45, 46, 47, 48, 49, 50, 51, 52, 53, 54, 55, 56, 57, 58, 59, 60, 61, 62, 63, 64, 65] (fun k => [(68, .imm ⟨(.int .i64), ((k : Int) : Int)⟩), (2, .imm ⟨(.int .i64), (nodes - (1 + (szL nodesE (x.kids.take k) : Int)) : Int)⟩)]) [2, 3, 4, 8, 9, 11, 12, 13, 66, 67, 68, 69, 70, 71, 72, 73, 74, 75, 76, 77, 78, 79, 80, 81, 82, 83, 84, 85] (fun k => []) [] [] (fun k => fun _ => .none) else .none)) else .none)) else .none)
abbrev j_impl_shaped_0 (gg : GSig) (x : GExpr) (nodes : Int) (depth : Int) : Prop := (∃ u1 : Unit, ((kidsN x.kind = (x.kids.length : Int) ∧ 1 ≤ nodes ∧ 1 ≤ depth ∧ numOk (pred64 gg.tests) (pred64 gg.actions) x = true) ∧ ((nodes = nodes ∧ (depth = depth ∧ (gg = gg ∧ (x = x ∧ True)))) ∧ True)))
abbrev j_impl_shaped_1 (gg : GSig) (x : GExpr) (nodes : Int) (depth : Int) : Prop := (∃ u2 : Unit, ((headE (pred64 gg.tests) (pred64 gg.actions) x = true ∧ 1 ≤ nodes ∧ 1 ≤ depth) ∧ ((nodes = nodes ∧ (depth = depth ∧ (gg = gg ∧ (x = x ∧ True)))) ∧ True)))
abbrev j_impl_shaped_2 (n : Nat) (gg : GSig) (x : GExpr) (nodes : Int) (depth : Int) : Prop := ((inI64 x.kind →
 (((decide (x.kind = (3 : Int))) = true →
 (inI64 x.num →
 (inI64 gg.tests →
 ((((!(decide ((0 : Int) ≤ x.num ∧ x.num ≤ (IntKind.wrap .i64 (gg.tests - (1 : Int)))))) = true) →
 ((0 : Int) = (shN gg x nodes depth) ∧ false = (shB gg x nodes depth))) ∧ (((!(decide ((0 : Int) ≤ x.num ∧ x.num ≤ (IntKind.wrap .i64 (gg.tests - (1 : Int)))))) = false) →
 (j_impl_shaped_0 gg x nodes depth)))))) ∧ ((decide (x.kind = (3 : Int))) = false →
 (((decide (x.kind = (4 : Int))) = true →
 (inI64 x.num →
 (inI64 gg.actions →
 ((((!(decide ((0 : Int) ≤ x.num ∧ x.num ≤ (IntKind.wrap .i64 (gg.actions - (1 : Int)))))) = true) →
 ((0 : Int) = (shN gg x nodes depth) ∧ false = (shB gg x nodes depth))) ∧ (((!(decide ((0 : Int) ≤ x.num ∧ x.num ≤ (IntKind.wrap .i64 (gg.actions - (1 : Int)))))) = false) →
 (j_impl_shaped_0 gg x nodes depth)))))) ∧ ((decide (x.kind = (4 : Int))) = false →
 (inI64 x.num →
 (((!(decide (x.num = (0 : Int)))) = true →
 ((0 : Int) = (shN gg x nodes depth) ∧ false = (shB gg x nodes depth))) ∧ ((!(decide (x.num = (0 : Int)))) = false →
 (j_impl_shaped_0 gg x nodes depth))))))))) ∧ (∀ u1 : Unit, ((kidsN x.kind = (x.kids.length : Int) ∧ 1 ≤ nodes ∧ 1 ≤ depth ∧ numOk (pred64 gg.tests) (pred64 gg.actions) x = true) →
 ((inI64 x.kind →
 (((decide (x.kind = (5 : Int))) = true →
 (x.kids.length ≤ 140737488355328 →
 (idxOk (0 : Int) x.kids.length ∧ (((!(condE (x.kids.getD 0 zE))) = true →
 ((0 : Int) = (shN gg x nodes depth) ∧ false = (shB gg x nodes depth))) ∧ ((!(condE (x.kids.getD 0 zE))) = false →
 (j_impl_shaped_1 gg x nodes depth)))))) ∧ ((decide (x.kind = (5 : Int))) = (!true) →
 ((false = true →
 ((0 : Int) = (shN gg x nodes depth) ∧ false = (shB gg x nodes depth))) ∧ (false = false →
 (j_impl_shaped_1 gg x nodes depth)))))) ∧ (∀ u2 : Unit, ((headE (pred64 gg.tests) (pred64 gg.actions) x = true ∧ 1 ≤ nodes ∧ 1 ≤ depth) →
 (inI64 (nodes - (1 : Int)) ∧ (x.kids.length ≤ 140737488355328 →
 (inI64 ((x.kids.length : Int)) →
 ((∃ k3 : Nat, ((k3 ≤ x.kids.length ∧ allL (treeE (pred64 gg.tests) (pred64 gg.actions)) (x.kids.take k3) = true ∧ 1 + (szL nodesE (x.kids.take k3) : Int) ≤ nodes ∧ 1 + (maxL depthE (x.kids.take k3) : Int) ≤ depth) ∧ (((nodes - (1 : Int)) = (nodes - (1 + (szL nodesE (x.kids.take k3) : Int))) ∧ (depth = depth ∧ (gg = gg ∧ (x.kids = x.kids ∧ (((x.kids.length : Int)) = ((x.kids.length : Int)) ∧ ((0 : Int) = (k3 : Int) ∧ True)))))) ∧ True))) ∧ (∀ k3 : Nat, ((k3 ≤ x.kids.length ∧ allL (treeE (pred64 gg.tests) (pred64 gg.actions)) (x.kids.take k3) = true ∧ 1 + (szL nodesE (x.kids.take k3) : Int) ≤ nodes ∧ 1 + (maxL depthE (x.kids.take k3) : Int) ≤ depth) →
 (((decide ((k3 : Int) < ((x.kids.length : Int)))) = true →
 (idxOk (k3 : Int) x.kids.length ∧ (inI64 (depth - (1 : Int)) ∧ ((msz (e_expr (x.kids.getD k3 zE)) < n ∧ 0 ≤ (nodes - (1 + (szL nodesE (x.kids.take k3) : Int))) ∧ (nodes - (1 + (szL nodesE (x.kids.take k3) : Int))) ≤ 1048576 ∧ 0 ≤ (depth - (1 : Int)) ∧ (depth - (1 : Int)) ≤ 1048576) ∧ (inI64 (shN gg (e_expr (x.kids.getD k3 zE)) (nodes - (1 + (szL nodesE (x.kids.take k3) : Int))) (depth - (1 : Int))) →
 (((!(shB gg (e_expr (x.kids.getD k3 zE)) (nodes - (1 + (szL nodesE (x.kids.take k3) : Int))) (depth - (1 : Int)))) = true →
 ((0 : Int) = (shN gg x nodes depth) ∧ false = (shB gg x nodes depth))) ∧ ((!(shB gg (e_expr (x.kids.getD k3 zE)) (nodes - (1 + (szL nodesE (x.kids.take k3) : Int))) (depth - (1 : Int)))) = false →
 (inI64 ((k3 : Int) + (1 : Int)) ∧ (∃ k4 : Nat, ((k4 ≤ x.kids.length ∧ allL (treeE (pred64 gg.tests) (pred64 gg.actions)) (x.kids.take k4) = true ∧ 1 + (szL nodesE (x.kids.take k4) : Int) ≤ nodes ∧ 1 + (maxL depthE (x.kids.take k4) : Int) ≤ depth) ∧ (x.kids.length - k4 < x.kids.length - k3 ∧ (((shN gg (e_expr (x.kids.getD k3 zE)) (nodes - (1 + (szL nodesE (x.kids.take k3) : Int))) (depth - (1 : Int))) = (nodes - (1 + (szL nodesE (x.kids.take k4) : Int))) ∧ (depth = depth ∧ (gg = gg ∧ (x.kids = x.kids ∧ (((x.kids.length : Int)) = ((x.kids.length : Int)) ∧ (((k3 : Int) + (1 : Int)) = (k4 : Int) ∧ True)))))) ∧ True)))))))))))) ∧ ((decide ((k3 : Int) < ((x.kids.length : Int)))) = false →
 ((nodes - (1 + (szL nodesE (x.kids.take k3) : Int))) = (shN gg x nodes depth) ∧ true = (shB gg x nodes depth))))))))))))))))
abbrev j_impl_shaped_3 (n : Nat) (gg : GSig) (x : GExpr) (nodes : Int) (depth : Int) : Prop := (inI64 x.kind →
 (inI64 (kidsN x.kind) →
 (x.kids.length ≤ 140737488355328 →
 (inI64 ((x.kids.length : Int)) →
 (((!(decide ((kidsN x.kind) = ((x.kids.length : Int))))) = true →
 ((0 : Int) = (shN gg x nodes depth) ∧ false = (shB gg x nodes depth))) ∧ ((!(decide ((kidsN x.kind) = ((x.kids.length : Int))))) = false →
 (j_impl_shaped_2 n gg x nodes depth)))))))
abbrev j_impl_shaped_4 (n : Nat) (gg : GSig) (x : GExpr) (nodes : Int) (depth : Int) : Prop := ((true = true →
 ((0 : Int) = (shN gg x nodes depth) ∧ false = (shB gg x nodes depth))) ∧ (true = false →
 (j_impl_shaped_2 n gg x nodes depth)))
theorem vc_impl_shaped (n : Nat) (gg : GSig) (x : GExpr) (nodes : Int) (depth : Int) : awp (envOf [kn_impl_shaped n, k_impl_kidsOf, k_impl_within, k_impl_IsCondition] [40, 49] [] [4, 5]) (bodyOf f_impl_shaped) (l_impl_shaped gg x nodes depth) 0 (funPost (envOf [kn_impl_shaped n, k_impl_kidsOf, k_impl_within, k_impl_IsCondition] [40, 49] [] [4, 5]) f_impl_shaped fun r => areEq r [⟨(.int .i64), shN gg x nodes depth⟩, ⟨.bool, shB gg x nodes depth⟩]) (startState f_impl_shaped [.val ⟨(.st .sig), gg⟩, .val ⟨(.st .expr), x⟩, .val ⟨(.int .i64), nodes⟩, .val ⟨(.int .i64), depth⟩]) =
 ((((decide (nodes = (0 : Int))) = false →
 (((decide (depth = (0 : Int))) = false →
 (j_impl_shaped_3 n gg x nodes depth)) ∧ ((decide (depth = (0 : Int))) = (!false) →
 (j_impl_shaped_4 n gg x nodes depth)))) ∧ ((decide (nodes = (0 : Int))) = (!false) →
 ((true = false →
 (j_impl_shaped_3 n gg x nodes depth)) ∧ (true = (!false) →
 (j_impl_shaped_4 n gg x nodes depth)))))) := by kernel_rfl
theorem ok_impl_shaped (n : Nat) (hE : AllGood [kn_impl_shaped n, k_impl_kidsOf, k_impl_within, k_impl_IsCondition]) : Ctr.Good (kn_impl_shaped (n + 1)) := by
 refine ⟨fnOk_of at_impl_shaped rfl (by decide), ?_⟩
 show ∀ (gg : GSig) (x : GExpr) (nodes : Int) (depth : Int), (msz x < n + 1 ∧ 0 ≤ nodes ∧ nodes ≤ 1048576 ∧ 0 ≤ depth ∧ depth ≤ 1048576) → OkCall prog n_impl_shaped [.val ⟨(.st .sig), gg⟩, .val ⟨(.st .expr), x⟩, .val ⟨(.int .i64), nodes⟩, .val ⟨(.int .i64), depth⟩] (· = [⟨(.int .i64), shN gg x nodes depth⟩, ⟨.bool, shB gg x nodes depth⟩])
 intro gg x nodes depth hp
 refine ok_of_awp (wr := [40, 49]) (cl := []) (ro := [4, 5]) hE at_impl_shaped body_impl_shaped (l_impl_shaped gg x nodes depth) ?_
 rewrite [vc_impl_shaped n gg x nodes depth]
 have fs := shB_cases gg x nodes depth
 rw [treeE_eq _ _ x, nodesE_eq x, depthE_eq x] at fs
 have f0 := msz_kids x
 have f1 := szL_zero nodesE x.kids
 have f2 := maxL_zero depthE x.kids
 have f3 := all_zero (treeE (pred64 gg.tests) (pred64 gg.actions)) x.kids
 refine ⟨fun a0 => ⟨fun a1 => fun a2 => fun a3 => fun a4 => fun a5 => ⟨fun a6 => ⟨?_, ?_⟩, fun a6 => ⟨fun a7 => ⟨fun a8 => fun a9 => fun a10 => ⟨fun a11 => ⟨?_, ?_⟩, fun a11 => ⟨(), ⟨?_, ⟨⟨rfl, ⟨rfl, ⟨rfl, ⟨rfl, trivial⟩⟩⟩⟩, trivial⟩⟩⟩⟩, fun a8 => ⟨fun a9 => fun a10 => fun a11 => ⟨fun a12 => ⟨?_, ?_⟩, fun a12 => ⟨(), ⟨?_, ⟨⟨rfl, ⟨rfl, ⟨rfl, ⟨rfl, trivial⟩⟩⟩⟩, trivial⟩⟩⟩⟩, fun a9 => fun a10 => ⟨fun a11 => ⟨?_, ?_⟩, fun a11 => ⟨(), ⟨?_, ⟨⟨rfl, ⟨rfl, ⟨rfl, ⟨rfl, trivial⟩⟩⟩⟩, trivial⟩⟩⟩⟩⟩⟩, fun u1 => fun a7 => ⟨fun a8 => ⟨fun a9 => fun a10 => ⟨?_, ⟨fun a11 => ⟨?_, ?_⟩, fun a11 => ⟨(), ⟨?_, ⟨⟨rfl, ⟨rfl, ⟨rfl, ⟨rfl, trivial⟩⟩⟩⟩, trivial⟩⟩⟩⟩⟩, fun a9 => ⟨fun a10 => ⟨?_, ?_⟩, fun a10 => ⟨(), ⟨?_, ⟨⟨rfl, ⟨rfl, ⟨rfl, ⟨rfl, trivial⟩⟩⟩⟩, trivial⟩⟩⟩⟩⟩, fun u2 => fun a8 => ⟨?_, fun a9 => fun a10 => ⟨⟨0, ⟨?_, ⟨⟨?_, ⟨rfl, ⟨rfl, ⟨rfl, ⟨rfl, ⟨?_, trivial⟩⟩⟩⟩⟩⟩, trivial⟩⟩⟩, fun k3 a11 => have b11x0 := all_take (treeE (pred64 gg.tests) (pred64 gg.actions)) zE x.kids k3; have b11x1 := all_bad (treeE (pred64 gg.tests) (pred64 gg.actions)) zE x.kids k3; have b11x2 := all_done (treeE (pred64 gg.tests) (pred64 gg.actions)) x.kids k3; have b11x3 := msz_getD zE x.kids k3; have b11x4 := szL_take nodesE zE x.kids k3; have b11x5 := szL_take_le nodesE x.kids (k3 + 1); have b11x6 := szL_all nodesE x.kids k3; have b11x7 := maxL_take depthE zE x.kids k3; have b11x8 := maxL_take_le depthE x.kids (k3 + 1); have b11x9 := maxL_all depthE x.kids k3; have b11x10 := shB_cases gg (x.kids.getD k3 zE) (nodes - (1 + (szL nodesE (x.kids.take k3) : Int))) (depth - 1); ⟨fun a12 => ⟨?_, ⟨?_, ⟨?_, fun a13 => ⟨fun a14 => ⟨?_, ?_⟩, fun a14 => ⟨?_, ⟨k3 + 1, ⟨?_, ⟨?_, ⟨⟨?_, ⟨rfl, ⟨rfl, ⟨rfl, ⟨rfl, ⟨?_, trivial⟩⟩⟩⟩⟩⟩, trivial⟩⟩⟩⟩⟩⟩⟩⟩⟩, fun a12 => ⟨?_, ?_⟩⟩⟩⟩⟩⟩⟩, fun a1 => ⟨fun a2 => ⟨?_, ?_⟩, fun a2 => ⟨fun a3 => ⟨fun a4 => fun a5 => fun a6 => ⟨fun a7 => ⟨?_, ?_⟩, fun a7 => ⟨(), ⟨?_, ⟨⟨rfl, ⟨rfl, ⟨rfl, ⟨rfl, trivial⟩⟩⟩⟩, trivial⟩⟩⟩⟩, fun a4 => ⟨fun a5 => fun a6 => fun a7 => ⟨fun a8 => ⟨?_, ?_⟩, fun a8 => ⟨(), ⟨?_, ⟨⟨rfl, ⟨rfl, ⟨rfl, ⟨rfl, trivial⟩⟩⟩⟩, trivial⟩⟩⟩⟩, fun a5 => fun a6 => ⟨fun a7 => ⟨?_, ?_⟩, fun a7 => ⟨(), ⟨?_, ⟨⟨rfl, ⟨rfl, ⟨rfl, ⟨rfl, trivial⟩⟩⟩⟩, trivial⟩⟩⟩⟩⟩⟩, fun u1 => fun a3 => ⟨fun a4 => ⟨fun a5 => fun a6 => ⟨?_, ⟨fun a7 => ⟨?_, ?_⟩, fun a7 => ⟨(), ⟨?_, ⟨⟨rfl, ⟨rfl, ⟨rfl, ⟨rfl, trivial⟩⟩⟩⟩, trivial⟩⟩⟩⟩⟩, fun a5 => ⟨fun a6 => ⟨?_, ?_⟩, fun a6 => ⟨(), ⟨?_, ⟨⟨rfl, ⟨rfl, ⟨rfl, ⟨rfl, trivial⟩⟩⟩⟩, trivial⟩⟩⟩⟩⟩, fun u2 => fun a4 => ⟨?_, fun a5 => fun a6 => ⟨⟨0, ⟨?_, ⟨⟨?_, ⟨rfl, ⟨rfl, ⟨rfl, ⟨rfl, ⟨?_, trivial⟩⟩⟩⟩⟩⟩, trivial⟩⟩⟩, fun k3 a7 => have b7x0 := all_take (treeE (pred64 gg.tests) (pred64 gg.actions)) zE x.kids k3; have b7x1 := all_bad (treeE (pred64 gg.tests) (pred64 gg.actions)) zE x.kids k3; have b7x2 := all_done (treeE (pred64 gg.tests) (pred64 gg.actions)) x.kids k3; have b7x3 := msz_getD zE x.kids k3; have b7x4 := szL_take nodesE zE x.kids k3; have b7x5 := szL_take_le nodesE x.kids (k3 + 1); have b7x6 := szL_all nodesE x.kids k3; have b7x7 := maxL_take depthE zE x.kids k3; have b7x8 := maxL_take_le depthE x.kids (k3 + 1); have b7x9 := maxL_all depthE x.kids k3; have b7x10 := shB_cases gg (x.kids.getD k3 zE) (nodes - (1 + (szL nodesE (x.kids.take k3) : Int))) (depth - 1); ⟨fun a8 => ⟨?_, ⟨?_, ⟨?_, fun a9 => ⟨fun a10 => ⟨?_, ?_⟩, fun a10 => ⟨?_, ⟨k3 + 1, ⟨?_, ⟨?_, ⟨⟨?_, ⟨rfl, ⟨rfl, ⟨rfl, ⟨rfl, ⟨?_, trivial⟩⟩⟩⟩⟩⟩, trivial⟩⟩⟩⟩⟩⟩⟩⟩⟩, fun a8 => ⟨?_, ?_⟩⟩⟩⟩⟩⟩⟩⟩, fun a0 => ⟨fun a1 => fun a2 => fun a3 => fun a4 => fun a5 => ⟨fun a6 => ⟨?_, ?_⟩, fun a6 => ⟨fun a7 => ⟨fun a8 => fun a9 => fun a10 => ⟨fun a11 => ⟨?_, ?_⟩, fun a11 => ⟨(), ⟨?_, ⟨⟨rfl, ⟨rfl, ⟨rfl, ⟨rfl, trivial⟩⟩⟩⟩, trivial⟩⟩⟩⟩, fun a8 => ⟨fun a9 => fun a10 => fun a11 => ⟨fun a12 => ⟨?_, ?_⟩, fun a12 => ⟨(), ⟨?_, ⟨⟨rfl, ⟨rfl, ⟨rfl, ⟨rfl, trivial⟩⟩⟩⟩, trivial⟩⟩⟩⟩, fun a9 => fun a10 => ⟨fun a11 => ⟨?_, ?_⟩, fun a11 => ⟨(), ⟨?_, ⟨⟨rfl, ⟨rfl, ⟨rfl, ⟨rfl, trivial⟩⟩⟩⟩, trivial⟩⟩⟩⟩⟩⟩, fun u1 => fun a7 => ⟨fun a8 => ⟨fun a9 => fun a10 => ⟨?_, ⟨fun a11 => ⟨?_, ?_⟩, fun a11 => ⟨(), ⟨?_, ⟨⟨rfl, ⟨rfl, ⟨rfl, ⟨rfl, trivial⟩⟩⟩⟩, trivial⟩⟩⟩⟩⟩, fun a9 => ⟨fun a10 => ⟨?_, ?_⟩, fun a10 => ⟨(), ⟨?_, ⟨⟨rfl, ⟨rfl, ⟨rfl, ⟨rfl, trivial⟩⟩⟩⟩, trivial⟩⟩⟩⟩⟩, fun u2 => fun a8 => ⟨?_, fun a9 => fun a10 => ⟨⟨0, ⟨?_, ⟨⟨?_, ⟨rfl, ⟨rfl, ⟨rfl, ⟨rfl, ⟨?_, trivial⟩⟩⟩⟩⟩⟩, trivial⟩⟩⟩, fun k3 a11 => have b11x0 := all_take (treeE (pred64 gg.tests) (pred64 gg.actions)) zE x.kids k3; have b11x1 := all_bad (treeE (pred64 gg.tests) (pred64 gg.actions)) zE x.kids k3; have b11x2 := all_done (treeE (pred64 gg.tests) (pred64 gg.actions)) x.kids k3; have b11x3 := msz_getD zE x.kids k3; have b11x4 := szL_take nodesE zE x.kids k3; have b11x5 := szL_take_le nodesE x.kids (k3 + 1); have b11x6 := szL_all nodesE x.kids k3; have b11x7 := maxL_take depthE zE x.kids k3; have b11x8 := maxL_take_le depthE x.kids (k3 + 1); have b11x9 := maxL_all depthE x.kids k3; have b11x10 := shB_cases gg (x.kids.getD k3 zE) (nodes - (1 + (szL nodesE (x.kids.take k3) : Int))) (depth - 1); ⟨fun a12 => ⟨?_, ⟨?_, ⟨?_, fun a13 => ⟨fun a14 => ⟨?_, ?_⟩, fun a14 => ⟨?_, ⟨k3 + 1, ⟨?_, ⟨?_, ⟨⟨?_, ⟨rfl, ⟨rfl, ⟨rfl, ⟨rfl, ⟨?_, trivial⟩⟩⟩⟩⟩⟩, trivial⟩⟩⟩⟩⟩⟩⟩⟩⟩, fun a12 => ⟨?_, ?_⟩⟩⟩⟩⟩⟩⟩, fun a1 => ⟨fun a2 => ⟨?_, ?_⟩, fun a2 => ⟨fun a3 => ⟨fun a4 => fun a5 => fun a6 => ⟨fun a7 => ⟨?_, ?_⟩, fun a7 => ⟨(), ⟨?_, ⟨⟨rfl, ⟨rfl, ⟨rfl, ⟨rfl, trivial⟩⟩⟩⟩, trivial⟩⟩⟩⟩, fun a4 => ⟨fun a5 => fun a6 => fun a7 => ⟨fun a8 => ⟨?_, ?_⟩, fun a8 => ⟨(), ⟨?_, ⟨⟨rfl, ⟨rfl, ⟨rfl, ⟨rfl, trivial⟩⟩⟩⟩, trivial⟩⟩⟩⟩, fun a5 => fun a6 => ⟨fun a7 => ⟨?_, ?_⟩, fun a7 => ⟨(), ⟨?_, ⟨⟨rfl, ⟨rfl, ⟨rfl, ⟨rfl, trivial⟩⟩⟩⟩, trivial⟩⟩⟩⟩⟩⟩, fun u1 => fun a3 => ⟨fun a4 => ⟨fun a5 => fun a6 => ⟨?_, ⟨fun a7 => ⟨?_, ?_⟩, fun a7 => ⟨(), ⟨?_, ⟨⟨rfl, ⟨rfl, ⟨rfl, ⟨rfl, trivial⟩⟩⟩⟩, trivial⟩⟩⟩⟩⟩, fun a5 => ⟨fun a6 => ⟨?_, ?_⟩, fun a6 => ⟨(), ⟨?_, ⟨⟨rfl, ⟨rfl, ⟨rfl, ⟨rfl, trivial⟩⟩⟩⟩, trivial⟩⟩⟩⟩⟩, fun u2 => fun a4 => ⟨?_, fun a5 => fun a6 => ⟨⟨0, ⟨?_, ⟨⟨?_, ⟨rfl, ⟨rfl, ⟨rfl, ⟨rfl, ⟨?_, trivial⟩⟩⟩⟩⟩⟩, trivial⟩⟩⟩, fun k3 a7 => have b7x0 := all_take (treeE (pred64 gg.tests) (pred64 gg.actions)) zE x.kids k3; have b7x1 := all_bad (treeE (pred64 gg.tests) (pred64 gg.actions)) zE x.kids k3; have b7x2 := all_done (treeE (pred64 gg.tests) (pred64 gg.actions)) x.kids k3; have b7x3 := msz_getD zE x.kids k3; have b7x4 := szL_take nodesE zE x.kids k3; have b7x5 := szL_take_le nodesE x.kids (k3 + 1); have b7x6 := szL_all nodesE x.kids k3; have b7x7 := maxL_take depthE zE x.kids k3; have b7x8 := maxL_take_le depthE x.kids (k3 + 1); have b7x9 := maxL_all depthE x.kids k3; have b7x10 := shB_cases gg (x.kids.getD k3 zE) (nodes - (1 + (szL nodesE (x.kids.take k3) : Int))) (depth - 1); ⟨fun a8 => ⟨?_, ⟨?_, ⟨?_, fun a9 => ⟨fun a10 => ⟨?_, ?_⟩, fun a10 => ⟨?_, ⟨k3 + 1, ⟨?_, ⟨?_, ⟨⟨?_, ⟨rfl, ⟨rfl, ⟨rfl, ⟨rfl, ⟨?_, trivial⟩⟩⟩⟩⟩⟩, trivial⟩⟩⟩⟩⟩⟩⟩⟩⟩, fun a8 => ⟨?_, ?_⟩⟩⟩⟩⟩⟩⟩⟩⟩
 all_goals try and_intros
 all_goals try simp only [GExpr.eta, GProg.eta, GDerivation.eta, GTriple.eta, GPremise.eta, GClaim.eta, GEquation.eta, GPair.eta, GSpot.eta, e_expr_eq, e_pair_eq, e_equation_eq, e_claim_eq, e_prog_eq, e_spot_eq, e_triple_eq, e_premise_eq, e_derivation_eq] at *
 all_goals ((try simp only [pred64] at *); generalize IntKind.wrap .i64 (gg.tests - 1) = T at *; generalize IntKind.wrap .i64 (gg.actions - 1) = A at *; first | rfl | trivial | (simp only [decide_eq_true_eq, decide_eq_false_iff_not, idxOk, inI64] at *; omega) | (rcases fs with ⟨t1, t2, t3, t4, t5⟩ | ⟨t1, t4, t5⟩ <;> (try rw [t4]) <;> (try rw [t5]) <;> clear t4 t5 <;> simp only [decide_eq_true_eq, decide_eq_false_iff_not, headE_eq, numOk, Bool.and_eq_true, Bool.and_eq_false_iff, Bool.not_eq_true', Bool.not_eq_false', inI64] at * <;> first | rfl | omega | grind | grind [kidsN]))
theorem all_shaped_i  : ∀ n, AllGood [kn_impl_shaped n]
 | 0 => ⟨⟨fnOk_of at_impl_shaped rfl (by decide), fun _ _ _ _ h => absurd h.1 (Nat.not_lt_zero _)⟩, trivial⟩
 | n + 1 => by
  have ih := all_shaped_i  n
  exact ⟨ok_impl_shaped n ⟨ih.1, good_impl_kidsOf, good_impl_within, good_impl_IsCondition, trivial⟩, trivial⟩
theorem good_impl_shaped  : Ctr.Good k_impl_shaped :=
 ⟨fnOk_of at_impl_shaped rfl (by decide), fun gg x nodes depth hp => (all_shaped_i  (msz x + 1)).1.2 gg x nodes depth (⟨Nat.lt_succ_self _, hp⟩)⟩
end
end Go.Proofs.YtkogipcdjalehaaDoor
