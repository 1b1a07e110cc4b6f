/- Programs: their form. Printed by vmk.py. -/
import Derived.Test.YtkogipcdjalehaaDoorVmUse
import Derived.Test.YtkogipcdjalehaaDoorVmLib
import Derived.Test.YtkogipcdjalehaaDoorVmExpr
import Derived.Test.YtkogipcdjalehaaDoorVmExpr2
import Derived.Test.YtkogipcdjalehaaDoorVmShaped
import Derived.Test.YtkogipcdjalehaaDoorVmTruth
import Derived.Test.YtkogipcdjalehaaDoorVmValid
set_option linter.unusedVariables false
set_option linter.unusedSimpArgs false
set_option linter.unusedSectionVars false
set_option maxRecDepth 4000
set_option maxHeartbeats 4000000
namespace Go.Proofs.YtkogipcdjalehaaDoor
noncomputable section
mutual
def nodesP : GProg → Nat
 | ⟨_, _, _, ks⟩ => 1 + nodesPs ks
def nodesPs : List GProg → Nat
 | [] => 0
 | k :: ks => nodesP k + nodesPs ks
end
theorem nodesPs_eq : ∀ xs, nodesPs xs = szL nodesP xs
 | [] => rfl
 | x :: xs => by rw [nodesPs, szL, nodesPs_eq xs]
theorem nodesP_eq (x : GProg) : nodesP x = 1 + szL nodesP x.kids := by
 cases x; simp [nodesP, nodesPs_eq]
mutual
def depthP : GProg → Nat
 | ⟨_, _, _, ks⟩ => 1 + depthPs ks
def depthPs : List GProg → Nat
 | [] => 0
 | k :: ks => max (depthP k) (depthPs ks)
end
theorem depthPs_eq : ∀ xs, depthPs xs = maxL depthP xs
 | [] => rfl
 | x :: xs => by rw [depthPs, maxL, depthPs_eq xs]
theorem depthP_eq (x : GProg) : depthP x = 1 + maxL depthP x.kids := by
 cases x; simp [depthP, depthPs_eq]
mutual
theorem depth_nodesP : ∀ x : GProg, depthP x ≤ nodesP x
 | ⟨k, n, c, ks⟩ => by
  have := depths_nodesP ks
  simp only [depthP, nodesP]; omega
theorem depths_nodesP : ∀ xs : List GProg, depthPs xs ≤ nodesPs xs
 | [] => by simp [depthPs]
 | x :: xs => by
  have h1 := depth_nodesP x
  have h2 := depths_nodesP xs
  simp only [depthPs, nodesPs]; omega
end
def kidsPN (k : Int) : Int := if k = 1 ∨ k = 2 ∨ k = 3 ∨ k = 4 then 0 else if k = 7 then 1 else if k = 5 ∨ k = 6 then 2 else -1
def asksP (k : Int) : Bool := decide (k = 4) || decide (k = 6) || decide (k = 7)
def noneE (x : GExpr) : Bool := decide (x.kind = 0) && decide (x.num = 0) && decide (x.kids.length = 0)
def numP (gg : GSig) (x : GProg) : Bool := if x.kind = 3 then decide (0 ≤ x.num ∧ x.num ≤ gg.actions - 1) else decide (x.num = 0)
def conP (gg : GSig) (x : GProg) : Bool := if asksP x.kind = true then isC gg x.cond else noneE x.cond
def headP (gg : GSig) (x : GProg) : Bool := decide (kidsPN x.kind = (x.kids.length : Int)) && numP gg x && conP gg x
mutual
def treeP (gg : GSig) : GProg → Bool
 | ⟨k, n, c, ks⟩ => headP gg ⟨k, n, c, ks⟩ && treePs gg ks
def treePs (gg : GSig) : List GProg → Bool
 | [] => true
 | k :: ks => treeP gg k && treePs gg ks
end
theorem treePs_eq (gg : GSig) : ∀ xs, treePs gg xs = allL (treeP gg) xs
 | [] => rfl
 | x :: xs => by rw [treePs, allL, treePs_eq gg xs]
theorem treeP_eq (gg : GSig) (x : GProg) : treeP gg x = (headP gg x && allL (treeP gg) x.kids) := by
 cases x; simp [treeP, treePs_eq]
theorem headP_eq (gg : GSig) (x : GProg) : headP gg x = (decide (kidsPN x.kind = (x.kids.length : Int)) && numP gg x && conP gg x) := rfl
def shPB (gg : GSig) (x : GProg) (nodes depth : Int) : Bool := treeP gg x && decide ((nodesP x : Int) ≤ nodes) && decide ((depthP x : Int) ≤ depth)
def shPN (gg : GSig) (x : GProg) (nodes depth : Int) : Int := bif shPB gg x nodes depth then nodes - nodesP x else 0
theorem shPB_cases (gg : GSig) (x : GProg) (nodes depth : Int) :
  (treeP gg x = true ∧ (nodesP x : Int) ≤ nodes ∧ (depthP x : Int) ≤ depth ∧ shPB gg x nodes depth = true ∧ shPN gg x nodes depth = nodes - nodesP x) ∨
  ((treeP gg x = false ∨ nodes < (nodesP x : Int) ∨ depth < (depthP x : Int)) ∧ shPB gg x nodes depth = false ∧ shPN gg x nodes depth = 0) := by
 unfold shPN shPB
 cases treeP gg x
 ·right; simp
 ·rcases Int.lt_or_le nodes (nodesP x) with h | h
  ·right; simp [h, Int.not_le.2 h]
  ·rcases Int.lt_or_le depth (depthP x) with h' | h'
   ·right; simp [h', Int.not_le.2 h']
   ·left; simp [h, h']
def isP (gg : GSig) (x : GProg) : Bool := shPB gg x 60 20
def okP (gg : GSig) (x : GProg) : Bool := sigOk gg && isP gg x
theorem okC_eqP (gg : GSig) (x : GExpr) : okC gg x = (sigOk gg && isC gg x) := by simp [okC, okE, isC, Bool.and_assoc]
theorem sigOk_actsP (gg : GSig) (h : sigOk gg = true) : (0 ≤ gg.tests ∧ gg.tests ≤ 3) ∧ 0 ≤ gg.actions ∧ gg.actions ≤ 4 := (sigOk_iff gg).1 h
def k_impl_isNone : Ctr := ⟨n_impl_isNone, [.v (.st .expr)], fun (x : GExpr) => ⟨(none, [⟨.bool, noneE x⟩])⟩⟩
def l_impl_isNone (x : GExpr) : Nat → LoopInv := fun _ => .none
theorem vc_impl_isNone (x : GExpr) : awp (envOf [] [] [] [1]) (bodyOf f_impl_isNone) (l_impl_isNone x) 0 (funPost (envOf [] [] [] [1]) f_impl_isNone fun r => areEq r [⟨.bool, noneE x⟩]) (startState f_impl_isNone [.val ⟨(.st .expr), x⟩]) =
 ((inI64 x.kind →
 (((decide (x.kind = (0 : Int))) = true →
 (inI64 x.num →
 (((decide (x.num = (0 : Int))) = true →
 (x.kids.length ≤ 140737488355328 →
 (inI64 ((x.kids.length : Int)) →
 (decide (((x.kids.length : Int)) = (0 : Int))) = (noneE x)))) ∧ ((decide (x.num = (0 : Int))) = (!true) →
 false = (noneE x))))) ∧ ((decide (x.kind = (0 : Int))) = (!true) →
 ((false = true →
 (x.kids.length ≤ 140737488355328 →
 (inI64 ((x.kids.length : Int)) →
 (decide (((x.kids.length : Int)) = (0 : Int))) = (noneE x)))) ∧ (false = (!true) →
 false = (noneE x))))))) := by kernel_rfl
theorem ok_impl_isNone (hE : AllGood []) : Ctr.Good k_impl_isNone := by
 refine ⟨fnOk_of at_impl_isNone rfl (by decide), ?_⟩
 show ∀ (x : GExpr), True → OkCall prog n_impl_isNone [.val ⟨(.st .expr), x⟩] (· = [⟨.bool, noneE x⟩])
 intro x _
 refine ok_of_awp (wr := []) (cl := []) (ro := [1]) hE at_impl_isNone body_impl_isNone (l_impl_isNone x) ?_
 rewrite [vc_impl_isNone x]
 refine fun a0 => ⟨fun a1 => fun a2 => ⟨fun a3 => fun a4 => fun a5 => ?_, fun a3 => ?_⟩, fun a1 => ⟨fun a2 => fun a3 => fun a4 => ?_, fun a2 => ?_⟩⟩
 all_goals try and_intros
 all_goals first | rfl | trivial | grind [noneE]
theorem good_impl_isNone : Ctr.Good k_impl_isNone := ok_impl_isNone trivial
def k_spec_l06None : Ctr := ⟨n_spec_l06None, [.r (.st .expr)], fun (x : GExpr) => ⟨(none, [⟨.bool, noneE x⟩])⟩⟩
def l_spec_l06None (x : GExpr) : Nat → LoopInv := fun _ => .none
theorem vc_spec_l06None (x : GExpr) : awp (envOf []) (bodyOf f_spec_l06None) (l_spec_l06None x) 0 (funPost (envOf []) f_spec_l06None fun r => areEq r [⟨.bool, noneE x⟩]) (startState f_spec_l06None [.ref ⟨(.st .expr), x⟩]) =
 ((inI64 x.kind →
 (((decide (x.kind = (0 : Int))) = true →
 (inI64 x.num →
 (((decide (x.num = (0 : Int))) = true →
 (x.kids.length ≤ 140737488355328 →
 (inI64 ((x.kids.length : Int)) →
 (decide (((x.kids.length : Int)) = (0 : Int))) = (noneE x)))) ∧ ((decide (x.num = (0 : Int))) = (!true) →
 false = (noneE x))))) ∧ ((decide (x.kind = (0 : Int))) = (!true) →
 ((false = true →
 (x.kids.length ≤ 140737488355328 →
 (inI64 ((x.kids.length : Int)) →
 (decide (((x.kids.length : Int)) = (0 : Int))) = (noneE x)))) ∧ (false = (!true) →
 false = (noneE x))))))) := by kernel_rfl
theorem ok_spec_l06None (hE : AllGood []) : Ctr.Good k_spec_l06None := by
 refine ⟨fnOk_of at_spec_l06None rfl (by decide), ?_⟩
 show ∀ (x : GExpr), True → OkCall prog n_spec_l06None [.ref ⟨(.st .expr), x⟩] (· = [⟨.bool, noneE x⟩])
 intro x _
 refine ok_of_awp (wr := []) (cl := []) (ro := []) hE at_spec_l06None body_spec_l06None (l_spec_l06None x) ?_
 rewrite [vc_spec_l06None x]
 refine fun a0 => ⟨fun a1 => fun a2 => ⟨fun a3 => fun a4 => fun a5 => ?_, fun a3 => ?_⟩, fun a1 => ⟨fun a2 => fun a3 => fun a4 => ?_, fun a2 => ?_⟩⟩
 all_goals try and_intros
 all_goals first | rfl | trivial | grind [noneE]
theorem good_spec_l06None : Ctr.Good k_spec_l06None := ok_spec_l06None trivial
def k_impl_progForm : Ctr := ⟨n_impl_progForm, [.v (.int .i64)], fun (k : Int) => ⟨(none, [⟨(.int .i64), kidsPN k⟩, ⟨.bool, asksP k⟩])⟩⟩
def l_impl_progForm (k : Int) : Nat → LoopInv := fun _ => .none
abbrev j_impl_progForm_0 (k : Int) : Prop := (((decide (k = (4 : Int))) = true →
 ((0 : Int) = (kidsPN k) ∧ true = (asksP k))) ∧ ((decide (k = (4 : Int))) = false →
 (((decide (k = (5 : Int))) = true →
 ((2 : Int) = (kidsPN k) ∧ false = (asksP k))) ∧ ((decide (k = (5 : Int))) = false →
 (((decide (k = (6 : Int))) = true →
 ((2 : Int) = (kidsPN k) ∧ true = (asksP k))) ∧ ((decide (k = (6 : Int))) = false →
 (((decide (k = (7 : Int))) = true →
 ((1 : Int) = (kidsPN k) ∧ true = (asksP k))) ∧ ((decide (k = (7 : Int))) = false →
 ((-1 : Int) = (kidsPN k) ∧ false = (asksP k))))))))))
theorem vc_impl_progForm (k : Int) : awp (envOf []) (bodyOf f_impl_progForm) (l_impl_progForm k) 0 (funPost (envOf []) f_impl_progForm fun r => areEq r [⟨(.int .i64), kidsPN k⟩, ⟨.bool, asksP k⟩]) (startState f_impl_progForm [.val ⟨(.int .i64), k⟩]) =
 ((((decide (k = (1 : Int))) = true →
 (((decide (k = (1 : Int))) = true →
 ((0 : Int) = (kidsPN k) ∧ false = (asksP k))) ∧ ((decide (k = (1 : Int))) = false →
 (j_impl_progForm_0 k)))) ∧ ((decide (k = (1 : Int))) = false →
 (((decide (k = (2 : Int))) = true →
 (((decide (k = (2 : Int))) = true →
 ((0 : Int) = (kidsPN k) ∧ false = (asksP k))) ∧ ((decide (k = (2 : Int))) = false →
 (j_impl_progForm_0 k)))) ∧ ((decide (k = (2 : Int))) = false →
 (((decide (k = (3 : Int))) = true →
 ((0 : Int) = (kidsPN k) ∧ false = (asksP k))) ∧ ((decide (k = (3 : Int))) = false →
 (j_impl_progForm_0 k)))))))) := by kernel_rfl
theorem ok_impl_progForm (hE : AllGood []) : Ctr.Good k_impl_progForm := by
 refine ⟨fnOk_of at_impl_progForm rfl (by decide), ?_⟩
 show ∀ (k : Int), True → OkCall prog n_impl_progForm [.val ⟨(.int .i64), k⟩] (· = [⟨(.int .i64), kidsPN k⟩, ⟨.bool, asksP k⟩])
 intro k _
 refine ok_of_awp (wr := []) (cl := []) (ro := []) hE at_impl_progForm body_impl_progForm (l_impl_progForm k) ?_
 rewrite [vc_impl_progForm k]
 refine ⟨fun a0 => ⟨fun a1 => ⟨?_, ?_⟩, fun a1 => ⟨fun a2 => ⟨?_, ?_⟩, fun a2 => ⟨fun a3 => ⟨?_, ?_⟩, fun a3 => ⟨fun a4 => ⟨?_, ?_⟩, fun a4 => ⟨fun a5 => ⟨?_, ?_⟩, fun a5 => ⟨?_, ?_⟩⟩⟩⟩⟩⟩, fun a0 => ⟨fun a1 => ⟨fun a2 => ⟨?_, ?_⟩, fun a2 => ⟨fun a3 => ⟨?_, ?_⟩, fun a3 => ⟨fun a4 => ⟨?_, ?_⟩, fun a4 => ⟨fun a5 => ⟨?_, ?_⟩, fun a5 => ⟨fun a6 => ⟨?_, ?_⟩, fun a6 => ⟨?_, ?_⟩⟩⟩⟩⟩⟩, fun a1 => ⟨fun a2 => ⟨?_, ?_⟩, fun a2 => ⟨fun a3 => ⟨?_, ?_⟩, fun a3 => ⟨fun a4 => ⟨?_, ?_⟩, fun a4 => ⟨fun a5 => ⟨?_, ?_⟩, fun a5 => ⟨fun a6 => ⟨?_, ?_⟩, fun a6 => ⟨?_, ?_⟩⟩⟩⟩⟩⟩⟩⟩
 all_goals try and_intros
 all_goals first | rfl | trivial | grind [kidsPN, asksP]
theorem good_impl_progForm : Ctr.Good k_impl_progForm := ok_impl_progForm trivial
def k_spec_l06Kids : Ctr := ⟨n_spec_l06Kids, [.v (.int .i64)], fun (k : Int) => ⟨(none, [⟨(.int .i64), kidsPN k⟩])⟩⟩
def l_spec_l06Kids (k : Int) : Nat → LoopInv := fun _ => .none
abbrev j_spec_l06Kids_0 (k : Int) : Prop := (((decide (k = (7 : Int))) = true →
 (1 : Int) = (kidsPN k)) ∧ ((decide (k = (7 : Int))) = false →
 (((decide (k = (5 : Int))) = true →
 (((decide (k = (5 : Int))) = true →
 (2 : Int) = (kidsPN k)) ∧ ((decide (k = (5 : Int))) = false →
 (-1 : Int) = (kidsPN k)))) ∧ ((decide (k = (5 : Int))) = false →
 (((decide (k = (6 : Int))) = true →
 (2 : Int) = (kidsPN k)) ∧ ((decide (k = (6 : Int))) = false →
 (-1 : Int) = (kidsPN k)))))))
theorem vc_spec_l06Kids (k : Int) : awp (envOf []) (bodyOf f_spec_l06Kids) (l_spec_l06Kids k) 0 (funPost (envOf []) f_spec_l06Kids fun r => areEq r [⟨(.int .i64), kidsPN k⟩]) (startState f_spec_l06Kids [.val ⟨(.int .i64), k⟩]) =
 ((((decide (k = (1 : Int))) = true →
 (((decide (k = (1 : Int))) = true →
 (0 : Int) = (kidsPN k)) ∧ ((decide (k = (1 : Int))) = false →
 (j_spec_l06Kids_0 k)))) ∧ ((decide (k = (1 : Int))) = false →
 (((decide (k = (2 : Int))) = true →
 (((decide (k = (2 : Int))) = true →
 (0 : Int) = (kidsPN k)) ∧ ((decide (k = (2 : Int))) = false →
 (j_spec_l06Kids_0 k)))) ∧ ((decide (k = (2 : Int))) = false →
 (((decide (k = (3 : Int))) = true →
 (((decide (k = (3 : Int))) = true →
 (0 : Int) = (kidsPN k)) ∧ ((decide (k = (3 : Int))) = false →
 (j_spec_l06Kids_0 k)))) ∧ ((decide (k = (3 : Int))) = false →
 (((decide (k = (4 : Int))) = true →
 (0 : Int) = (kidsPN k)) ∧ ((decide (k = (4 : Int))) = false →
 (j_spec_l06Kids_0 k)))))))))) := by kernel_rfl
theorem ok_spec_l06Kids (hE : AllGood []) : Ctr.Good k_spec_l06Kids := by
 refine ⟨fnOk_of at_spec_l06Kids rfl (by decide), ?_⟩
 show ∀ (k : Int), True → OkCall prog n_spec_l06Kids [.val ⟨(.int .i64), k⟩] (· = [⟨(.int .i64), kidsPN k⟩])
 intro k _
 refine ok_of_awp (wr := []) (cl := []) (ro := []) hE at_spec_l06Kids body_spec_l06Kids (l_spec_l06Kids k) ?_
 rewrite [vc_spec_l06Kids k]
 refine ⟨fun a0 => ⟨fun a1 => ?_, fun a1 => ⟨fun a2 => ?_, fun a2 => ⟨fun a3 => ⟨fun a4 => ?_, fun a4 => ?_⟩, fun a3 => ⟨fun a4 => ?_, fun a4 => ?_⟩⟩⟩⟩, fun a0 => ⟨fun a1 => ⟨fun a2 => ?_, fun a2 => ⟨fun a3 => ?_, fun a3 => ⟨fun a4 => ⟨fun a5 => ?_, fun a5 => ?_⟩, fun a4 => ⟨fun a5 => ?_, fun a5 => ?_⟩⟩⟩⟩, fun a1 => ⟨fun a2 => ⟨fun a3 => ?_, fun a3 => ⟨fun a4 => ?_, fun a4 => ⟨fun a5 => ⟨fun a6 => ?_, fun a6 => ?_⟩, fun a5 => ⟨fun a6 => ?_, fun a6 => ?_⟩⟩⟩⟩, fun a2 => ⟨fun a3 => ?_, fun a3 => ⟨fun a4 => ?_, fun a4 => ⟨fun a5 => ⟨fun a6 => ?_, fun a6 => ?_⟩, fun a5 => ⟨fun a6 => ?_, fun a6 => ?_⟩⟩⟩⟩⟩⟩⟩
 all_goals try and_intros
 all_goals first | rfl | trivial | grind [kidsPN]
theorem good_spec_l06Kids : Ctr.Good k_spec_l06Kids := ok_spec_l06Kids trivial
def k_spec_l06Asks : Ctr := ⟨n_spec_l06Asks, [.v (.int .i64)], fun (k : Int) => ⟨(none, [⟨.bool, asksP k⟩])⟩⟩
def l_spec_l06Asks (k : Int) : Nat → LoopInv := fun _ => .none
theorem vc_spec_l06Asks (k : Int) : awp (envOf []) (bodyOf f_spec_l06Asks) (l_spec_l06Asks k) 0 (funPost (envOf []) f_spec_l06Asks fun r => areEq r [⟨.bool, asksP k⟩]) (startState f_spec_l06Asks [.val ⟨(.int .i64), k⟩]) =
 ((((decide (k = (4 : Int))) = false →
 (((decide (k = (6 : Int))) = false →
 (decide (k = (7 : Int))) = (asksP k)) ∧ ((decide (k = (6 : Int))) = (!false) →
 true = (asksP k)))) ∧ ((decide (k = (4 : Int))) = (!false) →
 ((true = false →
 (decide (k = (7 : Int))) = (asksP k)) ∧ (true = (!false) →
 true = (asksP k)))))) := by kernel_rfl
theorem ok_spec_l06Asks (hE : AllGood []) : Ctr.Good k_spec_l06Asks := by
 refine ⟨fnOk_of at_spec_l06Asks rfl (by decide), ?_⟩
 show ∀ (k : Int), True → OkCall prog n_spec_l06Asks [.val ⟨(.int .i64), k⟩] (· = [⟨.bool, asksP k⟩])
 intro k _
 refine ok_of_awp (wr := []) (cl := []) (ro := []) hE at_spec_l06Asks body_spec_l06Asks (l_spec_l06Asks k) ?_
 rewrite [vc_spec_l06Asks k]
 refine ⟨fun a0 => ⟨fun a1 => ?_, fun a1 => ?_⟩, fun a0 => ⟨fun a1 => ?_, fun a1 => ?_⟩⟩
 all_goals try and_intros
 all_goals first | rfl | trivial | grind [asksP]
theorem good_spec_l06Asks : Ctr.Good k_spec_l06Asks := ok_spec_l06Asks trivial
def kn_spec_l06Left (n : Nat) : Ctr := ⟨n_spec_l06Left, [.r (.st .prog), .v (.int .i64)], fun (x : GProg) (left : Int) => ⟨(some (msz x < n ∧ 0 ≤ left ∧ left ≤ 1048576), [⟨(.int .i64), szR (nodesP x) left⟩])⟩⟩
def k_spec_l06Left : Ctr := ⟨n_spec_l06Left, [.r (.st .prog), .v (.int .i64)], fun (x : GProg) (left : Int) => ⟨(some (0 ≤ left ∧ left ≤ 1048576), [⟨(.int .i64), szR (nodesP x) left⟩])⟩⟩
def l_spec_l06Left (x : GProg) (left : Int) : Nat → LoopInv := (fun zb => if Nat.beq zb 0 then .mk (Nat) (fun k => k ≤ x.kids.length) (fun k => x.kids.length - k) [] [2, 3, 6, 7] (fun k => [(5, .imm ⟨(.int .i64), ((k : Int) : Int)⟩), (1, .imm ⟨(.int .i64), (szR (1 + szL nodesP (x.kids.take k)) left : Int)⟩)]) [0, 1, 4, 5, 8, 9, 10, 11, 12, 13, 14, 15, 16, 17, 18, 19, 20, 21, 22, 23, 24, 25, 26, 27, 28, 29] (fun k => []) [] [] (fun k => fun _ => .none) else .none)
abbrev j_spec_l06Left_0 (n : Nat) (x : GProg) (left : Int) (k1 : Nat) : Prop := (x.kids.length ≤ 140737488355328 →
 (idxOk (k1 : Int) x.kids.length ∧ ((msz (x.kids.getD k1 zP) < n ∧ 0 ≤ (szR (1 + szL nodesP (x.kids.take k1)) left) ∧ (szR (1 + szL nodesP (x.kids.take k1)) left) ≤ 1048576) ∧ (inI64 (szR (nodesP (x.kids.getD k1 zP)) (szR (1 + szL nodesP (x.kids.take k1)) left)) →
 (inI64 ((k1 : Int) + (1 : Int)) ∧ (∃ k2 : Nat, (k2 ≤ x.kids.length ∧ (x.kids.length - k2 < x.kids.length - k1 ∧ ((x = x ∧ ((szR (nodesP (x.kids.getD k1 zP)) (szR (1 + szL nodesP (x.kids.take k1)) left)) = (szR (1 + szL nodesP (x.kids.take k2)) left) ∧ ((0 : Int) = (0 : Int) ∧ (((k1 : Int) + (1 : Int)) = (k2 : Int) ∧ True)))) ∧ True)))))))))
theorem vc_spec_l06Left (n : Nat) (x : GProg) (left : Int) : awp (envOf [kn_spec_l06Left n]) (bodyOf f_spec_l06Left) (l_spec_l06Left x left) 0 (funPost (envOf [kn_spec_l06Left n]) f_spec_l06Left fun r => areEq r [⟨(.int .i64), szR (nodesP x) left⟩]) (startState f_spec_l06Left [.ref ⟨(.st .prog), x⟩, .val ⟨(.int .i64), left⟩]) =
 ((inI64 (left - (1 : Int)) ∧ ((∃ k1 : Nat, (k1 ≤ x.kids.length ∧ ((x = x ∧ ((left - (1 : Int)) = (szR (1 + szL nodesP (x.kids.take k1)) left) ∧ ((0 : Int) = (0 : Int) ∧ ((0 : Int) = (k1 : Int) ∧ True)))) ∧ True))) ∧ (∀ k1 : Nat, (k1 ≤ x.kids.length →
 (x.kids.length ≤ 140737488355328 →
 (inI64 ((x.kids.length : Int)) →
 (((decide ((k1 : Int) < ((x.kids.length : Int)))) = true →
 (((decide ((0 : Int) ≤ (szR (1 + szL nodesP (x.kids.take k1)) left))) = true →
 (j_spec_l06Left_0 n x left k1)) ∧ ((decide ((0 : Int) ≤ (szR (1 + szL nodesP (x.kids.take k1)) left))) = false →
 (szR (1 + szL nodesP (x.kids.take k1)) left) = (szR (nodesP x) left)))) ∧ ((decide ((k1 : Int) < ((x.kids.length : Int)))) = (!true) →
 ((false = true →
 (j_spec_l06Left_0 n x left k1)) ∧ (false = false →
 (szR (1 + szL nodesP (x.kids.take k1)) left) = (szR (nodesP x) left)))))))))))) := by kernel_rfl
theorem ok_spec_l06Left (n : Nat) (hE : AllGood [kn_spec_l06Left n]) : Ctr.Good (kn_spec_l06Left (n + 1)) := by
 refine ⟨fnOk_of at_spec_l06Left rfl (by decide), ?_⟩
 show ∀ (x : GProg) (left : Int), (msz x < n + 1 ∧ 0 ≤ left ∧ left ≤ 1048576) → OkCall prog n_spec_l06Left [.ref ⟨(.st .prog), x⟩, .val ⟨(.int .i64), left⟩] (· = [⟨(.int .i64), szR (nodesP x) left⟩])
 intro x left hp
 refine ok_of_awp (wr := []) (cl := []) (ro := []) hE at_spec_l06Left body_spec_l06Left (l_spec_l06Left x left) ?_
 rewrite [vc_spec_l06Left n x left]
 have f0 := msz_kidsP x
 have f1 := szL_zero nodesP x.kids
 have f2 := szR_or (1 + szL nodesP (x.kids.take 0)) left
 refine ⟨?_, ⟨⟨0, ⟨?_, ⟨⟨rfl, ⟨?_, ⟨rfl, ⟨?_, trivial⟩⟩⟩⟩, trivial⟩⟩⟩, fun k1 a0 => have b0x0 := szL_take nodesP zP x.kids k1; have b0x1 := szL_take_le nodesP x.kids k1; have b0x2 := szL_take_le nodesP x.kids (k1 + 1); have b0x3 := szL_all nodesP x.kids k1; have b0x4 := msz_getD zP x.kids k1; have b0x5 := szR_or (1 + szL nodesP (x.kids.take k1)) left; have b0x6 := szR_or (1 + szL nodesP (x.kids.take (k1 + 1))) left; have b0x7 := szR_or (nodesP (x.kids.getD k1 zP)) (szR (1 + szL nodesP (x.kids.take k1)) left); have b0x8 := szR_or (1 + szL nodesP x.kids) left; fun a1 => fun a2 => ⟨fun a3 => ⟨fun a4 => fun a5 => ⟨?_, ⟨?_, fun a6 => ⟨?_, ⟨k1 + 1, ⟨?_, ⟨?_, ⟨⟨rfl, ⟨?_, ⟨rfl, ⟨?_, trivial⟩⟩⟩⟩, trivial⟩⟩⟩⟩⟩⟩⟩, fun a4 => ?_⟩, fun a3 => ⟨fun a4 => fun a5 => ⟨?_, ⟨?_, fun a6 => ⟨?_, ⟨k1 + 1, ⟨?_, ⟨?_, ⟨⟨rfl, ⟨?_, ⟨rfl, ⟨?_, trivial⟩⟩⟩⟩, trivial⟩⟩⟩⟩⟩⟩⟩, fun a4 => ?_⟩⟩⟩⟩
 all_goals try and_intros
 all_goals try rw [nodesP_eq x]
 all_goals first | rfl | trivial | omega | (simp only [decide_eq_true_eq, decide_eq_false_iff_not, idxOk, inI64, inKind, cutOk, makeOk, roomOk] at *; omega) | (simp [idxOk, inI64] at *; omega) | grind
theorem all_left_p  : ∀ n, AllGood [kn_spec_l06Left n]
 | 0 => ⟨⟨fnOk_of at_spec_l06Left rfl (by decide), fun _ _ h => absurd h.1 (Nat.not_lt_zero _)⟩, trivial⟩
 | n + 1 => by
  have ih := all_left_p  n
  exact ⟨ok_spec_l06Left n ⟨ih.1, trivial⟩, trivial⟩
theorem good_spec_l06Left  : Ctr.Good k_spec_l06Left :=
 ⟨fnOk_of at_spec_l06Left rfl (by decide), fun x left hp => (all_left_p  (msz x + 1)).1.2 x left (⟨Nat.lt_succ_self _, hp⟩)⟩
def kn_spec_l06Depth (n : Nat) : Ctr := ⟨n_spec_l06Depth, [.r (.st .prog)], fun (x : GProg) => ⟨(some (msz x < n ∧ depthP x ≤ 1048576), [⟨(.int .i64), (depthP x : Int)⟩])⟩⟩
def k_spec_l06Depth : Ctr := ⟨n_spec_l06Depth, [.r (.st .prog)], fun (x : GProg) => ⟨(some (depthP x ≤ 1048576), [⟨(.int .i64), (depthP x : Int)⟩])⟩⟩
def l_spec_l06Depth (x : GProg) : Nat → LoopInv := (fun zb => if Nat.beq zb 0 then .mk (Nat) (fun k => k ≤ x.kids.length) (fun k => x.kids.length - k) [] [1] (fun k => [(4, .imm ⟨(.int .i64), ((k : Int) : Int)⟩), (3, .imm ⟨(.int .i64), ((maxL depthP (x.kids.take k) : Int) : Int)⟩)]) [0, 2, 3, 4, 5, 6, 7, 8, 9, 10, 11, 12, 13, 14, 15, 16, 17, 18, 19, 20, 21, 22, 23, 24] (fun k => []) [] [] (fun k => fun _ => .none) else .none)
theorem vc_spec_l06Depth (n : Nat) (x : GProg) : awp (envOf [kn_spec_l06Depth n, k_spec_l00Max]) (bodyOf f_spec_l06Depth) (l_spec_l06Depth x) 0 (funPost (envOf [kn_spec_l06Depth n, k_spec_l00Max]) f_spec_l06Depth fun r => areEq r [⟨(.int .i64), (depthP x : Int)⟩]) (startState f_spec_l06Depth [.ref ⟨(.st .prog), x⟩]) =
 (((∃ k1 : Nat, (k1 ≤ x.kids.length ∧ ((x = x ∧ ((0 : Int) = (0 : Int) ∧ ((0 : Int) = (maxL depthP (x.kids.take k1) : Int) ∧ ((0 : Int) = (k1 : Int) ∧ True)))) ∧ True))) ∧ (∀ k1 : Nat, (k1 ≤ x.kids.length →
 (x.kids.length ≤ 140737488355328 →
 (inI64 ((x.kids.length : Int)) →
 (((decide ((k1 : Int) < ((x.kids.length : Int)))) = true →
 (x.kids.length ≤ 140737488355328 →
 (idxOk (k1 : Int) x.kids.length ∧ ((msz (x.kids.getD k1 zP) < n ∧ depthP (x.kids.getD k1 zP) ≤ 1048576) ∧ (inI64 ((depthP (x.kids.getD k1 zP) : Int)) →
 (inI64 (max (maxL depthP (x.kids.take k1) : Int) ((depthP (x.kids.getD k1 zP) : Int))) →
 (inI64 ((k1 : Int) + (1 : Int)) ∧ (∃ k2 : Nat, (k2 ≤ x.kids.length ∧ (x.kids.length - k2 < x.kids.length - k1 ∧ ((x = x ∧ ((0 : Int) = (0 : Int) ∧ ((max (maxL depthP (x.kids.take k1) : Int) ((depthP (x.kids.getD k1 zP) : Int))) = (maxL depthP (x.kids.take k2) : Int) ∧ (((k1 : Int) + (1 : Int)) = (k2 : Int) ∧ True)))) ∧ True))))))))))) ∧ ((decide ((k1 : Int) < ((x.kids.length : Int)))) = false →
 (inI64 ((maxL depthP (x.kids.take k1) : Int) + (1 : Int)) ∧ ((maxL depthP (x.kids.take k1) : Int) + (1 : Int)) = (depthP x : Int)))))))))) := by kernel_rfl
theorem ok_spec_l06Depth (n : Nat) (hE : AllGood [kn_spec_l06Depth n, k_spec_l00Max]) : Ctr.Good (kn_spec_l06Depth (n + 1)) := by
 refine ⟨fnOk_of at_spec_l06Depth rfl (by decide), ?_⟩
 show ∀ (x : GProg), (msz x < n + 1 ∧ depthP x ≤ 1048576) → OkCall prog n_spec_l06Depth [.ref ⟨(.st .prog), x⟩] (· = [⟨(.int .i64), (depthP x : Int)⟩])
 intro x hp
 refine ok_of_awp (wr := []) (cl := []) (ro := []) hE at_spec_l06Depth body_spec_l06Depth (l_spec_l06Depth x) ?_
 rewrite [vc_spec_l06Depth n x]
 rw [depthP_eq x] at hp
 have f0 := msz_kidsP x
 have f1 := maxL_zero depthP x.kids
 refine ⟨⟨0, ⟨?_, ⟨⟨rfl, ⟨rfl, ⟨?_, ⟨?_, trivial⟩⟩⟩⟩, trivial⟩⟩⟩, fun k1 a0 => have b0x0 := maxL_take depthP zP x.kids k1; have b0x1 := maxL_take_le depthP x.kids k1; have b0x2 := maxL_take_le depthP x.kids (k1 + 1); have b0x3 := maxL_all depthP x.kids k1; have b0x4 := msz_getD zP x.kids k1; have b0x5 := maxL_getD depthP zP x.kids k1; fun a1 => fun a2 => ⟨fun a3 => fun a4 => ⟨?_, ⟨?_, fun a5 => fun a6 => ⟨?_, ⟨k1 + 1, ⟨?_, ⟨?_, ⟨⟨rfl, ⟨rfl, ⟨?_, ⟨?_, trivial⟩⟩⟩⟩, trivial⟩⟩⟩⟩⟩⟩⟩, fun a3 => ⟨?_, ?_⟩⟩⟩
 all_goals try and_intros
 all_goals try rw [depthP_eq x]
 all_goals first | rfl | trivial | omega | (simp only [decide_eq_true_eq, decide_eq_false_iff_not, idxOk, inI64, inKind, cutOk, makeOk, roomOk] at *; omega) | (simp [idxOk, inI64] at *; omega) | grind
theorem all_depth_p  : ∀ n, AllGood [kn_spec_l06Depth n]
 | 0 => ⟨⟨fnOk_of at_spec_l06Depth rfl (by decide), fun _ h => absurd h.1 (Nat.not_lt_zero _)⟩, trivial⟩
 | n + 1 => by
  have ih := all_depth_p  n
  exact ⟨ok_spec_l06Depth n ⟨ih.1, good_spec_l00Max, trivial⟩, trivial⟩
theorem good_spec_l06Depth  : Ctr.Good k_spec_l06Depth :=
 ⟨fnOk_of at_spec_l06Depth rfl (by decide), fun x hp => (all_depth_p  (msz x + 1)).1.2 x (⟨Nat.lt_succ_self _, hp⟩)⟩
def kn_impl_progFits (n : Nat) : Ctr := ⟨n_impl_progFits, [.v (.st .sig), .v (.st .prog), .v (.int .i64), .v (.int .i64)], fun (gg : GSig) (x : GProg) (nodes : Int) (depth : Int) => ⟨(some (msz x < n ∧ sigOk gg = true ∧ 0 ≤ nodes ∧ nodes ≤ 1048576 ∧ 0 ≤ depth ∧ depth ≤ 1048576), [⟨(.int .i64), shPN gg x nodes depth⟩, ⟨.bool, shPB gg x nodes depth⟩])⟩⟩
def k_impl_progFits : Ctr := ⟨n_impl_progFits, [.v (.st .sig), .v (.st .prog), .v (.int .i64), .v (.int .i64)], fun (gg : GSig) (x : GProg) (nodes : Int) (depth : Int) => ⟨(some (sigOk gg = true ∧ 0 ≤ nodes ∧ nodes ≤ 1048576 ∧ 0 ≤ depth ∧ depth ≤ 1048576), [⟨(.int .i64), shPN gg x nodes depth⟩, ⟨.bool, shPB gg x nodes depth⟩])⟩⟩
def l_impl_progFits (gg : GSig) (x : GProg) (nodes : Int) (depth : Int) : Nat → LoopInv := (fun zb => if Nat.beq zb 100004 then .mk (Unit) (fun u => kidsPN x.kind = (x.kids.length : Int) ∧ 1 ≤ nodes ∧ 1 ≤ depth) (fun u => 0) [] [0, 1, 6, 7, 10, 12, 16, 17, 18, 19, 20, 21, 22, 23, 24, 25, 26, 27, 28, 29, 30, 31, 32, 33, 34] (fun u => []) [2, 3, 4, 5, 8, 9, 11, 13, 14, 15, 35, 36, 37, 38, 39, 40, 41, 42, 43, 44, 45, 46, 47, 48, 49, 50, 51, 52, 53, 54, 55, 56, 57, 58, 59, 60, 61, 62, 63, 64, 65, 66, 67, 68, 69, 70, 71, 72, 73, 74, 75, 76, 77, 78, 79, 80, 81, 82, 83, 84, 85, 86, 87, 88, 89, 90, 91, 92, 93, 94, 95, 96, 97] (fun u => []) [] [] (fun u => (fun zb => if Nat.beq zb 100006 then .mk (Unit) (fun u => kidsPN x.kind = (x.kids.length : Int) ∧ 1 ≤ nodes ∧ 1 ≤ depth ∧ conP gg x = true) (fun u => 0) [] [0, 1, 6, 7, 10, 11, 12, 16, 17, 18, 19, 20, 21, 22, 23, 24, 25, 26, 27, 28, 29, 30, 31, 32, 33, 34, 35, 36, 37, 38, 39, 40, 41, 42, 43, 44, 45, 46, 47, 48, 49, 50, 51, 52] (fun u => []) [2, 3, 4, 5, 8, 9, 13, 14, 15, 53, 54, 55, 56, 57, 58, 59, 60, 61, 62, 63, 64, 65, 66, 67, 68, 69, 70, 71, 72, 73, 74, 75, 76, 77, 78, 79, 80, 81, 82, 83, 84, 85, 86, 87, 88, 89, 90, 91, 92, 93, 94, 95, 96, 97] (fun u => []) [] [] (fun u => (fun zb => if Nat.beq zb 100008 then .mk (Unit) (fun u => headP gg x = true ∧ 1 ≤ nodes ∧ 1 ≤ depth) (fun u => 0) [] [0, 1, 6, 7, 10, 11, 12, 16, 17, 18, 19, 20, 21, 22, 23, 24, 25, 26, 27, 28, 29, 30, 31, 32, 33, 34, 35, 36, 37, 38, 39, 40, 41, 42, 43, 44, 45, 46, 47, 48, 49, 50, 51, 52, 53, 54, 55, 56, 57, 58, 59, 60, 61, 62, 63, 64, 65, 66, 67, 68, 69, 70, 71, 72, 73, 74] (fun u => []) [2, 3, 4, 5, 8, 9, 13, 14, 15, 75, 76, 77, 78, 79, 80, 81, 82, 83, 84, 85, 86, 87, 88, 89, 90, 91, 92, 93, 94, 95, 96, 97] (fun u => []) [] [] (fun u => (fun zb => if Nat.beq zb 0 then .mk (Nat) (fun k => k ≤ x.kids.length ∧ allL (treeP gg) (x.kids.take k) = true ∧ 1 + (szL nodesP (x.kids.take k) : Int) ≤ nodes ∧ 1 + (maxL depthP (x.kids.take k) : Int) ≤ depth) (fun k => x.kids.length - k) [] [0, 1, 5, 6, 7, 10, 11, 12, 16, 17, 18, 19, 20, 21, 22, 23, 24, 25, 26, 27, 28, 29, 30, 31, 32, 33, 34, 35, 36, 37, 38, 39, 40, 41, 42, 43, 44, 45, 46, 47, 48, 49, 50, 51, 52, 53, 54, 55, 56, 57, 58, 59, 60, 61, 62, 63, 64, 65, 66, 67, 68, 69, 70, 71, 72, 73, 74, 75, 76, 77] (fun k => [(80, .imm ⟨(.int .i64), ((k : Int) : Int)⟩), (2, .imm ⟨(.int .i64), (nodes - (1 + (szL nodesP (x.kids.take k) : Int)) : Int)⟩)]) [2, 3, 4, 8, 9, 13, 14, 15, 78, 79, 80, 81, 82, 83, 84, 85, 86, 87, 88, 89, 90, 91, 92, 93, 94, 95, 96, 97] (fun k => []) [] [] (fun k => fun _ => .none) else .none)) else .none)) else .none)) else .none)
abbrev j_impl_progFits_0 (gg : GSig) (x : GProg) (nodes : Int) (depth : Int) : Prop := (∃ u1 : Unit, ((kidsPN x.kind = (x.kids.length : Int) ∧ 1 ≤ nodes ∧ 1 ≤ depth) ∧ ((nodes = nodes ∧ (depth = depth ∧ (gg = gg ∧ (x = x ∧ ((asksP x.kind) = (asksP x.kind) ∧ True))))) ∧ True)))
abbrev j_impl_progFits_1 (gg : GSig) (x : GProg) (nodes : Int) (depth : Int) : Prop := (x.kids.length ≤ 140737488355328 →
 (inI64 ((x.kids.length : Int)) →
 (((!(decide ((kidsPN x.kind) = ((x.kids.length : Int))))) = true →
 ((0 : Int) = (shPN gg x nodes depth) ∧ false = (shPB gg x nodes depth))) ∧ ((!(decide ((kidsPN x.kind) = ((x.kids.length : Int))))) = false →
 (j_impl_progFits_0 gg x nodes depth)))))
abbrev j_impl_progFits_2 (gg : GSig) (x : GProg) (nodes : Int) (depth : Int) : Prop := ((true = true →
 ((0 : Int) = (shPN gg x nodes depth) ∧ false = (shPB gg x nodes depth))) ∧ (true = false →
 (j_impl_progFits_0 gg x nodes depth)))
abbrev j_impl_progFits_3 (gg : GSig) (x : GProg) (nodes : Int) (depth : Int) : Prop := (∃ u2 : Unit, ((kidsPN x.kind = (x.kids.length : Int) ∧ 1 ≤ nodes ∧ 1 ≤ depth ∧ conP gg x = true) ∧ ((nodes = nodes ∧ (depth = depth ∧ (gg = gg ∧ (x = x ∧ True)))) ∧ True)))
abbrev j_impl_progFits_4 (gg : GSig) (x : GProg) (nodes : Int) (depth : Int) : Prop := (((!(asksP x.kind)) = true →
 (((!(noneE x.cond)) = true →
 ((0 : Int) = (shPN gg x nodes depth) ∧ false = (shPB gg x nodes depth))) ∧ ((!(noneE x.cond)) = false →
 (j_impl_progFits_3 gg x nodes depth)))) ∧ ((!(asksP x.kind)) = (!true) →
 ((false = true →
 ((0 : Int) = (shPN gg x nodes depth) ∧ false = (shPB gg x nodes depth))) ∧ (false = false →
 (j_impl_progFits_3 gg x nodes depth)))))
abbrev j_impl_progFits_5 (gg : GSig) (x : GProg) (nodes : Int) (depth : Int) : Prop := ((true = true →
 ((0 : Int) = (shPN gg x nodes depth) ∧ false = (shPB gg x nodes depth))) ∧ (true = false →
 (j_impl_progFits_3 gg x nodes depth)))
abbrev j_impl_progFits_6 (gg : GSig) (x : GProg) (nodes : Int) (depth : Int) : Prop := (∃ u3 : Unit, ((headP gg x = true ∧ 1 ≤ nodes ∧ 1 ≤ depth) ∧ ((nodes = nodes ∧ (depth = depth ∧ (gg = gg ∧ (x = x ∧ True)))) ∧ True)))
abbrev j_impl_progFits_7 (gg : GSig) (x : GProg) (nodes : Int) (depth : Int) : Prop := (inI64 x.kind →
 (((!(decide (x.kind = (3 : Int)))) = true →
 (inI64 x.num →
 (((!(decide (x.num = (0 : Int)))) = true →
 ((0 : Int) = (shPN gg x nodes depth) ∧ false = (shPB gg x nodes depth))) ∧ ((!(decide (x.num = (0 : Int)))) = false →
 (j_impl_progFits_6 gg x nodes depth))))) ∧ ((!(decide (x.kind = (3 : Int)))) = (!true) →
 ((false = true →
 ((0 : Int) = (shPN gg x nodes depth) ∧ false = (shPB gg x nodes depth))) ∧ (false = false →
 (j_impl_progFits_6 gg x nodes depth))))))
abbrev j_impl_progFits_8 (gg : GSig) (x : GProg) (nodes : Int) (depth : Int) : Prop := ((true = true →
 ((0 : Int) = (shPN gg x nodes depth) ∧ false = (shPB gg x nodes depth))) ∧ (true = false →
 (j_impl_progFits_6 gg x nodes depth)))
theorem vc_impl_progFits (n : Nat) (gg : GSig) (x : GProg) (nodes : Int) (depth : Int) : awp (envOf [kn_impl_progFits n, k_impl_progForm, k_impl_isCondition, k_impl_isNone, k_impl_within] [] [] [4, 5]) (bodyOf f_impl_progFits) (l_impl_progFits gg x nodes depth) 0 (funPost (envOf [kn_impl_progFits n, k_impl_progForm, k_impl_isCondition, k_impl_isNone, k_impl_within] [] [] [4, 5]) f_impl_progFits fun r => areEq r [⟨(.int .i64), shPN gg x nodes depth⟩, ⟨.bool, shPB gg x nodes depth⟩]) (startState f_impl_progFits [.val ⟨(.st .sig), gg⟩, .val ⟨(.st .prog), x⟩, .val ⟨(.int .i64), nodes⟩, .val ⟨(.int .i64), depth⟩]) =
 ((inI64 x.kind →
 (inI64 (kidsPN x.kind) →
 ((((decide (nodes = (0 : Int))) = false →
 (((decide (depth = (0 : Int))) = false →
 (j_impl_progFits_1 gg x nodes depth)) ∧ ((decide (depth = (0 : Int))) = (!false) →
 (j_impl_progFits_2 gg x nodes depth)))) ∧ ((decide (nodes = (0 : Int))) = (!false) →
 ((true = false →
 (j_impl_progFits_1 gg x nodes depth)) ∧ (true = (!false) →
 (j_impl_progFits_2 gg x nodes depth))))) ∧ (∀ u1 : Unit, ((kidsPN x.kind = (x.kids.length : Int) ∧ 1 ≤ nodes ∧ 1 ≤ depth) →
 ((((asksP x.kind) = true →
 (((!(isC gg x.cond)) = false →
 (j_impl_progFits_4 gg x nodes depth)) ∧ ((!(isC gg x.cond)) = (!false) →
 (j_impl_progFits_5 gg x nodes depth)))) ∧ ((asksP x.kind) = (!true) →
 ((false = false →
 (j_impl_progFits_4 gg x nodes depth)) ∧ (false = (!false) →
 (j_impl_progFits_5 gg x nodes depth))))) ∧ (∀ u2 : Unit, ((kidsPN x.kind = (x.kids.length : Int) ∧ 1 ≤ nodes ∧ 1 ≤ depth ∧ conP gg x = true) →
 ((inI64 x.kind →
 (((decide (x.kind = (3 : Int))) = true →
 (inI64 x.num →
 (inI64 gg.actions →
 (inI64 (gg.actions - (1 : Int)) ∧ ((((!(decide ((0 : Int) ≤ x.num ∧ x.num ≤ (gg.actions - (1 : Int))))) = false) →
 (j_impl_progFits_7 gg x nodes depth)) ∧ (((!(decide ((0 : Int) ≤ x.num ∧ x.num ≤ (gg.actions - (1 : Int))))) = (!false)) →
 (j_impl_progFits_8 gg x nodes depth))))))) ∧ ((decide (x.kind = (3 : Int))) = (!true) →
 ((false = false →
 (j_impl_progFits_7 gg x nodes depth)) ∧ (false = (!false) →
 (j_impl_progFits_8 gg x nodes depth)))))) ∧ (∀ u3 : Unit, ((headP gg x = true ∧ 1 ≤ nodes ∧ 1 ≤ depth) →
 (inI64 (nodes - (1 : Int)) ∧ (x.kids.length ≤ 140737488355328 →
 (inI64 ((x.kids.length : Int)) →
 ((∃ k4 : Nat, ((k4 ≤ x.kids.length ∧ allL (treeP gg) (x.kids.take k4) = true ∧ 1 + (szL nodesP (x.kids.take k4) : Int) ≤ nodes ∧ 1 + (maxL depthP (x.kids.take k4) : Int) ≤ depth) ∧ (((nodes - (1 : Int)) = (nodes - (1 + (szL nodesP (x.kids.take k4) : Int))) ∧ (depth = depth ∧ (gg = gg ∧ (x.kids = x.kids ∧ (((x.kids.length : Int)) = ((x.kids.length : Int)) ∧ ((0 : Int) = (k4 : Int) ∧ True)))))) ∧ True))) ∧ (∀ k4 : Nat, ((k4 ≤ x.kids.length ∧ allL (treeP gg) (x.kids.take k4) = true ∧ 1 + (szL nodesP (x.kids.take k4) : Int) ≤ nodes ∧ 1 + (maxL depthP (x.kids.take k4) : Int) ≤ depth) →
 (((decide ((k4 : Int) < ((x.kids.length : Int)))) = true →
 (idxOk (k4 : Int) x.kids.length ∧ (inI64 (depth - (1 : Int)) ∧ ((msz (e_prog (x.kids.getD k4 zP)) < n ∧ sigOk gg = true ∧ 0 ≤ (nodes - (1 + (szL nodesP (x.kids.take k4) : Int))) ∧ (nodes - (1 + (szL nodesP (x.kids.take k4) : Int))) ≤ 1048576 ∧ 0 ≤ (depth - (1 : Int)) ∧ (depth - (1 : Int)) ≤ 1048576) ∧ (inI64 (shPN gg (e_prog (x.kids.getD k4 zP)) (nodes - (1 + (szL nodesP (x.kids.take k4) : Int))) (depth - (1 : Int))) →
 (((!(shPB gg (e_prog (x.kids.getD k4 zP)) (nodes - (1 + (szL nodesP (x.kids.take k4) : Int))) (depth - (1 : Int)))) = true →
 ((0 : Int) = (shPN gg x nodes depth) ∧ false = (shPB gg x nodes depth))) ∧ ((!(shPB gg (e_prog (x.kids.getD k4 zP)) (nodes - (1 + (szL nodesP (x.kids.take k4) : Int))) (depth - (1 : Int)))) = false →
 (inI64 ((k4 : Int) + (1 : Int)) ∧ (∃ k5 : Nat, ((k5 ≤ x.kids.length ∧ allL (treeP gg) (x.kids.take k5) = true ∧ 1 + (szL nodesP (x.kids.take k5) : Int) ≤ nodes ∧ 1 + (maxL depthP (x.kids.take k5) : Int) ≤ depth) ∧ (x.kids.length - k5 < x.kids.length - k4 ∧ (((shPN gg (e_prog (x.kids.getD k4 zP)) (nodes - (1 + (szL nodesP (x.kids.take k4) : Int))) (depth - (1 : Int))) = (nodes - (1 + (szL nodesP (x.kids.take k5) : Int))) ∧ (depth = depth ∧ (gg = gg ∧ (x.kids = x.kids ∧ (((x.kids.length : Int)) = ((x.kids.length : Int)) ∧ (((k4 : Int) + (1 : Int)) = (k5 : Int) ∧ True)))))) ∧ True)))))))))))) ∧ ((decide ((k4 : Int) < ((x.kids.length : Int)))) = false →
 ((nodes - (1 + (szL nodesP (x.kids.take k4) : Int))) = (shPN gg x nodes depth) ∧ true = (shPB gg x nodes depth)))))))))))))))))))))) := by kernel_rfl
theorem ok_impl_progFits (n : Nat) (hE : AllGood [kn_impl_progFits n, k_impl_progForm, k_impl_isCondition, k_impl_isNone, k_impl_within]) : Ctr.Good (kn_impl_progFits (n + 1)) := by
 refine ⟨fnOk_of at_impl_progFits rfl (by decide), ?_⟩
 show ∀ (gg : GSig) (x : GProg) (nodes : Int) (depth : Int), (msz x < n + 1 ∧ sigOk gg = true ∧ 0 ≤ nodes ∧ nodes ≤ 1048576 ∧ 0 ≤ depth ∧ depth ≤ 1048576) → OkCall prog n_impl_progFits [.val ⟨(.st .sig), gg⟩, .val ⟨(.st .prog), x⟩, .val ⟨(.int .i64), nodes⟩, .val ⟨(.int .i64), depth⟩] (· = [⟨(.int .i64), shPN gg x nodes depth⟩, ⟨.bool, shPB gg x nodes depth⟩])
 intro gg x nodes depth hp
 refine ok_of_awp (wr := []) (cl := []) (ro := [4, 5]) hE at_impl_progFits body_impl_progFits (l_impl_progFits gg x nodes depth) ?_
 rewrite [vc_impl_progFits n gg x nodes depth]
 have fg := sigOk_actsP gg hp.2.1
 have fs := shPB_cases gg x nodes depth
 rw [treeP_eq gg x, nodesP_eq x, depthP_eq x] at fs
 have f0 := msz_kidsP x
 have f1 := szL_zero nodesP x.kids
 have f2 := maxL_zero depthP x.kids
 have f3 := all_zero (treeP gg) x.kids
 refine fun a0 => fun a1 => ⟨⟨fun a2 => ⟨fun a3 => fun a4 => fun a5 => ⟨fun a6 => ⟨?_, ?_⟩, fun a6 => ⟨(), ⟨?_, ⟨⟨rfl, ⟨rfl, ⟨rfl, ⟨rfl, ⟨rfl, trivial⟩⟩⟩⟩⟩, trivial⟩⟩⟩⟩, fun a3 => ⟨fun a4 => ⟨?_, ?_⟩, fun a4 => ⟨(), ⟨?_, ⟨⟨rfl, ⟨rfl, ⟨rfl, ⟨rfl, ⟨rfl, trivial⟩⟩⟩⟩⟩, trivial⟩⟩⟩⟩⟩, fun a2 => ⟨fun a3 => fun a4 => fun a5 => ⟨fun a6 => ⟨?_, ?_⟩, fun a6 => ⟨(), ⟨?_, ⟨⟨rfl, ⟨rfl, ⟨rfl, ⟨rfl, ⟨rfl, trivial⟩⟩⟩⟩⟩, trivial⟩⟩⟩⟩, fun a3 => ⟨fun a4 => ⟨?_, ?_⟩, fun a4 => ⟨(), ⟨?_, ⟨⟨rfl, ⟨rfl, ⟨rfl, ⟨rfl, ⟨rfl, trivial⟩⟩⟩⟩⟩, trivial⟩⟩⟩⟩⟩⟩, fun u1 => fun a2 => ⟨⟨fun a3 => ⟨fun a4 => ⟨fun a5 => ⟨fun a6 => ⟨?_, ?_⟩, fun a6 => ⟨(), ⟨?_, ⟨⟨rfl, ⟨rfl, ⟨rfl, ⟨rfl, trivial⟩⟩⟩⟩, trivial⟩⟩⟩⟩, fun a5 => ⟨fun a6 => ⟨?_, ?_⟩, fun a6 => ⟨(), ⟨?_, ⟨⟨rfl, ⟨rfl, ⟨rfl, ⟨rfl, trivial⟩⟩⟩⟩, trivial⟩⟩⟩⟩⟩, fun a4 => ⟨fun a5 => ⟨?_, ?_⟩, fun a5 => ⟨(), ⟨?_, ⟨⟨rfl, ⟨rfl, ⟨rfl, ⟨rfl, trivial⟩⟩⟩⟩, trivial⟩⟩⟩⟩⟩, fun a3 => ⟨fun a4 => ⟨fun a5 => ⟨fun a6 => ⟨?_, ?_⟩, fun a6 => ⟨(), ⟨?_, ⟨⟨rfl, ⟨rfl, ⟨rfl, ⟨rfl, trivial⟩⟩⟩⟩, trivial⟩⟩⟩⟩, fun a5 => ⟨fun a6 => ⟨?_, ?_⟩, fun a6 => ⟨(), ⟨?_, ⟨⟨rfl, ⟨rfl, ⟨rfl, ⟨rfl, trivial⟩⟩⟩⟩, trivial⟩⟩⟩⟩⟩, fun a4 => ⟨fun a5 => ⟨?_, ?_⟩, fun a5 => ⟨(), ⟨?_, ⟨⟨rfl, ⟨rfl, ⟨rfl, ⟨rfl, trivial⟩⟩⟩⟩, trivial⟩⟩⟩⟩⟩⟩, fun u2 => fun a3 => ⟨fun a4 => ⟨fun a5 => fun a6 => fun a7 => ⟨?_, ⟨fun a8 => fun a9 => ⟨fun a10 => fun a11 => ⟨fun a12 => ⟨?_, ?_⟩, fun a12 => ⟨(), ⟨?_, ⟨⟨rfl, ⟨rfl, ⟨rfl, ⟨rfl, trivial⟩⟩⟩⟩, trivial⟩⟩⟩⟩, fun a10 => ⟨fun a11 => ⟨?_, ?_⟩, fun a11 => ⟨(), ⟨?_, ⟨⟨rfl, ⟨rfl, ⟨rfl, ⟨rfl, trivial⟩⟩⟩⟩, trivial⟩⟩⟩⟩⟩, fun a8 => ⟨fun a9 => ⟨?_, ?_⟩, fun a9 => ⟨(), ⟨?_, ⟨⟨rfl, ⟨rfl, ⟨rfl, ⟨rfl, trivial⟩⟩⟩⟩, trivial⟩⟩⟩⟩⟩⟩, fun a5 => ⟨fun a6 => fun a7 => ⟨fun a8 => fun a9 => ⟨fun a10 => ⟨?_, ?_⟩, fun a10 => ⟨(), ⟨?_, ⟨⟨rfl, ⟨rfl, ⟨rfl, ⟨rfl, trivial⟩⟩⟩⟩, trivial⟩⟩⟩⟩, fun a8 => ⟨fun a9 => ⟨?_, ?_⟩, fun a9 => ⟨(), ⟨?_, ⟨⟨rfl, ⟨rfl, ⟨rfl, ⟨rfl, trivial⟩⟩⟩⟩, trivial⟩⟩⟩⟩⟩, fun a6 => ⟨fun a7 => ⟨?_, ?_⟩, fun a7 => ⟨(), ⟨?_, ⟨⟨rfl, ⟨rfl, ⟨rfl, ⟨rfl, trivial⟩⟩⟩⟩, trivial⟩⟩⟩⟩⟩⟩, fun u3 => fun a4 => ⟨?_, fun a5 => fun a6 => ⟨⟨0, ⟨?_, ⟨⟨?_, ⟨rfl, ⟨rfl, ⟨rfl, ⟨rfl, ⟨?_, trivial⟩⟩⟩⟩⟩⟩, trivial⟩⟩⟩, fun k4 a7 => have b7x0 := all_take (treeP gg) zP x.kids k4; have b7x1 := all_bad (treeP gg) zP x.kids k4; have b7x2 := all_done (treeP gg) x.kids k4; have b7x3 := msz_getD zP x.kids k4; have b7x4 := szL_take nodesP zP x.kids k4; have b7x5 := szL_take_le nodesP x.kids (k4 + 1); have b7x6 := szL_all nodesP x.kids k4; have b7x7 := maxL_take depthP zP x.kids k4; have b7x8 := maxL_take_le depthP x.kids (k4 + 1); have b7x9 := maxL_all depthP x.kids k4; have b7x10 := shPB_cases gg (x.kids.getD k4 zP) (nodes - (1 + (szL nodesP (x.kids.take k4) : Int))) (depth - 1); ⟨fun a8 => ⟨?_, ⟨?_, ⟨?_, fun a9 => ⟨fun a10 => ⟨?_, ?_⟩, fun a10 => ⟨?_, ⟨k4 + 1, ⟨?_, ⟨?_, ⟨⟨?_, ⟨rfl, ⟨rfl, ⟨rfl, ⟨rfl, ⟨?_, trivial⟩⟩⟩⟩⟩⟩, trivial⟩⟩⟩⟩⟩⟩⟩⟩⟩, fun a8 => ⟨?_, ?_⟩⟩⟩⟩⟩⟩⟩
 all_goals try and_intros
 all_goals try simp only [GExpr.eta, GProg.eta, GDerivation.eta, GTriple.eta, GPremise.eta, GClaim.eta, GEquation.eta, GPair.eta, GSpot.eta, e_expr_eq, e_pair_eq, e_equation_eq, e_claim_eq, e_prog_eq, e_spot_eq, e_triple_eq, e_premise_eq, e_derivation_eq] at *
 all_goals (first | rfl | trivial | (simp only [decide_eq_true_eq, decide_eq_false_iff_not, idxOk, inI64] at *; omega) | (rcases fs with ⟨t1, t2, t3, t4, t5⟩ | ⟨t1, t4, t5⟩ <;> (try rw [t4]) <;> (try rw [t5]) <;> clear t4 t5 <;> simp only [decide_eq_true_eq, decide_eq_false_iff_not, headP_eq, numP, conP, Bool.and_eq_true, Bool.and_eq_false_iff, Bool.not_eq_true', Bool.not_eq_false', inI64] at * <;> first | rfl | omega | grind | grind [kidsPN]))
theorem all_fits_p  : ∀ n, AllGood [kn_impl_progFits n]
 | 0 => ⟨⟨fnOk_of at_impl_progFits rfl (by decide), fun _ _ _ _ h => absurd h.1 (Nat.not_lt_zero _)⟩, trivial⟩
 | n + 1 => by
  have ih := all_fits_p  n
  exact ⟨ok_impl_progFits n ⟨ih.1, good_impl_progForm, good_impl_isCondition, good_impl_isNone, good_impl_within, trivial⟩, trivial⟩
theorem good_impl_progFits  : Ctr.Good k_impl_progFits :=
 ⟨fnOk_of at_impl_progFits rfl (by decide), fun gg x nodes depth hp => (all_fits_p  (msz x + 1)).1.2 gg x nodes depth (⟨Nat.lt_succ_self _, hp⟩)⟩
def kn_spec_l06Tree (n : Nat) : Ctr := ⟨n_spec_l06Tree, [.v (.st .sig), .r (.st .prog)], fun (gg : GSig) (x : GProg) => ⟨(some (msz x < n ∧ sigOk gg = true), [⟨.bool, treeP gg x⟩])⟩⟩
def k_spec_l06Tree : Ctr := ⟨n_spec_l06Tree, [.v (.st .sig), .r (.st .prog)], fun (gg : GSig) (x : GProg) => ⟨(some (sigOk gg = true), [⟨.bool, treeP gg x⟩])⟩⟩
def l_spec_l06Tree (gg : GSig) (x : GProg) : Nat → LoopInv := (fun zb => if Nat.beq zb 100003 then .mk (Unit) (fun u => kidsPN x.kind = (x.kids.length : Int)) (fun u => 0) [] [0, 3, 6, 7, 8, 9, 10, 11, 12, 13, 14, 15, 16] (fun u => []) [1, 2, 4, 5, 17, 18, 19, 20, 21, 22, 23, 24, 25, 26, 27, 28, 29, 30, 31, 32, 33, 34, 35, 36, 37, 38, 39, 40, 41, 42, 43, 44, 45, 46, 47, 48, 49, 50, 51, 52, 53, 54, 55, 56, 57, 58, 59, 60, 61, 62, 63, 64, 65, 66, 67, 68, 69, 70, 71, 72, 73, 74, 75, 76, 77, 78, 79, 80, 81, 82, 83, 84, 85, 86, 87, 88, 89, 90, 91, 92] (fun u => []) [] [] (fun u => (fun zb => if Nat.beq zb 100005 then .mk (Unit) (fun u => kidsPN x.kind = (x.kids.length : Int) ∧ numP gg x = true) (fun u => 0) [] [0, 3, 6, 7, 8, 9, 10, 11, 12, 13, 14, 15, 16, 17, 18, 19, 20, 21, 22, 23, 24, 25, 26, 27, 28, 29, 30, 31, 32, 33, 34, 35, 36, 37, 38, 39, 40, 41, 42, 43, 44, 45, 46] (fun u => []) [1, 2, 4, 5, 47, 48, 49, 50, 51, 52, 53, 54, 55, 56, 57, 58, 59, 60, 61, 62, 63, 64, 65, 66, 67, 68, 69, 70, 71, 72, 73, 74, 75, 76, 77, 78, 79, 80, 81, 82, 83, 84, 85, 86, 87, 88, 89, 90, 91, 92] (fun u => []) [] [] (fun u => (fun zb => if Nat.beq zb 100007 then .mk (Unit) (fun u => headP gg x = true) (fun u => 0) [] [0, 3, 6, 7, 8, 9, 10, 11, 12, 13, 14, 15, 16, 17, 18, 19, 20, 21, 22, 23, 24, 25, 26, 27, 28, 29, 30, 31, 32, 33, 34, 35, 36, 37, 38, 39, 40, 41, 42, 43, 44, 45, 46, 47, 48, 49, 50, 51, 52, 53, 54, 55, 56, 57, 58, 59, 60, 61, 62, 63, 64, 65, 66, 67, 68, 69, 70, 71, 72, 73, 74] (fun u => []) [1, 2, 4, 5, 75, 76, 77, 78, 79, 80, 81, 82, 83, 84, 85, 86, 87, 88, 89, 90, 91, 92] (fun u => []) [] [] (fun u => (fun zb => if Nat.beq zb 0 then .mk (Nat) (fun k => k ≤ x.kids.length ∧ allL (treeP gg) (x.kids.take k) = true) (fun k => x.kids.length - k) [] [0, 3, 6, 7, 8, 9, 10, 11, 12, 13, 14, 15, 16, 17, 18, 19, 20, 21, 22, 23, 24, 25, 26, 27, 28, 29, 30, 31, 32, 33, 34, 35, 36, 37, 38, 39, 40, 41, 42, 43, 44, 45, 46, 47, 48, 49, 50, 51, 52, 53, 54, 55, 56, 57, 58, 59, 60, 61, 62, 63, 64, 65, 66, 67, 68, 69, 70, 71, 72, 73, 74] (fun k => [(5, .imm ⟨(.int .i64), ((k : Int) : Int)⟩)]) [1, 2, 4, 5, 75, 76, 77, 78, 79, 80, 81, 82, 83, 84, 85, 86, 87, 88, 89, 90, 91, 92] (fun k => []) [] [] (fun k => fun _ => .none) else .none)) else .none)) else .none)) else .none)
abbrev j_spec_l06Tree_0 (gg : GSig) (x : GProg) : Prop := (inI64 x.kind →
 (((!(decide (x.kind = (3 : Int)))) = true →
 (inI64 x.num →
 (((!(decide (x.num = (0 : Int)))) = true →
 false = (treeP gg x)) ∧ ((!(decide (x.num = (0 : Int)))) = false →
 (∃ u2 : Unit, ((kidsPN x.kind = (x.kids.length : Int) ∧ numP gg x = true) ∧ ((x = x ∧ (gg = gg ∧ True)) ∧ True))))))) ∧ ((!(decide (x.kind = (3 : Int)))) = (!true) →
 ((false = true →
 false = (treeP gg x)) ∧ (false = false →
 (∃ u2 : Unit, ((kidsPN x.kind = (x.kids.length : Int) ∧ numP gg x = true) ∧ ((x = x ∧ (gg = gg ∧ True)) ∧ True))))))))
abbrev j_spec_l06Tree_1 (gg : GSig) (x : GProg) : Prop := ((true = true →
 false = (treeP gg x)) ∧ (true = false →
 (∃ u2 : Unit, ((kidsPN x.kind = (x.kids.length : Int) ∧ numP gg x = true) ∧ ((x = x ∧ (gg = gg ∧ True)) ∧ True)))))
abbrev j_spec_l06Tree_2 (gg : GSig) (x : GProg) : Prop := (inI64 x.kind →
 (((!(asksP x.kind)) = true →
 (((!(noneE x.cond)) = true →
 false = (treeP gg x)) ∧ ((!(noneE x.cond)) = false →
 (∃ u3 : Unit, (headP gg x = true ∧ ((x = x ∧ (gg = gg ∧ True)) ∧ True)))))) ∧ ((!(asksP x.kind)) = (!true) →
 ((false = true →
 false = (treeP gg x)) ∧ (false = false →
 (∃ u3 : Unit, (headP gg x = true ∧ ((x = x ∧ (gg = gg ∧ True)) ∧ True))))))))
theorem vc_spec_l06Tree (n : Nat) (gg : GSig) (x : GProg) : awp (envOf [kn_spec_l06Tree n, k_spec_l06Kids, k_spec_l00In, k_spec_l06Asks, k_spec_l06Cond, k_spec_l06None] [] [] [2]) (bodyOf f_spec_l06Tree) (l_spec_l06Tree gg x) 0 (funPost (envOf [kn_spec_l06Tree n, k_spec_l06Kids, k_spec_l00In, k_spec_l06Asks, k_spec_l06Cond, k_spec_l06None] [] [] [2]) f_spec_l06Tree fun r => areEq r [⟨.bool, treeP gg x⟩]) (startState f_spec_l06Tree [.val ⟨(.st .sig), gg⟩, .ref ⟨(.st .prog), x⟩]) =
 (((x.kids.length ≤ 140737488355328 →
 (inI64 ((x.kids.length : Int)) →
 (inI64 x.kind →
 (inI64 (kidsPN x.kind) →
 (((!(decide (((x.kids.length : Int)) = (kidsPN x.kind)))) = true →
 false = (treeP gg x)) ∧ ((!(decide (((x.kids.length : Int)) = (kidsPN x.kind)))) = false →
 (∃ u1 : Unit, (kidsPN x.kind = (x.kids.length : Int) ∧ ((x = x ∧ (gg = gg ∧ True)) ∧ True))))))))) ∧ (∀ u1 : Unit, (kidsPN x.kind = (x.kids.length : Int) →
 ((((decide (x.kind = (3 : Int))) = true →
 (inI64 (gg.actions - (1 : Int)) ∧ (inI64 x.kind →
 (inI64 x.num →
 (inI64 gg.actions →
 ((((!(decide ((0 : Int) ≤ x.num ∧ x.num ≤ (gg.actions - (1 : Int))))) = false) →
 (j_spec_l06Tree_0 gg x)) ∧ (((!(decide ((0 : Int) ≤ x.num ∧ x.num ≤ (gg.actions - (1 : Int))))) = (!false)) →
 (j_spec_l06Tree_1 gg x)))))))) ∧ ((decide (x.kind = (3 : Int))) = (!true) →
 (inI64 x.kind →
 ((false = false →
 (j_spec_l06Tree_0 gg x)) ∧ (false = (!false) →
 (j_spec_l06Tree_1 gg x)))))) ∧ (∀ u2 : Unit, ((kidsPN x.kind = (x.kids.length : Int) ∧ numP gg x = true) →
 ((((asksP x.kind) = true →
 (inI64 x.kind →
 (((!(okC gg x.cond)) = false →
 (j_spec_l06Tree_2 gg x)) ∧ ((!(okC gg x.cond)) = (!false) →
 ((true = true →
 false = (treeP gg x)) ∧ (true = false →
 (∃ u3 : Unit, (headP gg x = true ∧ ((x = x ∧ (gg = gg ∧ True)) ∧ True))))))))) ∧ ((asksP x.kind) = (!true) →
 (inI64 x.kind →
 ((false = false →
 (j_spec_l06Tree_2 gg x)) ∧ (false = (!false) →
 ((true = true →
 false = (treeP gg x)) ∧ (true = false →
 (∃ u3 : Unit, (headP gg x = true ∧ ((x = x ∧ (gg = gg ∧ True)) ∧ True)))))))))) ∧ (∀ u3 : Unit, (headP gg x = true →
 ((∃ k4 : Nat, ((k4 ≤ x.kids.length ∧ allL (treeP gg) (x.kids.take k4) = true) ∧ ((x = x ∧ (gg = gg ∧ ((0 : Int) = (k4 : Int) ∧ True))) ∧ True))) ∧ (∀ k4 : Nat, ((k4 ≤ x.kids.length ∧ allL (treeP gg) (x.kids.take k4) = true) →
 (x.kids.length ≤ 140737488355328 →
 (inI64 ((x.kids.length : Int)) →
 (((decide ((k4 : Int) < ((x.kids.length : Int)))) = true →
 (idxOk (k4 : Int) x.kids.length ∧ (x.kids.length ≤ 140737488355328 →
 ((msz (x.kids.getD k4 zP) < n ∧ sigOk gg = true) ∧ (((!(treeP gg (x.kids.getD k4 zP))) = true →
 false = (treeP gg x)) ∧ ((!(treeP gg (x.kids.getD k4 zP))) = false →
 (inI64 ((k4 : Int) + (1 : Int)) ∧ (∃ k5 : Nat, ((k5 ≤ x.kids.length ∧ allL (treeP gg) (x.kids.take k5) = true) ∧ (x.kids.length - k5 < x.kids.length - k4 ∧ ((x = x ∧ (gg = gg ∧ (((k4 : Int) + (1 : Int)) = (k5 : Int) ∧ True))) ∧ True))))))))))) ∧ ((decide ((k4 : Int) < ((x.kids.length : Int)))) = false →
 true = (treeP gg x)))))))))))))))))) := by kernel_rfl
theorem ok_spec_l06Tree (n : Nat) (hE : AllGood [kn_spec_l06Tree n, k_spec_l06Kids, k_spec_l00In, k_spec_l06Asks, k_spec_l06Cond, k_spec_l06None]) : Ctr.Good (kn_spec_l06Tree (n + 1)) := by
 refine ⟨fnOk_of at_spec_l06Tree rfl (by decide), ?_⟩
 show ∀ (gg : GSig) (x : GProg), (msz x < n + 1 ∧ sigOk gg = true) → OkCall prog n_spec_l06Tree [.val ⟨(.st .sig), gg⟩, .ref ⟨(.st .prog), x⟩] (· = [⟨.bool, treeP gg x⟩])
 intro gg x hp
 refine ok_of_awp (wr := []) (cl := []) (ro := [2]) hE at_spec_l06Tree body_spec_l06Tree (l_spec_l06Tree gg x) ?_
 rewrite [vc_spec_l06Tree n gg x]
 have fg := sigOk_actsP gg hp.2
 have f0 := msz_kidsP x
 have f1 := all_zero (treeP gg) x.kids
 refine ⟨fun a0 => fun a1 => fun a2 => fun a3 => ⟨fun a4 => ?_, fun a4 => ⟨(), ⟨?_, ⟨⟨rfl, ⟨rfl, trivial⟩⟩, trivial⟩⟩⟩⟩, fun u1 => fun a0 => ⟨⟨fun a1 => ⟨?_, fun a2 => fun a3 => fun a4 => ⟨fun a5 => fun a6 => ⟨fun a7 => fun a8 => ⟨fun a9 => ?_, fun a9 => ⟨(), ⟨?_, ⟨⟨rfl, ⟨rfl, trivial⟩⟩, trivial⟩⟩⟩⟩, fun a7 => ⟨fun a8 => ?_, fun a8 => ⟨(), ⟨?_, ⟨⟨rfl, ⟨rfl, trivial⟩⟩, trivial⟩⟩⟩⟩⟩, fun a5 => ⟨fun a6 => ?_, fun a6 => ⟨(), ⟨?_, ⟨⟨rfl, ⟨rfl, trivial⟩⟩, trivial⟩⟩⟩⟩⟩⟩, fun a1 => fun a2 => ⟨fun a3 => fun a4 => ⟨fun a5 => fun a6 => ⟨fun a7 => ?_, fun a7 => ⟨(), ⟨?_, ⟨⟨rfl, ⟨rfl, trivial⟩⟩, trivial⟩⟩⟩⟩, fun a5 => ⟨fun a6 => ?_, fun a6 => ⟨(), ⟨?_, ⟨⟨rfl, ⟨rfl, trivial⟩⟩, trivial⟩⟩⟩⟩⟩, fun a3 => ⟨fun a4 => ?_, fun a4 => ⟨(), ⟨?_, ⟨⟨rfl, ⟨rfl, trivial⟩⟩, trivial⟩⟩⟩⟩⟩⟩, fun u2 => fun a1 => ⟨⟨fun a2 => fun a3 => ⟨fun a4 => fun a5 => ⟨fun a6 => ⟨fun a7 => ?_, fun a7 => ⟨(), ⟨?_, ⟨⟨rfl, ⟨rfl, trivial⟩⟩, trivial⟩⟩⟩⟩, fun a6 => ⟨fun a7 => ?_, fun a7 => ⟨(), ⟨?_, ⟨⟨rfl, ⟨rfl, trivial⟩⟩, trivial⟩⟩⟩⟩⟩, fun a4 => ⟨fun a5 => ?_, fun a5 => ⟨(), ⟨?_, ⟨⟨rfl, ⟨rfl, trivial⟩⟩, trivial⟩⟩⟩⟩⟩, fun a2 => fun a3 => ⟨fun a4 => fun a5 => ⟨fun a6 => ⟨fun a7 => ?_, fun a7 => ⟨(), ⟨?_, ⟨⟨rfl, ⟨rfl, trivial⟩⟩, trivial⟩⟩⟩⟩, fun a6 => ⟨fun a7 => ?_, fun a7 => ⟨(), ⟨?_, ⟨⟨rfl, ⟨rfl, trivial⟩⟩, trivial⟩⟩⟩⟩⟩, fun a4 => ⟨fun a5 => ?_, fun a5 => ⟨(), ⟨?_, ⟨⟨rfl, ⟨rfl, trivial⟩⟩, trivial⟩⟩⟩⟩⟩⟩, fun u3 => fun a2 => ⟨⟨0, ⟨?_, ⟨⟨rfl, ⟨rfl, ⟨?_, trivial⟩⟩⟩, trivial⟩⟩⟩, fun k4 a3 => have b3x0 := all_take (treeP gg) zP x.kids k4; have b3x1 := all_bad (treeP gg) zP x.kids k4; have b3x2 := all_done (treeP gg) x.kids k4; have b3x3 := msz_getD zP x.kids k4; fun a4 => fun a5 => ⟨fun a6 => ⟨?_, fun a7 => ⟨?_, ⟨fun a8 => ?_, fun a8 => ⟨?_, ⟨k4 + 1, ⟨?_, ⟨?_, ⟨⟨rfl, ⟨rfl, ⟨?_, trivial⟩⟩⟩, trivial⟩⟩⟩⟩⟩⟩⟩⟩, fun a6 => ?_⟩⟩⟩⟩⟩
 all_goals try and_intros
 all_goals try rw [treeP_eq gg x]
 all_goals first | rfl | trivial | (simp only [decide_eq_true_eq, decide_eq_false_iff_not, idxOk, inI64] at *; omega) | ((try simp only [headP_eq, numP, conP, okC_eqP] at *); first | rfl | omega | grind [idxOk, inI64] | grind [kidsPN, idxOk, inI64])
theorem all_tree_p  : ∀ n, AllGood [kn_spec_l06Tree n]
 | 0 => ⟨⟨fnOk_of at_spec_l06Tree rfl (by decide), fun _ _ h => absurd h.1 (Nat.not_lt_zero _)⟩, trivial⟩
 | n + 1 => by
  have ih := all_tree_p  n
  exact ⟨ok_spec_l06Tree n ⟨ih.1, good_spec_l06Kids, good_spec_l00In, good_spec_l06Asks, good_spec_l06Cond, good_spec_l06None, trivial⟩, trivial⟩
theorem good_spec_l06Tree  : Ctr.Good k_spec_l06Tree :=
 ⟨fnOk_of at_spec_l06Tree rfl (by decide), fun gg x hp => (all_tree_p  (msz x + 1)).1.2 gg x (⟨Nat.lt_succ_self _, hp⟩)⟩
def k_impl_isProg : Ctr := ⟨n_impl_isProg, [.v (.st .sig), .v (.st .prog)], fun (gg : GSig) (x : GProg) => ⟨(some (sigOk gg = true), [⟨.bool, isP gg x⟩])⟩⟩
def l_impl_isProg (gg : GSig) (x : GProg) : Nat → LoopInv := fun _ => .none
theorem vc_impl_isProg (gg : GSig) (x : GProg) : awp (envOf [k_impl_progFits] [] [] [2, 3]) (bodyOf f_impl_isProg) (l_impl_isProg gg x) 0 (funPost (envOf [k_impl_progFits] [] [] [2, 3]) f_impl_isProg fun r => areEq r [⟨.bool, isP gg x⟩]) (startState f_impl_isProg [.val ⟨(.st .sig), gg⟩, .val ⟨(.st .prog), x⟩]) =
 (((sigOk gg = true ∧ 0 ≤ (60 : Int) ∧ (60 : Int) ≤ 1048576 ∧ 0 ≤ (20 : Int) ∧ (20 : Int) ≤ 1048576) ∧ (inI64 (shPN gg x (60 : Int) (20 : Int)) →
 (shPB gg x (60 : Int) (20 : Int)) = (isP gg x)))) := by kernel_rfl
theorem ok_impl_isProg (hE : AllGood [k_impl_progFits]) : Ctr.Good k_impl_isProg := by
 refine ⟨fnOk_of at_impl_isProg rfl (by decide), ?_⟩
 show ∀ (gg : GSig) (x : GProg), (sigOk gg = true) → OkCall prog n_impl_isProg [.val ⟨(.st .sig), gg⟩, .val ⟨(.st .prog), x⟩] (· = [⟨.bool, isP gg x⟩])
 intro gg x hp
 refine ok_of_awp (wr := []) (cl := []) (ro := [2, 3]) hE at_impl_isProg body_impl_isProg (l_impl_isProg gg x) ?_
 rewrite [vc_impl_isProg gg x]
 refine ⟨?_, fun a0 => ?_⟩
 all_goals try and_intros
 all_goals first | rfl | trivial | omega | (simp only [decide_eq_true_eq, decide_eq_false_iff_not, idxOk, inI64, inKind, cutOk, makeOk, roomOk] at *; omega) | (simp [idxOk, inI64] at *; omega) | grind
theorem good_impl_isProg : Ctr.Good k_impl_isProg := ok_impl_isProg ⟨good_impl_progFits, trivial⟩
def k_impl_ValidProg : Ctr := ⟨n_impl_ValidProg, [.v (.st .sig), .v (.st .prog)], fun (gg : GSig) (x : GProg) => ⟨(none, [⟨.bool, okP gg x⟩])⟩⟩
def l_impl_ValidProg (gg : GSig) (x : GProg) : Nat → LoopInv := fun _ => .none
theorem vc_impl_ValidProg (gg : GSig) (x : GProg) : awp (envOf [k_impl_ValidSig, k_impl_isProg] [] [] [2, 3]) (bodyOf f_impl_ValidProg) (l_impl_ValidProg gg x) 0 (funPost (envOf [k_impl_ValidSig, k_impl_isProg] [] [] [2, 3]) f_impl_ValidProg fun r => areEq r [⟨.bool, okP gg x⟩]) (startState f_impl_ValidProg [.val ⟨(.st .sig), gg⟩, .val ⟨(.st .prog), x⟩]) =
 ((((sigOk gg) = true →
 (sigOk gg = true ∧ (isP gg x) = (okP gg x))) ∧ ((sigOk gg) = (!true) →
 false = (okP gg x)))) := by kernel_rfl
theorem ok_impl_ValidProg (hE : AllGood [k_impl_ValidSig, k_impl_isProg]) : Ctr.Good k_impl_ValidProg := by
 refine ⟨fnOk_of at_impl_ValidProg rfl (by decide), ?_⟩
 show ∀ (gg : GSig) (x : GProg), True → OkCall prog n_impl_ValidProg [.val ⟨(.st .sig), gg⟩, .val ⟨(.st .prog), x⟩] (· = [⟨.bool, okP gg x⟩])
 intro gg x _
 refine ok_of_awp (wr := []) (cl := []) (ro := [2, 3]) hE at_impl_ValidProg body_impl_ValidProg (l_impl_ValidProg gg x) ?_
 rewrite [vc_impl_ValidProg gg x]
 refine ⟨fun a0 => ⟨?_, ?_⟩, fun a0 => ?_⟩
 all_goals try and_intros
 all_goals first | rfl | trivial | grind [okP]
theorem good_impl_ValidProg : Ctr.Good k_impl_ValidProg := ok_impl_ValidProg ⟨good_impl_ValidSig, good_impl_isProg, trivial⟩
def k_spec_l06Ok : Ctr := ⟨n_spec_l06Ok, [.v (.st .sig), .r (.st .prog)], fun (gg : GSig) (x : GProg) => ⟨(none, [⟨.bool, okP gg x⟩])⟩⟩
def l_spec_l06Ok (gg : GSig) (x : GProg) : Nat → LoopInv := fun _ => .none
abbrev j_spec_l06Ok_0 (gg : GSig) (x : GProg) : Prop := (depthP x ≤ 1048576 ∧ (inI64 ((depthP x : Int)) →
 (((decide (((depthP x : Int)) ≤ (20 : Int))) = true →
 (sigOk gg = true ∧ (treeP gg x) = (okP gg x))) ∧ ((decide (((depthP x : Int)) ≤ (20 : Int))) = (!true) →
 false = (okP gg x)))))
theorem vc_spec_l06Ok (gg : GSig) (x : GProg) : awp (envOf [k_spec_l01Sig, k_spec_l06Left, k_spec_l06Depth, k_spec_l06Tree] [] [] [2]) (bodyOf f_spec_l06Ok) (l_spec_l06Ok gg x) 0 (funPost (envOf [k_spec_l01Sig, k_spec_l06Left, k_spec_l06Depth, k_spec_l06Tree] [] [] [2]) f_spec_l06Ok fun r => areEq r [⟨.bool, okP gg x⟩]) (startState f_spec_l06Ok [.val ⟨(.st .sig), gg⟩, .ref ⟨(.st .prog), x⟩]) =
 ((((sigOk gg) = true →
 ((0 ≤ (60 : Int) ∧ (60 : Int) ≤ 1048576) ∧ (inI64 (szR (nodesP x) (60 : Int)) →
 (((decide ((0 : Int) ≤ (szR (nodesP x) (60 : Int)))) = true →
 (j_spec_l06Ok_0 gg x)) ∧ ((decide ((0 : Int) ≤ (szR (nodesP x) (60 : Int)))) = (!true) →
 ((false = true →
 (sigOk gg = true ∧ (treeP gg x) = (okP gg x))) ∧ (false = (!true) →
 false = (okP gg x)))))))) ∧ ((sigOk gg) = (!true) →
 ((false = true →
 (j_spec_l06Ok_0 gg x)) ∧ (false = (!true) →
 ((false = true →
 (sigOk gg = true ∧ (treeP gg x) = (okP gg x))) ∧ (false = (!true) →
 false = (okP gg x)))))))) := by kernel_rfl
theorem ok_spec_l06Ok (hE : AllGood [k_spec_l01Sig, k_spec_l06Left, k_spec_l06Depth, k_spec_l06Tree]) : Ctr.Good k_spec_l06Ok := by
 refine ⟨fnOk_of at_spec_l06Ok rfl (by decide), ?_⟩
 show ∀ (gg : GSig) (x : GProg), True → OkCall prog n_spec_l06Ok [.val ⟨(.st .sig), gg⟩, .ref ⟨(.st .prog), x⟩] (· = [⟨.bool, okP gg x⟩])
 intro gg x _
 refine ok_of_awp (wr := []) (cl := []) (ro := [2]) hE at_spec_l06Ok body_spec_l06Ok (l_spec_l06Ok gg x) ?_
 rewrite [vc_spec_l06Ok gg x]
 have f1 := szR_or (nodesP x) 60
 have f2 := depth_nodesP x
 have f3 : okP gg x = (sigOk gg && (treeP gg x && decide ((nodesP x : Int) ≤ 60) && decide ((depthP x : Int) ≤ 20))) := rfl
 refine ⟨fun a0 => ⟨?_, fun a1 => ⟨fun a2 => ⟨?_, fun a3 => ⟨fun a4 => ⟨?_, ?_⟩, fun a4 => ?_⟩⟩, fun a2 => ⟨fun a3 => ⟨?_, ?_⟩, fun a3 => ?_⟩⟩⟩, fun a0 => ⟨fun a1 => ⟨?_, fun a2 => ⟨fun a3 => ⟨?_, ?_⟩, fun a3 => ?_⟩⟩, fun a1 => ⟨fun a2 => ⟨?_, ?_⟩, fun a2 => ?_⟩⟩⟩
 all_goals try and_intros
 all_goals try rw [f3]
 all_goals first | rfl | trivial | omega | (simp only [decide_eq_true_eq, decide_eq_false_iff_not, Bool.not_eq_true', Bool.not_eq_false'] at *; omega) | grind
theorem good_spec_l06Ok : Ctr.Good k_spec_l06Ok := ok_spec_l06Ok ⟨good_spec_l01Sig, good_spec_l06Left, good_spec_l06Depth, good_spec_l06Tree, trivial⟩
end
end Go.Proofs.YtkogipcdjalehaaDoor
