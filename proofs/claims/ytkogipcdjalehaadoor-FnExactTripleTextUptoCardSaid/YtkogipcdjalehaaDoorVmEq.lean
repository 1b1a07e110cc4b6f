/- The comparisons of data. Printed by vmk.py. -/
import Derived.Test.YtkogipcdjalehaaDoorVmUse
import Derived.Test.YtkogipcdjalehaaDoorVmLib
set_option linter.unusedVariables false
set_option linter.unusedSimpArgs false
set_option linter.unusedSectionVars false
set_option maxRecDepth 4000
set_option maxHeartbeats 4000000
namespace Go.Proofs.YtkogipcdjalehaaDoor
noncomputable section
def kn_laws_eqExpr (n : Nat) : Ctr := ⟨n_laws_eqExpr, [.v (.st .expr), .v (.st .expr)], fun (x : GExpr) (y : GExpr) => ⟨(some (msz x < n), [⟨.bool, eqB x y⟩])⟩⟩
def k_laws_eqExpr : Ctr := ⟨n_laws_eqExpr, [.v (.st .expr), .v (.st .expr)], fun (x : GExpr) (y : GExpr) => ⟨(none, [⟨.bool, eqB x y⟩])⟩⟩
def kn_laws_eqExprS (n : Nat) : Ctr := ⟨n_laws_eqExprS, [.v (.slice (.st .expr)), .v (.slice (.st .expr))], fun (xs : List GExpr) (ys : List GExpr) => ⟨(some (msz xs < n), [⟨.bool, eqB xs ys⟩])⟩⟩
def l_laws_eqExpr (x : GExpr) (y : GExpr) : Nat → LoopInv := fun _ => .none
theorem vc_laws_eqExpr (n : Nat) (x : GExpr) (y : GExpr) : awp (envOf [kn_laws_eqExprS n] [] [] [2, 3]) (bodyOf f_laws_eqExpr) (l_laws_eqExpr x y) 0 (funPost (envOf [kn_laws_eqExprS n] [] [] [2, 3]) f_laws_eqExpr fun r => areEq r [⟨.bool, eqB x y⟩]) (startState f_laws_eqExpr [.val ⟨(.st .expr), x⟩, .val ⟨(.st .expr), y⟩]) =
 ((inI64 x.kind →
 (inI64 y.kind →
 (((!(decide (x.kind = y.kind))) = true →
 false = (eqB x y)) ∧ ((!(decide (x.kind = y.kind))) = false →
 (inI64 x.num →
 (inI64 y.num →
 (((!(decide (x.num = y.num))) = true →
 false = (eqB x y)) ∧ ((!(decide (x.num = y.num))) = false →
 (x.kids.length ≤ 140737488355328 →
 (y.kids.length ≤ 140737488355328 →
 (msz x.kids < n ∧ (((!(eqB x.kids y.kids)) = true →
 false = (eqB x y)) ∧ ((!(eqB x.kids y.kids)) = false →
 true = (eqB x y))))))))))))))) := by kernel_rfl
theorem ok_laws_eqExpr (n : Nat) (hE : AllGood [kn_laws_eqExprS n]) : Ctr.Good (kn_laws_eqExpr (n + 1)) := by
 refine ⟨fnOk_of at_laws_eqExpr rfl (by decide), ?_⟩
 show ∀ (x : GExpr) (y : GExpr), (msz x < n + 1) → OkCall prog n_laws_eqExpr [.val ⟨(.st .expr), x⟩, .val ⟨(.st .expr), y⟩] (· = [⟨.bool, eqB x y⟩])
 intro x y hp
 refine ok_of_awp (wr := []) (cl := []) (ro := [2, 3]) hE at_laws_eqExpr body_laws_eqExpr (l_laws_eqExpr x y) ?_
 rewrite [vc_laws_eqExpr n x y]
 have f0k := msz_kids x
 refine fun a0 => fun a1 => ⟨fun a2 => ?_, fun a2 => fun a3 => fun a4 => ⟨fun a5 => ?_, fun a5 => fun a6 => fun a7 => ⟨?_, ⟨fun a8 => ?_, fun a8 => ?_⟩⟩⟩⟩
 all_goals try and_intros
 all_goals first | rfl | trivial | (simp only [decide_eq_true_eq, decide_eq_false_iff_not, idxOk, inI64] at *; omega) | (refine eqB_false fun hab => ?_; subst hab; simp_all) | (refine eqB_true ?_; cases x; cases y; simp_all)
def l_laws_eqExprS (xs : List GExpr) (ys : List GExpr) : Nat → LoopInv := (fun zb => if Nat.beq zb 0 then .mk (Nat) (fun k => k ≤ xs.length ∧ xs.length = ys.length ∧ xs.take k = ys.take k) (fun k => xs.length - k) [] [2, 3, 6, 7, 8, 9, 10] (fun k => [(5, .imm ⟨(.int .i64), ((k : Int) : Int)⟩)]) [0, 1, 4, 5, 11, 12, 13, 14, 15, 16, 17, 18, 19, 20, 21, 22, 23, 24, 25, 26] (fun k => []) [] [] (fun k => fun _ => .none) else .none)
theorem vc_laws_eqExprS (n : Nat) (xs : List GExpr) (ys : List GExpr) : awp (envOf [kn_laws_eqExpr n]) (bodyOf f_laws_eqExprS) (l_laws_eqExprS xs ys) 0 (funPost (envOf [kn_laws_eqExpr n]) f_laws_eqExprS fun r => areEq r [⟨.bool, eqB xs ys⟩]) (startState f_laws_eqExprS [.val ⟨(.slice (.st .expr)), xs⟩, .val ⟨(.slice (.st .expr)), ys⟩]) =
 ((inI64 ((xs.length : Int)) →
 (inI64 ((ys.length : Int)) →
 (((!(decide (((xs.length : Int)) = ((ys.length : Int))))) = true →
 false = (eqB xs ys)) ∧ ((!(decide (((xs.length : Int)) = ((ys.length : Int))))) = false →
 ((∃ k1 : Nat, ((k1 ≤ xs.length ∧ xs.length = ys.length ∧ xs.take k1 = ys.take k1) ∧ ((xs = xs ∧ (ys = ys ∧ ((0 : Int) = (k1 : Int) ∧ True))) ∧ True))) ∧ (∀ k1 : Nat, ((k1 ≤ xs.length ∧ xs.length = ys.length ∧ xs.take k1 = ys.take k1) →
 (inI64 ((xs.length : Int)) →
 (((decide ((k1 : Int) < ((xs.length : Int)))) = true →
 (idxOk (k1 : Int) xs.length ∧ (idxOk (k1 : Int) ys.length ∧ (msz (xs.getD k1 zE) < n ∧ (((!(eqB (xs.getD k1 zE) (ys.getD k1 zE))) = true →
 false = (eqB xs ys)) ∧ ((!(eqB (xs.getD k1 zE) (ys.getD k1 zE))) = false →
 (inI64 ((k1 : Int) + (1 : Int)) ∧ (∃ k2 : Nat, ((k2 ≤ xs.length ∧ xs.length = ys.length ∧ xs.take k2 = ys.take k2) ∧ (xs.length - k2 < xs.length - k1 ∧ ((xs = xs ∧ (ys = ys ∧ (((k1 : Int) + (1 : Int)) = (k2 : Int) ∧ True))) ∧ True))))))))))) ∧ ((decide ((k1 : Int) < ((xs.length : Int)))) = false →
 true = (eqB xs ys)))))))))))) := by kernel_rfl
theorem ok_laws_eqExprS (n : Nat) (hE : AllGood [kn_laws_eqExpr n]) : Ctr.Good (kn_laws_eqExprS (n + 1)) := by
 refine ⟨fnOk_of at_laws_eqExprS rfl (by decide), ?_⟩
 show ∀ (xs : List GExpr) (ys : List GExpr), (msz xs < n + 1) → OkCall prog n_laws_eqExprS [.val ⟨(.slice (.st .expr)), xs⟩, .val ⟨(.slice (.st .expr)), ys⟩] (· = [⟨.bool, eqB xs ys⟩])
 intro xs ys hp
 refine ok_of_awp (wr := []) (cl := []) (ro := []) hE at_laws_eqExprS body_laws_eqExprS (l_laws_eqExprS xs ys) ?_
 rewrite [vc_laws_eqExprS n xs ys]
 refine fun a0 => fun a1 => ⟨fun a2 => ?_, fun a2 => ⟨⟨0, ⟨?_, ⟨⟨rfl, ⟨rfl, ⟨?_, trivial⟩⟩⟩, trivial⟩⟩⟩, fun k1 a3 => have b3x0 := take_same zE xs ys k1; have b3x1 := take_same_all xs ys k1; have b3x2 := msz_getD zE xs k1; fun a4 => ⟨fun a5 => ⟨?_, ⟨?_, ⟨?_, ⟨fun a6 => ?_, fun a6 => ⟨?_, ⟨k1 + 1, ⟨?_, ⟨?_, ⟨⟨rfl, ⟨rfl, ⟨?_, trivial⟩⟩⟩, trivial⟩⟩⟩⟩⟩⟩⟩⟩⟩, fun a5 => ?_⟩⟩⟩
 all_goals try and_intros
 all_goals first | rfl | trivial | (simp only [decide_eq_true_eq, decide_eq_false_iff_not, Bool.not_eq_false', decide_not, Bool.not_eq_true', idxOk, inI64] at *; first | omega | (refine eqB_false fun hab => ?_; subst hab; simp_all; done) | (refine eqB_true (take_same_all _ _ _ (by omega) (by omega) (by simp_all)))) | (refine eqB_false fun hab => ?_; subst hab; simp_all; done) | (simp_all; done) | (refine take_same zE _ _ _ (by simp_all; omega) (by simp_all; omega) (by simp_all) ?_; simp_all; done)
theorem all_eq_expr  : ∀ n, AllGood [kn_laws_eqExpr n, kn_laws_eqExprS n]
 | 0 => ⟨⟨fnOk_of at_laws_eqExpr rfl (by decide), fun _ _ h => absurd h (Nat.not_lt_zero _)⟩, ⟨fnOk_of at_laws_eqExprS rfl (by decide), fun _ _ h => absurd h (Nat.not_lt_zero _)⟩, trivial⟩
 | n + 1 => by
  have ih := all_eq_expr  n
  exact ⟨ok_laws_eqExpr n ⟨ih.2.1, trivial⟩, ok_laws_eqExprS n ⟨ih.1, trivial⟩, trivial⟩
theorem good_laws_eqExpr  : Ctr.Good k_laws_eqExpr :=
 ⟨fnOk_of at_laws_eqExpr rfl (by decide), fun x y hp => (all_eq_expr  (msz x + 1)).1.2 x y (Nat.lt_succ_self _)⟩
def kn_laws_eqProg (n : Nat) : Ctr := ⟨n_laws_eqProg, [.v (.st .prog), .v (.st .prog)], fun (x : GProg) (y : GProg) => ⟨(some (msz x < n), [⟨.bool, eqB x y⟩])⟩⟩
def k_laws_eqProg : Ctr := ⟨n_laws_eqProg, [.v (.st .prog), .v (.st .prog)], fun (x : GProg) (y : GProg) => ⟨(none, [⟨.bool, eqB x y⟩])⟩⟩
def kn_laws_eqProgS (n : Nat) : Ctr := ⟨n_laws_eqProgS, [.v (.slice (.st .prog)), .v (.slice (.st .prog))], fun (xs : List GProg) (ys : List GProg) => ⟨(some (msz xs < n), [⟨.bool, eqB xs ys⟩])⟩⟩
def l_laws_eqProg (x : GProg) (y : GProg) : Nat → LoopInv := fun _ => .none
theorem vc_laws_eqProg (n : Nat) (x : GProg) (y : GProg) : awp (envOf [k_laws_eqExpr, kn_laws_eqProgS n] [] [] [2, 3]) (bodyOf f_laws_eqProg) (l_laws_eqProg x y) 0 (funPost (envOf [k_laws_eqExpr, kn_laws_eqProgS n] [] [] [2, 3]) f_laws_eqProg fun r => areEq r [⟨.bool, eqB x y⟩]) (startState f_laws_eqProg [.val ⟨(.st .prog), x⟩, .val ⟨(.st .prog), y⟩]) =
 ((inI64 x.kind →
 (inI64 y.kind →
 (((!(decide (x.kind = y.kind))) = true →
 false = (eqB x y)) ∧ ((!(decide (x.kind = y.kind))) = false →
 (inI64 x.num →
 (inI64 y.num →
 (((!(decide (x.num = y.num))) = true →
 false = (eqB x y)) ∧ ((!(decide (x.num = y.num))) = false →
 (((!(eqB x.cond y.cond)) = true →
 false = (eqB x y)) ∧ ((!(eqB x.cond y.cond)) = false →
 (x.kids.length ≤ 140737488355328 →
 (y.kids.length ≤ 140737488355328 →
 (msz x.kids < n ∧ (((!(eqB x.kids y.kids)) = true →
 false = (eqB x y)) ∧ ((!(eqB x.kids y.kids)) = false →
 true = (eqB x y))))))))))))))))) := by kernel_rfl
theorem ok_laws_eqProg (n : Nat) (hE : AllGood [k_laws_eqExpr, kn_laws_eqProgS n]) : Ctr.Good (kn_laws_eqProg (n + 1)) := by
 refine ⟨fnOk_of at_laws_eqProg rfl (by decide), ?_⟩
 show ∀ (x : GProg) (y : GProg), (msz x < n + 1) → OkCall prog n_laws_eqProg [.val ⟨(.st .prog), x⟩, .val ⟨(.st .prog), y⟩] (· = [⟨.bool, eqB x y⟩])
 intro x y hp
 refine ok_of_awp (wr := []) (cl := []) (ro := [2, 3]) hE at_laws_eqProg body_laws_eqProg (l_laws_eqProg x y) ?_
 rewrite [vc_laws_eqProg n x y]
 have f0k := msz_kidsP x
 refine fun a0 => fun a1 => ⟨fun a2 => ?_, fun a2 => fun a3 => fun a4 => ⟨fun a5 => ?_, fun a5 => ⟨fun a6 => ?_, fun a6 => fun a7 => fun a8 => ⟨?_, ⟨fun a9 => ?_, fun a9 => ?_⟩⟩⟩⟩⟩
 all_goals try and_intros
 all_goals first | rfl | trivial | (simp only [decide_eq_true_eq, decide_eq_false_iff_not, idxOk, inI64] at *; omega) | (refine eqB_false fun hab => ?_; subst hab; simp_all) | (refine eqB_true ?_; cases x; cases y; simp_all)
def l_laws_eqProgS (xs : List GProg) (ys : List GProg) : Nat → LoopInv := (fun zb => if Nat.beq zb 0 then .mk (Nat) (fun k => k ≤ xs.length ∧ xs.length = ys.length ∧ xs.take k = ys.take k) (fun k => xs.length - k) [] [2, 3, 6, 7, 8, 9, 10] (fun k => [(5, .imm ⟨(.int .i64), ((k : Int) : Int)⟩)]) [0, 1, 4, 5, 11, 12, 13, 14, 15, 16, 17, 18, 19, 20, 21, 22, 23, 24, 25, 26] (fun k => []) [] [] (fun k => fun _ => .none) else .none)
theorem vc_laws_eqProgS (n : Nat) (xs : List GProg) (ys : List GProg) : awp (envOf [kn_laws_eqProg n]) (bodyOf f_laws_eqProgS) (l_laws_eqProgS xs ys) 0 (funPost (envOf [kn_laws_eqProg n]) f_laws_eqProgS fun r => areEq r [⟨.bool, eqB xs ys⟩]) (startState f_laws_eqProgS [.val ⟨(.slice (.st .prog)), xs⟩, .val ⟨(.slice (.st .prog)), ys⟩]) =
 ((inI64 ((xs.length : Int)) →
 (inI64 ((ys.length : Int)) →
 (((!(decide (((xs.length : Int)) = ((ys.length : Int))))) = true →
 false = (eqB xs ys)) ∧ ((!(decide (((xs.length : Int)) = ((ys.length : Int))))) = false →
 ((∃ k1 : Nat, ((k1 ≤ xs.length ∧ xs.length = ys.length ∧ xs.take k1 = ys.take k1) ∧ ((xs = xs ∧ (ys = ys ∧ ((0 : Int) = (k1 : Int) ∧ True))) ∧ True))) ∧ (∀ k1 : Nat, ((k1 ≤ xs.length ∧ xs.length = ys.length ∧ xs.take k1 = ys.take k1) →
 (inI64 ((xs.length : Int)) →
 (((decide ((k1 : Int) < ((xs.length : Int)))) = true →
 (idxOk (k1 : Int) xs.length ∧ (idxOk (k1 : Int) ys.length ∧ (msz (xs.getD k1 zP) < n ∧ (((!(eqB (xs.getD k1 zP) (ys.getD k1 zP))) = true →
 false = (eqB xs ys)) ∧ ((!(eqB (xs.getD k1 zP) (ys.getD k1 zP))) = false →
 (inI64 ((k1 : Int) + (1 : Int)) ∧ (∃ k2 : Nat, ((k2 ≤ xs.length ∧ xs.length = ys.length ∧ xs.take k2 = ys.take k2) ∧ (xs.length - k2 < xs.length - k1 ∧ ((xs = xs ∧ (ys = ys ∧ (((k1 : Int) + (1 : Int)) = (k2 : Int) ∧ True))) ∧ True))))))))))) ∧ ((decide ((k1 : Int) < ((xs.length : Int)))) = false →
 true = (eqB xs ys)))))))))))) := by kernel_rfl
theorem ok_laws_eqProgS (n : Nat) (hE : AllGood [kn_laws_eqProg n]) : Ctr.Good (kn_laws_eqProgS (n + 1)) := by
 refine ⟨fnOk_of at_laws_eqProgS rfl (by decide), ?_⟩
 show ∀ (xs : List GProg) (ys : List GProg), (msz xs < n + 1) → OkCall prog n_laws_eqProgS [.val ⟨(.slice (.st .prog)), xs⟩, .val ⟨(.slice (.st .prog)), ys⟩] (· = [⟨.bool, eqB xs ys⟩])
 intro xs ys hp
 refine ok_of_awp (wr := []) (cl := []) (ro := []) hE at_laws_eqProgS body_laws_eqProgS (l_laws_eqProgS xs ys) ?_
 rewrite [vc_laws_eqProgS n xs ys]
 refine fun a0 => fun a1 => ⟨fun a2 => ?_, fun a2 => ⟨⟨0, ⟨?_, ⟨⟨rfl, ⟨rfl, ⟨?_, trivial⟩⟩⟩, trivial⟩⟩⟩, fun k1 a3 => have b3x0 := take_same zP xs ys k1; have b3x1 := take_same_all xs ys k1; have b3x2 := msz_getD zP xs k1; fun a4 => ⟨fun a5 => ⟨?_, ⟨?_, ⟨?_, ⟨fun a6 => ?_, fun a6 => ⟨?_, ⟨k1 + 1, ⟨?_, ⟨?_, ⟨⟨rfl, ⟨rfl, ⟨?_, trivial⟩⟩⟩, trivial⟩⟩⟩⟩⟩⟩⟩⟩⟩, fun a5 => ?_⟩⟩⟩
 all_goals try and_intros
 all_goals first | rfl | trivial | (simp only [decide_eq_true_eq, decide_eq_false_iff_not, Bool.not_eq_false', decide_not, Bool.not_eq_true', idxOk, inI64] at *; first | omega | (refine eqB_false fun hab => ?_; subst hab; simp_all; done) | (refine eqB_true (take_same_all _ _ _ (by omega) (by omega) (by simp_all)))) | (refine eqB_false fun hab => ?_; subst hab; simp_all; done) | (simp_all; done) | (refine take_same zP _ _ _ (by simp_all; omega) (by simp_all; omega) (by simp_all) ?_; simp_all; done)
theorem all_eq_prog  : ∀ n, AllGood [kn_laws_eqProg n, kn_laws_eqProgS n]
 | 0 => ⟨⟨fnOk_of at_laws_eqProg rfl (by decide), fun _ _ h => absurd h (Nat.not_lt_zero _)⟩, ⟨fnOk_of at_laws_eqProgS rfl (by decide), fun _ _ h => absurd h (Nat.not_lt_zero _)⟩, trivial⟩
 | n + 1 => by
  have ih := all_eq_prog  n
  exact ⟨ok_laws_eqProg n ⟨good_laws_eqExpr, ih.2.1, trivial⟩, ok_laws_eqProgS n ⟨ih.1, trivial⟩, trivial⟩
theorem good_laws_eqProg  : Ctr.Good k_laws_eqProg :=
 ⟨fnOk_of at_laws_eqProg rfl (by decide), fun x y hp => (all_eq_prog  (msz x + 1)).1.2 x y (Nat.lt_succ_self _)⟩
def k_laws_eqTriple : Ctr := ⟨n_laws_eqTriple, [.v (.st .triple), .v (.st .triple)], fun (x : GTriple) (y : GTriple) => ⟨(none, [⟨.bool, eqB x y⟩])⟩⟩
def l_laws_eqTriple (x : GTriple) (y : GTriple) : Nat → LoopInv := fun _ => .none
theorem vc_laws_eqTriple (x : GTriple) (y : GTriple) : awp (envOf [k_laws_eqExpr, k_laws_eqProg] [] [] [2, 3]) (bodyOf f_laws_eqTriple) (l_laws_eqTriple x y) 0 (funPost (envOf [k_laws_eqExpr, k_laws_eqProg] [] [] [2, 3]) f_laws_eqTriple fun r => areEq r [⟨.bool, eqB x y⟩]) (startState f_laws_eqTriple [.val ⟨(.st .triple), x⟩, .val ⟨(.st .triple), y⟩]) =
 ((((!(eqB x.pre y.pre)) = true →
 false = (eqB x y)) ∧ ((!(eqB x.pre y.pre)) = false →
 (((!(eqB x.prog y.prog)) = true →
 false = (eqB x y)) ∧ ((!(eqB x.prog y.prog)) = false →
 (((!(eqB x.post y.post)) = true →
 false = (eqB x y)) ∧ ((!(eqB x.post y.post)) = false →
 true = (eqB x y)))))))) := by kernel_rfl
theorem ok_laws_eqTriple (hE : AllGood [k_laws_eqExpr, k_laws_eqProg]) : Ctr.Good k_laws_eqTriple := by
 refine ⟨fnOk_of at_laws_eqTriple rfl (by decide), ?_⟩
 show ∀ (x : GTriple) (y : GTriple), True → OkCall prog n_laws_eqTriple [.val ⟨(.st .triple), x⟩, .val ⟨(.st .triple), y⟩] (· = [⟨.bool, eqB x y⟩])
 intro x y _
 refine ok_of_awp (wr := []) (cl := []) (ro := [2, 3]) hE at_laws_eqTriple body_laws_eqTriple (l_laws_eqTriple x y) ?_
 rewrite [vc_laws_eqTriple x y]
 refine ⟨fun a0 => ?_, fun a0 => ⟨fun a1 => ?_, fun a1 => ⟨fun a2 => ?_, fun a2 => ?_⟩⟩⟩
 all_goals try and_intros
 all_goals first | rfl | trivial | (simp only [decide_eq_true_eq, decide_eq_false_iff_not, idxOk, inI64] at *; omega) | (refine eqB_false fun hab => ?_; subst hab; simp_all) | (refine eqB_true ?_; cases x; cases y; simp_all)
theorem good_laws_eqTriple : Ctr.Good k_laws_eqTriple := ok_laws_eqTriple ⟨good_laws_eqExpr, good_laws_eqProg, trivial⟩
end
end Go.Proofs.YtkogipcdjalehaaDoor
