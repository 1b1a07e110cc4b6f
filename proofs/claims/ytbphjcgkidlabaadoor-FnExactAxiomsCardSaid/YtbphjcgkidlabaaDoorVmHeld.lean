/- Sz, To, Eq, OwnFam, OwnFam2, Held. -/
import Derived.Test.YtbphjcgkidlabaaDoorVmUse
import Derived.Test.YtbphjcgkidlabaaDoorVmLib
set_option linter.unusedVariables false
set_option linter.unusedSimpArgs false
set_option linter.unusedSectionVars false
namespace Go.Proofs.YtbphjcgkidlabaaDoor
noncomputable section
mutual
def sz_expr : GExpr → Nat
 | ⟨_, _, kids⟩ => kids.length + szs_expr kids
def szs_expr : List GExpr → Nat
 | [] => 0
 | k :: ks => sz_expr k + szs_expr ks
end
theorem szs_expr_eq : ∀ xs, szs_expr xs = szL sz_expr xs
 | [] => rfl
 | x :: xs => by rw [szs_expr, szL, szs_expr_eq xs]
theorem sz_expr_eq (x : GExpr) : sz_expr x = (x.kids.length + szL sz_expr x.kids) := by
 cases x; simp [sz_expr, szs_expr_eq]; try omega
end
end Go.Proofs.YtbphjcgkidlabaaDoor

set_option linter.unusedVariables false
set_option linter.unusedSimpArgs false
set_option linter.unusedSectionVars false
namespace Go.Proofs.YtbphjcgkidlabaaDoor
noncomputable section
end
end Go.Proofs.YtbphjcgkidlabaaDoor

set_option linter.unusedVariables false
set_option linter.unusedSimpArgs false
set_option linter.unusedSectionVars false
set_option maxRecDepth 4000
set_option maxHeartbeats 4000000
namespace Go.Proofs.YtbphjcgkidlabaaDoor
noncomputable section
def kn_laws_eqExpr (n : Nat) : Ctr := ⟨n_laws_eqExpr, [.v (.st .expr), .v (.st .expr)], fun (x : GExpr) (y : GExpr) => ⟨(some (msz x < n), [⟨.bool, eqB x y⟩])⟩⟩
def k_laws_eqExpr : Ctr := ⟨n_laws_eqExpr, [.v (.st .expr), .v (.st .expr)], fun (x : GExpr) (y : GExpr) => ⟨(none, [⟨.bool, eqB x y⟩])⟩⟩
def kn_laws_eqExprS (n : Nat) : Ctr := ⟨n_laws_eqExprS, [.v (.slice (.st .expr)), .v (.slice (.st .expr))], fun (xs : List GExpr) (ys : List GExpr) => ⟨(some (msz xs < n), [⟨.bool, eqB xs ys⟩])⟩⟩
def l_laws_eqExpr (x : GExpr) (y : GExpr) : Nat → LoopInv := fun _ => .none
theorem vc_laws_eqExpr (n : Nat) (x : GExpr) (y : GExpr) : awp (envOf [kn_laws_eqExprS n] [] [] [2, 3]) (bodyOf f_laws_eqExpr) (l_laws_eqExpr x y) 0 (funPost (envOf [kn_laws_eqExprS n] [] [] [2, 3]) f_laws_eqExpr fun r => areEq r [⟨.bool, eqB x y⟩]) (startState f_laws_eqExpr [.val ⟨(.st .expr), x⟩, .val ⟨(.st .expr), y⟩]) =
 ((inI64 x.kind →
 (inI64 y.kind →
 (((!(decide (x.kind = y.kind))) = true →
 false = (eqB x y)) ∧ ((!(decide (x.kind = y.kind))) = false →
 (inI64 x.num →
 (inI64 y.num →
 (((!(decide (x.num = y.num))) = true →
 false = (eqB x y)) ∧ ((!(decide (x.num = y.num))) = false →
 (x.kids.length ≤ 140737488355328 →
 (y.kids.length ≤ 140737488355328 →
 (msz x.kids < n ∧ (((!(eqB x.kids y.kids)) = true →
 false = (eqB x y)) ∧ ((!(eqB x.kids y.kids)) = false →
 true = (eqB x y))))))))))))))) := by kernel_rfl
theorem ok_laws_eqExpr (n : Nat) (hE : AllGood [kn_laws_eqExprS n]) : Ctr.Good (kn_laws_eqExpr (n + 1)) := by
 refine ⟨fnOk_of at_laws_eqExpr rfl (by decide), ?_⟩
 show ∀ (x : GExpr) (y : GExpr), (msz x < n + 1) → OkCall prog n_laws_eqExpr [.val ⟨(.st .expr), x⟩, .val ⟨(.st .expr), y⟩] (· = [⟨.bool, eqB x y⟩])
 intro x y hp
 refine ok_of_awp (wr := []) (cl := []) (ro := [2, 3]) hE at_laws_eqExpr body_laws_eqExpr (l_laws_eqExpr x y) ?_
 rewrite [vc_laws_eqExpr n x y]
 have f0k := msz_kids x
 refine fun a0 => fun a1 => ⟨fun a2 => ?_, fun a2 => fun a3 => fun a4 => ⟨fun a5 => ?_, fun a5 => fun a6 => fun a7 => ⟨?_, ⟨fun a8 => ?_, fun a8 => ?_⟩⟩⟩⟩
 all_goals try and_intros
 all_goals first | rfl | trivial | (simp only [decide_eq_true_eq, decide_eq_false_iff_not, idxOk, inI64] at *; omega) | (refine eqB_false fun hab => ?_; subst hab; simp_all) | (refine eqB_true ?_; cases x; cases y; simp_all)
def l_laws_eqExprS (xs : List GExpr) (ys : List GExpr) : Nat → LoopInv := (fun zb => if Nat.beq zb 0 then .mk (Nat) (fun k => k ≤ xs.length ∧ xs.length = ys.length ∧ xs.take k = ys.take k) (fun k => xs.length - k) [] [2, 3, 6, 7, 8, 9, 10] (fun k => [(5, .imm ⟨(.int .i64), ((k : Int) : Int)⟩)]) [0, 1, 4, 5, 11, 12, 13, 14, 15, 16, 17, 18, 19, 20, 21, 22, 23, 24, 25, 26] (fun k => []) [] [] (fun k => fun _ => .none) else .none)
theorem vc_laws_eqExprS (n : Nat) (xs : List GExpr) (ys : List GExpr) : awp (envOf [kn_laws_eqExpr n]) (bodyOf f_laws_eqExprS) (l_laws_eqExprS xs ys) 0 (funPost (envOf [kn_laws_eqExpr n]) f_laws_eqExprS fun r => areEq r [⟨.bool, eqB xs ys⟩]) (startState f_laws_eqExprS [.val ⟨(.slice (.st .expr)), xs⟩, .val ⟨(.slice (.st .expr)), ys⟩]) =
 ((inI64 ((xs.length : Int)) →
 (inI64 ((ys.length : Int)) →
 (((!(decide (((xs.length : Int)) = ((ys.length : Int))))) = true →
 false = (eqB xs ys)) ∧ ((!(decide (((xs.length : Int)) = ((ys.length : Int))))) = false →
 ((∃ k1 : Nat, ((k1 ≤ xs.length ∧ xs.length = ys.length ∧ xs.take k1 = ys.take k1) ∧ ((xs = xs ∧ (ys = ys ∧ ((0 : Int) = (k1 : Int) ∧ True))) ∧ True))) ∧ (∀ k1 : Nat, ((k1 ≤ xs.length ∧ xs.length = ys.length ∧ xs.take k1 = ys.take k1) →
 (inI64 ((xs.length : Int)) →
 (((decide ((k1 : Int) < ((xs.length : Int)))) = true →
 (idxOk (k1 : Int) xs.length ∧ (idxOk (k1 : Int) ys.length ∧ (msz (xs.getD k1 zE) < n ∧ (((!(eqB (xs.getD k1 zE) (ys.getD k1 zE))) = true →
 false = (eqB xs ys)) ∧ ((!(eqB (xs.getD k1 zE) (ys.getD k1 zE))) = false →
 (inI64 ((k1 : Int) + (1 : Int)) ∧ (∃ k2 : Nat, ((k2 ≤ xs.length ∧ xs.length = ys.length ∧ xs.take k2 = ys.take k2) ∧ (xs.length - k2 < xs.length - k1 ∧ ((xs = xs ∧ (ys = ys ∧ (((k1 : Int) + (1 : Int)) = (k2 : Int) ∧ True))) ∧ True))))))))))) ∧ ((decide ((k1 : Int) < ((xs.length : Int)))) = false →
 true = (eqB xs ys)))))))))))) := by kernel_rfl
theorem ok_laws_eqExprS (n : Nat) (hE : AllGood [kn_laws_eqExpr n]) : Ctr.Good (kn_laws_eqExprS (n + 1)) := by
 refine ⟨fnOk_of at_laws_eqExprS rfl (by decide), ?_⟩
 show ∀ (xs : List GExpr) (ys : List GExpr), (msz xs < n + 1) → OkCall prog n_laws_eqExprS [.val ⟨(.slice (.st .expr)), xs⟩, .val ⟨(.slice (.st .expr)), ys⟩] (· = [⟨.bool, eqB xs ys⟩])
 intro xs ys hp
 refine ok_of_awp (wr := []) (cl := []) (ro := []) hE at_laws_eqExprS body_laws_eqExprS (l_laws_eqExprS xs ys) ?_
 rewrite [vc_laws_eqExprS n xs ys]
 refine fun a0 => fun a1 => ⟨fun a2 => ?_, fun a2 => ⟨⟨0, ⟨?_, ⟨⟨rfl, ⟨rfl, ⟨?_, trivial⟩⟩⟩, trivial⟩⟩⟩, fun k1 a3 => have b3x0 := take_same zE xs ys k1; have b3x1 := take_same_all xs ys k1; have b3x2 := msz_getD zE xs k1; fun a4 => ⟨fun a5 => ⟨?_, ⟨?_, ⟨?_, ⟨fun a6 => ?_, fun a6 => ⟨?_, ⟨k1 + 1, ⟨?_, ⟨?_, ⟨⟨rfl, ⟨rfl, ⟨?_, trivial⟩⟩⟩, trivial⟩⟩⟩⟩⟩⟩⟩⟩⟩, fun a5 => ?_⟩⟩⟩
 all_goals try and_intros
 all_goals first | rfl | trivial | (simp only [decide_eq_true_eq, decide_eq_false_iff_not, Bool.not_eq_false', decide_not, Bool.not_eq_true', idxOk, inI64] at *; first | omega | (refine eqB_false fun hab => ?_; subst hab; simp_all; done) | (refine eqB_true (take_same_all _ _ _ (by omega) (by omega) (by simp_all)))) | (refine eqB_false fun hab => ?_; subst hab; simp_all; done) | (simp_all; done) | (refine take_same zE _ _ _ (by simp_all; omega) (by simp_all; omega) (by simp_all) ?_; simp_all; done)
theorem all_eq_expr  : ∀ n, AllGood [kn_laws_eqExpr n, kn_laws_eqExprS n]
 | 0 => ⟨⟨fnOk_of at_laws_eqExpr rfl (by decide), fun _ _ h => absurd h (Nat.not_lt_zero _)⟩, ⟨fnOk_of at_laws_eqExprS rfl (by decide), fun _ _ h => absurd h (Nat.not_lt_zero _)⟩, trivial⟩
 | n + 1 => by
  have ih := all_eq_expr  n
  exact ⟨ok_laws_eqExpr n ⟨ih.2.1, trivial⟩, ok_laws_eqExprS n ⟨ih.1, trivial⟩, trivial⟩
theorem good_laws_eqExpr  : Ctr.Good k_laws_eqExpr :=
 ⟨fnOk_of at_laws_eqExpr rfl (by decide), fun x y hp => (all_eq_expr  (msz x + 1)).1.2 x y (Nat.lt_succ_self _)⟩
def k_laws_eqEquation : Ctr := ⟨n_laws_eqEquation, [.v (.st .equation), .v (.st .equation)], fun (x : GEquation) (y : GEquation) => ⟨(none, [⟨.bool, eqB x y⟩])⟩⟩
def l_laws_eqEquation (x : GEquation) (y : GEquation) : Nat → LoopInv := fun _ => .none
theorem vc_laws_eqEquation (x : GEquation) (y : GEquation) : awp (envOf [k_laws_eqExpr] [] [] [2, 3]) (bodyOf f_laws_eqEquation) (l_laws_eqEquation x y) 0 (funPost (envOf [k_laws_eqExpr] [] [] [2, 3]) f_laws_eqEquation fun r => areEq r [⟨.bool, eqB x y⟩]) (startState f_laws_eqEquation [.val ⟨(.st .equation), x⟩, .val ⟨(.st .equation), y⟩]) =
 ((((!(eqB x.left y.left)) = true →
 false = (eqB x y)) ∧ ((!(eqB x.left y.left)) = false →
 (((!(eqB x.right y.right)) = true →
 false = (eqB x y)) ∧ ((!(eqB x.right y.right)) = false →
 true = (eqB x y)))))) := by kernel_rfl
theorem ok_laws_eqEquation (hE : AllGood [k_laws_eqExpr]) : Ctr.Good k_laws_eqEquation := by
 refine ⟨fnOk_of at_laws_eqEquation rfl (by decide), ?_⟩
 show ∀ (x : GEquation) (y : GEquation), True → OkCall prog n_laws_eqEquation [.val ⟨(.st .equation), x⟩, .val ⟨(.st .equation), y⟩] (· = [⟨.bool, eqB x y⟩])
 intro x y _
 refine ok_of_awp (wr := []) (cl := []) (ro := [2, 3]) hE at_laws_eqEquation body_laws_eqEquation (l_laws_eqEquation x y) ?_
 rewrite [vc_laws_eqEquation x y]
 refine ⟨fun a0 => ?_, fun a0 => ⟨fun a1 => ?_, fun a1 => ?_⟩⟩
 all_goals try and_intros
 all_goals first | rfl | trivial | (simp only [decide_eq_true_eq, decide_eq_false_iff_not, idxOk, inI64] at *; omega) | (refine eqB_false fun hab => ?_; subst hab; simp_all) | (refine eqB_true ?_; cases x; cases y; simp_all)
theorem good_laws_eqEquation : Ctr.Good k_laws_eqEquation := ok_laws_eqEquation ⟨good_laws_eqExpr, trivial⟩
def k_laws_eqEquationS : Ctr := ⟨n_laws_eqEquationS, [.v (.slice (.st .equation)), .v (.slice (.st .equation))], fun (xs : List GEquation) (ys : List GEquation) => ⟨(none, [⟨.bool, eqB xs ys⟩])⟩⟩
def l_laws_eqEquationS (xs : List GEquation) (ys : List GEquation) : Nat → LoopInv := (fun zb => if Nat.beq zb 0 then .mk (Nat) (fun k => k ≤ xs.length ∧ xs.length = ys.length ∧ xs.take k = ys.take k) (fun k => xs.length - k) [] [2, 3, 6, 7, 8, 9, 10] (fun k => [(5, .imm ⟨(.int .i64), ((k : Int) : Int)⟩)]) [0, 1, 4, 5, 11, 12, 13, 14, 15, 16, 17, 18, 19, 20, 21, 22, 23, 24, 25, 26] (fun k => []) [] [] (fun k => fun _ => .none) else .none)
theorem vc_laws_eqEquationS (xs : List GEquation) (ys : List GEquation) : awp (envOf [k_laws_eqEquation]) (bodyOf f_laws_eqEquationS) (l_laws_eqEquationS xs ys) 0 (funPost (envOf [k_laws_eqEquation]) f_laws_eqEquationS fun r => areEq r [⟨.bool, eqB xs ys⟩]) (startState f_laws_eqEquationS [.val ⟨(.slice (.st .equation)), xs⟩, .val ⟨(.slice (.st .equation)), ys⟩]) =
 ((inI64 ((xs.length : Int)) →
 (inI64 ((ys.length : Int)) →
 (((!(decide (((xs.length : Int)) = ((ys.length : Int))))) = true →
 false = (eqB xs ys)) ∧ ((!(decide (((xs.length : Int)) = ((ys.length : Int))))) = false →
 ((∃ k1 : Nat, ((k1 ≤ xs.length ∧ xs.length = ys.length ∧ xs.take k1 = ys.take k1) ∧ ((xs = xs ∧ (ys = ys ∧ ((0 : Int) = (k1 : Int) ∧ True))) ∧ True))) ∧ (∀ k1 : Nat, ((k1 ≤ xs.length ∧ xs.length = ys.length ∧ xs.take k1 = ys.take k1) →
 (inI64 ((xs.length : Int)) →
 (((decide ((k1 : Int) < ((xs.length : Int)))) = true →
 (idxOk (k1 : Int) xs.length ∧ (idxOk (k1 : Int) ys.length ∧ (((!(eqB (xs.getD k1 (GEquation.mk zE zE)) (ys.getD k1 (GEquation.mk zE zE)))) = true →
 false = (eqB xs ys)) ∧ ((!(eqB (xs.getD k1 (GEquation.mk zE zE)) (ys.getD k1 (GEquation.mk zE zE)))) = false →
 (inI64 ((k1 : Int) + (1 : Int)) ∧ (∃ k2 : Nat, ((k2 ≤ xs.length ∧ xs.length = ys.length ∧ xs.take k2 = ys.take k2) ∧ (xs.length - k2 < xs.length - k1 ∧ ((xs = xs ∧ (ys = ys ∧ (((k1 : Int) + (1 : Int)) = (k2 : Int) ∧ True))) ∧ True)))))))))) ∧ ((decide ((k1 : Int) < ((xs.length : Int)))) = false →
 true = (eqB xs ys)))))))))))) := by kernel_rfl
theorem ok_laws_eqEquationS (hE : AllGood [k_laws_eqEquation]) : Ctr.Good k_laws_eqEquationS := by
 refine ⟨fnOk_of at_laws_eqEquationS rfl (by decide), ?_⟩
 show ∀ (xs : List GEquation) (ys : List GEquation), True → OkCall prog n_laws_eqEquationS [.val ⟨(.slice (.st .equation)), xs⟩, .val ⟨(.slice (.st .equation)), ys⟩] (· = [⟨.bool, eqB xs ys⟩])
 intro xs ys _
 refine ok_of_awp (wr := []) (cl := []) (ro := []) hE at_laws_eqEquationS body_laws_eqEquationS (l_laws_eqEquationS xs ys) ?_
 rewrite [vc_laws_eqEquationS xs ys]
 refine fun a0 => fun a1 => ⟨fun a2 => ?_, fun a2 => ⟨⟨0, ⟨?_, ⟨⟨rfl, ⟨rfl, ⟨?_, trivial⟩⟩⟩, trivial⟩⟩⟩, fun k1 a3 => have b3x0 := take_same (GEquation.mk zE zE) xs ys k1; have b3x1 := take_same_all xs ys k1; fun a4 => ⟨fun a5 => ⟨?_, ⟨?_, ⟨fun a6 => ?_, fun a6 => ⟨?_, ⟨k1 + 1, ⟨?_, ⟨?_, ⟨⟨rfl, ⟨rfl, ⟨?_, trivial⟩⟩⟩, trivial⟩⟩⟩⟩⟩⟩⟩⟩, fun a5 => ?_⟩⟩⟩
 all_goals try and_intros
 all_goals first | rfl | trivial | (simp only [decide_eq_true_eq, decide_eq_false_iff_not, Bool.not_eq_false', decide_not, Bool.not_eq_true', idxOk, inI64] at *; first | omega | (refine eqB_false fun hab => ?_; subst hab; simp_all; done) | (refine eqB_true (take_same_all _ _ _ (by omega) (by omega) (by simp_all)))) | (refine eqB_false fun hab => ?_; subst hab; simp_all; done) | (simp_all; done) | (refine take_same (GEquation.mk zE zE) _ _ _ (by simp_all; omega) (by simp_all; omega) (by simp_all) ?_; simp_all; done)
theorem good_laws_eqEquationS : Ctr.Good k_laws_eqEquationS := ok_laws_eqEquationS ⟨good_laws_eqEquation, trivial⟩
end
end Go.Proofs.YtbphjcgkidlabaaDoor

set_option linter.unusedVariables false
set_option linter.unusedSimpArgs false
set_option linter.unusedSectionVars false
set_option maxRecDepth 4000
set_option maxHeartbeats 4000000
namespace Go.Proofs.YtbphjcgkidlabaaDoor
noncomputable section
def half {α : Type} (f : List α) (xs : List α) (i : Nat) : List α := f.take i ++ xs.drop i
theorem half_zero {α : Type} (f xs : List α) : xs = half f xs 0 := by simp [half]
theorem half_all {α : Type} (f xs : List α) (i : Nat) (h : f.length = xs.length) (hi : xs.length ≤ i) : half f xs i = f := by
 simp [half, List.take_of_length_le (h ▸ hi), List.drop_eq_nil_of_le hi]
theorem half_length {α : Type} (f xs : List α) (i : Nat) (h : f.length = xs.length) : (half f xs i).length = xs.length := by
 simp [half]; omega
theorem half_getD {α : Type} (f xs : List α) (d : α) (i : Nat) (h : f.length = xs.length) (hi : i < xs.length) : (half f xs i).getD i d = xs.getD i d := by
 simp only [half, List.getD_eq_getElem?_getD]
 rw [List.getElem?_append_right (by simp; omega)]
 simp [h, Nat.min_eq_left (Nat.le_of_lt hi)]
theorem half_set {α : Type} (f xs : List α) (d : α) (i : Nat) (h : f.length = xs.length) (hi : i < xs.length) : (half f xs i).set i (f.getD i d) = half f xs (i + 1) := by
 unfold half
 rw [List.set_append_right _ _ (by simp; omega)]
 have e : i - (List.take i f).length = 0 := by simp; omega
 rw [e, List.drop_eq_getElem_cons (by omega : i < xs.length), List.set_cons_zero, take_snoc d f i (by omega)]
 simp
mutual
def cntX : GExpr → Nat
 | ⟨_, _, ks⟩ => 2 + cntXs ks
def cntXs : List GExpr → Nat
 | [] => 0
 | x :: xs => cntX x + cntXs xs
end
theorem cntXs_eq : ∀ xs, cntXs xs = szL cntX xs
 | [] => rfl
 | x :: xs => by rw [cntXs, szL, cntXs_eq xs]
theorem cntX_eq (x : GExpr) : cntX x = 2 + szL cntX x.kids := by
 cases x; simp [cntX, cntXs_eq]
mutual
def mkX (k : Int) : GExpr → GExpr
 | ⟨_, _, ks⟩ => ⟨k, k + 1, mkXs (k + 2) ks⟩
def mkXs (k : Int) : List GExpr → List GExpr
 | [] => []
 | x :: xs => mkX k x :: mkXs (k + (cntX x : Int)) xs
end
theorem mkX_eq (k : Int) (x : GExpr) : mkX k x = ⟨k, k + 1, mkXs (k + 2) x.kids⟩ := by cases x; rfl
theorem mkXs_length : ∀ (k : Int) (xs : List GExpr), (mkXs k xs).length = xs.length
 | _, [] => rfl
 | k, x :: xs => by simp [mkXs, mkXs_length _ xs]
theorem mkXs_getD (z : GExpr) : ∀ (k : Int) (xs : List GExpr) (i : Nat), i < xs.length → (mkXs k xs).getD i z = mkX (k + (szL cntX (xs.take i) : Int)) (xs.getD i z)
 | k, [], i, h => by simp at h
 | k, x :: xs, 0, h => by simp [mkXs, szL]
 | k, x :: xs, i + 1, h => by
  have := mkXs_getD z (k + (cntX x : Int)) xs i (by simpa using h)
  simp only [mkXs, List.getD_cons_succ, this, List.take_succ_cons, szL]
  congr 1
  omega
theorem cnt_len : ∀ xs : List GExpr, xs.length ≤ szL cntX xs
 | [] => by simp [szL]
 | x :: xs => by
  have := cnt_len xs
  have := cntX_eq x
  simp only [szL, List.length_cons]; omega
theorem set_getD {α : Type} (l : List α) (i : Nat) (y z : α) (h : i < l.length) : (l.set i y).getD i z = y := by
 simp [List.getD, h]
theorem mk_step (k : Int) (xs : List GExpr) (i : Nat) (z : GExpr) (h : i < xs.length) (y1 y2 y3 : GExpr) (h3 : y3 = mkX (k + (szL cntX (xs.take i) : Int)) (xs.getD i z)) :
  (((half (mkXs k xs) xs i).set i y1).set i y2).set i y3 = half (mkXs k xs) xs (i + 1) := by
 rw [List.set_set, List.set_set, h3, ← mkXs_getD z k xs i h, half_set _ _ z i (mkXs_length k xs) h]
def mkn_laws_markExprS (n : Nat) : MK := ⟨n_laws_markExprS, ⟨(.slice (.st .expr)), fun (xs : List GExpr) (k : Int) => (some (msz xs < n ∧ 0 ≤ k ∧ k + (szL cntX xs : Int) ≤ 4611686018427387904), mkXs k xs, k + (szL cntX xs : Int))⟩⟩
def mk_laws_markExprS : MK := ⟨n_laws_markExprS, ⟨(.slice (.st .expr)), fun (xs : List GExpr) (k : Int) => (some (0 ≤ k ∧ k + (szL cntX xs : Int) ≤ 4611686018427387904), mkXs k xs, k + (szL cntX xs : Int))⟩⟩
def lm_laws_markExprS (xs : List GExpr) (k : Int) : Nat → LoopInv := (fun zb => if Nat.beq zb 0 then .mk (Nat) (fun i => i ≤ xs.length) (fun i => xs.length - i) [] [2, 3] (fun i => [(5, .imm ⟨(.int .i64), ((i : Int) : Int)⟩), (1, .imm ⟨(.int .i64), (k + (szL cntX (xs.take i) : Int) : Int)⟩), (0, .tree 50)]) [0, 1, 4, 5, 6, 7, 8, 9, 10, 11, 12, 13, 14, 15, 16, 17, 18, 19, 20, 21, 22, 23, 24, 25, 26, 27, 28, 29, 30, 31, 32, 33] (fun i => [(50, .tree (.st .expr) (half (mkXs k xs) xs i : List GExpr))]) [] [] (fun i => fun _ => .none) else .none)
theorem vcm_laws_markExprS (n : Nat) (xs : List GExpr) (k : Int) : awp (envO [] [] [mkn_laws_markExprS n] [32] []) (bodyOf f_laws_markExprS) (lm_laws_markExprS xs k) 0 (markPost f_laws_markExprS (mkn_laws_markExprS (n + 1)).m xs k) (markStart f_laws_markExprS ⟨(.slice (.st .expr)), xs⟩ k) =
 (((∃ i1 : Nat, (i1 ≤ xs.length ∧ ((True ∧ (k = (k + (szL cntX (xs.take i1) : Int)) ∧ ((0 : Int) = (0 : Int) ∧ ((0 : Int) = (i1 : Int) ∧ True)))) ∧ (xs = (half (mkXs k xs) xs i1) ∧ True)))) ∧ (∀ i1 : Nat, (i1 ≤ xs.length →
 (((decide ((i1 : Int) < (((half (mkXs k xs) xs i1).length : Int)))) = true →
 (idxOk (i1 : Int) (half (mkXs k xs) xs i1).length ∧ (inI64 ((k + (szL cntX (xs.take i1) : Int)) + (1 : Int)) ∧ (idxOk (i1 : Int) ((half (mkXs k xs) xs i1).set i1 (GExpr.mk (k + (szL cntX (xs.take i1) : Int)) ((half (mkXs k xs) xs i1).getD i1 zE).num ((half (mkXs k xs) xs i1).getD i1 zE).kids)).length ∧ (inI64 (((k + (szL cntX (xs.take i1) : Int)) + (1 : Int)) + (1 : Int)) ∧ (idxOk (i1 : Int) (((half (mkXs k xs) xs i1).set i1 (GExpr.mk (k + (szL cntX (xs.take i1) : Int)) ((half (mkXs k xs) xs i1).getD i1 zE).num ((half (mkXs k xs) xs i1).getD i1 zE).kids)).set i1 (GExpr.mk (((half (mkXs k xs) xs i1).set i1 (GExpr.mk (k + (szL cntX (xs.take i1) : Int)) ((half (mkXs k xs) xs i1).getD i1 zE).num ((half (mkXs k xs) xs i1).getD i1 zE).kids)).getD i1 zE).kind ((k + (szL cntX (xs.take i1) : Int)) + (1 : Int)) (((half (mkXs k xs) xs i1).set i1 (GExpr.mk (k + (szL cntX (xs.take i1) : Int)) ((half (mkXs k xs) xs i1).getD i1 zE).num ((half (mkXs k xs) xs i1).getD i1 zE).kids)).getD i1 zE).kids)).length ∧ ((msz ((((half (mkXs k xs) xs i1).set i1 (GExpr.mk (k + (szL cntX (xs.take i1) : Int)) ((half (mkXs k xs) xs i1).getD i1 zE).num ((half (mkXs k xs) xs i1).getD i1 zE).kids)).set i1 (GExpr.mk (((half (mkXs k xs) xs i1).set i1 (GExpr.mk (k + (szL cntX (xs.take i1) : Int)) ((half (mkXs k xs) xs i1).getD i1 zE).num ((half (mkXs k xs) xs i1).getD i1 zE).kids)).getD i1 zE).kind ((k + (szL cntX (xs.take i1) : Int)) + (1 : Int)) (((half (mkXs k xs) xs i1).set i1 (GExpr.mk (k + (szL cntX (xs.take i1) : Int)) ((half (mkXs k xs) xs i1).getD i1 zE).num ((half (mkXs k xs) xs i1).getD i1 zE).kids)).getD i1 zE).kids)).getD i1 zE).kids < n ∧ 0 ≤ (((k + (szL cntX (xs.take i1) : Int)) + (1 : Int)) + (1 : Int)) ∧ (((k + (szL cntX (xs.take i1) : Int)) + (1 : Int)) + (1 : Int)) + (szL cntX ((((half (mkXs k xs) xs i1).set i1 (GExpr.mk (k + (szL cntX (xs.take i1) : Int)) ((half (mkXs k xs) xs i1).getD i1 zE).num ((half (mkXs k xs) xs i1).getD i1 zE).kids)).set i1 (GExpr.mk (((half (mkXs k xs) xs i1).set i1 (GExpr.mk (k + (szL cntX (xs.take i1) : Int)) ((half (mkXs k xs) xs i1).getD i1 zE).num ((half (mkXs k xs) xs i1).getD i1 zE).kids)).getD i1 zE).kind ((k + (szL cntX (xs.take i1) : Int)) + (1 : Int)) (((half (mkXs k xs) xs i1).set i1 (GExpr.mk (k + (szL cntX (xs.take i1) : Int)) ((half (mkXs k xs) xs i1).getD i1 zE).num ((half (mkXs k xs) xs i1).getD i1 zE).kids)).getD i1 zE).kids)).getD i1 zE).kids : Int) ≤ 4611686018427387904) ∧ (inI64 ((i1 : Int) + (1 : Int)) ∧ (∃ i2 : Nat, (i2 ≤ xs.length ∧ (xs.length - i2 < xs.length - i1 ∧ ((True ∧ (((((k + (szL cntX (xs.take i1) : Int)) + (1 : Int)) + (1 : Int)) + (szL cntX ((((half (mkXs k xs) xs i1).set i1 (GExpr.mk (k + (szL cntX (xs.take i1) : Int)) ((half (mkXs k xs) xs i1).getD i1 zE).num ((half (mkXs k xs) xs i1).getD i1 zE).kids)).set i1 (GExpr.mk (((half (mkXs k xs) xs i1).set i1 (GExpr.mk (k + (szL cntX (xs.take i1) : Int)) ((half (mkXs k xs) xs i1).getD i1 zE).num ((half (mkXs k xs) xs i1).getD i1 zE).kids)).getD i1 zE).kind ((k + (szL cntX (xs.take i1) : Int)) + (1 : Int)) (((half (mkXs k xs) xs i1).set i1 (GExpr.mk (k + (szL cntX (xs.take i1) : Int)) ((half (mkXs k xs) xs i1).getD i1 zE).num ((half (mkXs k xs) xs i1).getD i1 zE).kids)).getD i1 zE).kids)).getD i1 zE).kids : Int)) = (k + (szL cntX (xs.take i2) : Int)) ∧ ((0 : Int) = (0 : Int) ∧ (((i1 : Int) + (1 : Int)) = (i2 : Int) ∧ True)))) ∧ (((((half (mkXs k xs) xs i1).set i1 (GExpr.mk (k + (szL cntX (xs.take i1) : Int)) ((half (mkXs k xs) xs i1).getD i1 zE).num ((half (mkXs k xs) xs i1).getD i1 zE).kids)).set i1 (GExpr.mk (((half (mkXs k xs) xs i1).set i1 (GExpr.mk (k + (szL cntX (xs.take i1) : Int)) ((half (mkXs k xs) xs i1).getD i1 zE).num ((half (mkXs k xs) xs i1).getD i1 zE).kids)).getD i1 zE).kind ((k + (szL cntX (xs.take i1) : Int)) + (1 : Int)) (((half (mkXs k xs) xs i1).set i1 (GExpr.mk (k + (szL cntX (xs.take i1) : Int)) ((half (mkXs k xs) xs i1).getD i1 zE).num ((half (mkXs k xs) xs i1).getD i1 zE).kids)).getD i1 zE).kids)).set i1 (GExpr.mk ((((half (mkXs k xs) xs i1).set i1 (GExpr.mk (k + (szL cntX (xs.take i1) : Int)) ((half (mkXs k xs) xs i1).getD i1 zE).num ((half (mkXs k xs) xs i1).getD i1 zE).kids)).set i1 (GExpr.mk (((half (mkXs k xs) xs i1).set i1 (GExpr.mk (k + (szL cntX (xs.take i1) : Int)) ((half (mkXs k xs) xs i1).getD i1 zE).num ((half (mkXs k xs) xs i1).getD i1 zE).kids)).getD i1 zE).kind ((k + (szL cntX (xs.take i1) : Int)) + (1 : Int)) (((half (mkXs k xs) xs i1).set i1 (GExpr.mk (k + (szL cntX (xs.take i1) : Int)) ((half (mkXs k xs) xs i1).getD i1 zE).num ((half (mkXs k xs) xs i1).getD i1 zE).kids)).getD i1 zE).kids)).getD i1 zE).kind ((((half (mkXs k xs) xs i1).set i1 (GExpr.mk (k + (szL cntX (xs.take i1) : Int)) ((half (mkXs k xs) xs i1).getD i1 zE).num ((half (mkXs k xs) xs i1).getD i1 zE).kids)).set i1 (GExpr.mk (((half (mkXs k xs) xs i1).set i1 (GExpr.mk (k + (szL cntX (xs.take i1) : Int)) ((half (mkXs k xs) xs i1).getD i1 zE).num ((half (mkXs k xs) xs i1).getD i1 zE).kids)).getD i1 zE).kind ((k + (szL cntX (xs.take i1) : Int)) + (1 : Int)) (((half (mkXs k xs) xs i1).set i1 (GExpr.mk (k + (szL cntX (xs.take i1) : Int)) ((half (mkXs k xs) xs i1).getD i1 zE).num ((half (mkXs k xs) xs i1).getD i1 zE).kids)).getD i1 zE).kids)).getD i1 zE).num (mkXs (((k + (szL cntX (xs.take i1) : Int)) + (1 : Int)) + (1 : Int)) ((((half (mkXs k xs) xs i1).set i1 (GExpr.mk (k + (szL cntX (xs.take i1) : Int)) ((half (mkXs k xs) xs i1).getD i1 zE).num ((half (mkXs k xs) xs i1).getD i1 zE).kids)).set i1 (GExpr.mk (((half (mkXs k xs) xs i1).set i1 (GExpr.mk (k + (szL cntX (xs.take i1) : Int)) ((half (mkXs k xs) xs i1).getD i1 zE).num ((half (mkXs k xs) xs i1).getD i1 zE).kids)).getD i1 zE).kind ((k + (szL cntX (xs.take i1) : Int)) + (1 : Int)) (((half (mkXs k xs) xs i1).set i1 (GExpr.mk (k + (szL cntX (xs.take i1) : Int)) ((half (mkXs k xs) xs i1).getD i1 zE).num ((half (mkXs k xs) xs i1).getD i1 zE).kids)).getD i1 zE).kids)).getD i1 zE).kids))) = (half (mkXs k xs) xs i2) ∧ True))))))))))))) ∧ ((decide ((i1 : Int) < (((half (mkXs k xs) xs i1).length : Int)))) = false →
 ((k + (szL cntX (xs.take i1) : Int)) = (k + (szL cntX xs : Int)) ∧ (half (mkXs k xs) xs i1) = (mkXs k xs)))))))) := by kernel_rfl
theorem okm_laws_markExprS (n : Nat) (hE : AllGood []) (hO : AllO []) (hM : AllM [mkn_laws_markExprS n]) (hS : AllS []) : MK.Good (mkn_laws_markExprS (n + 1)) := by
 refine ⟨fnOk_of at_laws_markExprS rfl (by decide), mark_of_awp (own := [32]) (wr := []) (cl := []) (ro := []) hE hO hM hS at_laws_markExprS body_laws_markExprS (fun xs k => lm_laws_markExprS xs k) (fun x => Nat.le_of_ble_eq_true rfl) (Nat.le_of_ble_eq_true (by kernel_rfl)) ?_⟩
 show ∀ (xs : List GExpr) (k : Int), (msz xs < n + 1 ∧ 0 ≤ k ∧ k + (szL cntX xs : Int) ≤ 4611686018427387904) → inI64 k → awp (envO [] [] [mkn_laws_markExprS n] [32] []) (bodyOf f_laws_markExprS) (lm_laws_markExprS xs k) 0 (markPost f_laws_markExprS (mkn_laws_markExprS (n + 1)).m xs k) (markStart f_laws_markExprS ⟨(.slice (.st .expr)), xs⟩ k)
 intro xs k hp hk
 rewrite [vcm_laws_markExprS n xs k]
 have f0 := half_zero (mkXs k xs) xs
 have f1 := szL_zero cntX xs
 have f2 := cnt_len xs
 refine ⟨⟨0, ⟨?_, ⟨⟨trivial, ⟨?_, ⟨rfl, ⟨?_, trivial⟩⟩⟩⟩, ⟨?_, trivial⟩⟩⟩⟩, fun i1 a0 => have b0x0 := half_all (mkXs k xs) xs i1 (mkXs_length k xs); have b0x1 := half_length (mkXs k xs) xs i1 (mkXs_length k xs); have b0x2 := half_getD (mkXs k xs) xs zE i1 (mkXs_length k xs); have b0x3 := szL_take cntX zE xs i1; have b0x4 := szL_take_le cntX xs i1; have b0x5 := szL_take_le cntX xs (i1 + 1); have b0x6 := szL_all cntX xs i1; have b0x7 := cntX_eq (xs.getD i1 zE); have b0x8 := msz_getD zE xs i1; have b0x9 := msz_kids (xs.getD i1 zE); have b0x10 := mkX_eq (k + (szL cntX (xs.take i1) : Int)) (xs.getD i1 zE); have b0x11 := (fun (y : GExpr) (h : i1 < xs.length) => set_getD (half (mkXs k xs) xs i1) i1 y zE (by rw [half_length _ _ i1 (mkXs_length k xs)]; exact h)); have b0x12 := (fun (h : i1 < xs.length) (y1 y2 y3 : GExpr) => mk_step k xs i1 zE h y1 y2 y3); ⟨fun a1 => ⟨?_, ⟨?_, ⟨?_, ⟨?_, ⟨?_, ⟨?_, ⟨?_, ⟨i1 + 1, ⟨?_, ⟨?_, ⟨⟨trivial, ⟨?_, ⟨rfl, ⟨?_, trivial⟩⟩⟩⟩, ⟨?_, trivial⟩⟩⟩⟩⟩⟩⟩⟩⟩⟩⟩⟩, fun a1 => ⟨?_, ?_⟩⟩⟩
 all_goals try and_intros
 all_goals first | rfl | trivial | omega | (simp only [List.set_set, List.length_set, decide_eq_true_eq, decide_eq_false_iff_not, idxOk, inI64] at *; first | omega | (have hi : i2 < xs.length := by omega); simp only [b0x11 _ hi, b0x2 hi]; first | omega | (refine b0x12 hi (GExpr.mk 0 0 []) (GExpr.mk 0 0 []) _ ?_; rw [b0x10, Int.add_assoc]; rfl)) | grind
theorem allm_mark_expr : ∀ n, AllM [mkn_laws_markExprS n]
 | 0 => ⟨⟨fnOk_of at_laws_markExprS rfl (by decide), fun _ _ _ _ _ h => absurd (show msz _ < 0 from h.1) (Nat.not_lt_zero _)⟩, trivial⟩
 | n + 1 => by
  have ih := allm_mark_expr n
  exact ⟨okm_laws_markExprS n trivial trivial ⟨ih.1, trivial⟩ trivial, trivial⟩
theorem mgood_laws_markExprS : MK.Good mk_laws_markExprS :=
 ⟨fnOk_of at_laws_markExprS rfl (by decide), fun (xs : List GExpr) (k : Int) w v fp (hp : 0 ≤ k ∧ k + (szL cntX xs : Int) ≤ 4611686018427387904) => (allm_mark_expr (msz xs + 1)).1.2 xs k w v fp (show (msz xs < msz xs + 1 ∧ (0 ≤ k ∧ k + (szL cntX xs : Int) ≤ 4611686018427387904)) from ⟨Nat.lt_succ_self _, hp⟩)⟩
end
end Go.Proofs.YtbphjcgkidlabaaDoor

set_option linter.unusedVariables false
set_option linter.unusedSimpArgs false
set_option linter.unusedSectionVars false
namespace Go.Proofs.YtbphjcgkidlabaaDoor
noncomputable section
def mkL {α : Type} (cnt : α → Nat) (mk : Int → α → α) (k : Int) : List α → List α
 | [] => []
 | x :: xs => mk k x :: mkL cnt mk (k + (cnt x : Int)) xs
theorem mkL_length {α : Type} (cnt : α → Nat) (mk : Int → α → α) : ∀ (k : Int) (xs : List α), (mkL cnt mk k xs).length = xs.length
 | _, [] => rfl
 | k, x :: xs => by simp [mkL, mkL_length cnt mk _ xs]
theorem mkL_getD {α : Type} (cnt : α → Nat) (mk : Int → α → α) (z : α) : ∀ (k : Int) (xs : List α) (i : Nat), i < xs.length → (mkL cnt mk k xs).getD i z = mk (k + (szL cnt (xs.take i) : Int)) (xs.getD i z)
 | k, [], i, h => by simp at h
 | k, x :: xs, 0, h => by simp [mkL, szL]
 | k, x :: xs, i + 1, h => by
  have := mkL_getD cnt mk z (k + (cnt x : Int)) xs i (by simpa using h)
  simp only [mkL, List.getD_cons_succ, this, List.take_succ_cons, szL]
  congr 1
  omega
theorem mkL_step {α : Type} (cnt : α → Nat) (mk : Int → α → α) (k : Int) (xs : List α) (i : Nat) (z : α) (h : i < xs.length) (y : α) (e : y = mk (k + (szL cnt (xs.take i) : Int)) (xs.getD i z)) :
  (half (mkL cnt mk k xs) xs i).set i y = half (mkL cnt mk k xs) xs (i + 1) := by
 rw [e, ← mkL_getD cnt mk z k xs i h, half_set _ _ z i (mkL_length cnt mk k xs) h]
theorem cnt_lenL {α : Type} (cnt : α → Nat) (h : ∀ x, 1 ≤ cnt x) : ∀ xs : List α, xs.length ≤ szL cnt xs
 | [] => by simp [szL]
 | x :: xs => by
  have := cnt_lenL cnt h xs
  have := h x
  simp only [szL, List.length_cons]; omega
end
end Go.Proofs.YtbphjcgkidlabaaDoor

set_option linter.unusedVariables false
set_option linter.unusedSimpArgs false
set_option linter.unusedSectionVars false
set_option maxRecDepth 4000
set_option maxHeartbeats 4000000
namespace Go.Proofs.YtbphjcgkidlabaaDoor
noncomputable section
mutual
theorem cntX_mk : ∀ (k : Int) (x : GExpr), cntX (mkX k x) = cntX x
 | k, ⟨a, b, ks⟩ => by
  have := cntXs_mk (k + 2) ks
  simp only [mkX, cntX, this]
theorem cntXs_mk : ∀ (k : Int) (xs : List GExpr), cntXs (mkXs k xs) = cntXs xs
 | _, [] => rfl
 | k, x :: xs => by
  have h1 := cntX_mk k x
  have h2 := cntXs_mk (k + (cntX x : Int)) xs
  simp only [mkXs, cntXs, h1, h2]
end
mutual
theorem mkX_mk : ∀ (k : Int) (x : GExpr), mkX k (mkX k x) = mkX k x
 | k, ⟨a, b, ks⟩ => by
  have := mkXs_mk (k + 2) ks
  simp only [mkX, this]
theorem mkXs_mk : ∀ (k : Int) (xs : List GExpr), mkXs k (mkXs k xs) = mkXs k xs
 | _, [] => rfl
 | k, x :: xs => by
  have h1 := mkX_mk k x
  have h2 := cntX_mk k x
  have h3 := mkXs_mk (k + (cntX x : Int)) xs
  simp only [mkXs, h1, h2, h3]
end
def okXs (k : Int) (xs : List GExpr) : Bool := eqB (mkXs k xs) xs
def heldXs (k : Int) (xs : List GExpr) : Int := bif okXs k xs then k + (szL cntX xs : Int) else -1
theorem heldXs_eq (k : Int) (xs : List GExpr) : (okXs k xs = true ∧ heldXs k xs = k + (szL cntX xs : Int)) ∨ (okXs k xs = false ∧ heldXs k xs = -1) := by
 unfold heldXs
 cases okXs k xs <;> simp
theorem mkXs_take (z : GExpr) : ∀ (k : Int) (xs : List GExpr) (i : Nat), i < xs.length → mkXs k (xs.take (i + 1)) = mkXs k (xs.take i) ++ [mkX (k + (szL cntX (xs.take i) : Int)) (xs.getD i z)]
 | k, [], i, h => by simp at h
 | k, x :: xs, 0, h => by simp [mkXs, szL]
 | k, x :: xs, i + 1, h => by
  have := mkXs_take z (k + (cntX x : Int)) xs i (by simpa using h)
  simp only [List.take_succ_cons, mkXs, this, List.getD_cons_succ, szL, List.cons_append]
  congr 4
  omega
def okX (k : Int) (x : GExpr) : Bool := decide (x.kind = k) && decide (x.num = k + 1) && okXs (k + 2) x.kids
theorem okX_iff (k : Int) (x : GExpr) : okX k x = true ↔ mkX k x = x := by
 cases x
 simp [okX, okXs, mkX]
 constructor
 ·rintro ⟨⟨h1, h2⟩, h3⟩; exact ⟨h1.symm, h2.symm, h3⟩
 ·rintro ⟨h1, h2, h3⟩; exact ⟨⟨h1.symm, h2.symm⟩, h3⟩
theorem okXs_take (z : GExpr) (k : Int) (xs : List GExpr) (i : Nat) (h : i < xs.length) : okXs k (xs.take (i + 1)) = (okXs k (xs.take i) && okX (k + (szL cntX (xs.take i) : Int)) (xs.getD i z)) := by
 rw [Bool.eq_iff_iff, Bool.and_eq_true, okX_iff]
 simp only [okXs, eqB_iff]
 rw [mkXs_take z k xs i h, take_snoc z xs i h]
 constructor
 ·intro e
  have := List.append_inj e (by rw [mkXs_length])
  exact ⟨this.1, by simpa using this.2⟩
 ·rintro ⟨e1, e2⟩; rw [e1, e2]
theorem okXs_bad (z : GExpr) (k : Int) (xs : List GExpr) (i : Nat) (h : i < xs.length) (e : okX (k + (szL cntX (xs.take i) : Int)) (xs.getD i z) = false) : okXs k xs = false := by
 cases hb : okXs k xs with
 | false => rfl
 | true =>
  have h1 := mkXs_getD z k xs i h
  simp only [okXs, eqB_iff] at hb
  rw [hb] at h1
  have := (okX_iff _ _).2 h1.symm
  rw [e] at this; cases this
theorem okXs_done (k : Int) (xs : List GExpr) (i : Nat) (h : xs.length ≤ i) : okXs k (xs.take i) = okXs k xs := by rw [List.take_of_length_le h]
theorem okX_cases (k : Int) (x : GExpr) : okX k x = (decide (x.kind = k) && decide (x.num = k + 1) && okXs (k + 1 + 1) x.kids) := by
 rw [okX, show k + 2 = k + 1 + 1 by omega]
def kn_laws_heldExprS (n : Nat) : Ctr := ⟨n_laws_heldExprS, [.v (.slice (.st .expr)), .v (.int .i64)], fun (xs : List GExpr) (k : Int) => ⟨(some (msz xs < n ∧ 0 ≤ k ∧ k + (szL cntX xs : Int) ≤ 4611686018427387904), [⟨(.int .i64), heldXs k xs⟩])⟩⟩
def k_laws_heldExprS : Ctr := ⟨n_laws_heldExprS, [.v (.slice (.st .expr)), .v (.int .i64)], fun (xs : List GExpr) (k : Int) => ⟨(some (0 ≤ k ∧ k + (szL cntX xs : Int) ≤ 4611686018427387904), [⟨(.int .i64), heldXs k xs⟩])⟩⟩
def l_laws_heldExprS (xs : List GExpr) (k : Int) : Nat → LoopInv := (fun zb => if Nat.beq zb 0 then .mk (Nat) (fun i => i ≤ xs.length ∧ okXs k (xs.take i) = true) (fun i => xs.length - i) [] [2, 3] (fun i => [(5, .imm ⟨(.int .i64), ((i : Int) : Int)⟩), (1, .imm ⟨(.int .i64), ((k + (szL cntX (xs.take i) : Int)) : Int)⟩)]) [0, 1, 4, 5, 6, 7, 8, 9, 10, 11, 12, 13, 14, 15, 16, 17, 18, 19, 20, 21, 22, 23, 24, 25, 26, 27, 28, 29, 30, 31, 32, 33, 34, 35, 36, 37, 38, 39] (fun i => []) [] [] (fun i => fun _ => .none) else .none)
theorem vc_laws_heldExprS (n : Nat) (xs : List GExpr) (k : Int) : awp (envOf [kn_laws_heldExprS n]) (bodyOf f_laws_heldExprS) (l_laws_heldExprS xs k) 0 (funPost (envOf [kn_laws_heldExprS n]) f_laws_heldExprS fun r => areEq r [⟨(.int .i64), heldXs k xs⟩]) (startState f_laws_heldExprS [.val ⟨(.slice (.st .expr)), xs⟩, .val ⟨(.int .i64), k⟩]) =
 (((∃ i1 : Nat, ((i1 ≤ xs.length ∧ okXs k (xs.take i1) = true) ∧ ((xs = xs ∧ (k = (k + (szL cntX (xs.take i1) : Int)) ∧ ((0 : Int) = (i1 : Int) ∧ True))) ∧ True))) ∧ (∀ i1 : Nat, ((i1 ≤ xs.length ∧ okXs k (xs.take i1) = true) →
 (inI64 ((xs.length : Int)) →
 (((decide ((i1 : Int) < ((xs.length : Int)))) = true →
 (idxOk (i1 : Int) xs.length ∧ (inI64 (xs.getD i1 zE).kind →
 (((!(decide ((xs.getD i1 zE).kind = (k + (szL cntX (xs.take i1) : Int))))) = true →
 (-1 : Int) = (heldXs k xs)) ∧ ((!(decide ((xs.getD i1 zE).kind = (k + (szL cntX (xs.take i1) : Int))))) = false →
 (inI64 ((k + (szL cntX (xs.take i1) : Int)) + (1 : Int)) ∧ (idxOk (i1 : Int) xs.length ∧ (inI64 (xs.getD i1 zE).num →
 (((!(decide ((xs.getD i1 zE).num = ((k + (szL cntX (xs.take i1) : Int)) + (1 : Int))))) = true →
 (-1 : Int) = (heldXs k xs)) ∧ ((!(decide ((xs.getD i1 zE).num = ((k + (szL cntX (xs.take i1) : Int)) + (1 : Int))))) = false →
 (inI64 (((k + (szL cntX (xs.take i1) : Int)) + (1 : Int)) + (1 : Int)) ∧ (idxOk (i1 : Int) xs.length ∧ ((xs.getD i1 zE).kids.length ≤ 140737488355328 →
 ((msz (xs.getD i1 zE).kids < n ∧ 0 ≤ (((k + (szL cntX (xs.take i1) : Int)) + (1 : Int)) + (1 : Int)) ∧ (((k + (szL cntX (xs.take i1) : Int)) + (1 : Int)) + (1 : Int)) + (szL cntX (xs.getD i1 zE).kids : Int) ≤ 4611686018427387904) ∧ (inI64 (heldXs (((k + (szL cntX (xs.take i1) : Int)) + (1 : Int)) + (1 : Int)) (xs.getD i1 zE).kids) →
 (((decide ((heldXs (((k + (szL cntX (xs.take i1) : Int)) + (1 : Int)) + (1 : Int)) (xs.getD i1 zE).kids) < (0 : Int))) = true →
 (-1 : Int) = (heldXs k xs)) ∧ ((decide ((heldXs (((k + (szL cntX (xs.take i1) : Int)) + (1 : Int)) + (1 : Int)) (xs.getD i1 zE).kids) < (0 : Int))) = false →
 (inI64 ((i1 : Int) + (1 : Int)) ∧ (∃ i2 : Nat, ((i2 ≤ xs.length ∧ okXs k (xs.take i2) = true) ∧ (xs.length - i2 < xs.length - i1 ∧ ((xs = xs ∧ ((heldXs (((k + (szL cntX (xs.take i1) : Int)) + (1 : Int)) + (1 : Int)) (xs.getD i1 zE).kids) = (k + (szL cntX (xs.take i2) : Int)) ∧ (((i1 : Int) + (1 : Int)) = (i2 : Int) ∧ True))) ∧ True)))))))))))))))))))))) ∧ ((decide ((i1 : Int) < ((xs.length : Int)))) = false →
 (k + (szL cntX (xs.take i1) : Int)) = (heldXs k xs)))))))) := by kernel_rfl
theorem ok_laws_heldExprS (n : Nat) (hE : AllGood [kn_laws_heldExprS n]) : Ctr.Good (kn_laws_heldExprS (n + 1)) := by
 refine ⟨fnOk_of at_laws_heldExprS rfl (by decide), ?_⟩
 show ∀ (xs : List GExpr) (k : Int), (msz xs < n + 1 ∧ 0 ≤ k ∧ k + (szL cntX xs : Int) ≤ 4611686018427387904) → OkCall prog n_laws_heldExprS [.val ⟨(.slice (.st .expr)), xs⟩, .val ⟨(.int .i64), k⟩] (· = [⟨(.int .i64), heldXs k xs⟩])
 intro xs k hp
 refine ok_of_awp (wr := []) (cl := []) (ro := []) hE at_laws_heldExprS body_laws_heldExprS (l_laws_heldExprS xs k) ?_
 rewrite [vc_laws_heldExprS n xs k]
 have f0 : okXs k (xs.take 0) = true := by simp [okXs, mkXs]
 have f1 := szL_zero cntX xs
 have f2 := heldXs_eq k xs
 refine ⟨⟨0, ⟨?_, ⟨⟨rfl, ⟨?_, ⟨?_, trivial⟩⟩⟩, trivial⟩⟩⟩, fun i1 a0 => have b0x0 := okXs_take zE k xs i1; have b0x1 := okXs_bad zE k xs i1; have b0x2 := okXs_done k xs i1; have b0x3 := okX_cases (k + (szL cntX (xs.take i1) : Int)) (xs.getD i1 zE); have b0x4 := heldXs_eq ((k + (szL cntX (xs.take i1) : Int)) + 1 + 1) (xs.getD i1 zE).kids; have b0x5 := szL_take cntX zE xs i1; have b0x6 := szL_take_le cntX xs i1; have b0x7 := szL_take_le cntX xs (i1 + 1); have b0x8 := szL_all cntX xs i1; have b0x9 := cntX_eq (xs.getD i1 zE); have b0x10 := msz_getD zE xs i1; have b0x11 := msz_kids (xs.getD i1 zE); fun a1 => ⟨fun a2 => ⟨?_, fun a3 => ⟨fun a4 => ?_, fun a4 => ⟨?_, ⟨?_, fun a5 => ⟨fun a6 => ?_, fun a6 => ⟨?_, ⟨?_, fun a7 => ⟨?_, fun a8 => ⟨fun a9 => ?_, fun a9 => ⟨?_, ⟨i1 + 1, ⟨?_, ⟨?_, ⟨⟨rfl, ⟨?_, ⟨?_, trivial⟩⟩⟩, trivial⟩⟩⟩⟩⟩⟩⟩⟩⟩⟩⟩⟩⟩⟩, fun a2 => ?_⟩⟩
 all_goals try and_intros
 all_goals first | rfl | trivial | omega | (simp only [decide_eq_true_eq, decide_eq_false_iff_not, idxOk, inI64, Bool.not_eq_true', Bool.not_eq_false'] at *; first | omega | grind)
theorem all_held_expr  : ∀ n, AllGood [kn_laws_heldExprS n]
 | 0 => ⟨⟨fnOk_of at_laws_heldExprS rfl (by decide), fun _ _ h => absurd h.1 (Nat.not_lt_zero _)⟩, trivial⟩
 | n + 1 => by
  have ih := all_held_expr  n
  exact ⟨ok_laws_heldExprS n ⟨ih.1, trivial⟩, trivial⟩
theorem good_laws_heldExprS  : Ctr.Good k_laws_heldExprS :=
 ⟨fnOk_of at_laws_heldExprS rfl (by decide), fun xs k hp => (all_held_expr  (msz xs + 1)).1.2 xs k (⟨Nat.lt_succ_self _, hp⟩)⟩
end
end Go.Proofs.YtbphjcgkidlabaaDoor
