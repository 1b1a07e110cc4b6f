/- Sz, To, Eq, OwnFam, OwnFam2. -/
import Derived.Test.YtkogipcdjalehaaDoorVmUse
import Derived.Test.YtkogipcdjalehaaDoorVmLib
set_option linter.unusedVariables false
set_option linter.unusedSimpArgs false
set_option linter.unusedSectionVars false
namespace Go.Proofs.YtkogipcdjalehaaDoor
noncomputable section
end
end Go.Proofs.YtkogipcdjalehaaDoor

set_option linter.unusedVariables false
set_option linter.unusedSimpArgs false
set_option linter.unusedSectionVars false
namespace Go.Proofs.YtkogipcdjalehaaDoor
noncomputable section
end
end Go.Proofs.YtkogipcdjalehaaDoor

set_option linter.unusedVariables false
set_option linter.unusedSimpArgs false
set_option linter.unusedSectionVars false
set_option maxRecDepth 4000
set_option maxHeartbeats 4000000
namespace Go.Proofs.YtkogipcdjalehaaDoor
noncomputable section
def k_laws_eqSig : Ctr := ⟨n_laws_eqSig, [.v (.st .sig), .v (.st .sig)], fun (x : GSig) (y : GSig) => ⟨(none, [⟨.bool, eqB x y⟩])⟩⟩
def l_laws_eqSig (x : GSig) (y : GSig) : Nat → LoopInv := fun _ => .none
theorem vc_laws_eqSig (x : GSig) (y : GSig) : awp (envOf [] [] [] [2, 3]) (bodyOf f_laws_eqSig) (l_laws_eqSig x y) 0 (funPost (envOf [] [] [] [2, 3]) f_laws_eqSig fun r => areEq r [⟨.bool, eqB x y⟩]) (startState f_laws_eqSig [.val ⟨(.st .sig), x⟩, .val ⟨(.st .sig), y⟩]) =
 ((inI64 x.tests →
 (inI64 y.tests →
 (((!(decide (x.tests = y.tests))) = true →
 false = (eqB x y)) ∧ ((!(decide (x.tests = y.tests))) = false →
 (inI64 x.actions →
 (inI64 y.actions →
 (((!(decide (x.actions = y.actions))) = true →
 false = (eqB x y)) ∧ ((!(decide (x.actions = y.actions))) = false →
 true = (eqB x y)))))))))) := by kernel_rfl
theorem ok_laws_eqSig (hE : AllGood []) : Ctr.Good k_laws_eqSig := by
 refine ⟨fnOk_of at_laws_eqSig rfl (by decide), ?_⟩
 show ∀ (x : GSig) (y : GSig), True → OkCall prog n_laws_eqSig [.val ⟨(.st .sig), x⟩, .val ⟨(.st .sig), y⟩] (· = [⟨.bool, eqB x y⟩])
 intro x y _
 refine ok_of_awp (wr := []) (cl := []) (ro := [2, 3]) hE at_laws_eqSig body_laws_eqSig (l_laws_eqSig x y) ?_
 rewrite [vc_laws_eqSig x y]
 refine fun a0 => fun a1 => ⟨fun a2 => ?_, fun a2 => fun a3 => fun a4 => ⟨fun a5 => ?_, fun a5 => ?_⟩⟩
 all_goals try and_intros
 all_goals first | rfl | trivial | (simp only [decide_eq_true_eq, decide_eq_false_iff_not, idxOk, inI64] at *; omega) | (refine eqB_false fun hab => ?_; subst hab; simp_all) | (refine eqB_true ?_; cases x; cases y; simp_all)
theorem good_laws_eqSig : Ctr.Good k_laws_eqSig := ok_laws_eqSig trivial
def k_laws_eqBoolS : Ctr := ⟨n_laws_eqBoolS, [.v (.slice .bool), .v (.slice .bool)], fun (xs : List Bool) (ys : List Bool) => ⟨(none, [⟨.bool, eqB xs ys⟩])⟩⟩
def l_laws_eqBoolS (xs : List Bool) (ys : List Bool) : Nat → LoopInv := (fun zb => if Nat.beq zb 0 then .mk (Nat) (fun k => k ≤ xs.length ∧ xs.length = ys.length ∧ xs.take k = ys.take k) (fun k => xs.length - k) [] [2, 3, 6, 7, 8, 9, 10] (fun k => [(5, .imm ⟨(.int .i64), ((k : Int) : Int)⟩)]) [0, 1, 4, 5, 11, 12, 13, 14, 15, 16, 17, 18, 19, 20, 21, 22, 23, 24, 25] (fun k => []) [] [] (fun k => fun _ => .none) else .none)
theorem vc_laws_eqBoolS (xs : List Bool) (ys : List Bool) : awp (envOf []) (bodyOf f_laws_eqBoolS) (l_laws_eqBoolS xs ys) 0 (funPost (envOf []) f_laws_eqBoolS fun r => areEq r [⟨.bool, eqB xs ys⟩]) (startState f_laws_eqBoolS [.val ⟨(.slice .bool), xs⟩, .val ⟨(.slice .bool), ys⟩]) =
 ((inI64 ((xs.length : Int)) →
 (inI64 ((ys.length : Int)) →
 (((!(decide (((xs.length : Int)) = ((ys.length : Int))))) = true →
 false = (eqB xs ys)) ∧ ((!(decide (((xs.length : Int)) = ((ys.length : Int))))) = false →
 ((∃ k1 : Nat, ((k1 ≤ xs.length ∧ xs.length = ys.length ∧ xs.take k1 = ys.take k1) ∧ ((xs = xs ∧ (ys = ys ∧ ((0 : Int) = (k1 : Int) ∧ True))) ∧ True))) ∧ (∀ k1 : Nat, ((k1 ≤ xs.length ∧ xs.length = ys.length ∧ xs.take k1 = ys.take k1) →
 (inI64 ((xs.length : Int)) →
 (((decide ((k1 : Int) < ((xs.length : Int)))) = true →
 (idxOk (k1 : Int) xs.length ∧ (idxOk (k1 : Int) ys.length ∧ (((!((xs.getD k1 false) == (ys.getD k1 false))) = true →
 false = (eqB xs ys)) ∧ ((!((xs.getD k1 false) == (ys.getD k1 false))) = false →
 (inI64 ((k1 : Int) + (1 : Int)) ∧ (∃ k2 : Nat, ((k2 ≤ xs.length ∧ xs.length = ys.length ∧ xs.take k2 = ys.take k2) ∧ (xs.length - k2 < xs.length - k1 ∧ ((xs = xs ∧ (ys = ys ∧ (((k1 : Int) + (1 : Int)) = (k2 : Int) ∧ True))) ∧ True)))))))))) ∧ ((decide ((k1 : Int) < ((xs.length : Int)))) = false →
 true = (eqB xs ys)))))))))))) := by kernel_rfl
theorem ok_laws_eqBoolS (hE : AllGood []) : Ctr.Good k_laws_eqBoolS := by
 refine ⟨fnOk_of at_laws_eqBoolS rfl (by decide), ?_⟩
 show ∀ (xs : List Bool) (ys : List Bool), True → OkCall prog n_laws_eqBoolS [.val ⟨(.slice .bool), xs⟩, .val ⟨(.slice .bool), ys⟩] (· = [⟨.bool, eqB xs ys⟩])
 intro xs ys _
 refine ok_of_awp (wr := []) (cl := []) (ro := []) hE at_laws_eqBoolS body_laws_eqBoolS (l_laws_eqBoolS xs ys) ?_
 rewrite [vc_laws_eqBoolS xs ys]
 refine fun a0 => fun a1 => ⟨fun a2 => ?_, fun a2 => ⟨⟨0, ⟨?_, ⟨⟨rfl, ⟨rfl, ⟨?_, trivial⟩⟩⟩, trivial⟩⟩⟩, fun k1 a3 => have b3x0 := take_same false xs ys k1; have b3x1 := take_same_all xs ys k1; fun a4 => ⟨fun a5 => ⟨?_, ⟨?_, ⟨fun a6 => ?_, fun a6 => ⟨?_, ⟨k1 + 1, ⟨?_, ⟨?_, ⟨⟨rfl, ⟨rfl, ⟨?_, trivial⟩⟩⟩, trivial⟩⟩⟩⟩⟩⟩⟩⟩, fun a5 => ?_⟩⟩⟩
 all_goals try and_intros
 all_goals first | rfl | trivial | (simp only [decide_eq_true_eq, decide_eq_false_iff_not, Bool.not_eq_false', decide_not, Bool.not_eq_true', idxOk, inI64] at *; first | omega | (refine eqB_false fun hab => ?_; subst hab; simp_all; done) | (refine eqB_true (take_same_all _ _ _ (by omega) (by omega) (by simp_all)))) | (refine eqB_false fun hab => ?_; subst hab; simp_all; done) | (simp_all; done) | (refine take_same false _ _ _ (by simp_all; omega) (by simp_all; omega) (by simp_all) ?_; simp_all; done)
theorem good_laws_eqBoolS : Ctr.Good k_laws_eqBoolS := ok_laws_eqBoolS trivial
def k_laws_eqBoolSS : Ctr := ⟨n_laws_eqBoolSS, [.v (.slice (.slice .bool)), .v (.slice (.slice .bool))], fun (xs : List (List Bool)) (ys : List (List Bool)) => ⟨(none, [⟨.bool, eqB xs ys⟩])⟩⟩
def l_laws_eqBoolSS (xs : List (List Bool)) (ys : List (List Bool)) : Nat → LoopInv := (fun zb => if Nat.beq zb 0 then .mk (Nat) (fun k => k ≤ xs.length ∧ xs.length = ys.length ∧ xs.take k = ys.take k) (fun k => xs.length - k) [] [2, 3, 6, 7, 8, 9, 10] (fun k => [(5, .imm ⟨(.int .i64), ((k : Int) : Int)⟩)]) [0, 1, 4, 5, 11, 12, 13, 14, 15, 16, 17, 18, 19, 20, 21, 22, 23, 24, 25, 26] (fun k => []) [] [] (fun k => fun _ => .none) else .none)
theorem vc_laws_eqBoolSS (xs : List (List Bool)) (ys : List (List Bool)) : awp (envOf [k_laws_eqBoolS]) (bodyOf f_laws_eqBoolSS) (l_laws_eqBoolSS xs ys) 0 (funPost (envOf [k_laws_eqBoolS]) f_laws_eqBoolSS fun r => areEq r [⟨.bool, eqB xs ys⟩]) (startState f_laws_eqBoolSS [.val ⟨(.slice (.slice .bool)), xs⟩, .val ⟨(.slice (.slice .bool)), ys⟩]) =
 ((inI64 ((xs.length : Int)) →
 (inI64 ((ys.length : Int)) →
 (((!(decide (((xs.length : Int)) = ((ys.length : Int))))) = true →
 false = (eqB xs ys)) ∧ ((!(decide (((xs.length : Int)) = ((ys.length : Int))))) = false →
 ((∃ k1 : Nat, ((k1 ≤ xs.length ∧ xs.length = ys.length ∧ xs.take k1 = ys.take k1) ∧ ((xs = xs ∧ (ys = ys ∧ ((0 : Int) = (k1 : Int) ∧ True))) ∧ True))) ∧ (∀ k1 : Nat, ((k1 ≤ xs.length ∧ xs.length = ys.length ∧ xs.take k1 = ys.take k1) →
 (inI64 ((xs.length : Int)) →
 (((decide ((k1 : Int) < ((xs.length : Int)))) = true →
 (idxOk (k1 : Int) xs.length ∧ (idxOk (k1 : Int) ys.length ∧ ((xs.getD k1 []).length ≤ 140737488355328 →
 ((ys.getD k1 []).length ≤ 140737488355328 →
 (((!(eqB (xs.getD k1 []) (ys.getD k1 []))) = true →
 false = (eqB xs ys)) ∧ ((!(eqB (xs.getD k1 []) (ys.getD k1 []))) = false →
 (inI64 ((k1 : Int) + (1 : Int)) ∧ (∃ k2 : Nat, ((k2 ≤ xs.length ∧ xs.length = ys.length ∧ xs.take k2 = ys.take k2) ∧ (xs.length - k2 < xs.length - k1 ∧ ((xs = xs ∧ (ys = ys ∧ (((k1 : Int) + (1 : Int)) = (k2 : Int) ∧ True))) ∧ True)))))))))))) ∧ ((decide ((k1 : Int) < ((xs.length : Int)))) = false →
 true = (eqB xs ys)))))))))))) := by kernel_rfl
theorem ok_laws_eqBoolSS (hE : AllGood [k_laws_eqBoolS]) : Ctr.Good k_laws_eqBoolSS := by
 refine ⟨fnOk_of at_laws_eqBoolSS rfl (by decide), ?_⟩
 show ∀ (xs : List (List Bool)) (ys : List (List Bool)), True → OkCall prog n_laws_eqBoolSS [.val ⟨(.slice (.slice .bool)), xs⟩, .val ⟨(.slice (.slice .bool)), ys⟩] (· = [⟨.bool, eqB xs ys⟩])
 intro xs ys _
 refine ok_of_awp (wr := []) (cl := []) (ro := []) hE at_laws_eqBoolSS body_laws_eqBoolSS (l_laws_eqBoolSS xs ys) ?_
 rewrite [vc_laws_eqBoolSS xs ys]
 refine fun a0 => fun a1 => ⟨fun a2 => ?_, fun a2 => ⟨⟨0, ⟨?_, ⟨⟨rfl, ⟨rfl, ⟨?_, trivial⟩⟩⟩, trivial⟩⟩⟩, fun k1 a3 => have b3x0 := take_same [] xs ys k1; have b3x1 := take_same_all xs ys k1; fun a4 => ⟨fun a5 => ⟨?_, ⟨?_, fun a6 => fun a7 => ⟨fun a8 => ?_, fun a8 => ⟨?_, ⟨k1 + 1, ⟨?_, ⟨?_, ⟨⟨rfl, ⟨rfl, ⟨?_, trivial⟩⟩⟩, trivial⟩⟩⟩⟩⟩⟩⟩⟩, fun a5 => ?_⟩⟩⟩
 all_goals try and_intros
 all_goals first | rfl | trivial | (simp only [decide_eq_true_eq, decide_eq_false_iff_not, Bool.not_eq_false', decide_not, Bool.not_eq_true', idxOk, inI64] at *; first | omega | (refine eqB_false fun hab => ?_; subst hab; simp_all; done) | (refine eqB_true (take_same_all _ _ _ (by omega) (by omega) (by simp_all)))) | (refine eqB_false fun hab => ?_; subst hab; simp_all; done) | (simp_all; done) | (refine take_same [] _ _ _ (by simp_all; omega) (by simp_all; omega) (by simp_all) ?_; simp_all; done)
theorem good_laws_eqBoolSS : Ctr.Good k_laws_eqBoolSS := ok_laws_eqBoolSS ⟨good_laws_eqBoolS, trivial⟩
def k_laws_eqBoolSSS : Ctr := ⟨n_laws_eqBoolSSS, [.v (.slice (.slice (.slice .bool))), .v (.slice (.slice (.slice .bool)))], fun (xs : List (List (List Bool))) (ys : List (List (List Bool))) => ⟨(none, [⟨.bool, eqB xs ys⟩])⟩⟩
def l_laws_eqBoolSSS (xs : List (List (List Bool))) (ys : List (List (List Bool))) : Nat → LoopInv := (fun zb => if Nat.beq zb 0 then .mk (Nat) (fun k => k ≤ xs.length ∧ xs.length = ys.length ∧ xs.take k = ys.take k) (fun k => xs.length - k) [] [2, 3, 6, 7, 8, 9, 10] (fun k => [(5, .imm ⟨(.int .i64), ((k : Int) : Int)⟩)]) [0, 1, 4, 5, 11, 12, 13, 14, 15, 16, 17, 18, 19, 20, 21, 22, 23, 24, 25, 26] (fun k => []) [] [] (fun k => fun _ => .none) else .none)
theorem vc_laws_eqBoolSSS (xs : List (List (List Bool))) (ys : List (List (List Bool))) : awp (envOf [k_laws_eqBoolSS]) (bodyOf f_laws_eqBoolSSS) (l_laws_eqBoolSSS xs ys) 0 (funPost (envOf [k_laws_eqBoolSS]) f_laws_eqBoolSSS fun r => areEq r [⟨.bool, eqB xs ys⟩]) (startState f_laws_eqBoolSSS [.val ⟨(.slice (.slice (.slice .bool))), xs⟩, .val ⟨(.slice (.slice (.slice .bool))), ys⟩]) =
 ((inI64 ((xs.length : Int)) →
 (inI64 ((ys.length : Int)) →
 (((!(decide (((xs.length : Int)) = ((ys.length : Int))))) = true →
 false = (eqB xs ys)) ∧ ((!(decide (((xs.length : Int)) = ((ys.length : Int))))) = false →
 ((∃ k1 : Nat, ((k1 ≤ xs.length ∧ xs.length = ys.length ∧ xs.take k1 = ys.take k1) ∧ ((xs = xs ∧ (ys = ys ∧ ((0 : Int) = (k1 : Int) ∧ True))) ∧ True))) ∧ (∀ k1 : Nat, ((k1 ≤ xs.length ∧ xs.length = ys.length ∧ xs.take k1 = ys.take k1) →
 (inI64 ((xs.length : Int)) →
 (((decide ((k1 : Int) < ((xs.length : Int)))) = true →
 (idxOk (k1 : Int) xs.length ∧ (idxOk (k1 : Int) ys.length ∧ ((xs.getD k1 []).length ≤ 140737488355328 →
 ((ys.getD k1 []).length ≤ 140737488355328 →
 (((!(eqB (xs.getD k1 []) (ys.getD k1 []))) = true →
 false = (eqB xs ys)) ∧ ((!(eqB (xs.getD k1 []) (ys.getD k1 []))) = false →
 (inI64 ((k1 : Int) + (1 : Int)) ∧ (∃ k2 : Nat, ((k2 ≤ xs.length ∧ xs.length = ys.length ∧ xs.take k2 = ys.take k2) ∧ (xs.length - k2 < xs.length - k1 ∧ ((xs = xs ∧ (ys = ys ∧ (((k1 : Int) + (1 : Int)) = (k2 : Int) ∧ True))) ∧ True)))))))))))) ∧ ((decide ((k1 : Int) < ((xs.length : Int)))) = false →
 true = (eqB xs ys)))))))))))) := by kernel_rfl
theorem ok_laws_eqBoolSSS (hE : AllGood [k_laws_eqBoolSS]) : Ctr.Good k_laws_eqBoolSSS := by
 refine ⟨fnOk_of at_laws_eqBoolSSS rfl (by decide), ?_⟩
 show ∀ (xs : List (List (List Bool))) (ys : List (List (List Bool))), True → OkCall prog n_laws_eqBoolSSS [.val ⟨(.slice (.slice (.slice .bool))), xs⟩, .val ⟨(.slice (.slice (.slice .bool))), ys⟩] (· = [⟨.bool, eqB xs ys⟩])
 intro xs ys _
 refine ok_of_awp (wr := []) (cl := []) (ro := []) hE at_laws_eqBoolSSS body_laws_eqBoolSSS (l_laws_eqBoolSSS xs ys) ?_
 rewrite [vc_laws_eqBoolSSS xs ys]
 refine fun a0 => fun a1 => ⟨fun a2 => ?_, fun a2 => ⟨⟨0, ⟨?_, ⟨⟨rfl, ⟨rfl, ⟨?_, trivial⟩⟩⟩, trivial⟩⟩⟩, fun k1 a3 => have b3x0 := take_same [] xs ys k1; have b3x1 := take_same_all xs ys k1; fun a4 => ⟨fun a5 => ⟨?_, ⟨?_, fun a6 => fun a7 => ⟨fun a8 => ?_, fun a8 => ⟨?_, ⟨k1 + 1, ⟨?_, ⟨?_, ⟨⟨rfl, ⟨rfl, ⟨?_, trivial⟩⟩⟩, trivial⟩⟩⟩⟩⟩⟩⟩⟩, fun a5 => ?_⟩⟩⟩
 all_goals try and_intros
 all_goals first | rfl | trivial | (simp only [decide_eq_true_eq, decide_eq_false_iff_not, Bool.not_eq_false', decide_not, Bool.not_eq_true', idxOk, inI64] at *; first | omega | (refine eqB_false fun hab => ?_; subst hab; simp_all; done) | (refine eqB_true (take_same_all _ _ _ (by omega) (by omega) (by simp_all)))) | (refine eqB_false fun hab => ?_; subst hab; simp_all; done) | (simp_all; done) | (refine take_same [] _ _ _ (by simp_all; omega) (by simp_all; omega) (by simp_all) ?_; simp_all; done)
theorem good_laws_eqBoolSSS : Ctr.Good k_laws_eqBoolSSS := ok_laws_eqBoolSSS ⟨good_laws_eqBoolSS, trivial⟩
def k_laws_eqModel : Ctr := ⟨n_laws_eqModel, [.v (.st .model), .v (.st .model)], fun (x : GModel) (y : GModel) => ⟨(none, [⟨.bool, eqB x y⟩])⟩⟩
def l_laws_eqModel (x : GModel) (y : GModel) : Nat → LoopInv := fun _ => .none
theorem vc_laws_eqModel (x : GModel) (y : GModel) : awp (envOf [k_laws_eqSig, k_laws_eqBoolSS, k_laws_eqBoolSSS] [] [] [2, 3]) (bodyOf f_laws_eqModel) (l_laws_eqModel x y) 0 (funPost (envOf [k_laws_eqSig, k_laws_eqBoolSS, k_laws_eqBoolSSS] [] [] [2, 3]) f_laws_eqModel fun r => areEq r [⟨.bool, eqB x y⟩]) (startState f_laws_eqModel [.val ⟨(.st .model), x⟩, .val ⟨(.st .model), y⟩]) =
 ((((!(eqB x.sig y.sig)) = true →
 false = (eqB x y)) ∧ ((!(eqB x.sig y.sig)) = false →
 (inI64 x.points →
 (inI64 y.points →
 (((!(decide (x.points = y.points))) = true →
 false = (eqB x y)) ∧ ((!(decide (x.points = y.points))) = false →
 (x.tests.length ≤ 140737488355328 →
 (y.tests.length ≤ 140737488355328 →
 (((!(eqB x.tests y.tests)) = true →
 false = (eqB x y)) ∧ ((!(eqB x.tests y.tests)) = false →
 (x.acts.length ≤ 140737488355328 →
 (y.acts.length ≤ 140737488355328 →
 (((!(eqB x.acts y.acts)) = true →
 false = (eqB x y)) ∧ ((!(eqB x.acts y.acts)) = false →
 true = (eqB x y)))))))))))))))) := by kernel_rfl
theorem ok_laws_eqModel (hE : AllGood [k_laws_eqSig, k_laws_eqBoolSS, k_laws_eqBoolSSS]) : Ctr.Good k_laws_eqModel := by
 refine ⟨fnOk_of at_laws_eqModel rfl (by decide), ?_⟩
 show ∀ (x : GModel) (y : GModel), True → OkCall prog n_laws_eqModel [.val ⟨(.st .model), x⟩, .val ⟨(.st .model), y⟩] (· = [⟨.bool, eqB x y⟩])
 intro x y _
 refine ok_of_awp (wr := []) (cl := []) (ro := [2, 3]) hE at_laws_eqModel body_laws_eqModel (l_laws_eqModel x y) ?_
 rewrite [vc_laws_eqModel x y]
 refine ⟨fun a0 => ?_, fun a0 => fun a1 => fun a2 => ⟨fun a3 => ?_, fun a3 => fun a4 => fun a5 => ⟨fun a6 => ?_, fun a6 => fun a7 => fun a8 => ⟨fun a9 => ?_, fun a9 => ?_⟩⟩⟩⟩
 all_goals try and_intros
 all_goals first | rfl | trivial | (simp only [decide_eq_true_eq, decide_eq_false_iff_not, idxOk, inI64] at *; omega) | (refine eqB_false fun hab => ?_; subst hab; simp_all) | (refine eqB_true ?_; cases x; cases y; simp_all)
theorem good_laws_eqModel : Ctr.Good k_laws_eqModel := ok_laws_eqModel ⟨good_laws_eqSig, good_laws_eqBoolSS, good_laws_eqBoolSSS, trivial⟩
end
end Go.Proofs.YtkogipcdjalehaaDoor

set_option linter.unusedVariables false
set_option linter.unusedSimpArgs false
set_option linter.unusedSectionVars false
namespace Go.Proofs.YtkogipcdjalehaaDoor
noncomputable section
def half {α : Type} (f : List α) (xs : List α) (i : Nat) : List α := f.take i ++ xs.drop i
theorem half_zero {α : Type} (f xs : List α) : xs = half f xs 0 := by simp [half]
theorem half_all {α : Type} (f xs : List α) (i : Nat) (h : f.length = xs.length) (hi : xs.length ≤ i) : half f xs i = f := by
 simp [half, List.take_of_length_le (h ▸ hi), List.drop_eq_nil_of_le hi]
theorem half_length {α : Type} (f xs : List α) (i : Nat) (h : f.length = xs.length) : (half f xs i).length = xs.length := by
 simp [half]; omega
theorem half_getD {α : Type} (f xs : List α) (d : α) (i : Nat) (h : f.length = xs.length) (hi : i < xs.length) : (half f xs i).getD i d = xs.getD i d := by
 simp only [half, List.getD_eq_getElem?_getD]
 rw [List.getElem?_append_right (by simp; omega)]
 simp [h, Nat.min_eq_left (Nat.le_of_lt hi)]
theorem half_set {α : Type} (f xs : List α) (d : α) (i : Nat) (h : f.length = xs.length) (hi : i < xs.length) : (half f xs i).set i (f.getD i d) = half f xs (i + 1) := by
 unfold half
 rw [List.set_append_right _ _ (by simp; omega)]
 have e : i - (List.take i f).length = 0 := by simp; omega
 rw [e, List.drop_eq_getElem_cons (by omega : i < xs.length), List.set_cons_zero, take_snoc d f i (by omega)]
 simp
end
end Go.Proofs.YtkogipcdjalehaaDoor

set_option linter.unusedVariables false
set_option linter.unusedSimpArgs false
set_option linter.unusedSectionVars false
namespace Go.Proofs.YtkogipcdjalehaaDoor
noncomputable section
def mkL {α : Type} (cnt : α → Nat) (mk : Int → α → α) (k : Int) : List α → List α
 | [] => []
 | x :: xs => mk k x :: mkL cnt mk (k + (cnt x : Int)) xs
theorem mkL_length {α : Type} (cnt : α → Nat) (mk : Int → α → α) : ∀ (k : Int) (xs : List α), (mkL cnt mk k xs).length = xs.length
 | _, [] => rfl
 | k, x :: xs => by simp [mkL, mkL_length cnt mk _ xs]
theorem mkL_getD {α : Type} (cnt : α → Nat) (mk : Int → α → α) (z : α) : ∀ (k : Int) (xs : List α) (i : Nat), i < xs.length → (mkL cnt mk k xs).getD i z = mk (k + (szL cnt (xs.take i) : Int)) (xs.getD i z)
 | k, [], i, h => by simp at h
 | k, x :: xs, 0, h => by simp [mkL, szL]
 | k, x :: xs, i + 1, h => by
  have := mkL_getD cnt mk z (k + (cnt x : Int)) xs i (by simpa using h)
  simp only [mkL, List.getD_cons_succ, this, List.take_succ_cons, szL]
  congr 1
  omega
theorem mkL_step {α : Type} (cnt : α → Nat) (mk : Int → α → α) (k : Int) (xs : List α) (i : Nat) (z : α) (h : i < xs.length) (y : α) (e : y = mk (k + (szL cnt (xs.take i) : Int)) (xs.getD i z)) :
  (half (mkL cnt mk k xs) xs i).set i y = half (mkL cnt mk k xs) xs (i + 1) := by
 rw [e, ← mkL_getD cnt mk z k xs i h, half_set _ _ z i (mkL_length cnt mk k xs) h]
theorem cnt_lenL {α : Type} (cnt : α → Nat) (h : ∀ x, 1 ≤ cnt x) : ∀ xs : List α, xs.length ≤ szL cnt xs
 | [] => by simp [szL]
 | x :: xs => by
  have := cnt_lenL cnt h xs
  have := h x
  simp only [szL, List.length_cons]; omega
end
end Go.Proofs.YtkogipcdjalehaaDoor
