/- The comparisons of data. Printed by vmk.py. -/
import Derived.Test.YtkogipcdjalehaaDoorVmUse
import Derived.Test.YtkogipcdjalehaaDoorVmLib
set_option linter.unusedVariables false
set_option linter.unusedSimpArgs false
set_option linter.unusedSectionVars false
set_option maxRecDepth 4000
set_option maxHeartbeats 4000000
namespace Go.Proofs.YtkogipcdjalehaaDoor
noncomputable section
def k_laws_eqInt64S : Ctr := ⟨n_laws_eqInt64S, [.v (.slice (.int .i64)), .v (.slice (.int .i64))], fun (xs : List Int) (ys : List Int) => ⟨(none, [⟨.bool, eqB xs ys⟩])⟩⟩
def l_laws_eqInt64S (xs : List Int) (ys : List Int) : Nat → LoopInv := (fun zb => if Nat.beq zb 0 then .mk (Nat) (fun k => k ≤ xs.length ∧ xs.length = ys.length ∧ xs.take k = ys.take k) (fun k => xs.length - k) [] [2, 3, 6, 7, 8, 9, 10] (fun k => [(5, .imm ⟨(.int .i64), ((k : Int) : Int)⟩)]) [0, 1, 4, 5, 11, 12, 13, 14, 15, 16, 17, 18, 19, 20, 21, 22, 23, 24, 25] (fun k => []) [] [] (fun k => fun _ => .none) else .none)
theorem vc_laws_eqInt64S (xs : List Int) (ys : List Int) : awp (envOf []) (bodyOf f_laws_eqInt64S) (l_laws_eqInt64S xs ys) 0 (funPost (envOf []) f_laws_eqInt64S fun r => areEq r [⟨.bool, eqB xs ys⟩]) (startState f_laws_eqInt64S [.val ⟨(.slice (.int .i64)), xs⟩, .val ⟨(.slice (.int .i64)), ys⟩]) =
 ((inI64 ((xs.length : Int)) →
 (inI64 ((ys.length : Int)) →
 (((!(decide (((xs.length : Int)) = ((ys.length : Int))))) = true →
 false = (eqB xs ys)) ∧ ((!(decide (((xs.length : Int)) = ((ys.length : Int))))) = false →
 ((∃ k1 : Nat, ((k1 ≤ xs.length ∧ xs.length = ys.length ∧ xs.take k1 = ys.take k1) ∧ ((xs = xs ∧ (ys = ys ∧ ((0 : Int) = (k1 : Int) ∧ True))) ∧ True))) ∧ (∀ k1 : Nat, ((k1 ≤ xs.length ∧ xs.length = ys.length ∧ xs.take k1 = ys.take k1) →
 (inI64 ((xs.length : Int)) →
 (((decide ((k1 : Int) < ((xs.length : Int)))) = true →
 (idxOk (k1 : Int) xs.length ∧ (idxOk (k1 : Int) ys.length ∧ (inI64 (xs.getD k1 (0 : Int)) →
 (inI64 (ys.getD k1 (0 : Int)) →
 (((!(decide ((xs.getD k1 (0 : Int)) = (ys.getD k1 (0 : Int))))) = true →
 false = (eqB xs ys)) ∧ ((!(decide ((xs.getD k1 (0 : Int)) = (ys.getD k1 (0 : Int))))) = false →
 (inI64 ((k1 : Int) + (1 : Int)) ∧ (∃ k2 : Nat, ((k2 ≤ xs.length ∧ xs.length = ys.length ∧ xs.take k2 = ys.take k2) ∧ (xs.length - k2 < xs.length - k1 ∧ ((xs = xs ∧ (ys = ys ∧ (((k1 : Int) + (1 : Int)) = (k2 : Int) ∧ True))) ∧ True)))))))))))) ∧ ((decide ((k1 : Int) < ((xs.length : Int)))) = false →
 true = (eqB xs ys)))))))))))) := by kernel_rfl
theorem ok_laws_eqInt64S (hE : AllGood []) : Ctr.Good k_laws_eqInt64S := by
 refine ⟨fnOk_of at_laws_eqInt64S rfl (by decide), ?_⟩
 show ∀ (xs : List Int) (ys : List Int), True → OkCall prog n_laws_eqInt64S [.val ⟨(.slice (.int .i64)), xs⟩, .val ⟨(.slice (.int .i64)), ys⟩] (· = [⟨.bool, eqB xs ys⟩])
 intro xs ys _
 refine ok_of_awp (wr := []) (cl := []) (ro := []) hE at_laws_eqInt64S body_laws_eqInt64S (l_laws_eqInt64S xs ys) ?_
 rewrite [vc_laws_eqInt64S xs ys]
 refine fun a0 => fun a1 => ⟨fun a2 => ?_, fun a2 => ⟨⟨0, ⟨?_, ⟨⟨rfl, ⟨rfl, ⟨?_, trivial⟩⟩⟩, trivial⟩⟩⟩, fun k1 a3 => have b3x0 := take_same (0 : Int) xs ys k1; have b3x1 := take_same_all xs ys k1; fun a4 => ⟨fun a5 => ⟨?_, ⟨?_, fun a6 => fun a7 => ⟨fun a8 => ?_, fun a8 => ⟨?_, ⟨k1 + 1, ⟨?_, ⟨?_, ⟨⟨rfl, ⟨rfl, ⟨?_, trivial⟩⟩⟩, trivial⟩⟩⟩⟩⟩⟩⟩⟩, fun a5 => ?_⟩⟩⟩
 all_goals try and_intros
 all_goals first | rfl | trivial | (simp only [decide_eq_true_eq, decide_eq_false_iff_not, Bool.not_eq_false', decide_not, Bool.not_eq_true', idxOk, inI64] at *; first | omega | (refine eqB_false fun hab => ?_; subst hab; simp_all; done) | (refine eqB_true (take_same_all _ _ _ (by omega) (by omega) (by simp_all)))) | (refine eqB_false fun hab => ?_; subst hab; simp_all; done) | (simp_all; done) | (refine take_same (0 : Int) _ _ _ (by simp_all; omega) (by simp_all; omega) (by simp_all) ?_; simp_all; done)
theorem good_laws_eqInt64S : Ctr.Good k_laws_eqInt64S := ok_laws_eqInt64S trivial
def k_laws_eqWord : Ctr := ⟨n_laws_eqWord, [.v (.st .word), .v (.st .word)], fun (x : GWord) (y : GWord) => ⟨(none, [⟨.bool, eqB x y⟩])⟩⟩
def l_laws_eqWord (x : GWord) (y : GWord) : Nat → LoopInv := fun _ => .none
theorem vc_laws_eqWord (x : GWord) (y : GWord) : awp (envOf [k_laws_eqInt64S] [] [] [2, 3]) (bodyOf f_laws_eqWord) (l_laws_eqWord x y) 0 (funPost (envOf [k_laws_eqInt64S] [] [] [2, 3]) f_laws_eqWord fun r => areEq r [⟨.bool, eqB x y⟩]) (startState f_laws_eqWord [.val ⟨(.st .word), x⟩, .val ⟨(.st .word), y⟩]) =
 ((x.atoms.length ≤ 140737488355328 →
 (y.atoms.length ≤ 140737488355328 →
 (((!(eqB x.atoms y.atoms)) = true →
 false = (eqB x y)) ∧ ((!(eqB x.atoms y.atoms)) = false →
 (x.acts.length ≤ 140737488355328 →
 (y.acts.length ≤ 140737488355328 →
 (((!(eqB x.acts y.acts)) = true →
 false = (eqB x y)) ∧ ((!(eqB x.acts y.acts)) = false →
 true = (eqB x y)))))))))) := by kernel_rfl
theorem ok_laws_eqWord (hE : AllGood [k_laws_eqInt64S]) : Ctr.Good k_laws_eqWord := by
 refine ⟨fnOk_of at_laws_eqWord rfl (by decide), ?_⟩
 show ∀ (x : GWord) (y : GWord), True → OkCall prog n_laws_eqWord [.val ⟨(.st .word), x⟩, .val ⟨(.st .word), y⟩] (· = [⟨.bool, eqB x y⟩])
 intro x y _
 refine ok_of_awp (wr := []) (cl := []) (ro := [2, 3]) hE at_laws_eqWord body_laws_eqWord (l_laws_eqWord x y) ?_
 rewrite [vc_laws_eqWord x y]
 refine fun a0 => fun a1 => ⟨fun a2 => ?_, fun a2 => fun a3 => fun a4 => ⟨fun a5 => ?_, fun a5 => ?_⟩⟩
 all_goals try and_intros
 all_goals first | rfl | trivial | (simp only [decide_eq_true_eq, decide_eq_false_iff_not, idxOk, inI64] at *; omega) | (refine eqB_false fun hab => ?_; subst hab; simp_all) | (refine eqB_true ?_; cases x; cases y; simp_all)
theorem good_laws_eqWord : Ctr.Good k_laws_eqWord := ok_laws_eqWord ⟨good_laws_eqInt64S, trivial⟩
end
end Go.Proofs.YtkogipcdjalehaaDoor
