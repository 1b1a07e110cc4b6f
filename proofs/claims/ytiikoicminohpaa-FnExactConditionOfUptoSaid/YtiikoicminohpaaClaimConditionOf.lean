/- FnExactConditionOfUptoSaid: the law returns true and leaves its arguments as they were, wherever what it reads is of bulk at most 1048576. -/
import Derived.Test.YtiikoicminohpaaVmRow
import Derived.Test.YtiikoicminohpaaVmCondLaw
set_option linter.unusedVariables false
set_option maxRecDepth 100000
namespace Go.Proofs.Ytiikoicminohpaa
open Go.ChangeShapes Go.WideShapes Go.ChangeAt Go.RowKit

theorem lifted_FnExactConditionOf (os : Os) (started : os.Started) (H : Type) (enc : TypeId × Value → H) (F : Stop.Interp) :
    ReturnsInHanded {} Try.checked os 3 .any ((Rows.OpenSpec.upto Rows.fnExactConditionOfSpec).pre6 enc Try.prog Try.f3 Rows.fnExactConditionOfUptoRow.domain false) (((Rows.OpenSpec.upto Rows.fnExactConditionOfSpec).at F).post enc Try.prog Try.f3 false true false false) := by
  refine returnsInHanded_of_cond (C := Try.checked) (s := Rows.OpenSpec.upto Rows.fnExactConditionOfSpec) (k := Rows.uptoSmall) rfl prog_own started (by kernel_rfl) Try.func3
    (OpenSpec.witness (enc := enc) (C := Try.checked) (s := Rows.OpenSpec.upto Rows.fnExactConditionOfSpec) (k := Rows.uptoSmall) rfl false ⟨#[], #[.agg #[.int .i64 0, .int .i64 0], .slice none 0 0], []⟩ 8 (by kernel_rfl) (by kernel_rfl) (by kernel_rfl)
      (x := ([.agg [.lit (.int .i64 0), .lit (.int .i64 0)], .nil], [], [])) (by kernel_rfl) rfl (by kernel_rfl)) ?_
  intro W base args ds gs before hval hW _ hk _
  refine law_row (n := 3) (fn := Try.f3) (s := Rows.fnExactConditionOfSpec) (τs := [(.st .sig), (.slice (.int .i64))]) ?_ ?_ rfl rfl ?_ law_FnExactConditionOf hval hW hk
  · exact ⟨⟨0, 0, by kernel_rfl⟩, ⟨8, 2, by kernel_rfl⟩, trivial⟩
  · intro t ht
    rw [show Try.f3.params.toList = [T_laws_Sig, T_s_int64] from rfl] at ht
    simp only [List.mem_cons, List.not_mem_nil, or_false] at ht
    rcases ht with rfl | rfl <;> exact ⟨by kernel_rfl, of_decide_eq_true (by kernel_rfl)⟩
  · intro ds h
    match ds, h with
    | [d0, d1], _ => rfl

theorem FnExactConditionOf_proved : Rows.FnExactConditionOfUptoSaid :=
  OpenClaim.holds_of_cond 3 Try.f3 rfl rfl rfl rfl rfl rfl rfl ⟨rfl, rfl, rfl, rfl, rfl⟩ rfl rfl rfl rfl rfl (by kernel_rfl) Try.func3 (by kernel_rfl)
    (of_decide_eq_true (by kernel_rfl)) (by unfold Func.isWrapper; first | (rw [if_pos (by decide +kernel)]; kernel_rfl) | (rw [if_neg (by decide +kernel)]; exact ⟨rfl, rfl⟩))
    (fun os started H enc _ F => lifted_FnExactConditionOf os started H enc F)
end Go.Proofs.Ytiikoicminohpaa
