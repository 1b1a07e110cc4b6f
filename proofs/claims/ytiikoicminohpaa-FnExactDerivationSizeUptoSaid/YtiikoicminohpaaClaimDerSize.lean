/- FnExactDerivationSizeUptoSaid: the law returns true and leaves its argument as it was, wherever what it reads is of bulk at most 1048576. -/
import Derived.Test.YtiikoicminohpaaVmRow
import Derived.Test.YtiikoicminohpaaVmDerSize
set_option linter.unusedVariables false
set_option maxRecDepth 100000
namespace Go.Proofs.Ytiikoicminohpaa
open Go.ChangeShapes Go.WideShapes Go.ChangeAt Go.RowKit

theorem lifted_FnExactDerivationSize (os : Os) (started : os.Started) (H : Type) (enc : TypeId × Value → H) (F : Stop.Interp) :
    ReturnsInHanded {} Try.checked os 4 .any ((Rows.OpenSpec.upto Rows.fnExactDerivationSizeSpec).pre6 enc Try.prog Try.f4 Rows.fnExactDerivationSizeUptoRow.domain false) (((Rows.OpenSpec.upto Rows.fnExactDerivationSizeSpec).at F).post enc Try.prog Try.f4 false true false false) := by
  refine returnsInHanded_of_cond (C := Try.checked) (s := Rows.OpenSpec.upto Rows.fnExactDerivationSizeSpec) (k := Rows.uptoSmall) rfl prog_own started (by kernel_rfl) Try.func4
    (OpenSpec.witness (enc := enc) (C := Try.checked) (s := Rows.OpenSpec.upto Rows.fnExactDerivationSizeSpec) (k := Rows.uptoSmall) rfl false ⟨#[], #[.agg #[.int .i64 0, .int .i64 0, .int .i64 0, .slice none 0 0, .int .i64 0, .int .i64 0, .int .i64 0, .int .i64 0, .slice none 0 0, .slice none 0 0, .int .i64 0, .int .i64 0, .slice none 0 0, .slice none 0 0]], []⟩ 8 (by kernel_rfl) (by kernel_rfl) (by kernel_rfl)
      (x := ([.agg [.lit (.int .i64 0), .agg [.agg [.lit (.int .i64 0), .lit (.int .i64 0), .nil], .agg [.lit (.int .i64 0), .lit (.int .i64 0), .agg [.lit (.int .i64 0), .lit (.int .i64 0), .nil], .nil], .agg [.lit (.int .i64 0), .lit (.int .i64 0), .nil]], .nil]], [], [])) (by kernel_rfl) rfl (by kernel_rfl)) ?_
  intro W base args ds gs before hval hW _ hk _
  refine law_row (n := 4) (fn := Try.f4) (s := Rows.fnExactDerivationSizeSpec) (τs := [.st .derivation]) ?_ ?_ rfl rfl ?_ law_FnExactDerivationSize hval hW hk
  · exact ⟨⟨0, 0, by kernel_rfl⟩, trivial⟩
  · intro t ht
    rw [show Try.f4.params.toList = [T_laws_Derivation] from rfl] at ht
    simp only [List.mem_cons, List.not_mem_nil, or_false] at ht
    subst ht
    exact ⟨by kernel_rfl, of_decide_eq_true (by kernel_rfl)⟩
  · intro ds h
    match ds, h with
    | [d], _ => rfl

theorem FnExactDerivationSize_proved : Rows.FnExactDerivationSizeUptoSaid :=
  OpenClaim.holds_of_cond 4 Try.f4 rfl rfl rfl rfl rfl rfl rfl ⟨rfl, rfl, rfl, rfl, rfl⟩ rfl rfl rfl rfl rfl (by kernel_rfl) Try.func4 (by kernel_rfl)
    (of_decide_eq_true (by kernel_rfl)) (by unfold Func.isWrapper; first | (rw [if_pos (by decide +kernel)]; kernel_rfl) | (rw [if_neg (by decide +kernel)]; exact ⟨rfl, rfl⟩))
    (fun os started H enc _ F => lifted_FnExactDerivationSize os started H enc F)
end Go.Proofs.Ytiikoicminohpaa
