/- FnExactCheckDerivationUptoSaid: the law returns true and leaves its arguments as they were, wherever what it reads is of bulk at most 1048576. -/
import Derived.Test.YtkogipcdjalehaaGreatVmRow
import Derived.Test.YtkogipcdjalehaaGreatVmCheckDeriv
set_option linter.unusedVariables false
set_option maxRecDepth 100000
namespace Go.Proofs.YtkogipcdjalehaaGreat
open Go.ChangeShapes Go.WideShapes Go.ChangeAt Go.RowKit

theorem lifted_FnExactCheckDerivation (os : Os) (started : os.Started) (H : Type) (enc : TypeId × Value → H) (F : Stop.Interp) :
    ReturnsInHanded {} Tryz.checked os 3 .any ((Rows.OpenSpec.upto Rows.fnExactCheckDerivationSpec).pre6 enc Tryz.prog Tryz.f3 Rows.fnExactCheckDerivationUptoRow.domain false) (((Rows.OpenSpec.upto Rows.fnExactCheckDerivationSpec).at F).post enc Tryz.prog Tryz.f3 false true false false) := by
  refine returnsInHanded_of_cond (C := Tryz.checked) (s := Rows.OpenSpec.upto Rows.fnExactCheckDerivationSpec) (k := Rows.uptoSmall) rfl prog_own started (by kernel_rfl) Tryz.func3
    (OpenSpec.witness (enc := enc) (C := Tryz.checked) (s := Rows.OpenSpec.upto Rows.fnExactCheckDerivationSpec) (k := Rows.uptoSmall) rfl false ⟨#[], #[.agg #[.int .i64 0, .int .i64 0], .slice none 0 0, .agg #[.int .i64 0, .int .i64 0, .int .i64 0, .slice none 0 0, .int .i64 0, .int .i64 0, .int .i64 0, .int .i64 0, .slice none 0 0, .slice none 0 0, .int .i64 0, .int .i64 0, .slice none 0 0, .slice none 0 0]], []⟩ 8 (by kernel_rfl) (by kernel_rfl) (by kernel_rfl)
      (x := ([.agg [.lit (.int .i64 0), .lit (.int .i64 0)], .nil, .agg [.lit (.int .i64 0), .agg [.agg [.lit (.int .i64 0), .lit (.int .i64 0), .nil], .agg [.lit (.int .i64 0), .lit (.int .i64 0), .agg [.lit (.int .i64 0), .lit (.int .i64 0), .nil], .nil], .agg [.lit (.int .i64 0), .lit (.int .i64 0), .nil]], .nil]], [], [])) (by kernel_rfl) rfl (by kernel_rfl)) ?_
  intro W base args ds gs before hval hW _ hk _
  refine law_row (n := 3) (fn := Tryz.f3) (s := Rows.fnExactCheckDerivationSpec) (τs := [(.st .sig), (.slice (.st .premise)), (.st .derivation)]) ?_ ?_ rfl rfl ?_ law_FnExactCheckDerivation hval hW hk
  · exact ⟨⟨0, 0, by kernel_rfl⟩, ⟨88, 61, by kernel_rfl⟩, ⟨0, 0, by kernel_rfl⟩, trivial⟩
  · intro t ht
    rw [show Tryz.f3.params.toList = [T_laws_Sig, T_s_laws_Premise, T_laws_Derivation] from rfl] at ht
    simp only [List.mem_cons, List.not_mem_nil, or_false] at ht
    rcases ht with rfl | rfl | rfl <;> exact ⟨by kernel_rfl, of_decide_eq_true (by kernel_rfl)⟩
  · intro ds h
    match ds, h with
    | [d0, d1, d2], _ => rfl

theorem FnExactCheckDerivation_proved : Rows.FnExactCheckDerivationUptoSaid :=
  OpenClaim.holds_of_cond 3 Tryz.f3 rfl rfl rfl rfl rfl rfl rfl ⟨rfl, rfl, rfl, rfl, rfl⟩ rfl rfl rfl rfl rfl (by kernel_rfl) Tryz.func3 (by kernel_rfl)
    (of_decide_eq_true (by kernel_rfl)) (by unfold Func.isWrapper; first | (rw [if_pos (by decide +kernel)]; kernel_rfl) | (rw [if_neg (by decide +kernel)]; exact ⟨rfl, rfl⟩))
    (fun os started H enc _ F => lifted_FnExactCheckDerivation os started H enc F)
end Go.Proofs.YtkogipcdjalehaaGreat
