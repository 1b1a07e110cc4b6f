/- FnExactStrongestUnderUptoSaid: the law returns true and leaves its arguments as they were, wherever what it reads is of bulk at most 1048576. -/
import Derived.Test.YtcdppmpjplhgkaaVmRow
import Derived.Test.YtcdppmpjplhgkaaVmLawStrongest
set_option linter.unusedVariables false
set_option maxRecDepth 100000
namespace Go.Proofs.Ytcdppmpjplhgkaa
open Go.ChangeShapes Go.WideShapes Go.ChangeAt Go.RowKit

theorem lifted_FnExactStrongestUnder (os : Os) (started : os.Started) (H : Type) (enc : TypeId × Value → H) (F : Stop.Interp) :
    ReturnsInHanded {} Try.checked os 6 .any ((Rows.OpenSpec.upto Rows.fnExactStrongestUnderSpec).pre6 enc Try.prog Try.f6 Rows.fnExactStrongestUnderUptoRow.domain false) (((Rows.OpenSpec.upto Rows.fnExactStrongestUnderSpec).at F).post enc Try.prog Try.f6 false true false false) := by
  refine returnsInHanded_of_cond (C := Try.checked) (s := Rows.OpenSpec.upto Rows.fnExactStrongestUnderSpec) (k := Rows.uptoSmall) rfl prog_own started (by kernel_rfl) Try.func6
    (OpenSpec.witness (enc := enc) (C := Try.checked) (s := Rows.OpenSpec.upto Rows.fnExactStrongestUnderSpec) (k := Rows.uptoSmall) rfl false ⟨#[], #[.agg #[.int .i64 0, .int .i64 0], .slice none 0 0, .agg #[.int .i64 0, .int .i64 0, .slice none 0 0], .agg #[.int .i64 0, .int .i64 0, .int .i64 0, .int .i64 0, .slice none 0 0, .slice none 0 0]], []⟩ 8 (by kernel_rfl) (by kernel_rfl) (by kernel_rfl)
      (x := ([.agg [.lit (.int .i64 0), .lit (.int .i64 0)], .nil, .agg [.lit (.int .i64 0), .lit (.int .i64 0), .nil], .agg [.lit (.int .i64 0), .lit (.int .i64 0), .agg [.lit (.int .i64 0), .lit (.int .i64 0), .nil], .nil]], [], [])) (by kernel_rfl) rfl (by kernel_rfl)) ?_
  intro W base args ds gs before hval hW _ hk _
  refine law_row (n := 6) (fn := Try.f6) (s := Rows.fnExactStrongestUnderSpec) (τs := [(.st .sig), (.slice (.st .premise)), (.st .expr), (.st .prog)]) ?_ ?_ rfl rfl ?_ law_FnExactStrongestUnder hval hW hk
  · exact ⟨⟨0, 0, by kernel_rfl⟩, ⟨88, 77, by kernel_rfl⟩, ⟨0, 0, by kernel_rfl⟩, ⟨0, 0, by kernel_rfl⟩, trivial⟩
  · intro t ht
    rw [show Try.f6.params.toList = [T_laws_Sig, T_s_laws_Premise, T_laws_Expr, T_laws_Prog] from rfl] at ht
    simp only [List.mem_cons, List.not_mem_nil, or_false] at ht
    rcases ht with rfl | rfl | rfl | rfl <;> exact ⟨by kernel_rfl, of_decide_eq_true (by kernel_rfl)⟩
  · intro ds h
    match ds, h with
    | [d0, d1, d2, d3], _ => rfl

theorem FnExactStrongestUnder_proved : Rows.FnExactStrongestUnderUptoSaid :=
  OpenClaim.holds_of_cond 6 Try.f6 rfl rfl rfl rfl rfl rfl rfl ⟨rfl, rfl, rfl, rfl, rfl⟩ rfl rfl rfl rfl rfl (by kernel_rfl) Try.func6 (by kernel_rfl)
    (of_decide_eq_true (by kernel_rfl)) (by unfold Func.isWrapper; first | (rw [if_pos (by decide +kernel)]; kernel_rfl) | (rw [if_neg (by decide +kernel)]; exact ⟨rfl, rfl⟩))
    (fun os started H enc _ F => lifted_FnExactStrongestUnder os started H enc F)
end Go.Proofs.Ytcdppmpjplhgkaa
