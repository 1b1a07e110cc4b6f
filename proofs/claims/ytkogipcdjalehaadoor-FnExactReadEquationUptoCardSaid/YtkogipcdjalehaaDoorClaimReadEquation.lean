/- FnExactReadEquationUptoCardSaid: the law returns true and leaves its arguments as they were, wherever what it reads is of bulk at most 1048576. -/
import Derived.Test.YtkogipcdjalehaaDoorVmRow
import Derived.Test.YtkogipcdjalehaaDoorVmCReqn
import Derived.Test.YtkogipcdjalehaaDoorCards
import Derived.Test.YtkogipcdjalehaaDoorTie
import Derived.Lay
import Derived.OpenShut
import Derived.Deep.DeepHandedRow
set_option linter.unusedVariables false
set_option maxRecDepth 100000
namespace Go.Proofs.YtkogipcdjalehaaDoor
open Go.ChangeShapes Go.WideShapes Go.ChangeAt Go.RowKit

theorem laid_FnExactReadEquation (os : Os) (args : Array Value) : laidMet Tryd.prog Rows.fnExactReadEquationUptoRow.laid ((World.laidAll Tryd.prog os Rows.fnExactReadEquationUptoRow.laid).forCall (fun _ _ => 0) ⟨#[], args, []⟩).memory :=
  laidMet_laidAll args (by kernel_rfl) (by kernel_rfl)
theorem lifted_FnExactReadEquation (os : Os) (started : os.Started) (H : Type) (enc : TypeId × Value → H) (F : Stop.Interp) :
    ReturnsInHanded {} Tryd.checked os 7 .any ((Rows.OpenSpec.upto Rows.fnExactReadEquationSpec).preRow enc Tryd.prog Tryd.f7 Rows.fnExactReadEquationUptoRow.domain false Rows.fnExactReadEquationUptoRow.laid) (((Rows.OpenSpec.upto Rows.fnExactReadEquationSpec).at F).post enc Tryd.prog Tryd.f7 false true false false) := by
  refine returnsInHanded_of_row (C := Tryd.checked) (s := Rows.OpenSpec.upto Rows.fnExactReadEquationSpec) prog_own started (by kernel_rfl) Tryd.func7
    (witness_row_at (enc := enc) (C := Tryd.checked) false (World.laidAll Tryd.prog os Rows.fnExactReadEquationUptoRow.laid) #[.agg #[.int .i64 0, .int .i64 0], .string ⟨#[]⟩] (World.laidAll_os _ _ _) (by kernel_rfl) (by kernel_rfl) (by kernel_rfl)
      (OpenSpec.preRow_of_cond 8 (x := ([.agg [.lit (.int .i64 0), .lit (.int .i64 0)], .lit (.string [])], [], [])) (by kernel_rfl) (by kernel_rfl) (fun k hk => by cases hk; kernel_rfl) (by kernel_rfl) (laid_FnExactReadEquation os _))) ?_
  intro W base args ds gs before hval hW _ hcond _ _ hsh _
  refine law_row (n := 7) (fn := Tryd.f7) (s := Rows.fnExactReadEquationSpec) (τs := [(.st .sig), .str]) ?_ ?_ rfl rfl ?_ law_FnExactReadEquation hval hW (hcond _ rfl) (gok_of_shaped hsh)
  · exact ⟨⟨0, 0, by kernel_rfl⟩, ⟨0, 0, by kernel_rfl⟩, trivial⟩
  · intro t ht
    rw [show Tryd.f7.params.toList = [T_laws_Sig, T_string] from rfl] at ht
    simp only [List.mem_cons, List.not_mem_nil, or_false] at ht
    rcases ht with rfl | rfl <;> exact ⟨by kernel_rfl, of_decide_eq_true (by kernel_rfl)⟩
  · intro ds h
    match ds, h with
    | [d0, d1], _ => rfl

theorem FnExactReadEquation_upto : Rows.FnExactReadEquationUptoSaid :=
  OpenClaim.holds_of_cond 7 Tryd.f7 rfl rfl rfl rfl rfl rfl rfl ⟨rfl, rfl, rfl, rfl, rfl⟩ rfl rfl rfl rfl rfl (by kernel_rfl) Tryd.func7 (by kernel_rfl)
    (of_decide_eq_true (by kernel_rfl)) (by unfold Func.isWrapper; first | (rw [if_pos (by decide +kernel)]; kernel_rfl) | (rw [if_neg (by decide +kernel)]; exact ⟨rfl, rfl⟩))
    (fun os started H enc _ F => by rw [OpenClaim.pre_eq_preRow]; exact lifted_FnExactReadEquation os started H enc F)

theorem plain_FnExactReadEquation (f : FuncId) (fn : Func) (hf : Tryd.pinned.checked.prog.funcNamed Rows.fnExactReadEquationUptoRow.func = some f) (hfn : Tryd.pinned.checked.prog.funcs[f]? = some fn) :
    false = Tryd.pinned.checked.prog.looks [] ∧ ∀ (j : Nat) t, fn.params[j]? = some t → Tryd.pinned.checked.prog.wantsStandIn t = false := by
  obtain rfl : f = 7 := Option.some.inj ((show Tryd.prog.funcNamed Rows.fnExactReadEquationUptoRow.func = some 7 by kernel_rfl).symm.trans hf) |>.symm
  obtain rfl : fn = Tryd.f7 := (Option.some.inj (Tryd.func7.symm.trans hfn)).symm
  refine ⟨by kernel_rfl, fun j t ht => ?_⟩
  have hm := Array.mem_of_getElem? ht
  have hl : t ∈ Tryd.f7.params.toList := by simpa using hm
  rw [show Tryd.f7.params.toList = [T_laws_Sig, T_string] from rfl] at hl
  simp only [List.mem_cons, List.not_mem_nil, or_false] at hl
  rcases hl with rfl | rfl <;> (show Tryd.prog.wantsStandIn _ = false; kernel_rfl)

theorem FnExactReadEquation_proved : Rows.FnExactReadEquationUptoCardSaid :=
  Claim7.holds_tied_plain_at .later [] _ _ _ _ FnExactReadEquation_upto (fun _ h => by cases h) (by kernel_rfl) (fun _ h => by cases h) fnExactReadEquationUpto_row_tie rfl ⟨rfl, rfl⟩ (by kernel_rfl) rfl plain_FnExactReadEquation (by kernel_rfl)
end Go.Proofs.YtkogipcdjalehaaDoor
