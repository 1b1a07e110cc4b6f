/- FnExactReadModelUptoCardSaid: the law returns true and leaves its arguments as they were, wherever what it reads is of bulk at most 1048576. -/
import Derived.Test.YtkogipcdjalehaaDoorVmRow
import Derived.Test.YtkogipcdjalehaaDoorVmCRModel
import Derived.Test.YtkogipcdjalehaaDoorCards
import Derived.Test.YtkogipcdjalehaaDoorTie
import Derived.Lay
import Derived.OpenShut
import Derived.Deep.DeepHandedRow
set_option linter.unusedVariables false
set_option maxRecDepth 100000
namespace Go.Proofs.YtkogipcdjalehaaDoor
open Go.ChangeShapes Go.WideShapes Go.ChangeAt Go.RowKit

theorem laid_FnExactReadModel (os : Os) (args : Array Value) : laidMet Tryd.prog Rows.fnExactReadModelUptoRow.laid ((World.laidAll Tryd.prog os Rows.fnExactReadModelUptoRow.laid).forCall (fun _ _ => 0) ⟨#[], args, []⟩).memory :=
  laidMet_laidAll args (by kernel_rfl) (by kernel_rfl)
theorem lifted_FnExactReadModel (os : Os) (started : os.Started) (H : Type) (enc : TypeId × Value → H) (F : Stop.Interp) :
    ReturnsInHanded {} Tryd.checked os 6 .any ((Rows.OpenSpec.upto Rows.fnExactReadModelSpec).preRow enc Tryd.prog Tryd.f6 Rows.fnExactReadModelUptoRow.domain false Rows.fnExactReadModelUptoRow.laid) (((Rows.OpenSpec.upto Rows.fnExactReadModelSpec).at F).post enc Tryd.prog Tryd.f6 false true false false) := by
  refine returnsInHanded_of_row (C := Tryd.checked) (s := Rows.OpenSpec.upto Rows.fnExactReadModelSpec) prog_own started (by kernel_rfl) Tryd.func6
    (witness_row_at (enc := enc) (C := Tryd.checked) false (World.laidAll Tryd.prog os Rows.fnExactReadModelUptoRow.laid) #[.string ⟨#[]⟩] (World.laidAll_os _ _ _) (by kernel_rfl) (by kernel_rfl) (by kernel_rfl)
      (OpenSpec.preRow_of_cond 8 (x := ([.lit (.string [])], [], [])) (by kernel_rfl) (by kernel_rfl) (fun k hk => by cases hk; kernel_rfl) (by kernel_rfl) (laid_FnExactReadModel os _))) ?_
  intro W base args ds gs before hval hW _ hcond _ _ hsh _
  refine law_row (n := 6) (fn := Tryd.f6) (s := Rows.fnExactReadModelSpec) (τs := [.str]) ?_ ?_ rfl rfl ?_ law_FnExactReadModel hval hW (hcond _ rfl) (gok_of_shaped hsh)
  · exact ⟨⟨0, 0, by kernel_rfl⟩, trivial⟩
  · intro t ht
    rw [show Tryd.f6.params.toList = [T_string] from rfl] at ht
    simp only [List.mem_cons, List.not_mem_nil, or_false] at ht
    rcases ht with rfl
    exact ⟨by kernel_rfl, of_decide_eq_true (by kernel_rfl)⟩
  · intro ds h
    match ds, h with
    | [d0], _ => rfl

theorem FnExactReadModel_upto : Rows.FnExactReadModelUptoSaid :=
  OpenClaim.holds_of_cond 6 Tryd.f6 rfl rfl rfl rfl rfl rfl rfl ⟨rfl, rfl, rfl, rfl, rfl⟩ rfl rfl rfl rfl rfl (by kernel_rfl) Tryd.func6 (by kernel_rfl)
    (of_decide_eq_true (by kernel_rfl)) (by unfold Func.isWrapper; first | (rw [if_pos (by decide +kernel)]; kernel_rfl) | (rw [if_neg (by decide +kernel)]; exact ⟨rfl, rfl⟩))
    (fun os started H enc _ F => by rw [OpenClaim.pre_eq_preRow]; exact lifted_FnExactReadModel os started H enc F)

theorem plain_FnExactReadModel (f : FuncId) (fn : Func) (hf : Tryd.pinned.checked.prog.funcNamed Rows.fnExactReadModelUptoRow.func = some f) (hfn : Tryd.pinned.checked.prog.funcs[f]? = some fn) :
    false = Tryd.pinned.checked.prog.looks [] ∧ ∀ (j : Nat) t, fn.params[j]? = some t → Tryd.pinned.checked.prog.wantsStandIn t = false := by
  obtain rfl : f = 6 := Option.some.inj ((show Tryd.prog.funcNamed Rows.fnExactReadModelUptoRow.func = some 6 by kernel_rfl).symm.trans hf) |>.symm
  obtain rfl : fn = Tryd.f6 := (Option.some.inj (Tryd.func6.symm.trans hfn)).symm
  refine ⟨by kernel_rfl, fun j t ht => ?_⟩
  have hm := Array.mem_of_getElem? ht
  have hl : t ∈ Tryd.f6.params.toList := by simpa using hm
  rw [show Tryd.f6.params.toList = [T_string] from rfl] at hl
  simp only [List.mem_cons, List.not_mem_nil, or_false] at hl
  rcases hl with rfl
  (show Tryd.prog.wantsStandIn _ = false; kernel_rfl)

theorem FnExactReadModel_proved : Rows.FnExactReadModelUptoCardSaid :=
  Claim7.holds_tied_plain_at .later [] _ _ _ _ FnExactReadModel_upto (fun _ h => by cases h) (by kernel_rfl) (fun _ h => by cases h) fnExactReadModelUpto_row_tie rfl ⟨rfl, rfl⟩ (by kernel_rfl) rfl plain_FnExactReadModel (by kernel_rfl)
end Go.Proofs.YtkogipcdjalehaaDoor
