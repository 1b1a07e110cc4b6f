/- FnExactAxiomsCardSaid: the law returns true and leaves its arguments as they were. -/
import Derived.Test.YtbphjcgkidlabaaDoorVmRow
import Derived.Test.YtbphjcgkidlabaaDoorVmCAxi
import Derived.Test.YtbphjcgkidlabaaDoorCards
import Derived.Test.YtbphjcgkidlabaaDoorTie
import Derived.Lay
import Derived.OpenShut
import Derived.Deep.DeepHandedRow
set_option linter.unusedVariables false
set_option maxRecDepth 100000
namespace Go.Proofs.YtbphjcgkidlabaaDoor
open Go.ChangeShapes Go.WideShapes Go.ChangeAt Go.RowKit

theorem laid_FnExactAxioms (os : Os) (args : Array Value) : laidMet Tryd.prog Rows.fnExactAxiomsRow.laid ((World.laidAll Tryd.prog os Rows.fnExactAxiomsRow.laid).forCall (fun _ _ => 0) ⟨#[], args, []⟩).memory :=
  laidMet_laidAll args (by kernel_rfl) (by kernel_rfl)
theorem lifted_FnExactAxioms (os : Os) (started : os.Started) (H : Type) (enc : TypeId × Value → H) (F : Stop.Interp) :
    ReturnsInHanded {} Tryd.checked os 3 .any ((OpenSpec.ofChange Rows.fnExactAxiomsSpec).preRow enc Tryd.prog Tryd.f3 Rows.fnExactAxiomsRow.domain false Rows.fnExactAxiomsRow.laid) (((OpenSpec.ofChange Rows.fnExactAxiomsSpec).at F).post enc Tryd.prog Tryd.f3 false true false false) := by
  refine returnsInHanded_of_row (C := Tryd.checked) (s := OpenSpec.ofChange Rows.fnExactAxiomsSpec) prog_own started (by kernel_rfl) Tryd.func3
    (witness_row_at (enc := enc) (C := Tryd.checked) false (World.laidAll Tryd.prog os Rows.fnExactAxiomsRow.laid) #[] (World.laidAll_os _ _ _) (by kernel_rfl) (by kernel_rfl) (by kernel_rfl)
      (OpenSpec.preRow_of_cond 8 (x := ([], [], [])) (by kernel_rfl) (by kernel_rfl) (fun k hk => by cases hk) (by kernel_rfl) (laid_FnExactAxioms os _))) ?_
  intro W base args ds gs before hval hW _ hcond _ _ hsh _
  have hk : Rows.uptoSmall H (ds ++ gs) = true := by
    obtain ⟨p, q, hA, hV, _⟩ := hW
    obtain ⟨rfl, _⟩ := trodVars_none hV
    rw [show Tryd.f3.params.toList = [] from rfl] at hA
    cases ds with
    | nil => rfl
    | cons d r => cases ha : args.toList <;> · rw [ha] at hA; exact hA.elim
  refine law_row (n := 3) (fn := Tryd.f3) (s := Rows.fnExactAxiomsSpec) (τs := []) ?_ ?_ rfl rfl ?_ law_FnExactAxioms hval hW hk (gok_of_shaped hsh)
  · exact trivial
  · intro t ht
    rw [show Tryd.f3.params.toList = [] from rfl] at ht
    cases ht
  · intro ds h
    match ds, h with
    | [], _ => rfl

theorem FnExactAxioms_full : Rows.FnExactAxiomsSaid :=
  OpenClaim.holds_of_cond 3 Tryd.f3 rfl rfl rfl rfl rfl rfl rfl ⟨rfl, rfl, rfl, rfl, rfl⟩ rfl rfl rfl rfl rfl (by kernel_rfl) Tryd.func3 (by kernel_rfl)
    (of_decide_eq_true (by kernel_rfl)) (by unfold Func.isWrapper; first | (rw [if_pos (by decide +kernel)]; kernel_rfl) | (rw [if_neg (by decide +kernel)]; exact ⟨rfl, rfl⟩))
    (fun os started H enc _ F => by rw [OpenClaim.pre_eq_preRow]; exact lifted_FnExactAxioms os started H enc F)

theorem plain_FnExactAxioms (f : FuncId) (fn : Func) (hf : Tryd.pinned.checked.prog.funcNamed Rows.fnExactAxiomsRow.func = some f) (hfn : Tryd.pinned.checked.prog.funcs[f]? = some fn) :
    false = Tryd.pinned.checked.prog.looks [] ∧ ∀ (j : Nat) t, fn.params[j]? = some t → Tryd.pinned.checked.prog.wantsStandIn t = false := by
  obtain rfl : f = 3 := Option.some.inj ((show Tryd.prog.funcNamed Rows.fnExactAxiomsRow.func = some 3 by kernel_rfl).symm.trans hf) |>.symm
  obtain rfl : fn = Tryd.f3 := (Option.some.inj (Tryd.func3.symm.trans hfn)).symm
  refine ⟨by kernel_rfl, fun j t ht => ?_⟩
  have hm := Array.mem_of_getElem? ht
  simp at hm

theorem FnExactAxioms_proved : Rows.FnExactAxiomsCardSaid :=
  Claim7.holds_tied_plain_at .later [] _ _ _ _ FnExactAxioms_full (fun _ h => by cases h) (by kernel_rfl) (fun _ h => by cases h) fnExactAxioms_row_tie rfl ⟨rfl, rfl⟩ (by kernel_rfl) rfl plain_FnExactAxioms (by kernel_rfl)
end Go.Proofs.YtbphjcgkidlabaaDoor
