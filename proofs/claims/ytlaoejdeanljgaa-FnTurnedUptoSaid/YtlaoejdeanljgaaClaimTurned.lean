/- FnTurnedUptoSaid: the law returns true and leaves its arguments as they were, wherever what it reads is of bulk at most 1048576. -/
import Derived.Test.YtlaoejdeanljgaaVmRow
import Derived.Test.YtlaoejdeanljgaaVmCTurned
set_option linter.unusedVariables false
set_option maxRecDepth 100000
namespace Go.Proofs.Ytlaoejdeanljgaa
open Go.ChangeShapes Go.WideShapes Go.ChangeAt Go.RowKit

theorem f1x(os:Os)(started:os.Started)(H:Type)(enc:TypeId×Value→H)(F:Stop.Interp) :
    ReturnsInHanded {} Try.checked os 3 .any ((Rows.OpenSpec.upto Rows.fnTurnedSpec).pre6 enc Try.prog Try.f3 Rows.fnTurnedUptoRow.domain false) (((Rows.OpenSpec.upto Rows.fnTurnedSpec).at F).post enc Try.prog Try.f3 false true false false):=by
  refine returnsInHanded_of_cond (C:=Try.checked) (s:=Rows.OpenSpec.upto Rows.fnTurnedSpec) (k:=Rows.uptoSmall) rfl g7e started (by kernel_rfl) Try.func3
    (OpenSpec.witness (enc:=enc) (C:=Try.checked) (s:=Rows.OpenSpec.upto Rows.fnTurnedSpec) (k:=Rows.uptoSmall) rfl false ⟨#[],#[.slice none 0 0, .slice none 0 0],[]⟩ 8 (by kernel_rfl) (by kernel_rfl) (by kernel_rfl)
      (x:=([.nil, .nil],[],[])) (by kernel_rfl) rfl (by kernel_rfl)) ?_
  intro W base args ds gs before hval hW _ hk _
  refine g8g (n:=3) (fn:=Try.f3) (s:=Rows.fnTurnedSpec) (τs:=[(.slice (.int .u8)),(.slice (.int .u8))]) ?_ ?_ rfl rfl ?_ g0f hval hW hk ⟨fun _ h=>h,fun g hg=>by cases hg⟩
  · exact⟨⟨1,5,by kernel_rfl⟩,⟨1,5,by kernel_rfl⟩,trivial⟩
  · intro t ht
    rw[show Try.f3.params.toList=[f6j,f6j] from rfl] at ht
    simp only[List.mem_cons,List.not_mem_nil,or_false] at ht
    rcases ht with rfl|rfl<;>exact⟨by kernel_rfl,of_decide_eq_true (by kernel_rfl)⟩
  · intro ds h
    match ds,h with
    | [d0,d1],_=>rfl

theorem FnTurned_proved:Rows.FnTurnedUptoSaid :=
  OpenClaim.holds_of_cond 3 Try.f3 rfl rfl rfl rfl rfl rfl rfl ⟨rfl,rfl,rfl,rfl,rfl⟩ rfl rfl rfl rfl rfl (by kernel_rfl) Try.func3 (by kernel_rfl)
    (of_decide_eq_true (by kernel_rfl)) (by unfold Func.isWrapper;first|(rw[if_pos (by decide +kernel)];kernel_rfl)|(rw[if_neg (by decide +kernel)];exact⟨rfl,rfl⟩))
    (fun os started H enc _ F=>f1x os started H enc F)
end Go.Proofs.Ytlaoejdeanljgaa
