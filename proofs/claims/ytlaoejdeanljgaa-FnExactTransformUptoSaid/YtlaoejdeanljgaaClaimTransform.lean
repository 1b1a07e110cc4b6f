/- FnExactTransformUptoSaid: the law returns true and leaves its arguments as they were, wherever what it reads is of bulk at most 1048576. -/
import Derived.Test.YtlaoejdeanljgaaVmRow
import Derived.Test.YtlaoejdeanljgaaVmCTransform
set_option linter.unusedVariables false
set_option maxRecDepth 100000
namespace Go.Proofs.Ytlaoejdeanljgaa
open Go.ChangeShapes Go.WideShapes Go.ChangeAt Go.RowKit

theorem d2k(os:Os)(started:os.Started)(H:Type)(enc:TypeId×Value→H)(F:Stop.Interp) :
    ReturnsInHanded {} Try.checked os 4 .any ((Rows.OpenSpec.upto Rows.fnExactTransformSpec).pre6 enc Try.prog Try.f4 Rows.fnExactTransformUptoRow.domain false) (((Rows.OpenSpec.upto Rows.fnExactTransformSpec).at F).post enc Try.prog Try.f4 false true false false):=by
  refine returnsInHanded_of_cond (C:=Try.checked) (s:=Rows.OpenSpec.upto Rows.fnExactTransformSpec) (k:=Rows.uptoSmall) rfl g9e started (by kernel_rfl) Try.func4
    (OpenSpec.witness (enc:=enc) (C:=Try.checked) (s:=Rows.OpenSpec.upto Rows.fnExactTransformSpec) (k:=Rows.uptoSmall) rfl false ⟨#[],#[.agg #[.int .i64 0, .int .i64 0], .agg #[.int .i64 0, .int .i64 0, .int .i64 0, .int .i64 0, .slice none 0 0, .slice none 0 0], .slice none 0 0, .int .i64 0],[]⟩ 8 (by kernel_rfl) (by kernel_rfl) (by kernel_rfl)
      (x:=([.agg [.lit (.int .i64 0), .lit (.int .i64 0)], .agg [.lit (.int .i64 0), .lit (.int .i64 0), .agg [.lit (.int .i64 0), .lit (.int .i64 0), .nil], .nil], .nil, .lit (.int .i64 0)],[],[])) (by kernel_rfl) rfl (by kernel_rfl)) ?_
  intro W base args ds gs before hval hW _ hk _
  refine h0e (n:=4) (fn:=Try.f4) (s:=Rows.fnExactTransformSpec) (τs:=[(.st .sig),(.st .prog),(.slice (.int .i64)),(.int .i64)]) ?_ ?_ rfl rfl ?_ d8g hval hW hk ⟨fun _ h=>h,fun g hg=>by cases hg⟩
  · exact⟨⟨0,0,by kernel_rfl⟩,⟨0,0,by kernel_rfl⟩,⟨8,2,by kernel_rfl⟩,⟨0,0,by kernel_rfl⟩,trivial⟩
  · intro t ht
    rw[show Try.f4.params.toList=[g5d,g3r,g6h,f6u] from rfl] at ht
    simp only[List.mem_cons,List.not_mem_nil,or_false] at ht
    rcases ht with rfl|rfl|rfl|rfl<;>exact⟨by kernel_rfl,of_decide_eq_true (by kernel_rfl)⟩
  · intro ds h
    match ds,h with
    | [d0,d1,d2,d3],_=>rfl

theorem FnExactTransform_proved:Rows.FnExactTransformUptoSaid :=
  OpenClaim.holds_of_cond 4 Try.f4 rfl rfl rfl rfl rfl rfl rfl ⟨rfl,rfl,rfl,rfl,rfl⟩ rfl rfl rfl rfl rfl (by kernel_rfl) Try.func4 (by kernel_rfl)
    (of_decide_eq_true (by kernel_rfl)) (by unfold Func.isWrapper;first|(rw[if_pos (by decide +kernel)];kernel_rfl)|(rw[if_neg (by decide +kernel)];exact⟨rfl,rfl⟩))
    (fun os started H enc _ F=>d2k os started H enc F)
end Go.Proofs.Ytlaoejdeanljgaa
