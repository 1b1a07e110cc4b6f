/- FnWeakestUptoSaid: the law returns true and leaves its arguments as they were, wherever what it reads is of bulk at most 1048576. -/
import Derived.Test.YthebhlkdppmefaaGreatVmRow
import Derived.Test.YthebhlkdppmefaaGreatVmCFWeak
set_option linter.unusedVariables false
set_option maxRecDepth 100000
namespace Go.Proofs.YthebhlkdppmefaaGreat
open Go.ChangeShapes Go.WideShapes Go.ChangeAt Go.RowKit

theorem g1j(os:Os)(started:os.Started)(H:Type)(enc:TypeId×Value→H)(F:Stop.Interp) :
    ReturnsInHanded {} Tryz.checked os 3 .any ((Rows.OpenSpec.upto Rows.fnWeakestSpec).pre6 enc Tryz.prog Tryz.f3 Rows.fnWeakestUptoRow.domain false) (((Rows.OpenSpec.upto Rows.fnWeakestSpec).at F).post enc Tryz.prog Tryz.f3 false true false false):=by
  refine returnsInHanded_of_cond (C:=Tryz.checked) (s:=Rows.OpenSpec.upto Rows.fnWeakestSpec) (k:=Rows.uptoSmall) rfl i2p started (by kernel_rfl) Tryz.func3
    (OpenSpec.witness (enc:=enc) (C:=Tryz.checked) (s:=Rows.OpenSpec.upto Rows.fnWeakestSpec) (k:=Rows.uptoSmall) rfl false ⟨#[],#[.slice none 0 0, .slice none 0 0],[]⟩ 8 (by kernel_rfl) (by kernel_rfl) (by kernel_rfl)
      (x:=([.nil, .nil],[],[])) (by kernel_rfl) rfl (by kernel_rfl)) ?_
  intro W base args ds gs before hval hW _ hk _
  refine i4i (n:=3) (fn:=Tryz.f3) (s:=Rows.fnWeakestSpec) (τs:=[(.slice (.int .u8)),(.slice (.int .u8))]) ?_ ?_ rfl rfl ?_ h2c hval hW hk ⟨fun _ h=>h,fun g hg=>by cases hg⟩
  · exact⟨⟨1,5,by kernel_rfl⟩,⟨1,5,by kernel_rfl⟩,trivial⟩
  · intro t ht
    rw[show Tryz.f3.params.toList=[h0h,h0h] from rfl] at ht
    simp only[List.mem_cons,List.not_mem_nil,or_false] at ht
    rcases ht with rfl|rfl<;>exact⟨by kernel_rfl,of_decide_eq_true (by kernel_rfl)⟩
  · intro ds h
    match ds,h with
    | [d0,d1],_=>rfl

theorem FnWeakest_proved:Rows.FnWeakestUptoSaid :=
  OpenClaim.holds_of_cond 3 Tryz.f3 rfl rfl rfl rfl rfl rfl rfl ⟨rfl,rfl,rfl,rfl,rfl⟩ rfl rfl rfl rfl rfl (by kernel_rfl) Tryz.func3 (by kernel_rfl)
    (of_decide_eq_true (by kernel_rfl)) (by unfold Func.isWrapper;first|(rw[if_pos (by decide +kernel)];kernel_rfl)|(rw[if_neg (by decide +kernel)];exact⟨rfl,rfl⟩))
    (fun os started H enc _ F=>g1j os started H enc F)
end Go.Proofs.YthebhlkdppmefaaGreat
