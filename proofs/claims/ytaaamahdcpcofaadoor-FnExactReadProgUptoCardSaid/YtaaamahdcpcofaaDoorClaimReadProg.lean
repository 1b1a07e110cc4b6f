/- FnExactReadProgUptoCardSaid: the law returns true and leaves its arguments as they were, wherever what it reads is of bulk at most 1048576. -/
import Derived.Test.YtaaamahdcpcofaaDoorVmCRprog
import Derived.Test.YtaaamahdcpcofaaDoorCards
import Derived.Test.YtaaamahdcpcofaaDoorTie
import Derived.Lay
import Derived.OpenShut
import Derived.Deep.DeepHandedRow
set_option linter.all false
set_option maxRecDepth 100000
namespace Go.Proofs.YtaaamahdcpcofaaDoor
open Go.ChangeShapes Go.WideShapes Go.ChangeAt Go.RowKit

theorem AY(os:Os)(args:Array Value):laidMet Tryd.prog Rows.fnExactReadProgUptoRow.laid ((World.laidAll Tryd.prog os Rows.fnExactReadProgUptoRow.laid).forCall (λ _ _=>0) ⟨#[],args,[]⟩).memory :=
  laidMet_laidAll args (by kernel_rfl) (by kernel_rfl)
theorem yK(os:Os)(started:os.Started)(H:Type)(enc:TypeId×Value->H)(F:Stop.Interp) :
    ReturnsInHanded {} Tryd.checked os 3 .any ((Rows.OpenSpec.upto Rows.fnExactReadProgSpec).preRow enc Tryd.prog Tryd.f3 Rows.fnExactReadProgUptoRow.domain false Rows.fnExactReadProgUptoRow.laid) (((Rows.OpenSpec.upto Rows.fnExactReadProgSpec).at F).post enc Tryd.prog Tryd.f3 false true false false):=by
  refine returnsInHanded_of_row (C:=Tryd.checked) (s:=Rows.OpenSpec.upto Rows.fnExactReadProgSpec) Ur started (by kernel_rfl) Tryd.func3
    (witness_row_at (enc:=enc) (C:=Tryd.checked) false (World.laidAll Tryd.prog os Rows.fnExactReadProgUptoRow.laid) #[.agg #[.int .i64 0, .int .i64 0], .string ⟨#[]⟩] (World.laidAll_os _ _ _) (by kernel_rfl) (by kernel_rfl) (by kernel_rfl)
      (OpenSpec.preRow_of_cond 8 (x:=([.agg [.lit (.int .i64 0), .lit (.int .i64 0)], .lit (.string [])],[],[])) (by kernel_rfl) (by kernel_rfl) (λ k hk=>by cases hk;kernel_rfl) (by kernel_rfl) (AY os _))) ?_
  intro W base args ds gs before QQ hW _ YV _ _ Dv _
  refine Wd (n:=3) (fn:=Tryd.f3) (s:=Rows.fnExactReadProgSpec) (τs:=[(.st .sig), .str]) ?_ ?_ rfl rfl ?_ B5 QQ hW (YV _ rfl) (Lz Dv)
  · exact⟨⟨0,0,by kernel_rfl⟩,⟨0,0,by kernel_rfl⟩,trivial⟩
  · intro t ht
    rw[show Tryd.f3.params.toList=[I2,Nv] from rfl] at ht
    simp only[a1N,a4j,a5o] at ht
    rcases ht with rfl|rfl<;>exact⟨by kernel_rfl,a2d (by kernel_rfl)⟩
  · intro ds h
    match ds,h with
    | [d0,d1],_=>rfl

theorem AO:Rows.FnExactReadProgUptoSaid :=
  OpenClaim.holds_of_cond 3 Tryd.f3 rfl rfl rfl rfl rfl rfl rfl ⟨rfl,rfl,rfl,rfl,rfl⟩ rfl rfl rfl rfl rfl (by kernel_rfl) Tryd.func3 (by kernel_rfl)
    (of_decide_eq_true (by kernel_rfl)) (by unfold Func.isWrapper;first|(rw[if_pos (by decide +kernel)];kernel_rfl)|(rw[if_neg (by decide +kernel)];exact⟨rfl,rfl⟩))
    (λ os started H enc _ F=>by rw[OpenClaim.pre_eq_preRow];exact yK os started H enc F)

theorem zU(f:FuncId)(fn:Func)(hf:Tryd.pinned.checked.prog.funcNamed Rows.fnExactReadProgUptoRow.func=some f)(oU:Tryd.pinned.checked.prog.funcs[f]?=some fn) :
    false=Tryd.pinned.checked.prog.looks []/\∀ (j:Nat) t,fn.params[j]?=some t->Tryd.pinned.checked.prog.wantsStandIn t=false:=by
  obtain rfl:f=3:=a3M ((show Tryd.prog.funcNamed Rows.fnExactReadProgUptoRow.func=some 3 by kernel_rfl).symm.trans hf) |>.symm
  obtain rfl:fn=Tryd.f3:=(a3M (Tryd.func3.symm.trans oU)).symm
  refine⟨by kernel_rfl,λ j t ht=>?_⟩
  have hm:=Array.mem_of_getElem? ht
  have hl:t∈Tryd.f3.params.toList:=by simpa using hm
  rw[show Tryd.f3.params.toList=[I2,Nv] from rfl] at hl
  simp only[a1N,a4j,a5o] at hl
  rcases hl with rfl|rfl<;>(show Tryd.prog.wantsStandIn _=false;kernel_rfl)

theorem FnExactReadProg_proved:Rows.FnExactReadProgUptoCardSaid :=
  Claim7.holds_tied_plain_at .later [] _ _ _ _ AO (λ _ h=>by cases h) (by kernel_rfl) (λ _ h=>by cases h) fnExactReadProgUpto_row_tie rfl ⟨rfl,rfl⟩ (by kernel_rfl) rfl zU (by kernel_rfl)
end Go.Proofs.YtaaamahdcpcofaaDoor
