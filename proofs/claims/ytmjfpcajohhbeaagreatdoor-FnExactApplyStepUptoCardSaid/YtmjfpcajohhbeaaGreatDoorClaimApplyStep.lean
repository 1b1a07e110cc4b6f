/- FnExactApplyStepUptoCardSaid: the law returns true and leaves its arguments as they were, wherever what it reads is of bulk at most 1048576. -/
import Derived.Test.YtmjfpcajohhbeaaGreatDoorVmCApply
import Derived.Test.YtmjfpcajohhbeaaGreatDoorCards
import Derived.Test.YtmjfpcajohhbeaaGreatDoorTie
import Derived.Lay
import Derived.OpenShut
import Derived.Deep.DeepHandedRow
set_option linter.all false
set_option maxRecDepth 100000
namespace Go.Proofs.YtmjfpcajohhbeaaGreatDoor
open Go.ChangeShapes Go.WideShapes Go.ChangeAt Go.RowKit

theorem Fi(os:Os)(args:Array Value):laidMet Tryz.prog Rows.fnExactApplyStepUptoRow.laid ((World.laidAll Tryz.prog os Rows.fnExactApplyStepUptoRow.laid).forCall (λ _ _=>0) ⟨#[],args,[]⟩).memory :=
  laidMet_laidAll args (by kernel_rfl) (by kernel_rfl)
theorem CM(os:Os)(started:os.Started)(H:Type)(enc:TypeId×Value->H)(F:Stop.Interp) :
    ReturnsInHanded {} Tryz.checked os 3 .any ((Rows.OpenSpec.upto Rows.fnExactApplyStepSpec).preRow enc Tryz.prog Tryz.f3 Rows.fnExactApplyStepUptoRow.domain false Rows.fnExactApplyStepUptoRow.laid) (((Rows.OpenSpec.upto Rows.fnExactApplyStepSpec).at F).post enc Tryz.prog Tryz.f3 false true false false):=by
  refine returnsInHanded_of_row (C:=Tryz.checked) (s:=Rows.OpenSpec.upto Rows.fnExactApplyStepSpec) a3K started (by kernel_rfl) Tryz.func3
    (witness_row_at (enc:=enc) (C:=Tryz.checked) false (World.laidAll Tryz.prog os Rows.fnExactApplyStepUptoRow.laid) #[.agg #[.int .i64 0, .int .i64 0, .slice none 0 0], .int .i64 0, .agg #[.int .i64 0, .int .i64 0, .slice none 0 0], .agg #[.int .i64 0, .bool false, .slice none 0 0, .slice none 0 0, .slice none 0 0]] (World.laidAll_os _ _ _) (by kernel_rfl) (by kernel_rfl) (by kernel_rfl)
      (OpenSpec.preRow_of_cond 8 (x:=([.agg [.agg [.lit (.int .i64 0), .lit (.int .i64 0)], .nil], .lit (.int .i64 0), .agg [.lit (.int .i64 0), .lit (.int .i64 0), .nil], .agg [.lit (.int .i64 0), .lit (.bool false), .nil, .nil, .nil]],[],[])) (by kernel_rfl) (by kernel_rfl) (λ k hk=>by cases hk;kernel_rfl) (by kernel_rfl) (Fi os _))) ?_
  intro W base args ds gs before a0i hW _ a8a _ _ Kj _;refine a5v (n:=3) (fn:=Tryz.f3) (s:=Rows.fnExactApplyStepSpec) (τs:=[(.st .proof),(.int .i64),(.st .expr),(.st .proofStep)]) ?_ ?_ rfl rfl ?_ GZ a0i hW (a8a _ rfl) (UT Kj)
  · exact⟨⟨0,0,by kernel_rfl⟩,⟨0,0,by kernel_rfl⟩,⟨0,0,by kernel_rfl⟩,⟨0,0,by kernel_rfl⟩,af⟩
  · intro t ht;rw[show Tryz.f3.params.toList=[KK,Nw,Nx,Bh] from rfl] at ht;simp only[b1e,b3r,b4y] at ht;rcases ht with rfl|rfl|rfl|rfl<;>exact⟨by kernel_rfl,b1z (by kernel_rfl)⟩
  · intro ds h;match ds,h with
    | [d0,d1,d2,d3],_=>rfl

theorem EG:Rows.FnExactApplyStepUptoSaid :=
  OpenClaim.holds_of_cond 3 Tryz.f3 rfl rfl rfl rfl rfl rfl rfl ⟨rfl,rfl,rfl,rfl,rfl⟩ rfl rfl rfl rfl rfl (by kernel_rfl) Tryz.func3 (by kernel_rfl)
    (of_decide_eq_true (by kernel_rfl)) (by unfold Func.isWrapper;first|(rw[if_pos (by decide +kernel)];kernel_rfl)|(rw[if_neg (by decide +kernel)];exact⟨rfl,rfl⟩))
    (λ os started H enc _ F=>by rw[OpenClaim.pre_eq_preRow];exact CM os started H enc F)

theorem Ex(f:FuncId)(fn:Func)(hf:Tryz.pinned.checked.prog.funcNamed Rows.fnExactApplyStepUptoRow.func=some f)(rV:Tryz.pinned.checked.prog.funcs[f]?=some fn) :
    false=Tryz.pinned.checked.prog.looks []/\∀ (j:Nat) t,fn.params[j]?=some t->Tryz.pinned.checked.prog.wantsStandIn t=false:=by
  obtain rfl:f=3:=Option.some.inj ((show Tryz.prog.funcNamed Rows.fnExactApplyStepUptoRow.func=some 3 by kernel_rfl).symm.trans hf) |>.symm;obtain rfl:fn=Tryz.f3:=(Option.some.inj (Tryz.func3.symm.trans rV)).symm;refine⟨by kernel_rfl,λ j t ht=>?_⟩;have hm:=Array.mem_of_getElem? ht;have hl:t∈Tryz.f3.params.toList:=by simpa using hm
  rw[show Tryz.f3.params.toList=[KK,Nw,Nx,Bh] from rfl] at hl;simp only[b1e,b3r,b4y] at hl;rcases hl with rfl|rfl|rfl|rfl<;>(show Tryz.prog.wantsStandIn _=false;kernel_rfl)

theorem FnExactApplyStep_proved:Rows.FnExactApplyStepUptoCardSaid :=
  Claim7.holds_tied_plain_at .later [] _ _ _ _ EG (λ _ h=>by cases h) (by kernel_rfl) (λ _ h=>by cases h) fnExactApplyStepUpto_row_tie rfl ⟨rfl,rfl⟩ (by kernel_rfl) rfl Ex (by kernel_rfl)
end Go.Proofs.YtmjfpcajohhbeaaGreatDoor
