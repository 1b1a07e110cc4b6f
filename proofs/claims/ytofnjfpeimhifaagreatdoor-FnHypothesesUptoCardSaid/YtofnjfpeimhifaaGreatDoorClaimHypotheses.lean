/- FnHypothesesUptoCardSaid: the law returns true and leaves its arguments as they were, wherever what it reads is of bulk at most 1048576. -/
import Derived.Test.YtofnjfpeimhifaaGreatDoorVmHyp
import Derived.Test.YtofnjfpeimhifaaGreatDoorCards
import Derived.Test.YtofnjfpeimhifaaGreatDoorTie
import Derived.Lay
import Derived.OpenShut
import Derived.Deep.DeepHandedRow
set_option linter.all false
set_option maxRecDepth 100000
namespace Go.Proofs.YtofnjfpeimhifaaGreatDoor
open Go.ChangeShapes Go.WideShapes Go.ChangeAt Go.RowKit

theorem Hk(os:Os)(args:Array Value):laidMet Tryz.prog Rows.fnHypothesesUptoRow.laid ((World.laidAll Tryz.prog os Rows.fnHypothesesUptoRow.laid).forCall (λ _ _=>0) ⟨#[],args,[]⟩).memory :=
  laidMet_laidAll args (by kernel_rfl) (by kernel_rfl)
theorem C9(os:Os)(started:os.Started)(H:Type)(enc:TypeId×Value->H)(F:Stop.Interp) :
    ReturnsInHanded {} Tryz.checked os 3 .any ((Rows.OpenSpec.upto Rows.fnHypothesesSpec).preRow enc Tryz.prog Tryz.f3 Rows.fnHypothesesUptoRow.domain false Rows.fnHypothesesUptoRow.laid) (((Rows.OpenSpec.upto Rows.fnHypothesesSpec).at F).post enc Tryz.prog Tryz.f3 false true false false):=by
  refine returnsInHanded_of_row (C:=Tryz.checked) (s:=Rows.OpenSpec.upto Rows.fnHypothesesSpec) a0h started (by kernel_rfl) Tryz.func3
    (witness_row_at (enc:=enc) (C:=Tryz.checked) false (World.laidAll Tryz.prog os Rows.fnHypothesesUptoRow.laid) #[.slice none 0 0, .slice none 0 0] (World.laidAll_os _ _ _) (by kernel_rfl) (by kernel_rfl) (by kernel_rfl)
      (OpenSpec.preRow_of_cond 8 (x:=([.nil, .nil],[],[])) (by kernel_rfl) (by kernel_rfl) (λ k hk=>by cases hk;kernel_rfl) (by kernel_rfl) (Hk os _))) ?_
  intro W base args ds gs before Vg hW _ a6q _ _ BR _;refine a2c (n:=3) (fn:=Tryz.f3) (s:=Rows.fnHypothesesSpec) (τs:=[(.slice (.int .u8)),(.slice (.int .u8))]) ?_ ?_ rfl rfl ?_ I2 Vg hW (a6q _ rfl) (OO BR)
  · exact⟨⟨1,5,by kernel_rfl⟩,⟨1,5,by kernel_rfl⟩,ag⟩
  · intro t ht;rw[show Tryz.f3.params.toList=[zu,zu] from rfl] at ht;simp only[b0X,b3v,b4W] at ht;rcases ht with rfl|rfl<;>exact⟨by kernel_rfl,b1n (by kernel_rfl)⟩
  · intro ds h;match ds,h with
    | [d0,d1],_=>rfl

theorem FX:Rows.FnHypothesesUptoSaid :=
  OpenClaim.holds_of_cond 3 Tryz.f3 rfl rfl rfl rfl rfl rfl rfl ⟨rfl,rfl,rfl,rfl,rfl⟩ rfl rfl rfl rfl rfl (by kernel_rfl) Tryz.func3 (by kernel_rfl)
    (of_decide_eq_true (by kernel_rfl)) (by unfold Func.isWrapper;first|(rw[if_pos (by decide +kernel)];kernel_rfl)|(rw[if_neg (by decide +kernel)];exact⟨rfl,rfl⟩))
    (λ os started H enc _ F=>by rw[OpenClaim.pre_eq_preRow];exact C9 os started H enc F)

theorem EX(f:FuncId)(fn:Func)(hf:Tryz.pinned.checked.prog.funcNamed Rows.fnHypothesesUptoRow.func=some f)(px:Tryz.pinned.checked.prog.funcs[f]?=some fn) :
    false=Tryz.pinned.checked.prog.looks []/\∀ (j:Nat) t,fn.params[j]?=some t->Tryz.pinned.checked.prog.wantsStandIn t=false:=by
  obtain rfl:f=3:=Option.some.inj ((show Tryz.prog.funcNamed Rows.fnHypothesesUptoRow.func=some 3 by kernel_rfl).symm.trans hf) |>.symm;obtain rfl:fn=Tryz.f3:=(Option.some.inj (Tryz.func3.symm.trans px)).symm;refine⟨by kernel_rfl,λ j t ht=>?_⟩;have hm:=Array.mem_of_getElem? ht;have hl:t∈Tryz.f3.params.toList:=by simpa using hm
  rw[show Tryz.f3.params.toList=[zu,zu] from rfl] at hl;simp only[b0X,b3v,b4W] at hl;rcases hl with rfl|rfl<;>(show Tryz.prog.wantsStandIn _=false;kernel_rfl)

theorem FnHypotheses_proved:Rows.FnHypothesesUptoCardSaid :=
  Claim7.holds_tied_plain_at .later [] _ _ _ _ FX (λ _ h=>by cases h) (by kernel_rfl) (λ _ h=>by cases h) fnHypothesesUpto_row_tie rfl ⟨rfl,rfl⟩ (by kernel_rfl) rfl EX (by kernel_rfl)
end Go.Proofs.YtofnjfpeimhifaaGreatDoor
