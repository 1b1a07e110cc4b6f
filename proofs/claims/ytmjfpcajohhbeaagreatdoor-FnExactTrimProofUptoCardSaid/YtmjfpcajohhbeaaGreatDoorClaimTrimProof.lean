/- FnExactTrimProofUptoCardSaid: the law returns true and leaves its arguments as they were, wherever what it reads is of bulk at most 1048576. -/
import Derived.Test.YtmjfpcajohhbeaaGreatDoorVmCTrim
import Derived.Test.YtmjfpcajohhbeaaGreatDoorCards
import Derived.Test.YtmjfpcajohhbeaaGreatDoorTie
import Derived.Lay
import Derived.OpenShut
import Derived.Deep.DeepHandedRow
set_option linter.all false
set_option maxRecDepth 100000
namespace Go.Proofs.YtmjfpcajohhbeaaGreatDoor
open Go.ChangeShapes Go.WideShapes Go.ChangeAt Go.RowKit

theorem Fv(os:Os)(args:Array Value):laidMet Tryz.prog Rows.fnExactTrimProofUptoRow.laid ((World.laidAll Tryz.prog os Rows.fnExactTrimProofUptoRow.laid).forCall (λ _ _=>0) ⟨#[],args,[]⟩).memory :=
  laidMet_laidAll args (by kernel_rfl) (by kernel_rfl)
theorem Cq(os:Os)(started:os.Started)(H:Type)(enc:TypeId×Value->H)(F:Stop.Interp) :
    ReturnsInHanded {} Tryz.checked os 7 .any ((Rows.OpenSpec.upto Rows.fnExactTrimProofSpec).preRow enc Tryz.prog Tryz.f7 Rows.fnExactTrimProofUptoRow.domain false Rows.fnExactTrimProofUptoRow.laid) (((Rows.OpenSpec.upto Rows.fnExactTrimProofSpec).at F).post enc Tryz.prog Tryz.f7 false true false false):=by
  refine returnsInHanded_of_row (C:=Tryz.checked) (s:=Rows.OpenSpec.upto Rows.fnExactTrimProofSpec) a6u started (by kernel_rfl) Tryz.func7
    (witness_row_at (enc:=enc) (C:=Tryz.checked) false (World.laidAll Tryz.prog os Rows.fnExactTrimProofUptoRow.laid) #[.agg #[.int .i64 0, .int .i64 0, .slice none 0 0]] (World.laidAll_os _ _ _) (by kernel_rfl) (by kernel_rfl) (by kernel_rfl)
      (OpenSpec.preRow_of_cond 8 (x:=([.agg [.agg [.lit (.int .i64 0), .lit (.int .i64 0)], .nil]],[],[])) (by kernel_rfl) (by kernel_rfl) (λ k hk=>by cases hk;kernel_rfl) (by kernel_rfl) (Fv os _))) ?_
  intro W base args ds gs before a1Z hW _ b1G _ _ Hv _;refine a8d (n:=7) (fn:=Tryz.f7) (s:=Rows.fnExactTrimProofSpec) (τs:=[(.st .proof)]) ?_ ?_ rfl rfl ?_ HC a1Z hW (b1G _ rfl) (Wq Hv)
  · exact⟨⟨0,0,by kernel_rfl⟩,ae⟩
  · intro t ht;rw[show Tryz.f7.params.toList=[LD] from rfl] at ht;simp only[b5h,b7z,b8G] at ht;rcases ht with rfl;exact⟨by kernel_rfl,b5E (by kernel_rfl)⟩
  · intro ds h;match ds,h with
    | [d0],_=>rfl

theorem EH:Rows.FnExactTrimProofUptoSaid :=
  OpenClaim.holds_of_cond 7 Tryz.f7 rfl rfl rfl rfl rfl rfl rfl ⟨rfl,rfl,rfl,rfl,rfl⟩ rfl rfl rfl rfl rfl (by kernel_rfl) Tryz.func7 (by kernel_rfl)
    (of_decide_eq_true (by kernel_rfl)) (by unfold Func.isWrapper;first|(rw[if_pos (by decide +kernel)];kernel_rfl)|(rw[if_neg (by decide +kernel)];exact⟨rfl,rfl⟩))
    (λ os started H enc _ F=>by rw[OpenClaim.pre_eq_preRow];exact Cq os started H enc F)

theorem Ez(f:FuncId)(fn:Func)(hf:Tryz.pinned.checked.prog.funcNamed Rows.fnExactTrimProofUptoRow.func=some f)(l7:Tryz.pinned.checked.prog.funcs[f]?=some fn) :
    false=Tryz.pinned.checked.prog.looks []/\∀ (j:Nat) t,fn.params[j]?=some t->Tryz.pinned.checked.prog.wantsStandIn t=false:=by
  obtain rfl:f=7:=Option.some.inj ((show Tryz.prog.funcNamed Rows.fnExactTrimProofUptoRow.func=some 7 by kernel_rfl).symm.trans hf) |>.symm;obtain rfl:fn=Tryz.f7:=(Option.some.inj (Tryz.func7.symm.trans l7)).symm;refine⟨by kernel_rfl,λ j t ht=>?_⟩;have hm:=Array.mem_of_getElem? ht;have hl:t∈Tryz.f7.params.toList:=by simpa using hm
  rw[show Tryz.f7.params.toList=[LD] from rfl] at hl;simp only[b5h,b7z,b8G] at hl;rcases hl with rfl;(show Tryz.prog.wantsStandIn _=false;kernel_rfl)

theorem FnExactTrimProof_proved:Rows.FnExactTrimProofUptoCardSaid :=
  Claim7.holds_tied_plain_at .later [] _ _ _ _ EH (λ _ h=>by cases h) (by kernel_rfl) (λ _ h=>by cases h) fnExactTrimProofUpto_row_tie rfl ⟨rfl,rfl⟩ (by kernel_rfl) rfl Ez (by kernel_rfl)
end Go.Proofs.YtmjfpcajohhbeaaGreatDoor
