/- FnExactJoinProofsUptoCardSaid: the law returns true and leaves its arguments as they were, wherever what it reads is of bulk at most 1048576. -/
import Derived.Test.YtmjfpcajohhbeaaGreatDoorVmCJoin
import Derived.Test.YtmjfpcajohhbeaaGreatDoorCards
import Derived.Test.YtmjfpcajohhbeaaGreatDoorTie
import Derived.Lay
import Derived.OpenShut
import Derived.Deep.DeepHandedRow
set_option linter.all false
set_option maxRecDepth 100000
namespace Go.Proofs.YtmjfpcajohhbeaaGreatDoor
open Go.ChangeShapes Go.WideShapes Go.ChangeAt Go.RowKit

theorem DN(os:Os)(args:Array Value):laidMet Tryz.prog Rows.fnExactJoinProofsUptoRow.laid ((World.laidAll Tryz.prog os Rows.fnExactJoinProofsUptoRow.laid).forCall (λ _ _=>0) ⟨#[],args,[]⟩).memory :=
  laidMet_laidAll args (by kernel_rfl) (by kernel_rfl)
theorem zY(os:Os)(started:os.Started)(H:Type)(enc:TypeId×Value->H)(F:Stop.Interp) :
    ReturnsInHanded {} Tryz.checked os 6 .any ((Rows.OpenSpec.upto Rows.fnExactJoinProofsSpec).preRow enc Tryz.prog Tryz.f6 Rows.fnExactJoinProofsUptoRow.domain false Rows.fnExactJoinProofsUptoRow.laid) (((Rows.OpenSpec.upto Rows.fnExactJoinProofsSpec).at F).post enc Tryz.prog Tryz.f6 false true false false):=by
  refine returnsInHanded_of_row (C:=Tryz.checked) (s:=Rows.OpenSpec.upto Rows.fnExactJoinProofsSpec) a5J started (by kernel_rfl) Tryz.func6
    (witness_row_at (enc:=enc) (C:=Tryz.checked) false (World.laidAll Tryz.prog os Rows.fnExactJoinProofsUptoRow.laid) #[.agg #[.int .i64 0, .int .i64 0, .slice none 0 0], .agg #[.int .i64 0, .int .i64 0, .slice none 0 0]] (World.laidAll_os _ _ _) (by kernel_rfl) (by kernel_rfl) (by kernel_rfl)
      (OpenSpec.preRow_of_cond 8 (x:=([.agg [.agg [.lit (.int .i64 0), .lit (.int .i64 0)], .nil], .agg [.agg [.lit (.int .i64 0), .lit (.int .i64 0)], .nil]],[],[])) (by kernel_rfl) (by kernel_rfl) (λ k hk=>by cases hk;kernel_rfl) (by kernel_rfl) (DN os _))) ?_
  intro W base args ds gs before a1B hW _ b0x _ _ Hm _;refine a7q (n:=6) (fn:=Tryz.f6) (s:=Rows.fnExactJoinProofsSpec) (τs:=[(.st .proof),(.st .proof)]) ?_ ?_ rfl rfl ?_ Fc a1B hW (b0x _ rfl) (VP Hm)
  · exact⟨⟨0,0,by kernel_rfl⟩,⟨0,0,by kernel_rfl⟩,ae⟩
  · intro t ht;rw[show Tryz.f6.params.toList=[sF,sF] from rfl] at ht;simp only[b3S,b6f,b7m] at ht;rcases ht with rfl|rfl<;>exact⟨by kernel_rfl,b4l (by kernel_rfl)⟩
  · intro ds h;match ds,h with
    | [d0,d1],_=>rfl

theorem Co:Rows.FnExactJoinProofsUptoSaid :=
  OpenClaim.holds_of_cond 6 Tryz.f6 rfl rfl rfl rfl rfl rfl rfl ⟨rfl,rfl,rfl,rfl,rfl⟩ rfl rfl rfl rfl rfl (by kernel_rfl) Tryz.func6 (by kernel_rfl)
    (of_decide_eq_true (by kernel_rfl)) (by unfold Func.isWrapper;first|(rw[if_pos (by decide +kernel)];kernel_rfl)|(rw[if_neg (by decide +kernel)];exact⟨rfl,rfl⟩))
    (λ os started H enc _ F=>by rw[OpenClaim.pre_eq_preRow];exact zY os started H enc F)

theorem Cf(f:FuncId)(fn:Func)(hf:Tryz.pinned.checked.prog.funcNamed Rows.fnExactJoinProofsUptoRow.func=some f)(nF:Tryz.pinned.checked.prog.funcs[f]?=some fn) :
    false=Tryz.pinned.checked.prog.looks []/\∀ (j:Nat) t,fn.params[j]?=some t->Tryz.pinned.checked.prog.wantsStandIn t=false:=by
  obtain rfl:f=6:=Option.some.inj ((show Tryz.prog.funcNamed Rows.fnExactJoinProofsUptoRow.func=some 6 by kernel_rfl).symm.trans hf) |>.symm;obtain rfl:fn=Tryz.f6:=(Option.some.inj (Tryz.func6.symm.trans nF)).symm;refine⟨by kernel_rfl,λ j t ht=>?_⟩;have hm:=Array.mem_of_getElem? ht;have hl:t∈Tryz.f6.params.toList:=by simpa using hm
  rw[show Tryz.f6.params.toList=[sF,sF] from rfl] at hl;simp only[b3S,b6f,b7m] at hl;rcases hl with rfl|rfl<;>(show Tryz.prog.wantsStandIn _=false;kernel_rfl)

theorem FnExactJoinProofs_proved:Rows.FnExactJoinProofsUptoCardSaid :=
  Claim7.holds_tied_plain_at .later [] _ _ _ _ Co (λ _ h=>by cases h) (by kernel_rfl) (λ _ h=>by cases h) fnExactJoinProofsUpto_row_tie rfl ⟨rfl,rfl⟩ (by kernel_rfl) rfl Cf (by kernel_rfl)
end Go.Proofs.YtmjfpcajohhbeaaGreatDoor
