/- FnExactIsDeterministicUptoCardSaid: the law returns true and leaves its arguments as they were, wherever what it reads is of bulk at most 1048576. -/
import Derived.Test.YtncejbehidimmaaGreatDoorVmCIsDet
import Derived.Test.YtncejbehidimmaaGreatDoorCards
import Derived.Test.YtncejbehidimmaaGreatDoorTie
import Derived.Lay
import Derived.OpenShut
import Derived.Deep.DeepHandedRow
set_option linter.all false
set_option maxRecDepth 100000
namespace Go.Proofs.YtncejbehidimmaaGreatDoor
open Go.ChangeShapes Go.WideShapes Go.ChangeAt Go.RowKit

theorem qP(os:Os)(args:Array Value):laidMet Tryz.prog Rows.fnExactIsDeterministicUptoRow.laid ((World.laidAll Tryz.prog os Rows.fnExactIsDeterministicUptoRow.laid).forCall (λ _ _=>0) ⟨#[],args,[]⟩).memory :=
  laidMet_laidAll args (by kernel_rfl) (by kernel_rfl)
theorem oP(os:Os)(started:os.Started)(H:Type)(enc:TypeId×Value->H)(F:Stop.Interp) :
    ReturnsInHanded {} Tryz.checked os 4 .any ((Rows.OpenSpec.upto Rows.fnExactIsDeterministicSpec).preRow enc Tryz.prog Tryz.f4 Rows.fnExactIsDeterministicUptoRow.domain false Rows.fnExactIsDeterministicUptoRow.laid) (((Rows.OpenSpec.upto Rows.fnExactIsDeterministicSpec).at F).post enc Tryz.prog Tryz.f4 false true false false):=by
  refine returnsInHanded_of_row (C:=Tryz.checked) (s:=Rows.OpenSpec.upto Rows.fnExactIsDeterministicSpec) Xq started (by kernel_rfl) Tryz.func4
    (witness_row_at (enc:=enc) (C:=Tryz.checked) false (World.laidAll Tryz.prog os Rows.fnExactIsDeterministicUptoRow.laid) #[.agg #[.int .i64 0, .int .i64 0], .agg #[.int .i64 0, .int .i64 0, .slice none 0 0]] (World.laidAll_os _ _ _) (by kernel_rfl) (by kernel_rfl) (by kernel_rfl)
      (OpenSpec.preRow_of_cond 8 (x:=([.agg [.lit (.int .i64 0), .lit (.int .i64 0)], .agg [.lit (.int .i64 0), .lit (.int .i64 0), .nil]],[],[])) (by kernel_rfl) (by kernel_rfl) (λ k hk=>by cases hk;kernel_rfl) (by kernel_rfl) (qP os _))) ?_
  intro W base args ds gs before SM hW _ a4g _ _ W6 _;refine ZF (n:=4) (fn:=Tryz.f4) (s:=Rows.fnExactIsDeterministicSpec) (τs:=[(.st .sig),(.st .expr)]) ?_ ?_ rfl rfl ?_ rV SM hW (a4g _ rfl) (MM W6)
  · exact⟨⟨0,0,by kernel_rfl⟩,⟨0,0,by kernel_rfl⟩,ae⟩
  · intro t ht;rw[show Tryz.f4.params.toList=[JG,FR] from rfl] at ht;simp only[a8G,b1c,b2r] at ht;rcases ht with rfl|rfl<;>exact⟨by kernel_rfl,a8U (by kernel_rfl)⟩
  · intro ds h;match ds,h with
    | [d0,d1],_=>rfl

theorem pU:Rows.FnExactIsDeterministicUptoSaid :=
  OpenClaim.holds_of_cond 4 Tryz.f4 rfl rfl rfl rfl rfl rfl rfl ⟨rfl,rfl,rfl,rfl,rfl⟩ rfl rfl rfl rfl rfl (by kernel_rfl) Tryz.func4 (by kernel_rfl)
    (of_decide_eq_true (by kernel_rfl)) (by unfold Func.isWrapper;first|(rw[if_pos (by decide +kernel)];kernel_rfl)|(rw[if_neg (by decide +kernel)];exact⟨rfl,rfl⟩))
    (λ os started H enc _ F=>by rw[OpenClaim.pre_eq_preRow];exact oP os started H enc F)

theorem pM(f:FuncId)(fn:Func)(hf:Tryz.pinned.checked.prog.funcNamed Rows.fnExactIsDeterministicUptoRow.func=some f)(qB:Tryz.pinned.checked.prog.funcs[f]?=some fn) :
    false=Tryz.pinned.checked.prog.looks []/\∀ (j:Nat) t,fn.params[j]?=some t->Tryz.pinned.checked.prog.wantsStandIn t=false:=by
  obtain rfl:f=4:=Option.some.inj ((show Tryz.prog.funcNamed Rows.fnExactIsDeterministicUptoRow.func=some 4 by kernel_rfl).symm.trans hf) |>.symm;obtain rfl:fn=Tryz.f4:=(Option.some.inj (Tryz.func4.symm.trans qB)).symm;refine⟨by kernel_rfl,λ j t ht=>?_⟩;have hm:=Array.mem_of_getElem? ht;have hl:t∈Tryz.f4.params.toList:=by simpa using hm
  rw[show Tryz.f4.params.toList=[JG,FR] from rfl] at hl;simp only[a8G,b1c,b2r] at hl;rcases hl with rfl|rfl<;>(show Tryz.prog.wantsStandIn _=false;kernel_rfl)

theorem FnExactIsDeterministic_proved:Rows.FnExactIsDeterministicUptoCardSaid :=
  Claim7.holds_tied_plain_at .later [] _ _ _ _ pU (λ _ h=>by cases h) (by kernel_rfl) (λ _ h=>by cases h) fnExactIsDeterministicUpto_row_tie rfl ⟨rfl,rfl⟩ (by kernel_rfl) rfl pM (by kernel_rfl)
end Go.Proofs.YtncejbehidimmaaGreatDoor
