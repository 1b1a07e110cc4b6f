/- FnExactAddInstanceUptoCardSaid: the law returns true and leaves its arguments as they were, wherever what it reads is of bulk at most 1048576. -/
import Derived.Test.YtmjfpcajohhbeaaGreatDoorVmCAddinst
import Derived.Test.YtmjfpcajohhbeaaGreatDoorCards
import Derived.Test.YtmjfpcajohhbeaaGreatDoorTie
import Derived.Lay
import Derived.OpenShut
import Derived.Deep.DeepHandedRow
set_option linter.all false
set_option maxRecDepth 100000
namespace Go.Proofs.YtmjfpcajohhbeaaGreatDoor
open Go.ChangeShapes Go.WideShapes Go.ChangeAt Go.RowKit

theorem Dz(os:Os)(args:Array Value):laidMet Tryz.prog Rows.fnExactAddInstanceUptoRow.laid ((World.laidAll Tryz.prog os Rows.fnExactAddInstanceUptoRow.laid).forCall (λ _ _=>0) ⟨#[],args,[]⟩).memory :=
  laidMet_laidAll args (by kernel_rfl) (by kernel_rfl)
theorem AZ(os:Os)(started:os.Started)(H:Type)(enc:TypeId×Value->H)(F:Stop.Interp) :
    ReturnsInHanded {} Tryz.checked os 5 .any ((Rows.OpenSpec.upto Rows.fnExactAddInstanceSpec).preRow enc Tryz.prog Tryz.f5 Rows.fnExactAddInstanceUptoRow.domain false Rows.fnExactAddInstanceUptoRow.laid) (((Rows.OpenSpec.upto Rows.fnExactAddInstanceSpec).at F).post enc Tryz.prog Tryz.f5 false true false false):=by
  refine returnsInHanded_of_row (C:=Tryz.checked) (s:=Rows.OpenSpec.upto Rows.fnExactAddInstanceSpec) a6h started (by kernel_rfl) Tryz.func5
    (witness_row_at (enc:=enc) (C:=Tryz.checked) false (World.laidAll Tryz.prog os Rows.fnExactAddInstanceUptoRow.laid) #[.agg #[.int .i64 0, .int .i64 0, .slice none 0 0], .int .i64 0, .slice none 0 0, .slice none 0 0] (World.laidAll_os _ _ _) (by kernel_rfl) (by kernel_rfl) (by kernel_rfl)
      (OpenSpec.preRow_of_cond 8 (x:=([.agg [.agg [.lit (.int .i64 0), .lit (.int .i64 0)], .nil], .lit (.int .i64 0), .nil, .nil],[],[])) (by kernel_rfl) (by kernel_rfl) (λ k hk=>by cases hk;kernel_rfl) (by kernel_rfl) (Dz os _))) ?_
  intro W base args ds gs before a2q hW _ b0K _ _ HM _;refine a7P (n:=5) (fn:=Tryz.f5) (s:=Rows.fnExactAddInstanceSpec) (τs:=[(.st .proof),(.int .i64),(.slice (.st .expr)),(.slice (.st .expr))]) ?_ ?_ rfl rfl ?_ EZ a2q hW (b0K _ rfl) (WR HM)
  · exact⟨⟨0,0,by kernel_rfl⟩,⟨0,0,by kernel_rfl⟩,⟨40,29,by kernel_rfl⟩,⟨40,29,by kernel_rfl⟩,U⟩
  · intro t ht;rw[show Tryz.f5.params.toList=[LN,OP,qJ,qJ] from rfl] at ht;simp only[b3Z,b6k,b7t] at ht;rcases ht with rfl|rfl|rfl|rfl<;>exact⟨by kernel_rfl,b4u (by kernel_rfl)⟩
  · intro ds h;match ds,h with
    | [d0,d1,d2,d3],_=>rfl

theorem C8:Rows.FnExactAddInstanceUptoSaid :=
  OpenClaim.holds_of_cond 5 Tryz.f5 rfl rfl rfl rfl rfl rfl rfl ⟨rfl,rfl,rfl,rfl,rfl⟩ rfl rfl rfl rfl rfl (by kernel_rfl) Tryz.func5 (by kernel_rfl)
    (of_decide_eq_true (by kernel_rfl)) (by unfold Func.isWrapper;first|(rw[if_pos (by decide +kernel)];kernel_rfl)|(rw[if_neg (by decide +kernel)];exact⟨rfl,rfl⟩))
    (λ os started H enc _ F=>by rw[OpenClaim.pre_eq_preRow];exact AZ os started H enc F)

theorem BS(f:FuncId)(fn:Func)(hf:Tryz.pinned.checked.prog.funcNamed Rows.fnExactAddInstanceUptoRow.func=some f)(od:Tryz.pinned.checked.prog.funcs[f]?=some fn) :
    false=Tryz.pinned.checked.prog.looks []/\∀ (j:Nat) t,fn.params[j]?=some t->Tryz.pinned.checked.prog.wantsStandIn t=false:=by
  obtain rfl:f=5:=Option.some.inj ((show Tryz.prog.funcNamed Rows.fnExactAddInstanceUptoRow.func=some 5 by kernel_rfl).symm.trans hf) |>.symm;obtain rfl:fn=Tryz.f5:=(Option.some.inj (Tryz.func5.symm.trans od)).symm;refine⟨by kernel_rfl,λ j t ht=>?_⟩;have hm:=Array.mem_of_getElem? ht;have hl:t∈Tryz.f5.params.toList:=by simpa using hm
  rw[show Tryz.f5.params.toList=[LN,OP,qJ,qJ] from rfl] at hl;simp only[b3Z,b6k,b7t] at hl;rcases hl with rfl|rfl|rfl|rfl<;>(show Tryz.prog.wantsStandIn _=false;kernel_rfl)

theorem FnExactAddInstance_proved:Rows.FnExactAddInstanceUptoCardSaid :=
  Claim7.holds_tied_plain_at .later [] _ _ _ _ C8 (λ _ h=>by cases h) (by kernel_rfl) (λ _ h=>by cases h) fnExactAddInstanceUpto_row_tie rfl ⟨rfl,rfl⟩ (by kernel_rfl) rfl BS (by kernel_rfl)
end Go.Proofs.YtmjfpcajohhbeaaGreatDoor
