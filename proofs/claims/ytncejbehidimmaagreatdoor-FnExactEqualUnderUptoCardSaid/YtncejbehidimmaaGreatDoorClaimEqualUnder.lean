/- FnExactEqualUnderUptoCardSaid: the law returns true and leaves its arguments as they were, wherever what it reads is of bulk at most 1048576. -/
import Derived.Test.YtncejbehidimmaaGreatDoorVmCEqu
import Derived.Test.YtncejbehidimmaaGreatDoorCards
import Derived.Test.YtncejbehidimmaaGreatDoorTie
import Derived.Lay
import Derived.OpenShut
import Derived.Deep.DeepHandedRow
set_option linter.all false
set_option maxRecDepth 100000
namespace Go.Proofs.YtncejbehidimmaaGreatDoor
open Go.ChangeShapes Go.WideShapes Go.ChangeAt Go.RowKit

theorem xw(os:Os)(args:Array Value):laidMet Tryz.prog Rows.fnExactEqualUnderUptoRow.laid ((World.laidAll Tryz.prog os Rows.fnExactEqualUnderUptoRow.laid).forCall (λ _ _=>0) ⟨#[],args,[]⟩).memory :=
  laidMet_laidAll args (by kernel_rfl) (by kernel_rfl)
theorem uf(os:Os)(started:os.Started)(H:Type)(enc:TypeId×Value->H)(F:Stop.Interp) :
    ReturnsInHanded {} Tryz.checked os 3 .any ((Rows.OpenSpec.upto Rows.fnExactEqualUnderSpec).preRow enc Tryz.prog Tryz.f3 Rows.fnExactEqualUnderUptoRow.domain false Rows.fnExactEqualUnderUptoRow.laid) (((Rows.OpenSpec.upto Rows.fnExactEqualUnderSpec).at F).post enc Tryz.prog Tryz.f3 false true false false):=by
  refine returnsInHanded_of_row (C:=Tryz.checked) (s:=Rows.OpenSpec.upto Rows.fnExactEqualUnderSpec) Xo started (by kernel_rfl) Tryz.func3
    (witness_row_at (enc:=enc) (C:=Tryz.checked) false (World.laidAll Tryz.prog os Rows.fnExactEqualUnderUptoRow.laid) #[.agg #[.int .i64 0, .int .i64 0], .slice none 0 0, .agg #[.int .i64 0, .int .i64 0, .slice none 0 0], .agg #[.int .i64 0, .int .i64 0, .slice none 0 0]] (World.laidAll_os _ _ _) (by kernel_rfl) (by kernel_rfl) (by kernel_rfl)
      (OpenSpec.preRow_of_cond 8 (x:=([.agg [.lit (.int .i64 0), .lit (.int .i64 0)], .nil, .agg [.lit (.int .i64 0), .lit (.int .i64 0), .nil], .agg [.lit (.int .i64 0), .lit (.int .i64 0), .nil]],[],[])) (by kernel_rfl) (by kernel_rfl) (λ k hk=>by cases hk;kernel_rfl) (by kernel_rfl) (xw os _))) ?_
  intro W base args ds gs before SD hW _ a3u _ _ W7 _;refine Zt (n:=3) (fn:=Tryz.f3) (s:=Rows.fnExactEqualUnderSpec) (τs:=[(.st .sig),(.slice (.st .expr)),(.st .expr),(.st .expr)]) ?_ ?_ rfl rfl ?_ yA SD hW (a3u _ rfl) (MJ W7)
  · exact⟨⟨0,0,by kernel_rfl⟩,⟨40,26,by kernel_rfl⟩,⟨0,0,by kernel_rfl⟩,⟨0,0,by kernel_rfl⟩,af⟩
  · intro t ht;rw[show Tryz.f3.params.toList=[Jw,Ay,rh,rh] from rfl] at ht;simp only[a7J,b0c,b1x] at ht;rcases ht with rfl|rfl|rfl|rfl<;>exact⟨by kernel_rfl,a7Z (by kernel_rfl)⟩
  · intro ds h;match ds,h with
    | [d0,d1,d2,d3],_=>rfl

theorem wz:Rows.FnExactEqualUnderUptoSaid :=
  OpenClaim.holds_of_cond 3 Tryz.f3 rfl rfl rfl rfl rfl rfl rfl ⟨rfl,rfl,rfl,rfl,rfl⟩ rfl rfl rfl rfl rfl (by kernel_rfl) Tryz.func3 (by kernel_rfl)
    (of_decide_eq_true (by kernel_rfl)) (by unfold Func.isWrapper;first|(rw[if_pos (by decide +kernel)];kernel_rfl)|(rw[if_neg (by decide +kernel)];exact⟨rfl,rfl⟩))
    (λ os started H enc _ F=>by rw[OpenClaim.pre_eq_preRow];exact uf os started H enc F)

theorem wo(f:FuncId)(fn:Func)(hf:Tryz.pinned.checked.prog.funcNamed Rows.fnExactEqualUnderUptoRow.func=some f)(oi:Tryz.pinned.checked.prog.funcs[f]?=some fn) :
    false=Tryz.pinned.checked.prog.looks []/\∀ (j:Nat) t,fn.params[j]?=some t->Tryz.pinned.checked.prog.wantsStandIn t=false:=by
  obtain rfl:f=3:=Option.some.inj ((show Tryz.prog.funcNamed Rows.fnExactEqualUnderUptoRow.func=some 3 by kernel_rfl).symm.trans hf) |>.symm;obtain rfl:fn=Tryz.f3:=(Option.some.inj (Tryz.func3.symm.trans oi)).symm;refine⟨by kernel_rfl,λ j t ht=>?_⟩;have hm:=Array.mem_of_getElem? ht;have hl:t∈Tryz.f3.params.toList:=by simpa using hm
  rw[show Tryz.f3.params.toList=[Jw,Ay,rh,rh] from rfl] at hl;simp only[a7J,b0c,b1x] at hl;rcases hl with rfl|rfl|rfl|rfl<;>(show Tryz.prog.wantsStandIn _=false;kernel_rfl)

theorem FnExactEqualUnder_proved:Rows.FnExactEqualUnderUptoCardSaid :=
  Claim7.holds_tied_plain_at .later [] _ _ _ _ wz (λ _ h=>by cases h) (by kernel_rfl) (λ _ h=>by cases h) fnExactEqualUnderUpto_row_tie rfl ⟨rfl,rfl⟩ (by kernel_rfl) rfl wo (by kernel_rfl)
end Go.Proofs.YtncejbehidimmaaGreatDoor
