/- FnAxiomsUptoCardSaid: the law returns true and leaves its arguments as they were, wherever what it reads is of bulk at most 1048576. -/
import Derived.Test.YtlpndogmpcolnaaGreatDoorVmFAxi
import Derived.Test.YtlpndogmpcolnaaGreatDoorCards
import Derived.Test.YtlpndogmpcolnaaGreatDoorTie
import Derived.Lay
import Derived.OpenShut
import Derived.Deep.DeepHandedRow
set_option linter.all false
set_option maxRecDepth 100000
namespace Go.Proofs.YtlpndogmpcolnaaGreatDoor
open Go.ChangeShapes Go.WideShapes Go.ChangeAt Go.RowKit

theorem Rr(os:Os)(args:Array Value):laidMet Tryz.prog Rows.fnAxiomsUptoRow.laid ((World.laidAll Tryz.prog os Rows.fnAxiomsUptoRow.laid).forCall (λ _ _=>0) ⟨#[],args,[]⟩).memory :=
  laidMet_laidAll args (by kernel_rfl) (by kernel_rfl)
theorem MZ(os:Os)(started:os.Started)(H:Type)(enc:TypeId×Value->H)(F:Stop.Interp) :
    ReturnsInHanded {} Tryz.checked os 3 .any ((Rows.OpenSpec.upto Rows.fnAxiomsSpec).preRow enc Tryz.prog Tryz.f3 Rows.fnAxiomsUptoRow.domain false Rows.fnAxiomsUptoRow.laid) (((Rows.OpenSpec.upto Rows.fnAxiomsSpec).at F).post enc Tryz.prog Tryz.f3 false true false false):=by
  refine returnsInHanded_of_row (C:=Tryz.checked) (s:=Rows.OpenSpec.upto Rows.fnAxiomsSpec) a3f started (by kernel_rfl) Tryz.func3
    (witness_row_at (enc:=enc) (C:=Tryz.checked) false (World.laidAll Tryz.prog os Rows.fnAxiomsUptoRow.laid) #[.slice none 0 0, .slice none 0 0] (World.laidAll_os _ _ _) (by kernel_rfl) (by kernel_rfl) (by kernel_rfl)
      (OpenSpec.preRow_of_cond 8 (x:=([.nil, .nil],[],[])) (by kernel_rfl) (by kernel_rfl) (λ k hk=>by cases hk;kernel_rfl) (by kernel_rfl) (Rr os _))) ?_
  intro W base args ds gs before XU hW _ b1i _ _ DZ _;refine a4Z (n:=3) (fn:=Tryz.f3) (s:=Rows.fnAxiomsSpec) (τs:=[(.slice (.int .u8)),(.slice (.int .u8))]) ?_ ?_ rfl rfl ?_ Tb XU hW (b1i _ rfl) (QN DZ)
  · exact⟨⟨1,5,by kernel_rfl⟩,⟨1,5,by kernel_rfl⟩,af⟩
  · intro t ht;rw[show Tryz.f3.params.toList=[Bw,Bw] from rfl] at ht;simp only[b5X,b8B,b9S] at ht;rcases ht with rfl|rfl<;>exact⟨by kernel_rfl,b6n (by kernel_rfl)⟩
  · intro ds h;match ds,h with
    | [d0,d1],_=>rfl

theorem PW:Rows.FnAxiomsUptoSaid :=
  OpenClaim.holds_of_cond 3 Tryz.f3 rfl rfl rfl rfl rfl rfl rfl ⟨rfl,rfl,rfl,rfl,rfl⟩ rfl rfl rfl rfl rfl (by kernel_rfl) Tryz.func3 (by kernel_rfl)
    (of_decide_eq_true (by kernel_rfl)) (by unfold Func.isWrapper;first|(rw[if_pos (by decide +kernel)];kernel_rfl)|(rw[if_neg (by decide +kernel)];exact⟨rfl,rfl⟩))
    (λ os started H enc _ F=>by rw[OpenClaim.pre_eq_preRow];exact MZ os started H enc F)

theorem Ph(f:FuncId)(fn:Func)(hf:Tryz.pinned.checked.prog.funcNamed Rows.fnAxiomsUptoRow.func=some f)(qD:Tryz.pinned.checked.prog.funcs[f]?=some fn) :
    false=Tryz.pinned.checked.prog.looks []/\∀ (j:Nat) t,fn.params[j]?=some t->Tryz.pinned.checked.prog.wantsStandIn t=false:=by
  obtain rfl:f=3:=Option.some.inj ((show Tryz.prog.funcNamed Rows.fnAxiomsUptoRow.func=some 3 by kernel_rfl).symm.trans hf) |>.symm;obtain rfl:fn=Tryz.f3:=(Option.some.inj (Tryz.func3.symm.trans qD)).symm;refine⟨by kernel_rfl,λ j t ht=>?_⟩;have hm:=Array.mem_of_getElem? ht;have hl:t∈Tryz.f3.params.toList:=by simpa using hm
  rw[show Tryz.f3.params.toList=[Bw,Bw] from rfl] at hl;simp only[b5X,b8B,b9S] at hl;rcases hl with rfl|rfl<;>(show Tryz.prog.wantsStandIn _=false;kernel_rfl)

theorem FnAxioms_proved:Rows.FnAxiomsUptoCardSaid :=
  Claim7.holds_tied_plain_at .later [] _ _ _ _ PW (λ _ h=>by cases h) (by kernel_rfl) (λ _ h=>by cases h) fnAxiomsUpto_row_tie rfl ⟨rfl,rfl⟩ (by kernel_rfl) rfl Ph (by kernel_rfl)
end Go.Proofs.YtlpndogmpcolnaaGreatDoor
