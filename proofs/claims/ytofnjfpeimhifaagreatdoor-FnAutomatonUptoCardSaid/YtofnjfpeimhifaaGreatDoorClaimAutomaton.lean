/- FnAutomatonUptoCardSaid: the law returns true and leaves its arguments as they were, wherever what it reads is of bulk at most 1048576. -/
import Derived.Test.YtofnjfpeimhifaaGreatDoorVmFAuto
import Derived.Test.YtofnjfpeimhifaaGreatDoorCards
import Derived.Test.YtofnjfpeimhifaaGreatDoorTie
import Derived.Lay
import Derived.OpenShut
import Derived.Deep.DeepHandedRow
set_option linter.all false
set_option maxRecDepth 100000
namespace Go.Proofs.YtofnjfpeimhifaaGreatDoor
open Go.ChangeShapes Go.WideShapes Go.ChangeAt Go.RowKit

theorem I7(os:Os)(args:Array Value):laidMet Tryz.prog Rows.fnAutomatonUptoRow.laid ((World.laidAll Tryz.prog os Rows.fnAutomatonUptoRow.laid).forCall (λ _ _=>0) ⟨#[],args,[]⟩).memory :=
  laidMet_laidAll args (by kernel_rfl) (by kernel_rfl)
theorem E3(os:Os)(started:os.Started)(H:Type)(enc:TypeId×Value->H)(F:Stop.Interp) :
    ReturnsInHanded {} Tryz.checked os 4 .any ((Rows.OpenSpec.upto Rows.fnAutomatonSpec).preRow enc Tryz.prog Tryz.f4 Rows.fnAutomatonUptoRow.domain false Rows.fnAutomatonUptoRow.laid) (((Rows.OpenSpec.upto Rows.fnAutomatonSpec).at F).post enc Tryz.prog Tryz.f4 false true false false):=by
  refine returnsInHanded_of_row (C:=Tryz.checked) (s:=Rows.OpenSpec.upto Rows.fnAutomatonSpec) Zu started (by kernel_rfl) Tryz.func4
    (witness_row_at (enc:=enc) (C:=Tryz.checked) false (World.laidAll Tryz.prog os Rows.fnAutomatonUptoRow.laid) #[.slice none 0 0, .slice none 0 0] (World.laidAll_os _ _ _) (by kernel_rfl) (by kernel_rfl) (by kernel_rfl)
      (OpenSpec.preRow_of_cond 8 (x:=([.nil, .nil],[],[])) (by kernel_rfl) (by kernel_rfl) (λ k hk=>by cases hk;kernel_rfl) (by kernel_rfl) (I7 os _))) ?_
  intro W base args ds gs before U6 hW _ a5k _ _ B4 _;refine a1j (n:=4) (fn:=Tryz.f4) (s:=Rows.fnAutomatonSpec) (τs:=[(.slice (.int .u8)),(.slice (.int .u8))]) ?_ ?_ rfl rfl ?_ KW U6 hW (a5k _ rfl) (OV B4)
  · exact⟨⟨1,5,by kernel_rfl⟩,⟨1,5,by kernel_rfl⟩,U⟩
  · intro t ht;rw[show Tryz.f4.params.toList=[zG,zG] from rfl] at ht;simp only[a9k,b1I,b2V] at ht;rcases ht with rfl|rfl<;>exact⟨by kernel_rfl,a9y (by kernel_rfl)⟩
  · intro ds h;match ds,h with
    | [d0,d1],_=>rfl

theorem Hx:Rows.FnAutomatonUptoSaid :=
  OpenClaim.holds_of_cond 4 Tryz.f4 rfl rfl rfl rfl rfl rfl rfl ⟨rfl,rfl,rfl,rfl,rfl⟩ rfl rfl rfl rfl rfl (by kernel_rfl) Tryz.func4 (by kernel_rfl)
    (of_decide_eq_true (by kernel_rfl)) (by unfold Func.isWrapper;first|(rw[if_pos (by decide +kernel)];kernel_rfl)|(rw[if_neg (by decide +kernel)];exact⟨rfl,rfl⟩))
    (λ os started H enc _ F=>by rw[OpenClaim.pre_eq_preRow];exact E3 os started H enc F)

theorem Hh(f:FuncId)(fn:Func)(hf:Tryz.pinned.checked.prog.funcNamed Rows.fnAutomatonUptoRow.func=some f)(rK:Tryz.pinned.checked.prog.funcs[f]?=some fn) :
    false=Tryz.pinned.checked.prog.looks []/\∀ (j:Nat) t,fn.params[j]?=some t->Tryz.pinned.checked.prog.wantsStandIn t=false:=by
  obtain rfl:f=4:=Option.some.inj ((show Tryz.prog.funcNamed Rows.fnAutomatonUptoRow.func=some 4 by kernel_rfl).symm.trans hf) |>.symm;obtain rfl:fn=Tryz.f4:=(Option.some.inj (Tryz.func4.symm.trans rK)).symm;refine⟨by kernel_rfl,λ j t ht=>?_⟩;have hm:=Array.mem_of_getElem? ht;have hl:t∈Tryz.f4.params.toList:=by simpa using hm
  rw[show Tryz.f4.params.toList=[zG,zG] from rfl] at hl;simp only[a9k,b1I,b2V] at hl;rcases hl with rfl|rfl<;>(show Tryz.prog.wantsStandIn _=false;kernel_rfl)

theorem FnAutomaton_proved:Rows.FnAutomatonUptoCardSaid :=
  Claim7.holds_tied_plain_at .later [] _ _ _ _ Hx (λ _ h=>by cases h) (by kernel_rfl) (λ _ h=>by cases h) fnAutomatonUpto_row_tie rfl ⟨rfl,rfl⟩ (by kernel_rfl) rfl Hh (by kernel_rfl)
end Go.Proofs.YtofnjfpeimhifaaGreatDoor
