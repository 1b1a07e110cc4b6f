/- FnExactCheckProofUptoCardSaid: the law returns true and leaves its arguments as they were, wherever what it reads is of bulk at most 1048576. -/
import Derived.Test.YtmjfpcajohhbeaaGreatDoorVmCCheck
import Derived.Test.YtmjfpcajohhbeaaGreatDoorCards
import Derived.Test.YtmjfpcajohhbeaaGreatDoorTie
import Derived.Lay
import Derived.OpenShut
import Derived.Deep.DeepHandedRow
set_option linter.all false
set_option maxRecDepth 100000
namespace Go.Proofs.YtmjfpcajohhbeaaGreatDoor
open Go.ChangeShapes Go.WideShapes Go.ChangeAt Go.RowKit

theorem CF(os:Os)(args:Array Value):laidMet Tryz.prog Rows.fnExactCheckProofUptoRow.laid ((World.laidAll Tryz.prog os Rows.fnExactCheckProofUptoRow.laid).forCall (λ _ _=>0) ⟨#[],args,[]⟩).memory :=
  laidMet_laidAll args (by kernel_rfl) (by kernel_rfl)
theorem ze(os:Os)(started:os.Started)(H:Type)(enc:TypeId×Value->H)(F:Stop.Interp) :
    ReturnsInHanded {} Tryz.checked os 4 .any ((Rows.OpenSpec.upto Rows.fnExactCheckProofSpec).preRow enc Tryz.prog Tryz.f4 Rows.fnExactCheckProofUptoRow.domain false Rows.fnExactCheckProofUptoRow.laid) (((Rows.OpenSpec.upto Rows.fnExactCheckProofSpec).at F).post enc Tryz.prog Tryz.f4 false true false false):=by
  refine returnsInHanded_of_row (C:=Tryz.checked) (s:=Rows.OpenSpec.upto Rows.fnExactCheckProofSpec) a1f started (by kernel_rfl) Tryz.func4
    (witness_row_at (enc:=enc) (C:=Tryz.checked) false (World.laidAll Tryz.prog os Rows.fnExactCheckProofUptoRow.laid) #[.agg #[.int .i64 0, .int .i64 0, .slice none 0 0]] (World.laidAll_os _ _ _) (by kernel_rfl) (by kernel_rfl) (by kernel_rfl)
      (OpenSpec.preRow_of_cond 8 (x:=([.agg [.agg [.lit (.int .i64 0), .lit (.int .i64 0)], .nil]],[],[])) (by kernel_rfl) (by kernel_rfl) (λ k hk=>by cases hk;kernel_rfl) (by kernel_rfl) (CF os _))) ?_
  intro W base args ds gs before XO hW _ a5u _ _ Iy _
  refine a2N (n:=4) (fn:=Tryz.f4) (s:=Rows.fnExactCheckProofSpec) (τs:=[(.st .proof)]) ?_ ?_ rfl rfl ?_ Dz XO hW (a5u _ rfl) (Su Iy)
  · exact⟨⟨0,0,by kernel_rfl⟩,trivial⟩
  · intro t ht
    rw[show Tryz.f4.params.toList=[IV] from rfl] at ht
    simp only[a8I,b1f,b2k] at ht
    rcases ht with rfl
    exact⟨by kernel_rfl,a9e (by kernel_rfl)⟩
  · intro ds h
    match ds,h with
    | [d0],_=>rfl

theorem Bs:Rows.FnExactCheckProofUptoSaid :=
  OpenClaim.holds_of_cond 4 Tryz.f4 rfl rfl rfl rfl rfl rfl rfl ⟨rfl,rfl,rfl,rfl,rfl⟩ rfl rfl rfl rfl rfl (by kernel_rfl) Tryz.func4 (by kernel_rfl)
    (of_decide_eq_true (by kernel_rfl)) (by unfold Func.isWrapper;first|(rw[if_pos (by decide +kernel)];kernel_rfl)|(rw[if_neg (by decide +kernel)];exact⟨rfl,rfl⟩))
    (λ os started H enc _ F=>by rw[OpenClaim.pre_eq_preRow];exact ze os started H enc F)

theorem Bf(f:FuncId)(fn:Func)(hf:Tryz.pinned.checked.prog.funcNamed Rows.fnExactCheckProofUptoRow.func=some f)(vO:Tryz.pinned.checked.prog.funcs[f]?=some fn) :
    false=Tryz.pinned.checked.prog.looks []/\∀ (j:Nat) t,fn.params[j]?=some t->Tryz.pinned.checked.prog.wantsStandIn t=false:=by
  obtain rfl:f=4:=b0I ((show Tryz.prog.funcNamed Rows.fnExactCheckProofUptoRow.func=some 4 by kernel_rfl).symm.trans hf) |>.symm
  obtain rfl:fn=Tryz.f4:=(b0I (Tryz.func4.symm.trans vO)).symm
  refine⟨by kernel_rfl,λ j t ht=>?_⟩
  have hm:=Array.mem_of_getElem? ht
  have hl:t∈Tryz.f4.params.toList:=by simpa using hm
  rw[show Tryz.f4.params.toList=[IV] from rfl] at hl
  simp only[a8I,b1f,b2k] at hl
  rcases hl with rfl
  (show Tryz.prog.wantsStandIn _=false;kernel_rfl)

theorem FnExactCheckProof_proved:Rows.FnExactCheckProofUptoCardSaid :=
  Claim7.holds_tied_plain_at .later [] _ _ _ _ Bs (λ _ h=>by cases h) (by kernel_rfl) (λ _ h=>by cases h) fnExactCheckProofUpto_row_tie rfl ⟨rfl,rfl⟩ (by kernel_rfl) rfl Bf (by kernel_rfl)
end Go.Proofs.YtmjfpcajohhbeaaGreatDoor
