/- FnExactReadAutomatonUptoCardSaid: the law returns true and leaves its arguments as they were, wherever what it reads is of bulk at most 1048576. -/
import Derived.Test.YtmdefiphdgcijaaDoorVmRow
import Derived.Test.YtmdefiphdgcijaaDoorVmCRAuto
import Derived.Test.YtmdefiphdgcijaaDoorCards
import Derived.Test.YtmdefiphdgcijaaDoorTie
import Derived.Lay
import Derived.OpenShut
import Derived.Deep.DeepHandedRow
set_option linter.unusedVariables false
set_option maxRecDepth 100000
namespace Go.Proofs.YtmdefiphdgcijaaDoor
open Go.ChangeShapes Go.WideShapes Go.ChangeAt Go.RowKit

theorem b8v(os:Os)(args:Array Value):laidMet Tryd.prog Rows.fnExactReadAutomatonUptoRow.laid ((World.laidAll Tryd.prog os Rows.fnExactReadAutomatonUptoRow.laid).forCall (fun _ _=>0) ⟨#[],args,[]⟩).memory :=
  laidMet_laidAll args (by kernel_rfl) (by kernel_rfl)
theorem b7r(os:Os)(started:os.Started)(H:Type)(enc:TypeId×Value→H)(F:Stop.Interp) :
    ReturnsInHanded {} Tryd.checked os 3 .any ((Rows.OpenSpec.upto Rows.fnExactReadAutomatonSpec).preRow enc Tryd.prog Tryd.f3 Rows.fnExactReadAutomatonUptoRow.domain false Rows.fnExactReadAutomatonUptoRow.laid) (((Rows.OpenSpec.upto Rows.fnExactReadAutomatonSpec).at F).post enc Tryd.prog Tryd.f3 false true false false):=by
  refine returnsInHanded_of_row (C:=Tryd.checked) (s:=Rows.OpenSpec.upto Rows.fnExactReadAutomatonSpec) e8d started (by kernel_rfl) Tryd.func3
    (witness_row_at (enc:=enc) (C:=Tryd.checked) false (World.laidAll Tryd.prog os Rows.fnExactReadAutomatonUptoRow.laid) #[.string ⟨#[]⟩] (World.laidAll_os _ _ _) (by kernel_rfl) (by kernel_rfl) (by kernel_rfl)
      (OpenSpec.preRow_of_cond 8 (x:=([.lit (.string [])],[],[])) (by kernel_rfl) (by kernel_rfl) (fun k hk=>by cases hk;kernel_rfl) (by kernel_rfl) (b8v os _))) ?_
  intro W base args ds gs before hval hW _ hcond _ _ hsh _
  refine e9s (n:=3) (fn:=Tryd.f3) (s:=Rows.fnExactReadAutomatonSpec) (τs:=[.str]) ?_ ?_ rfl rfl ?_ c0q hval hW (hcond _ rfl) (d9s hsh)
  · exact⟨⟨0,0,by kernel_rfl⟩,trivial⟩
  · intro t ht
    rw[show Tryd.f3.params.toList=[d3h] from rfl] at ht
    simp only[List.mem_cons,List.not_mem_nil,or_false] at ht
    rcases ht with rfl
    exact⟨by kernel_rfl,of_decide_eq_true (by kernel_rfl)⟩
  · intro ds h
    match ds,h with
    | [d0],_=>rfl

theorem b8r:Rows.FnExactReadAutomatonUptoSaid :=
  OpenClaim.holds_of_cond 3 Tryd.f3 rfl rfl rfl rfl rfl rfl rfl ⟨rfl,rfl,rfl,rfl,rfl⟩ rfl rfl rfl rfl rfl (by kernel_rfl) Tryd.func3 (by kernel_rfl)
    (of_decide_eq_true (by kernel_rfl)) (by unfold Func.isWrapper;first|(rw[if_pos (by decide +kernel)];kernel_rfl)|(rw[if_neg (by decide +kernel)];exact⟨rfl,rfl⟩))
    (fun os started H enc _ F=>by rw[OpenClaim.pre_eq_preRow];exact b7r os started H enc F)

theorem b8d(f:FuncId)(fn:Func)(hf:Tryd.pinned.checked.prog.funcNamed Rows.fnExactReadAutomatonUptoRow.func=some f)(hfn:Tryd.pinned.checked.prog.funcs[f]?=some fn) :
    false=Tryd.pinned.checked.prog.looks []∧∀ (j:Nat) t,fn.params[j]?=some t→Tryd.pinned.checked.prog.wantsStandIn t=false:=by
  obtain rfl:f=3:=Option.some.inj ((show Tryd.prog.funcNamed Rows.fnExactReadAutomatonUptoRow.func=some 3 by kernel_rfl).symm.trans hf) |>.symm
  obtain rfl:fn=Tryd.f3:=(Option.some.inj (Tryd.func3.symm.trans hfn)).symm
  refine⟨by kernel_rfl,fun j t ht=>?_⟩
  have hm:=Array.mem_of_getElem? ht
  have hl:t∈Tryd.f3.params.toList:=by simpa using hm
  rw[show Tryd.f3.params.toList=[d3h] from rfl] at hl
  simp only[List.mem_cons,List.not_mem_nil,or_false] at hl
  rcases hl with rfl
  (show Tryd.prog.wantsStandIn _=false;kernel_rfl)

theorem FnExactReadAutomaton_proved:Rows.FnExactReadAutomatonUptoCardSaid :=
  Claim7.holds_tied_plain_at .later [] _ _ _ _ b8r (fun _ h=>by cases h) (by kernel_rfl) (fun _ h=>by cases h) fnExactReadAutomatonUpto_row_tie rfl ⟨rfl,rfl⟩ (by kernel_rfl) rfl b8d (by kernel_rfl)
end Go.Proofs.YtmdefiphdgcijaaDoor
