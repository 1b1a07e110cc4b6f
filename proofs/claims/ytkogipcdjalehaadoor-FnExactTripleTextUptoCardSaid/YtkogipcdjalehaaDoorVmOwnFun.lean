/- A whole function that hands over memory of its own, or turns memory that it is given. -/
import Derived.Test.YtkogipcdjalehaaDoorVmFun
set_option linter.unusedVariables false
set_option linter.unusedSimpArgs false
namespace Go.Proofs.YtkogipcdjalehaaDoor
section
variable {P : Program} {E : Env}
theorem ArgsO.all2 {w : World} {S : Nat → Prop} : ∀ {as : List Arg} {xs : List Value} {fp : List Nat}, ArgsO P w S as xs fp → All2 (ArgS P w S) as xs
 | [], [], _, _ => trivial
 | a :: as, x :: xs, _, h => by
  obtain ⟨f1, f2, _, h1, h2⟩ := h
  refine ⟨?_, ArgsO.all2 h2⟩
  cases a with
  | own v => trivial
  | box k => exact h1.2.elim
  | _ => exact h1.2
 | [], _ :: _, _, h => h.elim
 | _ :: _, [], _, h => h.elim
end
end Go.Proofs.YtkogipcdjalehaaDoor
