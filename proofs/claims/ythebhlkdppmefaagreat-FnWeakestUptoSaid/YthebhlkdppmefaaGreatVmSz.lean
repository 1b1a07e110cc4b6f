/- The sizes of data. Printed by vmk.py. -/
import Derived.Test.YthebhlkdppmefaaGreatVmUse
import Derived.Test.YthebhlkdppmefaaGreatVmLib
set_option linter.unusedVariables false
set_option linter.unusedSimpArgs false
set_option linter.unusedSectionVars false
namespace Go.Proofs.YthebhlkdppmefaaGreat
noncomputable section
mutual
def a2m:a0b→Nat
 | ⟨_,_,kids⟩=>kids.length+c2u kids
def c2u:List a0b→Nat
 | []=>0
 | k::ks=>a2m k+c2u ks
end
theorem f9l:∀ xs,c2u xs=szL a2m xs
 | []=>rfl
 | x::xs=>by rw[c2u,szL,f9l xs]
theorem h8j(x:a0b):a2m x=(x.kids.length+szL a2m x.kids):=by
 cases x;simp[a2m,f9l];try omega
mutual
def a2e:a0d→Nat
 | ⟨_,_,cond,kids⟩=>a2m cond+kids.length+b9r kids
def b9r:List a0d→Nat
 | []=>0
 | k::ks=>a2e k+b9r ks
end
theorem f9m:∀ xs,b9r xs=szL a2e xs
 | []=>rfl
 | x::xs=>by rw[b9r,szL,f9m xs]
theorem h8k(x:a0d):a2e x=(a2m x.cond)+(x.kids.length+szL a2e x.kids):=by
 cases x;simp[a2e,f9m];try omega
end
end Go.Proofs.YthebhlkdppmefaaGreat
