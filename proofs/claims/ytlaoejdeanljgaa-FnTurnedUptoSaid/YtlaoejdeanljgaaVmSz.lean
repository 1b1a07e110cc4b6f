/- The sizes of data. Printed by vmk.py. -/
import Derived.Test.YtlaoejdeanljgaaVmUse
import Derived.Test.YtlaoejdeanljgaaVmLib
set_option linter.unusedVariables false
set_option linter.unusedSimpArgs false
set_option linter.unusedSectionVars false
namespace Go.Proofs.Ytlaoejdeanljgaa
noncomputable section
mutual
def a0q:a0b→Nat
 | ⟨_,_,kids⟩=>kids.length+a7p kids
def a7p:List a0b→Nat
 | []=>0
 | k::ks=>a0q k+a7p ks
end
theorem e7c:∀ xs,a7p xs=szL a0q xs
 | []=>rfl
 | x::xs=>by rw[a7p,szL,e7c xs]
theorem f3j(x:a0b):a0q x=(x.kids.length+szL a0q x.kids):=by
 cases x;simp[a0q,e7c];try omega
mutual
def a0e:a0a→Nat
 | ⟨_,_,cond,kids⟩=>a0q cond+kids.length+a3v kids
def a3v:List a0a→Nat
 | []=>0
 | k::ks=>a0e k+a3v ks
end
theorem e7d:∀ xs,a3v xs=szL a0e xs
 | []=>rfl
 | x::xs=>by rw[a3v,szL,e7d xs]
theorem c3l(x:a0a):a0e x=(a0q x.cond)+(x.kids.length+szL a0e x.kids):=by
 cases x;simp[a0e,e7d];try omega
end
end Go.Proofs.Ytlaoejdeanljgaa
