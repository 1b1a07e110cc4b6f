/- Expressions that are built. Printed by vmk.py. -/
import Derived.Test.YthebhlkdppmefaaGreatVmUse
import Derived.Test.YthebhlkdppmefaaGreatVmLib
import Derived.Test.YthebhlkdppmefaaGreatVmSz
set_option linter.unusedVariables false
set_option linter.unusedSimpArgs false
set_option linter.unusedSectionVars false
set_option maxRecDepth 4000
set_option maxHeartbeats 4000000
namespace Go.Proofs.YthebhlkdppmefaaGreat
noncomputable section
def b0q:Ctr:=⟨e2p,[.v (.int .i64), .v (.int .i64)],fun (k:Int) (m:Int)=>⟨(none,[⟨(.st .expr),a0b.mk k m []⟩])⟩⟩
def f3w(k:Int)(m:Int):Nat→a0p:=fun _ => .none
theorem h2v(k:Int)(m:Int):awp (a2s [] [] [] [] []) (a0j c0g) (f3w k m) 0 (a5k (a2s [] [] [] [] []) c0g fun r=>a1f r [⟨(.st .expr),a0b.mk k m []⟩]) (a8e c0g [.val ⟨(.int .i64),k⟩, .val ⟨(.int .i64),m⟩]) =
 ((a0b.mk k m [])=(a0b.mk k m [])):=by kernel_rfl
theorem h2k(hE:a0o [])(hO:a5c [])(hM:a5s [])(hS:a5d []):Ctr.OGood b0q:=by
 refine⟨a0l f1u rfl (by decide),?_⟩
 show ∀ (k:Int) (m:Int),True→a6q prog e2p [.val ⟨(.int .i64),k⟩, .val ⟨(.int .i64),m⟩] [⟨(.st .expr),a0b.mk k m []⟩]
 intro k m _
 refine a4j (own:=[]) (wr:=[]) (cl:=[]) (ro:=[]) hE hO hM hS f1u g8h (f3w k m) ?_
 rewrite [h2v k m]
 refine rfl
 all_goals try and_intros
 all_goals first|rfl|trivial|omega|(simp only[decide_eq_true_eq,decide_eq_false_iff_not,a0k,a0c,a2k,a8i,a5r,a1p] at *;omega)|(simp[a0k,a0c] at *;omega)|grind
theorem e1v:Ctr.OGood b0q:=h2k trivial trivial trivial trivial
def b0r:Ctr:=⟨e2q,[.v (.int .i64), .o (.slice (.st .expr))],fun (k:Int) (ks:List a0b)=>⟨(none,[⟨(.st .expr),a0b.mk k 0 ks⟩])⟩⟩
def f3x(k:Int)(ks:List a0b):Nat→a0p:=fun _ => .none
theorem h2w(k:Int)(ks:List a0b):awp (a2s [] [] [] [] []) (a0j c0h) (f3x k ks) 0 (a5k (a2s [] [] [] [] []) c0h fun r=>a1f r [⟨(.st .expr),a0b.mk k 0 ks⟩]) (a8e c0h [.val ⟨(.int .i64),k⟩, .own ⟨(.slice (.st .expr)),ks⟩]) =
 ((a0b.mk k (0:Int) ks)=(a0b.mk k 0 ks)):=by kernel_rfl
theorem h2l(hE:a0o [])(hO:a5c [])(hM:a5s [])(hS:a5d []):Ctr.OGood b0r:=by
 refine⟨a0l f1v rfl (by decide),?_⟩
 show ∀ (k:Int) (ks:List a0b),True→a6q prog e2q [.val ⟨(.int .i64),k⟩, .own ⟨(.slice (.st .expr)),ks⟩] [⟨(.st .expr),a0b.mk k 0 ks⟩]
 intro k ks _
 refine a4j (own:=[]) (wr:=[]) (cl:=[]) (ro:=[]) hE hO hM hS f1v g8i (f3x k ks) ?_
 rewrite [h2w k ks]
 refine ?_
 all_goals try and_intros
 all_goals first|rfl|trivial|omega|(simp only[decide_eq_true_eq,decide_eq_false_iff_not,a0k,a0c,a2k,a8i,a5r,a1p] at *;omega)|(simp[a0k,a0c] at *;omega)|grind
theorem e1w:Ctr.OGood b0r:=h2l trivial trivial trivial trivial
end
end Go.Proofs.YthebhlkdppmefaaGreat
