/- Cond, Cond2. -/
import Derived.Test.YtlaoejdeanljgaaVmUse
import Derived.Test.YtlaoejdeanljgaaVmLib
import Derived.Test.YtlaoejdeanljgaaVmSz
import Derived.Test.YtlaoejdeanljgaaVmValid
import Derived.Test.YtlaoejdeanljgaaVmBld3
set_option linter.unusedVariables false
set_option linter.unusedSimpArgs false
set_option linter.unusedSectionVars false
namespace Go.Proofs.Ytlaoejdeanljgaa
noncomputable section
end
end Go.Proofs.Ytlaoejdeanljgaa

set_option linter.unusedVariables false
set_option linter.unusedSimpArgs false
set_option linter.unusedSectionVars false
set_option maxRecDepth 4000
set_option maxHeartbeats 4000000
namespace Go.Proofs.Ytlaoejdeanljgaa
noncomputable section
def a6z:Ctr:=⟨c7b,[],⟨(none,[⟨(.st .expr),a0b.mk 2 0 []⟩])⟩⟩
def d9o :Nat→a0t:=fun _ => .none
theorem f6h :awp (a0x []) (a0i b1y) (d9o ) 0 (a1h (a0x []) b1y fun r=>a1e r [⟨(.st .expr),a0b.mk 2 0 []⟩]) (a0r b1y []) =
 ((a0b.mk (2:Int) (0:Int) [])=(a0b.mk 2 0 [])):=by kernel_rfl
theorem f5m(hE:a0p []):Ctr.Good a6z:=by
 refine⟨a0j d4o rfl (by decide),?_⟩
 show True→a1f prog c7b [] (·=[⟨(.st .expr),a0b.mk 2 0 []⟩])
 intro  _
 refine a0z (wr:=[]) (cl:=[]) (ro:=[]) hE d4o e7x (d9o ) ?_
 rewrite [f6h ]
 refine ?_
 all_goals try and_intros
 all_goals first|rfl|trivial|omega|(simp only[decide_eq_true_eq,decide_eq_false_iff_not,a0h,a0d,a2j,a4q,a4a,a2p] at *;omega)|(simp[a0h,a0d] at *;omega)|grind
theorem d0b:Ctr.Good a6z:=f5m trivial
def b4y:Ctr:=⟨c4k,[],⟨(none,[⟨(.st .expr),a0b.mk 1 0 []⟩])⟩⟩
def d5o :Nat→a0t:=fun _ => .none
theorem f3s :awp (a0x []) (a0i a9y) (d5o ) 0 (a1h (a0x []) a9y fun r=>a1e r [⟨(.st .expr),a0b.mk 1 0 []⟩]) (a0r a9y []) =
 ((a0b.mk (1:Int) (0:Int) [])=(a0b.mk 1 0 [])):=by kernel_rfl
theorem f2l(hE:a0p []):Ctr.Good b4y:=by
 refine⟨a0j d1n rfl (by decide),?_⟩
 show True→a1f prog c4k [] (·=[⟨(.st .expr),a0b.mk 1 0 []⟩])
 intro  _
 refine a0z (wr:=[]) (cl:=[]) (ro:=[]) hE d1n e4v (d5o ) ?_
 rewrite [f3s ]
 refine ?_
 all_goals try and_intros
 all_goals first|rfl|trivial|omega|(simp only[decide_eq_true_eq,decide_eq_false_iff_not,a0h,a0d,a2j,a4q,a4a,a2p] at *;omega)|(simp[a0h,a0d] at *;omega)|grind
theorem e5l:Ctr.Good b4y:=f2l trivial
def b4x:Ctr:=⟨b5f,[.v (.int .i64), .v (.st .expr), .v (.st .expr)],fun (k:Int) (a:a0b) (b:a0b)=>⟨(none,[⟨(.st .expr),a0b.mk k 0 [a,b]⟩])⟩⟩
def d5n(k:Int)(a:a0b)(b:a0b):Nat→a0t:=fun _ => .none
theorem f3r(k:Int)(a:a0b)(b:a0b):awp (a0x [] [] [] [4,5]) (a0i a4y) (d5n k a b) 0 (a1h (a0x [] [] [] [4,5]) a4y fun r=>a1e r [⟨(.st .expr),a0b.mk k 0 [a,b]⟩]) (a0r a4y [.val ⟨(.int .i64),k⟩, .val ⟨(.st .expr),a⟩, .val ⟨(.st .expr),b⟩]) =
 ((a0b.mk k (0:Int) ([a,b]))=(a0b.mk k 0 [a,b])):=by kernel_rfl
theorem f2k(hE:a0p []):Ctr.Good b4x:=by
 refine⟨a0j b7c rfl (by decide),?_⟩
 show ∀ (k:Int) (a:a0b) (b:a0b),True→a1f prog b5f [.val ⟨(.int .i64),k⟩, .val ⟨(.st .expr),a⟩, .val ⟨(.st .expr),b⟩] (·=[⟨(.st .expr),a0b.mk k 0 [a,b]⟩])
 intro k a b _
 refine a0z (wr:=[]) (cl:=[]) (ro:=[4,5]) hE b7c c7k (d5n k a b) ?_
 rewrite [f3r k a b]
 refine ?_
 all_goals try and_intros
 all_goals first|rfl|trivial|omega|(simp only[decide_eq_true_eq,decide_eq_false_iff_not,a0h,a0d,a2j,a4q,a4a,a2p] at *;omega)|(simp[a0h,a0d] at *;omega)|grind
theorem e5k:Ctr.Good b4x:=f2k trivial
end
end Go.Proofs.Ytlaoejdeanljgaa
