import Derived.Test.YtkogipcdjalehaaDoorProg
import Derived.WalkKit
import Derived.Lib.Builder
import Derived.Lib.AppendStr
import Derived.Lib.UnsafeStr
import Derived.Lib.Walk
import Derived.Lib.Strings
import Derived.Lib.Slices
import Derived.Lib.MakeNoZero
import Derived.Laws.Externs
import Derived.Laws.IdiomCopy
import Derived.BigCall
import Derived.OwnWalk
set_option linter.unusedVariables false
namespace Go.Proofs.YtkogipcdjalehaaDoor
open Go.RowKit Go.Proofs
def KeepT (b : Nat) (w w' : World) : Prop := ∀ k cs T fz, w.heap[k]? = some (.cells cs T fz) → T ≠ 5 → k ≠ b → w'.heap[k]? = w.heap[k]?
theorem KeepT.refl (b : Nat) (w : World) : KeepT b w w := fun _ _ _ _ _ _ _ => rfl
theorem KeepT.trans {b : Nat} {w w1 w2 : World} (h : KeepT b w w1) (k : KeepT b w1 w2) : KeepT b w w2 := fun i cs T fz hi hT hb => by
 have e := h i cs T fz hi hT hb
 rw [k i cs T fz (e.trans hi) hT hb, e]
theorem lt_of_heap {w : World} {k : Nat} {x : Obj} (h : w.heap[k]? = some x) : k < w.heap.size := by
 rcases Nat.lt_or_ge k w.heap.size with h' | h'
 ·exact h'
 ·simp [Array.getElem?_eq_none h'] at h
theorem KeepT.alloc {b : Nat} {w w1 : World} (h : KeepT b w w1) (o : Obj) : KeepT b w (w1.alloc o) := fun i cs T fz hi hT hb => by
 have e := h i cs T fz hi hT hb
 rw [← e]
 exact Lib.alloc_old w1 o i (lt_of_heap (e.trans hi))
end Go.Proofs.YtkogipcdjalehaaDoor
