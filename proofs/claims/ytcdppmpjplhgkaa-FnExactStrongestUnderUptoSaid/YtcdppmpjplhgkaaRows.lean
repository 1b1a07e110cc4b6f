/-
  NARROWER THAN 'FOR EVERY INPUT', by the rows' own cells (each row's printed sentence says how): FnExactHoldsTriple: loops · FnExactTripleUnder: loops · FnExactWeakestUnder: loops · FnExactStrongestUnder: loops.
  DERIVED. THE GIVEN ROWS OF THIS SEAT. 4 by the template 'for every input the law returns true; each argument reads behind the call as it read before'; 0 by the template 'total and deterministic' (their statements: YtcdppmpjplhgkaaTotals.lean).
  GIVEN WITH THE SEED: the statements are not yours to turn. If you find one false, say at which input.
  Laid BY PROGRAM, IN A SANDBOX (cutbox-rows.mjs): the forced cells as the released guide's own fill.sh prints them over the translation 3b96011b9ccead6e… (all of the seat's roots in one cut). By AI agents, Wed Nov 11 2026. No macro, syntax, notation, axiom, sorry.
-/
import Derived.Test.YtcdppmpjplhgkaaChecked
import GoSem.Claim
import GoSem.ClaimJoined
import GoSem.ClaimMapViews
import Derived.JoinedTies
import Derived.KernelRfl
namespace Go.Proofs.Ytcdppmpjplhgkaa
/- THE CELL 'sum', in the pinned program and in every row, IS THE sha256 OF THE DUMP (.gsa) THAT YtcdppmpjplhgkaaProg.lean LOADS. Nothing in Lean hashes anything: it is a label: what it is worth is what the hold of that sum in a sandbox is worth. -/
noncomputable def Try.pinned : Pinned := { name := "ytcdppmpjplhgkaa", sum := "3b96011b9ccead6eeadaa6808c24e6949f05c6d8cc09c7b4f704961b81723752", checked := Try.checked }
namespace Rows
def none {H : Type} : Left H := { results := [], args := [] }

/-- 'laws.FnExactHoldsTriple': WHATEVER THE INPUT: true; the input reads as it did. -/
def fnExactHoldsTripleSpec : ChangeSpec := { name := "fnExactHoldsTriple", fn := fun _ => fun
  | [d1, d2] => { results := [.lit (.bool true)], args := [d1, d2] }
  | _ => none }
def fnExactHoldsTripleRow : OpenClaim := { program := "ytcdppmpjplhgkaa", sum := "3b96011b9ccead6eeadaa6808c24e6949f05c6d8cc09c7b4f704961b81723752", func := "loop.example/g01101/laws.FnExactHoldsTriple", spec := "fnExactHoldsTriple", unfollowed := true, recurses := true, loops := true, apart := false }
def FnExactHoldsTripleSaid : Prop := fnExactHoldsTripleRow.holds Try.pinned (OpenSpec.ofChange fnExactHoldsTripleSpec)

/-- ITS FALSE NEIGHBOUR: 'it returns false'. Refute it at one input. -/
def fnExactHoldsTripleWrong : ChangeSpec := { name := "fnExactHoldsTriple", fn := fun _ => fun
  | [d1, d2] => { results := [.lit (.bool false)], args := [d1, d2] }
  | _ => none }
def FnExactHoldsTripleWrongFalsely : Prop := fnExactHoldsTripleRow.holds Try.pinned (OpenSpec.ofChange fnExactHoldsTripleWrong)

/-- 'laws.FnExactTripleUnder': WHATEVER THE INPUT: true; the input reads as it did. -/
def fnExactTripleUnderSpec : ChangeSpec := { name := "fnExactTripleUnder", fn := fun _ => fun
  | [d1, d2, d3] => { results := [.lit (.bool true)], args := [d1, d2, d3] }
  | _ => none }
def fnExactTripleUnderRow : OpenClaim := { program := "ytcdppmpjplhgkaa", sum := "3b96011b9ccead6eeadaa6808c24e6949f05c6d8cc09c7b4f704961b81723752", func := "loop.example/g01101/laws.FnExactTripleUnder", spec := "fnExactTripleUnder", unfollowed := true, recurses := true, loops := true, apart := false }
def FnExactTripleUnderSaid : Prop := fnExactTripleUnderRow.holds Try.pinned (OpenSpec.ofChange fnExactTripleUnderSpec)

/-- ITS FALSE NEIGHBOUR: 'it returns false'. Refute it at one input. -/
def fnExactTripleUnderWrong : ChangeSpec := { name := "fnExactTripleUnder", fn := fun _ => fun
  | [d1, d2, d3] => { results := [.lit (.bool false)], args := [d1, d2, d3] }
  | _ => none }
def FnExactTripleUnderWrongFalsely : Prop := fnExactTripleUnderRow.holds Try.pinned (OpenSpec.ofChange fnExactTripleUnderWrong)

/-- 'laws.FnExactWeakestUnder': WHATEVER THE INPUT: true; the input reads as it did. -/
def fnExactWeakestUnderSpec : ChangeSpec := { name := "fnExactWeakestUnder", fn := fun _ => fun
  | [d1, d2, d3, d4] => { results := [.lit (.bool true)], args := [d1, d2, d3, d4] }
  | _ => none }
def fnExactWeakestUnderRow : OpenClaim := { program := "ytcdppmpjplhgkaa", sum := "3b96011b9ccead6eeadaa6808c24e6949f05c6d8cc09c7b4f704961b81723752", func := "loop.example/g01101/laws.FnExactWeakestUnder", spec := "fnExactWeakestUnder", unfollowed := true, recurses := true, loops := true, apart := false }
def FnExactWeakestUnderSaid : Prop := fnExactWeakestUnderRow.holds Try.pinned (OpenSpec.ofChange fnExactWeakestUnderSpec)

/-- ITS FALSE NEIGHBOUR: 'it returns false'. Refute it at one input. -/
def fnExactWeakestUnderWrong : ChangeSpec := { name := "fnExactWeakestUnder", fn := fun _ => fun
  | [d1, d2, d3, d4] => { results := [.lit (.bool false)], args := [d1, d2, d3, d4] }
  | _ => none }
def FnExactWeakestUnderWrongFalsely : Prop := fnExactWeakestUnderRow.holds Try.pinned (OpenSpec.ofChange fnExactWeakestUnderWrong)

/-- 'laws.FnExactStrongestUnder': WHATEVER THE INPUT: true; the input reads as it did. -/
def fnExactStrongestUnderSpec : ChangeSpec := { name := "fnExactStrongestUnder", fn := fun _ => fun
  | [d1, d2, d3, d4] => { results := [.lit (.bool true)], args := [d1, d2, d3, d4] }
  | _ => none }
def fnExactStrongestUnderRow : OpenClaim := { program := "ytcdppmpjplhgkaa", sum := "3b96011b9ccead6eeadaa6808c24e6949f05c6d8cc09c7b4f704961b81723752", func := "loop.example/g01101/laws.FnExactStrongestUnder", spec := "fnExactStrongestUnder", unfollowed := true, recurses := true, loops := true, apart := false }
def FnExactStrongestUnderSaid : Prop := fnExactStrongestUnderRow.holds Try.pinned (OpenSpec.ofChange fnExactStrongestUnderSpec)

/-- ITS FALSE NEIGHBOUR: 'it returns false'. Refute it at one input. -/
def fnExactStrongestUnderWrong : ChangeSpec := { name := "fnExactStrongestUnder", fn := fun _ => fun
  | [d1, d2, d3, d4] => { results := [.lit (.bool false)], args := [d1, d2, d3, d4] }
  | _ => none }
def FnExactStrongestUnderWrongFalsely : Prop := fnExactStrongestUnderRow.holds Try.pinned (OpenSpec.ofChange fnExactStrongestUnderWrong)

/- THE SECOND FORM. 'bulk': how many values and letters a reading holds, each counted each time it is reached (what is shared counts as often as it is met; a slice's spare places count too). A statement '..UptoSaid' is the law's where the arguments, and the package variables that the reading takes, are together of bulk at most 1048576: NARROWER than '..Said'. Prove '..Said' where nothing that the law and all that it calls make is longer than what came in: it says more and counts as full. Else prove '..UptoSaid'. A law counts once. -/
mutual
def uptoBulk {H : Type} : DataW H → Nat
  | .lit (.string bytes) => bytes.length + 1
  | .lit _ => 1
  | .nil => 1
  | .ptr d => uptoBulk d + 1
  | .slice elems spare => uptoBulkAll elems + uptoBulkAll spare + 1
  | .agg parts => uptoBulkAll parts + 1
  | .iface _ d => uptoBulk d + 1
  | .map entries => uptoBulkEntries entries + 1
  | .held _ => 1
def uptoBulkAll {H : Type} : List (DataW H) → Nat
  | [] => 0
  | d :: r => uptoBulk d + uptoBulkAll r
def uptoBulkEntries {H : Type} : List (Lit × DataW H) → Nat
  | [] => 0
  | x :: r => uptoBulkEntry x + uptoBulkEntries r
def uptoBulkEntry {H : Type} : Lit × DataW H → Nat
  | (.string bytes, d) => bytes.length + uptoBulk d + 1
  | (_, d) => uptoBulk d + 1
 end
def uptoSmall : (H : Type) → List (DataW H) → Bool := fun _ ds => decide (uptoBulkAll ds ≤ 1048576)
def OpenSpec.upto (s : _root_.Go.ChangeSpec) : _root_.Go.OpenSpec := { _root_.Go.OpenSpec.ofChange s with cond := some uptoSmall }

/-- 'laws.FnExactHoldsTriple', WHERE WHAT IT READS IS OF BULK AT MOST 1048576: true; the input reads as it did. -/
def fnExactHoldsTripleUptoRow : OpenClaim := { program := "ytcdppmpjplhgkaa", sum := "3b96011b9ccead6eeadaa6808c24e6949f05c6d8cc09c7b4f704961b81723752", func := "loop.example/g01101/laws.FnExactHoldsTriple", spec := "fnExactHoldsTriple", unfollowed := true, recurses := true, loops := true, apart := false, narrowed := true }
def FnExactHoldsTripleUptoSaid : Prop := fnExactHoldsTripleUptoRow.holds Try.pinned (OpenSpec.upto fnExactHoldsTripleSpec)

/-- 'laws.FnExactTripleUnder', WHERE WHAT IT READS IS OF BULK AT MOST 1048576: true; the input reads as it did. -/
def fnExactTripleUnderUptoRow : OpenClaim := { program := "ytcdppmpjplhgkaa", sum := "3b96011b9ccead6eeadaa6808c24e6949f05c6d8cc09c7b4f704961b81723752", func := "loop.example/g01101/laws.FnExactTripleUnder", spec := "fnExactTripleUnder", unfollowed := true, recurses := true, loops := true, apart := false, narrowed := true }
def FnExactTripleUnderUptoSaid : Prop := fnExactTripleUnderUptoRow.holds Try.pinned (OpenSpec.upto fnExactTripleUnderSpec)

/-- 'laws.FnExactWeakestUnder', WHERE WHAT IT READS IS OF BULK AT MOST 1048576: true; the input reads as it did. -/
def fnExactWeakestUnderUptoRow : OpenClaim := { program := "ytcdppmpjplhgkaa", sum := "3b96011b9ccead6eeadaa6808c24e6949f05c6d8cc09c7b4f704961b81723752", func := "loop.example/g01101/laws.FnExactWeakestUnder", spec := "fnExactWeakestUnder", unfollowed := true, recurses := true, loops := true, apart := false, narrowed := true }
def FnExactWeakestUnderUptoSaid : Prop := fnExactWeakestUnderUptoRow.holds Try.pinned (OpenSpec.upto fnExactWeakestUnderSpec)

/-- 'laws.FnExactStrongestUnder', WHERE WHAT IT READS IS OF BULK AT MOST 1048576: true; the input reads as it did. -/
def fnExactStrongestUnderUptoRow : OpenClaim := { program := "ytcdppmpjplhgkaa", sum := "3b96011b9ccead6eeadaa6808c24e6949f05c6d8cc09c7b4f704961b81723752", func := "loop.example/g01101/laws.FnExactStrongestUnder", spec := "fnExactStrongestUnder", unfollowed := true, recurses := true, loops := true, apart := false, narrowed := true }
def FnExactStrongestUnderUptoSaid : Prop := fnExactStrongestUnderUptoRow.holds Try.pinned (OpenSpec.upto fnExactStrongestUnderSpec)

end Rows
end Go.Proofs.Ytcdppmpjplhgkaa
