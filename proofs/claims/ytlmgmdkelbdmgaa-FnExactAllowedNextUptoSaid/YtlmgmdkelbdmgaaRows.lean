/-
  NARROWER THAN 'FOR EVERY INPUT', by the rows' own cells (each row's printed sentence says how): FnExactValidTriple: loops · FnExactModelsPremises: loops · FnExactAllowedNext: loops · FnExactTripleUnder: loops.
  DERIVED. THE GIVEN ROWS OF THIS SEAT. 4 by the template 'for every input the law returns true; each argument reads behind the call as it read before'; 0 by the template 'total and deterministic' (their statements: YtlmgmdkelbdmgaaTotals.lean).
  GIVEN WITH THE SEED: the statements are not yours to turn. If you find one false, say at which input.
  Laid BY PROGRAM, IN A SANDBOX (cutbox-rows.mjs): the forced cells as the released guide's own fill.sh prints them over the translation ef2cd4b8e6edd5cc… (all of the seat's roots in one cut). By AI agents, Wed Nov 11 2026. No macro, syntax, notation, axiom, sorry.
-/
import Derived.Test.YtlmgmdkelbdmgaaChecked
import GoSem.Claim
import GoSem.ClaimJoined
import GoSem.ClaimMapViews
import Derived.JoinedTies
import Derived.KernelRfl
namespace Go.Proofs.Ytlmgmdkelbdmgaa
/- THE CELL 'sum', in the pinned program and in every row, IS THE sha256 OF THE DUMP (.gsa) THAT YtlmgmdkelbdmgaaProg.lean LOADS. Nothing in Lean hashes anything: it is a label: what it is worth is what the hold of that sum in a sandbox is worth. -/
noncomputable def Try.pinned : Pinned := { name := "ytlmgmdkelbdmgaa", sum := "ef2cd4b8e6edd5cc0aab6c36e05e87c5ba5c47dda0928992ea23c97d39fa9e76", checked := Try.checked }
namespace Rows
def none {H : Type} : Left H := { results := [], args := [] }

/-- 'laws.FnExactValidTriple': WHATEVER THE INPUT: true; the input reads as it did. -/
def fnExactValidTripleSpec : ChangeSpec := { name := "fnExactValidTriple", fn := fun _ => fun
  | [d1, d2] => { results := [.lit (.bool true)], args := [d1, d2] }
  | _ => none }
def fnExactValidTripleRow : OpenClaim := { program := "ytlmgmdkelbdmgaa", sum := "ef2cd4b8e6edd5cc0aab6c36e05e87c5ba5c47dda0928992ea23c97d39fa9e76", func := "loop.example/g01101/laws.FnExactValidTriple", spec := "fnExactValidTriple", recurses := true, loops := true, apart := false }
def FnExactValidTripleSaid : Prop := fnExactValidTripleRow.holds Try.pinned (OpenSpec.ofChange fnExactValidTripleSpec)

/-- ITS FALSE NEIGHBOUR: 'it returns false'. Refute it at one input. -/
def fnExactValidTripleWrong : ChangeSpec := { name := "fnExactValidTriple", fn := fun _ => fun
  | [d1, d2] => { results := [.lit (.bool false)], args := [d1, d2] }
  | _ => none }
def FnExactValidTripleWrongFalsely : Prop := fnExactValidTripleRow.holds Try.pinned (OpenSpec.ofChange fnExactValidTripleWrong)

/-- 'laws.FnExactModelsPremises': WHATEVER THE INPUT: true; the input reads as it did. -/
def fnExactModelsPremisesSpec : ChangeSpec := { name := "fnExactModelsPremises", fn := fun _ => fun
  | [d1, d2, d3] => { results := [.lit (.bool true)], args := [d1, d2, d3] }
  | _ => none }
def fnExactModelsPremisesRow : OpenClaim := { program := "ytlmgmdkelbdmgaa", sum := "ef2cd4b8e6edd5cc0aab6c36e05e87c5ba5c47dda0928992ea23c97d39fa9e76", func := "loop.example/g01101/laws.FnExactModelsPremises", spec := "fnExactModelsPremises", recurses := true, loops := true, apart := false }
def FnExactModelsPremisesSaid : Prop := fnExactModelsPremisesRow.holds Try.pinned (OpenSpec.ofChange fnExactModelsPremisesSpec)

/-- ITS FALSE NEIGHBOUR: 'it returns false'. Refute it at one input. -/
def fnExactModelsPremisesWrong : ChangeSpec := { name := "fnExactModelsPremises", fn := fun _ => fun
  | [d1, d2, d3] => { results := [.lit (.bool false)], args := [d1, d2, d3] }
  | _ => none }
def FnExactModelsPremisesWrongFalsely : Prop := fnExactModelsPremisesRow.holds Try.pinned (OpenSpec.ofChange fnExactModelsPremisesWrong)

/-- 'laws.FnExactAllowedNext': WHATEVER THE INPUT: true; the input reads as it did. -/
def fnExactAllowedNextSpec : ChangeSpec := { name := "fnExactAllowedNext", fn := fun _ => fun
  | [d1, d2, d3, d4] => { results := [.lit (.bool true)], args := [d1, d2, d3, d4] }
  | _ => none }
def fnExactAllowedNextRow : OpenClaim := { program := "ytlmgmdkelbdmgaa", sum := "ef2cd4b8e6edd5cc0aab6c36e05e87c5ba5c47dda0928992ea23c97d39fa9e76", func := "loop.example/g01101/laws.FnExactAllowedNext", spec := "fnExactAllowedNext", recurses := true, loops := true, apart := false }
def FnExactAllowedNextSaid : Prop := fnExactAllowedNextRow.holds Try.pinned (OpenSpec.ofChange fnExactAllowedNextSpec)

/-- ITS FALSE NEIGHBOUR: 'it returns false'. Refute it at one input. -/
def fnExactAllowedNextWrong : ChangeSpec := { name := "fnExactAllowedNext", fn := fun _ => fun
  | [d1, d2, d3, d4] => { results := [.lit (.bool false)], args := [d1, d2, d3, d4] }
  | _ => none }
def FnExactAllowedNextWrongFalsely : Prop := fnExactAllowedNextRow.holds Try.pinned (OpenSpec.ofChange fnExactAllowedNextWrong)

/-- 'laws.FnExactTripleUnder': WHATEVER THE INPUT: true; the input reads as it did. -/
def fnExactTripleUnderSpec : ChangeSpec := { name := "fnExactTripleUnder", fn := fun _ => fun
  | [d1, d2, d3] => { results := [.lit (.bool true)], args := [d1, d2, d3] }
  | _ => none }
def fnExactTripleUnderRow : OpenClaim := { program := "ytlmgmdkelbdmgaa", sum := "ef2cd4b8e6edd5cc0aab6c36e05e87c5ba5c47dda0928992ea23c97d39fa9e76", func := "loop.example/g01101/laws.FnExactTripleUnder", spec := "fnExactTripleUnder", unfollowed := true, recurses := true, loops := true, apart := false }
def FnExactTripleUnderSaid : Prop := fnExactTripleUnderRow.holds Try.pinned (OpenSpec.ofChange fnExactTripleUnderSpec)

/-- ITS FALSE NEIGHBOUR: 'it returns false'. Refute it at one input. -/
def fnExactTripleUnderWrong : ChangeSpec := { name := "fnExactTripleUnder", fn := fun _ => fun
  | [d1, d2, d3] => { results := [.lit (.bool false)], args := [d1, d2, d3] }
  | _ => none }
def FnExactTripleUnderWrongFalsely : Prop := fnExactTripleUnderRow.holds Try.pinned (OpenSpec.ofChange fnExactTripleUnderWrong)

/- THE SECOND FORM. 'bulk': how many values and letters a reading holds, each counted each time it is reached (what is shared counts as often as it is met; a slice's spare places count too). A statement '..UptoSaid' is the law's where the arguments, and the package variables that the reading takes, are together of bulk at most 1048576: NARROWER than '..Said'. Prove '..Said' where nothing that the law and all that it calls make is longer than what came in: it says more and counts as full. Else prove '..UptoSaid'. A law counts once. -/
mutual
def uptoBulk {H : Type} : DataW H → Nat
  | .lit (.string bytes) => bytes.length + 1
  | .lit _ => 1
  | .nil => 1
  | .ptr d => uptoBulk d + 1
  | .slice elems spare => uptoBulkAll elems + uptoBulkAll spare + 1
  | .agg parts => uptoBulkAll parts + 1
  | .iface _ d => uptoBulk d + 1
  | .map entries => uptoBulkEntries entries + 1
  | .held _ => 1
def uptoBulkAll {H : Type} : List (DataW H) → Nat
  | [] => 0
  | d :: r => uptoBulk d + uptoBulkAll r
def uptoBulkEntries {H : Type} : List (Lit × DataW H) → Nat
  | [] => 0
  | x :: r => uptoBulkEntry x + uptoBulkEntries r
def uptoBulkEntry {H : Type} : Lit × DataW H → Nat
  | (.string bytes, d) => bytes.length + uptoBulk d + 1
  | (_, d) => uptoBulk d + 1
 end
def uptoSmall : (H : Type) → List (DataW H) → Bool := fun _ ds => decide (uptoBulkAll ds ≤ 1048576)
def OpenSpec.upto (s : _root_.Go.ChangeSpec) : _root_.Go.OpenSpec := { _root_.Go.OpenSpec.ofChange s with cond := some uptoSmall }

/-- 'laws.FnExactValidTriple', WHERE WHAT IT READS IS OF BULK AT MOST 1048576: true; the input reads as it did. -/
def fnExactValidTripleUptoRow : OpenClaim := { program := "ytlmgmdkelbdmgaa", sum := "ef2cd4b8e6edd5cc0aab6c36e05e87c5ba5c47dda0928992ea23c97d39fa9e76", func := "loop.example/g01101/laws.FnExactValidTriple", spec := "fnExactValidTriple", recurses := true, loops := true, apart := false, narrowed := true }
def FnExactValidTripleUptoSaid : Prop := fnExactValidTripleUptoRow.holds Try.pinned (OpenSpec.upto fnExactValidTripleSpec)

/-- 'laws.FnExactModelsPremises', WHERE WHAT IT READS IS OF BULK AT MOST 1048576: true; the input reads as it did. -/
def fnExactModelsPremisesUptoRow : OpenClaim := { program := "ytlmgmdkelbdmgaa", sum := "ef2cd4b8e6edd5cc0aab6c36e05e87c5ba5c47dda0928992ea23c97d39fa9e76", func := "loop.example/g01101/laws.FnExactModelsPremises", spec := "fnExactModelsPremises", recurses := true, loops := true, apart := false, narrowed := true }
def FnExactModelsPremisesUptoSaid : Prop := fnExactModelsPremisesUptoRow.holds Try.pinned (OpenSpec.upto fnExactModelsPremisesSpec)

/-- 'laws.FnExactAllowedNext', WHERE WHAT IT READS IS OF BULK AT MOST 1048576: true; the input reads as it did. -/
def fnExactAllowedNextUptoRow : OpenClaim := { program := "ytlmgmdkelbdmgaa", sum := "ef2cd4b8e6edd5cc0aab6c36e05e87c5ba5c47dda0928992ea23c97d39fa9e76", func := "loop.example/g01101/laws.FnExactAllowedNext", spec := "fnExactAllowedNext", recurses := true, loops := true, apart := false, narrowed := true }
def FnExactAllowedNextUptoSaid : Prop := fnExactAllowedNextUptoRow.holds Try.pinned (OpenSpec.upto fnExactAllowedNextSpec)

/-- 'laws.FnExactTripleUnder', WHERE WHAT IT READS IS OF BULK AT MOST 1048576: true; the input reads as it did. -/
def fnExactTripleUnderUptoRow : OpenClaim := { program := "ytlmgmdkelbdmgaa", sum := "ef2cd4b8e6edd5cc0aab6c36e05e87c5ba5c47dda0928992ea23c97d39fa9e76", func := "loop.example/g01101/laws.FnExactTripleUnder", spec := "fnExactTripleUnder", unfollowed := true, recurses := true, loops := true, apart := false, narrowed := true }
def FnExactTripleUnderUptoSaid : Prop := fnExactTripleUnderUptoRow.holds Try.pinned (OpenSpec.upto fnExactTripleUnderSpec)

end Rows
end Go.Proofs.Ytlmgmdkelbdmgaa
