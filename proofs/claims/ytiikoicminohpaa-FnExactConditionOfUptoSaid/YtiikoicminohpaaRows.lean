/-
  NARROWER THAN 'FOR EVERY INPUT', by the rows' own cells (each row's printed sentence says how): FnExactDerivationSize: loops · FnExactImplies: loops · FnExactValidPremises: loops · FnExactAtomsOf: loops · FnExactPremiseExpr: loops.
  DERIVED. THE GIVEN ROWS OF THIS SEAT. 6 by the template 'for every input the law returns true; each argument reads behind the call as it read before'; 0 by the template 'total and deterministic' (their statements: YtiikoicminohpaaTotals.lean).
  GIVEN WITH THE SEED: the statements are not yours to turn. If you find one false, say at which input.
  Laid BY PROGRAM, IN A SANDBOX (cutbox-rows.mjs): the forced cells as the released guide's own fill.sh prints them over the translation db28e305240b2c44… (all of the seat's roots in one cut). By AI agents, Wed Nov 11 2026. No macro, syntax, notation, axiom, sorry.
-/
import Derived.Test.YtiikoicminohpaaChecked
import GoSem.Claim
import GoSem.ClaimJoined
import GoSem.ClaimMapViews
import Derived.JoinedTies
import Derived.KernelRfl
namespace Go.Proofs.Ytiikoicminohpaa
/- THE CELL 'sum', in the pinned program and in every row, IS THE sha256 OF THE DUMP (.gsa) THAT YtiikoicminohpaaProg.lean LOADS. Nothing in Lean hashes anything: it is a label: what it is worth is what the hold of that sum in a sandbox is worth. -/
noncomputable def Try.pinned : Pinned := { name := "ytiikoicminohpaa", sum := "db28e305240b2c4404d2a1385bce6606869a28bde05b7091f34637d92566270e", checked := Try.checked }
namespace Rows
def none {H : Type} : Left H := { results := [], args := [] }

/-- 'laws.FnExactConditionOf': WHATEVER THE INPUT: true; the input reads as it did. -/
def fnExactConditionOfSpec : ChangeSpec := { name := "fnExactConditionOf", fn := fun _ => fun
  | [d1, d2] => { results := [.lit (.bool true)], args := [d1, d2] }
  | _ => none }
def fnExactConditionOfRow : OpenClaim := { program := "ytiikoicminohpaa", sum := "db28e305240b2c4404d2a1385bce6606869a28bde05b7091f34637d92566270e", func := "loop.example/g01101/laws.FnExactConditionOf", spec := "fnExactConditionOf", recurses := true, apart := false }
def FnExactConditionOfSaid : Prop := fnExactConditionOfRow.holds Try.pinned (OpenSpec.ofChange fnExactConditionOfSpec)

/-- ITS FALSE NEIGHBOUR: 'it returns false'. Refute it at one input. -/
def fnExactConditionOfWrong : ChangeSpec := { name := "fnExactConditionOf", fn := fun _ => fun
  | [d1, d2] => { results := [.lit (.bool false)], args := [d1, d2] }
  | _ => none }
def FnExactConditionOfWrongFalsely : Prop := fnExactConditionOfRow.holds Try.pinned (OpenSpec.ofChange fnExactConditionOfWrong)

/-- 'laws.FnExactDerivationSize': WHATEVER THE INPUT: true; the input reads as it did. -/
def fnExactDerivationSizeSpec : ChangeSpec := { name := "fnExactDerivationSize", fn := fun _ => fun
  | [d] => { results := [.lit (.bool true)], args := [d] }
  | _ => none }
def fnExactDerivationSizeRow : OpenClaim := { program := "ytiikoicminohpaa", sum := "db28e305240b2c4404d2a1385bce6606869a28bde05b7091f34637d92566270e", func := "loop.example/g01101/laws.FnExactDerivationSize", spec := "fnExactDerivationSize", recurses := true, loops := true, apart := false }
def FnExactDerivationSizeSaid : Prop := fnExactDerivationSizeRow.holds Try.pinned (OpenSpec.ofChange fnExactDerivationSizeSpec)

/-- ITS FALSE NEIGHBOUR: 'it returns false'. Refute it at one input. -/
def fnExactDerivationSizeWrong : ChangeSpec := { name := "fnExactDerivationSize", fn := fun _ => fun
  | [d] => { results := [.lit (.bool false)], args := [d] }
  | _ => none }
def FnExactDerivationSizeWrongFalsely : Prop := fnExactDerivationSizeRow.holds Try.pinned (OpenSpec.ofChange fnExactDerivationSizeWrong)

/-- 'laws.FnExactImplies': WHATEVER THE INPUT: true; the input reads as it did. -/
def fnExactImpliesSpec : ChangeSpec := { name := "fnExactImplies", fn := fun _ => fun
  | [d1, d2, d3] => { results := [.lit (.bool true)], args := [d1, d2, d3] }
  | _ => none }
def fnExactImpliesRow : OpenClaim := { program := "ytiikoicminohpaa", sum := "db28e305240b2c4404d2a1385bce6606869a28bde05b7091f34637d92566270e", func := "loop.example/g01101/laws.FnExactImplies", spec := "fnExactImplies", recurses := true, loops := true, apart := false }
def FnExactImpliesSaid : Prop := fnExactImpliesRow.holds Try.pinned (OpenSpec.ofChange fnExactImpliesSpec)

/-- ITS FALSE NEIGHBOUR: 'it returns false'. Refute it at one input. -/
def fnExactImpliesWrong : ChangeSpec := { name := "fnExactImplies", fn := fun _ => fun
  | [d1, d2, d3] => { results := [.lit (.bool false)], args := [d1, d2, d3] }
  | _ => none }
def FnExactImpliesWrongFalsely : Prop := fnExactImpliesRow.holds Try.pinned (OpenSpec.ofChange fnExactImpliesWrong)

/-- 'laws.FnExactValidPremises': WHATEVER THE INPUT: true; the input reads as it did. -/
def fnExactValidPremisesSpec : ChangeSpec := { name := "fnExactValidPremises", fn := fun _ => fun
  | [d1, d2] => { results := [.lit (.bool true)], args := [d1, d2] }
  | _ => none }
def fnExactValidPremisesRow : OpenClaim := { program := "ytiikoicminohpaa", sum := "db28e305240b2c4404d2a1385bce6606869a28bde05b7091f34637d92566270e", func := "loop.example/g01101/laws.FnExactValidPremises", spec := "fnExactValidPremises", recurses := true, loops := true, apart := false }
def FnExactValidPremisesSaid : Prop := fnExactValidPremisesRow.holds Try.pinned (OpenSpec.ofChange fnExactValidPremisesSpec)

/-- ITS FALSE NEIGHBOUR: 'it returns false'. Refute it at one input. -/
def fnExactValidPremisesWrong : ChangeSpec := { name := "fnExactValidPremises", fn := fun _ => fun
  | [d1, d2] => { results := [.lit (.bool false)], args := [d1, d2] }
  | _ => none }
def FnExactValidPremisesWrongFalsely : Prop := fnExactValidPremisesRow.holds Try.pinned (OpenSpec.ofChange fnExactValidPremisesWrong)

/-- 'laws.FnExactAtomsOf': WHATEVER THE INPUT: true; the input reads as it did. -/
def fnExactAtomsOfSpec : ChangeSpec := { name := "fnExactAtomsOf", fn := fun _ => fun
  | [d1, d2] => { results := [.lit (.bool true)], args := [d1, d2] }
  | _ => none }
def fnExactAtomsOfRow : OpenClaim := { program := "ytiikoicminohpaa", sum := "db28e305240b2c4404d2a1385bce6606869a28bde05b7091f34637d92566270e", func := "loop.example/g01101/laws.FnExactAtomsOf", spec := "fnExactAtomsOf", recurses := true, loops := true, apart := false }
def FnExactAtomsOfSaid : Prop := fnExactAtomsOfRow.holds Try.pinned (OpenSpec.ofChange fnExactAtomsOfSpec)

/-- ITS FALSE NEIGHBOUR: 'it returns false'. Refute it at one input. -/
def fnExactAtomsOfWrong : ChangeSpec := { name := "fnExactAtomsOf", fn := fun _ => fun
  | [d1, d2] => { results := [.lit (.bool false)], args := [d1, d2] }
  | _ => none }
def FnExactAtomsOfWrongFalsely : Prop := fnExactAtomsOfRow.holds Try.pinned (OpenSpec.ofChange fnExactAtomsOfWrong)

/-- 'laws.FnExactPremiseExpr': WHATEVER THE INPUT: true; the input reads as it did. -/
def fnExactPremiseExprSpec : ChangeSpec := { name := "fnExactPremiseExpr", fn := fun _ => fun
  | [d1, d2] => { results := [.lit (.bool true)], args := [d1, d2] }
  | _ => none }
def fnExactPremiseExprRow : OpenClaim := { program := "ytiikoicminohpaa", sum := "db28e305240b2c4404d2a1385bce6606869a28bde05b7091f34637d92566270e", func := "loop.example/g01101/laws.FnExactPremiseExpr", spec := "fnExactPremiseExpr", recurses := true, loops := true, apart := false }
def FnExactPremiseExprSaid : Prop := fnExactPremiseExprRow.holds Try.pinned (OpenSpec.ofChange fnExactPremiseExprSpec)

/-- ITS FALSE NEIGHBOUR: 'it returns false'. Refute it at one input. -/
def fnExactPremiseExprWrong : ChangeSpec := { name := "fnExactPremiseExpr", fn := fun _ => fun
  | [d1, d2] => { results := [.lit (.bool false)], args := [d1, d2] }
  | _ => none }
def FnExactPremiseExprWrongFalsely : Prop := fnExactPremiseExprRow.holds Try.pinned (OpenSpec.ofChange fnExactPremiseExprWrong)

/- THE SECOND FORM. 'bulk': how many values and letters a reading holds, each counted each time it is reached (what is shared counts as often as it is met; a slice's spare places count too). A statement '..UptoSaid' is the law's where the arguments, and the package variables that the reading takes, are together of bulk at most 1048576: NARROWER than '..Said'. Prove '..Said' where nothing that the law and all that it calls make is longer than what came in: it says more and counts as full. Else prove '..UptoSaid'. A law counts once. -/
mutual
def uptoBulk {H : Type} : DataW H → Nat
  | .lit (.string bytes) => bytes.length + 1
  | .lit _ => 1
  | .nil => 1
  | .ptr d => uptoBulk d + 1
  | .slice elems spare => uptoBulkAll elems + uptoBulkAll spare + 1
  | .agg parts => uptoBulkAll parts + 1
  | .iface _ d => uptoBulk d + 1
  | .map entries => uptoBulkEntries entries + 1
  | .held _ => 1
def uptoBulkAll {H : Type} : List (DataW H) → Nat
  | [] => 0
  | d :: r => uptoBulk d + uptoBulkAll r
def uptoBulkEntries {H : Type} : List (Lit × DataW H) → Nat
  | [] => 0
  | x :: r => uptoBulkEntry x + uptoBulkEntries r
def uptoBulkEntry {H : Type} : Lit × DataW H → Nat
  | (.string bytes, d) => bytes.length + uptoBulk d + 1
  | (_, d) => uptoBulk d + 1
 end
def uptoSmall : (H : Type) → List (DataW H) → Bool := fun _ ds => decide (uptoBulkAll ds ≤ 1048576)
def OpenSpec.upto (s : _root_.Go.ChangeSpec) : _root_.Go.OpenSpec := { _root_.Go.OpenSpec.ofChange s with cond := some uptoSmall }

/-- 'laws.FnExactConditionOf', WHERE WHAT IT READS IS OF BULK AT MOST 1048576: true; the input reads as it did. -/
def fnExactConditionOfUptoRow : OpenClaim := { program := "ytiikoicminohpaa", sum := "db28e305240b2c4404d2a1385bce6606869a28bde05b7091f34637d92566270e", func := "loop.example/g01101/laws.FnExactConditionOf", spec := "fnExactConditionOf", recurses := true, apart := false, narrowed := true }
def FnExactConditionOfUptoSaid : Prop := fnExactConditionOfUptoRow.holds Try.pinned (OpenSpec.upto fnExactConditionOfSpec)

/-- 'laws.FnExactDerivationSize', WHERE WHAT IT READS IS OF BULK AT MOST 1048576: true; the input reads as it did. -/
def fnExactDerivationSizeUptoRow : OpenClaim := { program := "ytiikoicminohpaa", sum := "db28e305240b2c4404d2a1385bce6606869a28bde05b7091f34637d92566270e", func := "loop.example/g01101/laws.FnExactDerivationSize", spec := "fnExactDerivationSize", recurses := true, loops := true, apart := false, narrowed := true }
def FnExactDerivationSizeUptoSaid : Prop := fnExactDerivationSizeUptoRow.holds Try.pinned (OpenSpec.upto fnExactDerivationSizeSpec)

/-- 'laws.FnExactImplies', WHERE WHAT IT READS IS OF BULK AT MOST 1048576: true; the input reads as it did. -/
def fnExactImpliesUptoRow : OpenClaim := { program := "ytiikoicminohpaa", sum := "db28e305240b2c4404d2a1385bce6606869a28bde05b7091f34637d92566270e", func := "loop.example/g01101/laws.FnExactImplies", spec := "fnExactImplies", recurses := true, loops := true, apart := false, narrowed := true }
def FnExactImpliesUptoSaid : Prop := fnExactImpliesUptoRow.holds Try.pinned (OpenSpec.upto fnExactImpliesSpec)

/-- 'laws.FnExactValidPremises', WHERE WHAT IT READS IS OF BULK AT MOST 1048576: true; the input reads as it did. -/
def fnExactValidPremisesUptoRow : OpenClaim := { program := "ytiikoicminohpaa", sum := "db28e305240b2c4404d2a1385bce6606869a28bde05b7091f34637d92566270e", func := "loop.example/g01101/laws.FnExactValidPremises", spec := "fnExactValidPremises", recurses := true, loops := true, apart := false, narrowed := true }
def FnExactValidPremisesUptoSaid : Prop := fnExactValidPremisesUptoRow.holds Try.pinned (OpenSpec.upto fnExactValidPremisesSpec)

/-- 'laws.FnExactAtomsOf', WHERE WHAT IT READS IS OF BULK AT MOST 1048576: true; the input reads as it did. -/
def fnExactAtomsOfUptoRow : OpenClaim := { program := "ytiikoicminohpaa", sum := "db28e305240b2c4404d2a1385bce6606869a28bde05b7091f34637d92566270e", func := "loop.example/g01101/laws.FnExactAtomsOf", spec := "fnExactAtomsOf", recurses := true, loops := true, apart := false, narrowed := true }
def FnExactAtomsOfUptoSaid : Prop := fnExactAtomsOfUptoRow.holds Try.pinned (OpenSpec.upto fnExactAtomsOfSpec)

/-- 'laws.FnExactPremiseExpr', WHERE WHAT IT READS IS OF BULK AT MOST 1048576: true; the input reads as it did. -/
def fnExactPremiseExprUptoRow : OpenClaim := { program := "ytiikoicminohpaa", sum := "db28e305240b2c4404d2a1385bce6606869a28bde05b7091f34637d92566270e", func := "loop.example/g01101/laws.FnExactPremiseExpr", spec := "fnExactPremiseExpr", recurses := true, loops := true, apart := false, narrowed := true }
def FnExactPremiseExprUptoSaid : Prop := fnExactPremiseExprUptoRow.holds Try.pinned (OpenSpec.upto fnExactPremiseExprSpec)

end Rows
end Go.Proofs.Ytiikoicminohpaa
