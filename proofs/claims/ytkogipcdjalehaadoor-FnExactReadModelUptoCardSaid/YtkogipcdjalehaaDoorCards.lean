/-
  DERIVED. GIVEN WITH THE SEED: THE CARDS: each row of YtkogipcdjalehaaDoorRows.lean that lists a variable, with what it lists TIED to the program's text (the seventh form; the later family's looks); each row that meets fmt, with fmt's text TOLD by the authors' own Lean function (tested against real Go, not proved from fmt's source: count such statements apart). THE CARD IS WHAT COUNTS. Prove the row's statement (the work); the ties are given (YtkogipcdjalehaaDoorTie.lean); close each card by the builder's one call (the guide's Derived/Test/ToyasCard.lean, 'card_holds'). Laid BY PROGRAM, IN A SANDBOX (cutbox-door.mjs). By AI agents, Wed Nov 11 2026. No macro, syntax, notation, axiom, sorry.
-/
import Derived.Test.YtkogipcdjalehaaDoorRows
import GoSem.ClaimSeven
namespace Go.Proofs.YtkogipcdjalehaaDoor
namespace Rows

/-- THE TIED CARD OF 'laws.FnExactReadWord'. -/
def fnExactReadWordCard : Claim7 := { stood := { row := fnExactReadWordRow, standIns := [], harness := (true, "321ac17026cc26e0d152fb6293260efd8b8e9de1e33104c3c8e62dfadc68582d"), looks := false }, kinds := [], alts := [], laidByText := true, laidKinds := [.data, .pinned], laidTests := true, laidLooks := .later }
def FnExactReadWordCardSaid : Prop := Claim7.holds Tryd.pinned (.plain (OpenSpec.ofChange fnExactReadWordSpec)) fnExactReadWordCard

/-- THE TIED CARD OF 'laws.FnExactReadExpr'. -/
def fnExactReadExprCard : Claim7 := { stood := { row := fnExactReadExprRow, standIns := [], harness := (true, "321ac17026cc26e0d152fb6293260efd8b8e9de1e33104c3c8e62dfadc68582d"), looks := false }, kinds := [], alts := [], laidByText := true, laidKinds := [.data, .data, .data], laidTests := true, laidLooks := .later }
def FnExactReadExprCardSaid : Prop := Claim7.holds Tryd.pinned (.plain (OpenSpec.ofChange fnExactReadExprSpec)) fnExactReadExprCard

/-- THE TIED CARD OF 'laws.FnExactTripleText'. -/
def fnExactTripleTextCard : Claim7 := { stood := { row := fnExactTripleTextRow, standIns := [], harness := (true, "321ac17026cc26e0d152fb6293260efd8b8e9de1e33104c3c8e62dfadc68582d"), looks := false }, kinds := [], alts := [], laidByText := true, laidKinds := [.data, .data, .data], laidTests := true, laidLooks := .later }
def FnExactTripleTextCardSaid : Prop := Claim7.holds Tryd.pinned (.plain (OpenSpec.ofChange fnExactTripleTextSpec)) fnExactTripleTextCard

/-- THE TIED CARD OF 'laws.FnExactReadModel'. -/
def fnExactReadModelCard : Claim7 := { stood := { row := fnExactReadModelRow, standIns := [], harness := (true, "321ac17026cc26e0d152fb6293260efd8b8e9de1e33104c3c8e62dfadc68582d"), looks := false }, kinds := [], alts := [], laidByText := true, laidKinds := [.data, .data, .data, .data, .pinned], laidTests := true, laidLooks := .later }
def FnExactReadModelCardSaid : Prop := Claim7.holds Tryd.pinned (.plain (OpenSpec.ofChange fnExactReadModelSpec)) fnExactReadModelCard

/-- THE TIED CARD OF 'laws.FnExactReadEquation'. -/
def fnExactReadEquationCard : Claim7 := { stood := { row := fnExactReadEquationRow, standIns := [], harness := (true, "321ac17026cc26e0d152fb6293260efd8b8e9de1e33104c3c8e62dfadc68582d"), looks := false }, kinds := [], alts := [], laidByText := true, laidKinds := [.data, .data, .data], laidTests := true, laidLooks := .later }
def FnExactReadEquationCardSaid : Prop := Claim7.holds Tryd.pinned (.plain (OpenSpec.ofChange fnExactReadEquationSpec)) fnExactReadEquationCard

/-- THE SECOND FORM's CARD OF 'laws.FnExactReadWord'. -/
def fnExactReadWordUptoCard : Claim7 := { stood := { row := fnExactReadWordUptoRow, standIns := [], harness := (true, "321ac17026cc26e0d152fb6293260efd8b8e9de1e33104c3c8e62dfadc68582d"), looks := false }, kinds := [], alts := [], laidByText := true, laidKinds := [.data, .pinned], laidTests := true, laidLooks := .later }
def FnExactReadWordUptoCardSaid : Prop := Claim7.holds Tryd.pinned (.plain (OpenSpec.upto fnExactReadWordSpec)) fnExactReadWordUptoCard

/-- THE SECOND FORM's CARD OF 'laws.FnExactReadExpr'. -/
def fnExactReadExprUptoCard : Claim7 := { stood := { row := fnExactReadExprUptoRow, standIns := [], harness := (true, "321ac17026cc26e0d152fb6293260efd8b8e9de1e33104c3c8e62dfadc68582d"), looks := false }, kinds := [], alts := [], laidByText := true, laidKinds := [.data, .data, .data], laidTests := true, laidLooks := .later }
def FnExactReadExprUptoCardSaid : Prop := Claim7.holds Tryd.pinned (.plain (OpenSpec.upto fnExactReadExprSpec)) fnExactReadExprUptoCard

/-- THE SECOND FORM's CARD OF 'laws.FnExactTripleText'. -/
def fnExactTripleTextUptoCard : Claim7 := { stood := { row := fnExactTripleTextUptoRow, standIns := [], harness := (true, "321ac17026cc26e0d152fb6293260efd8b8e9de1e33104c3c8e62dfadc68582d"), looks := false }, kinds := [], alts := [], laidByText := true, laidKinds := [.data, .data, .data], laidTests := true, laidLooks := .later }
def FnExactTripleTextUptoCardSaid : Prop := Claim7.holds Tryd.pinned (.plain (OpenSpec.upto fnExactTripleTextSpec)) fnExactTripleTextUptoCard

/-- THE SECOND FORM's CARD OF 'laws.FnExactReadModel'. -/
def fnExactReadModelUptoCard : Claim7 := { stood := { row := fnExactReadModelUptoRow, standIns := [], harness := (true, "321ac17026cc26e0d152fb6293260efd8b8e9de1e33104c3c8e62dfadc68582d"), looks := false }, kinds := [], alts := [], laidByText := true, laidKinds := [.data, .data, .data, .data, .pinned], laidTests := true, laidLooks := .later }
def FnExactReadModelUptoCardSaid : Prop := Claim7.holds Tryd.pinned (.plain (OpenSpec.upto fnExactReadModelSpec)) fnExactReadModelUptoCard

/-- THE SECOND FORM's CARD OF 'laws.FnExactReadEquation'. -/
def fnExactReadEquationUptoCard : Claim7 := { stood := { row := fnExactReadEquationUptoRow, standIns := [], harness := (true, "321ac17026cc26e0d152fb6293260efd8b8e9de1e33104c3c8e62dfadc68582d"), looks := false }, kinds := [], alts := [], laidByText := true, laidKinds := [.data, .data, .data], laidTests := true, laidLooks := .later }
def FnExactReadEquationUptoCardSaid : Prop := Claim7.holds Tryd.pinned (.plain (OpenSpec.upto fnExactReadEquationSpec)) fnExactReadEquationUptoCard
end Rows
end Go.Proofs.YtkogipcdjalehaaDoor
