/-
  DERIVED. GIVEN WITH THE SEED: THE CARDS: each row of YtmdefiphdgcijaaDoorRows.lean that lists a variable, with what it lists TIED to the program's text (the seventh form; the later family's looks); each row that meets fmt, with fmt's text TOLD by the authors' own Lean function (tested against real Go, not proved from fmt's source: count such statements apart). THE CARD IS WHAT COUNTS. Prove the row's statement (the work); the ties are given (YtmdefiphdgcijaaDoorTie.lean); close each card by the builder's one call (the guide's Derived/Test/ToyasCard.lean, 'card_holds'). Laid BY PROGRAM, IN A SANDBOX (cutbox-door.mjs). By AI agents, Wed Nov 11 2026. No macro, syntax, notation, axiom, sorry.
-/
import Derived.Test.YtmdefiphdgcijaaDoorRows
import GoSem.ClaimSeven
namespace Go.Proofs.YtmdefiphdgcijaaDoor
namespace Rows

/-- THE TIED CARD OF 'laws.FnExactReadAutomaton'. -/
def fnExactReadAutomatonCard : Claim7 := { stood := { row := fnExactReadAutomatonRow, standIns := [], harness := (true, "ab4b3b1452be53bdd5c8cfbf0b5fe0d20dd8756beec3137cba2949ce47f50644"), looks := false }, kinds := [], alts := [], laidByText := true, laidKinds := [.data, .data, .data, .data, .pinned], laidTests := true, laidLooks := .later }
def FnExactReadAutomatonCardSaid : Prop := Claim7.holds Tryd.pinned (.plain (OpenSpec.ofChange fnExactReadAutomatonSpec)) fnExactReadAutomatonCard

/-- THE SECOND FORM's CARD OF 'laws.FnExactReadAutomaton'. -/
def fnExactReadAutomatonUptoCard : Claim7 := { stood := { row := fnExactReadAutomatonUptoRow, standIns := [], harness := (true, "ab4b3b1452be53bdd5c8cfbf0b5fe0d20dd8756beec3137cba2949ce47f50644"), looks := false }, kinds := [], alts := [], laidByText := true, laidKinds := [.data, .data, .data, .data, .pinned], laidTests := true, laidLooks := .later }
def FnExactReadAutomatonUptoCardSaid : Prop := Claim7.holds Tryd.pinned (.plain (OpenSpec.upto fnExactReadAutomatonSpec)) fnExactReadAutomatonUptoCard
end Rows
end Go.Proofs.YtmdefiphdgcijaaDoor
