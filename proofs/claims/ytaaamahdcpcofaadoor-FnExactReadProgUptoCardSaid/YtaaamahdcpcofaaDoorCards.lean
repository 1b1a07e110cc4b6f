/-
  DERIVED. GIVEN WITH THE SEED: THE CARDS: each row of YtaaamahdcpcofaaDoorRows.lean that lists a variable, with what it lists TIED to the program's text (the seventh form; the later family's looks); each row that meets fmt, with fmt's text TOLD by the authors' own Lean function (tested against real Go, not proved from fmt's source: count such statements apart). THE CARD IS WHAT COUNTS. Prove the row's statement (the work); the ties are given (YtaaamahdcpcofaaDoorTie.lean); close each card by the builder's one call (the guide's Derived/Test/ToyasCard.lean, 'card_holds'). Laid BY PROGRAM, IN A SANDBOX (cutbox-door.mjs). By AI agents, Wed Nov 11 2026. No macro, syntax, notation, axiom, sorry.
-/
import Derived.Test.YtaaamahdcpcofaaDoorRows
import GoSem.ClaimSeven
namespace Go.Proofs.YtaaamahdcpcofaaDoor
namespace Rows

/-- THE TIED CARD OF 'laws.FnExactReadProg'. -/
def fnExactReadProgCard : Claim7 := { stood := { row := fnExactReadProgRow, standIns := [], harness := (true, "b5536d305a6f60c99fbb7bd729fbcde7074509bb929b9a9a9a19337605c5c528"), looks := false }, kinds := [], alts := [], laidByText := true, laidKinds := [.data, .data, .data], laidTests := true, laidLooks := .later }
def FnExactReadProgCardSaid : Prop := Claim7.holds Tryd.pinned (.plain (OpenSpec.ofChange fnExactReadProgSpec)) fnExactReadProgCard

/-- THE SECOND FORM's CARD OF 'laws.FnExactReadProg'. -/
def fnExactReadProgUptoCard : Claim7 := { stood := { row := fnExactReadProgUptoRow, standIns := [], harness := (true, "b5536d305a6f60c99fbb7bd729fbcde7074509bb929b9a9a9a19337605c5c528"), looks := false }, kinds := [], alts := [], laidByText := true, laidKinds := [.data, .data, .data], laidTests := true, laidLooks := .later }
def FnExactReadProgUptoCardSaid : Prop := Claim7.holds Tryd.pinned (.plain (OpenSpec.upto fnExactReadProgSpec)) fnExactReadProgUptoCard
end Rows
end Go.Proofs.YtaaamahdcpcofaaDoor
