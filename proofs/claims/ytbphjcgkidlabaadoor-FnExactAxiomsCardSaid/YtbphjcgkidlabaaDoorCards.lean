/-
  DERIVED. GIVEN WITH THE SEED: THE CARDS: each row of YtbphjcgkidlabaaDoorRows.lean that lists a variable, with what it lists TIED to the program's text (the seventh form; the later family's looks); each row that meets fmt, with fmt's text TOLD by the authors' own Lean function (tested against real Go, not proved from fmt's source: count such statements apart). THE CARD IS WHAT COUNTS. Prove the row's statement (the work); the ties are given (YtbphjcgkidlabaaDoorTie.lean); close each card by the builder's one call (the guide's Derived/Test/ToyasCard.lean, 'card_holds'). Laid BY PROGRAM, IN A SANDBOX (cutbox-door.mjs). By AI agents, Wed Nov 11 2026. No macro, syntax, notation, axiom, sorry.
-/
import Derived.Test.YtbphjcgkidlabaaDoorRows
import GoSem.ClaimSeven
namespace Go.Proofs.YtbphjcgkidlabaaDoor
namespace Rows

/-- THE TIED CARD OF 'laws.FnExactAxioms'. -/
def fnExactAxiomsCard : Claim7 := { stood := { row := fnExactAxiomsRow, standIns := [], harness := (true, "d6dc374aa39b6c951b6e73e224cc30ae2420671cf1b18a62d59f4826c1f026c7"), looks := false }, kinds := [], alts := [], laidByText := true, laidKinds := [.data, .data, .data], laidTests := true, laidLooks := .later }
def FnExactAxiomsCardSaid : Prop := Claim7.holds Tryd.pinned (.plain (OpenSpec.ofChange fnExactAxiomsSpec)) fnExactAxiomsCard

/-- THE SECOND FORM's CARD OF 'laws.FnExactAxioms'. -/
def fnExactAxiomsUptoCard : Claim7 := { stood := { row := fnExactAxiomsUptoRow, standIns := [], harness := (true, "d6dc374aa39b6c951b6e73e224cc30ae2420671cf1b18a62d59f4826c1f026c7"), looks := false }, kinds := [], alts := [], laidByText := true, laidKinds := [.data, .data, .data], laidTests := true, laidLooks := .later }
def FnExactAxiomsUptoCardSaid : Prop := Claim7.holds Tryd.pinned (.plain (OpenSpec.upto fnExactAxiomsSpec)) fnExactAxiomsUptoCard
end Rows
end Go.Proofs.YtbphjcgkidlabaaDoor
