/-
  DERIVED. GIVEN WITH THE SEED: THE CARDS: each row of YtofnjfpeimhifaaGreatDoorRows.lean that lists a variable, with what it lists TIED to the program's text (the seventh form; the later family's looks); each row that meets fmt, with fmt's text TOLD by the authors' own Lean function (tested against real Go, not proved from fmt's source: count such statements apart). THE CARD IS WHAT COUNTS. Prove the row's statement (the work); the ties are given (YtofnjfpeimhifaaGreatDoorTie.lean); close each card by the builder's one call (the guide's Derived/Test/ToyasCard.lean, 'card_holds'). Laid BY PROGRAM, IN A SANDBOX (cutbox-door.mjs). By AI agents, Wed Nov 11 2026. No macro, syntax, notation, axiom, sorry.
-/
import Derived.Test.YtofnjfpeimhifaaGreatDoorRows
import GoSem.ClaimSeven
namespace Go.Proofs.YtofnjfpeimhifaaGreatDoor
namespace Rows

/-- THE TIED CARD OF 'laws.FnHypotheses'. -/
def fnHypothesesCard : Claim7 := { stood := { row := fnHypothesesRow, standIns := [], harness := (true, "52ff58b0989b7af7ee612e2d90d858edcc7dd41419524daf184b808e12a44d9b"), looks := false }, kinds := [], alts := [], laidByText := true, laidKinds := [.data, .data, .data], laidTests := true, laidLooks := .later }
def FnHypothesesCardSaid : Prop := Claim7.holds Tryz.pinned (.plain (OpenSpec.ofChange fnHypothesesSpec)) fnHypothesesCard

/-- THE TIED CARD OF 'laws.FnAutomaton'. -/
def fnAutomatonCard : Claim7 := { stood := { row := fnAutomatonRow, standIns := [], harness := (true, "52ff58b0989b7af7ee612e2d90d858edcc7dd41419524daf184b808e12a44d9b"), looks := false }, kinds := [], alts := [], laidByText := true, laidKinds := [.data, .data, .data, .data, .pinned], laidTests := true, laidLooks := .later }
def FnAutomatonCardSaid : Prop := Claim7.holds Tryz.pinned (.plain (OpenSpec.ofChange fnAutomatonSpec)) fnAutomatonCard

/-- THE SECOND FORM's CARD OF 'laws.FnHypotheses'. -/
def fnHypothesesUptoCard : Claim7 := { stood := { row := fnHypothesesUptoRow, standIns := [], harness := (true, "52ff58b0989b7af7ee612e2d90d858edcc7dd41419524daf184b808e12a44d9b"), looks := false }, kinds := [], alts := [], laidByText := true, laidKinds := [.data, .data, .data], laidTests := true, laidLooks := .later }
def FnHypothesesUptoCardSaid : Prop := Claim7.holds Tryz.pinned (.plain (OpenSpec.upto fnHypothesesSpec)) fnHypothesesUptoCard

/-- THE SECOND FORM's CARD OF 'laws.FnAutomaton'. -/
def fnAutomatonUptoCard : Claim7 := { stood := { row := fnAutomatonUptoRow, standIns := [], harness := (true, "52ff58b0989b7af7ee612e2d90d858edcc7dd41419524daf184b808e12a44d9b"), looks := false }, kinds := [], alts := [], laidByText := true, laidKinds := [.data, .data, .data, .data, .pinned], laidTests := true, laidLooks := .later }
def FnAutomatonUptoCardSaid : Prop := Claim7.holds Tryz.pinned (.plain (OpenSpec.upto fnAutomatonSpec)) fnAutomatonUptoCard
end Rows
end Go.Proofs.YtofnjfpeimhifaaGreatDoor
