/-
  DERIVED. GIVEN WITH THE SEED: THE CARDS: each row of YtlpndogmpcolnaaGreatDoorRows.lean that lists a variable, with what it lists TIED to the program's text (the seventh form; the later family's looks); each row that meets fmt, with fmt's text TOLD by the authors' own Lean function (tested against real Go, not proved from fmt's source: count such statements apart). THE CARD IS WHAT COUNTS. Prove the row's statement (the work); the ties are given (YtlpndogmpcolnaaGreatDoorTie.lean); close each card by the builder's one call (the guide's Derived/Test/ToyasCard.lean, 'card_holds'). Laid BY PROGRAM, IN A SANDBOX (cutbox-door.mjs). By AI agents, Wed Nov 11 2026. No macro, syntax, notation, axiom, sorry.
-/
import Derived.Test.YtlpndogmpcolnaaGreatDoorRows
import GoSem.ClaimSeven
namespace Go.Proofs.YtlpndogmpcolnaaGreatDoor
namespace Rows

/-- THE TIED CARD OF 'laws.FnAxioms'. -/
def fnAxiomsCard : Claim7 := { stood := { row := fnAxiomsRow, standIns := [], harness := (true, "e55331b52e3e583af95689a317b5a9cd02eefeb5fda4088038d378cc3251a81a"), looks := false }, kinds := [], alts := [], laidByText := true, laidKinds := [.data, .data, .data], laidTests := true, laidLooks := .later }
def FnAxiomsCardSaid : Prop := Claim7.holds Tryz.pinned (.plain (OpenSpec.ofChange fnAxiomsSpec)) fnAxiomsCard

/-- THE SECOND FORM's CARD OF 'laws.FnAxioms'. -/
def fnAxiomsUptoCard : Claim7 := { stood := { row := fnAxiomsUptoRow, standIns := [], harness := (true, "e55331b52e3e583af95689a317b5a9cd02eefeb5fda4088038d378cc3251a81a"), looks := false }, kinds := [], alts := [], laidByText := true, laidKinds := [.data, .data, .data], laidTests := true, laidLooks := .later }
def FnAxiomsUptoCardSaid : Prop := Claim7.holds Tryz.pinned (.plain (OpenSpec.upto fnAxiomsSpec)) fnAxiomsUptoCard
end Rows
end Go.Proofs.YtlpndogmpcolnaaGreatDoor
