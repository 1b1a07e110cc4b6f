/-
  DERIVED. GIVEN WITH THE SEED: THE CARDS: each row of YtncejbehidimmaaGreatDoorRows.lean that lists a variable, with what it lists TIED to the program's text (the seventh form; the later family's looks); each row that meets fmt, with fmt's text TOLD by the authors' own Lean function (tested against real Go, not proved from fmt's source: count such statements apart). THE CARD IS WHAT COUNTS. Prove the row's statement (the work); the ties are given (YtncejbehidimmaaGreatDoorTie.lean); close each card by the builder's one call (the guide's Derived/Test/ToyasCard.lean, 'card_holds'). Laid BY PROGRAM, IN A SANDBOX (cutbox-door.mjs). By AI agents, Wed Nov 11 2026. No macro, syntax, notation, axiom, sorry.
-/
import Derived.Test.YtncejbehidimmaaGreatDoorRows
import GoSem.ClaimSeven
namespace Go.Proofs.YtncejbehidimmaaGreatDoor
namespace Rows

/-- THE TIED CARD OF 'laws.FnExactEqualUnder'. -/
def fnExactEqualUnderCard : Claim7 := { stood := { row := fnExactEqualUnderRow, standIns := [], harness := (true, "f7058364d71eeab8fb4de0d27ca9db7f049565bc7ddc02149a2a35434549fd81"), looks := false }, kinds := [], alts := [], laidByText := true, laidKinds := [.data, .data, .data], laidTests := true, laidLooks := .later }
def FnExactEqualUnderCardSaid : Prop := Claim7.holds Tryz.pinned (.plain (OpenSpec.ofChange fnExactEqualUnderSpec)) fnExactEqualUnderCard

/-- THE TIED CARD OF 'laws.FnExactIsDeterministic'. -/
def fnExactIsDeterministicCard : Claim7 := { stood := { row := fnExactIsDeterministicRow, standIns := [], harness := (true, "f7058364d71eeab8fb4de0d27ca9db7f049565bc7ddc02149a2a35434549fd81"), looks := false }, kinds := [], alts := [], laidByText := true, laidKinds := [.data, .data, .data], laidTests := true, laidLooks := .later }
def FnExactIsDeterministicCardSaid : Prop := Claim7.holds Tryz.pinned (.plain (OpenSpec.ofChange fnExactIsDeterministicSpec)) fnExactIsDeterministicCard

/-- THE SECOND FORM's CARD OF 'laws.FnExactEqualUnder'. -/
def fnExactEqualUnderUptoCard : Claim7 := { stood := { row := fnExactEqualUnderUptoRow, standIns := [], harness := (true, "f7058364d71eeab8fb4de0d27ca9db7f049565bc7ddc02149a2a35434549fd81"), looks := false }, kinds := [], alts := [], laidByText := true, laidKinds := [.data, .data, .data], laidTests := true, laidLooks := .later }
def FnExactEqualUnderUptoCardSaid : Prop := Claim7.holds Tryz.pinned (.plain (OpenSpec.upto fnExactEqualUnderSpec)) fnExactEqualUnderUptoCard

/-- THE SECOND FORM's CARD OF 'laws.FnExactIsDeterministic'. -/
def fnExactIsDeterministicUptoCard : Claim7 := { stood := { row := fnExactIsDeterministicUptoRow, standIns := [], harness := (true, "f7058364d71eeab8fb4de0d27ca9db7f049565bc7ddc02149a2a35434549fd81"), looks := false }, kinds := [], alts := [], laidByText := true, laidKinds := [.data, .data, .data], laidTests := true, laidLooks := .later }
def FnExactIsDeterministicUptoCardSaid : Prop := Claim7.holds Tryz.pinned (.plain (OpenSpec.upto fnExactIsDeterministicSpec)) fnExactIsDeterministicUptoCard
end Rows
end Go.Proofs.YtncejbehidimmaaGreatDoor
