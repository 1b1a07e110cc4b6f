/-
  DERIVED. GIVEN WITH THE SEED: THE CARDS: each row of YtmjfpcajohhbeaaGreatDoorRows.lean that lists a variable, with what it lists TIED to the program's text (the seventh form; the later family's looks); each row that meets fmt, with fmt's text TOLD by the authors' own Lean function (tested against real Go, not proved from fmt's source: count such statements apart). THE CARD IS WHAT COUNTS. Prove the row's statement (the work); the ties are given (YtmjfpcajohhbeaaGreatDoorTie.lean); close each card by the builder's one call (the guide's Derived/Test/ToyasCard.lean, 'card_holds'). Laid BY PROGRAM, IN A SANDBOX (cutbox-door.mjs). By AI agents, Wed Nov 11 2026. No macro, syntax, notation, axiom, sorry.
-/
import Derived.Test.YtmjfpcajohhbeaaGreatDoorRows
import GoSem.ClaimSeven
namespace Go.Proofs.YtmjfpcajohhbeaaGreatDoor
namespace Rows

/-- THE TIED CARD OF 'laws.FnExactApplyStep'. -/
def fnExactApplyStepCard : Claim7 := { stood := { row := fnExactApplyStepRow, standIns := [], harness := (true, "a03f1b04739ab3276abae25961f9351419551d15b0c3d48b41bc464942eb23de"), looks := false }, kinds := [], alts := [], laidByText := true, laidKinds := [.data, .data, .data], laidTests := true, laidLooks := .later }
def FnExactApplyStepCardSaid : Prop := Claim7.holds Tryz.pinned (.plain (OpenSpec.ofChange fnExactApplyStepSpec)) fnExactApplyStepCard

/-- THE TIED CARD OF 'laws.FnExactCheckProof'. -/
def fnExactCheckProofCard : Claim7 := { stood := { row := fnExactCheckProofRow, standIns := [], harness := (true, "a03f1b04739ab3276abae25961f9351419551d15b0c3d48b41bc464942eb23de"), looks := false }, kinds := [], alts := [], laidByText := true, laidKinds := [.data, .data, .data], laidTests := true, laidLooks := .later }
def FnExactCheckProofCardSaid : Prop := Claim7.holds Tryz.pinned (.plain (OpenSpec.ofChange fnExactCheckProofSpec)) fnExactCheckProofCard

/-- THE TIED CARD OF 'laws.FnExactAddInstance'. -/
def fnExactAddInstanceCard : Claim7 := { stood := { row := fnExactAddInstanceRow, standIns := [], harness := (true, "a03f1b04739ab3276abae25961f9351419551d15b0c3d48b41bc464942eb23de"), looks := false }, kinds := [], alts := [], laidByText := true, laidKinds := [.data, .data, .data], laidTests := true, laidLooks := .later }
def FnExactAddInstanceCardSaid : Prop := Claim7.holds Tryz.pinned (.plain (OpenSpec.ofChange fnExactAddInstanceSpec)) fnExactAddInstanceCard

/-- THE TIED CARD OF 'laws.FnExactJoinProofs'. -/
def fnExactJoinProofsCard : Claim7 := { stood := { row := fnExactJoinProofsRow, standIns := [], harness := (true, "a03f1b04739ab3276abae25961f9351419551d15b0c3d48b41bc464942eb23de"), looks := false }, kinds := [], alts := [], laidByText := true, laidKinds := [.data, .data, .data], laidTests := true, laidLooks := .later }
def FnExactJoinProofsCardSaid : Prop := Claim7.holds Tryz.pinned (.plain (OpenSpec.ofChange fnExactJoinProofsSpec)) fnExactJoinProofsCard

/-- THE TIED CARD OF 'laws.FnExactTrimProof'. -/
def fnExactTrimProofCard : Claim7 := { stood := { row := fnExactTrimProofRow, standIns := [], harness := (true, "a03f1b04739ab3276abae25961f9351419551d15b0c3d48b41bc464942eb23de"), looks := false }, kinds := [], alts := [], laidByText := true, laidKinds := [.data, .data, .data], laidTests := true, laidLooks := .later }
def FnExactTrimProofCardSaid : Prop := Claim7.holds Tryz.pinned (.plain (OpenSpec.ofChange fnExactTrimProofSpec)) fnExactTrimProofCard

/-- THE SECOND FORM's CARD OF 'laws.FnExactApplyStep'. -/
def fnExactApplyStepUptoCard : Claim7 := { stood := { row := fnExactApplyStepUptoRow, standIns := [], harness := (true, "a03f1b04739ab3276abae25961f9351419551d15b0c3d48b41bc464942eb23de"), looks := false }, kinds := [], alts := [], laidByText := true, laidKinds := [.data, .data, .data], laidTests := true, laidLooks := .later }
def FnExactApplyStepUptoCardSaid : Prop := Claim7.holds Tryz.pinned (.plain (OpenSpec.upto fnExactApplyStepSpec)) fnExactApplyStepUptoCard

/-- THE SECOND FORM's CARD OF 'laws.FnExactCheckProof'. -/
def fnExactCheckProofUptoCard : Claim7 := { stood := { row := fnExactCheckProofUptoRow, standIns := [], harness := (true, "a03f1b04739ab3276abae25961f9351419551d15b0c3d48b41bc464942eb23de"), looks := false }, kinds := [], alts := [], laidByText := true, laidKinds := [.data, .data, .data], laidTests := true, laidLooks := .later }
def FnExactCheckProofUptoCardSaid : Prop := Claim7.holds Tryz.pinned (.plain (OpenSpec.upto fnExactCheckProofSpec)) fnExactCheckProofUptoCard

/-- THE SECOND FORM's CARD OF 'laws.FnExactAddInstance'. -/
def fnExactAddInstanceUptoCard : Claim7 := { stood := { row := fnExactAddInstanceUptoRow, standIns := [], harness := (true, "a03f1b04739ab3276abae25961f9351419551d15b0c3d48b41bc464942eb23de"), looks := false }, kinds := [], alts := [], laidByText := true, laidKinds := [.data, .data, .data], laidTests := true, laidLooks := .later }
def FnExactAddInstanceUptoCardSaid : Prop := Claim7.holds Tryz.pinned (.plain (OpenSpec.upto fnExactAddInstanceSpec)) fnExactAddInstanceUptoCard

/-- THE SECOND FORM's CARD OF 'laws.FnExactJoinProofs'. -/
def fnExactJoinProofsUptoCard : Claim7 := { stood := { row := fnExactJoinProofsUptoRow, standIns := [], harness := (true, "a03f1b04739ab3276abae25961f9351419551d15b0c3d48b41bc464942eb23de"), looks := false }, kinds := [], alts := [], laidByText := true, laidKinds := [.data, .data, .data], laidTests := true, laidLooks := .later }
def FnExactJoinProofsUptoCardSaid : Prop := Claim7.holds Tryz.pinned (.plain (OpenSpec.upto fnExactJoinProofsSpec)) fnExactJoinProofsUptoCard

/-- THE SECOND FORM's CARD OF 'laws.FnExactTrimProof'. -/
def fnExactTrimProofUptoCard : Claim7 := { stood := { row := fnExactTrimProofUptoRow, standIns := [], harness := (true, "a03f1b04739ab3276abae25961f9351419551d15b0c3d48b41bc464942eb23de"), looks := false }, kinds := [], alts := [], laidByText := true, laidKinds := [.data, .data, .data], laidTests := true, laidLooks := .later }
def FnExactTrimProofUptoCardSaid : Prop := Claim7.holds Tryz.pinned (.plain (OpenSpec.upto fnExactTrimProofSpec)) fnExactTrimProofUptoCard
end Rows
end Go.Proofs.YtmjfpcajohhbeaaGreatDoor
