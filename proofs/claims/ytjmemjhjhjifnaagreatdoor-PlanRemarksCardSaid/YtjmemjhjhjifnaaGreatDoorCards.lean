/-
  DERIVED. GIVEN WITH THE SEED: THE CARDS: each row of YtjmemjhjhjifnaaGreatDoorRows.lean that lists a variable, with what it lists TIED to the program's text (the seventh form; the later family's looks); each row that meets fmt, with fmt's text TOLD by the authors' own Lean function (tested against real Go, not proved from fmt's source: count such statements apart). THE CARD IS WHAT COUNTS. Prove the row's statement (the work); the ties are given (YtjmemjhjhjifnaaGreatDoorTie.lean); close each card by the builder's one call (the guide's Derived/Test/ToyasCard.lean, 'card_holds'). Laid BY PROGRAM, IN A SANDBOX (cutbox-door.mjs). By AI agents, Wed Nov 11 2026. No macro, syntax, notation, axiom, sorry.
-/
import Derived.Test.YtjmemjhjhjifnaaGreatDoorRows
import GoSem.ClaimSeven
namespace Go.Proofs.YtjmemjhjhjifnaaGreatDoor
namespace Rows

/-- THE TIED CARD OF 'recastlaw18.PlanRemarks'. -/
def planRemarksCard : Claim7 := { stood := { row := planRemarksRow, standIns := [], harness := (true, "1adc7a9b2ab20f51b08d912daa12dd84a7051ff747fd1861641ba95a279ca539"), looks := true }, kinds := [], alts := [], laidByText := true, laidKinds := [.pinned, .data], laidTests := true, laidLooks := .later }
def PlanRemarksCardSaid : Prop := Claim7.holds Tryz.pinned (.plain (OpenSpec.ofChange planRemarksSpec)) planRemarksCard

/-- THE SECOND FORM's CARD OF 'recastlaw18.PlanRemarks'. -/
def planRemarksUptoCard : Claim7 := { stood := { row := planRemarksUptoRow, standIns := [], harness := (true, "1adc7a9b2ab20f51b08d912daa12dd84a7051ff747fd1861641ba95a279ca539"), looks := true }, kinds := [], alts := [], laidByText := true, laidKinds := [.pinned, .data], laidTests := true, laidLooks := .later }
def PlanRemarksUptoCardSaid : Prop := Claim7.holds Tryz.pinned (.plain (OpenSpec.upto planRemarksSpec)) planRemarksUptoCard
end Rows
end Go.Proofs.YtjmemjhjhjifnaaGreatDoor
