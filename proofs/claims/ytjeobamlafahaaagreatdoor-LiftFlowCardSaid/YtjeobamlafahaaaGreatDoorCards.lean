/-
  DERIVED. GIVEN WITH THE SEED: THE CARDS: each row of YtjeobamlafahaaaGreatDoorRows.lean that lists a variable, with what it lists TIED to the program's text (the seventh form; the later family's looks); each row that meets fmt, with fmt's text TOLD by the authors' own Lean function (tested against real Go, not proved from fmt's source: count such statements apart). THE CARD IS WHAT COUNTS. Prove the row's statement (the work); the ties are given (YtjeobamlafahaaaGreatDoorTie.lean); close each card by the builder's one call (the guide's Derived/Test/ToyasCard.lean, 'card_holds'). Laid BY PROGRAM, IN A SANDBOX (cutbox-door.mjs). By AI agents, Wed Nov 11 2026. No macro, syntax, notation, axiom, sorry.
-/
import Derived.Test.YtjeobamlafahaaaGreatDoorRows
import GoSem.ClaimSeven
namespace Go.Proofs.YtjeobamlafahaaaGreatDoor
namespace Rows

/-- THE TIED CARD OF 'recastlaw21.LiftFlow'. -/
def liftFlowCard : Claim7 := { stood := { row := liftFlowRow, standIns := [], harness := (true, "649963bbee80c9bd570541aeedd0a8a387d2eadb90118e931efdb7e22d9e8823"), looks := true }, kinds := [], alts := [], laidByText := true, laidKinds := [.pinned, .data], laidTests := true, laidLooks := .later }
def LiftFlowCardSaid : Prop := Claim7.holds Tryz.pinned (.plain (OpenSpec.ofChange liftFlowSpec)) liftFlowCard

/-- THE SECOND FORM's CARD OF 'recastlaw21.LiftFlow'. -/
def liftFlowUptoCard : Claim7 := { stood := { row := liftFlowUptoRow, standIns := [], harness := (true, "649963bbee80c9bd570541aeedd0a8a387d2eadb90118e931efdb7e22d9e8823"), looks := true }, kinds := [], alts := [], laidByText := true, laidKinds := [.pinned, .data], laidTests := true, laidLooks := .later }
def LiftFlowUptoCardSaid : Prop := Claim7.holds Tryz.pinned (.plain (OpenSpec.upto liftFlowSpec)) liftFlowUptoCard
end Rows
end Go.Proofs.YtjeobamlafahaaaGreatDoor
