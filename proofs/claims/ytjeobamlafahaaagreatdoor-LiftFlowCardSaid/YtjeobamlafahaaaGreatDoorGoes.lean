/- LiftFlow starts no goroutine. -/
import Derived.Test.YtjeobamlafahaaaGreatDoorClo
import GoSem.ClaimGoes

section
/- No goroutine is started. -/
namespace Go.Proofs.YtjeobamlafahaaaGreatDoor
open Go Go.Ev
set_option maxRecDepth 1000000
theorem own_named : Tryz.pinned.checked.prog.funcNamed Rows.liftFlowRow.func = some 3 := by kernel_rfl
theorem own_goesAny : Tryz.pinned.checked.prog.funcs.any Func.goes = false := by kernel_rfl
theorem own_goesClo : (clo3.any fun g => (Tryz.pinned.checked.prog.funcs[g]?).any Func.goes) = false := by kernel_rfl
theorem own_goes3 : Tryz.pinned.checked.prog.goes 3 = false := by
  unfold Program.goes; rw [clo3_eq, own_goesClo, own_goesAny, Bool.and_false]; rfl
theorem own_goesFrom : Tryz.pinned.checked.prog.goesFrom Rows.liftFlowRow.func = false := by
  unfold Program.goesFrom; rw [own_named, Option.any_some, own_goes3]
theorem own_goes : false = Rows.liftFlowRow.goesBy Tryz.pinned.checked.prog := by
  unfold OpenClaim.goesBy Program.goesAt; rw [own_goesFrom]; rfl
end Go.Proofs.YtjeobamlafahaaaGreatDoor
end
