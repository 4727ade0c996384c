/- The row of LiftFlow holds. -/
import Derived.Test.YtjeobamlafahaaaGreatDoorRow
import Derived.Test.YtjeobamlafahaaaGreatDoorFacts
import Derived.Test.YtjeobamlafahaaaGreatDoorFin0
import Derived.Test.YtjeobamlafahaaaGreatDoorFin1
import Derived.Test.YtjeobamlafahaaaGreatDoorFin2
import Derived.Test.YtjeobamlafahaaaGreatDoorFin3
import Derived.Test.YtjeobamlafahaaaGreatDoorFin4

section
namespace Go.Proofs.YtjeobamlafahaaaGreatDoor
open Go Go.Ev
theorem all_runs : AllRuns := by
  intro n hn
  match n, hn with
  | 0, _ => exact run_0
  | 1, _ => exact run_1
  | 2, _ => exact run_2
  | 3, _ => exact run_3
  | 4, _ => exact run_4
  | 5, _ => exact run_5
  | 6, _ => exact run_6
  | 7, _ => exact run_7
  | n + 8, h => omega
theorem liftFlow_holds : Rows.LiftFlowSaid :=
  OpenClaim.holds_of_wide 3 Tryz.f3 rfl rfl rfl rfl rfl rfl rfl ⟨rfl, rfl, rfl, rfl, rfl⟩ rfl rfl rfl rfl rfl (by kernel_rfl) Tryz.func3 facts_all
    (of_decide_eq_true (by kernel_rfl)) (by unfold Func.isWrapper; first | (rw [if_pos (by decide +kernel)]; kernel_rfl) | (rw [if_neg (by decide +kernel)]; exact ⟨rfl, rfl⟩))
    (fun os started H enc _ => pr_lifted2 all_runs os started H enc)
end Go.Proofs.YtjeobamlafahaaaGreatDoor
end
