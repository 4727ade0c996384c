/- PlanRemarks answers true at 19. -/
import Derived.Test.YtjmemjhjhjifnaaGreatDoorTab

section
namespace Go.Ev
set_option maxRecDepth 1000000
theorem run_19_true : runB 3 [.int .i64 (.ofNat 19), .bool true] = true := by kernel_rfl
theorem run_19_false : runB 3 [.int .i64 (.ofNat 19), .bool false] = true := by kernel_rfl
end Go.Ev
end
