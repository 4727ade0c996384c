/- PlanRemarks answers true at 9. -/
import Derived.Test.YtjmemjhjhjifnaaGreatDoorTab

section
namespace Go.Ev
set_option maxRecDepth 1000000
theorem run_9_true : runB 3 [.int .i64 (.ofNat 9), .bool true] = true := by kernel_rfl
theorem run_9_false : runB 3 [.int .i64 (.ofNat 9), .bool false] = true := by kernel_rfl
end Go.Ev
end
