/- PlanRemarks answers true at 29. -/
import Derived.Test.YtjmemjhjhjifnaaGreatDoorTab

section
namespace Go.Ev
set_option maxRecDepth 1000000
theorem run_29_true : runB 3 [.int .i64 (.ofNat 29), .bool true] = true := by kernel_rfl
theorem run_29_false : runB 3 [.int .i64 (.ofNat 29), .bool false] = true := by kernel_rfl
end Go.Ev
end
