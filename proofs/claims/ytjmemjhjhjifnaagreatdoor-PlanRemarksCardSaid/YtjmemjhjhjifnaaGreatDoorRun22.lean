/- PlanRemarks answers true at 22. -/
import Derived.Test.YtjmemjhjhjifnaaGreatDoorTab

section
namespace Go.Ev
set_option maxRecDepth 1000000
theorem run_22_true : runB 3 [.int .i64 (.ofNat 22), .bool true] = true := by kernel_rfl
theorem run_22_false : runB 3 [.int .i64 (.ofNat 22), .bool false] = true := by kernel_rfl
end Go.Ev
end
