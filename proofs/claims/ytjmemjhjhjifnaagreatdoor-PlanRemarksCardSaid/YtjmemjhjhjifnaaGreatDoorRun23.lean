/- PlanRemarks answers true at 23. -/
import Derived.Test.YtjmemjhjhjifnaaGreatDoorTab

section
namespace Go.Ev
set_option maxRecDepth 1000000
theorem run_23_true : runB 3 [.int .i64 (.ofNat 23), .bool true] = true := by kernel_rfl
theorem run_23_false : runB 3 [.int .i64 (.ofNat 23), .bool false] = true := by kernel_rfl
end Go.Ev
end
