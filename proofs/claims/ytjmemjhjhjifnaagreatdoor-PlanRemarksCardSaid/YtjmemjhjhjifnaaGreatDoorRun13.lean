/- PlanRemarks answers true at 13. -/
import Derived.Test.YtjmemjhjhjifnaaGreatDoorTab

section
namespace Go.Ev
set_option maxRecDepth 1000000
theorem run_13_true : runB 3 [.int .i64 (.ofNat 13), .bool true] = true := by kernel_rfl
theorem run_13_false : runB 3 [.int .i64 (.ofNat 13), .bool false] = true := by kernel_rfl
end Go.Ev
end
