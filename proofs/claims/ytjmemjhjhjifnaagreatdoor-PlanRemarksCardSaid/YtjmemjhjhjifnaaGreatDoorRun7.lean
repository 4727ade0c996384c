/- PlanRemarks answers true at 7. -/
import Derived.Test.YtjmemjhjhjifnaaGreatDoorTab

section
namespace Go.Ev
set_option maxRecDepth 1000000
theorem run_7_true : runB 3 [.int .i64 (.ofNat 7), .bool true] = true := by kernel_rfl
theorem run_7_false : runB 3 [.int .i64 (.ofNat 7), .bool false] = true := by kernel_rfl
end Go.Ev
end
