/- PlanRemarks answers true at 10. -/
import Derived.Test.YtjmemjhjhjifnaaGreatDoorTab

section
namespace Go.Ev
set_option maxRecDepth 1000000
theorem run_10_true : runB 3 [.int .i64 (.ofNat 10), .bool true] = true := by kernel_rfl
theorem run_10_false : runB 3 [.int .i64 (.ofNat 10), .bool false] = true := by kernel_rfl
end Go.Ev
end
