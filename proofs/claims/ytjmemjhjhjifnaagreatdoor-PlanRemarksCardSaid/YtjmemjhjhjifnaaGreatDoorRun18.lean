/- PlanRemarks answers true at 18. -/
import Derived.Test.YtjmemjhjhjifnaaGreatDoorTab

section
namespace Go.Ev
set_option maxRecDepth 1000000
theorem run_18_true : runB 3 [.int .i64 (.ofNat 18), .bool true] = true := by kernel_rfl
theorem run_18_false : runB 3 [.int .i64 (.ofNat 18), .bool false] = true := by kernel_rfl
end Go.Ev
end
