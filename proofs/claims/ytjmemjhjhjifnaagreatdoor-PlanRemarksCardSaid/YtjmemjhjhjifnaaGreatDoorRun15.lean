/- PlanRemarks answers true at 15. -/
import Derived.Test.YtjmemjhjhjifnaaGreatDoorTab

section
namespace Go.Ev
set_option maxRecDepth 1000000
theorem run_15_true : runB 3 [.int .i64 (.ofNat 15), .bool true] = true := by kernel_rfl
theorem run_15_false : runB 3 [.int .i64 (.ofNat 15), .bool false] = true := by kernel_rfl
end Go.Ev
end
