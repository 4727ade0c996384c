/- PlanRemarks answers true at 8. -/
import Derived.Test.YtjmemjhjhjifnaaGreatDoorTab

section
namespace Go.Ev
set_option maxRecDepth 1000000
theorem run_8_true : runB 3 [.int .i64 (.ofNat 8), .bool true] = true := by kernel_rfl
theorem run_8_false : runB 3 [.int .i64 (.ofNat 8), .bool false] = true := by kernel_rfl
end Go.Ev
end
