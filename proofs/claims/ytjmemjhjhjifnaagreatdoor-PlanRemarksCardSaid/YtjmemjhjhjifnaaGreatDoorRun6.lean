/- PlanRemarks answers true at 6. -/
import Derived.Test.YtjmemjhjhjifnaaGreatDoorTab

section
namespace Go.Ev
set_option maxRecDepth 1000000
theorem run_6_true : runB 3 [.int .i64 (.ofNat 6), .bool true] = true := by kernel_rfl
theorem run_6_false : runB 3 [.int .i64 (.ofNat 6), .bool false] = true := by kernel_rfl
end Go.Ev
end
