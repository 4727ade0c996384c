/- PlanRemarks answers true at 14. -/
import Derived.Test.YtjmemjhjhjifnaaGreatDoorTab

section
namespace Go.Ev
set_option maxRecDepth 1000000
theorem run_14_true : runB 3 [.int .i64 (.ofNat 14), .bool true] = true := by kernel_rfl
theorem run_14_false : runB 3 [.int .i64 (.ofNat 14), .bool false] = true := by kernel_rfl
end Go.Ev
end
