/- PlanRemarks answers true at 28. -/
import Derived.Test.YtjmemjhjhjifnaaGreatDoorTab

section
namespace Go.Ev
set_option maxRecDepth 1000000
theorem run_28_true : runB 3 [.int .i64 (.ofNat 28), .bool true] = true := by kernel_rfl
theorem run_28_false : runB 3 [.int .i64 (.ofNat 28), .bool false] = true := by kernel_rfl
end Go.Ev
end
