/- PlanRemarks answers true at 30. -/
import Derived.Test.YtjmemjhjhjifnaaGreatDoorTab

section
namespace Go.Ev
set_option maxRecDepth 1000000
theorem run_30_true : runB 3 [.int .i64 (.ofNat 30), .bool true] = true := by kernel_rfl
theorem run_30_false : runB 3 [.int .i64 (.ofNat 30), .bool false] = true := by kernel_rfl
end Go.Ev
end
