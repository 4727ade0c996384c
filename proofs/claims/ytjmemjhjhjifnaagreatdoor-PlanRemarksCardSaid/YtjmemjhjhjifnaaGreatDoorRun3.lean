/- PlanRemarks answers true at 3. -/
import Derived.Test.YtjmemjhjhjifnaaGreatDoorTab

section
namespace Go.Ev
set_option maxRecDepth 1000000
theorem run_3_true : runB 3 [.int .i64 (.ofNat 3), .bool true] = true := by kernel_rfl
theorem run_3_false : runB 3 [.int .i64 (.ofNat 3), .bool false] = true := by kernel_rfl
end Go.Ev
end
