/- PlanRemarks answers true at 5. -/
import Derived.Test.YtjmemjhjhjifnaaGreatDoorTab

section
namespace Go.Ev
set_option maxRecDepth 1000000
theorem run_5_true : runB 3 [.int .i64 (.ofNat 5), .bool true] = true := by kernel_rfl
theorem run_5_false : runB 3 [.int .i64 (.ofNat 5), .bool false] = true := by kernel_rfl
end Go.Ev
end
