/- PlanRemarks answers true at 2. -/
import Derived.Test.YtjmemjhjhjifnaaGreatDoorTab

section
namespace Go.Ev
set_option maxRecDepth 1000000
theorem run_2_true : runB 3 [.int .i64 (.ofNat 2), .bool true] = true := by kernel_rfl
theorem run_2_false : runB 3 [.int .i64 (.ofNat 2), .bool false] = true := by kernel_rfl
end Go.Ev
end
