/- PlanRemarks answers true at 4. -/
import Derived.Test.YtjmemjhjhjifnaaGreatDoorTab

section
namespace Go.Ev
set_option maxRecDepth 1000000
theorem run_4_true : runB 3 [.int .i64 (.ofNat 4), .bool true] = true := by kernel_rfl
theorem run_4_false : runB 3 [.int .i64 (.ofNat 4), .bool false] = true := by kernel_rfl
end Go.Ev
end
