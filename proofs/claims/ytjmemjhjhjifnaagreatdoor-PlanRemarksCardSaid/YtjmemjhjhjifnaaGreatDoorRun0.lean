/- PlanRemarks answers true at 0. -/
import Derived.Test.YtjmemjhjhjifnaaGreatDoorTab

section
namespace Go.Ev
set_option maxRecDepth 1000000
theorem run_0_true : runB 3 [.int .i64 (.ofNat 0), .bool true] = true := by kernel_rfl
theorem run_0_false : runB 3 [.int .i64 (.ofNat 0), .bool false] = true := by kernel_rfl
end Go.Ev
end
