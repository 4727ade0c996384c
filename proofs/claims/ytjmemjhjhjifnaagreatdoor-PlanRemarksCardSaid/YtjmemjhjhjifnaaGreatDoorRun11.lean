/- PlanRemarks answers true at 11. -/
import Derived.Test.YtjmemjhjhjifnaaGreatDoorTab

section
namespace Go.Ev
set_option maxRecDepth 1000000
theorem run_11_true : runB 3 [.int .i64 (.ofNat 11), .bool true] = true := by kernel_rfl
theorem run_11_false : runB 3 [.int .i64 (.ofNat 11), .bool false] = true := by kernel_rfl
end Go.Ev
end
