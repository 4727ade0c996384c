/- PlanRemarks answers true at 12. -/
import Derived.Test.YtjmemjhjhjifnaaGreatDoorTab

section
namespace Go.Ev
set_option maxRecDepth 1000000
theorem run_12_true : runB 3 [.int .i64 (.ofNat 12), .bool true] = true := by kernel_rfl
theorem run_12_false : runB 3 [.int .i64 (.ofNat 12), .bool false] = true := by kernel_rfl
end Go.Ev
end
