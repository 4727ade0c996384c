/- PlanRemarks answers true at 25. -/
import Derived.Test.YtjmemjhjhjifnaaGreatDoorTab

section
namespace Go.Ev
set_option maxRecDepth 1000000
theorem run_25_true : runB 3 [.int .i64 (.ofNat 25), .bool true] = true := by kernel_rfl
theorem run_25_false : runB 3 [.int .i64 (.ofNat 25), .bool false] = true := by kernel_rfl
end Go.Ev
end
