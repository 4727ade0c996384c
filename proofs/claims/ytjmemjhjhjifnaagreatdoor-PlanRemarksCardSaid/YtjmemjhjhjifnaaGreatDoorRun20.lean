/- PlanRemarks answers true at 20. -/
import Derived.Test.YtjmemjhjhjifnaaGreatDoorTab

section
namespace Go.Ev
set_option maxRecDepth 1000000
theorem run_20_true : runB 3 [.int .i64 (.ofNat 20), .bool true] = true := by kernel_rfl
theorem run_20_false : runB 3 [.int .i64 (.ofNat 20), .bool false] = true := by kernel_rfl
end Go.Ev
end
