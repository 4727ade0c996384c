/- PlanRemarks answers true at 17. -/
import Derived.Test.YtjmemjhjhjifnaaGreatDoorTab

section
namespace Go.Ev
set_option maxRecDepth 1000000
theorem run_17_true : runB 3 [.int .i64 (.ofNat 17), .bool true] = true := by kernel_rfl
theorem run_17_false : runB 3 [.int .i64 (.ofNat 17), .bool false] = true := by kernel_rfl
end Go.Ev
end
