/- PlanRemarks answers true at 1. -/
import Derived.Test.YtjmemjhjhjifnaaGreatDoorTab

section
namespace Go.Ev
set_option maxRecDepth 1000000
theorem run_1_true : runB 3 [.int .i64 (.ofNat 1), .bool true] = true := by kernel_rfl
theorem run_1_false : runB 3 [.int .i64 (.ofNat 1), .bool false] = true := by kernel_rfl
end Go.Ev
end
