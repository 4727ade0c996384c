/- PlanRemarks answers true at 21. -/
import Derived.Test.YtjmemjhjhjifnaaGreatDoorTab

section
namespace Go.Ev
set_option maxRecDepth 1000000
theorem run_21_true : runB 3 [.int .i64 (.ofNat 21), .bool true] = true := by kernel_rfl
theorem run_21_false : runB 3 [.int .i64 (.ofNat 21), .bool false] = true := by kernel_rfl
end Go.Ev
end
