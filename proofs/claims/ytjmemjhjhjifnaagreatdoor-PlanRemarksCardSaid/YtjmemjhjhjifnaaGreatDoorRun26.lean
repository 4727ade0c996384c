/- PlanRemarks answers true at 26. -/
import Derived.Test.YtjmemjhjhjifnaaGreatDoorTab

section
namespace Go.Ev
set_option maxRecDepth 1000000
theorem run_26_true : runB 3 [.int .i64 (.ofNat 26), .bool true] = true := by kernel_rfl
theorem run_26_false : runB 3 [.int .i64 (.ofNat 26), .bool false] = true := by kernel_rfl
end Go.Ev
end
