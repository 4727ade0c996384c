/- PlanRemarks answers true at 16. -/
import Derived.Test.YtjmemjhjhjifnaaGreatDoorTab

section
namespace Go.Ev
set_option maxRecDepth 1000000
theorem run_16_true : runB 3 [.int .i64 (.ofNat 16), .bool true] = true := by kernel_rfl
theorem run_16_false : runB 3 [.int .i64 (.ofNat 16), .bool false] = true := by kernel_rfl
end Go.Ev
end
