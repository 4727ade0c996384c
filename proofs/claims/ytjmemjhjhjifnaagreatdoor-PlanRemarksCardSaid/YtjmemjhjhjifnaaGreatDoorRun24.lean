/- PlanRemarks answers true at 24. -/
import Derived.Test.YtjmemjhjhjifnaaGreatDoorTab

section
namespace Go.Ev
set_option maxRecDepth 1000000
theorem run_24_true : runB 3 [.int .i64 (.ofNat 24), .bool true] = true := by kernel_rfl
theorem run_24_false : runB 3 [.int .i64 (.ofNat 24), .bool false] = true := by kernel_rfl
end Go.Ev
end
