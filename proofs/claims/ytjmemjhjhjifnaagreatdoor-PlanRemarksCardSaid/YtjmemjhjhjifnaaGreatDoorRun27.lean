/- PlanRemarks answers true at 27. -/
import Derived.Test.YtjmemjhjhjifnaaGreatDoorTab

section
namespace Go.Ev
set_option maxRecDepth 1000000
theorem run_27_true : runB 3 [.int .i64 (.ofNat 27), .bool true] = true := by kernel_rfl
theorem run_27_false : runB 3 [.int .i64 (.ofNat 27), .bool false] = true := by kernel_rfl
end Go.Ev
end
