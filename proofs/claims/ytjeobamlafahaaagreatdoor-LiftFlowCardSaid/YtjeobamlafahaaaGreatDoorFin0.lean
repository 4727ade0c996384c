/- LiftFlow answers true at these inputs. -/
import Derived.Test.YtjeobamlafahaaaGreatDoorMem

section
namespace Go.Ev
set_option maxRecDepth 1000000
theorem run_0 : runB ext3 3 [.int .i64 (.ofNat 0)] = true := by kernel_rfl
theorem run_1 : runB ext3 3 [.int .i64 (.ofNat 1)] = true := by kernel_rfl
end Go.Ev
end
