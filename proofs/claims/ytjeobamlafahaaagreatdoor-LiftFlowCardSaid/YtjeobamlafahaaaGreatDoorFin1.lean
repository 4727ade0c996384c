/- LiftFlow answers true at these inputs. -/
import Derived.Test.YtjeobamlafahaaaGreatDoorMem

section
namespace Go.Ev
set_option maxRecDepth 1000000
theorem run_2 : runB ext3 3 [.int .i64 (.ofNat 2)] = true := by kernel_rfl
theorem run_3 : runB ext3 3 [.int .i64 (.ofNat 3)] = true := by kernel_rfl
end Go.Ev
end
