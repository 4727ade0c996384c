/- LiftFlow answers true at these inputs. -/
import Derived.Test.YtjeobamlafahaaaGreatDoorMem

section
namespace Go.Ev
set_option maxRecDepth 1000000
theorem run_7 : runB ext3 3 [.int .i64 (.ofNat 7)] = true := by kernel_rfl
end Go.Ev
end
