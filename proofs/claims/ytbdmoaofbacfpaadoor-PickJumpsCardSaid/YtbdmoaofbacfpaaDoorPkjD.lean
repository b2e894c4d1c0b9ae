/- How arguments are read. No condition. -/
import Derived.Test.YtbdmoaofbacfpaaDoorEsD
import Derived.Test.YtbdmoaofbacfpaaDoorChecked
import Derived.Test.YtbdmoaofbacfpaaDoorPkjP
import Derived.KernelRfl
set_option linter.unusedVariables false
set_option linter.unusedSimpArgs false
set_option maxRecDepth 100000
set_option maxHeartbeats 4000000
namespace Go.Es.Pkj
open Go.Proofs
theorem dec3 : Dec Tryd.prog 3 (fun n => [.int .i64 n]) (wfI .i64) := dec_int (by kernel_rfl)
theorem decD3 : DecD Tryd.prog 3 (D.int .i64) (wfI .i64) := decD_flat (by kernel_rfl) dec3
theorem dec4 : Dec Tryd.prog 4 (fun b => [.bool b]) (fun _ => True) := dec_bool (by kernel_rfl)
theorem decD4 : DecD Tryd.prog 4 D.bool (fun _ => True) := decD_flat (by kernel_rfl) dec4
end Go.Es.Pkj
