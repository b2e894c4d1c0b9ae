/- How arguments are read. No condition. -/
import Derived.Test.YtbdmoaofbacfpaaDoorEsD
import Derived.Test.YtbdmoaofbacfpaaDoorChecked
import Derived.Test.YtbdmoaofbacfpaaDoorPkwP
import Derived.KernelRfl
set_option linter.unusedVariables false
set_option linter.unusedSimpArgs false
set_option maxRecDepth 100000
set_option maxHeartbeats 4000000
namespace Go.Es.Pkw
open Go.Proofs
theorem dec3 : Dec Tryd.prog 3 (fun n => [.int .i64 n]) (wfI .i64) := dec_int (by kernel_rfl)
theorem decD3 : DecD Tryd.prog 3 (D.int .i64) (wfI .i64) := decD_flat (by kernel_rfl) dec3
theorem dec9 : Dec Tryd.prog 9 (fun s => [.str s]) wfS := dec_str (by kernel_rfl)
theorem decD9 : DecD Tryd.prog 9 D.str wfS := decD_flat (by kernel_rfl) dec9
end Go.Es.Pkw
