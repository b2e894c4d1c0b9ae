/- How arguments are read. No condition. -/
import Derived.Test.YtikbjljifgadmaaEsD
import Derived.Test.YtikbjljifgadmaaChecked
import Derived.Test.YtikbjljifgadmaaItmP
import Derived.KernelRfl
set_option linter.unusedVariables false
set_option linter.unusedSimpArgs false
set_option maxRecDepth 100000
set_option maxHeartbeats 4000000
namespace Go.Es.Itm
open Go.Proofs
theorem dec3 : Dec Try.prog 3 (fun n => [.int .i64 n]) (wfI .i64) := dec_int (by kernel_rfl)
theorem decD3 : DecD Try.prog 3 (D.int .i64) (wfI .i64) := decD_flat (by kernel_rfl) dec3
end Go.Es.Itm
