/- How arguments are read. No condition. -/
import Derived.Test.YtncfbghdnnhfiaaEsD
import Derived.Test.YtncfbghdnnhfiaaChecked
import Derived.Test.YtncfbghdnnhfiaaIaaP
import Derived.KernelRfl
set_option linter.unusedVariables false
set_option linter.unusedSimpArgs false
set_option maxRecDepth 100000
set_option maxHeartbeats 4000000
namespace Go.Es.Iaa
open Go.Proofs
theorem dec5 : Dec Try.prog 5 (fun n => [.int .u8 n]) (wfI .u8) := dec_int (by kernel_rfl)
theorem decD5 : DecD Try.prog 5 (D.int .u8) (wfI .u8) := decD_flat (by kernel_rfl) dec5
end Go.Es.Iaa
