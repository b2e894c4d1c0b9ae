/- How arguments are read. No condition. -/
import Derived.Test.YtncfbghdnnhfiaaEsD
import Derived.Test.YtncfbghdnnhfiaaChecked
import Derived.Test.YtncfbghdnnhfiaaIsrP
import Derived.KernelRfl
set_option linter.unusedVariables false
set_option linter.unusedSimpArgs false
set_option maxRecDepth 100000
set_option maxHeartbeats 4000000
namespace Go.Es.Isr
open Go.Proofs
theorem dec3 : Dec Try.prog 3 (fun n => [.int .i64 n]) (wfI .i64) := dec_int (by kernel_rfl)
theorem decD3 : DecD Try.prog 3 (D.int .i64) (wfI .i64) := decD_flat (by kernel_rfl) dec3
theorem dec5 : Dec Try.prog 5 (fun n => [.int .u8 n]) (wfI .u8) := dec_int (by kernel_rfl)
theorem decD5 : DecD Try.prog 5 (D.int .u8) (wfI .u8) := decD_flat (by kernel_rfl) dec5
end Go.Es.Isr
