/- How arguments are read. No condition. -/
import Derived.Test.YtedmdailpfbboaaEsD
import Derived.Test.YtedmdailpfbboaaChecked
import Derived.Test.YtedmdailpfbboaaPtkP
import Derived.KernelRfl
set_option linter.unusedVariables false
set_option linter.unusedSimpArgs false
set_option maxRecDepth 100000
set_option maxHeartbeats 4000000
namespace Go.Es.Ptk
open Go.Proofs
theorem dec9 : Dec Try.prog 9 (fun s => [.str s]) wfS := dec_str (by kernel_rfl)
theorem decD9 : DecD Try.prog 9 D.str wfS := decD_flat (by kernel_rfl) dec9
theorem dec84 : Dec Try.prog 84 (fun l => [.sl (List.map D.str l)]) (wfL wfS) := dec_slice (te := 9) (by kernel_rfl) decD9
theorem decD84 : DecD Try.prog 84 (fun l => D.sl (List.map D.str l)) (wfL wfS) := decD_flat (by kernel_rfl) dec84
theorem dec3 : Dec Try.prog 3 (fun n => [.int .i64 n]) (wfI .i64) := dec_int (by kernel_rfl)
theorem decD3 : DecD Try.prog 3 (D.int .i64) (wfI .i64) := decD_flat (by kernel_rfl) dec3
end Go.Es.Ptk
