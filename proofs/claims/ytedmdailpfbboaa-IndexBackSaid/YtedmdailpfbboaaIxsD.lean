/- How arguments are read. No condition. -/
import Derived.Test.YtedmdailpfbboaaEsD
import Derived.Test.YtedmdailpfbboaaChecked
import Derived.Test.YtedmdailpfbboaaIxsP
import Derived.KernelRfl
set_option linter.unusedVariables false
set_option linter.unusedSimpArgs false
set_option maxRecDepth 100000
set_option maxHeartbeats 4000000
namespace Go.Es.Ixs
open Go.Proofs
theorem dec5 : Dec Try.prog 5 (fun n => [.int .u8 n]) (wfI .u8) := dec_int (by kernel_rfl)
theorem decD5 : DecD Try.prog 5 (D.int .u8) (wfI .u8) := decD_flat (by kernel_rfl) dec5
theorem dec24 : Dec Try.prog 24 (fun l => [.sl (List.map (D.int .u8) l)]) (wfL (wfI .u8)) := dec_slice (te := 5) (by kernel_rfl) decD5
theorem decD24 : DecD Try.prog 24 (fun l => D.sl (List.map (D.int .u8) l)) (wfL (wfI .u8)) := decD_flat (by kernel_rfl) dec24
theorem dec3 : Dec Try.prog 3 (fun n => [.int .i64 n]) (wfI .i64) := dec_int (by kernel_rfl)
theorem decD3 : DecD Try.prog 3 (D.int .i64) (wfI .i64) := decD_flat (by kernel_rfl) dec3
theorem dec22 : Dec Try.prog 22 (fun n => [.int .u32 n]) (wfI .u32) := dec_int (by kernel_rfl)
theorem decD22 : DecD Try.prog 22 (D.int .u32) (wfI .u32) := decD_flat (by kernel_rfl) dec22
theorem dec47 : Dec Try.prog 47 (fun l => [.sl (List.map (D.int .u32) l)]) (wfL (wfI .u32)) := dec_slice (te := 22) (by kernel_rfl) decD22
theorem decD47 : DecD Try.prog 47 (fun l => D.sl (List.map (D.int .u32) l)) (wfL (wfI .u32)) := decD_flat (by kernel_rfl) dec47
theorem dec9 : Dec Try.prog 9 (fun s => [.str s]) wfS := dec_str (by kernel_rfl)
theorem decD9 : DecD Try.prog 9 D.str wfS := decD_flat (by kernel_rfl) dec9
end Go.Es.Ixs
