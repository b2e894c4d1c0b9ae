/- How arguments are read. No condition. -/
import Derived.Test.YteikhdaaofiefaaGreatEsD
import Derived.Test.YteikhdaaofiefaaGreatChecked
import Derived.Test.YteikhdaaofiefaaGreatLbhP
import Derived.KernelRfl
set_option linter.unusedVariables false
set_option linter.unusedSimpArgs false
set_option maxRecDepth 100000
set_option maxHeartbeats 4000000
namespace Go.Es.Lbh
open Go.Proofs
theorem dec9 : Dec Tryz.prog 9 (fun s => [.str s]) wfS := dec_str (by kernel_rfl)
theorem decD9 : DecD Tryz.prog 9 D.str wfS := decD_flat (by kernel_rfl) dec9
theorem dec3 : Dec Tryz.prog 3 (fun n => [.int .i64 n]) (wfI .i64) := dec_int (by kernel_rfl)
theorem decD3 : DecD Tryz.prog 3 (D.int .i64) (wfI .i64) := decD_flat (by kernel_rfl) dec3
end Go.Es.Lbh
