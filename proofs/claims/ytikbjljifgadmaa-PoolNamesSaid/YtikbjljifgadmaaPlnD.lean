/- How arguments are read. No condition. -/
import Derived.Test.YtikbjljifgadmaaEsD
import Derived.Test.YtikbjljifgadmaaChecked
import Derived.Test.YtikbjljifgadmaaPlnP
import Derived.KernelRfl
set_option linter.unusedVariables false
set_option linter.unusedSimpArgs false
set_option maxRecDepth 100000
set_option maxHeartbeats 4000000
namespace Go.Es.Pln
open Go.Proofs
theorem dec3 : Dec Try.prog 3 (fun n => [.int .i64 n]) (wfI .i64) := dec_int (by kernel_rfl)
theorem dec78 : Dec Try.prog 78 (fun x : (A4 Int) => [.int .i64 x.a0, .int .i64 x.a1, .int .i64 x.a2, .int .i64 x.a3]) (A4.wf (wfI .i64)) := by
  intro l h
  obtain ⟨hl, hf⟩ := of_array (n := 4) (te := 3) (m := 1) h (by kernel_rfl) (by kernel_rfl)
  have hl : l.length = 4 := hl.trans (by kernel_rfl)
  match l, hl with
  | [c0, c1, c2, c3], _ =>
    obtain ⟨v0, e0, w0⟩ := dec3 _ (hf 0 (by decide))
    have e0 : [c0] = [(.int .i64 v0 : D)] := e0
    obtain rfl := (List.cons.inj e0).1
    obtain ⟨v1, e1, w1⟩ := dec3 _ (hf 1 (by decide))
    have e1 : [c1] = [(.int .i64 v1 : D)] := e1
    obtain rfl := (List.cons.inj e1).1
    obtain ⟨v2, e2, w2⟩ := dec3 _ (hf 2 (by decide))
    have e2 : [c2] = [(.int .i64 v2 : D)] := e2
    obtain rfl := (List.cons.inj e2).1
    obtain ⟨v3, e3, w3⟩ := dec3 _ (hf 3 (by decide))
    have e3 : [c3] = [(.int .i64 v3 : D)] := e3
    obtain rfl := (List.cons.inj e3).1
    exact ⟨⟨v0, v1, v2, v3⟩, rfl, w0, w1, w2, w3⟩
theorem decD78 : DecD Try.prog 78 (fun x : (A4 Int) => D.agg [.int .i64 x.a0, .int .i64 x.a1, .int .i64 x.a2, .int .i64 x.a3]) (A4.wf (wfI .i64)) := decD_agg (by kernel_rfl) dec78
theorem dec74 : Dec Try.prog 74 (fun l => [.sl (List.map (A4.ag (D.int .i64)) l)]) (wfL (A4.wf (wfI .i64))) := dec_slice (te := 78) (by kernel_rfl) decD78
theorem decD74 : DecD Try.prog 74 (fun l => D.sl (List.map (A4.ag (D.int .i64)) l)) (wfL (A4.wf (wfI .i64))) := decD_flat (by kernel_rfl) dec74
theorem decD3 : DecD Try.prog 3 (D.int .i64) (wfI .i64) := decD_flat (by kernel_rfl) dec3
end Go.Es.Pln
