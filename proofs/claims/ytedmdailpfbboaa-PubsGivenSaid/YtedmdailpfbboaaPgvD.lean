/- How arguments are read. No condition. -/
import Derived.Test.YtedmdailpfbboaaEsD
import Derived.Test.YtedmdailpfbboaaChecked
import Derived.Test.YtedmdailpfbboaaPgvP
import Derived.KernelRfl
set_option linter.unusedVariables false
set_option linter.unusedSimpArgs false
set_option maxRecDepth 100000
set_option maxHeartbeats 4000000
namespace Go.Es.Pgv
open Go.Proofs
theorem dec3 : Dec Try.prog 3 (fun n => [.int .i64 n]) (wfI .i64) := dec_int (by kernel_rfl)
theorem dec30 : Dec Try.prog 30 (fun n => [.int .u16 n]) (wfI .u16) := dec_int (by kernel_rfl)
theorem dec9 : Dec Try.prog 9 (fun s => [.str s]) wfS := dec_str (by kernel_rfl)
theorem dec51 : Dec Try.prog 51 Pub.cs Pub.wf := by
  intro l h
  obtain ⟨hl, hf⟩ := of_struct h (by kernel_rfl)
  have hl : l.length = 5 := hl.trans (by kernel_rfl)
  match l, hl with
  | [c0, c1, c2, c3, c4], _ =>
    obtain ⟨v0, e0, w0⟩ := dec3 _ (hf 3 0 1 (List.mem_of_getElem? (i := 0) (by kernel_rfl)) (by kernel_rfl))
    have e0 : [c0] = [(.int .i64 v0 : D)] := e0
    obtain rfl := (List.cons.inj e0).1
    obtain ⟨v1, e1, w1⟩ := dec3 _ (hf 3 1 1 (List.mem_of_getElem? (i := 1) (by kernel_rfl)) (by kernel_rfl))
    have e1 : [c1] = [(.int .i64 v1 : D)] := e1
    obtain rfl := (List.cons.inj e1).1
    obtain ⟨v2, e2, w2⟩ := dec30 _ (hf 30 2 1 (List.mem_of_getElem? (i := 2) (by kernel_rfl)) (by kernel_rfl))
    have e2 : [c2] = [(.int .u16 v2 : D)] := e2
    obtain rfl := (List.cons.inj e2).1
    obtain ⟨v3, e3, w3⟩ := dec9 _ (hf 9 3 1 (List.mem_of_getElem? (i := 3) (by kernel_rfl)) (by kernel_rfl))
    have e3 : [c3] = [(.str v3 : D)] := e3
    obtain rfl := (List.cons.inj e3).1
    obtain ⟨v4, e4, w4⟩ := dec30 _ (hf 30 4 1 (List.mem_of_getElem? (i := 4) (by kernel_rfl)) (by kernel_rfl))
    have e4 : [c4] = [(.int .u16 v4 : D)] := e4
    obtain rfl := (List.cons.inj e4).1
    exact ⟨⟨v0, v1, v2, v3, v4⟩, rfl, w0, w1, w2, w3, w4⟩
theorem decD51 : DecD Try.prog 51 Pub.d Pub.wf := decD_agg (by kernel_rfl) dec51
theorem dec49 : Dec Try.prog 49 (fun l => [.sl (List.map Pub.d l)]) (wfL Pub.wf) := dec_slice (te := 51) (by kernel_rfl) decD51
theorem decD49 : DecD Try.prog 49 (fun l => D.sl (List.map Pub.d l)) (wfL Pub.wf) := decD_flat (by kernel_rfl) dec49
end Go.Es.Pgv
