/- How arguments are read. No condition. -/
import Derived.Test.YtikbjljifgadmaaEsD
import Derived.Test.YtikbjljifgadmaaChecked
import Derived.Test.YtikbjljifgadmaaPmdP
import Derived.KernelRfl
set_option linter.unusedVariables false
set_option linter.unusedSimpArgs false
set_option maxRecDepth 100000
set_option maxHeartbeats 4000000
namespace Go.Es.Pmd
open Go.Proofs
theorem dec9 : Dec Try.prog 9 (fun s => [.str s]) wfS := dec_str (by kernel_rfl)
theorem dec3 : Dec Try.prog 3 (fun n => [.int .i64 n]) (wfI .i64) := dec_int (by kernel_rfl)
theorem dec23 : Dec Try.prog 23 (fun n => [.int .u32 n]) (wfI .u32) := dec_int (by kernel_rfl)
theorem dec25 : Dec Try.prog 25 Ext.cs Ext.wf := by
  intro l h
  obtain ⟨hl, hf⟩ := of_struct h (by kernel_rfl)
  have hl : l.length = 3 := hl.trans (by kernel_rfl)
  match l, hl with
  | [c0, c1, c2], _ =>
    obtain ⟨v0, e0, w0⟩ := dec9 _ (hf 9 0 1 (List.mem_of_getElem? (i := 0) (by kernel_rfl)) (by kernel_rfl))
    have e0 : [c0] = [(.str v0 : D)] := e0
    obtain rfl := (List.cons.inj e0).1
    obtain ⟨v1, e1, w1⟩ := dec3 _ (hf 3 1 1 (List.mem_of_getElem? (i := 1) (by kernel_rfl)) (by kernel_rfl))
    have e1 : [c1] = [(.int .i64 v1 : D)] := e1
    obtain rfl := (List.cons.inj e1).1
    obtain ⟨v2, e2, w2⟩ := dec23 _ (hf 23 2 1 (List.mem_of_getElem? (i := 2) (by kernel_rfl)) (by kernel_rfl))
    have e2 : [c2] = [(.int .u32 v2 : D)] := e2
    obtain rfl := (List.cons.inj e2).1
    exact ⟨⟨v0, v1, v2⟩, rfl, w0, w1, w2⟩
theorem decD25 : DecD Try.prog 25 Ext.d Ext.wf := decD_agg (by kernel_rfl) dec25
theorem dec22 : Dec Try.prog 22 (fun l => [.sl (List.map Ext.d l)]) (wfL Ext.wf) := dec_slice (te := 25) (by kernel_rfl) decD25
theorem decD22 : DecD Try.prog 22 (fun l => D.sl (List.map Ext.d l)) (wfL Ext.wf) := decD_flat (by kernel_rfl) dec22
theorem decD23 : DecD Try.prog 23 (D.int .u32) (wfI .u32) := decD_flat (by kernel_rfl) dec23
end Go.Es.Pmd
