/- How arguments are read. No condition. -/
import Derived.Test.YtbogbgbpahonoaaEsD
import Derived.Test.YtbogbgbpahonoaaChecked
import Derived.Test.YtbogbgbpahonoaaNamP
import Derived.KernelRfl
set_option linter.unusedVariables false
set_option linter.unusedSimpArgs false
set_option maxRecDepth 100000
set_option maxHeartbeats 4000000
namespace Go.Es.Nam
open Go.Proofs
theorem dec9 : Dec Try.prog 9 (fun s => [.str s]) wfS := dec_str (by kernel_rfl)
theorem decD9 : DecD Try.prog 9 D.str wfS := decD_flat (by kernel_rfl) dec9
theorem dec5 : Dec Try.prog 5 (fun n => [.int .u8 n]) (wfI .u8) := dec_int (by kernel_rfl)
theorem dec67 : Dec Try.prog 67 Comment.cs Comment.wf := by
  intro l h
  obtain ⟨hl, hf⟩ := of_struct h (by kernel_rfl)
  have hl : l.length = 3 := hl.trans (by kernel_rfl)
  match l, hl with
  | [c0, c1, c2], _ =>
    obtain ⟨v0, e0, w0⟩ := dec5 _ (hf 5 0 1 (List.mem_of_getElem? (i := 0) (by kernel_rfl)) (by kernel_rfl))
    have e0 : [c0] = [(.int .u8 v0 : D)] := e0
    obtain rfl := (List.cons.inj e0).1
    obtain ⟨v1, e1, w1⟩ := dec5 _ (hf 5 1 1 (List.mem_of_getElem? (i := 1) (by kernel_rfl)) (by kernel_rfl))
    have e1 : [c1] = [(.int .u8 v1 : D)] := e1
    obtain rfl := (List.cons.inj e1).1
    obtain ⟨v2, e2, w2⟩ := dec9 _ (hf 9 2 1 (List.mem_of_getElem? (i := 2) (by kernel_rfl)) (by kernel_rfl))
    have e2 : [c2] = [(.str v2 : D)] := e2
    obtain rfl := (List.cons.inj e2).1
    exact ⟨⟨v0, v1, v2⟩, rfl, w0, w1, w2⟩
theorem decD67 : DecD Try.prog 67 Comment.d Comment.wf := decD_agg (by kernel_rfl) dec67
theorem decD5 : DecD Try.prog 5 (D.int .u8) (wfI .u8) := decD_flat (by kernel_rfl) dec5
theorem dec37 : Dec Try.prog 37 (fun l => [.sl (List.map (D.int .u8) l)]) (wfL (wfI .u8)) := dec_slice (te := 5) (by kernel_rfl) decD5
theorem decD37 : DecD Try.prog 37 (fun l => D.sl (List.map (D.int .u8) l)) (wfL (wfI .u8)) := decD_flat (by kernel_rfl) dec37
theorem dec88 : Dec Try.prog 88 (fun l => [.sl (List.map D.str l)]) (wfL wfS) := dec_slice (te := 9) (by kernel_rfl) decD9
theorem decD88 : DecD Try.prog 88 (fun l => D.sl (List.map D.str l)) (wfL wfS) := decD_flat (by kernel_rfl) dec88
theorem dec3 : Dec Try.prog 3 (fun n => [.int .i64 n]) (wfI .i64) := dec_int (by kernel_rfl)
theorem decD3 : DecD Try.prog 3 (D.int .i64) (wfI .i64) := decD_flat (by kernel_rfl) dec3
end Go.Es.Nam
