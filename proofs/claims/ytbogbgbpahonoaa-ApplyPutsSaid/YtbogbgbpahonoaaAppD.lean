/- How arguments are read. No condition. -/
import Derived.Test.YtbogbgbpahonoaaEsD
import Derived.Test.YtbogbgbpahonoaaChecked
import Derived.Test.YtbogbgbpahonoaaAppP
import Derived.KernelRfl
set_option linter.unusedVariables false
set_option linter.unusedSimpArgs false
set_option maxRecDepth 100000
set_option maxHeartbeats 4000000
namespace Go.Es.App
open Go.Proofs
theorem dec5 : Dec Try.prog 5 (fun n => [.int .u8 n]) (wfI .u8) := dec_int (by kernel_rfl)
theorem decD5 : DecD Try.prog 5 (D.int .u8) (wfI .u8) := decD_flat (by kernel_rfl) dec5
theorem dec37 : Dec Try.prog 37 (fun l => [.sl (List.map (D.int .u8) l)]) (wfL (wfI .u8)) := dec_slice (te := 5) (by kernel_rfl) decD5
theorem decD37 : DecD Try.prog 37 (fun l => D.sl (List.map (D.int .u8) l)) (wfL (wfI .u8)) := decD_flat (by kernel_rfl) dec37
theorem dec3 : Dec Try.prog 3 (fun n => [.int .i64 n]) (wfI .i64) := dec_int (by kernel_rfl)
theorem dec4 : Dec Try.prog 4 (fun b => [.bool b]) (fun _ => True) := dec_bool (by kernel_rfl)
theorem dec41 : Dec Try.prog 41 (fun n => [.int .u16 n]) (wfI .u16) := dec_int (by kernel_rfl)
theorem dec43 : Dec Try.prog 43 Fixup.cs Fixup.wf := by
  intro l h
  obtain ⟨hl, hf⟩ := of_struct h (by kernel_rfl)
  have hl : l.length = 8 := hl.trans (by kernel_rfl)
  match l, hl with
  | [c0, c1, c2, c3, c4, c5, c6, c7], _ =>
    obtain ⟨v0, e0, w0⟩ := dec3 _ (hf 3 0 1 (List.mem_of_getElem? (i := 0) (by kernel_rfl)) (by kernel_rfl))
    have e0 : [c0] = [(.int .i64 v0 : D)] := e0
    obtain rfl := (List.cons.inj e0).1
    obtain ⟨v1, e1, w1⟩ := dec3 _ (hf 3 1 1 (List.mem_of_getElem? (i := 1) (by kernel_rfl)) (by kernel_rfl))
    have e1 : [c1] = [(.int .i64 v1 : D)] := e1
    obtain rfl := (List.cons.inj e1).1
    obtain ⟨v2, e2, w2⟩ := dec4 _ (hf 4 2 1 (List.mem_of_getElem? (i := 2) (by kernel_rfl)) (by kernel_rfl))
    have e2 : [c2] = [(.bool v2 : D)] := e2
    obtain rfl := (List.cons.inj e2).1
    obtain ⟨v3, e3, w3⟩ := dec3 _ (hf 3 3 1 (List.mem_of_getElem? (i := 3) (by kernel_rfl)) (by kernel_rfl))
    have e3 : [c3] = [(.int .i64 v3 : D)] := e3
    obtain rfl := (List.cons.inj e3).1
    obtain ⟨v4, e4, w4⟩ := dec3 _ (hf 3 4 1 (List.mem_of_getElem? (i := 4) (by kernel_rfl)) (by kernel_rfl))
    have e4 : [c4] = [(.int .i64 v4 : D)] := e4
    obtain rfl := (List.cons.inj e4).1
    obtain ⟨v5, e5, w5⟩ := dec3 _ (hf 3 5 1 (List.mem_of_getElem? (i := 5) (by kernel_rfl)) (by kernel_rfl))
    have e5 : [c5] = [(.int .i64 v5 : D)] := e5
    obtain rfl := (List.cons.inj e5).1
    obtain ⟨v6, e6, w6⟩ := dec3 _ (hf 3 6 1 (List.mem_of_getElem? (i := 6) (by kernel_rfl)) (by kernel_rfl))
    have e6 : [c6] = [(.int .i64 v6 : D)] := e6
    obtain rfl := (List.cons.inj e6).1
    obtain ⟨v7, e7, w7⟩ := dec41 _ (hf 41 7 1 (List.mem_of_getElem? (i := 7) (by kernel_rfl)) (by kernel_rfl))
    have e7 : [c7] = [(.int .u16 v7 : D)] := e7
    obtain rfl := (List.cons.inj e7).1
    exact ⟨⟨v0, v1, v2, v3, v4, v5, v6, v7⟩, rfl, w0, w1, w2, w3, w4, w5, w6, w7⟩
theorem decD43 : DecD Try.prog 43 Fixup.d Fixup.wf := decD_agg (by kernel_rfl) dec43
theorem dec49 : Dec Try.prog 49 (fun x : (A3 Int) => [.int .i64 x.a0, .int .i64 x.a1, .int .i64 x.a2]) (A3.wf (wfI .i64)) := by
  intro l h
  obtain ⟨hl, hf⟩ := of_array (n := 3) (te := 3) (m := 1) h (by kernel_rfl) (by kernel_rfl)
  have hl : l.length = 3 := hl.trans (by kernel_rfl)
  match l, hl with
  | [c0, c1, c2], _ =>
    obtain ⟨v0, e0, w0⟩ := dec3 _ (hf 0 (by decide))
    have e0 : [c0] = [(.int .i64 v0 : D)] := e0
    obtain rfl := (List.cons.inj e0).1
    obtain ⟨v1, e1, w1⟩ := dec3 _ (hf 1 (by decide))
    have e1 : [c1] = [(.int .i64 v1 : D)] := e1
    obtain rfl := (List.cons.inj e1).1
    obtain ⟨v2, e2, w2⟩ := dec3 _ (hf 2 (by decide))
    have e2 : [c2] = [(.int .i64 v2 : D)] := e2
    obtain rfl := (List.cons.inj e2).1
    exact ⟨⟨v0, v1, v2⟩, rfl, w0, w1, w2⟩
theorem decD49 : DecD Try.prog 49 (fun x : (A3 Int) => D.agg [.int .i64 x.a0, .int .i64 x.a1, .int .i64 x.a2]) (A3.wf (wfI .i64)) := decD_agg (by kernel_rfl) dec49
end Go.Es.App
