/- How arguments are read. No condition. -/
import Derived.Test.YtikbjljifgadmaaEsD
import Derived.Test.YtikbjljifgadmaaChecked
import Derived.Test.YtikbjljifgadmaaMzaP
import Derived.KernelRfl
set_option linter.unusedVariables false
set_option linter.unusedSimpArgs false
set_option maxRecDepth 100000
set_option maxHeartbeats 4000000
namespace Go.Es.Mza
open Go.Proofs
theorem dec5 : Dec Try.prog 5 (fun n => [.int .u8 n]) (wfI .u8) := dec_int (by kernel_rfl)
theorem decD5 : DecD Try.prog 5 (D.int .u8) (wfI .u8) := decD_flat (by kernel_rfl) dec5
theorem dec26 : Dec Try.prog 26 (fun l => [.sl (List.map (D.int .u8) l)]) (wfL (wfI .u8)) := dec_slice (te := 5) (by kernel_rfl) decD5
theorem dec3 : Dec Try.prog 3 (fun n => [.int .i64 n]) (wfI .i64) := dec_int (by kernel_rfl)
theorem decD3 : DecD Try.prog 3 (D.int .i64) (wfI .i64) := decD_flat (by kernel_rfl) dec3
theorem dec58 : Dec Try.prog 58 (fun l => [.sl (List.map (D.int .i64) l)]) (wfL (wfI .i64)) := dec_slice (te := 3) (by kernel_rfl) decD3
theorem dec39 : Dec Try.prog 39 (fun n => [.int .u16 n]) (wfI .u16) := dec_int (by kernel_rfl)
theorem dec60 : Dec Try.prog 60 Image.cs Image.wf := by
  intro l h
  obtain ⟨hl, hf⟩ := of_struct h (by kernel_rfl)
  have hl : l.length = 7 := hl.trans (by kernel_rfl)
  match l, hl with
  | [c0, c1, c2, c3, c4, c5, c6], _ =>
    obtain ⟨v0, e0, w0⟩ := dec26 _ (hf 26 0 1 (List.mem_of_getElem? (i := 0) (by kernel_rfl)) (by kernel_rfl))
    have e0 : [c0] = [(.sl (List.map (D.int .u8) v0) : D)] := e0
    obtain rfl := (List.cons.inj e0).1
    obtain ⟨v1, e1, w1⟩ := dec58 _ (hf 58 1 1 (List.mem_of_getElem? (i := 1) (by kernel_rfl)) (by kernel_rfl))
    have e1 : [c1] = [(.sl (List.map (D.int .i64) v1) : D)] := e1
    obtain rfl := (List.cons.inj e1).1
    obtain ⟨v2, e2, w2⟩ := dec39 _ (hf 39 2 1 (List.mem_of_getElem? (i := 2) (by kernel_rfl)) (by kernel_rfl))
    have e2 : [c2] = [(.int .u16 v2 : D)] := e2
    obtain rfl := (List.cons.inj e2).1
    obtain ⟨v3, e3, w3⟩ := dec39 _ (hf 39 3 1 (List.mem_of_getElem? (i := 3) (by kernel_rfl)) (by kernel_rfl))
    have e3 : [c3] = [(.int .u16 v3 : D)] := e3
    obtain rfl := (List.cons.inj e3).1
    obtain ⟨v4, e4, w4⟩ := dec39 _ (hf 39 4 1 (List.mem_of_getElem? (i := 4) (by kernel_rfl)) (by kernel_rfl))
    have e4 : [c4] = [(.int .u16 v4 : D)] := e4
    obtain rfl := (List.cons.inj e4).1
    obtain ⟨v5, e5, w5⟩ := dec39 _ (hf 39 5 1 (List.mem_of_getElem? (i := 5) (by kernel_rfl)) (by kernel_rfl))
    have e5 : [c5] = [(.int .u16 v5 : D)] := e5
    obtain rfl := (List.cons.inj e5).1
    obtain ⟨v6, e6, w6⟩ := dec3 _ (hf 3 6 1 (List.mem_of_getElem? (i := 6) (by kernel_rfl)) (by kernel_rfl))
    have e6 : [c6] = [(.int .i64 v6 : D)] := e6
    obtain rfl := (List.cons.inj e6).1
    exact ⟨⟨v0, v1, v2, v3, v4, v5, v6⟩, rfl, w0, w1, w2, w3, w4, w5, w6⟩
theorem decD60 : DecD Try.prog 60 Image.d Image.wf := decD_agg (by kernel_rfl) dec60
theorem dec71 : Dec Try.prog 71 (fun x : (A2 Int) => [.int .i64 x.a0, .int .i64 x.a1]) (A2.wf (wfI .i64)) := by
  intro l h
  obtain ⟨hl, hf⟩ := of_array (n := 2) (te := 3) (m := 1) h (by kernel_rfl) (by kernel_rfl)
  have hl : l.length = 2 := hl.trans (by kernel_rfl)
  match l, hl with
  | [c0, c1], _ =>
    obtain ⟨v0, e0, w0⟩ := dec3 _ (hf 0 (by decide))
    have e0 : [c0] = [(.int .i64 v0 : D)] := e0
    obtain rfl := (List.cons.inj e0).1
    obtain ⟨v1, e1, w1⟩ := dec3 _ (hf 1 (by decide))
    have e1 : [c1] = [(.int .i64 v1 : D)] := e1
    obtain rfl := (List.cons.inj e1).1
    exact ⟨⟨v0, v1⟩, rfl, w0, w1⟩
theorem decD71 : DecD Try.prog 71 (fun x : (A2 Int) => D.agg [.int .i64 x.a0, .int .i64 x.a1]) (A2.wf (wfI .i64)) := decD_agg (by kernel_rfl) dec71
theorem decD26 : DecD Try.prog 26 (fun l => D.sl (List.map (D.int .u8) l)) (wfL (wfI .u8)) := decD_flat (by kernel_rfl) dec26
end Go.Es.Mza
