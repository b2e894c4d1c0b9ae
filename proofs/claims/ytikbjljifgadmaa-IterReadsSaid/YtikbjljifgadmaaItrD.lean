/- How arguments are read. No condition. -/
import Derived.Test.YtikbjljifgadmaaEsD
import Derived.Test.YtikbjljifgadmaaChecked
import Derived.Test.YtikbjljifgadmaaItrP
import Derived.KernelRfl
set_option linter.unusedVariables false
set_option linter.unusedSimpArgs false
set_option maxRecDepth 100000
set_option maxHeartbeats 20000000
namespace Go.Es.Itr
open Go.Proofs
theorem dec3 : Dec Try.prog 3 (fun n => [.int .i64 n]) (wfI .i64) := dec_int (by kernel_rfl)
theorem dec5 : Dec Try.prog 5 (fun n => [.int .u8 n]) (wfI .u8) := dec_int (by kernel_rfl)
theorem decD5 : DecD Try.prog 5 (D.int .u8) (wfI .u8) := decD_flat (by kernel_rfl) dec5
theorem dec26 : Dec Try.prog 26 (fun l => [.sl (List.map (D.int .u8) l)]) (wfL (wfI .u8)) := dec_slice (te := 5) (by kernel_rfl) decD5
theorem dec41 : Dec Try.prog 41 Block.cs Block.wf := by
  refine dec_rec fun n ih l hn h => ?_
  obtain ⟨hl, hf⟩ := of_struct h (by kernel_rfl)
  have hl : l.length = 3 := hl.trans (by kernel_rfl)
  match l, hl, hn, hf with
  | [c0, c1, c2], _, hn, hf =>
    obtain ⟨bs2, eb2, hbl2, hbw2⟩ := dec_self (ts := 38) (by kernel_rfl) (by kernel_rfl) ih (c := c2) (by simp only [List.cons.sizeOf_spec, List.nil.sizeOf_spec] at hn; omega) (hf 38 2 1 (List.mem_of_getElem? (i := 2) (by kernel_rfl)) (by kernel_rfl))
    obtain ⟨v0, e0, w0⟩ := dec3 _ (hf 3 0 1 (List.mem_of_getElem? (i := 0) (by kernel_rfl)) (by kernel_rfl))
    have e0 : [c0] = [(.int .i64 v0 : D)] := e0
    obtain rfl := (List.cons.inj e0).1
    obtain ⟨v1, e1, w1⟩ := dec26 _ (hf 26 1 1 (List.mem_of_getElem? (i := 1) (by kernel_rfl)) (by kernel_rfl))
    have e1 : [c1] = [(.sl (List.map (D.int .u8) v1) : D)] := e1
    obtain rfl := (List.cons.inj e1).1
    subst eb2
    exact ⟨⟨v0, v1, bs2.map Block.d⟩, by show _ = [.int .i64 v0, .sl (List.map (D.int .u8) v1), (.sl (List.map id (bs2.map Block.d)) : D)]; rw [List.map_id]; rfl, Block.wf.mk _ w0 w1 bs2 rfl hbl2 hbw2⟩
theorem decD41 : DecD Try.prog 41 Block.d Block.wf := decD_agg (by kernel_rfl) dec41
theorem dec38 : Dec Try.prog 38 (fun l : List D => [.sl (List.map id l)]) (wfR Block.d Block.wf) := dec_sliceR (te := 41) (by kernel_rfl) decD41
theorem decD38 : DecD Try.prog 38 (fun l => D.sl (List.map id l)) (wfR Block.d Block.wf) := decD_flat (by kernel_rfl) dec38
theorem decD3 : DecD Try.prog 3 (D.int .i64) (wfI .i64) := decD_flat (by kernel_rfl) dec3
theorem dec39 : Dec Try.prog 39 (fun n => [.int .u16 n]) (wfI .u16) := dec_int (by kernel_rfl)
theorem decD39 : DecD Try.prog 39 (D.int .u16) (wfI .u16) := decD_flat (by kernel_rfl) dec39
end Go.Es.Itr
