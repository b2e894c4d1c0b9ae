/- How arguments are read. No condition. -/
import Derived.Test.YtbogbgbpahonoaaEsD
import Derived.Test.YtbogbgbpahonoaaChecked
import Derived.Test.YtbogbgbpahonoaaEmvP
import Derived.KernelRfl
set_option linter.unusedVariables false
set_option linter.unusedSimpArgs false
set_option maxRecDepth 100000
set_option maxHeartbeats 4000000
namespace Go.Es.Emv
open Go.Proofs
theorem dec3 : Dec Try.prog 3 (fun n => [.int .i64 n]) (wfI .i64) := dec_int (by kernel_rfl)
theorem dec4 : Dec Try.prog 4 (fun b => [.bool b]) (fun _ => True) := dec_bool (by kernel_rfl)
theorem dec35 : Dec Try.prog 35 api_Value.cs api_Value.wf := by
  intro l h
  obtain ⟨hl, hf⟩ := of_struct h (by kernel_rfl)
  have hl : l.length = 6 := hl.trans (by kernel_rfl)
  match l, hl with
  | [c0, c1, c2, c3, c4, c5], _ =>
    obtain ⟨v0, e0, w0⟩ := dec3 _ (hf 3 0 1 (List.mem_of_getElem? (i := 0) (by kernel_rfl)) (by kernel_rfl))
    have e0 : [c0] = [(.int .i64 v0 : D)] := e0
    obtain rfl := (List.cons.inj e0).1
    obtain ⟨v1, e1, w1⟩ := dec3 _ (hf 3 1 1 (List.mem_of_getElem? (i := 1) (by kernel_rfl)) (by kernel_rfl))
    have e1 : [c1] = [(.int .i64 v1 : D)] := e1
    obtain rfl := (List.cons.inj e1).1
    obtain ⟨v2, e2, w2⟩ := dec3 _ (hf 3 2 1 (List.mem_of_getElem? (i := 2) (by kernel_rfl)) (by kernel_rfl))
    have e2 : [c2] = [(.int .i64 v2 : D)] := e2
    obtain rfl := (List.cons.inj e2).1
    obtain ⟨v3, e3, w3⟩ := dec3 _ (hf 3 3 1 (List.mem_of_getElem? (i := 3) (by kernel_rfl)) (by kernel_rfl))
    have e3 : [c3] = [(.int .i64 v3 : D)] := e3
    obtain rfl := (List.cons.inj e3).1
    obtain ⟨v4, e4, w4⟩ := dec3 _ (hf 3 4 1 (List.mem_of_getElem? (i := 4) (by kernel_rfl)) (by kernel_rfl))
    have e4 : [c4] = [(.int .i64 v4 : D)] := e4
    obtain rfl := (List.cons.inj e4).1
    obtain ⟨v5, e5, w5⟩ := dec4 _ (hf 4 5 1 (List.mem_of_getElem? (i := 5) (by kernel_rfl)) (by kernel_rfl))
    have e5 : [c5] = [(.bool v5 : D)] := e5
    obtain rfl := (List.cons.inj e5).1
    exact ⟨⟨v0, v1, v2, v3, v4, v5⟩, rfl, w0, w1, w2, w3, w4, w5⟩
theorem decD35 : DecD Try.prog 35 api_Value.d api_Value.wf := decD_agg (by kernel_rfl) dec35
theorem decD3 : DecD Try.prog 3 (D.int .i64) (wfI .i64) := decD_flat (by kernel_rfl) dec3
end Go.Es.Emv
