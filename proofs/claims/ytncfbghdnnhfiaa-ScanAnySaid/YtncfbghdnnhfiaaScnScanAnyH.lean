/- The law ScanAny in plain Lean. No condition. -/
import Derived.Test.YtncfbghdnnhfiaaScnH
set_option linter.unusedVariables false
set_option linter.unusedSimpArgs false
set_option maxHeartbeats 4000000
set_option maxRecDepth 100000
namespace Go.Es.Scn
theorem any36 (y p : List Int) (n : Int) (A : List Int) (c : Int) (t : List Int) (hy : y = A ++ c :: t) (hA : ∀ x ∈ A, isP x.toNat = true) (hA0 : ∀ x ∈ A, 0 ≤ x) (hc : isP c.toNat = false) (hn : (A.length : Int) < n) (hl : y.length ≤ 100000) :
  loopO (fun x : Int => hansomlaw07_ScanAny_l36 y n p x) 0 = some (A.length : Int) := by
 have hlen : A.length < y.length := by rw [hy]; simp
 refine loop_to (fun _ => (A.length : Int)) (fun x => 0 ≤ x ∧ x ≤ (A.length : Int)) (fun x => ((A.length : Int) - x).toNat) (fun x hx => ?_) ⟨Int.le_refl _, by omega⟩
 have e1 : decide (x < n) = true := by simp; omega
 simp only [hansomlaw07_ScanAny_l36, e1, if_true]
 by_cases hx2 : x < (A.length : Int)
 ·obtain ⟨k, rfl⟩ : ∃ k : Nat, x = (k : Int) := ⟨x.toNat, by omega⟩
  have hk : k < A.length := by omega
  have e2 : idx y (k : Int) = some A[k] := by
   rw [idx_nat (by omega)]
   congr 1
   simp only [hy]
   rw [List.getElem_append_left hk]
  have hm : A[k] ∈ A := List.getElem_mem hk
  have hv := isP_val (hA0 _ hm) (hA _ hm)
  simp only [e2, Option.bind_some]
  have e3 : IntKind.wrap .i64 ((k : Int) + 1) = (k : Int) + 1 := wrap64 (by omega) (by omega)
  refine .inl ⟨(k : Int) + 1, ?_, by omega, by omega, by trivial⟩
  rw [e3]
  rcases hv with h | h | h | h | h | h | h <;> simp [h]
 ·obtain rfl : x = (A.length : Int) := by omega
  have e2 : idx y (A.length : Int) = some c := by
   rw [idx_nat (by omega)]
   congr 1
   simp [hy]
  have hv : c ≠ 38 ∧ c ≠ 46 ∧ c ≠ 54 ∧ c ≠ 62 ∧ c ≠ 240 ∧ c ≠ 242 ∧ c ≠ 243 := by
   refine ⟨?_, ?_, ?_, ?_, ?_, ?_, ?_⟩ <;> rintro rfl <;> simp [isP] at hc
  obtain ⟨v1, v2, v3, v4, v5, v6, v7⟩ := hv
  refine .inr ?_
  simp [e2, v1, v2, v3, v4, v5, v6, v7]
theorem sum_take_succ (l : List Int) (k : Nat) (h : k < l.length) : (l.take (k + 1)).sum = (l.take k).sum + l[k] := by
 rw [List.take_succ_eq_append_getElem h, List.sum_append]; simp
theorem sum_lo : ∀ (l : List Int), (∀ x ∈ l, 0 ≤ x ∧ x ≤ 255) → 0 ≤ l.sum ∧ l.sum ≤ 255 * (l.length : Int)
 | [], _ => by simp
 | c :: l, h => by
  have h1 := h c (by simp)
  have h2 := sum_lo l (fun x hx => h x (by simp [hx]))
  simp only [List.sum_cons, List.length_cons]
  omega
theorem any51 (y p : List Int) (n : Int) (A H : List Int) (t u : List Int) (hy : y = A ++ t) (hp : p = H ++ u) (hAH : A.length = H.length) (hA : ∀ x ∈ A, 0 ≤ x ∧ x ≤ 255) (hH : ∀ x ∈ H, 0 ≤ x ∧ x ≤ 255) (hs : A.sum = H.sum) (hl : y.length ≤ 100000) (hlp : p.length ≤ 100000) :
  loopO (fun x : (Int × Int) => hansomlaw07_ScanAny_l51 y n p (A.length : Int) x.1 x.2) (0, 0) = some 0 := by
 have hly : A.length ≤ y.length := by rw [hy]; simp
 have hlp2 : H.length ≤ p.length := by rw [hp]; simp
 obtain ⟨b, h1, h2⟩ := loop_rule (f := fun x : (Int × Int) => hansomlaw07_ScanAny_l51 y n p (A.length : Int) x.1 x.2) (fun x => ∃ k : Nat, x.2 = (k : Int) ∧ k ≤ A.length ∧ x.1 = (A.take k).sum - (H.take k).sum) (fun x => ((A.length : Int) - x.2).toNat) (fun b => b = 0) (fun x hx => by
  obtain ⟨s, q⟩ := x
  obtain ⟨k, hk, hkl, hsum⟩ := hx
  simp only at hk hsum
  subst hk
  by_cases hlt : k < A.length
  ·have e1 : decide ((k : Int) < (A.length : Int)) = true := by simp; exact hlt
   have e2 : decide ((k : Int) < (p.length : Int)) = true := by simp; omega
   have e3 : idx y (k : Int) = some A[k] := by
    rw [idx_nat (by omega)]; congr 1; simp only [hy]; rw [List.getElem_append_left hlt]
   have e4 : idx p (k : Int) = some (H[k]'(by omega)) := by
    rw [idx_nat (by omega)]; congr 1; simp only [hp]; rw [List.getElem_append_left (by omega)]
   have b1 := hA _ (List.getElem_mem hlt)
   have b2 := hH _ (List.getElem_mem (show k < H.length by omega))
   have s1 := sum_lo (A.take k) (fun x hx => hA x (List.mem_of_mem_take hx))
   have s2 := sum_lo (H.take k) (fun x hx => hH x (List.mem_of_mem_take hx))
   simp only [List.length_take] at s1 s2
   refine .inl ⟨(s + (A[k] - H[k]'(by omega)), (k : Int) + 1), ?_, ⟨k + 1, by push_cast; rfl, hlt, ?_⟩, by simp only; omega⟩
   ·simp only [hansomlaw07_ScanAny_l51, e1, e2, if_true, e3, e4, Option.bind_some]
    rw [wrap64 (n := A[k]) (by omega) (by omega), wrap64 (n := H[k]'(by omega)) (by omega) (by omega), wrap64 (n := A[k] - H[k]'(by omega)) (by omega) (by omega), wrap64 (n := s + (A[k] - H[k]'(by omega))) (by omega) (by omega), wrap64 (n := (k : Int) + 1) (by omega) (by omega)]
   ·rw [sum_take_succ A k hlt, sum_take_succ H k (by omega)]
    simp only [hsum]; omega
  ·have hke : k = A.length := by omega
   have e1 : decide ((k : Int) < (A.length : Int)) = false := by simp; omega
   refine .inr ⟨s, ?_, ?_⟩
   ·simp only [hansomlaw07_ScanAny_l51, e1, Bool.false_eq_true, if_false]
   ·rw [hsum, hke, List.take_length, hAH, List.take_length, hs]; omega) (x := (0, 0)) ⟨0, rfl, by omega, by simp⟩
 rw [h1, h2]
theorem any12 (y : List Int) (hl : y.length ≤ 1000) (hb : By y) : hansomlaw07_ScanAny_j12 y = some true := by
 unfold hansomlaw07_ScanAny_j12
 rw [get_spec y (by omega) hb]
 cases ht : takeR y with
 | die e =>
  simp only [Option.bind_some, awake7]
  rcases Dy.take y e ht with rfl | rfl <;> simp [inst0]
 | ok i r =>
  obtain ⟨hi, hm, A, T, hy, hA, hc, hAl, hAs, hput⟩ := take_str hb ht
  have hb' := hb
  rw [hy] at hb'
  have hbA : ∀ x ∈ A, 0 ≤ x ∧ x ≤ 255 := fun x hx => hb' x (by simp [hx])
  have hbH : ∀ x ∈ aheadL i, 0 ≤ x ∧ x ≤ 255 := fun x hx => putL_by i hi hm x (by rw [hput]; exact List.mem_append_left _ hx)
  have hlen := lenI_lo i hm
  have hyl : y.length = A.length + (T.length + 1) + r.length := by rw [hy]; simp; omega
  have hpl : (putL i).length = A.length + (T.length + 1) := by rw [hput, hAl]; simp
  have hA3 : A.length ≤ 3 := by
   rw [hAl]
   unfold aheadL
   have h1 : (if i.Lock = true then [240] else ([] : List Int)).length ≤ 1 := by split <;> simp
   have h2 : (if i.Rep > 0 then [241 + i.Rep] else ([] : List Int)).length ≤ 1 := by split <;> simp
   have h3 : (if i.Seg > 0 then [30 + 8 * i.Seg] else ([] : List Int)).length ≤ 1 := by split <;> simp
   simp only [List.length_append]
   omega
  have hn : ((y.length - r.length : Nat) : Int) = ((putL i).length : Int) := by omega
  simp only [Option.bind_some, hn]
  have e1 : decide (((putL i).length : Int) < 1) = false := by simp; omega
  have e2 : decide (((putL i).length : Int) > (y.length : Int)) = false := by simp; omega
  have l36 := any36 y (putL i) ((putL i).length : Int) A i.Op (T ++ r) (by rw [hy]; simp) hA (fun x hx => (hbA x hx).1) hc (by omega) (by omega)
  have l51 := any51 y (putL i) ((putL i).length : Int) A (aheadL i) ((i.Op :: T) ++ r) (i.Op :: T) (by rw [hy]; simp) hput hAl hbA hbH hAs (by omega) (by omega)
  have e3 : decide ((A.length : Int) ≤ 3) = true := by simp; omega
  have c1 : cutL (putL i) (A.length : Int) ((putL i).length : Int) = some (i.Op :: T) := by
   rw [cutL_eq (by omega) (by omega) (by omega)]
   simp only [Int.toNat_natCast]
   rw [hput, hAl]
   simp
  have c2 : cutL y (A.length : Int) ((putL i).length : Int) = some (i.Op :: T) := by
   rw [cutL_eq (by omega) (by omega) (by omega)]
   simp only [Int.toNat_natCast]
   have : (putL i).length - A.length = (i.Op :: T).length := by simp only [List.length_cons]; omega
   rw [this, hy]
   simp
  have e0 : ((0 : Int) != 0) = false := rfl
  simp only [e0, Bool.false_eq_true, if_false, e1, e2, refMay i hi, hm, Option.bind_some, Bool.not_true, refPut i hi hm, l36, l51, awake7, if_true, beq_self_eq_true, e3, c1, c2]
theorem xor_by (x z : Int) : 0 ≤ bitsOp .xor .u8 x z ∧ bitsOp .xor .u8 x z ≤ 255 := by
 have : bitsOp .xor .u8 x z = IntKind.wrap .u8 (((BitVec.ofInt 8 x ^^^ BitVec.ofInt 8 z).toNat : Nat) : Int) := rfl
 rw [this, wrap_u8']
 omega
theorem scanAny_true (b : List Int) (x : Inst) (at_ : Int) (wb : wfL (wfI .u8) b) (wx : Inst.wf x) (wa : wfI .i64 at_) : hansomlaw07_ScanAny b x at_ = some true := by
 obtain ⟨i, h1, hi, hm⟩ := near_spec x (okI_wf wx)
 have hlen := lenI_lo i hm
 unfold hansomlaw07_ScanAny
 have hmin : 0 ≤ mnI (b.length : Int) 16 ∧ mnI (b.length : Int) 16 ≤ (b.length : Int) ∧ mnI (b.length : Int) 16 ≤ 16 := by rw [mnI_eq]; omega
 rw [cutL_eq (by omega) hmin.1 hmin.2.1, Option.bind_some]
 split
 ·rw [h1, Option.bind_some, refPut i hi hm, Option.bind_some]
  have m255 : 0 ≤ bitsOp .and .i64 (shrI .i64 at_ 1) 255 := by
   rw [show bitsOp .and .i64 (shrI .i64 at_ 1) 255 = (shrI .i64 at_ 1) % 256 from and_mask _ 8 (by omega)]; omega
  have m7 : 0 ≤ bitsOp .and .i64 (shrI .i64 at_ 9) 7 ∧ bitsOp .and .i64 (shrI .i64 at_ 9) 7 ≤ 7 := by
   rw [and7]; omega
  have hr : remI .i64 (bitsOp .and .i64 (shrI .i64 at_ 1) 255) ((putL i).length : Int) = some ((bitsOp .and .i64 (shrI .i64 at_ 1) 255) % ((putL i).length : Int)) := by
   unfold remI
   rw [if_neg (by omega), Int.tmod_eq_emod_of_nonneg m255]
  have hz0 := Int.emod_nonneg (bitsOp .and .i64 (shrI .i64 at_ 1) 255) (show ((putL i).length : Int) ≠ 0 by omega)
  have hz1 := Int.emod_lt_of_pos (bitsOp .and .i64 (shrI .i64 at_ 1) 255) (show (0 : Int) < ((putL i).length : Int) by omega)
  rw [hr, Option.bind_some]
  generalize (bitsOp .and .i64 (shrI .i64 at_ 1) 255) % ((putL i).length : Int) = z at hz0 hz1
  have hs : shlO .u8 1 (IntKind.wrap .u64 (bitsOp .and .i64 (shrI .i64 at_ 9) 7)) = some (shlI .u8 1 (IntKind.wrap .u64 (bitsOp .and .i64 (shrI .i64 at_ 9) 7))) := by
   unfold shlO
   rw [if_neg]
   rw [wrap_u64']; omega
  simp only [idx_eq hz0 hz1, Option.bind_some, hs]
  refine any12 _ (by rw [List.length_set]; omega) ?_
  intro w hw
  rcases List.mem_or_eq_of_mem_set hw with hw | rfl
  ·exact putL_by i hi hm w hw
  ·exact xor_by _ _
 ·refine any12 _ ?_ ?_
  ·rw [List.length_take]; omega
  ·intro w hw
   have := wb.2 w (List.mem_of_mem_drop (List.mem_of_mem_take hw))
   exact wfI_u8.1 this
end Go.Es.Scn
