/- The law PickWords in plain Lean. No condition. -/
import Derived.Test.YtbdmoaofbacfpaaDoorPkwH
set_option linter.unusedVariables false
set_option linter.unusedSimpArgs false
set_option maxHeartbeats 4000000
set_option maxRecDepth 100000
namespace Go.Es.Pkw
/-- the law in plain Lean -/
theorem pickWords_true (n : Int) (s : List UInt8) (w : wfI .i64 n) (_w1 : wfS s) : hansomlaw34_PickWords n s = some true := by
  have hW := WW_len
  have hL := JJ_len
  unfold hansomlaw34_PickWords
  obtain ⟨k, hk, hk0⟩ : ∃ k : Nat, Int.tmod (bitsOp .and .i64 n 255) 95 = (k : Int) ∧ k < 95 := by
    have a0 : bitsOp .and .i64 n 255 = n % 256 := and_mask n 8 (by omega)
    refine ⟨(Int.tmod (bitsOp .and .i64 n 255) 95).toNat, ?_, ?_⟩
    · rw [Int.tmod_eq_emod_of_nonneg (by omega)]; omega
    · rw [Int.tmod_eq_emod_of_nonneg (by omega)]; omega
  obtain ⟨i, hi, hi0⟩ : ∃ i : Nat, Int.tmod (bitsOp .and .i64 (shrI .i64 n 8) 255) 17 = (i : Int) ∧ i < 17 := by
    have a0 : bitsOp .and .i64 (shrI .i64 n 8) 255 = (shrI .i64 n 8) % 256 := and_mask (shrI .i64 n 8) 8 (by omega)
    refine ⟨(Int.tmod (bitsOp .and .i64 (shrI .i64 n 8) 255) 17).toNat, ?_, ?_⟩
    · rw [Int.tmod_eq_emod_of_nonneg (by omega)]; omega
    · rw [Int.tmod_eq_emod_of_nonneg (by omega)]; omega
  have hn : nameW ((k : Int) + 1) = (WW[k]?).getD [] := by
    unfold nameW
    rw [if_neg (by omega), show ((k : Int) + 1 - 1).toNat = k by omega]
  have h0 := eq_of_beq (List.all_eq_true.1 WW_ok k (List.mem_range.2 (by omega)))
  rw [hk, wrap64 (by omega) (by omega), rname, hn, Option.bind_some, pfind, h0, Option.bind_some]
  have key : ∀ o : Int, o = other (k + 1) → hansomlaw34_PickWords_j20 n s ((k : Int) + 1) (((k + 1 : Nat) : Int)) (other (k + 1)) o = some true := by
    intro o ho
    subst ho
    unfold hansomlaw34_PickWords_j20
    rw [hi, wrap64 (n := 2 * (i : Int)) (by omega) (by omega), wrap64 (n := 2 * (i : Int) + 1) (by omega) (by omega)]
    show ((idx JJ (2 * (i : Int))).bind _) = _
    have e1 : idx JJ (2 * (i : Int)) = some ((JJ[2 * i]?).getD []) := by
      rw [show 2 * (i : Int) = ((2 * i : Nat) : Int) by omega, idx_nat (by omega), List.getElem?_eq_getElem (by omega)]; rfl
    have e2 : idx JJ (2 * (i : Int) + 1) = some ((JJ[2 * i + 1]?).getD []) := by
      rw [show 2 * (i : Int) + 1 = ((2 * i + 1 : Nat) : Int) by omega, idx_nat (by omega), List.getElem?_eq_getElem (by omega)]; rfl
    rw [e1, Option.bind_some, pfind, Option.bind_some]
    rw [show cutL s 0 (mnI (s.length : Int) 8) = some (s.take 8) from cut_min s 8, Option.bind_some, pfind (s.take 8), Option.bind_some]
    show ((loopO (fun x : (Bool × Int) => hansomlaw34_PickWords_l36 _ _ _ _ JJ _ _ _ _ x.1 x.2) (false, 0)).bind _) = _
    rw [known_loop, Option.bind_some, awk, Option.bind_some, if_pos rfl, if_pos (by simp), if_pos (by simp)]
    show ((idx JJ (2 * (i : Int) + 1)).bind _) = _
    rw [e2, Option.bind_some, rfind, Option.bind_some]
    have h1 := eq_of_beq (List.all_eq_true.1 JJ_find i (List.mem_range.2 hi0))
    rw [if_pos (by rw [h1]; simp)]
    cases hc : alk.contains (s.take 8) with
    | true => rfl
    | false =>
      rw [if_neg (by simp), dfind, Option.bind_some, alU_miss _ hc]; simp
  unfold hansomlaw34_PickWords_j14
  by_cases c : k = 79
  · subst c
    rw [if_pos (by rfl), if_neg (by decide)]
    exact key 81 (by rfl)
  · rw [if_neg (by simp; omega)]
    by_cases c' : k = 38
    · subst c'
      rw [if_pos (by rfl)]
      exact key 40 (by rfl)
    · rw [if_neg (by simp; omega)]
      exact key 0 (by unfold other; rw [if_neg (by omega), if_neg (by omega)])
end Go.Es.Pkw
