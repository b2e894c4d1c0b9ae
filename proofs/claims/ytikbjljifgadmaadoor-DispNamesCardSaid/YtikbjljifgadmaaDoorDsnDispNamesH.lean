/- The law DispNames in plain Lean. No condition. -/
import Derived.Test.YtikbjljifgadmaaDoorDsnH
set_option linter.unusedVariables false
set_option linter.unusedSimpArgs false
set_option maxHeartbeats 1000000
set_option maxRecDepth 100000
namespace Go.Es.Dsn
theorem dispNames_true (n : Int) (s : List UInt8) (w0 : wfI .i64 n) (w1 : wfS s) : hansomlaw17_DispNames n s = some true := by
  unfold hansomlaw17_DispNames
  have hc : cutL s 0 (mnI (s.length : Int) 8) = some (s.take 8) := cut_min s 8
  rw [hc, Option.bind_some]
  generalize s.take 8 = t
  have er : disp_Reg n = hansomref17_Reg n := by
    unfold disp_Reg hansomref17_Reg
    rw [nth_eq fields_r, of_eq]
  have eb : disp_Byte n = hansomref17_Byte n := by
    unfold disp_Byte hansomref17_Byte
    rw [nth_eq fields_b, of_eq]
  have es : disp_Seg n = hansomref17_Seg n := by
    unfold disp_Seg hansomref17_Seg
    rw [nth_eq fields_s, of_eq]
  have r1 : ∃ z, hansomref17_Reg n = some z := by unfold hansomref17_Reg; rw [of_eq]; exact ⟨_, rfl⟩
  have r2 : ∃ z, hansomref17_Byte n = some z := by unfold hansomref17_Byte; rw [of_eq]; exact ⟨_, rfl⟩
  have r3 : ∃ z, hansomref17_Seg n = some z := by unfold hansomref17_Seg; rw [of_eq]; exact ⟨_, rfl⟩
  obtain ⟨z1, h1⟩ := r1; obtain ⟨z2, h2⟩ := r2; obtain ⟨z3, h3⟩ := r3
  rw [dfind, Option.bind_some, awk, dname n w0, rname, er, eb, es, h1, h2, h3, rfind]
  simp only [Option.bind_some, if_true, beq_self_eq_true]
  have hk := fiN_le (· == t) WW 1
  have hL := WW_len
  have tail : (if (((fiN (· == t) WW 1 : Nat) : Int) == 0) = true then some true else (disp_Name ((fiN (· == t) WW 1 : Nat) : Int)).bind fun r => if (r == t) = true then some true else some false) = some true := by
    rcases hk with hk | ⟨ha, hb, x, hx, he⟩
    · rw [hk]; rfl
    · rw [hL] at hb
      rw [if_neg (by simp; omega), dname _ (wfI_i64.2 ⟨by omega, by omega⟩), Option.bind_some]
      have : nameW ((fiN (· == t) WW 1 : Nat) : Int) = t := by
        unfold nameW
        rw [if_neg (by omega), show (((fiN (· == t) WW 1 : Nat) : Int) - 1).toNat = fiN (· == t) WW 1 - 1 from by omega, hx]
        exact eq_of_beq he
      rw [this]; simp
  by_cases c : n < 1
  · rw [if_pos (by simpa using c)]; exact tail
  · rw [if_neg (by simpa using c)]
    by_cases d : n > 95
    · rw [if_pos (by simpa using d)]; exact tail
    · rw [if_neg (by simpa using d), dfind]
      have : fiN (· == nameW n) WW 1 = n.toNat := by
        unfold nameW
        rw [if_neg (by omega)]
        have := List.all_eq_true.1 names_ok (n - 1).toNat (List.mem_range.2 (by omega))
        rw [eq_of_beq this]; omega
      rw [this]
      simp only [Option.bind_some]
      rw [if_pos (by simp; omega)]
      exact tail
end Go.Es.Dsn
