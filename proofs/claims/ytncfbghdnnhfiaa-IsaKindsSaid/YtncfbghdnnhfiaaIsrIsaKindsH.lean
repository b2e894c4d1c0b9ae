/- The law IsaKinds in plain Lean. No condition. -/
import Derived.Test.YtncfbghdnnhfiaaIsrIsaRowsH
set_option linter.unusedVariables false
set_option linter.unusedSimpArgs false
set_option maxHeartbeats 4000000
set_option maxRecDepth 100000
namespace Go.Es.Isr
theorem name_len : NAMES.length ≤ 100000 := by decide
def clsU (w : List UInt8) : Int := if w == [77, 79, 86, 83, 66] then 1 else if w == [77, 79, 86, 83, 87] then 1 else if w == [83, 84, 79, 83, 66] then 1 else if w == [83, 84, 79, 83, 87] then 1 else if w == [76, 79, 68, 83, 66] then 1 else if w == [76, 79, 68, 83, 87] then 1 else if w == [67, 77, 80, 83, 66] then 2 else if w == [67, 77, 80, 83, 87] then 2 else if w == [83, 67, 65, 83, 66] then 2 else if w == [83, 67, 65, 83, 87] then 2 else 0
def repI (n : Int) : Int := if n == 46 then 1 else if n == 47 then 1 else if n == 50 then 1 else if n == 51 then 1 else if n == 52 then 1 else if n == 53 then 1 else if n == 48 then 2 else if n == 49 then 2 else if n == 54 then 2 else if n == 55 then 2 else 0
theorem isaRep (n : Int) : isa_Repeats n = some (repI n) := by
  unfold isa_Repeats isa_Repeats_j28 repI
  by_cases h46 : (n == 46) = true
  · simp only [beq_iff_eq] at h46; subst h46; rfl
  rw [Bool.not_eq_true] at h46
  by_cases h47 : (n == 47) = true
  · simp only [beq_iff_eq] at h47; subst h47; rfl
  rw [Bool.not_eq_true] at h47
  by_cases h50 : (n == 50) = true
  · simp only [beq_iff_eq] at h50; subst h50; rfl
  rw [Bool.not_eq_true] at h50
  by_cases h51 : (n == 51) = true
  · simp only [beq_iff_eq] at h51; subst h51; rfl
  rw [Bool.not_eq_true] at h51
  by_cases h52 : (n == 52) = true
  · simp only [beq_iff_eq] at h52; subst h52; rfl
  rw [Bool.not_eq_true] at h52
  by_cases h53 : (n == 53) = true
  · simp only [beq_iff_eq] at h53; subst h53; rfl
  rw [Bool.not_eq_true] at h53
  by_cases h48 : (n == 48) = true
  · simp only [beq_iff_eq] at h48; subst h48; rfl
  rw [Bool.not_eq_true] at h48
  by_cases h49 : (n == 49) = true
  · simp only [beq_iff_eq] at h49; subst h49; rfl
  rw [Bool.not_eq_true] at h49
  by_cases h54 : (n == 54) = true
  · simp only [beq_iff_eq] at h54; subst h54; rfl
  rw [Bool.not_eq_true] at h54
  by_cases h55 : (n == 55) = true
  · simp only [beq_iff_eq] at h55; subst h55; rfl
  rw [Bool.not_eq_true] at h55
  simp only [h46, h47, h50, h51, h52, h53, h48, h49, h54, h55, Bool.false_eq_true, if_false]
theorem refRep_of (n : Int) (w : List UInt8) (hn : hansomref04_Name n = some w) : hansomref04_Repeats n = some (clsU w) := by
  unfold hansomref04_Repeats hansomref04_Repeats_j28 clsU
  rw [hn, Option.bind_some]
  by_cases h0 : (w == [77, 79, 86, 83, 66]) = true
  · simp only [beq_iff_eq] at h0; subst h0; rfl
  rw [Bool.not_eq_true] at h0
  by_cases h1 : (w == [77, 79, 86, 83, 87]) = true
  · simp only [beq_iff_eq] at h1; subst h1; rfl
  rw [Bool.not_eq_true] at h1
  by_cases h2 : (w == [83, 84, 79, 83, 66]) = true
  · simp only [beq_iff_eq] at h2; subst h2; rfl
  rw [Bool.not_eq_true] at h2
  by_cases h3 : (w == [83, 84, 79, 83, 87]) = true
  · simp only [beq_iff_eq] at h3; subst h3; rfl
  rw [Bool.not_eq_true] at h3
  by_cases h4 : (w == [76, 79, 68, 83, 66]) = true
  · simp only [beq_iff_eq] at h4; subst h4; rfl
  rw [Bool.not_eq_true] at h4
  by_cases h5 : (w == [76, 79, 68, 83, 87]) = true
  · simp only [beq_iff_eq] at h5; subst h5; rfl
  rw [Bool.not_eq_true] at h5
  by_cases h6 : (w == [67, 77, 80, 83, 66]) = true
  · simp only [beq_iff_eq] at h6; subst h6; rfl
  rw [Bool.not_eq_true] at h6
  by_cases h7 : (w == [67, 77, 80, 83, 87]) = true
  · simp only [beq_iff_eq] at h7; subst h7; rfl
  rw [Bool.not_eq_true] at h7
  by_cases h8 : (w == [83, 67, 65, 83, 66]) = true
  · simp only [beq_iff_eq] at h8; subst h8; rfl
  rw [Bool.not_eq_true] at h8
  by_cases h9 : (w == [83, 67, 65, 83, 87]) = true
  · simp only [beq_iff_eq] at h9; subst h9; rfl
  rw [Bool.not_eq_true] at h9
  simp only [h0, h1, h2, h3, h4, h5, h6, h7, h8, h9, Bool.false_eq_true, if_false]
theorem cls_lit : (List.range 95).map (fun i => clsU (wordU NAMES i)) = (List.range 95).map (fun i => repI ((i + 1 : Nat) : Int)) := by decide +kernel
theorem refRep (n : Int) : hansomref04_Repeats n = some (repI n) := by
  by_cases h1 : n < 1
  · rw [refRep_of n [63] (by unfold hansomref04_Name; simp [h1])]
    have : repI n = 0 := by
      unfold repI
      have n46 : (n == 46) = false := by simp; omega
      have n47 : (n == 47) = false := by simp; omega
      have n50 : (n == 50) = false := by simp; omega
      have n51 : (n == 51) = false := by simp; omega
      have n52 : (n == 52) = false := by simp; omega
      have n53 : (n == 53) = false := by simp; omega
      have n48 : (n == 48) = false := by simp; omega
      have n49 : (n == 49) = false := by simp; omega
      have n54 : (n == 54) = false := by simp; omega
      have n55 : (n == 55) = false := by simp; omega
      simp only [n46, n47, n50, n51, n52, n53, n48, n49, n54, n55, Bool.false_eq_true, if_false]
    rw [this]; rfl
  · by_cases h2 : n > 95
    · rw [refRep_of n [63] (by unfold hansomref04_Name; simp [h1, h2])]
      have : repI n = 0 := by
        unfold repI
        have n46 : (n == 46) = false := by simp; omega
        have n47 : (n == 47) = false := by simp; omega
        have n50 : (n == 50) = false := by simp; omega
        have n51 : (n == 51) = false := by simp; omega
        have n52 : (n == 52) = false := by simp; omega
        have n53 : (n == 53) = false := by simp; omega
        have n48 : (n == 48) = false := by simp; omega
        have n49 : (n == 49) = false := by simp; omega
        have n54 : (n == 54) = false := by simp; omega
        have n55 : (n == 55) = false := by simp; omega
        simp only [n46, n47, n50, n51, n52, n53, n48, n49, n54, n55, Bool.false_eq_true, if_false]
      rw [this]; rfl
    · obtain ⟨k, rfl⟩ : ∃ k : Nat, n = ((k + 1 : Nat) : Int) := ⟨(n - 1).toNat, by omega⟩
      have hk : k < 95 := by omega
      have hN : hansomref04_Name ((k + 1 : Nat) : Int) = some (wordU NAMES k) := by
        unfold hansomref04_Name
        simp only [h1, h2, decide_false, Bool.false_eq_true, if_false]
        show ((hansomref04_word NAMES (IntKind.wrap .i64 (((k + 1 : Nat) : Int) - 1))).bind _) = _
        rw [wrap64 (by omega) (by omega), show ((k + 1 : Nat) : Int) - 1 = (k : Int) from by omega, word_spec NAMES k name_len (by omega)]
        rfl
      rw [refRep_of _ _ hN]
      have := congrArg (fun l => l[k]?) cls_lit
      simp only [List.getElem?_map, List.getElem?_range hk, Option.map_some] at this
      exact this
theorem memory_spec (k : Int) : isa_Memory k = some (k == 1 || k == 2 || k == 19 || k == 20) := by
  unfold isa_Memory
  cases h1 : (k == 1) <;> cases h2 : (k == 2) <;> cases h3 : (k == 19) <;> simp
theorem imm_spec (k : Int) : isa_Immediate k = hansomref04_Bytes k := rfl
theorem bytes_some (k : Int) : ∃ v, hansomref04_Bytes k = some v := by
  unfold hansomref04_Bytes hansomref04_Bytes_j16
  repeat' split
  all_goals exact ⟨_, rfl⟩
def isP (b : Nat) : Bool := b == 38 || b == 46 || b == 54 || b == 62 || b == 240 || b == 242 || b == 243
theorem prefix_lit : ∀ b : Fin 256, isa_Prefix (b.val : Int) = some (isP b.val) ∧ (isP b.val && (rw' (look b.val (b.val % 8))).2) = false := by decide +kernel
theorem j4_true (n k : Int) (b : Nat) (hb : b < 256) : hansomlaw04_IsaKinds_j4 n k (b : Int) (isP b) = some true := by
  obtain ⟨p1, p2⟩ := prefix_lit ⟨b, hb⟩
  simp only at p1 p2
  obtain ⟨v, hv⟩ := bytes_some k
  unfold hansomlaw04_IsaKinds_j4
  rw [wrap64 (n := (b : Int)) (by omega) (by omega), of_spec b hb, Option.bind_some, awake_true, Option.bind_some, isaRep, refRep, imm_spec, hv, memory_spec, p1]
  have e8 : ((b : Int) % 8).toNat = b % 8 := by omega
  rw [e8]
  simp only [Option.bind_some, if_true, beq_self_eq_true]
  have fin : (if isP b = true then some (!(rw' (look b (b % 8))).2) else some true) = some true := by
    cases hp : isP b with
    | false => rfl
    | true =>
      rw [hp, Bool.true_and] at p2
      simp [p2]
  cases h1 : (k == 1) <;> cases h2 : (k == 2) <;> cases h3 : (k == 19) <;> cases h4 : (k == 20) <;> simp [fin]
theorem isaKinds_true (n k b : Int) (wn : wfI .i64 n) (wk : wfI .i64 k) (wb : wfI .u8 b) : hansomlaw04_IsaKinds n k b = some true := by
  obtain ⟨b0, b1⟩ := wfI_u8.1 wb
  obtain ⟨m, rfl⟩ : ∃ m : Nat, b = m := ⟨b.toNat, by omega⟩
  have hm : m < 256 := by omega
  have hj := j4_true n k m hm
  have cast : ∀ c : Nat, ((m : Int) == (c : Int)) = (m == c) := fun c => by rw [Bool.eq_iff_iff]; simp; omega
  unfold hansomlaw04_IsaKinds
  have c1 : ((m : Int) == 38) = (m == 38) := cast 38
  have c2 : ((m : Int) == 46) = (m == 46) := cast 46
  have c3 : ((m : Int) == 54) = (m == 54) := cast 54
  have c4 : ((m : Int) == 62) = (m == 62) := cast 62
  have c5 : ((m : Int) == 240) = (m == 240) := cast 240
  have c6 : ((m : Int) == 242) = (m == 242) := cast 242
  have c7 : ((m : Int) == 243) = (m == 243) := cast 243
  simp only [c1, c2, c3, c4, c5, c6, c7]
  unfold isP at hj
  cases h1 : (m == 38) <;> cases h2 : (m == 46) <;> cases h3 : (m == 54) <;> cases h4 : (m == 62) <;> cases h5 : (m == 240) <;> cases h6 : (m == 242) <;> simp only [h1, h2, h3, h4, h5, h6, Bool.or_true, Bool.or_false, Bool.true_or, Bool.false_or, Bool.false_eq_true, if_true, if_false] at hj ⊢ <;> exact hj
end Go.Es.Isr
