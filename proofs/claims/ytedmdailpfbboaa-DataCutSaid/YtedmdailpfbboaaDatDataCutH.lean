/- The law DataCut in plain Lean. No condition. -/
import Derived.Test.YtedmdailpfbboaaDatH
set_option linter.unusedVariables false
set_option linter.unusedSimpArgs false
set_option maxHeartbeats 1000000
namespace Go.Es.Dat
/-! ### cutting -/
/-- the pieces -/
def cuts (s : Int) : Nat → Int → List Int → List Data
  | 0, _, _ => []
  | n + 1, o, b => if b = [] then [] else ⟨s, o, b.take 1024, []⟩ :: cuts s n (o + (min b.length 1024 : Nat)) (b.drop 1024)
theorem cut_loop (s : Int) (n : Nat) (o : Int) (b : List Int) (out : List Data) (h0 : 0 ≤ o) (h1 : o + b.length ≤ 65535) (hn : b.length ≤ 1024 * n) (ho : out.length + n ≤ 100) :
    loopO (fun x : ((List Data) × Int × (List Int)) => data_Cut_l6 x.1 s x.2.1 x.2.2) (out, o, b) = some (out ++ cuts s n o b) := by
  induction n generalizing o b out with
  | zero =>
    have : b = [] := List.length_eq_zero_iff.1 (by omega)
    subst this
    rw [loopO_eq]
    simp [data_Cut_l6, cuts]
  | succ n ih =>
    rw [loopO_eq]
    by_cases hb : b = []
    · subst hb; simp [data_Cut_l6, cuts]
    · have hp : 0 < b.length := List.length_pos_iff.2 hb
      have hm : mnI (b.length : Int) 1024 = ((min b.length 1024 : Nat) : Int) := by rw [mnI_eq]; omega
      have ht : b.take (min b.length 1024) = b.take 1024 := by
        by_cases h : b.length ≤ 1024
        · rw [Nat.min_eq_left h, List.take_of_length_le (Nat.le_refl _), List.take_of_length_le h]
        · rw [Nat.min_eq_right (by omega)]
      have hd : b.drop (min b.length 1024) = b.drop 1024 := by
        by_cases h : b.length ≤ 1024
        · rw [Nat.min_eq_left h, List.drop_of_length_le (Nat.le_refl _), List.drop_of_length_le h]
        · rw [Nat.min_eq_right (by omega)]
      have st : data_Cut_l6 out s o b = some (.next (out ++ [⟨s, o, b.take 1024, []⟩], o + (min b.length 1024 : Nat), b.drop 1024)) := by
        unfold data_Cut_l6
        rw [hm]
        have h2 : ((b.length : Int) > 0) := by omega
        simp only [h2, decide_true, if_true]
        have c3 : cutL b ((min b.length 1024 : Nat) : Int) (b.length : Int) = some (b.drop (min b.length 1024)) := by
          rw [cutL_eq (by omega) (by omega) (by omega)]
          rw [List.take_of_length_le (by rw [List.length_drop]; omega)]; rfl
        rw [cut_to b (by omega), Option.bind_some, clone_spec _ (by rw [List.length_take]; omega), Option.bind_some, grow_eq (by simp; omega) (by simp; omega), Option.bind_some, c3, Option.bind_some,
          wrapu16 (n := ((min b.length 1024 : Nat) : Int)) (by omega) (by omega), wrapu16 (n := o + ((min b.length 1024 : Nat) : Int)) (by omega) (by omega), ht, hd]
      simp only [st]
      show loopO _ (out ++ [⟨s, o, b.take 1024, []⟩], o + ((min b.length 1024 : Nat) : Int), b.drop 1024) = _
      rw [ih _ _ _ (by omega) (by rw [List.length_drop]; omega) (by rw [List.length_drop]; omega) (by simp; omega)]
      simp [cuts, hb]
theorem cuts_get (s : Int) (n : Nat) (o : Int) (b : List Int) (i : Nat) (h : i < (cuts s n o b).length) :
    1024 * i < b.length ∧ (cuts s n o b)[i] = ⟨s, o + 1024 * i, (b.drop (1024 * i)).take 1024, []⟩ := by
  induction n generalizing o b i with
  | zero => simp [cuts] at h
  | succ n ih =>
    by_cases hb : b = []
    · subst hb; simp [cuts] at h
    · have hp : 0 < b.length := List.length_pos_iff.2 hb
      have e : cuts s (n + 1) o b = ⟨s, o, b.take 1024, []⟩ :: cuts s n (o + (min b.length 1024 : Nat)) (b.drop 1024) := by simp [cuts, hb]
      simp only [e] at h ⊢
      cases i with
      | zero => exact ⟨by omega, by simp⟩
      | succ i =>
        rw [List.length_cons] at h
        obtain ⟨h1, h2⟩ := ih (o + (min b.length 1024 : Nat)) (b.drop 1024) i (by omega)
        rw [List.length_drop] at h1
        refine ⟨by omega, ?_⟩
        rw [List.getElem_cons_succ, h2, List.drop_drop]
        have e1 : 1024 + 1024 * i = 1024 * (i + 1) := by omega
        have e2 : o + ((min b.length 1024 : Nat) : Int) + 1024 * (i : Int) = o + 1024 * ((i + 1 : Nat) : Int) := by omega
        rw [e1, e2]
theorem cuts_length (s : Int) (n : Nat) (o : Int) (b : List Int) (hn : b.length ≤ 1024 * n) : b.length ≤ 1024 * (cuts s n o b).length ∧ (cuts s n o b).length ≤ n := by
  induction n generalizing o b with
  | zero => simp [cuts]; simpa using hn
  | succ n ih =>
    by_cases hb : b = []
    · subst hb; simp [cuts]
    · have e : cuts s (n + 1) o b = ⟨s, o, b.take 1024, []⟩ :: cuts s n (o + (min b.length 1024 : Nat)) (b.drop 1024) := by simp [cuts, hb]
      have := ih (o + (min b.length 1024 : Nat)) (b.drop 1024) (by rw [List.length_drop]; omega)
      rw [List.length_drop] at this
      rw [e, List.length_cons]; omega
theorem fill (off : Int) (b : List Int) (s : Int) (hb : ∀ c ∈ b, wfI .u8 c) :
    ∃ r, loopO (fun x : ((List Int) × Int) => hansomlaw23_DataCut_l10 x.1 off b s x.2) (([] : List Int), 0) = some r ∧ r.length = 3000 := by
  have key := loop_rule (f := fun x : (List Int) × Int => hansomlaw23_DataCut_l10 x.1 off b s x.2)
    (fun x => 0 ≤ x.2 ∧ x.2 ≤ 3000 ∧ (x.1.length : Int) = x.2) (fun x => (3000 - x.2).toNat) (fun r => r.length = 3000) (fun x hx => by
      obtain ⟨o, i⟩ := x
      obtain ⟨h0, h1, h2⟩ := hx
      simp only at h0 h1 h2 ⊢
      unfold hansomlaw23_DataCut_l10
      by_cases hi : i < 3000
      · left
        by_cases hl : i < (b.length : Int)
        · simp only [hi, hl, decide_true, if_true, idx_eq h0 hl, Option.bind_some]
          rw [grow_eq (by simp; omega) (by simp; omega), Option.bind_some, wrap64 (by omega) (by omega)]
          exact ⟨_, rfl, ⟨by simp only; omega, by simp only; omega, by simp only [List.length_append, List.length_singleton]; omega⟩, by simp only; omega⟩
        · simp only [hi, hl, decide_true, decide_false, Bool.false_eq_true, if_true, if_false]
          rw [grow_eq (by simp; omega) (by simp; omega), Option.bind_some, wrap64 (by omega) (by omega)]
          exact ⟨_, rfl, ⟨by simp only; omega, by simp only; omega, by simp only [List.length_append, List.length_singleton]; omega⟩, by simp only; omega⟩
      · right
        exact ⟨o, by simp [hi], by omega⟩) (x := ([], 0)) ⟨by simp, by simp, by simp⟩
  exact key
theorem dataCut_true (seg off : Int) (b : List Int) (w0 : wfI .i64 seg) (w1 : wfI .u16 off) (w2 : wfL (wfI .u8) b) : hansomlaw23_DataCut seg off b = some true := by
  obtain ⟨o0, o1⟩ := wfI_u16.1 w1
  have a6 : bitsOp .and .i64 seg 63 = seg % 64 := and_mask seg 6 (by omega)
  have aw : ∃ q : Int, bitsOp .and .u16 off 4095 = q ∧ 0 ≤ q ∧ q ≤ 4095 := by
    have e : bitsOp .and .u16 off 4095 = IntKind.wrap .u16 (((BitVec.ofInt 16 off &&& BitVec.ofInt 16 4095).toNat : Nat) : Int) := rfl
    have h1 : (BitVec.ofInt 16 off &&& BitVec.ofInt 16 4095).toNat ≤ 4095 := by
      rw [BitVec.toNat_and]; exact Nat.le_trans Nat.and_le_right (by decide)
    refine ⟨_, rfl, ?_, ?_⟩ <;> rw [e, wrapu16 (by omega) (by omega)] <;> omega
  obtain ⟨q, hq, q0, q1⟩ := aw
  have m0 := Int.emod_nonneg seg (show (64 : Int) ≠ 0 by decide)
  have m1 := Int.emod_lt_of_pos seg (show (0 : Int) < 64 by decide)
  unfold hansomlaw23_DataCut
  obtain ⟨r, hr, hl⟩ := fill off b (IntKind.wrap .i64 ((bitsOp .and .i64 seg 63) + 1)) w2.2
  rw [hr, Option.bind_some, a6, wrap64 (n := seg % 64 + 1) (by omega) (by omega), hq, wrap64 (n := off) (by omega) (by omega), Int.tmod_eq_emod_of_nonneg o0]
  obtain ⟨k, hk⟩ : ∃ k : Nat, off % 3001 = (k : Int) := ⟨(off % 3001).toNat, by omega⟩
  rw [hk, cut_to r (by omega), Option.bind_some]
  have hz : (r.take k).length ≤ 3000 := by rw [List.length_take]; omega
  generalize r.take k = z at hz ⊢
  have hc : data_Cut (seg % 64 + 1) q z = some (cuts (seg % 64 + 1) 3 q z) := by
    unfold data_Cut
    rw [cut_loop _ 3 _ _ _ q0 (by omega) (by omega) (by simp)]; rfl
  rw [hc, Option.bind_some]
  obtain ⟨c1, c2⟩ := cuts_length (seg % 64 + 1) 3 q z (by omega)
  have cg := cuts_get (seg % 64 + 1) 3 q z
  generalize cuts (seg % 64 + 1) 3 q z = L at c1 c2 cg ⊢
  have lp := loop_to (f := fun x : (Int × Int) => hansomlaw23_DataCut_l39 off (seg % 64 + 1) z x.1 L x.2) (fun _ => (.inr (z.length : Int) : Bool ⊕ Int))
    (fun x => 0 ≤ x.2 ∧ x.2 ≤ L.length ∧ x.1 = min (1024 * x.2) (z.length : Int)) (fun x => (L.length - x.2).toNat) (fun x hx => by
      obtain ⟨at', i⟩ := x
      obtain ⟨h0, h1, h2⟩ := hx
      simp only at h0 h1 h2 ⊢
      unfold hansomlaw23_DataCut_l39
      by_cases hi : i < (L.length : Int)
      · left
        have hlt : i.toNat < L.length := by omega
        obtain ⟨g1, g2⟩ := cg i.toNat hlt
        have ei : ((i.toNat : Nat) : Int) = i := by omega
        rw [ei] at g2
        have ea : at' = 1024 * i := by omega
        subst ea
        have hbl : ((z.drop (1024 * i.toNat)).take 1024).length = min 1024 (z.length - 1024 * i.toNat) := by rw [List.length_take, List.length_drop]
        have hm : mayD (seg % 64 + 1) (q + 1024 * i) ((z.drop (1024 * i.toNat)).take 1024) = true := by
          unfold mayD; rw [decide_eq_true_eq, hbl]; omega
        have hcut : cutL z (1024 * i) (1024 * i + (((z.drop (1024 * i.toNat)).take 1024).length : Int)) = some ((z.drop (1024 * i.toNat)).take 1024) := by
          rw [cutL_eq (by omega) (by omega) (by omega)]
          have e1 : (1024 * i).toNat = 1024 * i.toNat := by omega
          have e2 : (1024 * i + (((z.drop (1024 * i.toNat)).take 1024).length : Int)).toNat - 1024 * i.toNat = min 1024 (z.length - 1024 * i.toNat) := by omega
          rw [e1, e2]
          by_cases h : 1024 ≤ z.length - 1024 * i.toNat
          · rw [Nat.min_eq_left h]
          · rw [Nat.min_eq_right (by omega), List.take_of_length_le (by rw [List.length_drop]; omega), List.take_of_length_le (by rw [List.length_drop]; omega)]
        simp only [hi, decide_true, if_true, idx_eq h0 hi, Option.bind_some, g2, may_spec _ _ _ _ (show 0 ≤ q + 1024 * i by omega) (show q + 1024 * i ≤ 65535 by omega), hm, Bool.not_true, Bool.false_eq_true, if_false, bne_self_eq_false, hq]
        rw [wrap64 (n := q + 1024 * i) (by omega) (by omega), wrap64 (n := q) (by omega) (by omega), wrap64 (n := q + 1024 * i) (by omega) (by omega)]
        simp only [bne_self_eq_false, Bool.false_eq_true, if_false]
        rw [wrap64 (n := 1024 * i + (((z.drop (1024 * i.toNat)).take 1024).length : Int)) (by omega) (by omega), hcut]
        have hgt : ¬ (1024 * i + (((z.drop (1024 * i.toNat)).take 1024).length : Int) > (z.length : Int)) := by omega
        simp only [hgt, decide_false, Bool.false_eq_true, if_false, Option.bind_some, bne_self_eq_false]
        rw [wrap64 (n := (L.length : Int) - 1) (by omega) (by omega), wrap64 (n := i + 1) (by omega) (by omega)]
        by_cases hlast : i < (L.length : Int) - 1
        · obtain ⟨g3, _⟩ := cg (i.toNat + 1) (by omega)
          have : (((z.drop (1024 * i.toNat)).take 1024).length : Int) = 1024 := by omega
          simp only [hlast, decide_true, if_true, this, bne_self_eq_false, Bool.false_eq_true, if_false]
          exact ⟨_, rfl, ⟨by simp only; omega, by simp only; omega, by simp only; omega⟩, by simp only; omega, trivial⟩
        · simp only [hlast, decide_false, Bool.false_eq_true, if_false]
          exact ⟨_, rfl, ⟨by simp only; omega, by simp only; omega, by simp only; omega⟩, by simp only; omega, trivial⟩
      · right
        have : at' = (z.length : Int) := by omega
        simp [hi, this]) (x := (0, 0)) ⟨by simp, by simp, by simp only; omega⟩
  rw [lp, Option.bind_some]
  simp only [awake_true, Option.bind_some, if_true, beq_self_eq_true]
end Go.Es.Dat
