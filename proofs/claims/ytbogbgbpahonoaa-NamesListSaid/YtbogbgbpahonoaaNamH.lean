/- What is read of a record's bytes, and names: in plain Lean. No condition. -/
import Derived.Test.YtbogbgbpahonoaaNamP
set_option linter.unusedVariables false
set_option linter.unusedSimpArgs false
set_option maxHeartbeats 1000000
namespace Go.Es.Nam

theorem cut_min {α : Type} (l : List α) (k : Nat) : cutL l 0 (mnI (l.length : Int) (k : Int)) = some (l.take k) := by
  rw [mnI_eq, cutL_eq (by omega) (by omega) (by omega)]
  have : (min (l.length : Int) (k : Int)).toNat = min l.length k := by omega
  simp only [Int.toNat_zero, List.drop_zero, Nat.sub_zero, this]
  congr 1
  by_cases h : k ≤ l.length
  · rw [Nat.min_eq_right h]
  · rw [Nat.min_eq_left (by omega), List.take_of_length_le (by omega), List.take_of_length_le (by omega)]
theorem cut_to {α : Type} (l : List α) {k : Nat} (h : k ≤ l.length) : cutL l 0 (k : Int) = some (l.take k) := by
  rw [cutL_eq (by omega) (by omega) (by omega)]; simp
theorem b2s_s2b (s : List UInt8) : b2s (s2b s) = s := by
  simp only [b2s, s2b, List.map_map]
  conv => rhs; rw [← List.map_id s]
  apply List.map_congr_left
  intro c _
  simp
theorem s2b_b2s {l : List Int} (h : ∀ c ∈ l, wfI .u8 c) : s2b (b2s l) = l := by
  simp only [b2s, s2b, List.map_map]
  conv => rhs; rw [← List.map_id l]
  apply List.map_congr_left
  intro c hc
  obtain ⟨h0, h1⟩ := wfI_u8.1 (h c hc)
  simp only [Function.comp, id, UInt8.toNat_ofNat']
  omega
theorem b2s_append (a b : List Int) : b2s (a ++ b) = b2s a ++ b2s b := by simp [b2s]
theorem b2s_cons (a : Int) (b : List Int) : b2s (a :: b) = UInt8.ofNat a.toNat :: b2s b := rfl
theorem s2b_append (a b : List UInt8) : s2b (a ++ b) = s2b a ++ s2b b := by simp [s2b]
theorem s2b_length (s : List UInt8) : (s2b s).length = s.length := by simp [s2b]
theorem b2s_length (s : List Int) : (b2s s).length = s.length := by simp [b2s]
theorem s2b_take (s : List UInt8) (k : Nat) : s2b (s.take k) = (s2b s).take k := by simp [s2b, List.map_take]
theorem s2b_wf (s : List UInt8) : ∀ c ∈ s2b s, wfI .u8 c := by
  intro c hc
  simp only [s2b, List.mem_map] at hc
  obtain ⟨x, _, rfl⟩ := hc
  have := x.toNat_lt
  exact wfI_u8.2 ⟨by omega, by omega⟩

/-! ### sources -/
theorem from_spec (b : List Int) (h : b.length ≤ 2 ^ 40) : index_From b = some ⟨b, 0⟩ := by
  unfold index_From
  rw [grow_eq (by simp; omega) (by simp; omega)]; rfl
theorem take_ok (s : Source) {n : Int} (h0 : 0 ≤ n) (h1 : n ≤ (s.b.length : Int)) : index_Source_Take s n = some (s.b.take n.toNat, ⟨s.b.drop n.toNat, s.e⟩) := by
  unfold index_Source_Take
  have e1 : ¬ n < 0 := by omega
  have e2 : ¬ n > (s.b.length : Int) := by omega
  simp only [e1, e2, decide_false, Bool.false_eq_true, if_false]
  rw [cut3_eq (by omega) h0 (by omega) h1, cutL_eq h0 h1 (by omega)]
  simp only [Option.bind_some, Int.toNat_zero, List.drop_zero, Nat.sub_zero, Int.toNat_natCast]
  have hd : List.take (s.b.length - n.toNat) (List.drop n.toNat s.b) = List.drop n.toNat s.b := List.take_of_length_le (by rw [List.length_drop]; omega)
  rw [hd]
theorem take_short (b : List Int) {n : Int} (h : n < 0 ∨ (b.length : Int) < n) : index_Source_Take ⟨b, 0⟩ n = some ([], ⟨[], 2⟩) := by
  unfold index_Source_Take
  rcases h with h | h
  · simp [h, index_Source_Wrong]
  · by_cases h0 : n < 0
    · simp [h0, index_Source_Wrong]
    · simp [h0, h, index_Source_Wrong]
theorem byte_cons (c : Int) (r : List Int) (e : Int) : index_Source_Byte ⟨c :: r, e⟩ = some (c, ⟨r, e⟩) := by
  unfold index_Source_Byte
  rw [take_ok _ (by omega) (by simp only [List.length_cons]; omega)]
  simp [idx]
theorem byte_nil : index_Source_Byte ⟨[], 0⟩ = some (0, ⟨[], 2⟩) := by
  unfold index_Source_Byte
  rw [take_short _ (by simp)]
  simp
theorem byte_end (e : Int) (he : e ≠ 0) : index_Source_Byte ⟨[], e⟩ = some (0, ⟨[], e⟩) := by
  unfold index_Source_Byte index_Source_Take
  simp [index_Source_Wrong, he]
theorem name_ok (c : Int) (r : List Int) (e : Int) (h0 : 0 ≤ c) (h1 : c ≤ 255) (h2 : c.toNat ≤ r.length) : index_Source_Name ⟨c :: r, e⟩ = some (b2s (r.take c.toNat), ⟨r.drop c.toNat, e⟩) := by
  unfold index_Source_Name
  rw [byte_cons, Option.bind_some]
  simp only [wrap64 (n := c) (by omega) (by omega)]
  rw [take_ok _ h0 (by simp only; omega)]; rfl
theorem name_short (c : Int) (r : List Int) (h0 : 0 ≤ c) (h1 : c ≤ 255) (h2 : r.length < c.toNat) : index_Source_Name ⟨c :: r, 0⟩ = some ([], ⟨[], 2⟩) := by
  unfold index_Source_Name
  rw [byte_cons, Option.bind_some]
  simp only [wrap64 (n := c) (by omega) (by omega)]
  rw [take_short _ (by omega)]; rfl
theorem name_nil : index_Source_Name ⟨[], 0⟩ = some ([], ⟨[], 2⟩) := by
  unfold index_Source_Name
  rw [byte_nil, Option.bind_some]
  simp only [show IntKind.wrap .i64 0 = 0 from rfl]
  rw [take_ok _ (by omega) (by simp)]; rfl
theorem end_spec (b : List Int) (e : Int) : index_Source_End ⟨b, e⟩ = some (if b = [] ∨ e ≠ 0 then (e, ⟨b, e⟩) else (3, ⟨[], 3⟩)) := by
  unfold index_Source_End index_Source_Left index_Source_Err index_Source_Wrong
  cases b with
  | nil => simp
  | cons x r =>
    by_cases he : e = 0
    · have : ¬ ((r.length : Int) + 1 ≤ 0) := by omega
      simp [he, this]
    · have : ¬ ((r.length : Int) + 1 ≤ 0) := by omega
      simp [he, this]

/-! ### names -/
/-- a name's bytes -/
def enc (s : List UInt8) : List Int := (s.length : Int) :: s2b s
theorem enc_length (s : List UInt8) : (enc s).length = s.length + 1 := by simp [enc, s2b]

theorem name_spec (s : List UInt8) (h : s.length ≤ 255) : index_Name s = some (enc s) := by
  unfold index_Name
  rw [show (255 : Int) = ((255 : Nat) : Int) from rfl, cut_min, List.take_of_length_le h, Option.bind_some, grow_eq (by simp [s2b]; omega) (by simp [s2b]; omega)]
  simp only [Option.bind_some, enc, wrapu8 (n := (s.length : Int)) (by omega) (by omega)]; rfl
theorem ref_spec (s : List UInt8) (h : s.length ≤ 255) : hansomref18_Name s = some (b2s (enc s)) := by
  unfold hansomref18_Name
  have : ¬ ((s.length : Int) > 255) := by omega
  simp only [this, decide_false, Bool.false_eq_true, if_false, wrapu8 (n := (s.length : Int)) (by omega) (by omega)]
  rw [catS_eq (by simp [b2s]; omega)]
  simp only [Option.bind_some, enc, b2s_cons, b2s_s2b]; rfl
theorem enc_name (s : List UInt8) (h : s.length ≤ 255) (r : List Int) : index_Source_Name ⟨enc s ++ r, 0⟩ = some (s, ⟨r, 0⟩) := by
  have hl : (s.length : Int).toNat = (s2b s).length := by rw [s2b_length]; omega
  have hl2 : (s.length : Int).toNat ≤ (s2b s ++ r).length := by rw [hl, List.length_append]; omega
  rw [enc, List.cons_append, name_ok _ _ _ (by omega) (by omega) hl2, hl]
  simp [b2s_s2b]

theorem awake_true : hansomlaw20_awake = some true := by
  unfold hansomlaw20_awake names_Header
  rw [name_spec _ (by simp)]
  simp only [Option.bind_some]
  unfold names_Name
  rw [from_spec _ (by simp [enc, s2b])]
  simp only [Option.bind_some]
  have := enc_name [65, 66] (by simp) []
  rw [List.append_nil] at this
  rw [this]
  simp [end_spec]
end Go.Es.Nam
