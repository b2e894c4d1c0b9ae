/- The law ApplyPuts in plain Lean. No condition. -/
import Derived.Test.YtbogbgbpahonoaaAppH
set_option linter.unusedVariables false
set_option linter.unusedSimpArgs false
set_option maxHeartbeats 1000000
set_option maxRecDepth 100000
namespace Go.Es.App
theorem awk : hansomlaw42_awake = some true := rfl
theorem size_val (l : Int) (h0 : 0 ≤ l) (h5 : l < 5) : hansomref25_Size l = some (if l = 0 ∨ l = 4 then 1 else if l = 3 then 4 else 2) := by
  have : l = 0 ∨ l = 1 ∨ l = 2 ∨ l = 3 ∨ l = 4 := by omega
  rcases this with rfl | rfl | rfl | rfl | rfl <;> rfl
theorem hi8 {o : Int} (h0 : 0 ≤ o) (h1 : o ≤ 65535) : IntKind.wrap .u8 (shrI .u16 o 8) = IntKind.wrap .u8 (IntKind.wrap .u16 (Int.tdiv o 256)) := by
  have e : shrI .u16 o 8 = o / 256 := shr_eq (j := 8) (by decide)
  rw [e, Int.tdiv_eq_ediv_of_nonneg h0, wrapu16 (n := o / 256) (by omega) (by omega)]
theorem j14_true (x : Fixup) (B : List Int) (o p at_ : Int) (hB : By B) (hl : B.length ≤ 12) (ho : 0 ≤ o ∧ o ≤ 65535) (hp : 0 ≤ p ∧ p ≤ 65535) (hx : 0 ≤ x.Loc ∧ x.Loc < 5) (ha : -9223372036854775808 ≤ at_ ∧ at_ ≤ 9223372036854775807) :
    hansomlaw42_ApplyPuts_j14 x B o p at_ = some true := by
  unfold hansomlaw42_ApplyPuts_j14
  rw [grow1 hl, Option.bind_some]
  have hs := size_val x.Loc hx.1 hx.2
  have hs' : fixup_Size x.Loc = _ := hs
  generalize hS : (if x.Loc = 0 ∨ x.Loc = 4 then (1 : Int) else if x.Loc = 3 then 4 else 2) = s at hs hs'
  have hs1 : 1 ≤ s ∧ s ≤ 4 := by rw [← hS]; split <;> (try split) <;> omega
  have ew : IntKind.wrap .i64 ((B.length : Int) - s) = (B.length : Int) - s := wrap64 (by omega) (by omega)
  by_cases h0 : at_ < 0
  · have e : apply_Put B at_ x o p = some (-1, B) := by
      unfold apply_Put; rw [if_pos (by simpa using h0)]
    rw [e, Option.bind_some, hs, Option.bind_some, if_pos (by simpa using h0), awk, Option.bind_some]
    simp
  have h0' : 0 ≤ at_ := by omega
  by_cases h1 : at_ > (B.length : Int) - s
  · have e : apply_Put B at_ x o p = some (-1, B) := by
      unfold apply_Put; rw [if_neg (by simpa using h0), hs', Option.bind_some, ew, if_pos (by simpa using h1)]
    rw [e, Option.bind_some, hs, Option.bind_some, if_neg (by simpa using h0), ew, if_pos (by simpa using h1), awk, Option.bind_some]
    simp
  have hat : at_ < (B.length : Int) := by omega
  obtain ⟨w, hw⟩ := word_some hl hB h0' hat
  obtain ⟨a, hA⟩ := idx_ex (l := B) h0' hat
  have ra := hB.get hA
  have c5 : x.Loc = 0 ∨ x.Loc = 1 ∨ x.Loc = 2 ∨ x.Loc = 3 ∨ x.Loc = 4 := by omega
  have put : apply_Put B at_ x o p = (if (x.Loc == 0) then
        (idx B at_).bind fun z_1 => (idx B at_).bind fun z_2 => some ((-1), (List.set B (at_).toNat (IntKind.wrap .u8 (z_1 + (IntKind.wrap .u8 o)))))
      else
        if (x.Loc == 4) then
          (idx B at_).bind fun z_3 => (idx B at_).bind fun z_4 => some ((-1), (List.set B (at_).toNat (IntKind.wrap .u8 (z_3 + (IntKind.wrap .u8 (shrI .u16 o 8))))))
        else
          if (x.Loc == 2) then (apply_add B at_ p).bind fun r_2 => some (at_, r_2)
          else
            if (x.Loc == 3) then
              (apply_add B at_ o).bind fun r_3 => (apply_add r_3 (IntKind.wrap .i64 (at_ + 2)) p).bind fun r_4 => some ((IntKind.wrap .i64 (at_ + 2)), r_4)
            else (apply_add B at_ o).bind fun r_5 => some ((-1), r_5)) := by
    conv => lhs; unfold apply_Put
    rw [if_neg (by simpa using h0), hs', Option.bind_some, ew, if_neg (by simpa using h1)]
  rw [put, hs]
  simp only [Option.bind_some]
  rw [ew]
  have d0 : (decide (at_ < 0)) = false := by simpa using h0
  have d1 : (decide (at_ > (B.length : Int) - s)) = false := by simpa using h1
  rcases c5 with h | h | h | h | h <;> rw [h] at hS ⊢
  · simp only [d0, d1, hw, hA, grow1 hl, awk, Option.bind_some, beq_self_eq_true, if_true, if_false, Bool.false_eq_true]
  · have hs2 : s = 2 := by rw [← hS]; decide
    subst hs2
    obtain ⟨b, hb⟩ := idx_ex (l := B) (i := at_ + 1) (by omega) (by omega)
    have rb := hB.get hb
    rw [word_eq hl h0' (by omega) hA hb ra rb, Option.some.injEq] at hw
    subst hw
    have k := add_eq (n := o) hl h0' (by omega) hA hb ra rb
    have k2 := fun w => set_eq (w := w) hl h0' (by omega)
    simp only [d0, d1, word_eq hl h0' (by omega) hA hb ra rb, grow1 hl, awk, k, k2, Option.bind_some, beq_self_eq_true, if_true, if_false, Bool.false_eq_true, show ((1 : Int) == 0) = false from rfl, show ((1 : Int) == 4) = false from rfl, show ((1 : Int) == 2) = false from rfl, show ((1 : Int) == 3) = false from rfl]
  · have hs2 : s = 2 := by rw [← hS]; decide
    subst hs2
    obtain ⟨b, hb⟩ := idx_ex (l := B) (i := at_ + 1) (by omega) (by omega)
    have rb := hB.get hb
    have k := add_eq (n := p) hl h0' (by omega) hA hb ra rb
    have k2 := fun w => set_eq (w := w) hl h0' (by omega)
    simp only [d0, d1, word_eq hl h0' (by omega) hA hb ra rb, grow1 hl, awk, k, k2, Option.bind_some, beq_self_eq_true, if_true, if_false, Bool.false_eq_true, show ((2 : Int) == 0) = false from rfl, show ((2 : Int) == 4) = false from rfl, show ((2 : Int) == 1) = false from rfl]
  · have hs4 : s = 4 := by rw [← hS]; decide
    subst hs4
    obtain ⟨b, hb⟩ := idx_ex (l := B) (i := at_ + 1) (by omega) (by omega)
    have rb := hB.get hb
    obtain ⟨c, hc⟩ := idx_ex (l := B) (i := at_ + 2) (by omega) (by omega)
    obtain ⟨e, he⟩ := idx_ex (l := B) (i := at_ + 2 + 1) (by omega) (by omega)
    have rc := hB.get hc
    have re := hB.get he
    have k := add_eq (n := o) hl h0' (by omega) hA hb ra rb
    have k2 := fun w => set_eq (w := w) hl h0' (by omega)
    have e2 : IntKind.wrap .i64 (at_ + 2) = at_ + 2 := wrap64 (by omega) (by omega)
    have k3 : ∀ w, apply_add (pw B at_ w) (at_ + 2) p = some (pw (pw B at_ w) (at_ + 2) (IntKind.wrap .u16 (c + 256 * e + p))) := fun w =>
      add_eq (by rw [pw_length]; exact hl) (by omega) (by rw [pw_length]; omega) (by rw [pw_idx h0' (by omega)]; exact hc) (by rw [pw_idx h0' (by omega)]; exact he) rc re
    have k4 : ∀ w v, hansomlaw42_set (pw B at_ w) (at_ + 2) v = some (pw (pw B at_ w) (at_ + 2) v) := fun w v => set_eq (by rw [pw_length]; exact hl) (by omega) (by rw [pw_length]; omega)
    have k5 : hansomlaw42_word2 B (at_ + 2) = some (c + 256 * e) := word_eq hl (by omega) (by omega) hc he rc re
    simp only [d0, d1, word_eq hl h0' (by omega) hA hb ra rb, grow1 hl, awk, k, k2, e2, k3, k4, k5, Option.bind_some, beq_self_eq_true, if_true, if_false, Bool.false_eq_true, show ((3 : Int) == 0) = false from rfl, show ((3 : Int) == 4) = false from rfl, show ((3 : Int) == 1) = false from rfl, show ((3 : Int) == 2) = false from rfl]
  · simp only [d0, d1, hw, hA, grow1 hl, awk, hi8 ho.1 ho.2, Option.bind_some, beq_self_eq_true, if_true, if_false, Bool.false_eq_true, show ((4 : Int) == 0) = false from rfl]

theorem applyPuts_true (b : List Int) (f : Fixup) (n : A3 Int) (w0 : wfL (wfI .u8) b) (w1 : f.wf) (w2 : n.wf (wfI .i64)) : hansomlaw42_ApplyPuts b f n = some true := by
  unfold hansomlaw42_ApplyPuts
  obtain ⟨x, hx, hx5⟩ := near_ok f
  rw [mnI_eq, cutL_eq (by omega) (by omega) (by omega), Option.bind_some]
  have hlen : ((b.drop (0 : Int).toNat).take ((min (b.length : Int) 12).toNat - (0 : Int).toNat)).length ≤ 12 := by
    rw [List.length_take]; omega
  have hby : By ((b.drop (0 : Int).toNat).take ((min (b.length : Int) 12).toNat - (0 : Int).toNat)) := fun y hy => by
    have := wfI_iff.1 (w0.2 y (List.mem_of_mem_drop (List.mem_of_mem_take hy)))
    exact ⟨this.1, this.2⟩
  rw [grow1 hlen, Option.bind_some, hx, Option.bind_some]
  have hu : ∀ z, 0 ≤ IntKind.wrap .u16 z ∧ IntKind.wrap .u16 z ≤ 65535 := fun z => by rw [wrap_u16']; omega
  have h15 : bitsOp .and .i64 n.a2 15 = n.a2 % 16 := and_mask' 4 (by omega) rfl
  split
  · exact j14_true x _ _ _ _ hby hlen (hu _) (hu _) hx5 (by have := wfI_iff.1 w2.2.2; exact ⟨this.1, this.2⟩)
  · rw [h15, wrap64 (by omega) (by omega)]
    exact j14_true x _ _ _ _ hby hlen (hu _) (hu _) hx5 (by omega)
end Go.Es.App
