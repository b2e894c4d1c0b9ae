/- CodeAll answers true, in plain Lean. No condition. -/
import Derived.Test.YtncfbghdnnhfiaaDoorCalH
set_option linter.unusedVariables false
set_option linter.unusedSimpArgs false
set_option maxHeartbeats 4000000
set_option maxRecDepth 100000
namespace Go.Es.Cal
def putsL (l : List Inst) : List Int := l.flatMap putL
theorem putL_len9 (i : Inst) (h : okI i) : (putL i).length ≤ 12 := by
  unfold putL modL behL
  have hl := aheadL_len i
  simp only [List.length_append]
  have h1 : (if (rowI i.Op i.Reg).1.Mod = true then (64 * i.Mod + 8 * i.Reg + i.RM) :: (twoI i.Disp).take (dispI i.Mod i.RM).toNat else []).length ≤ 3 := by split <;> simp [twoI]; omega
  generalize bytI (rowI i.Op i.Reg).1.A + bytI (rowI i.Op i.Reg).1.B = m
  have h2 : (if m = 1 ∨ m = 2 then (twoI i.Imm).take m.toNat else if m = 4 then twoI i.Imm ++ twoI i.Sel else []).length ≤ 4 := by
    split
    · simp [twoI]; omega
    · split <;> simp [twoI]
  have h3 : [i.Op].length = 1 := rfl
  omega
theorem putsL_len : ∀ (l : List Inst), (∀ x ∈ l, okI x) → (putsL l).length ≤ 12 * l.length
  | [], _ => by simp [putsL]
  | x :: l, h => by
    have h1 := putsL_len l (fun y hy => h y (by simp [hy]))
    have h2 := putL_len9 x (h x (by simp))
    simp only [putsL, List.flatMap_cons, List.length_append, List.length_cons] at h1 ⊢
    omega
theorem puts_snoc (l : List Inst) (x : Inst) : putsL (l ++ [x]) = putsL l ++ putL x := by simp [putsL]
/-- All of some instructions: they may be, or one may not. -/
theorem all_spec (l : List Inst) (hl : l.length ≤ 100) (h : ∀ x ∈ l, okI x) : code_All l = some (if l.all mayB = true then (putsL l, 0) else ([], 1)) := by
  unfold code_All
  rw [loop_to (f := fun x : List Int × Int => code_All_l8 x.1 l (l.length : Int) x.2) (fun _ => if l.all mayB = true then (.inr (putsL l) : (List Int × Int) ⊕ List Int) else .inl ([], 1))
    (fun x => ∃ k : Nat, k ≤ l.length ∧ x = (putsL (l.take k), (k : Int)) ∧ (l.take k).all mayB = true) (fun x => ((l.length : Int) - x.2).toNat) (fun x hx => ?_) (x := (([] : List Int), (0 : Int))) ⟨0, by omega, by simp [putsL], by simp⟩]
  · rw [Option.bind_some]
    split
    · rename_i e; split at e
      · cases e
      · cases e; rw [if_neg ‹_›]
    · rename_i e; split at e
      · cases e; rw [if_pos ‹_›]
      · cases e
  · obtain ⟨k, hk, rfl, hall⟩ := hx
    simp only
    unfold code_All_l8
    by_cases hlt : k < l.length
    · have hi : idx l (k : Int) = some l[k] := by rw [idx_nat hlt]
      have ho := h l[k] (List.getElem_mem hlt)
      simp only [show (k : Int) < (l.length : Int) from by omega, decide_true, if_true, hi, Option.bind_some, putC l[k] ho]
      cases hm : mayB l[k] with
      | true =>
        left
        have hp := putsL_len (l.take k) (fun x hx => h x (List.mem_of_mem_take hx))
        rw [List.length_take] at hp
        have hq := putL_len9 l[k] ho
        simp only [if_true, bne_self_eq_false, Bool.false_eq_true, if_false]
        rw [grow_eq (by omega) (by omega), Option.bind_some]
        have ht : l.take (k + 1) = l.take k ++ [l[k]] := by rw [List.take_add_one, List.getElem?_eq_getElem hlt]; rfl
        refine ⟨_, rfl, ⟨k + 1, by omega, ?_, ?_⟩, ?_, trivial⟩
        · rw [wrap64 (by omega) (by omega), ht, puts_snoc]; rfl
        · rw [ht, List.all_append, hall]; simp [hm]
        · simp only; rw [wrap64 (by omega) (by omega)]; omega
      | false =>
        right
        have : l.all mayB = false := by
          rw [List.all_eq_false]
          exact ⟨l[k], List.getElem_mem hlt, by simp [hm]⟩
        rw [this]
        rfl
    · right
      have : k = l.length := by omega
      subst this
      simp only [show ¬ (l.length : Int) < (l.length : Int) from by omega, decide_false, Bool.false_eq_true, if_false]
      rw [List.take_length] at hall ⊢
      rw [hall]; rfl
theorem b2s_append (a b : List Int) : b2s (a ++ b) = b2s a ++ b2s b := by simp [b2s]
theorem b2s_len (a : List Int) : (b2s a).length = a.length := by simp [b2s]
theorem law_loop (l : List Inst) (at_ : Int) (hwf : ∀ x ∈ l, Inst.wf x) : ∃ ys : List Inst, ys.length ≤ 20 ∧ (∀ y ∈ ys, okI y ∧ mayB y = true) ∧
    loopO (fun x : List Inst × List UInt8 × Int => hansomlaw06_CodeAll_l8 x.1 l at_ x.2.1 x.2.2) (([] : List Inst), ([] : List UInt8), 0) = some (ys, b2s (putsL ys)) := by
  obtain ⟨r, h1, h2⟩ := loop_rule (f := fun x : List Inst × List UInt8 × Int => hansomlaw06_CodeAll_l8 x.1 l at_ x.2.1 x.2.2)
    (fun x => ∃ ys : List Inst, ys.length ≤ 20 ∧ ys.length ≤ l.length ∧ (∀ y ∈ ys, okI y ∧ mayB y = true) ∧ x = (ys, b2s (putsL ys), (ys.length : Int))) (fun x => (20 - x.2.2).toNat)
    (fun r => ∃ ys : List Inst, ys.length ≤ 20 ∧ (∀ y ∈ ys, okI y ∧ mayB y = true) ∧ r = (ys, b2s (putsL ys))) (fun x hx => by
      obtain ⟨ys, hy20, hyl, hy, rfl⟩ := hx
      simp only
      unfold hansomlaw06_CodeAll_l8
      by_cases hlt : ys.length < l.length
      · by_cases h20 : ys.length < 20
        · left
          have hi : idx l (ys.length : Int) = some l[ys.length] := by rw [idx_nat hlt]
          obtain ⟨z, e1, e2, e3⟩ := near_spec l[ys.length] (okI_wf (hwf _ (List.getElem_mem hlt)))
          have hz : idx (ys ++ [z]) (ys.length : Int) = some z := by rw [idx_nat (by simp)]; simp
          have hp := putsL_len ys (fun y hy' => (hy y hy').1)
          have hq := putL_len9 z e2
          simp only [show (ys.length : Int) < (l.length : Int) from by omega, show (ys.length : Int) < 20 from by omega, decide_true, if_true, hi, Option.bind_some, e1]
          rw [grow_eq (by simp; omega) (by simp; omega), Option.bind_some, hz, Option.bind_some, refPut z e2 e3, Option.bind_some, catS_eq (by rw [b2s_len, b2s_len]; omega), Option.bind_some]
          refine ⟨_, rfl, ⟨ys ++ [z], by simp; omega, by simp; omega, fun y hy' => ?_, ?_⟩, ?_⟩
          · rcases List.mem_append.1 hy' with h | h
            · exact hy y h
            · rw [List.mem_singleton.1 h]; exact ⟨e2, e3⟩
          · rw [wrap64 (by omega) (by omega), puts_snoc, b2s_append]; simp
          · simp only; rw [wrap64 (by omega) (by omega)]; omega
        · right
          simp only [show (ys.length : Int) < (l.length : Int) from by omega, show ¬ (ys.length : Int) < 20 from by omega, decide_true, decide_false, Bool.false_eq_true, if_true, if_false]
          exact ⟨_, rfl, ys, hy20, hy, rfl⟩
      · right
        simp only [show ¬ (ys.length : Int) < (l.length : Int) from by omega, decide_false, Bool.false_eq_true, if_false]
        exact ⟨_, rfl, ys, hy20, hy, rfl⟩) (x := (([] : List Inst), ([] : List UInt8), (0 : Int))) ⟨[], by simp, by simp, (fun y h => by cases h), rfl⟩
  obtain ⟨ys, a, b, rfl⟩ := h2
  exact ⟨ys, a, b, h1⟩
def bad15 : Inst := ⟨false, 0, 0, 15, 0, 0, 0, 0, 0, 0⟩
theorem bad15_not : mayB bad15 = false := by decide +kernel
theorem bad_all (a c : List Inst) : (([] ++ a ++ [(⟨false, 0, 0, 15, 0, 0, 0, 0, 0, 0⟩ : Inst)]) ++ c).all mayB = false := by
  have := bad15_not
  unfold bad15 at this
  simp [this]
theorem codeAll_true (l : List Inst) (n : Int) (wl : wfL Inst.wf l) (wn : wfI .i64 n) : hansomlaw06_CodeAll l n = some true := by
  obtain ⟨ys, h20, hy, hl⟩ := law_loop l n (fun x hx => wl.2 x hx)
  have hall : ys.all mayB = true := by rw [List.all_eq_true]; exact fun y h => (hy y h).2
  unfold hansomlaw06_CodeAll
  rw [hl, Option.bind_some]
  simp only
  rw [all_spec ys (by omega) (fun y h => (hy y h).1), Option.bind_some, hall]
  have hm : bitsOp .and .i64 n 255 = n % 256 := and_mask n 8 (by omega)
  have hr : remI .i64 (bitsOp .and .i64 n 255) (IntKind.wrap .i64 ((ys.length : Int) + 1)) = some ((n % 256) % ((ys.length : Int) + 1)) := by
    rw [hm, wrap64 (by omega) (by omega)]
    unfold remI
    rw [if_neg (by omega), Int.tmod_eq_emod_of_nonneg (by omega)]
  have k0 : 0 ≤ (n % 256) % ((ys.length : Int) + 1) := Int.emod_nonneg _ (by omega)
  have k1 : (n % 256) % ((ys.length : Int) + 1) < (ys.length : Int) + 1 := Int.emod_lt_of_pos _ (by omega)
  generalize (n % 256) % ((ys.length : Int) + 1) = k at *
  simp only [if_true, bne_self_eq_false, Bool.false_eq_true, if_false]
  rw [hr, Option.bind_some, cutL_eq (by omega) (by omega) (by omega), Option.bind_some, grow_eq (by simp; omega) (by simp; omega), Option.bind_some, grow_eq (by simp; omega) (by simp; omega), Option.bind_some, cutL_eq (by omega) (by omega) (by omega), Option.bind_some,
    grow_eq (by simp; omega) (by simp; omega), Option.bind_some, all_spec _ (by simp; omega) ?_, Option.bind_some, awake6, Option.bind_some]
  · rw [bad_all]
    rfl
  · intro x hx
    simp only [List.mem_append, List.mem_singleton, List.nil_append] at hx
    rcases hx with (hx | rfl) | hx
    · exact (hy x (List.mem_of_mem_drop (List.mem_of_mem_take hx))).1
    · exact ⟨by simp, by simp, by simp, by simp⟩
    · exact (hy x (List.mem_of_mem_drop (List.mem_of_mem_take hx))).1
end Go.Es.Cal
