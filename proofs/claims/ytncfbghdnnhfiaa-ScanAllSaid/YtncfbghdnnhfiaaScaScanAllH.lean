/- The law ScanAll in plain Lean. No condition. -/
import Derived.Test.YtncfbghdnnhfiaaScaH
set_option linter.unusedVariables false
set_option linter.unusedSimpArgs false
set_option maxHeartbeats 4000000
set_option maxRecDepth 100000
namespace Go.Es.Sca
theorem all8 (l : List Inst) (cut : Int) (hw : ∀ x ∈ l, Inst.wf x) : ∃ r, loopO (fun x : ((List Inst) × (List Int) × Int) => hansomlaw07_ScanAll_l8 x.1 x.2.1 l cut x.2.2) (([] : List Inst), ([] : List Int), 0) = some r ∧ (∀ x ∈ r.1, GoodI x) ∧ r.2 = flat r.1 ∧ r.1.length ≤ 20 := by
 refine loop_rule (fun x : (List Inst) × (List Int) × Int => (∀ y ∈ x.1, GoodI y) ∧ x.2.1 = flat x.1 ∧ x.2.2 = (x.1.length : Int) ∧ x.1.length ≤ 20) (fun x => 20 - x.1.length) (fun r : (List Inst) × (List Int) => (∀ x ∈ r.1, GoodI x) ∧ r.2 = flat r.1 ∧ r.1.length ≤ 20) (fun x hx => ?_) ⟨(fun y hy => by cases hy), rfl, rfl, by simp⟩
 obtain ⟨xs, bs, i⟩ := x
 obtain ⟨hg, hb, hi, hn⟩ := hx
 simp only at hg hb hi hn ⊢
 subst hb hi
 have hfl := flat_len hg
 unfold hansomlaw07_ScanAll_l8
 by_cases h1 : (xs.length : Int) < (l.length : Int)
 ·by_cases h2 : (xs.length : Int) < 20
  ·have hlt : xs.length < l.length := by omega
   obtain ⟨y, hy1, hy2, hy3⟩ := near_spec l[xs.length] (okI_wf (hw _ (List.getElem_mem hlt)))
   refine .inl ⟨(xs ++ [y], flat (xs ++ [y]), ((xs ++ [y]).length : Int)), ?_, ⟨?_, rfl, rfl, by simp; omega⟩, by simp; omega⟩
   ·have e3 : idx (xs ++ [y]) (xs.length : Int) = some y := by rw [idx_nat (by simp)]; simp
    have hyl := lenI_lo y hy3
    simp only [h1, h2, decide_true, if_true, idx_nat hlt, Option.bind_some, hy1]
    rw [grow_eq (by simp; omega) (by simp; omega), Option.bind_some, e3, Option.bind_some, refPut y hy2 hy3, Option.bind_some, grow_eq (by omega) (by omega), Option.bind_some, flat_snoc, wrap64 (by omega) (by omega)]
    simp
   ·intro z hz
    rcases List.mem_append.1 hz with hz | hz
    ·exact hg z hz
    ·simp at hz; rw [hz]; exact ⟨hy2, hy3⟩
  ·refine .inr ⟨(xs, flat xs), ?_, hg, rfl, hn⟩
   have e2 : decide ((xs.length : Int) < 20) = false := by simp; omega
   simp only [h1, decide_true, if_true, e2, Bool.false_eq_true, if_false]
 ·refine .inr ⟨(xs, flat xs), ?_, hg, rfl, hn⟩
  have e1 : decide ((xs.length : Int) < (l.length : Int)) = false := by simp; omega
  simp only [e1, Bool.false_eq_true, if_false]
theorem all41 (xs : List Inst) (cut n : Int) (b : List Int) (hn : xs.length ≤ 20) : loopO (fun x : Int => hansomlaw07_ScanAll_l41 xs cut b n xs x) 0 = some (.inr ()) := by
 refine loop_to (fun _ => (.inr () : Bool ⊕ Unit)) (fun x => 0 ≤ x ∧ x ≤ (xs.length : Int)) (fun x => ((xs.length : Int) - x).toNat) (fun x hx => ?_) ⟨Int.le_refl _, by omega⟩
 unfold hansomlaw07_ScanAll_l41
 by_cases h1 : x < (xs.length : Int)
 ·refine .inl ⟨x + 1, ?_, by omega, by omega, rfl⟩
  simp only [h1, decide_true, if_true, idx_eq hx.1 h1, Option.bind_some, beq_self_eq_true, Bool.and_self, Bool.not_true, Bool.false_eq_true, if_false]
  rw [wrap64 (by omega) (by omega)]
 ·have e1 : decide (x < (xs.length : Int)) = false := by simp; omega
  refine .inr ?_
  simp only [e1, Bool.false_eq_true, if_false]
theorem scanAll_true (l : List Inst) (cut : Int) (wl : wfL Inst.wf l) (wc : wfI .i64 cut) : hansomlaw07_ScanAll l cut = some true := by
 obtain ⟨⟨xs, bs⟩, h1, hg, hb, hn⟩ := all8 l cut wl.2
 simp only at hg hb hn
 subst hb
 have hfl := flat_len hg
 unfold hansomlaw07_ScanAll
 rw [h1, Option.bind_some]
 rw [grow_eq (by simp; omega) (by simp; omega), Option.bind_some, all_whole xs hg hn, Option.bind_some]
 have e1 : (((flat xs).length : Int) != ((flat xs).length : Int)) = false := by simp
 have e2 : ((xs.length : Int) != (xs.length : Int)) = false := by simp
 simp only [e1, e2, Bool.false_eq_true, if_false, all41 xs cut _ _ hn, Option.bind_some]
 have hm : bitsOp .and .i64 cut 65535 = cut % 65536 := and_mask cut 16 (by omega)
 have hr : remI .i64 (bitsOp .and .i64 cut 65535) (IntKind.wrap .i64 (((flat xs).length : Int) + 1)) = some ((cut % 65536) % (((flat xs).length : Int) + 1)) := by
  rw [hm, wrap64 (by omega) (by omega)]
  unfold remI
  rw [if_neg (by omega), Int.tmod_eq_emod_of_nonneg (by omega)]
 have hz0 := Int.emod_nonneg (cut % 65536) (show ((flat xs).length : Int) + 1 ≠ 0 by omega)
 have hz1 := Int.emod_lt_of_pos (cut % 65536) (show (0 : Int) < ((flat xs).length : Int) + 1 by omega)
 rw [hr, Option.bind_some]
 generalize (cut % 65536) % (((flat xs).length : Int) + 1) = z at hz0 hz1
 rw [cutL_eq (by omega) hz0 (by omega), Option.bind_some]
 obtain ⟨o, k, h2, h3, h4⟩ := all_cut xs hg hn (z.toNat - (0 : Int).toNat)
 have hd : (flat xs).drop (0 : Int).toNat = flat xs := rfl
 rw [hd, h2, Option.bind_some, awake7, Option.bind_some]
 have e3 : decide ((o.length : Int) ≤ (xs.length : Int)) = true := by simp; omega
 have e4 : decide (k ≤ ((flat xs).length : Int)) = true := by simp; omega
 simp only [e3, e4, if_true]
end Go.Es.Sca
