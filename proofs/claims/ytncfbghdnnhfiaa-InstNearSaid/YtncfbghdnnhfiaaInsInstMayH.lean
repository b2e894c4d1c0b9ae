/- The law InstMay in plain Lean. No condition. -/
import Derived.Test.YtncfbghdnnhfiaaInsH
set_option linter.unusedVariables false
set_option linter.unusedSimpArgs false
set_option maxHeartbeats 4000000
set_option maxRecDepth 100000
namespace Go.Es.Ins
theorem awake_true : hansomlaw05_awake = some true := by
  have o1 : okI ⟨false, 0, 0, 184, 0, 0, 0, 0, 4660, 0⟩ := ⟨by simp, by simp, by simp, by simp⟩
  have o2 : okI ⟨false, 0, 0, 38, 0, 0, 0, 0, 0, 0⟩ := ⟨by simp, by simp, by simp, by simp⟩
  have m1 : mayB ⟨false, 0, 0, 184, 0, 0, 0, 0, 4660, 0⟩ = true := by decide +kernel
  have m2 : mayB ⟨false, 0, 0, 38, 0, 0, 0, 0, 0, 0⟩ = false := by decide +kernel
  have l1 : lenI ⟨false, 0, 0, 184, 0, 0, 0, 0, 4660, 0⟩ = 3 := by decide +kernel
  have l2 : lenI ⟨false, 0, 0, 184, 0, 0, 0, 0, 4660, 0⟩ - (bytI (rowI 184 0).1.A + bytI (rowI 184 0).1.B) = 1 := by decide +kernel
  unfold hansomlaw05_awake
  rw [instMay _ o1, m1, Option.bind_some, instLen _ o1, m1, instTail _ o1, m1, instMay _ o2, m2, instDisps]
  simp only [if_true, Option.bind_some, l1, l2, beq_self_eq_true, Bool.not_false]
  rfl
theorem may51 (i : Inst) (h : okI i) (m : Bool) (n t : Int) (hm : m = mayB i) (hn : n = if mayB i = true then lenI i else 0) (ht : t = if mayB i = true then lenI i - (bytI (rowI i.Op i.Reg).1.A + bytI (rowI i.Op i.Reg).1.B) else 0) : hansomlaw05_InstMay_j51 i m n t = some true := by
  subst hm hn ht
  unfold hansomlaw05_InstMay_j51
  rw [awake_true, Option.bind_some, instMay i h, instLen i h, instTail i h]
  simp only [if_true, Option.bind_some, beq_self_eq_true]
theorem may37 (i : Inst) (h : okI i) : hansomlaw05_InstMay_j37 i = some true := by
  unfold hansomlaw05_InstMay_j37
  rw [refMay i h, Option.bind_some]
  cases hm : mayB i with
  | false =>
    simp only [Bool.false_eq_true, if_false]
    exact may51 i h false 0 0 hm.symm (by rw [hm]; rfl) (by rw [hm]; rfl)
  | true =>
    have f1 := (mayB_facts i hm).1
    have b1 := bytI_lo (rowI i.Op i.Reg).1.A; have b2 := bytI_lo (rowI i.Op i.Reg).1.B
    have p1 := pb_lo i.Lock; have p2 := pb_lo (decide (i.Rep > 0)); have p3 := pb_lo (decide (i.Seg > 0)); have hd := dispI_lo i.Mod i.RM
    simp only [if_true]
    rw [refRow i h.1, Option.bind_some, refPut i h hm, Option.bind_some, refImms, Option.bind_some, putL_len i hm]
    refine may51 i h true _ _ hm.symm (by rw [hm]; rfl) ?_
    rw [hm]
    simp only [if_true]
    refine wrap64 ?_ ?_ <;> (unfold lenI; split <;> omega)
theorem instMay_true (x : Inst) (odd : Int) (wx : Inst.wf x) (wo : wfI .i64 odd) : hansomlaw05_InstMay x odd = some true := by
  have hx := okI_wf wx
  obtain ⟨y, h1, hy, _⟩ := near_spec x hx
  unfold hansomlaw05_InstMay
  rw [h1, Option.bind_some]
  repeat' split
  · exact may37 x hx
  · exact may37 _ hy
  · exact may37 _ ⟨hy.1, hx.2.1, hy.2.2.1, hy.2.2.2⟩
  · exact may37 _ ⟨hy.1, hy.2.1, hx.2.2.1, hy.2.2.2⟩
  · exact may37 _ hy
  · exact may37 _ ⟨hy.1, hy.2.1, hy.2.2.1, hx.2.2.2⟩
  · exact may37 _ hy
  · exact may37 _ hy
end Go.Es.Ins
