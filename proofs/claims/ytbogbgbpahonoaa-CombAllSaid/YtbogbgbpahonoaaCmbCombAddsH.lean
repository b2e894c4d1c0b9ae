/- The law CombAdds in plain Lean. No condition. -/
import Derived.Test.YtbogbgbpahonoaaCmbH
set_option linter.unusedVariables false
set_option linter.unusedSimpArgs false
set_option maxHeartbeats 1000000
namespace Go.Es.Cmb
theorem refUp_spec (n a : Int) (h0 : 0 ≤ n) (h1 : n ≤ 65536) : hansomref01_Up n (stepOf a) = some (up n (stepOf a)) := by
  have j : ∀ s : Int, 1 ≤ s → s ≤ 256 → hansomref01_Up_j25 n s = some (up n s) := by
    intro s h2 h3
    have hd : 0 ≤ (n + s - 1) / s := Int.ediv_nonneg (by omega) (by omega)
    have hd2 : (n + s - 1) / s * s ≤ n + s - 1 := Int.ediv_mul_le _ (by omega)
    have hd3 : (n + s - 1) / s ≤ n + s - 1 := Int.ediv_le_self _ (by omega)
    have hd4 : 0 ≤ (n + s - 1) / s * s := Int.mul_nonneg hd (by omega)
    unfold hansomref01_Up_j25
    simp only [show ¬ n < 0 from by omega, show ¬ n > 16777216 from by omega, decide_false, Bool.false_eq_true, if_false]
    rw [wrap64 (n := n + s) (by omega) (by omega), wrap64 (n := n + s - 1) (by omega) (by omega)]
    unfold quoI
    rw [if_neg (by omega), Option.bind_some, Int.tdiv_eq_ediv_of_nonneg (by omega), wrap64 (n := (n + s - 1) / s) (by omega) (by omega), wrap64 (by omega) (by omega)]
    rfl
  have key : ∀ s : Int, 1 ≤ s → s ≤ 256 → iterO (fun x : Bool × Int => hansomref01_Up_l8 n s x.1 x.2) 20 (false, 1) = some true → hansomref01_Up n s = some (up n s) := by
    intro s h2 h3 h4
    unfold hansomref01_Up
    rw [loopO_iter h4, Option.bind_some]
    exact j s h2 h3
  unfold stepOf
  split
  · exact key 2 (by omega) (by omega) rfl
  · split
    · exact key 16 (by omega) (by omega) rfl
    · split
      · exact key 256 (by omega) (by omega) rfl
      · exact key 1 (by omega) (by omega) rfl
theorem lawstep_spec (a : Int) (h0 : 0 ≤ a) (h1 : a ≤ 4) : hansomlaw40_step a = some (stepOf a) := by
  have : a = 0 ∨ a = 1 ∨ a = 2 ∨ a = 3 ∨ a = 4 := by omega
  rcases this with rfl | rfl | rfl | rfl | rfl <;> rfl
def okd (d : SegDef) : Prop := (0 ≤ d.Align ∧ d.Align ≤ 4) ∧ (0 ≤ d.Len ∧ d.Len ≤ 32767) ∧ (d.Align ≠ 0 → d.Frame = 0 ∧ d.Offset = 0)
theorem near_spec (s : SegDef) : ∃ d, hansomlaw40_near s = some d ∧ okd d := by
  have a1 : bitsOp .and .i64 s.Align 255 = s.Align % 256 := and_mask s.Align 8 (by omega)
  have a2 : bitsOp .and .i64 s.Combine 3 = s.Combine % 4 := and_mask s.Combine 2 (by omega)
  have a3 : bitsOp .and .i64 s.Len 63 = s.Len % 64 := and_mask s.Len 6 (by omega)
  have a4 : bitsOp .and .i64 s.Len 32767 = s.Len % 32768 := and_mask s.Len 15 (by omega)
  have t1 : Int.tmod (s.Align % 256) 5 = s.Align % 256 % 5 := Int.tmod_eq_emod_of_nonneg (by omega)
  unfold hansomlaw40_near
  rw [a1, a2, a3, a4, t1, idx_eq (by omega) (by simp; omega), Option.bind_some]
  have okA : 0 ≤ s.Align % 256 % 5 ∧ s.Align % 256 % 5 ≤ 4 := by omega
  split
  · split
    · rename_i h
      simp only [beq_iff_eq] at h
      exact ⟨_, rfl, okA, ⟨by simp only; omega, by simp only; omega⟩, fun hn => absurd h hn⟩
    · exact ⟨_, rfl, okA, ⟨by simp only; omega, by simp only; omega⟩, fun _ => ⟨rfl, rfl⟩⟩
  · split
    · rename_i h
      simp only [beq_iff_eq] at h
      exact ⟨_, rfl, okA, ⟨by simp only; omega, by simp only; omega⟩, fun hn => absurd h hn⟩
    · exact ⟨_, rfl, okA, ⟨by simp only; omega, by simp only; omega⟩, fun _ => ⟨rfl, rfl⟩⟩
def okm (i : Nat) (c : Comb) : Prop := (0 ≤ c.Align ∧ c.Align ≤ 4) ∧ (0 ≤ c.Len ∧ c.Len ≤ 65536) ∧ (c.Align ≠ 0 → c.Frame = 0 ∧ c.Offset = 0) ∧ c.Chunks.length ≤ i ∧ ∀ x ∈ c.Chunks, x.Mod = 7 ∧ 1 ≤ x.Seg ∧ x.Seg ≤ i
theorem okm.okc {i : Nat} {c : Comb} (h : okm i c) (hi : i ≤ 1000) : okc c := ⟨h.2.1, by have := h.2.2.2.1; omega⟩
theorem at_spec (d : SegDef) (x1 : List SegDef) (x2 : List SegDef) (x3 : List Int) (m : List Comb) (i : Int) (n k : List UInt8) (hm : m.length ≤ 1000) :
    loopO (fun x : Int × Int => hansomlaw40_CombAdds_l33 d x1 x2 x3 m i n k x.1 x.2) (-1, 0) = some (if m.findIdx (jn n k d) < m.length then ((m.findIdx (jn n k d) : Nat) : Int) else -1) := by
  generalize hp : jn n k d = p
  generalize hf : m.findIdx p = f
  refine loop_to (f := fun x : Int × Int => hansomlaw40_CombAdds_l33 d x1 x2 x3 m i n k x.1 x.2) (fun _ => if f < m.length then (f : Int) else -1)
    (fun x => ∃ j : Nat, x.2 = j ∧ j ≤ m.length ∧ x.1 = (if f < j then (f : Int) else -1) ∧ (∀ q, (hq : q < m.length) → q < f → p m[q] = false)) (fun x => (m.length - x.2).toNat) (fun x hx => ?_) ⟨0, rfl, by omega, by simp, fun q hq hqf => by
      subst hf
      have := List.not_of_lt_findIdx hqf
      simpa using this⟩
  obtain ⟨a, b⟩ := x
  obtain ⟨j, rfl, hj, ha, hb⟩ := hx
  simp only at ha ⊢
  subst ha
  unfold hansomlaw40_CombAdds_l33
  have w : IntKind.wrap .i64 ((j : Int) + 1) = ((j + 1 : Nat) : Int) := by rw [wrap64 (by omega) (by omega)]; omega
  by_cases hlt : j < m.length
  · left
    simp only [show (j : Int) < (m.length : Int) from by omega, decide_true, if_true, idx_nat hlt, Option.bind_some, w]
    by_cases hfj : f < j
    · simp only [hfj, if_true, show ¬ (f : Int) < 0 from by omega, decide_false, Bool.false_eq_true, if_false]
      exact ⟨_, rfl, ⟨j + 1, rfl, by omega, by simp only; rw [if_pos (by omega)], hb⟩, by simp only; omega, trivial⟩
    · simp only [hfj, if_false, show (-1 : Int) < 0 from by omega, decide_true, if_true]
      refine ⟨(if p m[j] = true then (j : Int) else -1, ((j + 1 : Nat) : Int)), ?_, ⟨j + 1, rfl, by omega, ?_, hb⟩, by simp only; omega, trivial⟩
      · rw [← hp]
        unfold jn
        by_cases h1 : d.Align = 0
        · simp [h1]
        by_cases h2 : m[j].Align = 0
        · simp [h1, h2]
        by_cases h3 : d.Combine = 0
        · simp [h1, h2, h3]
        by_cases h4 : m[j].Combine = d.Combine
        · by_cases h5 : m[j].Name = n
          · by_cases h6 : m[j].Class = k <;> simp [h1, h2, h3, h4, h5, h6]
          · simp [h1, h2, h3, h4, h5]
        · simp [h1, h2, h3, h4]
      · simp only
        cases hpj : p m[j] with
        | true =>
          have : f = j := by
            subst hf
            exact first_is hlt hpj fun q hq => hb q (by omega) (by omega)
          simp [this]
        | false =>
          have : f ≠ j := by
            rintro rfl
            have := List.findIdx_getElem (xs := m) (p := p) (w := by rw [hf]; exact hlt)
            simp only [hf] at this
            rw [this] at hpj; cases hpj
          rw [if_neg (by simp), if_neg (by omega)]
  · right
    have : j = m.length := by omega
    subst this
    simp
def keeps (r : Option (Lp (List SegDef × List Comb × Int) (Bool ⊕ (List SegDef × List Comb)))) (i : Nat) : Prop :=
  ∃ ds m, r = some (.next (ds, m, ((i + 1 : Nat) : Int))) ∧ (ds.length ≤ i + 1 ∧ m.length ≤ ds.length) ∧ ∀ c ∈ m, okm (i + 1) c
theorem okm.succ {i : Nat} {c : Comb} (h : okm i c) : okm (i + 1) c := ⟨h.1, h.2.1, h.2.2.1, by have := h.2.2.2.1; omega, fun x hx => by have := h.2.2.2.2 x hx; omega⟩
theorem newc_ok {i : Nat} {c : Comb} {d : SegDef} {o : Int} (h : okm i c) (hd : okd d) (ho : 0 ≤ o ∧ o + d.Len ≤ 65536) (hz : c.Align ≠ 0 ∨ c.Align = d.Align) : okm (i + 1) (newc c d ⟨7, ((i + 1 : Nat) : Int), o, d.Len⟩) := by
  obtain ⟨h1, h2, h3, h4, h5⟩ := h
  refine ⟨?_, ?_, fun hn => ?_, ?_, ?_⟩
  · unfold newc; simp only
    split
    · exact hd.1
    · exact h1
  · unfold newc; simp only; omega
  · unfold newc at hn ⊢; simp only at hn ⊢
    refine h3 ?_
    rcases hz with hz | hz
    · exact hz
    · split at hn
      · rw [hz]; exact hn
      · exact hn
  · unfold newc; simp only [List.length_append, List.length_cons, List.length_nil]; omega
  · intro x hx
    unfold newc at hx
    simp only [List.mem_append, List.mem_singleton] at hx
    rcases hx with hx | rfl
    · have := h5 x hx; omega
    · exact ⟨rfl, by show (1 : Int) ≤ ((i + 1 : Nat) : Int); omega, Int.le_refl _⟩
theorem find_new {i : Nat} {c : Comb} {d : SegDef} {o : Int} (h : okm i c) : (newc c d ⟨7, ((i + 1 : Nat) : Int), o, d.Len⟩).Chunks.find? (hits 7 ((i + 1 : Nat) : Int)) = some ⟨7, ((i + 1 : Nat) : Int), o, d.Len⟩ := by
  unfold newc
  simp only
  rw [List.find?_append]
  have : c.Chunks.find? (hits 7 ((i + 1 : Nat) : Int)) = none := by
    rw [List.find?_eq_none]
    intro x hx
    have := h.2.2.2.2 x hx
    simp only [hits, Bool.and_eq_true, beq_iff_eq]
    omega
  rw [this]
  simp [hits]
theorem no_hit {i : Nat} {c : Comb} (h : okm i c) : ∀ y ∈ c.Chunks, hits 7 ((i + 1 : Nat) : Int) y = false := by
  intro y hy
  have := h.2.2.2.2 y hy
  have h2 : ¬ y.Seg = (i : Int) + 1 := by omega
  simp [hits, h2]
/-- the round's checks, of what was made -/
theorem j112_ok (d : SegDef) (c : Comb) (ds l0 : List SegDef) (names : List Int) (i : Nat) (n k : List UInt8) (off : Int) (next : List Comb) (kk : Nat) (was al : Int) (hi : i ≤ 20) (hd : okd d) (hal : 0 ≤ al ∧ al ≤ 4)
    (hf : comb_Find next 7 ((i + 1 : Nat) : Int) = some ((kk : Int), off, true)) (hn : c.Name = n) (hk : c.Class = k) (hc : c.Combine = d.Combine) (hca : 0 ≤ c.Align ∧ c.Align ≤ 4) (hs : stepOf c.Align = stepOf al)
    (hoff : 0 ≤ off ∧ off ≤ 100000) (hl : c.Len = max was (off + d.Len)) (hfr : c.Frame = d.Frame) (hof : c.Offset = d.Offset) (hds : ds.length ≤ i) :
    hansomlaw40_CombAdds_j112 d c ds l0 names (i : Int) n k off next (kk : Int) was al = some (.next (ds ++ [d], next, ((i + 1 : Nat) : Int))) := by
  unfold hansomlaw40_CombAdds_j112
  have w : IntKind.wrap .i64 ((i : Int) + 1) = ((i + 1 : Nat) : Int) := by rw [wrap64 (by omega) (by omega)]; omega
  have hd2 := hd.2.1
  rw [w, hf, Option.bind_some, lawstep_spec _ hca.1 hca.2, lawstep_spec _ hal.1 hal.2, wrap64 (n := off + d.Len) (by omega) (by omega), mxI_eq, ← hl]
  simp only [hn, hk, hc, hs, hfr, hof, bne_self_eq_false, Bool.false_eq_true, if_false, Option.bind_some, Bool.not_true]
  rw [grow_eq (by simp; omega) (by simp; omega)]
  rfl
theorem round_ok (d : SegDef) (ds l0 : List SegDef) (names : List Int) (m : List Comb) (i : Nat) (n9 : Int) (hi : i < 10) (hn : 0 ≤ n9 ∧ n9 ≤ 3) (hd : okd d) (hds : ds.length ≤ i ∧ m.length ≤ ds.length) (hm : ∀ c ∈ m, okm i c) :
    keeps (hansomlaw40_CombAdds_j25 d ds l0 names m (i : Int) n9) i := by
  unfold hansomlaw40_CombAdds_j25
  have a1 : bitsOp .and .i64 n9 1 = n9 % 2 := and_mask n9 1 (by omega)
  have a2 : shrI .i64 n9 1 = n9 / 2 := shr_eq (j := 1) (by decide)
  have w : IntKind.wrap .i64 ((i : Int) + 1) = ((i + 1 : Nat) : Int) := by rw [wrap64 (by omega) (by omega)]; omega
  rw [a1, a2, idx_eq (by omega) (by simp; omega), Option.bind_some, idx_eq (by omega) (by simp; omega), Option.bind_some]
  generalize ([([65] : List UInt8), ([66] : List UInt8)])[(n9 % 2).toNat]'_ = n
  generalize ([([88] : List UInt8), ([89] : List UInt8)])[(n9 / 2).toNat]'_ = k
  rw [at_spec d ds l0 names m i n k (by omega), Option.bind_some]
  have hadd := add_spec m n k d 7 ((i + 1 : Nat) : Int) (by omega) (fun c hc => (hm c hc).okc (by omega)) (by have := hd.2.1; omega)
  have hdl := hd.2.1
  by_cases hf : m.findIdx (jn n k d) < m.length
  · -- it joins one that is there
    have hj := List.findIdx_getElem (xs := m) (p := jn n k d) (w := hf)
    generalize hfe : m.findIdx (jn n k d) = f at *
    simp only [jn, decide_eq_true_eq] at hj
    obtain ⟨j1, j2, j3, j4, j5, j6⟩ := hj
    have hc := hm _ (List.getElem_mem hf)
    have hup := up_ge m[f].Len d.Align
    have hoff : (if d.Combine ≠ 6 then hansomref01_Up m[f].Len (stepOf d.Align) else some 0) = some (offOf m[f] d) := by
      unfold offOf
      by_cases h6 : d.Combine = 6
      · simp [h6]
      · simp only [ne_eq, h6, not_false_eq_true, if_true, if_false]
        exact refUp_spec _ _ hc.2.1.1 hc.2.1.2
    have hoff0 : 0 ≤ offOf m[f] d ∧ offOf m[f] d ≤ 65791 := by
      have := hc.2.1
      unfold offOf
      split <;> omega
    have main : keeps (hansomlaw40_CombAdds_j56 d ds l0 names m (i : Int) n k (f : Int) (offOf m[f] d)) i := by
      unfold hansomlaw40_CombAdds_j56
      rw [w, hadd, Option.bind_some]
      unfold addL
      rw [hfe, List.getElem?_eq_getElem hf]
      simp only [show (f : Int) ≥ 0 from by omega, decide_true, if_true]
      rw [wrap64 (n := offOf m[f] d + d.Len) (by omega) (by omega)]
      by_cases hbig : offOf m[f] d + d.Len > 65536
      · simp only [hbig, decide_true, if_true, show ¬ offOf m[f] d + d.Len ≤ 65536 from by omega, if_false]
        exact ⟨ds, m, by simp [w], ⟨by omega, hds.2⟩, fun c hc => (hm c hc).succ⟩
      · simp only [hbig, decide_false, Bool.false_eq_true, if_false, show offOf m[f] d + d.Len ≤ 65536 from by omega, if_true]
        unfold hansomlaw40_CombAdds_j72 hansomlaw40_CombAdds_j80 hansomlaw40_CombAdds_j88
        simp only [bne_self_eq_false, Bool.false_eq_true, if_false, show ¬ (f : Int) < 0 from by omega, decide_false, show (f : Int) ≥ 0 from by omega, decide_true, if_true, List.length_set, show ¬ (f : Int) ≥ (m.length : Int) from by omega]
        have hfs : f < (m.set f (newc m[f] d ⟨7, ((i + 1 : Nat) : Int), offOf m[f] d, d.Len⟩)).length := by simp [hf]
        rw [idx_nat hfs, Option.bind_some, idx_nat hf]
        simp only [Option.bind_some, List.getElem_set_self, lawstep_spec _ hc.1.1 hc.1.2, lawstep_spec _ hd.1.1 hd.1.2]
        have hfind : comb_Find (m.set f (newc m[f] d ⟨7, ((i + 1 : Nat) : Int), offOf m[f] d, d.Len⟩)) 7 ((i + 1 : Nat) : Int) = some ((f : Int), offOf m[f] d, true) := by
          refine find_some 7 _ _ (by simp; omega) (fun c hc2 => ?_) f hfs ⟨7, ((i + 1 : Nat) : Int), offOf m[f] d, d.Len⟩ (by rw [List.getElem_set_self]; exact find_new hc) (fun j hj y hy => ?_)
          · rcases List.mem_or_eq_of_mem_set hc2 with h | h
            · have := (hm c h).2.2.2.1; omega
            · subst h
              have h4 := (hm _ (List.getElem_mem hf)).2.2.2.1
              simp only [newc, List.length_append, List.length_cons, List.length_nil]; omega
          · rw [List.getElem_set_ne (by omega)] at hy
            exact no_hit (hm _ (List.getElem_mem _)) y hy
        have hnew := newc_ok (o := offOf m[f] d) hc hd ⟨hoff0.1, by omega⟩ (.inl j2)
        have fin : ∀ al : Int, 0 ≤ al ∧ al ≤ 4 → stepOf (newc m[f] d ⟨7, ((i + 1 : Nat) : Int), offOf m[f] d, d.Len⟩).Align = stepOf al →
            keeps (hansomlaw40_CombAdds_j112 d (newc m[f] d ⟨7, ((i + 1 : Nat) : Int), offOf m[f] d, d.Len⟩) ds l0 names (i : Int) n k (offOf m[f] d) (m.set f (newc m[f] d ⟨7, ((i + 1 : Nat) : Int), offOf m[f] d, d.Len⟩)) (f : Int) m[f].Len al) i := by
          intro al hal hs
          rw [j112_ok d (newc m[f] d ⟨7, ((i + 1 : Nat) : Int), offOf m[f] d, d.Len⟩) ds l0 names i n k _ _ f _ al (by omega) hd hal hfind j5 j6 j4 hnew.1 hs ⟨hoff0.1, by omega⟩ rfl (by
            have h1 := (hc.2.2.1 j2).1; have h2 := (hd.2.2 j1).1
            show m[f].Frame = d.Frame
            rw [h1, h2]) (by
            have h1 := (hc.2.2.1 j2).2; have h2 := (hd.2.2 j1).2
            show m[f].Offset = d.Offset
            rw [h1, h2]) hds.1]
          refine ⟨_, _, rfl, ⟨by simp; omega, by simp; omega⟩, fun c hc' => ?_⟩
          rcases List.mem_or_eq_of_mem_set hc' with h | h
          · exact (hm c h).succ
          · subst h; exact hnew
        by_cases hst : stepOf m[f].Align ≥ stepOf d.Align
        · simp only [hst, decide_true, if_true]
          refine fin _ hc.1 ?_
          show stepOf (if stepOf d.Align > stepOf m[f].Align then d.Align else m[f].Align) = _
          rw [if_neg (by omega)]
        · simp only [hst, decide_false, Bool.false_eq_true, if_false]
          refine fin _ hd.1 ?_
          show stepOf (if stepOf d.Align > stepOf m[f].Align then d.Align else m[f].Align) = _
          rw [if_pos (by omega)]
    simp only [hf, if_true, show (f : Int) ≥ 0 from by omega, decide_true]
    by_cases h6 : d.Combine = 6
    · have h0 : offOf m[f] d = 0 := by simp [offOf, h6]
      rw [h0] at main
      simp only [h6, bne_self_eq_false, Bool.false_eq_true, if_false]
      exact main
    · have h6' : (d.Combine != 6) = true := by simp [h6]
      rw [if_pos h6] at hoff
      simp only [h6', if_true, idx_nat hf, Option.bind_some, lawstep_spec _ hd.1.1 hd.1.2, hoff]
      exact main
  · -- it is a new one
    have hfl : m.findIdx (jn n k d) = m.length := by have := List.findIdx_le_length (xs := m) (p := jn n k d); omega
    simp only [hf, if_false, show ¬ (-1 : Int) ≥ 0 from by omega, decide_false, Bool.false_eq_true]
    unfold hansomlaw40_CombAdds_j56
    rw [w, hadd, Option.bind_some]
    unfold addL
    rw [hfl, List.getElem?_eq_none (Nat.le_refl _)]
    simp only [show ¬ (-1 : Int) ≥ 0 from by omega, decide_false, Bool.false_eq_true, if_false, show d.Len ≤ 65536 from by omega, if_true]
    unfold hansomlaw40_CombAdds_j72 hansomlaw40_CombAdds_j80 hansomlaw40_CombAdds_j88
    have wl : IntKind.wrap .i64 ((m.length : Int) + 1) = (m.length : Int) + 1 := wrap64 (by omega) (by omega)
    have hlen : (m ++ [newc (fresh n k d) d ⟨7, ((i + 1 : Nat) : Int), 0, d.Len⟩]).length = m.length + 1 := by simp
    have hfs : m.length < (m ++ [newc (fresh n k d) d ⟨7, ((i + 1 : Nat) : Int), 0, d.Len⟩]).length := by simp
    have hget : (m ++ [newc (fresh n k d) d ⟨7, ((i + 1 : Nat) : Int), 0, d.Len⟩])[m.length]'hfs = newc (fresh n k d) d ⟨7, ((i + 1 : Nat) : Int), 0, d.Len⟩ := by simp
    have hb : (((m ++ [newc (fresh n k d) d ⟨7, ((i + 1 : Nat) : Int), 0, d.Len⟩]).length : Int) != (m.length : Int) + 1) = false := by rw [hlen]; simp
    have hg : ¬ (m.length : Int) ≥ ((m ++ [newc (fresh n k d) d ⟨7, ((i + 1 : Nat) : Int), 0, d.Len⟩]).length : Int) := by rw [hlen]; omega
    simp only [bne_self_eq_false, Bool.false_eq_true, if_false, show (-1 : Int) < 0 from by omega, decide_true, if_true, wl, hb, show ¬ (-1 : Int) ≥ 0 from by omega, decide_false, hg]
    rw [idx_nat hfs, Option.bind_some, hget]
    have hfr : okm i (fresh n k d) := ⟨hd.1, by simp [fresh], hd.2.2, by simp [fresh], fun x hx => by simp [fresh] at hx⟩
    have hnew := newc_ok (o := 0) hfr hd ⟨by omega, by omega⟩ (.inr rfl)
    have hfind : comb_Find (m ++ [newc (fresh n k d) d ⟨7, ((i + 1 : Nat) : Int), 0, d.Len⟩]) 7 ((i + 1 : Nat) : Int) = some ((m.length : Int), 0, true) := by
      refine find_some 7 _ _ (by simp; omega) (fun c hc => ?_) m.length hfs ⟨7, ((i + 1 : Nat) : Int), 0, d.Len⟩ (by rw [hget]; exact find_new hfr) (fun j hj y hy => ?_)
      · rcases List.mem_append.1 hc with h | h
        · have := (hm c h).2.2.2.1; omega
        · simp only [List.mem_singleton] at h
          subst h
          simp [newc, fresh]
      · rw [List.getElem_append_left hj] at hy
        exact no_hit (hm _ (List.getElem_mem _)) y hy
    have hal : (newc (fresh n k d) d ⟨7, ((i + 1 : Nat) : Int), 0, d.Len⟩).Align = d.Align := by
      show (if stepOf d.Align > stepOf d.Align then d.Align else d.Align) = _
      simp
    rw [j112_ok d _ ds l0 names i n k 0 _ m.length 0 d.Align (by omega) hd hd.1 hfind rfl rfl rfl hnew.1 (by rw [hal]) ⟨by omega, by omega⟩ rfl rfl rfl hds.1]
    refine ⟨_, _, rfl, ⟨by simp; omega, by simp; omega⟩, fun c hc' => ?_⟩
    rcases List.mem_append.1 hc' with h | h
    · exact (hm c h).succ
    · simp only [List.mem_singleton] at h
      subst h; exact hnew
theorem awake_true : hansomlaw40_awake = some true := by
  unfold hansomlaw40_awake
  rw [add_spec [] [65] [] ⟨2, 2, 0, 0, 3, 0, 0, 0⟩ 0 1 (by simp) (by simp) (by simp), Option.bind_some]
  have e1 : addL [] [65] [] ⟨2, 2, 0, 0, 3, 0, 0, 0⟩ 0 1 = ([⟨[65], [], 2, 2, 0, 0, 3, [⟨0, 1, 0, 3⟩]⟩], 0) := by decide
  rw [e1, add_spec _ [65] [] ⟨2, 2, 0, 0, 3, 0, 0, 0⟩ 1 1 (by simp) (by simp [okc]) (by simp), Option.bind_some]
  have e2 : addL [⟨[65], [], 2, 2, 0, 0, 3, [⟨0, 1, 0, 3⟩]⟩] [65] [] ⟨2, 2, 0, 0, 3, 0, 0, 0⟩ 1 1 = ([⟨[65], [], 2, 2, 0, 0, 7, [⟨0, 1, 0, 3⟩, ⟨1, 1, 4, 3⟩]⟩], 0) := by decide
  simp only [e2]
  rw [find_some 1 1 _ (by simp) (by simp) 0 (by simp) ⟨1, 1, 4, 3⟩ rfl (fun j hj => absurd hj (by omega))]
  rfl
theorem combAdds_true (l : List SegDef) (names : List Int) (wl : wfL SegDef.wf l) (wn : wfL (wfI .i64) names) : hansomlaw40_CombAdds l names = some true := by
  unfold hansomlaw40_CombAdds
  obtain ⟨r, h1, h2⟩ := loop_rule (f := fun x : List SegDef × List Comb × Int => hansomlaw40_CombAdds_l8 x.1 l names x.2.1 x.2.2)
    (fun x => ∃ i : Nat, x.2.2 = i ∧ i ≤ 10 ∧ (x.1.length ≤ i ∧ x.2.1.length ≤ x.1.length) ∧ ∀ c ∈ x.2.1, okm i c) (fun x => (10 - x.2.2).toNat)
    (fun r => ∃ ds m, r = .inr (ds, m) ∧ m.length ≤ ds.length ∧ m.length ≤ 10 ∧ ∀ c ∈ m, okm 10 c) (fun x hx => by
      obtain ⟨ds, m, b⟩ := x
      obtain ⟨i, rfl, hi, hl, hm⟩ := hx
      simp only at hl hm ⊢
      have out : ∃ b, some (Lp.out (α := List SegDef × List Comb × Int) (Sum.inr (ds, m) : Bool ⊕ (List SegDef × List Comb))) = some (.out b) ∧ ∃ ds m, b = .inr (ds, m) ∧ m.length ≤ ds.length ∧ m.length ≤ 10 ∧ ∀ c ∈ m, okm 10 c :=
        ⟨_, rfl, ds, m, rfl, hl.2, by omega, fun c hc => by
          obtain ⟨h1, h2, h3, h4, h5⟩ := hm c hc
          exact ⟨h1, h2, h3, by omega, fun x hx => by have := h5 x hx; omega⟩⟩
      unfold hansomlaw40_CombAdds_l8
      by_cases h1 : i < l.length
      · by_cases h2 : i < 10
        · left
          simp only [show (i : Int) < (l.length : Int) from by omega, show (i : Int) < 10 from by omega, decide_true, if_true, idx_nat h1, Option.bind_some]
          obtain ⟨d, hd, hok⟩ := near_spec l[i]
          simp only [hd, Option.bind_some]
          have go : ∀ n9 : Int, 0 ≤ n9 ∧ n9 ≤ 3 → ∃ y, hansomlaw40_CombAdds_j25 d ds l names m (i : Int) n9 = some (.next y) ∧ (∃ i : Nat, y.2.2 = i ∧ i ≤ 10 ∧ (y.1.length ≤ i ∧ y.2.1.length ≤ y.1.length) ∧ ∀ c ∈ y.2.1, okm i c) ∧ (10 - y.2.2).toNat < (10 - (i : Int)).toNat := by
            intro n9 hn
            obtain ⟨ds', m', e, h3, h4⟩ := round_ok d ds l names m i n9 h2 hn hok hl hm
            exact ⟨_, e, ⟨i + 1, rfl, by omega, h3, h4⟩, by simp only; omega⟩
          by_cases h3 : i < names.length
          · have a1 : bitsOp .and .i64 names[i] 3 = names[i] % 4 := and_mask _ 2 (by omega)
            simp only [show (i : Int) < (names.length : Int) from by omega, decide_true, if_true, idx_nat h3, Option.bind_some, a1]
            exact go _ (by omega)
          · simp only [show ¬ (i : Int) < (names.length : Int) from by omega, decide_false, Bool.false_eq_true, if_false]
            exact go 0 (by omega)
        · right
          simp only [show (i : Int) < (l.length : Int) from by omega, show ¬ (i : Int) < 10 from by omega, decide_true, decide_false, if_true, Bool.false_eq_true, if_false]
          exact out
      · right
        simp only [show ¬ (i : Int) < (l.length : Int) from by omega, decide_false, Bool.false_eq_true, if_false]
        exact out) (x := ([], [], 0)) ⟨0, rfl, by omega, by simp, by simp⟩
  obtain ⟨ds, m, rfl, hl, hl10, hm⟩ := h2
  rw [h1, Option.bind_some]
  simp only
  rw [find_none 8 1 m (by omega) (fun c hc => by have := (hm c hc).2.2.2.1; omega) (fun c hc x hx => by
    have := (hm c hc).2.2.2.2 x hx
    have h8 : ¬ x.Mod = 8 := by omega
    simp [hits, h8]), Option.bind_some, awake_true, Option.bind_some]
  simp
  omega
end Go.Es.Cmb
