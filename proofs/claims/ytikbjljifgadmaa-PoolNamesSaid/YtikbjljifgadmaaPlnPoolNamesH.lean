/- The law PoolNames in plain Lean. No condition. -/
import Derived.Test.YtikbjljifgadmaaPlnH
set_option linter.unusedVariables false
set_option linter.unusedSimpArgs false
set_option maxHeartbeats 1000000
set_option maxRecDepth 100000
namespace Go.Es.Pln
section
variable (l : List (A4 Int)) (n : Int) (R : List (A4 Int)) (hp : ∃ r, l = R ++ r) (hR : R.length ≤ 5)
theorem fi_find1 (s : List Pub) (b : List UInt8) (hs : s.length ≤ 1000) : slices_IndexFunc_LPub_pool_Find_1 s b = some (fi (fun z => z.Name == b) s, b) := by
  unfold slices_IndexFunc_LPub_pool_Find_1
  have h := find_loop s hs (fun z => z.Name == b) (fun i => .inl (i, b)) (.inr ()) (f := fun x : Int => slices_IndexFunc_LPub_pool_Find_1_l6 b s (s.length : Int) x) (fun i => rfl)
  rw [h, Option.bind_some]
  unfold fi
  cases s.findIdx? (fun z => z.Name == b) <;> rfl
theorem fi_find2 (s : List Ext) (b : List UInt8) (hs : s.length ≤ 1000) : slices_IndexFunc_LExt_pool_Find_2 s b = some (fi (fun z => z.Name == b) s, b) := by
  unfold slices_IndexFunc_LExt_pool_Find_2
  have h := find_loop s hs (fun z => z.Name == b) (fun i => .inl (i, b)) (.inr ()) (f := fun x : Int => slices_IndexFunc_LExt_pool_Find_2_l6 b s (s.length : Int) x) (fun i => rfl)
  rw [h, Option.bind_some]
  unfold fi
  cases s.findIdx? (fun z => z.Name == b) <;> rfl
theorem MD_len : (MD R R).length = (OM R R).1.length := by unfold MD; rw [List.length_map]
include hR in
theorem find_given (b : Int) (h : fi (P_ (ky b)) R ≥ 0) : pool_Find (R.map rowM) (nm b) = some (({ Mod := fi (P_ (ky b)) R, N := 0, Com := false } : Given), true) := by
  unfold pool_Find
  obtain ⟨v, h1, h2⟩ := fi_get h
  rw [given_rows R (by omega), Option.bind_some, if_pos (by simpa using h)]
  have hz : idx (R.map rowM) (fi (P_ (ky b)) R) = some (rowM v) := by
    obtain ⟨h3, h4⟩ := idx_some h1
    unfold idx
    rw [if_pos h3, List.getElem?_map, h4]; rfl
  rw [hz, Option.bind_some, fi_find1 _ _ (by have := row_pubs_len v; omega), Option.bind_some]
  simp only [P_, Bool.and_eq_true, decide_eq_true_eq] at h2
  have he : (rowM v).Pubs = [gv (nm v.a1)] := by unfold rowM; rw [h2.1]; rfl
  have : fi (fun z => z.Name == nm b) (rowM v).Pubs = 0 := by
    rw [he]
    unfold fi
    rw [List.findIdx?_cons]
    have : ((gv (nm v.a1)).Name == nm b) = true := by
      show (nm v.a1 == nm b) = true
      rw [nm_eq]; simpa using h2.2
    rw [if_pos this]; rfl
  simp only [this]
include hR in
theorem find_made (b : Int) (h : ¬ fi (P_ (ky b)) R ≥ 0) : ∃ j : Int, pool_Find (R.map rowM) (nm b) = some (if inMade R (ky b) then (({ Mod := 0, N := j, Com := true } : Given), true) else (({ Mod := 0, N := 0, Com := false } : Given), false))
    ∧ (inMade R (ky b) = true → ∃ z, idx (MD R R) j = some z ∧ z.Name = nm b) := by
  have hl : (MD R R).length ≤ 1000 := by have := OM_len R R; rw [MD_len]; omega
  refine ⟨fi (fun z => z.Name == nm b) (MD R R), ?_, ?_⟩
  · unfold pool_Find
    rw [given_rows R (by omega), Option.bind_some, if_neg (by simpa using h), made_eq R hR, Option.bind_some, fi_find2 _ _ hl, Option.bind_some]
    have hlo := fi_lo (fun z => z.Name == nm b) (MD R R)
    cases hm : inMade R (ky b) with
    | true =>
      have : fi (fun z => z.Name == nm b) (MD R R) ≥ 0 := fi_any.2 (by rw [MD_any, hm])
      simp only
      rw [if_neg (by simp; omega)]; rfl
    | false =>
      have : ¬ fi (fun z => z.Name == nm b) (MD R R) ≥ 0 := fun h => by
        have := fi_any.1 h
        rw [MD_any, hm] at this; cases this
      simp only
      rw [if_pos (by simp; omega)]; rfl
  · intro hm
    obtain ⟨z, h1, h2⟩ := fi_get (p := fun z : Ext => z.Name == nm b) (l := MD R R) (fi_any.2 (by rw [MD_any, hm]))
    exact ⟨z, h1, by simpa using h2⟩
include hR in
theorem l76_eq (m : List Module) : loopO (fun x : Int => hansomlaw39_PoolNames_l76 (GV R) (OM R R).2 (OM R R).1 l n m (MD R R) x) 0 = some (.inr ()) := by
  have hol := OM_len R R
  have h := OM_ok R R
  refine pre_loop (OM R R).1 (fun xs => (xs.length : Int)) (fun _ => True) _ (fun xs k ys e _ => .inl ⟨?_, trivial⟩) (fun _ => ?_) trivial
  · have hl := len_lt e
    show hansomlaw39_PoolNames_l76 (GV R) (OM R R).2 (OM R R).1 l n m (MD R R) (xs.length : Int) = _
    have hz1 : idx (MD R R) (xs.length : Int) = some (mkX (OM R R).2 k) := idx_mid_map _ e
    unfold hansomlaw39_PoolNames_l76
    have hk := (h.mem k (by rw [e]; simp)).1
    rw [if_pos (by rw [MD_len]; simpa using hl), hz1, Option.bind_some, idx_mid e, Option.bind_some, name_eq, Option.bind_some, Option.bind_some, idx_rd _ hk, Option.bind_some, len_snoc xs k (by omega)]
    unfold mkX
    simp
  · show hansomlaw39_PoolNames_l76 (GV R) (OM R R).2 (OM R R).1 l n m (MD R R) ((OM R R).1.length : Int) = _
    unfold hansomlaw39_PoolNames_l76
    rw [if_neg (by rw [MD_len]; simp)]
/-- names that were lost -/
noncomputable def SE (xs : List (A4 Int)) : A8 Bool := ⟨(LS R xs).any (nm 0 == ·), (LS R xs).any (nm 1 == ·), (LS R xs).any (nm 2 == ·), (LS R xs).any (nm 3 == ·), (LS R xs).any (nm 4 == ·), (LS R xs).any (nm 5 == ·), (LS R xs).any (nm 6 == ·), (LS R xs).any (nm 7 == ·)⟩
theorem rd_SE (xs : List (A4 Int)) {k : Int} (h : 0 ≤ k ∧ k < 8) : rd (SE R xs) k = (LS R xs).any (nm k == ·) := by
  rcases k8 h with rfl | rfl | rfl | rfl | rfl | rfl | rfl | rfl <;> rfl
include hp hR in
theorem l101_eq (m : List Module) (hm : m = R.map rowM) : loopO (fun x : ((A8 Bool) × Int × Int) => hansomlaw39_PoolNames_l101 (GV R) (OM R R).2 x.1 l n m (MD R R) (LS R R) x.2.1 x.2.2) (({ a0 := false, a1 := false, a2 := false, a3 := false, a4 := false, a5 := false, a6 := false, a7 := false } : (A8 Bool)), 0, 0) = some (.inr ((LS R R).length : Int)) := by
  refine pre_loop R (fun xs => (SE R xs, ((LS R xs).length : Int), (xs.length : Int))) (fun _ => True) _ (fun xs v ys e _ => .inl ⟨?_, trivial⟩) (fun _ => ?_) trivial
  · have hl := len_lt e
    have hll := LS_len R xs
    have hz := idx_pre l R hp e
    show hansomlaw39_PoolNames_l101 (GV R) (OM R R).2 (SE R xs) l n m (MD R R) (LS R R) ((LS R xs).length : Int) (xs.length : Int) = _
    unfold hansomlaw39_PoolNames_l101
    have hk := ky_in v.a0
    rw [if_pos (by rw [hm, List.length_map]; simpa using hl), hz, Option.bind_some, ky_and, idx_rd _ hk, rd_GV _ hk, Option.bind_some, len_snoc xs v (by omega)]
    have hls := LS_snoc R xs v
    have same : lo1 R (LS R xs) v = true → LS R (xs ++ [v]) = LS R xs ∧ SE R (xs ++ [v]) = SE R xs := by
      intro h1
      have h2 : LS R (xs ++ [v]) = LS R xs := by rw [hls]; unfold stepL; rw [h1, if_pos rfl]
      exact ⟨h2, by unfold SE; rw [h2]⟩
    by_cases d : fi (P_ (ky v.a0)) R ≥ 0
    · have hg : gB R (ky v.a0) = true := by unfold gB; simpa using d
      obtain ⟨a, b⟩ := same (by unfold lo1; rw [hg]; rfl)
      rw [if_pos (by simpa using d), a, b]
    · have hg : gB R (ky v.a0) = false := by unfold gB; simp; omega
      rw [if_neg (by simpa using d), idx_rd _ hk, Option.bind_some]
      by_cases d2 : rd (OM R R).2 (ky v.a0) ≥ 0
      · have hi : inMade R (ky v.a0) = true := by unfold inMade; simpa using d2
        obtain ⟨a, b⟩ := same (by unfold lo1; rw [hi]; simp)
        rw [if_pos (by simpa using d2), a, b]
      · have hi : inMade R (ky v.a0) = false := by unfold inMade; simp; omega
        rw [if_neg (by simpa using d2), idx_rd _ hk, Option.bind_some, rd_SE R _ hk, nm_of_ky]
        cases ha : (LS R xs).any (fun z => nm v.a0 == z) with
        | true =>
          obtain ⟨a, b⟩ := same (by unfold lo1; rw [ha]; simp)
          rw [if_pos rfl, a, b]
        | false =>
          have h2 : LS R (xs ++ [v]) = LS R xs ++ [nm v.a0] := by rw [hls]; unfold stepL lo1; rw [ha, hg, hi]; simp
          have h3 : SE R (xs ++ [v]) = A8.set (SE R xs) (ky v.a0) true := by
            apply a8_ext
            intro k hk2
            rw [rd_SE R _ hk2, rd_set _ _ hk hk2, rd_SE R _ hk2, h2, List.any_append]
            simp only [List.any_cons, List.any_nil, Bool.or_false]
            rw [nm_eq, ky_id hk2]
            by_cases e2 : k = ky v.a0
            · rw [if_pos e2, decide_eq_true e2, Bool.or_true]
            · rw [if_neg e2, decide_eq_false e2, Bool.or_false]
          obtain ⟨t, ht⟩ := LS_pre R (xs ++ [v]) ys
          rw [show (xs ++ [v]) ++ ys = R from by rw [e]; simp, h2] at ht
          have hlt : (LS R xs).length < (LS R R).length := by
            have := congrArg List.length ht
            simp only [List.length_append, List.length_cons, List.length_nil] at this
            omega
          have hix : idx (LS R R) ((LS R xs).length : Int) = some (nm v.a0) := idx_mid (ys := t) (by rw [ht]; simp)
          rw [if_neg (by simp), Option.bind_some, if_neg (by simp; omega), hix, Option.bind_some, name_eq, Option.bind_some, nm_of_ky, if_neg (by simp), h3, h2, len_snoc (LS R xs) (nm v.a0) (by omega)]
  · show hansomlaw39_PoolNames_l101 (GV R) (OM R R).2 (SE R R) l n m (MD R R) (LS R R) ((LS R R).length : Int) (R.length : Int) = _
    unfold hansomlaw39_PoolNames_l101
    rw [if_neg (by rw [hm]; simp)]
end
theorem poolNames_true (l : List (A4 Int)) (n : Int) (w0 : wfL (A4.wf (wfI .i64)) l) (w1 : wfI .i64 n) : hansomlaw39_PoolNames l n = some true := by
  have hp : ∃ r, l = l.take 5 ++ r := ⟨l.drop 5, by simp⟩
  have hR : (l.take 5).length ≤ 5 := by rw [List.length_take]; omega
  unfold hansomlaw39_PoolNames
  rw [mods_eq l w0.1, Option.bind_some]
  generalize l.take 5 = R at hp hR
  have hk := ky_in n
  rw [l10_eq l n R hp hR, Option.bind_some]
  simp only
  rw [l39_eq l n R hp hR, Option.bind_some, made_eq R hR, Option.bind_some]
  simp only
  rw [if_neg (by rw [MD_len]; simp), twice_eq R hR, Option.bind_some, if_neg (by simp), l76_eq l n R hR, Option.bind_some]
  simp only
  rw [lost_eq R hR, Option.bind_some, l101_eq l n R hp hR _ rfl, Option.bind_some]
  simp only
  rw [name_eq, Option.bind_some, ky_and, nm_of_ky, idx_rd _ hk, rd_GV _ hk, idx_rd _ hk]
  have awk : hansomlaw39_awake = some true := rfl
  by_cases d : fi (P_ (ky n)) R ≥ 0
  · rw [find_given R hR n d]
    simp only [Option.bind_some]
    rw [if_pos (by simpa using d), awk]
    simp
  · obtain ⟨j, h1, h2⟩ := find_made R hR n d
    rw [h1]
    simp only [Option.bind_some]
    rw [if_neg (by simpa using d), awk]
    simp only [Option.bind_some, if_true, beq_self_eq_true]
    have hi : decide (rd (OM R R).2 (ky n) ≥ 0) = inMade R (ky n) := rfl
    rw [hi]
    cases hm : inMade R (ky n) with
    | true =>
      obtain ⟨z, hz, hn⟩ := h2 hm
      simp only [if_true, beq_self_eq_true, Bool.not_true, Bool.false_eq_true, if_false, hz, Option.bind_some, hn]
    | false => rfl
end Go.Es.Pln
