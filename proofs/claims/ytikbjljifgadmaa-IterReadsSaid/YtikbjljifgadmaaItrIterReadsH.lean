/- The law IterReads in plain Lean. No condition. -/
import Derived.Test.YtikbjljifgadmaaItrH
set_option linter.unusedVariables false
set_option linter.unusedSimpArgs false
set_option maxHeartbeats 1000000
set_option maxRecDepth 100000
namespace Go.Es.Itr
theorem and_u16 {x : Int} (h0 : 0 ≤ x) (h1 : x ≤ 65535) : bitsOp .and .u16 x 4095 = x % 4096 := by
  have e1 : (BitVec.ofInt 16 (4095 : Int)).toNat = 2 ^ 12 - 1 := by decide
  have e2 : (BitVec.ofInt 16 x).toNat = x.toNat := by rw [BitVec.toNat_ofInt]; omega
  have e3 : bitsOp .and .u16 x 4095 = IntKind.wrap .u16 (((BitVec.ofInt 16 x &&& BitVec.ofInt 16 (4095 : Int)).toNat : Nat) : Int) := rfl
  rw [e3, BitVec.toNat_and, e1, Nat.and_two_pow_sub_one_eq_mod, e2, wrapu16 (by omega) (by omega)]
  omega
theorem iterReads_true (l : List D) (seg off : Int) (hl : wfR Block.d Block.wf l) (hseg : wfI .i64 seg) (hoff : wfI .u16 off) : hansomlaw24_IterReads l seg off = some true := by
  obtain ⟨bs, rfl, hbl, hbw⟩ := hl
  obtain ⟨f0, f1⟩ := wfI_u16.1 hoff
  have hcap : cap 2 = 3456 := rfl
  unfold hansomlaw24_IterReads
  rw [and_u16 f0 f1, show bitsOp .and .i64 seg 511 = seg % 512 from and_mask seg 9 (by omega), wrap64 (n := seg % 512 + 1) (by omega) (by omega)]
  obtain ⟨X, want, hloop, xs, rfl, hxl, hxn, rfl⟩ := fold_loop2 (n := min bs.length 4) (f := fun x : List D × List UInt8 × Int => hansomlaw24_IterReads_l8 x.1 (bs.map Block.d) seg off x.2.1 x.2.2)
    (fun i X want => ∃ xs : List Block, X = xs.map Block.d ∧ xs.length = i ∧ (∀ x ∈ xs, Nice 2 x) ∧ want = b2s (xs.flatMap (sOf 2))) (by
      rintro X want i hi ⟨xs, rfl, hxl, hxn, rfl⟩
      have hib : i < bs.length := by omega
      obtain ⟨x, hx, hn⟩ := near_spec 2 (by omega) 64 (by omega) bs[i] (hbw _ (List.getElem_mem hib))
      have hg := good_of (by omega) hn
      have hgb := hg.bound
      have hfl := flat_len (l := xs) (g := sOf 2) (M := 3456) (fun b hb => by have := (good_of (by omega) (hxn b hb)).bound; omega)
      simp only
      unfold hansomlaw24_IterReads_l8
      rw [List.length_map, idx_d bs hib]
      simp only [show ((i : Int) < (bs.length : Int)) from by omega, show ((i : Int) < 4) from by omega, decide_true, if_true, Option.bind_some, ofD_d]
      rw [show (3 : Int) = ((2 : Nat) : Int) + 1 from rfl, hx, Option.bind_some, grow_eq (by simp only [List.length_map, List.length_cons, List.length_nil]; omega) (by simp only [List.length_map, List.length_cons, List.length_nil]; omega), Option.bind_some]
      have e1 : xs.map Block.d ++ [Block.d x] = (xs ++ [x]).map Block.d := by simp
      rw [e1, idx_d (xs ++ [x]) (by simp; omega)]
      simp only [Option.bind_some, ofD_d]
      have e2 : (xs ++ [x])[i]'(by simp; omega) = x := by subst hxl; simp
      rw [e2, hg.ref 64 (by omega), Option.bind_some, catS_eq (by simp only [b2s_length]; omega), wrapS (by omega)]
      refine ⟨_, _, rfl, xs ++ [x], rfl, by simp [hxl], fun c hc => ?_, by rw [List.flatMap_append, List.flatMap_singleton, b2s_append]⟩
      rcases List.mem_append.1 hc with hc | hc
      · exact hxn c hc
      · rw [List.mem_singleton] at hc; subst hc; exact hn) (by
      rintro X want _
      simp only
      unfold hansomlaw24_IterReads_l8
      rw [List.length_map]
      by_cases h3 : bs.length ≤ 4
      · simp only [show ¬ (((min bs.length 4 : Nat) : Int) < (bs.length : Int)) from by omega, decide_false, Bool.false_eq_true, if_false]
      · simp only [show (((min bs.length 4 : Nat) : Int) < (bs.length : Int)) from by omega, show ¬ (((min bs.length 4 : Nat) : Int) < 4) from by omega, decide_true, decide_false, Bool.false_eq_true, if_true, if_false])
    (a0 := ([] : List D)) (b0 := ([] : List UInt8)) ⟨[], rfl, rfl, (fun c hc => by cases hc), by simp [b2s]⟩
  rw [hloop, Option.bind_some]
  simp only
  have hx4 : xs.length ≤ 4 := by omega
  generalize hsg : seg % 512 + 1 = sg at *
  generalize hof : off % 4096 = of at *
  have s0 : 1 ≤ sg := by omega
  have s1 : sg ≤ 512 := by omega
  have o0 : 0 ≤ of := by omega
  have o1 : of ≤ 4095 := by omega
  have hwf : ∀ c ∈ xs.flatMap (pOf 2), wfI .u8 c := fun c hc => by
    obtain ⟨x, hx, hc⟩ := List.mem_flatMap.1 hc
    exact pOf_wf 2 (by omega) x (hxn x hx) c hc
  have hpl := flat_len (l := xs) (g := pOf 2) (M := 176) (fun b hb => by have := (good_of (by omega) (hxn b hb)).plen; omega)
  have hpl4 : xs.length * 176 ≤ 4 * 176 := Nat.mul_le_mul_right _ hx4
  have hc4 : xs.length * cap 2 ≤ 4 * 3456 := by rw [hcap]; exact Nat.mul_le_mul_right _ hx4
  rw [record_spec (n := 2) (by omega) (by omega) o0 (by omega) xs hx4 hxn, Option.bind_some]
  simp only [List.length_map]
  have hfull : loopO (gl sg of) (⟨xs.flatMap (pOf 2), 0⟩, []) = some (xs.flatMap (sOf 2), ⟨[], 0⟩) := by
    have := gl_many (n := 2) (by omega) (sg := sg) o0 o1 xs [] [] hxn (by simp only [List.length_nil]; omega)
    rw [List.append_nil] at this
    rw [this, gl_end]; simp
  have g1 := get_head (by omega) (by omega) o0 (by omega) _ hwf (by omega) hfull (.inr rfl)
  rw [g1, Option.bind_some]
  by_cases hne : xs = []
  · subst hne
    simp [hansomlaw24_awake]
  have hpos : 0 < xs.length := List.length_pos_iff.2 hne
  have hsne : xs.flatMap (sOf 2) ≠ [] := by
    obtain ⟨x, r, rfl⟩ := List.exists_cons_of_ne_nil hne
    have := (good_of (n := 2) (by omega) (hxn x (by simp))).pos
    intro h
    have := congrArg List.length h
    simp only [List.flatMap_cons, List.length_append, List.length_nil] at this
    omega
  have hpne : xs.flatMap (pOf 2) ≠ [] := by
    obtain ⟨x, r, rfl⟩ := List.exists_cons_of_ne_nil hne
    have := List.length_pos_iff.2 (pOf_ne (n := 2) (by omega) (hxn x (by simp)))
    intro h
    have := congrArg List.length h
    simp only [List.flatMap_cons, List.length_append, List.length_nil] at this
    omega
  have hil := ix_len sg
  have hbl : 0 < (ix sg ++ (le of 2 ++ xs.flatMap (pOf 2))).length := by rw [List.length_append]; omega
  have hbl2 : (ix sg ++ (le of 2 ++ xs.flatMap (pOf 2))).length ≤ 1000 := by simp only [List.length_append, le_length]; omega
  simp only [show ((xs.length : Int) == 0) = false from by rw [beq_eq_false_iff_ne]; omega, show (((ix sg ++ (le of 2 ++ xs.flatMap (pOf 2))).length : Int) == 0) = false from by rw [beq_eq_false_iff_ne]; omega, Bool.false_eq_true, if_false]
  rw [wrap64 (by omega) (by omega), show (((ix sg ++ (le of 2 ++ xs.flatMap (pOf 2))).length : Int) - 1) = (((ix sg ++ (le of 2 ++ xs.flatMap (pOf 2))).length - 1 : Nat) : Int) by omega, cut_to _ (by omega), Option.bind_some]
  rw [← List.dropLast_eq_take, List.dropLast_append_of_ne_nil (by simp [hpne]), List.dropLast_append_of_ne_nil hpne]
  -- a byte less
  obtain ⟨cs, c, rfl⟩ : ∃ cs c, xs = cs ++ [c] := ⟨xs.dropLast, xs.getLast hne, (List.dropLast_concat_getLast hne).symm⟩
  have hcn := hxn c (by simp)
  have hcp := pOf_ne (n := 2) (by omega) hcn
  have hdrop : ((cs ++ [c]).flatMap (pOf 2)).dropLast = cs.flatMap (pOf 2) ++ (pOf 2 c).dropLast := by
    rw [List.flatMap_append, List.flatMap_singleton, List.dropLast_append_of_ne_nil hcp]
  rw [List.length_append, List.length_singleton] at hx4 hc4
  have hfl := flat_len (l := cs) (g := sOf 2) (M := 3456) (fun b hb => by have := (good_of (n := 2) (by omega) (hxn b (by simp [hb]))).bound; omega)
  have hcut : ∃ acc, loopO (gl sg of) (⟨((cs ++ [c]).flatMap (pOf 2)).dropLast, 0⟩, []) = some (acc, ⟨[], 2⟩) := by
    rw [hdrop, gl_many (n := 2) (by omega) o0 o1 cs _ [] (fun x hx => hxn x (by simp [hx])) (by rw [Nat.add_mul] at hc4; simp only [List.length_nil]; omega)]
    obtain ⟨y, hy⟩ := take_cut 2 (by omega) c hcn 64 1 (by omega) (by omega)
    rw [show ((1 : Nat) : Int) = 1 from rfl] at hy
    by_cases hd : (pOf 2 c).dropLast = []
    · exfalso
      have hg := good_of (n := 2) (by omega) hcn
      have hl : 2 ≤ (pOf 2 c).length := by
        cases hcn with
        | leaf _ _ t0 t1 hb h1 h6 hu => rw [put_leaf hg hb t0 t1 h6]; simp [le]
        | node m _ bs t0 t1 hB hb h1 h3 h => rw [put_node hg hb t0 t1 hB h1 h3 (by omega) h]; simp [le]
      have := congrArg List.length hd
      rw [List.length_dropLast, List.length_nil] at this
      omega
    · exact ⟨_, gl_err _ _ hd hy⟩
  obtain ⟨acc, hcut⟩ := hcut
  have g2 := get_head (by omega) (by omega) o0 (by omega) _ (fun c hc => hwf c ((List.dropLast_sublist _).subset hc)) (by rw [List.length_dropLast]; omega) hcut (.inl (by decide))
  rw [g2, Option.bind_some]
  -- a byte more
  rw [grow_eq (by simp only [List.length_nil]; omega) (by simp only [List.length_nil]; omega), Option.bind_some, List.nil_append, grow_eq (by simp only [List.length_cons, List.length_nil]; omega) (by simp only [List.length_cons, List.length_nil]; omega), Option.bind_some,
    List.append_assoc, List.append_assoc]
  have hmore : ∃ acc, loopO (gl sg of) (⟨(cs ++ [c]).flatMap (pOf 2) ++ [1], 0⟩, []) = some (acc, ⟨[], 2⟩) := by
    rw [gl_many (n := 2) (by omega) o0 o1 (cs ++ [c]) _ [] hxn (by rw [List.length_append, List.length_singleton]; simp only [List.length_nil]; omega)]
    obtain ⟨y, hy⟩ := take_bad [1] (by simp) 63
    exact ⟨_, gl_err _ _ (by simp) hy⟩
  obtain ⟨acc3, hmore⟩ := hmore
  have g3 := get_head (by omega) (by omega) o0 (by omega) _ (fun c hc => by
    rcases List.mem_append.1 hc with hc | hc
    · exact hwf c hc
    · rw [List.mem_singleton] at hc; subst hc; exact wfI_u8.2 (by omega)) (by simp only [List.length_append, List.length_singleton] at hpl hpl4 ⊢; omega) hmore (.inl (by decide))
  rw [g3, Option.bind_some, ref_Index_spec, Option.bind_some]
  -- no segment
  have i0 : ix 0 = [0] := by decide
  rw [i0, catS_eq (by simp [b2s]), Option.bind_some]
  obtain ⟨x0, r0, hx0⟩ : ∃ x0 r0, cs ++ [c] = x0 :: r0 := by
    cases cs with
    | nil => exact ⟨c, [], rfl⟩
    | cons a r => exact ⟨a, r ++ [c], rfl⟩
  have hx0n : Nice 2 x0 := hxn x0 (by rw [hx0]; simp)
  have hg0 := good_of (n := 2) (by omega) hx0n
  have e0 : (cs ++ [c])[0]'(by simp) = x0 := by simp [hx0]
  have hp0 := hg0.plen
  have hi0 : idx ((cs ++ [c]).map Block.d) 0 = some (Block.d x0) := by
    have := idx_d (cs ++ [c]) (i := 0) (by simp)
    rw [e0] at this
    exact this
  rw [hi0, Option.bind_some, ofD_d, Option.bind_some, hg0.refput 64 (by omega), Option.bind_some, catS_eq (by simp only [List.length_append, b2s_length, List.length_cons, List.length_nil]; omega), Option.bind_some]
  have e4 : s2b (b2s [(0 : Int)] ++ [0, 0] ++ b2s (pOf 2 x0)) = ix 0 ++ (le 0 2 ++ pOf 2 x0) := by
    rw [s2b_append, s2b_b2s (pOf_wf 2 (by omega) x0 hx0n)]; rfl
  have h4 : loopO (gl 0 0) (⟨pOf 2 x0, 0⟩, []) = some (sOf 2 x0, ⟨[], 0⟩) := by
    have := gl_many (n := 2) (by omega) (sg := 0) (of := 0) (by omega) (by omega) [x0] [] [] (fun x hx => by rw [List.mem_singleton] at hx; subst hx; exact hx0n) (by simp only [List.length_nil, List.length_cons]; omega)
    rw [List.append_nil, List.flatMap_singleton, List.flatMap_singleton, List.nil_append] at this
    rw [this, gl_end]
  have g4 := get_head (sg := 0) (of := 0) (by omega) (by omega) (by omega) (by omega) _ (pOf_wf 2 (by omega) x0 hx0n) (by omega) h4 (.inr rfl)
  rw [e4, g4, Option.bind_some]
  simp only [hansomlaw24_awake, Option.bind_some, if_true, beq_self_eq_true, ne_eq, not_true_eq_false, if_false, show ¬ (sg < 1) from by omega, hsne, or_self, show ¬ ((2 : Int) = 0) from by omega, not_false_eq_true, show ((0 : Int) < 1) from by omega, true_or]
end Go.Es.Itr
