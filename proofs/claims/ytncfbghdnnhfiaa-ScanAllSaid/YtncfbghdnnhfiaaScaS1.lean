/- The interpreter answers as plain Lean does: part 2. No condition. -/
import Derived.Test.YtncfbghdnnhfiaaScaF
import Derived.Test.YtncfbghdnnhfiaaScaP
import Derived.KernelRfl
import Derived.Test.YtncfbghdnnhfiaaScaG
set_option linter.unusedVariables false
set_option linter.unusedSimpArgs false
set_option maxRecDepth 100000
set_option maxHeartbeats 4000000
namespace Go.Es.Sca
def hansomref05_prefix_Q (b_ : Int) (r : Bool) (p : Out × St) : Prop := (∀ i, p.1 ≠ .exit i) ∧ finF F57 [.y b_] p.2 = some (.b r, [.y b_])
theorem hansomref05_prefix_ok (b_ : Int) (r : Bool) (h : hansomref05_prefix b_ = some r) : Runs L F57.body ⟨tmOf [.y b_] 0, updW (fun _ => none) []⟩ (hansomref05_prefix_Q b_ r) := by
 unfold hansomref05_prefix at h
 refine Sq <| Ro <| Rc 1 [vb false] <| Rk <| Sq <| Ro <| Rc 3 [vy b_, vb (b_ == 38), vb (b_ == 38)] ?_
 cases hb_1 : ((b_ == 38) : Bool) with
 | true =>
  replace h := ite_t hb_1 h
  refine Rc 24 [vn, vn, vb true, vb true, vn, vn, vb true, vb true, vn, vn, vb true, vb true, vn, vn, vb true, vb true, vn, vn, vb true, vb true, vn, vn, vb true, vb true] <| Rk <| Runs.ret ?_
  cases h
  exact Fq
 | false =>
  replace h := ite_f hb_1 h
  refine Rc 4 [vy b_, vb (b_ == 46), vb (b_ == 46), vb (b_ == 46)] ?_
  cases hb_2 : ((b_ == 46) : Bool) with
  | true =>
   replace h := ite_t hb_2 h
   refine Rc 20 [vn, vn, vb true, vb true, vn, vn, vb true, vb true, vn, vn, vb true, vb true, vn, vn, vb true, vb true, vn, vn, vb true, vb true] <| Rk <| Runs.ret ?_
   cases h
   exact Fq
  | false =>
   replace h := ite_f hb_2 h
   refine Rc 4 [vy b_, vb (b_ == 54), vb (b_ == 54), vb (b_ == 54)] ?_
   cases hb_3 : ((b_ == 54) : Bool) with
   | true =>
    replace h := ite_t hb_3 h
    refine Rc 16 [vn, vn, vb true, vb true, vn, vn, vb true, vb true, vn, vn, vb true, vb true, vn, vn, vb true, vb true] <| Rk <| Runs.ret ?_
    cases h
    exact Fq
   | false =>
    replace h := ite_f hb_3 h
    refine Rc 4 [vy b_, vb (b_ == 62), vb (b_ == 62), vb (b_ == 62)] ?_
    cases hb_4 : ((b_ == 62) : Bool) with
    | true =>
     replace h := ite_t hb_4 h
     refine Rc 12 [vn, vn, vb true, vb true, vn, vn, vb true, vb true, vn, vn, vb true, vb true] <| Rk <| Runs.ret ?_
     cases h
     exact Fq
    | false =>
     replace h := ite_f hb_4 h
     refine Rc 4 [vy b_, vb (b_ == 240), vb (b_ == 240), vb (b_ == 240)] ?_
     cases hb_5 : ((b_ == 240) : Bool) with
     | true =>
      replace h := ite_t hb_5 h
      refine Rc 8 [vn, vn, vb true, vb true, vn, vn, vb true, vb true] <| Rk <| Runs.ret ?_
      cases h
      exact Fq
     | false =>
      replace h := ite_f hb_5 h
      refine Rc 4 [vy b_, vb (b_ == 242), vb (b_ == 242), vb (b_ == 242)] ?_
      cases hb_6 : ((b_ == 242) : Bool) with
      | true =>
       replace h := ite_t hb_6 h
       refine Rc 4 [vn, vn, vb true, vb true] <| Rk <| Runs.ret ?_
       cases h
       exact Fq
      | false =>
       replace h := ite_f hb_6 h
       refine Rc 4 [vy b_, vb (b_ == 243), vb (b_ == 243), vb (b_ == 243)] <| Rk <| Runs.ret ?_
       cases h
       exact Fq
theorem hansomref05_prefix_L (b_ : Int) (r : Bool) (h : hansomref05_prefix b_ = some r) : L 57 [.y b_] = some (.b r, [.y b_]) := by
 obtain ⟨p, ⟨hne, hf⟩, hr⟩ := hansomref05_prefix_ok b_ r h
 obtain ⟨k, hk⟩ := run_of (F := F57) (args := [.y b_]) (ap := [.y b_]) (bx0 := updW (fun _ => none) []) rfl rfl (by kernel_rfl) ⟨p, ⟨hne, hf⟩, hr⟩
 exact lim_run (k := k) rfl hk
def hansomref04_word_h8 (s0 : (List UInt8)) (n1 : Int) (at5 : Int) (k6 : Int) : St := ⟨tab [(0, .d (.str s0)), (1, .i n1), (5, .i at5), (6, .i k6)], tabB []⟩
def hansomref04_word_h19 (s0 : (List UInt8)) (n1 : Int) (at5 : Int) (k6 : Int) : St := ⟨tab [(0, .d (.str s0)), (1, .i n1), (5, .i at5), (6, .i k6)], tabB []⟩
def hansomref04_word_h28 (s0 : (List UInt8)) (n1 : Int) (at5 : Int) (k6 : Int) : St := ⟨tab [(0, .d (.str s0)), (1, .i n1), (5, .i at5), (6, .i k6)], tabB []⟩
def hansomref04_word_h30 (s0 : (List UInt8)) (at5 : Int) : St := ⟨tab [(0, .d (.str s0)), (5, .i at5)], tabB []⟩
def hansomref04_word_h34 (s0 : (List UInt8)) (at5 : Int) (end7 : Int) : St := ⟨tab [(0, .d (.str s0)), (5, .i at5), (7, .i end7)], tabB []⟩
def hansomref04_word_h43 (s0 : (List UInt8)) (at5 : Int) (end7 : Int) : St := ⟨tab [(0, .d (.str s0)), (5, .i at5), (7, .i end7)], tabB []⟩
def hansomref04_word_Q (s_ : (List UInt8)) (n_ : Int) (r : (List UInt8)) (p : Out × St) : Prop := (∀ i, p.1 ≠ .exit i) ∧ finF F53 [.d (.str s_), .i n_] p.2 = some (.d (.str r), [.d (.str s_), .i n_])
def hansomref04_word_P19 (s_ : (List UInt8)) (n_ : Int) (s0 : (List UInt8)) (n1 : Int) (k6 : Int) (e : Int) (p : Out × St) : Prop := p.1 = .exit 2 ∧ ∃ g : Unit, Canon [] [0, 1, 5, 6] [] p.2 (hansomref04_word_h28 s0 n1 e k6)
def hansomref04_word_P8 (s_ : (List UInt8)) (n_ : Int) (s0 : (List UInt8)) (n1 : Int) (e : Int) (p : Out × St) : Prop := p.1 = .exit 0 ∧ ∃ g : Unit, Canon [] [0, 5] [] p.2 (hansomref04_word_h30 s0 e)
def hansomref04_word_P34 (s_ : (List UInt8)) (n_ : Int) (s0 : (List UInt8)) (at5 : Int) (e : Int) (p : Out × St) : Prop := p.1 = .exit 4 ∧ ∃ g : Unit, Canon [] [0, 5, 7] [] p.2 (hansomref04_word_h43 s0 at5 e)
theorem hansomref04_word_l19_ok (s_ : (List UInt8)) (n_ : Int) (s0 : (List UInt8)) (n1 : Int) (at5 : Int) (k6 : Int) (r : (Lp Int Int)) (h : hansomref04_word_l19 s0 n1 at5 k6 = some r) : Runs L F53l19 (hansomref04_word_h19 s0 n1 at5 k6) (LQ [] [0, 1, 5, 6] [] (fun (x : Int) (g : Unit) => hansomref04_word_h19 s0 n1 x k6) (hansomref04_word_P19 s_ n_ s0 n1 k6) r) := by
 unfold hansomref04_word_l19 at h
 refine Sq <| Sq <| Ro <| Rc 2 [vi at5, ⟨.d (.str s0), []⟩] <| Rt (some 21) .lenS [] none [.d (.str s0)] (.i (s0.length : Int)) [] (cut_lenS _) <| Rc 2 [vb (decide (at5 < (s0.length : Int))), vb (decide (at5 < (s0.length : Int)))] ?_
 cases hb_3 : ((decide (at5 < (s0.length : Int))) : Bool) with
 | true =>
  replace h := ite_t hb_3 h
  refine Rc 2 [⟨.d (.str s0), []⟩, vi at5] ?_
  obtain ⟨z_1, hz_1, h⟩ := bind_s h
  refine Rt (some 26) .indexS [] none [.d (.str s0), .i at5] (.y (z_1.toNat : Int)) [] (cut_ixS hz_1) <| Rc 2 [vb ((z_1.toNat : Int) != 32), vb ((z_1.toNat : Int) != 32)] <| Rk ?_
  cases hb_4 : (((z_1.toNat : Int) != 32) : Bool) with
  | true =>
   replace h := ite_t hb_4 h
   refine Ct <| Runs.skip <| kS_nrm <| Runs.block <| Ro <| Rc 3 [vi at5, vi (IntKind.wrap .i64 (at5 + 1)), vi (IntKind.wrap .i64 (at5 + 1))] <| Rd <| kB_nrm ?_
   obtain rfl := sj h
   exact ⟨rfl, (), Cz⟩
  | false =>
   replace h := ite_f hb_4 h
   refine Cf <| Runs.exit <| kS_exit ?_
   obtain rfl := sj h
   exact ⟨nofun, rfl, (), Cz⟩
 | false =>
  replace h := ite_f hb_3 h
  refine Rc 5 [vn, vn, vn, vn, vb false] <| Rk <| Cf <| Runs.exit <| kS_exit ?_
  obtain rfl := sj h
  exact ⟨nofun, rfl, (), Cz⟩
theorem hansomref04_word_l8_ok (s_ : (List UInt8)) (n_ : Int) (s0 : (List UInt8)) (n1 : Int) (at5 : Int) (k6 : Int) (r : (Lp (Int × Int) Int)) (h : hansomref04_word_l8 s0 n1 at5 k6 = some r) : Runs L F53l8 (hansomref04_word_h8 s0 n1 at5 k6) (LQ [] [0, 1, 5, 6] [] (fun (x : (Int × Int)) (g : Unit) => hansomref04_word_h8 s0 n1 x.1 x.2) (hansomref04_word_P8 s_ n_ s0 n1) r) := by
 unfold hansomref04_word_l8 at h
 refine Sq <| Sq <| Ro <| Rc 4 [vi k6, vi n1, vb (decide (k6 < n1)), vb (decide (k6 < n1))] ?_
 cases hb_1 : ((decide (k6 < n1)) : Bool) with
 | true =>
  replace h := ite_t hb_1 h
  refine Rc 2 [vi at5, ⟨.d (.str s0), []⟩] <| Rt (some 14) .lenS [] none [.d (.str s0)] (.i (s0.length : Int)) [] (cut_lenS _) <| Rc 2 [vb (decide (at5 < (s0.length : Int))), vb (decide (at5 < (s0.length : Int)))] <| Rk ?_
  cases hb_2 : ((decide (at5 < (s0.length : Int))) : Bool) with
  | true =>
   replace h := ite_t hb_2 h
   refine Ct <| Runs.skip <| kS_nrm <| Sq <| Runs.block <| Sq <| Runs.block ?_
   obtain ⟨e_1, he_1, h⟩ := bind_s h
   refine Runs.loop (fun x : Int => hansomref04_word_l19 s0 n1 x k6) (fun (x : Int) (g : Unit) => hansomref04_word_h19 s0 n1 x k6) (hansomref04_word_P19 s_ n_ s0 n1 k6) (fun x g r hr => hansomref04_word_l19_ok s_ n_ s0 n1 x k6  r hr) () he_1 Cz ?_
   rintro ⟨o, s⟩ hp
   obtain ⟨ho, g_1, hk_1⟩ := hp
   have ho' : o = .exit 2 := ho
   subst ho'
   refine kB_hit <| kS_nrm <| Runs.canon _ hk_1 <| Ro <| Rc 3 [vi e_1, vi (IntKind.wrap .i64 (e_1 + 1)), vi (IntKind.wrap .i64 (e_1 + 1))] <| Rd <| kB_nrm <| kS_nrm <| Ro <| Rc 3 [vi k6, vi (IntKind.wrap .i64 (k6 + 1)), vi (IntKind.wrap .i64 (k6 + 1))] <| Rd ?_
   obtain rfl := sj h
   exact ⟨rfl, (), Cz⟩
  | false =>
   replace h := ite_f hb_2 h
   refine Cf <| Runs.exit <| kS_exit ?_
   obtain rfl := sj h
   exact ⟨nofun, rfl, (), Cz⟩
 | false =>
  replace h := ite_f hb_1 h
  refine Rc 5 [vn, vn, vn, vn, vb false] <| Rk <| Cf <| Runs.exit <| kS_exit ?_
  obtain rfl := sj h
  exact ⟨nofun, rfl, (), Cz⟩
theorem hansomref04_word_l34_ok (s_ : (List UInt8)) (n_ : Int) (s0 : (List UInt8)) (at5 : Int) (end7 : Int) (r : (Lp Int Int)) (h : hansomref04_word_l34 s0 at5 end7 = some r) : Runs L F53l34 (hansomref04_word_h34 s0 at5 end7) (LQ [] [0, 5, 7] [] (fun (x : Int) (g : Unit) => hansomref04_word_h34 s0 at5 x) (hansomref04_word_P34 s_ n_ s0 at5) r) := by
 unfold hansomref04_word_l34 at h
 refine Sq <| Sq <| Ro <| Rc 2 [vi end7, ⟨.d (.str s0), []⟩] <| Rt (some 36) .lenS [] none [.d (.str s0)] (.i (s0.length : Int)) [] (cut_lenS _) <| Rc 2 [vb (decide (end7 < (s0.length : Int))), vb (decide (end7 < (s0.length : Int)))] ?_
 cases hb_1 : ((decide (end7 < (s0.length : Int))) : Bool) with
 | true =>
  replace h := ite_t hb_1 h
  refine Rc 2 [⟨.d (.str s0), []⟩, vi end7] ?_
  obtain ⟨z_1, hz_1, h⟩ := bind_s h
  refine Rt (some 41) .indexS [] none [.d (.str s0), .i end7] (.y (z_1.toNat : Int)) [] (cut_ixS hz_1) <| Rc 2 [vb ((z_1.toNat : Int) != 32), vb ((z_1.toNat : Int) != 32)] <| Rk ?_
  cases hb_2 : (((z_1.toNat : Int) != 32) : Bool) with
  | true =>
   replace h := ite_t hb_2 h
   refine Ct <| Runs.skip <| kS_nrm <| Runs.block <| Ro <| Rc 3 [vi end7, vi (IntKind.wrap .i64 (end7 + 1)), vi (IntKind.wrap .i64 (end7 + 1))] <| Rd <| kB_nrm ?_
   obtain rfl := sj h
   exact ⟨rfl, (), Cz⟩
  | false =>
   replace h := ite_f hb_2 h
   refine Cf <| Runs.exit <| kS_exit ?_
   obtain rfl := sj h
   exact ⟨nofun, rfl, (), Cz⟩
 | false =>
  replace h := ite_f hb_1 h
  refine Rc 5 [vn, vn, vn, vn, vb false] <| Rk <| Cf <| Runs.exit <| kS_exit ?_
  obtain rfl := sj h
  exact ⟨nofun, rfl, (), Cz⟩
theorem hansomref04_word_ok (s_ : (List UInt8)) (n_ : Int) (r : (List UInt8)) (h : hansomref04_word s_ n_ = some r) : Runs L F53.body ⟨tmOf [.d (.str s_), .i n_] 0, updW (fun _ => none) []⟩ (hansomref04_word_Q s_ n_ r) := by
 unfold hansomref04_word at h
 refine Sq <| Ro <| Rc 1 [⟨.d (.str ([] : List UInt8)), []⟩] <| Rk <| Sq <| Ro <| Rc 1 [vi 0] <| Rk <| Sq <| Sq <| Ro <| Rc 1 [vi 0] <| Rk <| Runs.block ?_
 obtain ⟨e_1, he_1, h⟩ := bind_s h
 refine Runs.loop (fun x : (Int × Int) => hansomref04_word_l8 s_ n_ x.1 x.2) (fun (x : (Int × Int)) (g : Unit) => hansomref04_word_h8 s_ n_ x.1 x.2) (hansomref04_word_P8 s_ n_ s_ n_) (fun x g r hr => hansomref04_word_l8_ok s_ n_ s_ n_ x.1 x.2  r hr) () he_1 Cz ?_
 rintro ⟨o, s⟩ hp
 obtain ⟨ho, g_1, hk_1⟩ := hp
 have ho' : o = .exit 0 := ho
 subst ho'
 refine kB_hit <| kS_nrm <| Runs.canon _ hk_1 <| Sq <| Ro <| Rc 2 [vi e_1, vi e_1] <| Rk <| Sq <| Runs.block ?_
 obtain ⟨e_2, he_2, h⟩ := bind_s h
 refine Runs.loop (fun x : Int => hansomref04_word_l34 s_ e_1 x) (fun (x : Int) (g : Unit) => hansomref04_word_h34 s_ e_1 x) (hansomref04_word_P34 s_ n_ s_ e_1) (fun x g r hr => hansomref04_word_l34_ok s_ n_ s_ e_1 x  r hr) () he_2 Cz ?_
 rintro ⟨o, s⟩ hp
 obtain ⟨ho, g_2, hk_2⟩ := hp
 have ho' : o = .exit 4 := ho
 subst ho'
 refine kB_hit <| kS_nrm <| Runs.canon _ hk_2 <| Sq <| Sq <| Ro <| Rc 2 [vi e_1, ⟨.d (.str s_), []⟩] <| Rt (some 48) .lenS [] none [.d (.str s_)] (.i (s_.length : Int)) [] (cut_lenS _) <| Rc 1 [vb (decide (e_1 ≥ (s_.length : Int)))] <| Rk ?_
 cases hb_1 : ((decide (e_1 ≥ (s_.length : Int))) : Bool) with
 | true =>
  replace h := ite_t hb_1 h
  refine Ct <| Sq <| Ro <| Rc 1 [⟨.d (.str ([] : List UInt8)), []⟩] <| Rk <| Runs.ret <| kS_ret ?_
  cases h
  exact Fq
 | false =>
  replace h := ite_f hb_1 h
  refine Cf <| Runs.skip <| kS_nrm <| Sq <| Ro <| Rc 3 [⟨.d (.str s_), []⟩, vi e_1, vi e_2] ?_
  obtain ⟨z_1, hz_1, h⟩ := bind_s h
  refine Rt (some 53) (.substr true true) [] none [.d (.str s_), .i e_1, .i e_2] (.d (.str z_1)) [] (cut_strTT hz_1) <| Rc 1 [⟨.d (.str z_1), []⟩] <| Rk <| Runs.ret ?_
  cases h
  exact Fq
theorem hansomref04_word_L (s_ : (List UInt8)) (n_ : Int) (r : (List UInt8)) (h : hansomref04_word s_ n_ = some r) : L 53 [.d (.str s_), .i n_] = some (.d (.str r), [.d (.str s_), .i n_]) := by
 obtain ⟨p, ⟨hne, hf⟩, hr⟩ := hansomref04_word_ok s_ n_ r h
 obtain ⟨k, hk⟩ := run_of (F := F53) (args := [.d (.str s_), .i n_]) (ap := [.d (.str s_), .i n_]) (bx0 := updW (fun _ => none) []) rfl rfl (by kernel_rfl) ⟨p, ⟨hne, hf⟩, hr⟩
 exact lim_run (k := k) rfl hk
def hansomref04_part_h8 (s0 : (List UInt8)) (mark1 : Int) (n2 : Int) (from7 : Int) (i8 : Int) : St := ⟨tab [(0, .d (.str s0)), (1, .y mark1), (2, .i n2), (7, .i from7), (8, .i i8)], tabB []⟩
def hansomref04_part_h35  : St := ⟨tab [], tabB []⟩
def hansomref04_part_Q (s_ : (List UInt8)) (mark_ : Int) (n_ : Int) (r : (List UInt8)) (p : Out × St) : Prop := (∀ i, p.1 ≠ .exit i) ∧ finF F50 [.d (.str s_), .y mark_, .i n_] p.2 = some (.d (.str r), [.d (.str s_), .y mark_, .i n_])
def hansomref04_part_P8 (s_ : (List UInt8)) (mark_ : Int) (n_ : Int) (s0 : (List UInt8)) (mark1 : Int) (e : ((List UInt8) ⊕ Unit)) (p : Out × St) : Prop := match e with
 | .inl x => p.1 = .ret ∧ finF F50 [.d (.str s_), .y mark_, .i n_] p.2 = some (.d (.str x), [.d (.str s_), .y mark_, .i n_])
 | .inr x => p.1 = .exit 0 ∧ ∃ g : Unit, Canon [] [] [] p.2 (hansomref04_part_h35)
theorem hansomref04_part_l8_ok (s_ : (List UInt8)) (mark_ : Int) (n_ : Int) (s0 : (List UInt8)) (mark1 : Int) (n2 : Int) (from7 : Int) (i8 : Int) (r : (Lp (Int × Int × Int) ((List UInt8) ⊕ Unit))) (h : hansomref04_part_l8 s0 mark1 n2 from7 i8 = some r) : Runs L F50l8 (hansomref04_part_h8 s0 mark1 n2 from7 i8) (LQ [] [0, 1, 2, 7, 8] [] (fun (x : (Int × Int × Int)) (g : Unit) => hansomref04_part_h8 s0 mark1 x.1 x.2.1 x.2.2) (hansomref04_part_P8 s_ mark_ n_ s0 mark1) r) := by
 unfold hansomref04_part_l8 at h
 refine Sq <| Sq <| Ro <| Rc 2 [vi i8, ⟨.d (.str s0), []⟩] <| Rt (some 11) .lenS [] none [.d (.str s0)] (.i (s0.length : Int)) [] (cut_lenS _) <| Rc 1 [vb (decide (i8 ≤ (s0.length : Int)))] <| Rk ?_
 cases hb_1 : ((decide (i8 ≤ (s0.length : Int))) : Bool) with
 | true =>
  replace h := ite_t hb_1 h
  refine Ct <| Runs.skip <| kS_nrm <| Sq <| Runs.block <| Sq <| Sq <| Ro <| Rc 2 [vi i8, ⟨.d (.str s0), []⟩] <| Rt (some 17) .lenS [] none [.d (.str s0)] (.i (s0.length : Int)) [] (cut_lenS _) <| Rc 2 [vb (decide (i8 < (s0.length : Int))), vb (decide (i8 < (s0.length : Int)))] ?_
  cases hb_2 : ((decide (i8 < (s0.length : Int))) : Bool) with
  | true =>
   replace h := ite_t hb_2 h
   refine Rc 2 [⟨.d (.str s0), []⟩, vi i8] ?_
   obtain ⟨z_1, hz_1, h⟩ := bind_s h
   refine Rt (some 22) .indexS [] none [.d (.str s0), .i i8] (.y (z_1.toNat : Int)) [] (cut_ixS hz_1) <| Rc 3 [vy mark1, vb ((z_1.toNat : Int) != mark1), vb ((z_1.toNat : Int) != mark1)] <| Rk ?_
   cases hb_3 : (((z_1.toNat : Int) != mark1) : Bool) with
   | true =>
    replace h := ite_t hb_3 h
    refine Ct <| Runs.exit <| kS_exit <| kB_hit <| kS_nrm <| Ro <| Rc 3 [vi i8, vi (IntKind.wrap .i64 (i8 + 1)), vi (IntKind.wrap .i64 (i8 + 1))] <| Rd ?_
    obtain rfl := sj h
    exact ⟨rfl, (), Cz⟩
   | false =>
    replace h := ite_f hb_3 h
    refine Cf <| Runs.skip <| kS_nrm <| Sq <| Sq <| Ro <| Rc 2 [vi n2, vb (n2 == 0)] <| Rk ?_
    cases hb_4 : ((n2 == 0) : Bool) with
    | true =>
     replace h := ite_t hb_4 h
     refine Ct <| Sq <| Ro <| Rc 3 [⟨.d (.str s0), []⟩, vi from7, vi i8] ?_
     obtain ⟨z_2, hz_2, h⟩ := bind_s h
     refine Rt (some 31) (.substr true true) [] none [.d (.str s0), .i from7, .i i8] (.d (.str z_2)) [] (cut_strTT hz_2) <| Rc 1 [⟨.d (.str z_2), []⟩] <| Rk <| Runs.ret <| kS_ret <| kB_ret <| kS_ret ?_
     obtain rfl := sj h
     exact ⟨nofun, rfl, (by kernel_rfl)⟩
    | false =>
     replace h := ite_f hb_4 h
     refine Cf <| Runs.skip <| kS_nrm <| Sq <| Ro <| Rc 3 [vi n2, vi (IntKind.wrap .i64 (n2 - 1)), vi (IntKind.wrap .i64 (n2 - 1))] <| Rk <| Ro <| Rc 3 [vi i8, vi (IntKind.wrap .i64 (i8 + 1)), vi (IntKind.wrap .i64 (i8 + 1))] <| Rd <| kB_nrm <| kS_nrm <| Ro <| Rc 3 [vi i8, vi (IntKind.wrap .i64 (i8 + 1)), vi (IntKind.wrap .i64 (i8 + 1))] <| Rd ?_
     obtain rfl := sj h
     exact ⟨rfl, (), Cz⟩
  | false =>
   replace h := ite_f hb_2 h
   refine Rc 6 [vn, vn, vn, vn, vn, vb false] <| Rk <| Cf <| Runs.skip <| kS_nrm <| Sq <| Sq <| Ro <| Rc 2 [vi n2, vb (n2 == 0)] <| Rk ?_
   cases hb_5 : ((n2 == 0) : Bool) with
   | true =>
    replace h := ite_t hb_5 h
    refine Ct <| Sq <| Ro <| Rc 3 [⟨.d (.str s0), []⟩, vi from7, vi i8] ?_
    obtain ⟨z_3, hz_3, h⟩ := bind_s h
    refine Rt (some 31) (.substr true true) [] none [.d (.str s0), .i from7, .i i8] (.d (.str z_3)) [] (cut_strTT hz_3) <| Rc 1 [⟨.d (.str z_3), []⟩] <| Rk <| Runs.ret <| kS_ret <| kB_ret <| kS_ret ?_
    obtain rfl := sj h
    exact ⟨nofun, rfl, (by kernel_rfl)⟩
   | false =>
    replace h := ite_f hb_5 h
    refine Cf <| Runs.skip <| kS_nrm <| Sq <| Ro <| Rc 3 [vi n2, vi (IntKind.wrap .i64 (n2 - 1)), vi (IntKind.wrap .i64 (n2 - 1))] <| Rk <| Ro <| Rc 3 [vi i8, vi (IntKind.wrap .i64 (i8 + 1)), vi (IntKind.wrap .i64 (i8 + 1))] <| Rd <| kB_nrm <| kS_nrm <| Ro <| Rc 3 [vi i8, vi (IntKind.wrap .i64 (i8 + 1)), vi (IntKind.wrap .i64 (i8 + 1))] <| Rd ?_
    obtain rfl := sj h
    exact ⟨rfl, (), Cz⟩
 | false =>
  replace h := ite_f hb_1 h
  refine Cf <| Runs.exit <| kS_exit ?_
  obtain rfl := sj h
  exact ⟨nofun, rfl, (), Cz⟩
theorem hansomref04_part_ok (s_ : (List UInt8)) (mark_ : Int) (n_ : Int) (r : (List UInt8)) (h : hansomref04_part s_ mark_ n_ = some r) : Runs L F50.body ⟨tmOf [.d (.str s_), .y mark_, .i n_] 0, updW (fun _ => none) []⟩ (hansomref04_part_Q s_ mark_ n_ r) := by
 unfold hansomref04_part at h
 refine Sq <| Ro <| Rc 1 [⟨.d (.str ([] : List UInt8)), []⟩] <| Rk <| Sq <| Ro <| Rc 1 [vi 0] <| Rk <| Sq <| Sq <| Ro <| Rc 1 [vi 0] <| Rk <| Runs.block ?_
 obtain ⟨e_1, he_1, h⟩ := bind_s h
 refine Runs.loop (fun x : (Int × Int × Int) => hansomref04_part_l8 s_ mark_ x.1 x.2.1 x.2.2) (fun (x : (Int × Int × Int)) (g : Unit) => hansomref04_part_h8 s_ mark_ x.1 x.2.1 x.2.2) (hansomref04_part_P8 s_ mark_ n_ s_ mark_) (fun x g r hr => hansomref04_part_l8_ok s_ mark_ n_ s_ mark_ x.1 x.2.1 x.2.2  r hr) () he_1 Cz ?_
 rintro ⟨o, s⟩ hp
 cases e_1 with
 | inl e_2 =>
  obtain ⟨ho, hf⟩ := hp
  have ho' : o = .ret := ho
  subst ho'
  refine kB_ret <| kS_ret ?_
  obtain rfl := sj h
  exact ⟨Out.ret_ne, hf⟩
 | inr e_3 =>
  obtain ⟨ho, g_1, hk_1⟩ := hp
  have ho' : o = .exit 0 := ho
  subst ho'
  refine kB_hit <| kS_nrm <| Runs.canon _ hk_1 <| Sq <| Ro <| Rc 1 [⟨.d (.str ([] : List UInt8)), []⟩] <| Rk <| Runs.ret ?_
  cases h
  exact Fq
theorem hansomref04_part_L (s_ : (List UInt8)) (mark_ : Int) (n_ : Int) (r : (List UInt8)) (h : hansomref04_part s_ mark_ n_ = some r) : L 50 [.d (.str s_), .y mark_, .i n_] = some (.d (.str r), [.d (.str s_), .y mark_, .i n_]) := by
 obtain ⟨p, ⟨hne, hf⟩, hr⟩ := hansomref04_part_ok s_ mark_ n_ r h
 obtain ⟨k, hk⟩ := run_of (F := F50) (args := [.d (.str s_), .y mark_, .i n_]) (ap := [.d (.str s_), .y mark_, .i n_]) (bx0 := updW (fun _ => none) []) rfl rfl (by kernel_rfl) ⟨p, ⟨hne, hf⟩, hr⟩
 exact lim_run (k := k) rfl hk
def hansomref04_Entry_Q (op_ : Int) (reg_ : Int) (r : (List UInt8)) (p : Out × St) : Prop := (∀ i, p.1 ≠ .exit i) ∧ finF F48 [.y op_, .i reg_] p.2 = some (.d (.str r), [.y op_, .i reg_])
theorem hansomref04_Entry_ok (op_ : Int) (reg_ : Int) (r : (List UInt8)) (h : hansomref04_Entry op_ reg_ = some r) : Runs L F48.body ⟨tmOf [.y op_, .i reg_] 0, updW (fun _ => none) []⟩ (hansomref04_Entry_Q op_ reg_ r) := by
 unfold hansomref04_Entry at h
 refine Sq <| Ro <| Rc 1 [⟨.d (.str ([] : List UInt8)), []⟩] <| Rk <| Sq <| Ro <| Rc 2 [vy op_, vi (IntKind.wrap .i64 op_)] ?_
 obtain ⟨r_1, hr_1, h⟩ := bind_s h
 have hc_1 := hansomref04_word_L ([65, 68, 68, 58, 69, 98, 58, 71, 98, 32, 65, 68, 68, 58, 69, 118, 58, 71, 118, 32, 65, 68, 68, 58, 71, 98, 58, 69, 98, 32, 65, 68, 68, 58, 71, 118, 58, 69, 118, 32, 65, 68, 68, 58, 65, 76, 58, 73, 98, 32, 65, 68, 68, 58, 65, 88, 58, 73, 118, 32, 80, 85, 83, 72, 58, 90, 115, 32, 80, 79, 80, 58, 90, 115, 32, 79, 82, 58, 69, 98, 58, 71, 98, 32, 79, 82, 58, 69, 118, 58, 71, 118, 32, 79, 82, 58, 71, 98, 58, 69, 98, 32, 79, 82, 58, 71, 118, 58, 69, 118, 32, 79, 82, 58, 65, 76, 58, 73, 98, 32, 79, 82, 58, 65, 88, 58, 73, 118, 32, 80, 85, 83, 72, 58, 90, 115, 32, 45, 32, 65, 68, 67, 58, 69, 98, 58, 71, 98, 32, 65, 68, 67, 58, 69, 118, 58, 71, 118, 32, 65, 68, 67, 58, 71, 98, 58, 69, 98, 32, 65, 68, 67, 58, 71, 118, 58, 69, 118, 32, 65, 68, 67, 58, 65, 76, 58, 73, 98, 32, 65, 68, 67, 58, 65, 88, 58, 73, 118, 32, 80, 85, 83, 72, 58, 90, 115, 32, 80, 79, 80, 58, 90, 115, 32, 83, 66, 66, 58, 69, 98, 58, 71, 98, 32, 83, 66, 66, 58, 69, 118, 58, 71, 118, 32, 83, 66, 66, 58, 71, 98, 58, 69, 98, 32, 83, 66, 66, 58, 71, 118, 58, 69, 118, 32, 83, 66, 66, 58, 65, 76, 58, 73, 98, 32, 83, 66, 66, 58, 65, 88, 58, 73, 118, 32, 80, 85, 83, 72, 58, 90, 115, 32, 80, 79, 80, 58, 90, 115, 32, 65, 78, 68, 58, 69, 98, 58, 71, 98, 32, 65, 78, 68, 58, 69, 118, 58, 71, 118, 32, 65, 78, 68, 58, 71, 98, 58, 69, 98, 32, 65, 78, 68, 58, 71, 118, 58, 69, 118, 32, 65, 78, 68, 58, 65, 76, 58, 73, 98, 32, 65, 78, 68, 58, 65, 88, 58, 73, 118, 32, 45, 32, 68, 65, 65, 32, 83, 85, 66, 58, 69, 98, 58, 71, 98, 32, 83, 85, 66, 58, 69, 118, 58, 71, 118, 32, 83, 85, 66, 58, 71, 98, 58, 69, 98, 32, 83, 85, 66, 58, 71, 118, 58, 69, 118, 32, 83, 85, 66, 58, 65, 76, 58, 73, 98, 32, 83, 85, 66, 58, 65, 88, 58, 73, 118, 32, 45, 32, 68, 65, 83, 32, 88, 79, 82, 58, 69, 98, 58, 71, 98, 32, 88, 79, 82, 58, 69, 118, 58, 71, 118, 32, 88, 79, 82, 58, 71, 98, 58, 69, 98, 32, 88, 79, 82, 58, 71, 118, 58, 69, 118, 32, 88, 79, 82, 58, 65, 76, 58, 73, 98, 32, 88, 79, 82, 58, 65, 88, 58, 73, 118, 32, 45, 32, 65, 65, 65, 32, 67, 77, 80, 58, 69, 98, 58, 71, 98, 32, 67, 77, 80, 58, 69, 118, 58, 71, 118, 32, 67, 77, 80, 58, 71, 98, 58, 69, 98, 32, 67, 77, 80, 58, 71, 118, 58, 69, 118, 32, 67, 77, 80, 58, 65, 76, 58, 73, 98, 32, 67, 77, 80, 58, 65, 88, 58, 73, 118, 32, 45, 32, 65, 65, 83, 32, 73, 78, 67, 58, 90, 118, 32, 73, 78, 67, 58, 90, 118, 32, 73, 78, 67, 58, 90, 118, 32, 73, 78, 67, 58, 90, 118, 32, 73, 78, 67, 58, 90, 118, 32, 73, 78, 67, 58, 90, 118, 32, 73, 78, 67, 58, 90, 118, 32, 73, 78, 67, 58, 90, 118, 32, 68, 69, 67, 58, 90, 118, 32, 68, 69, 67, 58, 90, 118, 32, 68, 69, 67, 58, 90, 118, 32, 68, 69, 67, 58, 90, 118, 32, 68, 69, 67, 58, 90, 118, 32, 68, 69, 67, 58, 90, 118, 32, 68, 69, 67, 58, 90, 118, 32, 68, 69, 67, 58, 90, 118, 32, 80, 85, 83, 72, 58, 90, 118, 32, 80, 85, 83, 72, 58, 90, 118, 32, 80, 85, 83, 72, 58, 90, 118, 32, 80, 85, 83, 72, 58, 90, 118, 32, 80, 85, 83, 72, 58, 90, 118, 32, 80, 85, 83, 72, 58, 90, 118, 32, 80, 85, 83, 72, 58, 90, 118, 32, 80, 85, 83, 72, 58, 90, 118, 32, 80, 79, 80, 58, 90, 118, 32, 80, 79, 80, 58, 90, 118, 32, 80, 79, 80, 58, 90, 118, 32, 80, 79, 80, 58, 90, 118, 32, 80, 79, 80, 58, 90, 118, 32, 80, 79, 80, 58, 90, 118, 32, 80, 79, 80, 58, 90, 118, 32, 80, 79, 80, 58, 90, 118, 32, 45, 32, 45, 32, 45, 32, 45, 32, 45, 32, 45, 32, 45, 32, 45, 32, 45, 32, 45, 32, 45, 32, 45, 32, 45, 32, 45, 32, 45, 32, 45, 32, 74, 79, 58, 74, 98, 32, 74, 78, 79, 58, 74, 98, 32, 74, 66, 58, 74, 98, 32, 74, 78, 66, 58, 74, 98, 32, 74, 90, 58, 74, 98, 32, 74, 78, 90, 58, 74, 98, 32, 74, 66, 69, 58, 74, 98, 32, 74, 65, 58, 74, 98, 32, 74, 83, 58, 74, 98, 32, 74, 78, 83, 58, 74, 98, 32, 74, 80, 58, 74, 98, 32, 74, 78, 80, 58, 74, 98, 32, 74, 76, 58, 74, 98, 32, 74, 71, 69, 58, 74, 98, 32, 74, 76, 69, 58, 74, 98, 32, 74, 71, 58, 74, 98, 32, 47, 65, 68, 68, 58, 69, 98, 58, 73, 98, 47, 79, 82, 58, 69, 98, 58, 73, 98, 47, 65, 68, 67, 58, 69, 98, 58, 73, 98, 47, 83, 66, 66, 58, 69, 98, 58, 73, 98, 47, 65, 78, 68, 58, 69, 98, 58, 73, 98, 47, 83, 85, 66, 58, 69, 98, 58, 73, 98, 47, 88, 79, 82, 58, 69, 98, 58, 73, 98, 47, 67, 77, 80, 58, 69, 98, 58, 73, 98, 32, 47, 65, 68, 68, 58, 69, 118, 58, 73, 118, 47, 79, 82, 58, 69, 118, 58, 73, 118, 47, 65, 68, 67, 58, 69, 118, 58, 73, 118, 47, 83, 66, 66, 58, 69, 118, 58, 73, 118, 47, 65, 78, 68, 58, 69, 118, 58, 73, 118, 47, 83, 85, 66, 58, 69, 118, 58, 73, 118, 47, 88, 79, 82, 58, 69, 118, 58, 73, 118, 47, 67, 77, 80, 58, 69, 118, 58, 73, 118, 32, 45, 32, 47, 65, 68, 68, 58, 69, 118, 58, 73, 115, 47, 45, 47, 65, 68, 67, 58, 69, 118, 58, 73, 115, 47, 83, 66, 66, 58, 69, 118, 58, 73, 115, 47, 45, 47, 83, 85, 66, 58, 69, 118, 58, 73, 115, 47, 45, 47, 67, 77, 80, 58, 69, 118, 58, 73, 115, 32, 84, 69, 83, 84, 58, 69, 98, 58, 71, 98, 32, 84, 69, 83, 84, 58, 69, 118, 58, 71, 118, 32, 88, 67, 72, 71, 58, 69, 98, 58, 71, 98, 32, 88, 67, 72, 71, 58, 69, 118, 58, 71, 118, 32, 77, 79, 86, 58, 69, 98, 58, 71, 98, 32, 77, 79, 86, 58, 69, 118, 58, 71, 118, 32, 77, 79, 86, 58, 71, 98, 58, 69, 98, 32, 77, 79, 86, 58, 71, 118, 58, 69, 118, 32, 47, 77, 79, 86, 58, 69, 118, 58, 83, 119, 47, 77, 79, 86, 58, 69, 118, 58, 83, 119, 47, 77, 79, 86, 58, 69, 118, 58, 83, 119, 47, 77, 79, 86, 58, 69, 118, 58, 83, 119, 47, 45, 47, 45, 47, 45, 47, 45, 32, 76, 69, 65, 58, 71, 118, 58, 77, 32, 47, 77, 79, 86, 58, 83, 119, 58, 69, 118, 47, 45, 47, 77, 79, 86, 58, 83, 119, 58, 69, 118, 47, 77, 79, 86, 58, 83, 119, 58, 69, 118, 47, 45, 47, 45, 47, 45, 47, 45, 32, 47, 80, 79, 80, 58, 69, 118, 47, 45, 47, 45, 47, 45, 47, 45, 47, 45, 47, 45, 47, 45, 32, 88, 67, 72, 71, 58, 65, 88, 58, 90, 118, 32, 88, 67, 72, 71, 58, 65, 88, 58, 90, 118, 32, 88, 67, 72, 71, 58, 65, 88, 58, 90, 118, 32, 88, 67, 72, 71, 58, 65, 88, 58, 90, 118, 32, 88, 67, 72, 71, 58, 65, 88, 58, 90, 118, 32, 88, 67, 72, 71, 58, 65, 88, 58, 90, 118, 32, 88, 67, 72, 71, 58, 65, 88, 58, 90, 118, 32, 88, 67, 72, 71, 58, 65, 88, 58, 90, 118, 32, 67, 66, 87, 32, 67, 87, 68, 32, 67, 65, 76, 76, 70, 58, 65, 112, 32, 87, 65, 73, 84, 32, 80, 85, 83, 72, 70, 32, 80, 79, 80, 70, 32, 83, 65, 72, 70, 32, 76, 65, 72, 70, 32, 77, 79, 86, 58, 65, 76, 58, 79, 98, 32, 77, 79, 86, 58, 65, 88, 58, 79, 118, 32, 77, 79, 86, 58, 79, 98, 58, 65, 76, 32, 77, 79, 86, 58, 79, 118, 58, 65, 88, 32, 77, 79, 86, 83, 66, 32, 77, 79, 86, 83, 87, 32, 67, 77, 80, 83, 66, 32, 67, 77, 80, 83, 87, 32, 84, 69, 83, 84, 58, 65, 76, 58, 73, 98, 32, 84, 69, 83, 84, 58, 65, 88, 58, 73, 118, 32, 83, 84, 79, 83, 66, 32, 83, 84, 79, 83, 87, 32, 76, 79, 68, 83, 66, 32, 76, 79, 68, 83, 87, 32, 83, 67, 65, 83, 66, 32, 83, 67, 65, 83, 87, 32, 77, 79, 86, 58, 90, 98, 58, 73, 98, 32, 77, 79, 86, 58, 90, 98, 58, 73, 98, 32, 77, 79, 86, 58, 90, 98, 58, 73, 98, 32, 77, 79, 86, 58, 90, 98, 58, 73, 98, 32, 77, 79, 86, 58, 90, 98, 58, 73, 98, 32, 77, 79, 86, 58, 90, 98, 58, 73, 98, 32, 77, 79, 86, 58, 90, 98, 58, 73, 98, 32, 77, 79, 86, 58, 90, 98, 58, 73, 98, 32, 77, 79, 86, 58, 90, 118, 58, 73, 118, 32, 77, 79, 86, 58, 90, 118, 58, 73, 118, 32, 77, 79, 86, 58, 90, 118, 58, 73, 118, 32, 77, 79, 86, 58, 90, 118, 58, 73, 118, 32, 77, 79, 86, 58, 90, 118, 58, 73, 118, 32, 77, 79, 86, 58, 90, 118, 58, 73, 118, 32, 77, 79, 86, 58, 90, 118, 58, 73, 118, 32, 77, 79, 86, 58, 90, 118, 58, 73, 118, 32, 45, 32, 45, 32, 82, 69, 84, 58, 73, 118, 32, 82, 69, 84, 32, 76, 69, 83, 58, 71, 118, 58, 77, 112, 32, 76, 68, 83, 58, 71, 118, 58, 77, 112, 32, 47, 77, 79, 86, 58, 69, 98, 58, 73, 98, 47, 45, 47, 45, 47, 45, 47, 45, 47, 45, 47, 45, 47, 45, 32, 47, 77, 79, 86, 58, 69, 118, 58, 73, 118, 47, 45, 47, 45, 47, 45, 47, 45, 47, 45, 47, 45, 47, 45, 32, 45, 32, 45, 32, 82, 69, 84, 70, 58, 73, 118, 32, 82, 69, 84, 70, 32, 73, 78, 84, 58, 84, 104, 114, 101, 101, 32, 73, 78, 84, 58, 73, 98, 32, 73, 78, 84, 79, 32, 73, 82, 69, 84, 32, 47, 82, 79, 76, 58, 69, 98, 58, 79, 110, 101, 47, 82, 79, 82, 58, 69, 98, 58, 79, 110, 101, 47, 82, 67, 76, 58, 69, 98, 58, 79, 110, 101, 47, 82, 67, 82, 58, 69, 98, 58, 79, 110, 101, 47, 83, 72, 76, 58, 69, 98, 58, 79, 110, 101, 47, 83, 72, 82, 58, 69, 98, 58, 79, 110, 101, 47, 45, 47, 83, 65, 82, 58, 69, 98, 58, 79, 110, 101, 32, 47, 82, 79, 76, 58, 69, 118, 58, 79, 110, 101, 47, 82, 79, 82, 58, 69, 118, 58, 79, 110, 101, 47, 82, 67, 76, 58, 69, 118, 58, 79, 110, 101, 47, 82, 67, 82, 58, 69, 118, 58, 79, 110, 101, 47, 83, 72, 76, 58, 69, 118, 58, 79, 110, 101, 47, 83, 72, 82, 58, 69, 118, 58, 79, 110, 101, 47, 45, 47, 83, 65, 82, 58, 69, 118, 58, 79, 110, 101, 32, 47, 82, 79, 76, 58, 69, 98, 58, 67, 76, 47, 82, 79, 82, 58, 69, 98, 58, 67, 76, 47, 82, 67, 76, 58, 69, 98, 58, 67, 76, 47, 82, 67, 82, 58, 69, 98, 58, 67, 76, 47, 83, 72, 76, 58, 69, 98, 58, 67, 76, 47, 83, 72, 82, 58, 69, 98, 58, 67, 76, 47, 45, 47, 83, 65, 82, 58, 69, 98, 58, 67, 76, 32, 47, 82, 79, 76, 58, 69, 118, 58, 67, 76, 47, 82, 79, 82, 58, 69, 118, 58, 67, 76, 47, 82, 67, 76, 58, 69, 118, 58, 67, 76, 47, 82, 67, 82, 58, 69, 118, 58, 67, 76, 47, 83, 72, 76, 58, 69, 118, 58, 67, 76, 47, 83, 72, 82, 58, 69, 118, 58, 67, 76, 47, 45, 47, 83, 65, 82, 58, 69, 118, 58, 67, 76, 32, 65, 65, 77, 58, 73, 98, 32, 65, 65, 68, 58, 73, 98, 32, 45, 32, 88, 76, 65, 84, 32, 69, 83, 67, 58, 69, 118, 32, 69, 83, 67, 58, 69, 118, 32, 69, 83, 67, 58, 69, 118, 32, 69, 83, 67, 58, 69, 118, 32, 69, 83, 67, 58, 69, 118, 32, 69, 83, 67, 58, 69, 118, 32, 69, 83, 67, 58, 69, 118, 32, 69, 83, 67, 58, 69, 118, 32, 76, 79, 79, 80, 78, 90, 58, 74, 98, 32, 76, 79, 79, 80, 90, 58, 74, 98, 32, 76, 79, 79, 80, 58, 74, 98, 32, 74, 67, 88, 90, 58, 74, 98, 32, 73, 78, 58, 65, 76, 58, 73, 98, 32, 73, 78, 58, 65, 88, 58, 73, 98, 32, 79, 85, 84, 58, 73, 98, 58, 65, 76, 32, 79, 85, 84, 58, 73, 98, 58, 65, 88, 32, 67, 65, 76, 76, 58, 74, 118, 32, 74, 77, 80, 58, 74, 118, 32, 74, 77, 80, 70, 58, 65, 112, 32, 74, 77, 80, 58, 74, 98, 32, 73, 78, 58, 65, 76, 58, 68, 88, 32, 73, 78, 58, 65, 88, 58, 68, 88, 32, 79, 85, 84, 58, 68, 88, 58, 65, 76, 32, 79, 85, 84, 58, 68, 88, 58, 65, 88, 32, 45, 32, 45, 32, 45, 32, 45, 32, 72, 76, 84, 32, 67, 77, 67, 32, 47, 84, 69, 83, 84, 58, 69, 98, 58, 73, 98, 47, 45, 47, 78, 79, 84, 58, 69, 98, 47, 78, 69, 71, 58, 69, 98, 47, 77, 85, 76, 58, 69, 98, 47, 73, 77, 85, 76, 58, 69, 98, 47, 68, 73, 86, 58, 69, 98, 47, 73, 68, 73, 86, 58, 69, 98, 32, 47, 84, 69, 83, 84, 58, 69, 118, 58, 73, 118, 47, 45, 47, 78, 79, 84, 58, 69, 118, 47, 78, 69, 71, 58, 69, 118, 47, 77, 85, 76, 58, 69, 118, 47, 73, 77, 85, 76, 58, 69, 118, 47, 68, 73, 86, 58, 69, 118, 47, 73, 68, 73, 86, 58, 69, 118, 32, 67, 76, 67, 32, 83, 84, 67, 32, 67, 76, 73, 32, 83, 84, 73, 32, 67, 76, 68, 32, 83, 84, 68, 32, 47, 73, 78, 67, 58, 69, 98, 47, 68, 69, 67, 58, 69, 98, 47, 45, 47, 45, 47, 45, 47, 45, 47, 45, 47, 45, 32, 47, 73, 78, 67, 58, 69, 118, 47, 68, 69, 67, 58, 69, 118, 47, 67, 65, 76, 76, 58, 69, 118, 47, 67, 65, 76, 76, 70, 58, 77, 112, 47, 74, 77, 80, 58, 69, 118, 47, 74, 77, 80, 70, 58, 77, 112, 47, 80, 85, 83, 72, 58, 69, 118, 47, 45, 32] : List UInt8) (IntKind.wrap .i64 op_) r_1 hr_1
 refine Rt (some 8) (.callf 53) [] none [.d (.str ([65, 68, 68, 58, 69, 98, 58, 71, 98, 32, 65, 68, 68, 58, 69, 118, 58, 71, 118, 32, 65, 68, 68, 58, 71, 98, 58, 69, 98, 32, 65, 68, 68, 58, 71, 118, 58, 69, 118, 32, 65, 68, 68, 58, 65, 76, 58, 73, 98, 32, 65, 68, 68, 58, 65, 88, 58, 73, 118, 32, 80, 85, 83, 72, 58, 90, 115, 32, 80, 79, 80, 58, 90, 115, 32, 79, 82, 58, 69, 98, 58, 71, 98, 32, 79, 82, 58, 69, 118, 58, 71, 118, 32, 79, 82, 58, 71, 98, 58, 69, 98, 32, 79, 82, 58, 71, 118, 58, 69, 118, 32, 79, 82, 58, 65, 76, 58, 73, 98, 32, 79, 82, 58, 65, 88, 58, 73, 118, 32, 80, 85, 83, 72, 58, 90, 115, 32, 45, 32, 65, 68, 67, 58, 69, 98, 58, 71, 98, 32, 65, 68, 67, 58, 69, 118, 58, 71, 118, 32, 65, 68, 67, 58, 71, 98, 58, 69, 98, 32, 65, 68, 67, 58, 71, 118, 58, 69, 118, 32, 65, 68, 67, 58, 65, 76, 58, 73, 98, 32, 65, 68, 67, 58, 65, 88, 58, 73, 118, 32, 80, 85, 83, 72, 58, 90, 115, 32, 80, 79, 80, 58, 90, 115, 32, 83, 66, 66, 58, 69, 98, 58, 71, 98, 32, 83, 66, 66, 58, 69, 118, 58, 71, 118, 32, 83, 66, 66, 58, 71, 98, 58, 69, 98, 32, 83, 66, 66, 58, 71, 118, 58, 69, 118, 32, 83, 66, 66, 58, 65, 76, 58, 73, 98, 32, 83, 66, 66, 58, 65, 88, 58, 73, 118, 32, 80, 85, 83, 72, 58, 90, 115, 32, 80, 79, 80, 58, 90, 115, 32, 65, 78, 68, 58, 69, 98, 58, 71, 98, 32, 65, 78, 68, 58, 69, 118, 58, 71, 118, 32, 65, 78, 68, 58, 71, 98, 58, 69, 98, 32, 65, 78, 68, 58, 71, 118, 58, 69, 118, 32, 65, 78, 68, 58, 65, 76, 58, 73, 98, 32, 65, 78, 68, 58, 65, 88, 58, 73, 118, 32, 45, 32, 68, 65, 65, 32, 83, 85, 66, 58, 69, 98, 58, 71, 98, 32, 83, 85, 66, 58, 69, 118, 58, 71, 118, 32, 83, 85, 66, 58, 71, 98, 58, 69, 98, 32, 83, 85, 66, 58, 71, 118, 58, 69, 118, 32, 83, 85, 66, 58, 65, 76, 58, 73, 98, 32, 83, 85, 66, 58, 65, 88, 58, 73, 118, 32, 45, 32, 68, 65, 83, 32, 88, 79, 82, 58, 69, 98, 58, 71, 98, 32, 88, 79, 82, 58, 69, 118, 58, 71, 118, 32, 88, 79, 82, 58, 71, 98, 58, 69, 98, 32, 88, 79, 82, 58, 71, 118, 58, 69, 118, 32, 88, 79, 82, 58, 65, 76, 58, 73, 98, 32, 88, 79, 82, 58, 65, 88, 58, 73, 118, 32, 45, 32, 65, 65, 65, 32, 67, 77, 80, 58, 69, 98, 58, 71, 98, 32, 67, 77, 80, 58, 69, 118, 58, 71, 118, 32, 67, 77, 80, 58, 71, 98, 58, 69, 98, 32, 67, 77, 80, 58, 71, 118, 58, 69, 118, 32, 67, 77, 80, 58, 65, 76, 58, 73, 98, 32, 67, 77, 80, 58, 65, 88, 58, 73, 118, 32, 45, 32, 65, 65, 83, 32, 73, 78, 67, 58, 90, 118, 32, 73, 78, 67, 58, 90, 118, 32, 73, 78, 67, 58, 90, 118, 32, 73, 78, 67, 58, 90, 118, 32, 73, 78, 67, 58, 90, 118, 32, 73, 78, 67, 58, 90, 118, 32, 73, 78, 67, 58, 90, 118, 32, 73, 78, 67, 58, 90, 118, 32, 68, 69, 67, 58, 90, 118, 32, 68, 69, 67, 58, 90, 118, 32, 68, 69, 67, 58, 90, 118, 32, 68, 69, 67, 58, 90, 118, 32, 68, 69, 67, 58, 90, 118, 32, 68, 69, 67, 58, 90, 118, 32, 68, 69, 67, 58, 90, 118, 32, 68, 69, 67, 58, 90, 118, 32, 80, 85, 83, 72, 58, 90, 118, 32, 80, 85, 83, 72, 58, 90, 118, 32, 80, 85, 83, 72, 58, 90, 118, 32, 80, 85, 83, 72, 58, 90, 118, 32, 80, 85, 83, 72, 58, 90, 118, 32, 80, 85, 83, 72, 58, 90, 118, 32, 80, 85, 83, 72, 58, 90, 118, 32, 80, 85, 83, 72, 58, 90, 118, 32, 80, 79, 80, 58, 90, 118, 32, 80, 79, 80, 58, 90, 118, 32, 80, 79, 80, 58, 90, 118, 32, 80, 79, 80, 58, 90, 118, 32, 80, 79, 80, 58, 90, 118, 32, 80, 79, 80, 58, 90, 118, 32, 80, 79, 80, 58, 90, 118, 32, 80, 79, 80, 58, 90, 118, 32, 45, 32, 45, 32, 45, 32, 45, 32, 45, 32, 45, 32, 45, 32, 45, 32, 45, 32, 45, 32, 45, 32, 45, 32, 45, 32, 45, 32, 45, 32, 45, 32, 74, 79, 58, 74, 98, 32, 74, 78, 79, 58, 74, 98, 32, 74, 66, 58, 74, 98, 32, 74, 78, 66, 58, 74, 98, 32, 74, 90, 58, 74, 98, 32, 74, 78, 90, 58, 74, 98, 32, 74, 66, 69, 58, 74, 98, 32, 74, 65, 58, 74, 98, 32, 74, 83, 58, 74, 98, 32, 74, 78, 83, 58, 74, 98, 32, 74, 80, 58, 74, 98, 32, 74, 78, 80, 58, 74, 98, 32, 74, 76, 58, 74, 98, 32, 74, 71, 69, 58, 74, 98, 32, 74, 76, 69, 58, 74, 98, 32, 74, 71, 58, 74, 98, 32, 47, 65, 68, 68, 58, 69, 98, 58, 73, 98, 47, 79, 82, 58, 69, 98, 58, 73, 98, 47, 65, 68, 67, 58, 69, 98, 58, 73, 98, 47, 83, 66, 66, 58, 69, 98, 58, 73, 98, 47, 65, 78, 68, 58, 69, 98, 58, 73, 98, 47, 83, 85, 66, 58, 69, 98, 58, 73, 98, 47, 88, 79, 82, 58, 69, 98, 58, 73, 98, 47, 67, 77, 80, 58, 69, 98, 58, 73, 98, 32, 47, 65, 68, 68, 58, 69, 118, 58, 73, 118, 47, 79, 82, 58, 69, 118, 58, 73, 118, 47, 65, 68, 67, 58, 69, 118, 58, 73, 118, 47, 83, 66, 66, 58, 69, 118, 58, 73, 118, 47, 65, 78, 68, 58, 69, 118, 58, 73, 118, 47, 83, 85, 66, 58, 69, 118, 58, 73, 118, 47, 88, 79, 82, 58, 69, 118, 58, 73, 118, 47, 67, 77, 80, 58, 69, 118, 58, 73, 118, 32, 45, 32, 47, 65, 68, 68, 58, 69, 118, 58, 73, 115, 47, 45, 47, 65, 68, 67, 58, 69, 118, 58, 73, 115, 47, 83, 66, 66, 58, 69, 118, 58, 73, 115, 47, 45, 47, 83, 85, 66, 58, 69, 118, 58, 73, 115, 47, 45, 47, 67, 77, 80, 58, 69, 118, 58, 73, 115, 32, 84, 69, 83, 84, 58, 69, 98, 58, 71, 98, 32, 84, 69, 83, 84, 58, 69, 118, 58, 71, 118, 32, 88, 67, 72, 71, 58, 69, 98, 58, 71, 98, 32, 88, 67, 72, 71, 58, 69, 118, 58, 71, 118, 32, 77, 79, 86, 58, 69, 98, 58, 71, 98, 32, 77, 79, 86, 58, 69, 118, 58, 71, 118, 32, 77, 79, 86, 58, 71, 98, 58, 69, 98, 32, 77, 79, 86, 58, 71, 118, 58, 69, 118, 32, 47, 77, 79, 86, 58, 69, 118, 58, 83, 119, 47, 77, 79, 86, 58, 69, 118, 58, 83, 119, 47, 77, 79, 86, 58, 69, 118, 58, 83, 119, 47, 77, 79, 86, 58, 69, 118, 58, 83, 119, 47, 45, 47, 45, 47, 45, 47, 45, 32, 76, 69, 65, 58, 71, 118, 58, 77, 32, 47, 77, 79, 86, 58, 83, 119, 58, 69, 118, 47, 45, 47, 77, 79, 86, 58, 83, 119, 58, 69, 118, 47, 77, 79, 86, 58, 83, 119, 58, 69, 118, 47, 45, 47, 45, 47, 45, 47, 45, 32, 47, 80, 79, 80, 58, 69, 118, 47, 45, 47, 45, 47, 45, 47, 45, 47, 45, 47, 45, 47, 45, 32, 88, 67, 72, 71, 58, 65, 88, 58, 90, 118, 32, 88, 67, 72, 71, 58, 65, 88, 58, 90, 118, 32, 88, 67, 72, 71, 58, 65, 88, 58, 90, 118, 32, 88, 67, 72, 71, 58, 65, 88, 58, 90, 118, 32, 88, 67, 72, 71, 58, 65, 88, 58, 90, 118, 32, 88, 67, 72, 71, 58, 65, 88, 58, 90, 118, 32, 88, 67, 72, 71, 58, 65, 88, 58, 90, 118, 32, 88, 67, 72, 71, 58, 65, 88, 58, 90, 118, 32, 67, 66, 87, 32, 67, 87, 68, 32, 67, 65, 76, 76, 70, 58, 65, 112, 32, 87, 65, 73, 84, 32, 80, 85, 83, 72, 70, 32, 80, 79, 80, 70, 32, 83, 65, 72, 70, 32, 76, 65, 72, 70, 32, 77, 79, 86, 58, 65, 76, 58, 79, 98, 32, 77, 79, 86, 58, 65, 88, 58, 79, 118, 32, 77, 79, 86, 58, 79, 98, 58, 65, 76, 32, 77, 79, 86, 58, 79, 118, 58, 65, 88, 32, 77, 79, 86, 83, 66, 32, 77, 79, 86, 83, 87, 32, 67, 77, 80, 83, 66, 32, 67, 77, 80, 83, 87, 32, 84, 69, 83, 84, 58, 65, 76, 58, 73, 98, 32, 84, 69, 83, 84, 58, 65, 88, 58, 73, 118, 32, 83, 84, 79, 83, 66, 32, 83, 84, 79, 83, 87, 32, 76, 79, 68, 83, 66, 32, 76, 79, 68, 83, 87, 32, 83, 67, 65, 83, 66, 32, 83, 67, 65, 83, 87, 32, 77, 79, 86, 58, 90, 98, 58, 73, 98, 32, 77, 79, 86, 58, 90, 98, 58, 73, 98, 32, 77, 79, 86, 58, 90, 98, 58, 73, 98, 32, 77, 79, 86, 58, 90, 98, 58, 73, 98, 32, 77, 79, 86, 58, 90, 98, 58, 73, 98, 32, 77, 79, 86, 58, 90, 98, 58, 73, 98, 32, 77, 79, 86, 58, 90, 98, 58, 73, 98, 32, 77, 79, 86, 58, 90, 98, 58, 73, 98, 32, 77, 79, 86, 58, 90, 118, 58, 73, 118, 32, 77, 79, 86, 58, 90, 118, 58, 73, 118, 32, 77, 79, 86, 58, 90, 118, 58, 73, 118, 32, 77, 79, 86, 58, 90, 118, 58, 73, 118, 32, 77, 79, 86, 58, 90, 118, 58, 73, 118, 32, 77, 79, 86, 58, 90, 118, 58, 73, 118, 32, 77, 79, 86, 58, 90, 118, 58, 73, 118, 32, 77, 79, 86, 58, 90, 118, 58, 73, 118, 32, 45, 32, 45, 32, 82, 69, 84, 58, 73, 118, 32, 82, 69, 84, 32, 76, 69, 83, 58, 71, 118, 58, 77, 112, 32, 76, 68, 83, 58, 71, 118, 58, 77, 112, 32, 47, 77, 79, 86, 58, 69, 98, 58, 73, 98, 47, 45, 47, 45, 47, 45, 47, 45, 47, 45, 47, 45, 47, 45, 32, 47, 77, 79, 86, 58, 69, 118, 58, 73, 118, 47, 45, 47, 45, 47, 45, 47, 45, 47, 45, 47, 45, 47, 45, 32, 45, 32, 45, 32, 82, 69, 84, 70, 58, 73, 118, 32, 82, 69, 84, 70, 32, 73, 78, 84, 58, 84, 104, 114, 101, 101, 32, 73, 78, 84, 58, 73, 98, 32, 73, 78, 84, 79, 32, 73, 82, 69, 84, 32, 47, 82, 79, 76, 58, 69, 98, 58, 79, 110, 101, 47, 82, 79, 82, 58, 69, 98, 58, 79, 110, 101, 47, 82, 67, 76, 58, 69, 98, 58, 79, 110, 101, 47, 82, 67, 82, 58, 69, 98, 58, 79, 110, 101, 47, 83, 72, 76, 58, 69, 98, 58, 79, 110, 101, 47, 83, 72, 82, 58, 69, 98, 58, 79, 110, 101, 47, 45, 47, 83, 65, 82, 58, 69, 98, 58, 79, 110, 101, 32, 47, 82, 79, 76, 58, 69, 118, 58, 79, 110, 101, 47, 82, 79, 82, 58, 69, 118, 58, 79, 110, 101, 47, 82, 67, 76, 58, 69, 118, 58, 79, 110, 101, 47, 82, 67, 82, 58, 69, 118, 58, 79, 110, 101, 47, 83, 72, 76, 58, 69, 118, 58, 79, 110, 101, 47, 83, 72, 82, 58, 69, 118, 58, 79, 110, 101, 47, 45, 47, 83, 65, 82, 58, 69, 118, 58, 79, 110, 101, 32, 47, 82, 79, 76, 58, 69, 98, 58, 67, 76, 47, 82, 79, 82, 58, 69, 98, 58, 67, 76, 47, 82, 67, 76, 58, 69, 98, 58, 67, 76, 47, 82, 67, 82, 58, 69, 98, 58, 67, 76, 47, 83, 72, 76, 58, 69, 98, 58, 67, 76, 47, 83, 72, 82, 58, 69, 98, 58, 67, 76, 47, 45, 47, 83, 65, 82, 58, 69, 98, 58, 67, 76, 32, 47, 82, 79, 76, 58, 69, 118, 58, 67, 76, 47, 82, 79, 82, 58, 69, 118, 58, 67, 76, 47, 82, 67, 76, 58, 69, 118, 58, 67, 76, 47, 82, 67, 82, 58, 69, 118, 58, 67, 76, 47, 83, 72, 76, 58, 69, 118, 58, 67, 76, 47, 83, 72, 82, 58, 69, 118, 58, 67, 76, 47, 45, 47, 83, 65, 82, 58, 69, 118, 58, 67, 76, 32, 65, 65, 77, 58, 73, 98, 32, 65, 65, 68, 58, 73, 98, 32, 45, 32, 88, 76, 65, 84, 32, 69, 83, 67, 58, 69, 118, 32, 69, 83, 67, 58, 69, 118, 32, 69, 83, 67, 58, 69, 118, 32, 69, 83, 67, 58, 69, 118, 32, 69, 83, 67, 58, 69, 118, 32, 69, 83, 67, 58, 69, 118, 32, 69, 83, 67, 58, 69, 118, 32, 69, 83, 67, 58, 69, 118, 32, 76, 79, 79, 80, 78, 90, 58, 74, 98, 32, 76, 79, 79, 80, 90, 58, 74, 98, 32, 76, 79, 79, 80, 58, 74, 98, 32, 74, 67, 88, 90, 58, 74, 98, 32, 73, 78, 58, 65, 76, 58, 73, 98, 32, 73, 78, 58, 65, 88, 58, 73, 98, 32, 79, 85, 84, 58, 73, 98, 58, 65, 76, 32, 79, 85, 84, 58, 73, 98, 58, 65, 88, 32, 67, 65, 76, 76, 58, 74, 118, 32, 74, 77, 80, 58, 74, 118, 32, 74, 77, 80, 70, 58, 65, 112, 32, 74, 77, 80, 58, 74, 98, 32, 73, 78, 58, 65, 76, 58, 68, 88, 32, 73, 78, 58, 65, 88, 58, 68, 88, 32, 79, 85, 84, 58, 68, 88, 58, 65, 76, 32, 79, 85, 84, 58, 68, 88, 58, 65, 88, 32, 45, 32, 45, 32, 45, 32, 45, 32, 72, 76, 84, 32, 67, 77, 67, 32, 47, 84, 69, 83, 84, 58, 69, 98, 58, 73, 98, 47, 45, 47, 78, 79, 84, 58, 69, 98, 47, 78, 69, 71, 58, 69, 98, 47, 77, 85, 76, 58, 69, 98, 47, 73, 77, 85, 76, 58, 69, 98, 47, 68, 73, 86, 58, 69, 98, 47, 73, 68, 73, 86, 58, 69, 98, 32, 47, 84, 69, 83, 84, 58, 69, 118, 58, 73, 118, 47, 45, 47, 78, 79, 84, 58, 69, 118, 47, 78, 69, 71, 58, 69, 118, 47, 77, 85, 76, 58, 69, 118, 47, 73, 77, 85, 76, 58, 69, 118, 47, 68, 73, 86, 58, 69, 118, 47, 73, 68, 73, 86, 58, 69, 118, 32, 67, 76, 67, 32, 83, 84, 67, 32, 67, 76, 73, 32, 83, 84, 73, 32, 67, 76, 68, 32, 83, 84, 68, 32, 47, 73, 78, 67, 58, 69, 98, 47, 68, 69, 67, 58, 69, 98, 47, 45, 47, 45, 47, 45, 47, 45, 47, 45, 47, 45, 32, 47, 73, 78, 67, 58, 69, 118, 47, 68, 69, 67, 58, 69, 118, 47, 67, 65, 76, 76, 58, 69, 118, 47, 67, 65, 76, 76, 70, 58, 77, 112, 47, 74, 77, 80, 58, 69, 118, 47, 74, 77, 80, 70, 58, 77, 112, 47, 80, 85, 83, 72, 58, 69, 118, 47, 45, 32] : List UInt8)), .i (IntKind.wrap .i64 op_)] (.d (.str r_1)) [] (cc hc_1) ?_
 refine Rc 1 [⟨.d (.str r_1), []⟩] <| Rk <| Sq <| Sq <| Ro <| Rc 1 [⟨.d (.str r_1), []⟩] <| Rt (some 10) .lenS [] none [.d (.str r_1)] (.i (r_1.length : Int)) [] (cut_lenS _) <| Rc 2 [vb (decide ((r_1.length : Int) > 0)), vb (decide ((r_1.length : Int) > 0))] ?_
 cases hb_1 : ((decide ((r_1.length : Int) > 0)) : Bool) with
 | true =>
  replace h := ite_t hb_1 h
  refine Rc 1 [⟨.d (.str r_1), []⟩] ?_
  obtain ⟨z_1, hz_1, h⟩ := bind_s h
  refine Rt (some 14) .indexS [] none [.d (.str r_1), .i 0] (.y (z_1.toNat : Int)) [] (cut_ixS hz_1) <| Rc 2 [vb ((z_1.toNat : Int) == 47), vb ((z_1.toNat : Int) == 47)] <| Rk ?_
  cases hb_2 : (((z_1.toNat : Int) == 47) : Bool) with
  | true =>
   replace h := ite_t hb_2 h
   refine Ct <| Sq <| Ro <| Rc 4 [⟨.d (.str r_1), []⟩, vi reg_, vi (bitsOp .and .i64 reg_ 7), vi (IntKind.wrap .i64 ((bitsOp .and .i64 reg_ 7) + 1))] ?_
   obtain ⟨r_2, hr_2, h⟩ := bind_s h
   have hc_2 := hansomref04_part_L r_1 47 (IntKind.wrap .i64 ((bitsOp .and .i64 reg_ 7) + 1)) r_2 hr_2
   refine Rt (some 21) (.callf 50) [] none [.d (.str r_1), .y 47, .i (IntKind.wrap .i64 ((bitsOp .and .i64 reg_ 7) + 1))] (.d (.str r_2)) [] (cc hc_2) <| Rc 1 [⟨.d (.str r_2), []⟩] <| Rk <| Runs.ret <| kS_ret ?_
   cases h
   exact Fq
  | false =>
   replace h := ite_f hb_2 h
   refine Cf <| Runs.skip <| kS_nrm <| Sq <| Ro <| Rc 2 [⟨.d (.str r_1), []⟩, ⟨.d (.str r_1), []⟩] <| Rk <| Runs.ret ?_
   cases h
   exact Fq
 | false =>
  replace h := ite_f hb_1 h
  refine Rc 4 [vn, vn, vn, vb false] <| Rk <| Cf <| Runs.skip <| kS_nrm <| Sq <| Ro <| Rc 2 [⟨.d (.str r_1), []⟩, ⟨.d (.str r_1), []⟩] <| Rk <| Runs.ret ?_
  cases h
  exact Fq
theorem hansomref04_Entry_L (op_ : Int) (reg_ : Int) (r : (List UInt8)) (h : hansomref04_Entry op_ reg_ = some r) : L 48 [.y op_, .i reg_] = some (.d (.str r), [.y op_, .i reg_]) := by
 obtain ⟨p, ⟨hne, hf⟩, hr⟩ := hansomref04_Entry_ok op_ reg_ r h
 obtain ⟨k, hk⟩ := run_of (F := F48) (args := [.y op_, .i reg_]) (ap := [.y op_, .i reg_]) (bx0 := updW (fun _ => none) []) rfl rfl (by kernel_rfl) ⟨p, ⟨hne, hf⟩, hr⟩
 exact lim_run (k := k) rfl hk
def hansomref04_find_h8 (s0 : (List UInt8)) (w1 : (List UInt8)) (n5 : Int) (from6 : Int) (i7 : Int) : St := ⟨tab [(0, .d (.str s0)), (1, .d (.str w1)), (5, .i n5), (6, .i from6), (7, .i i7)], tabB []⟩
def hansomref04_find_h35  : St := ⟨tab [], tabB []⟩
def hansomref04_find_Q (s_ : (List UInt8)) (w_ : (List UInt8)) (r : Int) (p : Out × St) : Prop := (∀ i, p.1 ≠ .exit i) ∧ finF F51 [.d (.str s_), .d (.str w_)] p.2 = some (.i r, [.d (.str s_), .d (.str w_)])
def hansomref04_find_P8 (s_ : (List UInt8)) (w_ : (List UInt8)) (s0 : (List UInt8)) (w1 : (List UInt8)) (e : (Int ⊕ Unit)) (p : Out × St) : Prop := match e with
 | .inl x => p.1 = .ret ∧ finF F51 [.d (.str s_), .d (.str w_)] p.2 = some (.i x, [.d (.str s_), .d (.str w_)])
 | .inr x => p.1 = .exit 0 ∧ ∃ g : Unit, Canon [] [] [] p.2 (hansomref04_find_h35)
theorem hansomref04_find_l8_ok (s_ : (List UInt8)) (w_ : (List UInt8)) (s0 : (List UInt8)) (w1 : (List UInt8)) (n5 : Int) (from6 : Int) (i7 : Int) (r : (Lp (Int × Int × Int) (Int ⊕ Unit))) (h : hansomref04_find_l8 s0 w1 n5 from6 i7 = some r) : Runs L F51l8 (hansomref04_find_h8 s0 w1 n5 from6 i7) (LQ [] [0, 1, 5, 6, 7] [] (fun (x : (Int × Int × Int)) (g : Unit) => hansomref04_find_h8 s0 w1 x.1 x.2.1 x.2.2) (hansomref04_find_P8 s_ w_ s0 w1) r) := by
 unfold hansomref04_find_l8 at h
 refine Sq <| Sq <| Ro <| Rc 2 [vi i7, ⟨.d (.str s0), []⟩] <| Rt (some 10) .lenS [] none [.d (.str s0)] (.i (s0.length : Int)) [] (cut_lenS _) <| Rc 1 [vb (decide (i7 < (s0.length : Int)))] <| Rk ?_
 cases hb_1 : ((decide (i7 < (s0.length : Int))) : Bool) with
 | true =>
  replace h := ite_t hb_1 h
  refine Ct <| Runs.skip <| kS_nrm <| Sq <| Runs.block <| Sq <| Sq <| Ro <| Rc 2 [⟨.d (.str s0), []⟩, vi i7] ?_
  obtain ⟨z_1, hz_1, h⟩ := bind_s h
  refine Rt (some 16) .indexS [] none [.d (.str s0), .i i7] (.y (z_1.toNat : Int)) [] (cut_ixS hz_1) <| Rc 1 [vb ((z_1.toNat : Int) != 32)] <| Rk ?_
  cases hb_2 : (((z_1.toNat : Int) != 32) : Bool) with
  | true =>
   replace h := ite_t hb_2 h
   refine Ct <| Runs.exit <| kS_exit <| kB_hit <| kS_nrm <| Ro <| Rc 3 [vi i7, vi (IntKind.wrap .i64 (i7 + 1)), vi (IntKind.wrap .i64 (i7 + 1))] <| Rd ?_
   obtain rfl := sj h
   exact ⟨rfl, (), Cz⟩
  | false =>
   replace h := ite_f hb_2 h
   refine Cf <| Runs.skip <| kS_nrm <| Sq <| Sq <| Ro <| Rc 3 [⟨.d (.str s0), []⟩, vi from6, vi i7] ?_
   obtain ⟨z_2, hz_2, h⟩ := bind_s h
   refine Rt (some 21) (.substr true true) [] none [.d (.str s0), .i from6, .i i7] (.d (.str z_2)) [] (cut_strTT hz_2) <| Rc 2 [⟨.d (.str w1), []⟩, vb (z_2 == w1)] <| Rk ?_
   cases hb_3 : ((z_2 == w1) : Bool) with
   | true =>
    replace h := ite_t hb_3 h
    refine Ct <| Sq <| Ro <| Rc 2 [vi n5, vi n5] <| Rk <| Runs.ret <| kS_ret <| kB_ret <| kS_ret ?_
    obtain rfl := sj h
    exact ⟨nofun, rfl, (by kernel_rfl)⟩
   | false =>
    replace h := ite_f hb_3 h
    refine Cf <| Runs.skip <| kS_nrm <| Sq <| Ro <| Rc 3 [vi n5, vi (IntKind.wrap .i64 (n5 + 1)), vi (IntKind.wrap .i64 (n5 + 1))] <| Rk <| Ro <| Rc 3 [vi i7, vi (IntKind.wrap .i64 (i7 + 1)), vi (IntKind.wrap .i64 (i7 + 1))] <| Rd <| kB_nrm <| kS_nrm <| Ro <| Rc 3 [vi i7, vi (IntKind.wrap .i64 (i7 + 1)), vi (IntKind.wrap .i64 (i7 + 1))] <| Rd ?_
    obtain rfl := sj h
    exact ⟨rfl, (), Cz⟩
 | false =>
  replace h := ite_f hb_1 h
  refine Cf <| Runs.exit <| kS_exit ?_
  obtain rfl := sj h
  exact ⟨nofun, rfl, (), Cz⟩
theorem hansomref04_find_ok (s_ : (List UInt8)) (w_ : (List UInt8)) (r : Int) (h : hansomref04_find s_ w_ = some r) : Runs L F51.body ⟨tmOf [.d (.str s_), .d (.str w_)] 0, updW (fun _ => none) []⟩ (hansomref04_find_Q s_ w_ r) := by
 unfold hansomref04_find at h
 refine Sq <| Ro <| Rc 1 [vi 0] <| Rk <| Sq <| Ro <| Rc 2 [vi 1, vi 0] <| Rk <| Sq <| Sq <| Ro <| Rc 1 [vi 0] <| Rk <| Runs.block ?_
 obtain ⟨e_1, he_1, h⟩ := bind_s h
 refine Runs.loop (fun x : (Int × Int × Int) => hansomref04_find_l8 s_ w_ x.1 x.2.1 x.2.2) (fun (x : (Int × Int × Int)) (g : Unit) => hansomref04_find_h8 s_ w_ x.1 x.2.1 x.2.2) (hansomref04_find_P8 s_ w_ s_ w_) (fun x g r hr => hansomref04_find_l8_ok s_ w_ s_ w_ x.1 x.2.1 x.2.2  r hr) () he_1 Cz ?_
 rintro ⟨o, s⟩ hp
 cases e_1 with
 | inl e_2 =>
  obtain ⟨ho, hf⟩ := hp
  have ho' : o = .ret := ho
  subst ho'
  refine kB_ret <| kS_ret ?_
  obtain rfl := sj h
  exact ⟨Out.ret_ne, hf⟩
 | inr e_3 =>
  obtain ⟨ho, g_1, hk_1⟩ := hp
  have ho' : o = .exit 0 := ho
  subst ho'
  refine kB_hit <| kS_nrm <| Runs.canon _ hk_1 <| Sq <| Ro <| Rc 1 [vi 0] <| Rk <| Runs.ret ?_
  cases h
  exact Fq
theorem hansomref04_find_L (s_ : (List UInt8)) (w_ : (List UInt8)) (r : Int) (h : hansomref04_find s_ w_ = some r) : L 51 [.d (.str s_), .d (.str w_)] = some (.i r, [.d (.str s_), .d (.str w_)]) := by
 obtain ⟨p, ⟨hne, hf⟩, hr⟩ := hansomref04_find_ok s_ w_ r h
 obtain ⟨k, hk⟩ := run_of (F := F51) (args := [.d (.str s_), .d (.str w_)]) (ap := [.d (.str s_), .d (.str w_)]) (bx0 := updW (fun _ => none) []) rfl rfl (by kernel_rfl) ⟨p, ⟨hne, hf⟩, hr⟩
 exact lim_run (k := k) rfl hk
def hansomref04_Find_Q (s_ : (List UInt8)) (r : Int) (p : Out × St) : Prop := (∀ i, p.1 ≠ .exit i) ∧ finF F49 [.d (.str s_)] p.2 = some (.i r, [.d (.str s_)])
theorem hansomref04_Find_ok (s_ : (List UInt8)) (r : Int) (h : hansomref04_Find s_ = some r) : Runs L F49.body ⟨tmOf [.d (.str s_)] 0, updW (fun _ => none) []⟩ (hansomref04_Find_Q s_ r) := by
 unfold hansomref04_Find at h
 refine Sq <| Ro <| Rc 1 [vi 0] <| Rk <| Sq <| Ro <| Rc 1 [⟨.d (.str s_), []⟩] ?_
 obtain ⟨r_1, hr_1, h⟩ := bind_s h
 have hc_1 := hansomref04_find_L ([65, 68, 68, 32, 79, 82, 32, 65, 68, 67, 32, 83, 66, 66, 32, 65, 78, 68, 32, 83, 85, 66, 32, 88, 79, 82, 32, 67, 77, 80, 32, 80, 85, 83, 72, 32, 80, 79, 80, 32, 68, 65, 65, 32, 68, 65, 83, 32, 65, 65, 65, 32, 65, 65, 83, 32, 73, 78, 67, 32, 68, 69, 67, 32, 74, 79, 32, 74, 78, 79, 32, 74, 66, 32, 74, 78, 66, 32, 74, 90, 32, 74, 78, 90, 32, 74, 66, 69, 32, 74, 65, 32, 74, 83, 32, 74, 78, 83, 32, 74, 80, 32, 74, 78, 80, 32, 74, 76, 32, 74, 71, 69, 32, 74, 76, 69, 32, 74, 71, 32, 84, 69, 83, 84, 32, 88, 67, 72, 71, 32, 77, 79, 86, 32, 76, 69, 65, 32, 67, 66, 87, 32, 67, 87, 68, 32, 67, 65, 76, 76, 32, 67, 65, 76, 76, 70, 32, 87, 65, 73, 84, 32, 80, 85, 83, 72, 70, 32, 80, 79, 80, 70, 32, 83, 65, 72, 70, 32, 76, 65, 72, 70, 32, 77, 79, 86, 83, 66, 32, 77, 79, 86, 83, 87, 32, 67, 77, 80, 83, 66, 32, 67, 77, 80, 83, 87, 32, 83, 84, 79, 83, 66, 32, 83, 84, 79, 83, 87, 32, 76, 79, 68, 83, 66, 32, 76, 79, 68, 83, 87, 32, 83, 67, 65, 83, 66, 32, 83, 67, 65, 83, 87, 32, 82, 69, 84, 32, 82, 69, 84, 70, 32, 76, 69, 83, 32, 76, 68, 83, 32, 73, 78, 84, 32, 73, 78, 84, 79, 32, 73, 82, 69, 84, 32, 82, 79, 76, 32, 82, 79, 82, 32, 82, 67, 76, 32, 82, 67, 82, 32, 83, 72, 76, 32, 83, 72, 82, 32, 83, 65, 82, 32, 65, 65, 77, 32, 65, 65, 68, 32, 88, 76, 65, 84, 32, 69, 83, 67, 32, 76, 79, 79, 80, 78, 90, 32, 76, 79, 79, 80, 90, 32, 76, 79, 79, 80, 32, 74, 67, 88, 90, 32, 73, 78, 32, 79, 85, 84, 32, 74, 77, 80, 32, 74, 77, 80, 70, 32, 72, 76, 84, 32, 67, 77, 67, 32, 78, 79, 84, 32, 78, 69, 71, 32, 77, 85, 76, 32, 73, 77, 85, 76, 32, 68, 73, 86, 32, 73, 68, 73, 86, 32, 67, 76, 67, 32, 83, 84, 67, 32, 67, 76, 73, 32, 83, 84, 73, 32, 67, 76, 68, 32, 83, 84, 68, 32] : List UInt8) s_ r_1 hr_1
 refine Rt (some 4) (.callf 51) [] none [.d (.str ([65, 68, 68, 32, 79, 82, 32, 65, 68, 67, 32, 83, 66, 66, 32, 65, 78, 68, 32, 83, 85, 66, 32, 88, 79, 82, 32, 67, 77, 80, 32, 80, 85, 83, 72, 32, 80, 79, 80, 32, 68, 65, 65, 32, 68, 65, 83, 32, 65, 65, 65, 32, 65, 65, 83, 32, 73, 78, 67, 32, 68, 69, 67, 32, 74, 79, 32, 74, 78, 79, 32, 74, 66, 32, 74, 78, 66, 32, 74, 90, 32, 74, 78, 90, 32, 74, 66, 69, 32, 74, 65, 32, 74, 83, 32, 74, 78, 83, 32, 74, 80, 32, 74, 78, 80, 32, 74, 76, 32, 74, 71, 69, 32, 74, 76, 69, 32, 74, 71, 32, 84, 69, 83, 84, 32, 88, 67, 72, 71, 32, 77, 79, 86, 32, 76, 69, 65, 32, 67, 66, 87, 32, 67, 87, 68, 32, 67, 65, 76, 76, 32, 67, 65, 76, 76, 70, 32, 87, 65, 73, 84, 32, 80, 85, 83, 72, 70, 32, 80, 79, 80, 70, 32, 83, 65, 72, 70, 32, 76, 65, 72, 70, 32, 77, 79, 86, 83, 66, 32, 77, 79, 86, 83, 87, 32, 67, 77, 80, 83, 66, 32, 67, 77, 80, 83, 87, 32, 83, 84, 79, 83, 66, 32, 83, 84, 79, 83, 87, 32, 76, 79, 68, 83, 66, 32, 76, 79, 68, 83, 87, 32, 83, 67, 65, 83, 66, 32, 83, 67, 65, 83, 87, 32, 82, 69, 84, 32, 82, 69, 84, 70, 32, 76, 69, 83, 32, 76, 68, 83, 32, 73, 78, 84, 32, 73, 78, 84, 79, 32, 73, 82, 69, 84, 32, 82, 79, 76, 32, 82, 79, 82, 32, 82, 67, 76, 32, 82, 67, 82, 32, 83, 72, 76, 32, 83, 72, 82, 32, 83, 65, 82, 32, 65, 65, 77, 32, 65, 65, 68, 32, 88, 76, 65, 84, 32, 69, 83, 67, 32, 76, 79, 79, 80, 78, 90, 32, 76, 79, 79, 80, 90, 32, 76, 79, 79, 80, 32, 74, 67, 88, 90, 32, 73, 78, 32, 79, 85, 84, 32, 74, 77, 80, 32, 74, 77, 80, 70, 32, 72, 76, 84, 32, 67, 77, 67, 32, 78, 79, 84, 32, 78, 69, 71, 32, 77, 85, 76, 32, 73, 77, 85, 76, 32, 68, 73, 86, 32, 73, 68, 73, 86, 32, 67, 76, 67, 32, 83, 84, 67, 32, 67, 76, 73, 32, 83, 84, 73, 32, 67, 76, 68, 32, 83, 84, 68, 32] : List UInt8)), .d (.str s_)] (.i r_1) [] (cc hc_1) ?_
 refine Rc 1 [vi r_1] <| Rk <| Runs.ret ?_
 cases h
 exact Fq
theorem hansomref04_Find_L (s_ : (List UInt8)) (r : Int) (h : hansomref04_Find s_ = some r) : L 49 [.d (.str s_)] = some (.i r, [.d (.str s_)]) := by
 obtain ⟨p, ⟨hne, hf⟩, hr⟩ := hansomref04_Find_ok s_ r h
 obtain ⟨k, hk⟩ := run_of (F := F49) (args := [.d (.str s_)]) (ap := [.d (.str s_)]) (bx0 := updW (fun _ => none) []) rfl rfl (by kernel_rfl) ⟨p, ⟨hne, hf⟩, hr⟩
 exact lim_run (k := k) rfl hk
def hansomref04_second_Q (k_ : Int) (r : Bool) (p : Out × St) : Prop := (∀ i, p.1 ≠ .exit i) ∧ finF F52 [.i k_] p.2 = some (.b r, [.i k_])
theorem hansomref04_second_ok (k_ : Int) (r : Bool) (h : hansomref04_second k_ = some r) : Runs L F52.body ⟨tmOf [.i k_] 0, updW (fun _ => none) []⟩ (hansomref04_second_Q k_ r) := by
 unfold hansomref04_second at h
 refine Sq <| Ro <| Rc 1 [vb false] <| Rk <| Sq <| Ro <| Rc 3 [vi k_, vb (decide (k_ ≥ 1)), vb (decide (k_ ≥ 1))] ?_
 cases hb_1 : ((decide (k_ ≥ 1)) : Bool) with
 | true =>
  replace h := ite_t hb_1 h
  refine Rc 4 [vi k_, vb (decide (k_ ≤ 5)), vb (decide (k_ ≤ 5)), vb (decide (k_ ≤ 5))] ?_
  cases hb_2 : ((decide (k_ ≤ 5)) : Bool) with
  | true =>
   replace h := ite_t hb_2 h
   refine Rc 8 [vn, vn, vb true, vb true, vn, vn, vb true, vb true] <| Rk <| Runs.ret ?_
   cases h
   exact Fq
  | false =>
   replace h := ite_f hb_2 h
   refine Rc 4 [vi k_, vb (k_ == 19), vb (k_ == 19), vb (k_ == 19)] ?_
   cases hb_3 : ((k_ == 19) : Bool) with
   | true =>
    replace h := ite_t hb_3 h
    refine Rc 4 [vn, vn, vb true, vb true] <| Rk <| Runs.ret ?_
    cases h
    exact Fq
   | false =>
    replace h := ite_f hb_3 h
    refine Rc 4 [vi k_, vb (k_ == 20), vb (k_ == 20), vb (k_ == 20)] <| Rk <| Runs.ret ?_
    cases h
    exact Fq
 | false =>
  replace h := ite_f hb_1 h
  refine Rc 8 [vn, vn, vb false, vb false, vi k_, vb (k_ == 19), vb (k_ == 19), vb (k_ == 19)] ?_
  cases hb_4 : ((k_ == 19) : Bool) with
  | true =>
   replace h := ite_t hb_4 h
   refine Rc 4 [vn, vn, vb true, vb true] <| Rk <| Runs.ret ?_
   cases h
   exact Fq
  | false =>
   replace h := ite_f hb_4 h
   refine Rc 4 [vi k_, vb (k_ == 20), vb (k_ == 20), vb (k_ == 20)] <| Rk <| Runs.ret ?_
   cases h
   exact Fq
theorem hansomref04_second_L (k_ : Int) (r : Bool) (h : hansomref04_second k_ = some r) : L 52 [.i k_] = some (.b r, [.i k_]) := by
 obtain ⟨p, ⟨hne, hf⟩, hr⟩ := hansomref04_second_ok k_ r h
 obtain ⟨k, hk⟩ := run_of (F := F52) (args := [.i k_]) (ap := [.i k_]) (bx0 := updW (fun _ => none) []) rfl rfl (by kernel_rfl) ⟨p, ⟨hne, hf⟩, hr⟩
 exact lim_run (k := k) rfl hk
def hansomref04_Row_Q (op_ : Int) (reg_ : Int) (r : (Row × Bool)) (p : Out × St) : Prop := (∀ i, p.1 ≠ .exit i) ∧ finF F21 [.y op_, .i reg_] p.2 = some (.tup [.d (Row.d r.1), .b r.2], [.y op_, .i reg_])
theorem hansomref04_Row_ok (op_ : Int) (reg_ : Int) (r : (Row × Bool)) (h : hansomref04_Row op_ reg_ = some r) : Runs L F21.body ⟨tmOf [.y op_, .i reg_] 0, updW (fun _ => none) []⟩ (hansomref04_Row_Q op_ reg_ r) := by
 unfold hansomref04_Row at h
 refine Sq <| Ro <| Rc 2 [⟨.ptr [4] 0 0, [([4], some (.cells [.i 0, .i 0, .i 0, .b false] 0))]⟩, vb false] <| Rk <| Sq <| Ro <| Rc 2 [vy op_, vi reg_] ?_
 obtain ⟨r_1, hr_1, h⟩ := bind_s h
 have hc_1 := hansomref04_Entry_L op_ reg_ r_1 hr_1
 refine Rt (some 10) (.callf 48) [] none [.y op_, .i reg_] (.d (.str r_1)) [] (cc hc_1) <| Rc 1 [⟨.d (.str r_1), []⟩] <| Rk <| Sq <| Sq <| Ro <| Rc 3 [⟨.d (.str r_1), []⟩, vb (r_1 == ([45] : List UInt8)), vb (r_1 == ([45] : List UInt8))] ?_
 cases hb_1 : ((r_1 == ([45] : List UInt8)) : Bool) with
 | true =>
  replace h := ite_t hb_1 h
  refine Rc 3 [vn, vn, vb true] <| Rk <| Ct <| Sq <| Ro <| Rc 3 [⟨.d (.agg [.int .i64 0, .int .i64 0, .int .i64 0, .bool false]), []⟩, ⟨.tup [], [([4], some (.cells [.i 0, .i 0, .i 0, .b false] 0))]⟩, vb false] <| Rk <| Runs.ret <| kS_ret ?_
  cases h
  exact Fq
 | false =>
  replace h := ite_f hb_1 h
  refine Rc 3 [⟨.d (.str r_1), []⟩, vb (r_1 == ([] : List UInt8)), vb (r_1 == ([] : List UInt8))] <| Rk ?_
  cases hb_2 : ((r_1 == ([] : List UInt8)) : Bool) with
  | true =>
   replace h := ite_t hb_2 h
   refine Ct <| Sq <| Ro <| Rc 3 [⟨.d (.agg [.int .i64 0, .int .i64 0, .int .i64 0, .bool false]), []⟩, ⟨.tup [], [([4], some (.cells [.i 0, .i 0, .i 0, .b false] 0))]⟩, vb false] <| Rk <| Runs.ret <| kS_ret ?_
   cases h
   exact Fq
  | false =>
   replace h := ite_f hb_2 h
   refine Cf <| Runs.skip <| kS_nrm <| Sq <| Ro <| Rc 1 [⟨.d (.str r_1), []⟩] ?_
   obtain ⟨r_2, hr_2, h⟩ := bind_s h
   have hc_2 := hansomref04_part_L r_1 58 0 r_2 hr_2
   refine Rt (some 19) (.callf 50) [] none [.d (.str r_1), .y 58, .i 0] (.d (.str r_2)) [] (cc hc_2) ?_
   obtain ⟨r_3, hr_3, h⟩ := bind_s h
   have hc_3 := hansomref04_Find_L r_2 r_3 hr_3
   refine Rt (some 20) (.callf 49) [] none [.d (.str r_2)] (.i r_3) [] (cc hc_3) <| Rc 1 [⟨.d (.str r_1), []⟩] ?_
   obtain ⟨r_4, hr_4, h⟩ := bind_s h
   have hc_4 := hansomref04_part_L r_1 58 1 r_4 hr_4
   refine Rt (some 22) (.callf 50) [] none [.d (.str r_1), .y 58, .i 1] (.d (.str r_4)) [] (cc hc_4) ?_
   obtain ⟨r_5, hr_5, h⟩ := bind_s h
   have hc_5 := hansomref04_find_L ([69, 98, 32, 69, 118, 32, 71, 98, 32, 71, 118, 32, 83, 119, 32, 73, 98, 32, 73, 118, 32, 73, 115, 32, 74, 98, 32, 74, 118, 32, 65, 112, 32, 79, 98, 32, 79, 118, 32, 65, 76, 32, 67, 76, 32, 65, 88, 32, 68, 88, 32, 79, 110, 101, 32, 77, 112, 32, 77, 32, 90, 98, 32, 90, 118, 32, 90, 115, 32, 84, 104, 114, 101, 101, 32] : List UInt8) r_4 r_5 hr_5
   refine Rt (some 23) (.callf 51) [] none [.d (.str ([69, 98, 32, 69, 118, 32, 71, 98, 32, 71, 118, 32, 83, 119, 32, 73, 98, 32, 73, 118, 32, 73, 115, 32, 74, 98, 32, 74, 118, 32, 65, 112, 32, 79, 98, 32, 79, 118, 32, 65, 76, 32, 67, 76, 32, 65, 88, 32, 68, 88, 32, 79, 110, 101, 32, 77, 112, 32, 77, 32, 90, 98, 32, 90, 118, 32, 90, 115, 32, 84, 104, 114, 101, 101, 32] : List UInt8)), .d (.str r_4)] (.i r_5) [] (cc hc_5) <| Rc 1 [⟨.d (.str r_1), []⟩] ?_
   obtain ⟨r_6, hr_6, h⟩ := bind_s h
   have hc_6 := hansomref04_part_L r_1 58 2 r_6 hr_6
   refine Rt (some 25) (.callf 50) [] none [.d (.str r_1), .y 58, .i 2] (.d (.str r_6)) [] (cc hc_6) ?_
   obtain ⟨r_7, hr_7, h⟩ := bind_s h
   have hc_7 := hansomref04_find_L ([69, 98, 32, 69, 118, 32, 71, 98, 32, 71, 118, 32, 83, 119, 32, 73, 98, 32, 73, 118, 32, 73, 115, 32, 74, 98, 32, 74, 118, 32, 65, 112, 32, 79, 98, 32, 79, 118, 32, 65, 76, 32, 67, 76, 32, 65, 88, 32, 68, 88, 32, 79, 110, 101, 32, 77, 112, 32, 77, 32, 90, 98, 32, 90, 118, 32, 90, 115, 32, 84, 104, 114, 101, 101, 32] : List UInt8) r_6 r_7 hr_7
   refine Rt (some 26) (.callf 51) [] none [.d (.str ([69, 98, 32, 69, 118, 32, 71, 98, 32, 71, 118, 32, 83, 119, 32, 73, 98, 32, 73, 118, 32, 73, 115, 32, 74, 98, 32, 74, 118, 32, 65, 112, 32, 79, 98, 32, 79, 118, 32, 65, 76, 32, 67, 76, 32, 65, 88, 32, 68, 88, 32, 79, 110, 101, 32, 77, 112, 32, 77, 32, 90, 98, 32, 90, 118, 32, 90, 115, 32, 84, 104, 114, 101, 101, 32] : List UInt8)), .d (.str r_6)] (.i r_7) [] (cc hc_7) <| Rc 3 [⟨.d (.agg [.int .i64 r_3, .int .i64 r_5, .int .i64 r_7, .bool false]), []⟩, ⟨.ptr [7] 0 0, [([7], some (.cells [.i 0, .i 0, .i 0, .b false] 0))]⟩, ⟨.tup [], [([7], some (.cells [.i r_3, .i r_5, .i r_7, .b false] 0))]⟩] <| Rk <| Sq <| Ro <| Rc 2 [vp [7] 0 1, vi r_5] ?_
   obtain ⟨r_8, hr_8, h⟩ := bind_s h
   have hc_8 := hansomref04_second_L r_5 r_8 hr_8
   refine Rt (some 30) (.callf 52) [] none [.i r_5] (.b r_8) [] (cc hc_8) <| Rc 1 [vb r_8] ?_
   cases hb_3 : (r_8 : Bool) with
   | true =>
    replace h := ite_t hb_3 h
    refine Rc 6 [vn, vn, vn, vb true, vp [7] 0 3, ⟨.tup [], [([7], some (.cells [.i r_3, .i r_5, .i r_7, .b true] 0))]⟩] <| Rk <| Sq <| Ro <| Rc 3 [⟨.d (.agg [.int .i64 r_3, .int .i64 r_5, .int .i64 r_7, .bool true]), []⟩, ⟨.tup [], [([4], some (.cells [.i r_3, .i r_5, .i r_7, .b true] 0))]⟩, vb true] <| Rk <| Runs.ret ?_
    cases h
    exact Fq
   | false =>
    replace h := ite_f hb_3 h
    refine Rc 2 [vp [7] 0 2, vi r_7] ?_
    obtain ⟨r_9, hr_9, h⟩ := bind_s h
    have hc_9 := hansomref04_second_L r_7 r_9 hr_9
    refine Rt (some 34) (.callf 52) [] none [.i r_7] (.b r_9) [] (cc hc_9) <| Rc 3 [vb r_9, vp [7] 0 3, ⟨.tup [], [([7], some (.cells [.i r_3, .i r_5, .i r_7, .b r_9] 0))]⟩] <| Rk <| Sq <| Ro <| Rc 3 [⟨.d (.agg [.int .i64 r_3, .int .i64 r_5, .int .i64 r_7, .bool r_9]), []⟩, ⟨.tup [], [([4], some (.cells [.i r_3, .i r_5, .i r_7, .b r_9] 0))]⟩, vb true] <| Rk <| Runs.ret ?_
    cases h
    exact Fq
theorem hansomref04_Row_L (op_ : Int) (reg_ : Int) (r : (Row × Bool)) (h : hansomref04_Row op_ reg_ = some r) : L 21 [.y op_, .i reg_] = some (.tup [.d (Row.d r.1), .b r.2], [.y op_, .i reg_]) := by
 obtain ⟨p, ⟨hne, hf⟩, hr⟩ := hansomref04_Row_ok op_ reg_ r h
 obtain ⟨k, hk⟩ := run_of (F := F21) (args := [.y op_, .i reg_]) (ap := [.y op_, .i reg_]) (bx0 := updW (fun _ => none) []) rfl rfl (by kernel_rfl) ⟨p, ⟨hne, hf⟩, hr⟩
 exact lim_run (k := k) rfl hk
def hansomref05_Row_Q (i_ : Inst) (r : (Row × Bool)) (p : Out × St) : Prop := (∀ i, p.1 ≠ .exit i) ∧ finF F26 [.d (Inst.d i_)] p.2 = some (.tup [.d (Row.d r.1), .b r.2], [.d (Inst.d i_)])
theorem hansomref05_Row_ok (i_ : Inst) (r : (Row × Bool)) (h : hansomref05_Row i_ = some r) : Runs L F26.body ⟨tmOf [.d (Inst.d i_)] 0, updW (fun _ => none) []⟩ (hansomref05_Row_Q i_ r) := by
 unfold hansomref05_Row at h
 refine Sq <| Ro <| Rc 3 [⟨.ptr [1] 0 0, [([1], some (.cells [.b i_.Lock, .i i_.Rep, .i i_.Seg, .y i_.Op, .i i_.Mod, .i i_.Reg, .i i_.RM, .w i_.Disp, .w i_.Imm, .w i_.Sel] 0))]⟩, ⟨.ptr [2] 0 0, [([2], some (.cells [.i 0, .i 0, .i 0, .b false] 0))]⟩, vb false] <| Rk <| Sq <| Sq <| Ro <| Rc 2 [vp [1] 0 3, vy i_.Op] ?_
 obtain ⟨r_1, hr_1, h⟩ := bind_s h
 have hc_1 := hansomref05_prefix_L i_.Op r_1 hr_1
 refine Rt (some 6) (.callf 57) [] none [.y i_.Op] (.b r_1) [] (cc hc_1) <| Rk ?_
 cases hb_1 : (r_1 : Bool) with
 | true =>
  replace h := ite_t hb_1 h
  refine Ct <| Sq <| Ro <| Rc 3 [⟨.d (.agg [.int .i64 0, .int .i64 0, .int .i64 0, .bool false]), []⟩, ⟨.tup [], [([2], some (.cells [.i 0, .i 0, .i 0, .b false] 0))]⟩, vb false] <| Rk <| Runs.ret <| kS_ret ?_
  cases h
  exact Fq
 | false =>
  replace h := ite_f hb_1 h
  refine Cf <| Runs.skip <| kS_nrm <| Sq <| Ro <| Rc 4 [vp [1] 0 3, vy i_.Op, vp [1] 0 5, vi i_.Reg] ?_
  obtain ⟨r_2, hr_2, h⟩ := bind_s h
  have hc_2 := hansomref04_Row_L i_.Op i_.Reg r_2 hr_2
  refine Rt (some 12) (.callf 21) [] none [.y i_.Op, .i i_.Reg] (.tup [.d (Row.d r_2.1), .b r_2.2]) [] (cc hc_2) <| Rc 4 [⟨.d (Row.d r_2.1), []⟩, vb r_2.2, ⟨.tup [], [([2], some (.cells [.i r_2.1.Name, .i r_2.1.A, .i r_2.1.B, .b r_2.1.Mod] 0))]⟩, vb r_2.2] <| Rk <| Runs.ret ?_
  cases h
  exact Fq
theorem hansomref05_Row_L (i_ : Inst) (r : (Row × Bool)) (h : hansomref05_Row i_ = some r) : L 26 [.d (Inst.d i_)] = some (.tup [.d (Row.d r.1), .b r.2], [.d (Inst.d i_)]) := by
 obtain ⟨p, ⟨hne, hf⟩, hr⟩ := hansomref05_Row_ok i_ r h
 obtain ⟨k, hk⟩ := run_of (F := F26) (args := [.d (Inst.d i_)]) (ap := [.d (Inst.d i_)]) (bx0 := updW (fun _ => none) []) rfl rfl (by kernel_rfl) ⟨p, ⟨hne, hf⟩, hr⟩
 exact lim_run (k := k) rfl hk
def hansomref04_Bytes_h16 (t3 : Int) (t4 : Bool) : St := ⟨tab [(3, .i t3), (4, .b t4)], tabB []⟩
def hansomref04_Bytes_Q (k_ : Int) (r : Int) (p : Out × St) : Prop := (∀ i, p.1 ≠ .exit i) ∧ finF F18 [.i k_] p.2 = some (.i r, [.i k_])
theorem hansomref04_Bytes_j16_ok (k_ : Int) (t3 : Int) (t4 : Bool) (r : Int) (h : hansomref04_Bytes_j16 t3 t4 = some r) : Runs L F18b16 (hansomref04_Bytes_h16 t3 t4) (kB 0 (kS L F18c45 (hansomref04_Bytes_Q k_ r))) := by
 unfold hansomref04_Bytes_j16 at h
 cases hb_2 : (t4 : Bool) with
 | true =>
  replace h := ite_t hb_2 h
  refine Ct <| Sq <| Ro <| Rc 1 [vi 1] <| Rk <| Runs.ret <| kB_ret <| kS_ret ?_
  cases h
  exact Fq
 | false =>
  replace h := ite_f hb_2 h
  refine Cf <| Sq <| Sq <| Ro <| Rc 2 [vb (t3 == 7), vb (t3 == 7)] <| Rk ?_
  cases hb_3 : ((t3 == 7) : Bool) with
  | true =>
   replace h := ite_t hb_3 h
   refine Ct <| Runs.skip <| kS_nrm <| Ct <| Sq <| Ro <| Rc 1 [vi 2] <| Rk <| Runs.ret <| kB_ret <| kS_ret ?_
   cases h
   exact Fq
  | false =>
   replace h := ite_f hb_3 h
   refine Cf <| Sq <| Ro <| Rc 2 [vb (t3 == 10), vb (t3 == 10)] <| Rk ?_
   cases hb_4 : ((t3 == 10) : Bool) with
   | true =>
    replace h := ite_t hb_4 h
    refine Ct <| Runs.skip <| kS_nrm <| Ct <| Sq <| Ro <| Rc 1 [vi 2] <| Rk <| Runs.ret <| kB_ret <| kS_ret ?_
    cases h
    exact Fq
   | false =>
    replace h := ite_f hb_4 h
    refine Cf <| Sq <| Ro <| Rc 2 [vb (t3 == 12), vb (t3 == 12)] <| Rk ?_
    cases hb_5 : ((t3 == 12) : Bool) with
    | true =>
     replace h := ite_t hb_5 h
     refine Ct <| Runs.skip <| kS_nrm <| Ct <| Sq <| Ro <| Rc 1 [vi 2] <| Rk <| Runs.ret <| kB_ret <| kS_ret ?_
     cases h
     exact Fq
    | false =>
     replace h := ite_f hb_5 h
     refine Cf <| Ro <| Rc 2 [vb (t3 == 13), vb (t3 == 13)] <| Rk ?_
     cases hb_6 : ((t3 == 13) : Bool) with
     | true =>
      replace h := ite_t hb_6 h
      refine Ct <| Sq <| Ro <| Rc 1 [vi 2] <| Rk <| Runs.ret <| kB_ret <| kS_ret ?_
      cases h
      exact Fq
     | false =>
      replace h := ite_f hb_6 h
      refine Cf <| Sq <| Ro <| Rc 2 [vb (t3 == 11), vb (t3 == 11)] <| Rk ?_
      cases hb_7 : ((t3 == 11) : Bool) with
      | true =>
       replace h := ite_t hb_7 h
       refine Ct <| Sq <| Ro <| Rc 1 [vi 4] <| Rk <| Runs.ret <| kB_ret <| kS_ret ?_
       cases h
       exact Fq
      | false =>
       replace h := ite_f hb_7 h
       refine Cf <| Runs.skip <| kB_nrm <| kS_nrm <| Sq <| Ro <| Rc 1 [vi 0] <| Rk <| Runs.ret ?_
       cases h
       exact Fq
theorem hansomref04_Bytes_ok (k_ : Int) (r : Int) (h : hansomref04_Bytes k_ = some r) : Runs L F18.body ⟨tmOf [.i k_] 0, updW (fun _ => none) []⟩ (hansomref04_Bytes_Q k_ r) := by
 unfold hansomref04_Bytes at h
 refine Sq <| Ro <| Rc 1 [vi 0] <| Rk <| Sq <| Sq <| Ro <| Rc 1 [vi k_] <| Rk <| Runs.block <| Sq <| Sq <| Ro <| Rc 2 [vb (k_ == 6), vb (k_ == 6)] <| Rk ?_
 cases hb_1 : ((k_ == 6) : Bool) with
 | true =>
  replace h := ite_t hb_1 h
  refine Ct <| Runs.skip <| kS_nrm <| Runs.canon (hansomref04_Bytes_h16 k_ true) Cz ?_
  exact hansomref04_Bytes_j16_ok k_ k_ true r h
 | false =>
  replace h := ite_f hb_1 h
  refine Cf <| Sq <| Ro <| Rc 2 [vb (k_ == 8), vb (k_ == 8)] <| Rk ?_
  cases hb_8 : ((k_ == 8) : Bool) with
  | true =>
   replace h := ite_t hb_8 h
   refine Ct <| Runs.skip <| kS_nrm <| Runs.canon (hansomref04_Bytes_h16 k_ true) Cz ?_
   exact hansomref04_Bytes_j16_ok k_ k_ true r h
  | false =>
   replace h := ite_f hb_8 h
   refine Cf <| Ro <| Rc 2 [vb (k_ == 9), vb (k_ == 9)] <| Rk <| Runs.canon (hansomref04_Bytes_h16 k_ (k_ == 9)) Cz ?_
   exact hansomref04_Bytes_j16_ok k_ k_ (k_ == 9) r h
theorem hansomref04_Bytes_L (k_ : Int) (r : Int) (h : hansomref04_Bytes k_ = some r) : L 18 [.i k_] = some (.i r, [.i k_]) := by
 obtain ⟨p, ⟨hne, hf⟩, hr⟩ := hansomref04_Bytes_ok k_ r h
 obtain ⟨k, hk⟩ := run_of (F := F18) (args := [.i k_]) (ap := [.i k_]) (bx0 := updW (fun _ => none) []) rfl rfl (by kernel_rfl) ⟨p, ⟨hne, hf⟩, hr⟩
 exact lim_run (k := k) rfl hk
def hansomref04_Name_Q (n_ : Int) (r : (List UInt8)) (p : Out × St) : Prop := (∀ i, p.1 ≠ .exit i) ∧ finF F47 [.i n_] p.2 = some (.d (.str r), [.i n_])
theorem hansomref04_Name_ok (n_ : Int) (r : (List UInt8)) (h : hansomref04_Name n_ = some r) : Runs L F47.body ⟨tmOf [.i n_] 0, updW (fun _ => none) []⟩ (hansomref04_Name_Q n_ r) := by
 unfold hansomref04_Name at h
 refine Sq <| Ro <| Rc 1 [⟨.d (.str ([] : List UInt8)), []⟩] <| Rk <| Sq <| Sq <| Ro <| Rc 3 [vi n_, vb (decide (n_ < 1)), vb (decide (n_ < 1))] ?_
 cases hb_1 : ((decide (n_ < 1)) : Bool) with
 | true =>
  replace h := ite_t hb_1 h
  refine Rc 3 [vn, vn, vb true] <| Rk <| Ct <| Sq <| Ro <| Rc 1 [⟨.d (.str ([63] : List UInt8)), []⟩] <| Rk <| Runs.ret <| kS_ret ?_
  cases h
  exact Fq
 | false =>
  replace h := ite_f hb_1 h
  refine Rc 3 [vi n_, vb (decide (n_ > 95)), vb (decide (n_ > 95))] <| Rk ?_
  cases hb_2 : ((decide (n_ > 95)) : Bool) with
  | true =>
   replace h := ite_t hb_2 h
   refine Ct <| Sq <| Ro <| Rc 1 [⟨.d (.str ([63] : List UInt8)), []⟩] <| Rk <| Runs.ret <| kS_ret ?_
   cases h
   exact Fq
  | false =>
   replace h := ite_f hb_2 h
   refine Cf <| Runs.skip <| kS_nrm <| Sq <| Ro <| Rc 2 [vi n_, vi (IntKind.wrap .i64 (n_ - 1))] ?_
   obtain ⟨r_1, hr_1, h⟩ := bind_s h
   have hc_1 := hansomref04_word_L ([65, 68, 68, 32, 79, 82, 32, 65, 68, 67, 32, 83, 66, 66, 32, 65, 78, 68, 32, 83, 85, 66, 32, 88, 79, 82, 32, 67, 77, 80, 32, 80, 85, 83, 72, 32, 80, 79, 80, 32, 68, 65, 65, 32, 68, 65, 83, 32, 65, 65, 65, 32, 65, 65, 83, 32, 73, 78, 67, 32, 68, 69, 67, 32, 74, 79, 32, 74, 78, 79, 32, 74, 66, 32, 74, 78, 66, 32, 74, 90, 32, 74, 78, 90, 32, 74, 66, 69, 32, 74, 65, 32, 74, 83, 32, 74, 78, 83, 32, 74, 80, 32, 74, 78, 80, 32, 74, 76, 32, 74, 71, 69, 32, 74, 76, 69, 32, 74, 71, 32, 84, 69, 83, 84, 32, 88, 67, 72, 71, 32, 77, 79, 86, 32, 76, 69, 65, 32, 67, 66, 87, 32, 67, 87, 68, 32, 67, 65, 76, 76, 32, 67, 65, 76, 76, 70, 32, 87, 65, 73, 84, 32, 80, 85, 83, 72, 70, 32, 80, 79, 80, 70, 32, 83, 65, 72, 70, 32, 76, 65, 72, 70, 32, 77, 79, 86, 83, 66, 32, 77, 79, 86, 83, 87, 32, 67, 77, 80, 83, 66, 32, 67, 77, 80, 83, 87, 32, 83, 84, 79, 83, 66, 32, 83, 84, 79, 83, 87, 32, 76, 79, 68, 83, 66, 32, 76, 79, 68, 83, 87, 32, 83, 67, 65, 83, 66, 32, 83, 67, 65, 83, 87, 32, 82, 69, 84, 32, 82, 69, 84, 70, 32, 76, 69, 83, 32, 76, 68, 83, 32, 73, 78, 84, 32, 73, 78, 84, 79, 32, 73, 82, 69, 84, 32, 82, 79, 76, 32, 82, 79, 82, 32, 82, 67, 76, 32, 82, 67, 82, 32, 83, 72, 76, 32, 83, 72, 82, 32, 83, 65, 82, 32, 65, 65, 77, 32, 65, 65, 68, 32, 88, 76, 65, 84, 32, 69, 83, 67, 32, 76, 79, 79, 80, 78, 90, 32, 76, 79, 79, 80, 90, 32, 76, 79, 79, 80, 32, 74, 67, 88, 90, 32, 73, 78, 32, 79, 85, 84, 32, 74, 77, 80, 32, 74, 77, 80, 70, 32, 72, 76, 84, 32, 67, 77, 67, 32, 78, 79, 84, 32, 78, 69, 71, 32, 77, 85, 76, 32, 73, 77, 85, 76, 32, 68, 73, 86, 32, 73, 68, 73, 86, 32, 67, 76, 67, 32, 83, 84, 67, 32, 67, 76, 73, 32, 83, 84, 73, 32, 67, 76, 68, 32, 83, 84, 68, 32] : List UInt8) (IntKind.wrap .i64 (n_ - 1)) r_1 hr_1
   refine Rt (some 11) (.callf 53) [] none [.d (.str ([65, 68, 68, 32, 79, 82, 32, 65, 68, 67, 32, 83, 66, 66, 32, 65, 78, 68, 32, 83, 85, 66, 32, 88, 79, 82, 32, 67, 77, 80, 32, 80, 85, 83, 72, 32, 80, 79, 80, 32, 68, 65, 65, 32, 68, 65, 83, 32, 65, 65, 65, 32, 65, 65, 83, 32, 73, 78, 67, 32, 68, 69, 67, 32, 74, 79, 32, 74, 78, 79, 32, 74, 66, 32, 74, 78, 66, 32, 74, 90, 32, 74, 78, 90, 32, 74, 66, 69, 32, 74, 65, 32, 74, 83, 32, 74, 78, 83, 32, 74, 80, 32, 74, 78, 80, 32, 74, 76, 32, 74, 71, 69, 32, 74, 76, 69, 32, 74, 71, 32, 84, 69, 83, 84, 32, 88, 67, 72, 71, 32, 77, 79, 86, 32, 76, 69, 65, 32, 67, 66, 87, 32, 67, 87, 68, 32, 67, 65, 76, 76, 32, 67, 65, 76, 76, 70, 32, 87, 65, 73, 84, 32, 80, 85, 83, 72, 70, 32, 80, 79, 80, 70, 32, 83, 65, 72, 70, 32, 76, 65, 72, 70, 32, 77, 79, 86, 83, 66, 32, 77, 79, 86, 83, 87, 32, 67, 77, 80, 83, 66, 32, 67, 77, 80, 83, 87, 32, 83, 84, 79, 83, 66, 32, 83, 84, 79, 83, 87, 32, 76, 79, 68, 83, 66, 32, 76, 79, 68, 83, 87, 32, 83, 67, 65, 83, 66, 32, 83, 67, 65, 83, 87, 32, 82, 69, 84, 32, 82, 69, 84, 70, 32, 76, 69, 83, 32, 76, 68, 83, 32, 73, 78, 84, 32, 73, 78, 84, 79, 32, 73, 82, 69, 84, 32, 82, 79, 76, 32, 82, 79, 82, 32, 82, 67, 76, 32, 82, 67, 82, 32, 83, 72, 76, 32, 83, 72, 82, 32, 83, 65, 82, 32, 65, 65, 77, 32, 65, 65, 68, 32, 88, 76, 65, 84, 32, 69, 83, 67, 32, 76, 79, 79, 80, 78, 90, 32, 76, 79, 79, 80, 90, 32, 76, 79, 79, 80, 32, 74, 67, 88, 90, 32, 73, 78, 32, 79, 85, 84, 32, 74, 77, 80, 32, 74, 77, 80, 70, 32, 72, 76, 84, 32, 67, 77, 67, 32, 78, 79, 84, 32, 78, 69, 71, 32, 77, 85, 76, 32, 73, 77, 85, 76, 32, 68, 73, 86, 32, 73, 68, 73, 86, 32, 67, 76, 67, 32, 83, 84, 67, 32, 67, 76, 73, 32, 83, 84, 73, 32, 67, 76, 68, 32, 83, 84, 68, 32] : List UInt8)), .i (IntKind.wrap .i64 (n_ - 1))] (.d (.str r_1)) [] (cc hc_1) ?_
   refine Rc 1 [⟨.d (.str r_1), []⟩] <| Rk <| Runs.ret ?_
   cases h
   exact Fq
theorem hansomref04_Name_L (n_ : Int) (r : (List UInt8)) (h : hansomref04_Name n_ = some r) : L 47 [.i n_] = some (.d (.str r), [.i n_]) := by
 obtain ⟨p, ⟨hne, hf⟩, hr⟩ := hansomref04_Name_ok n_ r h
 obtain ⟨k, hk⟩ := run_of (F := F47) (args := [.i n_]) (ap := [.i n_]) (bx0 := updW (fun _ => none) []) rfl rfl (by kernel_rfl) ⟨p, ⟨hne, hf⟩, hr⟩
 exact lim_run (k := k) rfl hk
def hansomref04_Repeats_h28 (t4 : (List UInt8)) (t5 : Bool) : St := ⟨tab [(4, .d (.str t4)), (5, .b t5)], tabB []⟩
def hansomref04_Repeats_Q (n_ : Int) (r : Int) (p : Out × St) : Prop := (∀ i, p.1 ≠ .exit i) ∧ finF F16 [.i n_] p.2 = some (.i r, [.i n_])
theorem hansomref04_Repeats_j28_ok (n_ : Int) (t4 : (List UInt8)) (t5 : Bool) (r : Int) (h : hansomref04_Repeats_j28 t4 t5 = some r) : Runs L F16b28 (hansomref04_Repeats_h28 t4 t5) (kB 0 (kS L F16c51 (hansomref04_Repeats_Q n_ r))) := by
 unfold hansomref04_Repeats_j28 at h
 cases hb_2 : (t5 : Bool) with
 | true =>
  replace h := ite_t hb_2 h
  refine Ct <| Sq <| Ro <| Rc 1 [vi 1] <| Rk <| Runs.ret <| kB_ret <| kS_ret ?_
  cases h
  exact Fq
 | false =>
  replace h := ite_f hb_2 h
  refine Cf <| Sq <| Sq <| Ro <| Rc 2 [vb (t4 == ([67, 77, 80, 83, 66] : List UInt8)), vb (t4 == ([67, 77, 80, 83, 66] : List UInt8))] <| Rk ?_
  cases hb_3 : ((t4 == ([67, 77, 80, 83, 66] : List UInt8)) : Bool) with
  | true =>
   replace h := ite_t hb_3 h
   refine Ct <| Runs.skip <| kS_nrm <| Ct <| Sq <| Ro <| Rc 1 [vi 2] <| Rk <| Runs.ret <| kB_ret <| kS_ret ?_
   cases h
   exact Fq
  | false =>
   replace h := ite_f hb_3 h
   refine Cf <| Sq <| Ro <| Rc 2 [vb (t4 == ([67, 77, 80, 83, 87] : List UInt8)), vb (t4 == ([67, 77, 80, 83, 87] : List UInt8))] <| Rk ?_
   cases hb_4 : ((t4 == ([67, 77, 80, 83, 87] : List UInt8)) : Bool) with
   | true =>
    replace h := ite_t hb_4 h
    refine Ct <| Runs.skip <| kS_nrm <| Ct <| Sq <| Ro <| Rc 1 [vi 2] <| Rk <| Runs.ret <| kB_ret <| kS_ret ?_
    cases h
    exact Fq
   | false =>
    replace h := ite_f hb_4 h
    refine Cf <| Sq <| Ro <| Rc 2 [vb (t4 == ([83, 67, 65, 83, 66] : List UInt8)), vb (t4 == ([83, 67, 65, 83, 66] : List UInt8))] <| Rk ?_
    cases hb_5 : ((t4 == ([83, 67, 65, 83, 66] : List UInt8)) : Bool) with
    | true =>
     replace h := ite_t hb_5 h
     refine Ct <| Runs.skip <| kS_nrm <| Ct <| Sq <| Ro <| Rc 1 [vi 2] <| Rk <| Runs.ret <| kB_ret <| kS_ret ?_
     cases h
     exact Fq
    | false =>
     replace h := ite_f hb_5 h
     refine Cf <| Ro <| Rc 2 [vb (t4 == ([83, 67, 65, 83, 87] : List UInt8)), vb (t4 == ([83, 67, 65, 83, 87] : List UInt8))] <| Rk ?_
     cases hb_6 : ((t4 == ([83, 67, 65, 83, 87] : List UInt8)) : Bool) with
     | true =>
      replace h := ite_t hb_6 h
      refine Ct <| Sq <| Ro <| Rc 1 [vi 2] <| Rk <| Runs.ret <| kB_ret <| kS_ret ?_
      cases h
      exact Fq
     | false =>
      replace h := ite_f hb_6 h
      refine Cf <| Runs.skip <| kB_nrm <| kS_nrm <| Sq <| Ro <| Rc 1 [vi 0] <| Rk <| Runs.ret ?_
      cases h
      exact Fq
theorem hansomref04_Repeats_ok (n_ : Int) (r : Int) (h : hansomref04_Repeats n_ = some r) : Runs L F16.body ⟨tmOf [.i n_] 0, updW (fun _ => none) []⟩ (hansomref04_Repeats_Q n_ r) := by
 unfold hansomref04_Repeats at h
 refine Sq <| Ro <| Rc 1 [vi 0] <| Rk <| Sq <| Sq <| Ro <| Rc 1 [vi n_] ?_
 obtain ⟨r_1, hr_1, h⟩ := bind_s h
 have hc_1 := hansomref04_Name_L n_ r_1 hr_1
 refine Rt (some 4) (.callf 47) [] none [.i n_] (.d (.str r_1)) [] (cc hc_1) <| Rk <| Runs.block <| Sq <| Sq <| Ro <| Rc 2 [vb (r_1 == ([77, 79, 86, 83, 66] : List UInt8)), vb (r_1 == ([77, 79, 86, 83, 66] : List UInt8))] <| Rk ?_
 cases hb_1 : ((r_1 == ([77, 79, 86, 83, 66] : List UInt8)) : Bool) with
 | true =>
  replace h := ite_t hb_1 h
  refine Ct <| Runs.skip <| kS_nrm <| Runs.canon (hansomref04_Repeats_h28 r_1 true) Cz ?_
  exact hansomref04_Repeats_j28_ok n_ r_1 true r h
 | false =>
  replace h := ite_f hb_1 h
  refine Cf <| Sq <| Ro <| Rc 2 [vb (r_1 == ([77, 79, 86, 83, 87] : List UInt8)), vb (r_1 == ([77, 79, 86, 83, 87] : List UInt8))] <| Rk ?_
  cases hb_7 : ((r_1 == ([77, 79, 86, 83, 87] : List UInt8)) : Bool) with
  | true =>
   replace h := ite_t hb_7 h
   refine Ct <| Runs.skip <| kS_nrm <| Runs.canon (hansomref04_Repeats_h28 r_1 true) Cz ?_
   exact hansomref04_Repeats_j28_ok n_ r_1 true r h
  | false =>
   replace h := ite_f hb_7 h
   refine Cf <| Sq <| Ro <| Rc 2 [vb (r_1 == ([83, 84, 79, 83, 66] : List UInt8)), vb (r_1 == ([83, 84, 79, 83, 66] : List UInt8))] <| Rk ?_
   cases hb_8 : ((r_1 == ([83, 84, 79, 83, 66] : List UInt8)) : Bool) with
   | true =>
    replace h := ite_t hb_8 h
    refine Ct <| Runs.skip <| kS_nrm <| Runs.canon (hansomref04_Repeats_h28 r_1 true) Cz ?_
    exact hansomref04_Repeats_j28_ok n_ r_1 true r h
   | false =>
    replace h := ite_f hb_8 h
    refine Cf <| Sq <| Ro <| Rc 2 [vb (r_1 == ([83, 84, 79, 83, 87] : List UInt8)), vb (r_1 == ([83, 84, 79, 83, 87] : List UInt8))] <| Rk ?_
    cases hb_9 : ((r_1 == ([83, 84, 79, 83, 87] : List UInt8)) : Bool) with
    | true =>
     replace h := ite_t hb_9 h
     refine Ct <| Runs.skip <| kS_nrm <| Runs.canon (hansomref04_Repeats_h28 r_1 true) Cz ?_
     exact hansomref04_Repeats_j28_ok n_ r_1 true r h
    | false =>
     replace h := ite_f hb_9 h
     refine Cf <| Sq <| Ro <| Rc 2 [vb (r_1 == ([76, 79, 68, 83, 66] : List UInt8)), vb (r_1 == ([76, 79, 68, 83, 66] : List UInt8))] <| Rk ?_
     cases hb_10 : ((r_1 == ([76, 79, 68, 83, 66] : List UInt8)) : Bool) with
     | true =>
      replace h := ite_t hb_10 h
      refine Ct <| Runs.skip <| kS_nrm <| Runs.canon (hansomref04_Repeats_h28 r_1 true) Cz ?_
      exact hansomref04_Repeats_j28_ok n_ r_1 true r h
     | false =>
      replace h := ite_f hb_10 h
      refine Cf <| Ro <| Rc 2 [vb (r_1 == ([76, 79, 68, 83, 87] : List UInt8)), vb (r_1 == ([76, 79, 68, 83, 87] : List UInt8))] <| Rk <| Runs.canon (hansomref04_Repeats_h28 r_1 (r_1 == ([76, 79, 68, 83, 87] : List UInt8))) Cz ?_
      exact hansomref04_Repeats_j28_ok n_ r_1 (r_1 == ([76, 79, 68, 83, 87] : List UInt8)) r h
theorem hansomref04_Repeats_L (n_ : Int) (r : Int) (h : hansomref04_Repeats n_ = some r) : L 16 [.i n_] = some (.i r, [.i n_]) := by
 obtain ⟨p, ⟨hne, hf⟩, hr⟩ := hansomref04_Repeats_ok n_ r h
 obtain ⟨k, hk⟩ := run_of (F := F16) (args := [.i n_]) (ap := [.i n_]) (bx0 := updW (fun _ => none) []) rfl rfl (by kernel_rfl) ⟨p, ⟨hne, hf⟩, hr⟩
 exact lim_run (k := k) rfl hk
def hansomref01_Fits_Q (w_ : Int) (r : Bool) (p : Out × St) : Prop := (∀ i, p.1 ≠ .exit i) ∧ finF F56 [.w w_] p.2 = some (.b r, [.w w_])
theorem hansomref01_Fits_ok (w_ : Int) (r : Bool) (h : hansomref01_Fits w_ = some r) : Runs L F56.body ⟨tmOf [.w w_] 0, updW (fun _ => none) []⟩ (hansomref01_Fits_Q w_ r) := by
 unfold hansomref01_Fits at h
 refine Sq <| Ro <| Rc 1 [vb false] <| Rk <| Sq <| Ro <| Rc 3 [vw w_, vb (decide (w_ < 128)), vb (decide (w_ < 128))] ?_
 cases hb_1 : ((decide (w_ < 128)) : Bool) with
 | true =>
  replace h := ite_t hb_1 h
  refine Rc 4 [vn, vn, vb true, vb true] <| Rk <| Runs.ret ?_
  cases h
  exact Fq
 | false =>
  replace h := ite_f hb_1 h
  refine Rc 4 [vw w_, vb (decide (w_ ≥ 65408)), vb (decide (w_ ≥ 65408)), vb (decide (w_ ≥ 65408))] <| Rk <| Runs.ret ?_
  cases h
  exact Fq
theorem hansomref01_Fits_L (w_ : Int) (r : Bool) (h : hansomref01_Fits w_ = some r) : L 56 [.w w_] = some (.b r, [.w w_]) := by
 obtain ⟨p, ⟨hne, hf⟩, hr⟩ := hansomref01_Fits_ok w_ r h
 obtain ⟨k, hk⟩ := run_of (F := F56) (args := [.w w_]) (ap := [.w w_]) (bx0 := updW (fun _ => none) []) rfl rfl (by kernel_rfl) ⟨p, ⟨hne, hf⟩, hr⟩
 exact lim_run (k := k) rfl hk
def hansomref05_Disps_Q (mod_ : Int) (rm_ : Int) (r : Int) (p : Out × St) : Prop := (∀ i, p.1 ≠ .exit i) ∧ finF F54 [.i mod_, .i rm_] p.2 = some (.i r, [.i mod_, .i rm_])
theorem hansomref05_Disps_ok (mod_ : Int) (rm_ : Int) (r : Int) (h : hansomref05_Disps mod_ rm_ = some r) : Runs L F54.body ⟨tmOf [.i mod_, .i rm_] 0, updW (fun _ => none) []⟩ (hansomref05_Disps_Q mod_ rm_ r) := by
 unfold hansomref05_Disps at h
 refine Sq <| Ro <| Rc 1 [vi 0] <| Rk <| Sq <| Sq <| Ro <| Rc 2 [vi mod_, vb (mod_ == 1)] <| Rk ?_
 cases hb_1 : ((mod_ == 1) : Bool) with
 | true =>
  replace h := ite_t hb_1 h
  refine Ct <| Sq <| Ro <| Rc 1 [vi 1] <| Rk <| Runs.ret <| kS_ret ?_
  cases h
  exact Fq
 | false =>
  replace h := ite_f hb_1 h
  refine Cf <| Runs.skip <| kS_nrm <| Sq <| Sq <| Ro <| Rc 3 [vi mod_, vb (mod_ == 2), vb (mod_ == 2)] ?_
  cases hb_2 : ((mod_ == 2) : Bool) with
  | true =>
   replace h := ite_t hb_2 h
   refine Rc 7 [vn, vn, vn, vn, vn, vn, vb true] <| Rk <| Ct <| Sq <| Ro <| Rc 1 [vi 2] <| Rk <| Runs.ret <| kS_ret ?_
   cases h
   exact Fq
  | false =>
   replace h := ite_f hb_2 h
   refine Rc 3 [vi mod_, vb (mod_ == 0), vb (mod_ == 0)] ?_
   cases hb_3 : ((mod_ == 0) : Bool) with
   | true =>
    replace h := ite_t hb_3 h
    refine Rc 4 [vi rm_, vb (rm_ == 6), vb (rm_ == 6), vb (rm_ == 6)] <| Rk ?_
    cases hb_4 : ((rm_ == 6) : Bool) with
    | true =>
     replace h := ite_t hb_4 h
     refine Ct <| Sq <| Ro <| Rc 1 [vi 2] <| Rk <| Runs.ret <| kS_ret ?_
     cases h
     exact Fq
    | false =>
     replace h := ite_f hb_4 h
     refine Cf <| Runs.skip <| kS_nrm <| Sq <| Ro <| Rc 1 [vi 0] <| Rk <| Runs.ret ?_
     cases h
     exact Fq
   | false =>
    replace h := ite_f hb_3 h
    refine Rc 4 [vn, vn, vb false, vb false] <| Rk <| Cf <| Runs.skip <| kS_nrm <| Sq <| Ro <| Rc 1 [vi 0] <| Rk <| Runs.ret ?_
    cases h
    exact Fq
theorem hansomref05_Disps_L (mod_ : Int) (rm_ : Int) (r : Int) (h : hansomref05_Disps mod_ rm_ = some r) : L 54 [.i mod_, .i rm_] = some (.i r, [.i mod_, .i rm_]) := by
 obtain ⟨p, ⟨hne, hf⟩, hr⟩ := hansomref05_Disps_ok mod_ rm_ r h
 obtain ⟨k, hk⟩ := run_of (F := F54) (args := [.i mod_, .i rm_]) (ap := [.i mod_, .i rm_]) (bx0 := updW (fun _ => none) []) rfl rfl (by kernel_rfl) ⟨p, ⟨hne, hf⟩, hr⟩
 exact lim_run (k := k) rfl hk
def hansomref05_May_h22 (i1 : Inst) (r3 : Row) : St := ⟨tab [(1, .ptr [1] 0 0), (3, .ptr [3] 0 0)], tabB [([1], some (.cells [.b i1.Lock, .i i1.Rep, .i i1.Seg, .y i1.Op, .i i1.Mod, .i i1.Reg, .i i1.RM, .w i1.Disp, .w i1.Imm, .w i1.Sel] 0)), ([3], some (.cells [.i r3.Name, .i r3.A, .i r3.B, .b r3.Mod] 0))]⟩
def hansomref05_May_h58 (i1 : Inst) (r3 : Row) : St := ⟨tab [(1, .ptr [1] 0 0), (3, .ptr [3] 0 0)], tabB [([1], some (.cells [.b i1.Lock, .i i1.Rep, .i i1.Seg, .y i1.Op, .i i1.Mod, .i i1.Reg, .i i1.RM, .w i1.Disp, .w i1.Imm, .w i1.Sel] 0)), ([3], some (.cells [.i r3.Name, .i r3.A, .i r3.B, .b r3.Mod] 0))]⟩
def hansomref05_May_h66 (i1 : Inst) (r3 : Row) (k7 : Int) : St := ⟨tab [(1, .ptr [1] 0 0), (3, .ptr [3] 0 0), (7, .i k7)], tabB [([1], some (.cells [.b i1.Lock, .i i1.Rep, .i i1.Seg, .y i1.Op, .i i1.Mod, .i i1.Reg, .i i1.RM, .w i1.Disp, .w i1.Imm, .w i1.Sel] 0)), ([3], some (.cells [.i r3.Name, .i r3.A, .i r3.B, .b r3.Mod] 0))]⟩
def hansomref05_May_h82 (i1 : Inst) (t155 : Int) (t181 : Bool) : St := ⟨tab [(1, .ptr [1] 0 0), (155, .i t155), (181, .b t181)], tabB [([1], some (.cells [.b i1.Lock, .i i1.Rep, .i i1.Seg, .y i1.Op, .i i1.Mod, .i i1.Reg, .i i1.RM, .w i1.Disp, .w i1.Imm, .w i1.Sel] 0))]⟩
def hansomref05_May_h49 (i1 : Inst) (r3 : Row) : St := ⟨tab [(1, .ptr [1] 0 0), (3, .ptr [3] 0 0)], tabB [([1], some (.cells [.b i1.Lock, .i i1.Rep, .i i1.Seg, .y i1.Op, .i i1.Mod, .i i1.Reg, .i i1.RM, .w i1.Disp, .w i1.Imm, .w i1.Sel] 0)), ([3], some (.cells [.i r3.Name, .i r3.A, .i r3.B, .b r3.Mod] 0))]⟩
def hansomref05_May_Q (i_ : Inst) (r : Bool) (p : Out × St) : Prop := (∀ i, p.1 ≠ .exit i) ∧ finF F25 [.d (Inst.d i_)] p.2 = some (.b r, [.d (Inst.d i_)])
theorem hansomref05_May_j82_ok (i_ : Inst) (i1 : Inst) (t155 : Int) (t181 : Bool) (r : Bool) (h : hansomref05_May_j82 i1 t155 t181 = some r) : Runs L F25b82 (hansomref05_May_h82 i1 t155 t181) (kB 0 (kS L F25c111 (hansomref05_May_Q i_ r))) := by
 unfold hansomref05_May_j82 at h
 cases hb_22 : (t181 : Bool) with
 | true =>
  replace h := ite_t hb_22 h
  refine Ct <| Sq <| Ro <| Rc 2 [vp [1] 0 8, vw i1.Imm] ?_
  obtain ⟨r_4, hr_4, h⟩ := bind_s h
  have hc_4 := hansomref01_Fits_L i1.Imm r_4 hr_4
  refine Rt (some 186) (.callf 56) [] none [.w i1.Imm] (.b r_4) [] (cc hc_4) <| Rc 1 [vb r_4] ?_
  cases hb_23 : (r_4 : Bool) with
  | true =>
   replace h := ite_t hb_23 h
   refine Rc 5 [vp [1] 0 9, vw i1.Sel, vb (i1.Sel == 0), vb (i1.Sel == 0), vb (i1.Sel == 0)] <| Rk <| Runs.ret <| kB_ret <| kS_ret ?_
   cases h
   exact Fq
  | false =>
   replace h := ite_f hb_23 h
   refine Rc 5 [vn, vn, vn, vb false, vb false] <| Rk <| Runs.ret <| kB_ret <| kS_ret ?_
   cases h
   exact Fq
 | false =>
  replace h := ite_f hb_22 h
  refine Cf <| Sq <| Sq <| Ro <| Rc 2 [vb (t155 == 7), vb (t155 == 7)] <| Rk ?_
  cases hb_24 : ((t155 == 7) : Bool) with
  | true =>
   replace h := ite_t hb_24 h
   refine Ct <| Runs.skip <| kS_nrm <| Ct <| Sq <| Ro <| Rc 4 [vp [1] 0 9, vw i1.Sel, vb (i1.Sel == 0), vb (i1.Sel == 0)] <| Rk <| Runs.ret <| kB_ret <| kS_ret ?_
   cases h
   exact Fq
  | false =>
   replace h := ite_f hb_24 h
   refine Cf <| Sq <| Ro <| Rc 2 [vb (t155 == 10), vb (t155 == 10)] <| Rk ?_
   cases hb_25 : ((t155 == 10) : Bool) with
   | true =>
    replace h := ite_t hb_25 h
    refine Ct <| Runs.skip <| kS_nrm <| Ct <| Sq <| Ro <| Rc 4 [vp [1] 0 9, vw i1.Sel, vb (i1.Sel == 0), vb (i1.Sel == 0)] <| Rk <| Runs.ret <| kB_ret <| kS_ret ?_
    cases h
    exact Fq
   | false =>
    replace h := ite_f hb_25 h
    refine Cf <| Sq <| Ro <| Rc 2 [vb (t155 == 12), vb (t155 == 12)] <| Rk ?_
    cases hb_26 : ((t155 == 12) : Bool) with
    | true =>
     replace h := ite_t hb_26 h
     refine Ct <| Runs.skip <| kS_nrm <| Ct <| Sq <| Ro <| Rc 4 [vp [1] 0 9, vw i1.Sel, vb (i1.Sel == 0), vb (i1.Sel == 0)] <| Rk <| Runs.ret <| kB_ret <| kS_ret ?_
     cases h
     exact Fq
    | false =>
     replace h := ite_f hb_26 h
     refine Cf <| Ro <| Rc 2 [vb (t155 == 13), vb (t155 == 13)] <| Rk ?_
     cases hb_27 : ((t155 == 13) : Bool) with
     | true =>
      replace h := ite_t hb_27 h
      refine Ct <| Sq <| Ro <| Rc 4 [vp [1] 0 9, vw i1.Sel, vb (i1.Sel == 0), vb (i1.Sel == 0)] <| Rk <| Runs.ret <| kB_ret <| kS_ret ?_
      cases h
      exact Fq
     | false =>
      replace h := ite_f hb_27 h
      refine Cf <| Sq <| Ro <| Rc 2 [vb (t155 == 11), vb (t155 == 11)] <| Rk ?_
      cases hb_28 : ((t155 == 11) : Bool) with
      | true =>
       replace h := ite_t hb_28 h
       refine Ct <| Sq <| Ro <| Rc 1 [vb true] <| Rk <| Runs.ret <| kB_ret <| kS_ret ?_
       cases h
       exact Fq
      | false =>
       replace h := ite_f hb_28 h
       refine Cf <| Runs.skip <| kB_nrm <| kS_nrm <| Sq <| Ro <| Rc 4 [vp [1] 0 8, vw i1.Imm, vb (i1.Imm == 0), vb (i1.Imm == 0)] ?_
       cases hb_29 : ((i1.Imm == 0) : Bool) with
       | true =>
        replace h := ite_t hb_29 h
        refine Rc 5 [vp [1] 0 9, vw i1.Sel, vb (i1.Sel == 0), vb (i1.Sel == 0), vb (i1.Sel == 0)] <| Rk <| Runs.ret ?_
        cases h
        exact Fq
       | false =>
        replace h := ite_f hb_29 h
        refine Rc 5 [vn, vn, vn, vb false, vb false] <| Rk <| Runs.ret ?_
        cases h
        exact Fq
theorem hansomref05_May_j66_ok (i_ : Inst) (i1 : Inst) (r3 : Row) (k7 : Int) (r : Bool) (h : hansomref05_May_j66 i1 r3 k7 = some r) : Runs L F25b66 (hansomref05_May_h66 i1 r3 k7) (hansomref05_May_Q i_ r) := by
 unfold hansomref05_May_j66 at h
 refine Sq <| Sq <| Ro <| Rc 1 [vi k7] <| Rk <| Runs.block <| Sq <| Ro <| Rc 2 [vb (k7 == 6), vb (k7 == 6)] <| Rk ?_
 cases hb_16 : ((k7 == 6) : Bool) with
 | true =>
  replace h := ite_t hb_16 h
  refine Ct <| Sq <| Ro <| Rc 4 [vp [1] 0 8, vw i1.Imm, vb (decide (i1.Imm < 256)), vb (decide (i1.Imm < 256))] ?_
  cases hb_17 : ((decide (i1.Imm < 256)) : Bool) with
  | true =>
   replace h := ite_t hb_17 h
   refine Rc 5 [vp [1] 0 9, vw i1.Sel, vb (i1.Sel == 0), vb (i1.Sel == 0), vb (i1.Sel == 0)] ?_
   cases hb_18 : ((i1.Sel == 0) : Bool) with
   | true =>
    replace h := ite_t hb_18 h
    refine Rc 4 [vp [3] 0 0, vi r3.Name, vb (r3.Name != 70), vb (r3.Name != 70)] ?_
    cases hb_19 : ((r3.Name != 70) : Bool) with
    | true =>
     replace h := ite_t hb_19 h
     refine Rc 5 [vp [3] 0 0, vi r3.Name, vb (r3.Name != 71), vb (r3.Name != 71), vb (r3.Name != 71)] ?_
     cases hb_20 : ((r3.Name != 71) : Bool) with
     | true =>
      replace h := ite_t hb_20 h
      refine Rc 6 [vn, vn, vn, vb true, vb true, vb true] <| Rk <| Runs.ret <| kB_ret <| kS_ret ?_
      cases h
      exact Fq
     | false =>
      replace h := ite_f hb_20 h
      refine Rc 6 [vp [1] 0 8, vw i1.Imm, vb (i1.Imm == 10), vb (i1.Imm == 10), vb (i1.Imm == 10), vb (i1.Imm == 10)] <| Rk <| Runs.ret <| kB_ret <| kS_ret ?_
      cases h
      exact Fq
    | false =>
     replace h := ite_f hb_19 h
     refine Rc 11 [vn, vn, vn, vb false, vb false, vp [1] 0 8, vw i1.Imm, vb (i1.Imm == 10), vb (i1.Imm == 10), vb (i1.Imm == 10), vb (i1.Imm == 10)] <| Rk <| Runs.ret <| kB_ret <| kS_ret ?_
     cases h
     exact Fq
   | false =>
    replace h := ite_f hb_18 h
    refine Rc 15 [vn, vn, vn, vn, vn, vn, vn, vn, vn, vn, vn, vn, vn, vb false, vb false] <| Rk <| Runs.ret <| kB_ret <| kS_ret ?_
    cases h
    exact Fq
  | false =>
   replace h := ite_f hb_17 h
   refine Rc 20 [vn, vn, vn, vb false, vb false, vn, vn, vn, vn, vn, vn, vn, vn, vn, vn, vn, vn, vn, vb false, vb false] <| Rk <| Runs.ret <| kB_ret <| kS_ret ?_
   cases h
   exact Fq
 | false =>
  replace h := ite_f hb_16 h
  refine Cf <| Sq <| Sq <| Ro <| Rc 2 [vb (k7 == 8), vb (k7 == 8)] <| Rk ?_
  cases hb_21 : ((k7 == 8) : Bool) with
  | true =>
   replace h := ite_t hb_21 h
   refine Ct <| Runs.skip <| kS_nrm <| Runs.canon (hansomref05_May_h82 i1 k7 true) Cz ?_
   exact hansomref05_May_j82_ok i_ i1 k7 true r h
  | false =>
   replace h := ite_f hb_21 h
   refine Cf <| Ro <| Rc 2 [vb (k7 == 9), vb (k7 == 9)] <| Rk <| Runs.canon (hansomref05_May_h82 i1 k7 (k7 == 9)) Cz ?_
   exact hansomref05_May_j82_ok i_ i1 k7 (k7 == 9) r h
theorem hansomref05_May_j58_ok (i_ : Inst) (i1 : Inst) (r3 : Row) (r : Bool) (h : hansomref05_May_j58 i1 r3 = some r) : Runs L F25b58 (hansomref05_May_h58 i1 r3) (hansomref05_May_Q i_ r) := by
 unfold hansomref05_May_j58 at h
 refine Sq <| Ro <| Rc 3 [vp [3] 0 1, vi r3.A, vi r3.A] <| Rk <| Sq <| Sq <| Ro <| Rc 1 [vi r3.A] ?_
 obtain ⟨r_3, hr_3, h⟩ := bind_s h
 have hc_3 := hansomref04_Bytes_L r3.A r_3 hr_3
 refine Rt (some 151) (.callf 18) [] none [.i r3.A] (.i r_3) [] (cc hc_3) <| Rc 1 [vb (r_3 == 0)] <| Rk ?_
 cases hb_15 : ((r_3 == 0) : Bool) with
 | true =>
  replace h := ite_t hb_15 h
  refine Ct <| Ro <| Rc 3 [vp [3] 0 2, vi r3.B, vi r3.B] <| Rk <| Runs.canon (hansomref05_May_h66 i1 r3 r3.B) Cz ?_
  exact hansomref05_May_j66_ok i_ i1 r3 r3.B r h
 | false =>
  replace h := ite_f hb_15 h
  refine Cf <| Runs.skip <| kS_nrm <| Runs.canon (hansomref05_May_h66 i1 r3 r3.A) Cz ?_
  exact hansomref05_May_j66_ok i_ i1 r3 r3.A r h
theorem hansomref05_May_j49_ok (i_ : Inst) (i1 : Inst) (r3 : Row) (r : Bool) (h : hansomref05_May_j49 i1 r3 = some r) : Runs L F25b49 (hansomref05_May_h49 i1 r3) (kS L F25c58 (hansomref05_May_Q i_ r)) := by
 unfold hansomref05_May_j49 at h
 refine Sq <| Ro <| Rc 4 [vp [1] 0 4, vi i1.Mod, vp [1] 0 6, vi i1.RM] ?_
 obtain ⟨r_5, hr_5, h⟩ := bind_s h
 have hc_5 := hansomref05_Disps_L i1.Mod i1.RM r_5 hr_5
 refine Rt (some 130) (.callf 54) [] none [.i i1.Mod, .i i1.RM] (.i r_5) [] (cc hc_5) <| Rc 1 [vi r_5] <| Rk <| Sq <| Ro <| Rc 3 [vi r_5, vb (r_5 == 0), vb (r_5 == 0)] ?_
 cases hb_41 : ((r_5 == 0) : Bool) with
 | true =>
  replace h := ite_t hb_41 h
  refine Rc 5 [vp [1] 0 7, vw i1.Disp, vb (i1.Disp != 0), vb (i1.Disp != 0), vb (i1.Disp != 0)] ?_
  cases hb_42 : ((i1.Disp != 0) : Bool) with
  | true =>
   replace h := ite_t hb_42 h
   refine Rc 9 [vn, vn, vn, vn, vn, vn, vn, vn, vb true] <| Rk <| Ct <| Sq <| Ro <| Rc 1 [vb false] <| Rk <| Runs.ret <| kS_ret ?_
   cases h
   exact Fq
  | false =>
   replace h := ite_f hb_42 h
   refine Rc 3 [vi r_5, vb (r_5 == 1), vb (r_5 == 1)] ?_
   cases hb_43 : ((r_5 == 1) : Bool) with
   | true =>
    replace h := ite_t hb_43 h
    refine Rc 2 [vp [1] 0 7, vw i1.Disp] ?_
    obtain ⟨r_6, hr_6, h⟩ := bind_s h
    have hc_6 := hansomref01_Fits_L i1.Disp r_6 hr_6
    refine Rt (some 144) (.callf 56) [] none [.w i1.Disp] (.b r_6) [] (cc hc_6) <| Rc 3 [vb (!r_6), vb (!r_6), vb (!r_6)] <| Rk ?_
    cases hb_44 : ((!r_6) : Bool) with
    | true =>
     replace h := ite_t hb_44 h
     refine Ct <| Sq <| Ro <| Rc 1 [vb false] <| Rk <| Runs.ret <| kS_ret ?_
     cases h
     exact Fq
    | false =>
     replace h := ite_f hb_44 h
     refine Cf <| Runs.skip <| kS_nrm <| Runs.canon (hansomref05_May_h58 i1 r3) Cz ?_
     exact hansomref05_May_j58_ok i_ i1 r3 r h
   | false =>
    replace h := ite_f hb_43 h
    refine Rc 6 [vn, vn, vn, vn, vb false, vb false] <| Rk <| Cf <| Runs.skip <| kS_nrm <| Runs.canon (hansomref05_May_h58 i1 r3) Cz ?_
    exact hansomref05_May_j58_ok i_ i1 r3 r h
 | false =>
  replace h := ite_f hb_41 h
  refine Rc 8 [vn, vn, vn, vb false, vb false, vi r_5, vb (r_5 == 1), vb (r_5 == 1)] ?_
  cases hb_45 : ((r_5 == 1) : Bool) with
  | true =>
   replace h := ite_t hb_45 h
   refine Rc 2 [vp [1] 0 7, vw i1.Disp] ?_
   obtain ⟨r_7, hr_7, h⟩ := bind_s h
   have hc_7 := hansomref01_Fits_L i1.Disp r_7 hr_7
   refine Rt (some 144) (.callf 56) [] none [.w i1.Disp] (.b r_7) [] (cc hc_7) <| Rc 3 [vb (!r_7), vb (!r_7), vb (!r_7)] <| Rk ?_
   cases hb_46 : ((!r_7) : Bool) with
   | true =>
    replace h := ite_t hb_46 h
    refine Ct <| Sq <| Ro <| Rc 1 [vb false] <| Rk <| Runs.ret <| kS_ret ?_
    cases h
    exact Fq
   | false =>
    replace h := ite_f hb_46 h
    refine Cf <| Runs.skip <| kS_nrm <| Runs.canon (hansomref05_May_h58 i1 r3) Cz ?_
    exact hansomref05_May_j58_ok i_ i1 r3 r h
  | false =>
   replace h := ite_f hb_45 h
   refine Rc 6 [vn, vn, vn, vn, vb false, vb false] <| Rk <| Cf <| Runs.skip <| kS_nrm <| Runs.canon (hansomref05_May_h58 i1 r3) Cz ?_
   exact hansomref05_May_j58_ok i_ i1 r3 r h
theorem hansomref05_May_j22_ok (i_ : Inst) (i1 : Inst) (r3 : Row) (r : Bool) (h : hansomref05_May_j22 i1 r3 = some r) : Runs L F25b22 (hansomref05_May_h22 i1 r3) (hansomref05_May_Q i_ r) := by
 unfold hansomref05_May_j22 at h
 refine Sq <| Sq <| Ro <| Rc 3 [vp [3] 0 3, vb r3.Mod, vb (!r3.Mod)] <| Rk ?_
 cases hb_10 : ((!r3.Mod) : Bool) with
 | true =>
  replace h := ite_t hb_10 h
  refine Ct <| Sq <| Ro <| Rc 4 [vp [1] 0 4, vi i1.Mod, vb (i1.Mod != 0), vb (i1.Mod != 0)] ?_
  cases hb_11 : ((i1.Mod != 0) : Bool) with
  | true =>
   replace h := ite_t hb_11 h
   refine Rc 14 [vn, vn, vn, vb true, vb true, vn, vn, vn, vb true, vb true, vn, vn, vn, vb true] <| Rk <| Ct <| Sq <| Ro <| Rc 1 [vb false] <| Rk <| Runs.ret <| kS_ret ?_
   cases h
   exact Fq
  | false =>
   replace h := ite_f hb_11 h
   refine Rc 5 [vp [1] 0 5, vi i1.Reg, vb (i1.Reg != 0), vb (i1.Reg != 0), vb (i1.Reg != 0)] ?_
   cases hb_12 : ((i1.Reg != 0) : Bool) with
   | true =>
    replace h := ite_t hb_12 h
    refine Rc 9 [vn, vn, vn, vb true, vb true, vn, vn, vn, vb true] <| Rk <| Ct <| Sq <| Ro <| Rc 1 [vb false] <| Rk <| Runs.ret <| kS_ret ?_
    cases h
    exact Fq
   | false =>
    replace h := ite_f hb_12 h
    refine Rc 5 [vp [1] 0 6, vi i1.RM, vb (i1.RM != 0), vb (i1.RM != 0), vb (i1.RM != 0)] ?_
    cases hb_13 : ((i1.RM != 0) : Bool) with
    | true =>
     replace h := ite_t hb_13 h
     refine Rc 4 [vn, vn, vn, vb true] <| Rk <| Ct <| Sq <| Ro <| Rc 1 [vb false] <| Rk <| Runs.ret <| kS_ret ?_
     cases h
     exact Fq
    | false =>
     replace h := ite_f hb_13 h
     refine Rc 4 [vp [1] 0 7, vw i1.Disp, vb (i1.Disp != 0), vb (i1.Disp != 0)] <| Rk ?_
     cases hb_14 : ((i1.Disp != 0) : Bool) with
     | true =>
      replace h := ite_t hb_14 h
      refine Ct <| Sq <| Ro <| Rc 1 [vb false] <| Rk <| Runs.ret <| kS_ret ?_
      cases h
      exact Fq
     | false =>
      replace h := ite_f hb_14 h
      refine Cf <| Runs.skip <| kS_nrm <| Runs.canon (hansomref05_May_h58 i1 r3) Cz ?_
      exact hansomref05_May_j58_ok i_ i1 r3 r h
 | false =>
  replace h := ite_f hb_10 h
  refine Cf <| Sq <| Sq <| Ro <| Rc 4 [vp [1] 0 4, vi i1.Mod, vb (decide (i1.Mod < 0)), vb (decide (i1.Mod < 0))] ?_
  cases hb_30 : ((decide (i1.Mod < 0)) : Bool) with
  | true =>
   replace h := ite_t hb_30 h
   refine Rc 24 [vn, vn, vn, vb true, vb true, vn, vn, vn, vb true, vb true, vn, vn, vn, vb true, vb true, vn, vn, vn, vb true, vb true, vn, vn, vn, vb true] <| Rk <| Ct <| Sq <| Ro <| Rc 1 [vb false] <| Rk <| Runs.ret <| kS_ret <| kS_ret ?_
   cases h
   exact Fq
  | false =>
   replace h := ite_f hb_30 h
   refine Rc 5 [vp [1] 0 4, vi i1.Mod, vb (decide (i1.Mod > 3)), vb (decide (i1.Mod > 3)), vb (decide (i1.Mod > 3))] ?_
   cases hb_31 : ((decide (i1.Mod > 3)) : Bool) with
   | true =>
    replace h := ite_t hb_31 h
    refine Rc 19 [vn, vn, vn, vb true, vb true, vn, vn, vn, vb true, vb true, vn, vn, vn, vb true, vb true, vn, vn, vn, vb true] <| Rk <| Ct <| Sq <| Ro <| Rc 1 [vb false] <| Rk <| Runs.ret <| kS_ret <| kS_ret ?_
    cases h
    exact Fq
   | false =>
    replace h := ite_f hb_31 h
    refine Rc 5 [vp [1] 0 5, vi i1.Reg, vb (decide (i1.Reg < 0)), vb (decide (i1.Reg < 0)), vb (decide (i1.Reg < 0))] ?_
    cases hb_32 : ((decide (i1.Reg < 0)) : Bool) with
    | true =>
     replace h := ite_t hb_32 h
     refine Rc 14 [vn, vn, vn, vb true, vb true, vn, vn, vn, vb true, vb true, vn, vn, vn, vb true] <| Rk <| Ct <| Sq <| Ro <| Rc 1 [vb false] <| Rk <| Runs.ret <| kS_ret <| kS_ret ?_
     cases h
     exact Fq
    | false =>
     replace h := ite_f hb_32 h
     refine Rc 5 [vp [1] 0 5, vi i1.Reg, vb (decide (i1.Reg > 7)), vb (decide (i1.Reg > 7)), vb (decide (i1.Reg > 7))] ?_
     cases hb_33 : ((decide (i1.Reg > 7)) : Bool) with
     | true =>
      replace h := ite_t hb_33 h
      refine Rc 9 [vn, vn, vn, vb true, vb true, vn, vn, vn, vb true] <| Rk <| Ct <| Sq <| Ro <| Rc 1 [vb false] <| Rk <| Runs.ret <| kS_ret <| kS_ret ?_
      cases h
      exact Fq
     | false =>
      replace h := ite_f hb_33 h
      refine Rc 5 [vp [1] 0 6, vi i1.RM, vb (decide (i1.RM < 0)), vb (decide (i1.RM < 0)), vb (decide (i1.RM < 0))] ?_
      cases hb_34 : ((decide (i1.RM < 0)) : Bool) with
      | true =>
       replace h := ite_t hb_34 h
       refine Rc 4 [vn, vn, vn, vb true] <| Rk <| Ct <| Sq <| Ro <| Rc 1 [vb false] <| Rk <| Runs.ret <| kS_ret <| kS_ret ?_
       cases h
       exact Fq
      | false =>
       replace h := ite_f hb_34 h
       refine Rc 4 [vp [1] 0 6, vi i1.RM, vb (decide (i1.RM > 7)), vb (decide (i1.RM > 7))] <| Rk ?_
       cases hb_35 : ((decide (i1.RM > 7)) : Bool) with
       | true =>
        replace h := ite_t hb_35 h
        refine Ct <| Sq <| Ro <| Rc 1 [vb false] <| Rk <| Runs.ret <| kS_ret <| kS_ret ?_
        cases h
        exact Fq
       | false =>
        replace h := ite_f hb_35 h
        refine Cf <| Runs.skip <| kS_nrm <| Sq <| Sq <| Ro <| Rc 4 [vp [1] 0 4, vi i1.Mod, vb (i1.Mod == 3), vb (i1.Mod == 3)] ?_
        cases hb_36 : ((i1.Mod == 3) : Bool) with
        | true =>
         replace h := ite_t hb_36 h
         refine Rc 4 [vp [3] 0 1, vi r3.A, vb (r3.A == 19), vb (r3.A == 19)] ?_
         cases hb_37 : ((r3.A == 19) : Bool) with
         | true =>
          replace h := ite_t hb_37 h
          refine Rc 15 [vn, vn, vn, vb true, vb true, vn, vn, vn, vb true, vb true, vn, vn, vn, vb true, vb true] <| Rk <| Ct <| Sq <| Ro <| Rc 1 [vb false] <| Rk <| Runs.ret <| kS_ret <| kS_ret ?_
          cases h
          exact Fq
         | false =>
          replace h := ite_f hb_37 h
          refine Rc 5 [vp [3] 0 1, vi r3.A, vb (r3.A == 20), vb (r3.A == 20), vb (r3.A == 20)] ?_
          cases hb_38 : ((r3.A == 20) : Bool) with
          | true =>
           replace h := ite_t hb_38 h
           refine Rc 10 [vn, vn, vn, vb true, vb true, vn, vn, vn, vb true, vb true] <| Rk <| Ct <| Sq <| Ro <| Rc 1 [vb false] <| Rk <| Runs.ret <| kS_ret <| kS_ret ?_
           cases h
           exact Fq
          | false =>
           replace h := ite_f hb_38 h
           refine Rc 5 [vp [3] 0 2, vi r3.B, vb (r3.B == 19), vb (r3.B == 19), vb (r3.B == 19)] ?_
           cases hb_39 : ((r3.B == 19) : Bool) with
           | true =>
            replace h := ite_t hb_39 h
            refine Rc 5 [vn, vn, vn, vb true, vb true] <| Rk <| Ct <| Sq <| Ro <| Rc 1 [vb false] <| Rk <| Runs.ret <| kS_ret <| kS_ret ?_
            cases h
            exact Fq
           | false =>
            replace h := ite_f hb_39 h
            refine Rc 5 [vp [3] 0 2, vi r3.B, vb (r3.B == 20), vb (r3.B == 20), vb (r3.B == 20)] <| Rk ?_
            cases hb_40 : ((r3.B == 20) : Bool) with
            | true =>
             replace h := ite_t hb_40 h
             refine Ct <| Sq <| Ro <| Rc 1 [vb false] <| Rk <| Runs.ret <| kS_ret <| kS_ret ?_
             cases h
             exact Fq
            | false =>
             replace h := ite_f hb_40 h
             refine Cf <| Runs.skip <| kS_nrm <| Runs.canon (hansomref05_May_h49 i1 r3) Cz ?_
             exact hansomref05_May_j49_ok i_ i1 r3 r h
        | false =>
         replace h := ite_f hb_36 h
         refine Rc 19 [vn, vn, vn, vn, vn, vn, vn, vn, vn, vn, vn, vn, vn, vn, vn, vn, vn, vn, vb false] <| Rk <| Cf <| Runs.skip <| kS_nrm <| Runs.canon (hansomref05_May_h49 i1 r3) Cz ?_
         exact hansomref05_May_j49_ok i_ i1 r3 r h
theorem hansomref05_May_ok (i_ : Inst) (r : Bool) (h : hansomref05_May i_ = some r) : Runs L F25.body ⟨tmOf [.d (Inst.d i_)] 0, updW (fun _ => none) []⟩ (hansomref05_May_Q i_ r) := by
 unfold hansomref05_May at h
 refine Sq <| Ro <| Rc 2 [⟨.ptr [1] 0 0, [([1], some (.cells [.b i_.Lock, .i i_.Rep, .i i_.Seg, .y i_.Op, .i i_.Mod, .i i_.Reg, .i i_.RM, .w i_.Disp, .w i_.Imm, .w i_.Sel] 0))]⟩, vb false] <| Rk <| Sq <| Ro <| Rc 1 [⟨.d (Inst.d i_), []⟩] ?_
 obtain ⟨r_1, hr_1, h⟩ := bind_s h
 have hc_1 := hansomref05_Row_L i_ r_1 hr_1
 refine Rt (some 10) (.callf 26) [] none [.d (Inst.d i_)] (.tup [.d (Row.d r_1.1), .b r_1.2]) [] (cc hc_1) <| Rc 6 [⟨.tup [.d (Row.d r_1.1), .b r_1.2], []⟩, ⟨.d (Row.d r_1.1), []⟩, vb r_1.2, ⟨.ptr [3] 0 0, [([3], some (.cells [.i 0, .i 0, .i 0, .b false] 0))]⟩, ⟨.tup [], [([3], some (.cells [.i r_1.1.Name, .i r_1.1.A, .i r_1.1.B, .b r_1.1.Mod] 0))]⟩, vb r_1.2] <| Rk <| Sq <| Sq <| Ro <| Rc 3 [vb r_1.2, vb (!r_1.2), vb (!r_1.2)] ?_
 cases hb_1 : ((!r_1.2) : Bool) with
 | true =>
  replace h := ite_t hb_1 h
  refine Rc 9 [vn, vn, vn, vb true, vb true, vn, vn, vn, vb true] <| Rk <| Ct <| Sq <| Ro <| Rc 1 [vb false] <| Rk <| Runs.ret <| kS_ret ?_
  cases h
  exact Fq
 | false =>
  replace h := ite_f hb_1 h
  refine Rc 5 [vp [1] 0 2, vi i_.Seg, vb (decide (i_.Seg < 0)), vb (decide (i_.Seg < 0)), vb (decide (i_.Seg < 0))] ?_
  cases hb_2 : ((decide (i_.Seg < 0)) : Bool) with
  | true =>
   replace h := ite_t hb_2 h
   refine Rc 4 [vn, vn, vn, vb true] <| Rk <| Ct <| Sq <| Ro <| Rc 1 [vb false] <| Rk <| Runs.ret <| kS_ret ?_
   cases h
   exact Fq
  | false =>
   replace h := ite_f hb_2 h
   refine Rc 4 [vp [1] 0 2, vi i_.Seg, vb (decide (i_.Seg > 4)), vb (decide (i_.Seg > 4))] <| Rk ?_
   cases hb_3 : ((decide (i_.Seg > 4)) : Bool) with
   | true =>
    replace h := ite_t hb_3 h
    refine Ct <| Sq <| Ro <| Rc 1 [vb false] <| Rk <| Runs.ret <| kS_ret ?_
    cases h
    exact Fq
   | false =>
    replace h := ite_f hb_3 h
    refine Cf <| Runs.skip <| kS_nrm <| Sq <| Ro <| Rc 2 [vp [3] 0 0, vi r_1.1.Name] ?_
    obtain ⟨r_2, hr_2, h⟩ := bind_s h
    have hc_2 := hansomref04_Repeats_L r_1.1.Name r_2 hr_2
    refine Rt (some 27) (.callf 16) [] none [.i r_1.1.Name] (.i r_2) [] (cc hc_2) <| Rc 1 [vi r_2] <| Rk <| Sq <| Sq <| Ro <| Rc 4 [vp [1] 0 1, vi i_.Rep, vb (decide (i_.Rep < 0)), vb (decide (i_.Rep < 0))] ?_
    cases hb_4 : ((decide (i_.Rep < 0)) : Bool) with
    | true =>
     replace h := ite_t hb_4 h
     refine Rc 22 [vn, vn, vn, vb true, vb true, vn, vn, vn, vn, vn, vn, vn, vb true, vb true, vn, vn, vn, vn, vn, vn, vn, vb true] <| Rk <| Ct <| Sq <| Ro <| Rc 1 [vb false] <| Rk <| Runs.ret <| kS_ret ?_
     cases h
     exact Fq
    | false =>
     replace h := ite_f hb_4 h
     refine Rc 5 [vp [1] 0 1, vi i_.Rep, vb (decide (i_.Rep > 2)), vb (decide (i_.Rep > 2)), vb (decide (i_.Rep > 2))] ?_
     cases hb_5 : ((decide (i_.Rep > 2)) : Bool) with
     | true =>
      replace h := ite_t hb_5 h
      refine Rc 17 [vn, vn, vn, vn, vn, vn, vn, vb true, vb true, vn, vn, vn, vn, vn, vn, vn, vb true] <| Rk <| Ct <| Sq <| Ro <| Rc 1 [vb false] <| Rk <| Runs.ret <| kS_ret ?_
      cases h
      exact Fq
     | false =>
      replace h := ite_f hb_5 h
      refine Rc 4 [vp [1] 0 1, vi i_.Rep, vb (i_.Rep == 1), vb (i_.Rep == 1)] ?_
      cases hb_6 : ((i_.Rep == 1) : Bool) with
      | true =>
       replace h := ite_t hb_6 h
       refine Rc 5 [vi r_2, vb (decide (r_2 < 2)), vb (decide (r_2 < 2)), vb (decide (r_2 < 2)), vb (decide (r_2 < 2))] ?_
       cases hb_7 : ((decide (r_2 < 2)) : Bool) with
       | true =>
        replace h := ite_t hb_7 h
        refine Rc 8 [vn, vn, vn, vn, vn, vn, vn, vb true] <| Rk <| Ct <| Sq <| Ro <| Rc 1 [vb false] <| Rk <| Runs.ret <| kS_ret ?_
        cases h
        exact Fq
       | false =>
        replace h := ite_f hb_7 h
        refine Rc 4 [vp [1] 0 1, vi i_.Rep, vb (i_.Rep == 2), vb (i_.Rep == 2)] ?_
        cases hb_8 : ((i_.Rep == 2) : Bool) with
        | true =>
         replace h := ite_t hb_8 h
         refine Rc 4 [vi r_2, vb (decide (r_2 < 1)), vb (decide (r_2 < 1)), vb (decide (r_2 < 1))] <| Rk ?_
         cases hb_9 : ((decide (r_2 < 1)) : Bool) with
         | true =>
          replace h := ite_t hb_9 h
          refine Ct <| Sq <| Ro <| Rc 1 [vb false] <| Rk <| Runs.ret <| kS_ret ?_
          cases h
          exact Fq
         | false =>
          replace h := ite_f hb_9 h
          refine Cf <| Runs.skip <| kS_nrm <| Runs.canon (hansomref05_May_h22 i_ r_1.1) Cz ?_
          exact hansomref05_May_j22_ok i_ i_ r_1.1 r h
        | false =>
         replace h := ite_f hb_8 h
         refine Rc 4 [vn, vn, vb false, vb false] <| Rk <| Cf <| Runs.skip <| kS_nrm <| Runs.canon (hansomref05_May_h22 i_ r_1.1) Cz ?_
         exact hansomref05_May_j22_ok i_ i_ r_1.1 r h
      | false =>
       replace h := ite_f hb_6 h
       refine Rc 9 [vn, vn, vb false, vb false, vb false, vp [1] 0 1, vi i_.Rep, vb (i_.Rep == 2), vb (i_.Rep == 2)] ?_
       cases hb_47 : ((i_.Rep == 2) : Bool) with
       | true =>
        replace h := ite_t hb_47 h
        refine Rc 4 [vi r_2, vb (decide (r_2 < 1)), vb (decide (r_2 < 1)), vb (decide (r_2 < 1))] <| Rk ?_
        cases hb_48 : ((decide (r_2 < 1)) : Bool) with
        | true =>
         replace h := ite_t hb_48 h
         refine Ct <| Sq <| Ro <| Rc 1 [vb false] <| Rk <| Runs.ret <| kS_ret ?_
         cases h
         exact Fq
        | false =>
         replace h := ite_f hb_48 h
         refine Cf <| Runs.skip <| kS_nrm <| Runs.canon (hansomref05_May_h22 i_ r_1.1) Cz ?_
         exact hansomref05_May_j22_ok i_ i_ r_1.1 r h
       | false =>
        replace h := ite_f hb_47 h
        refine Rc 4 [vn, vn, vb false, vb false] <| Rk <| Cf <| Runs.skip <| kS_nrm <| Runs.canon (hansomref05_May_h22 i_ r_1.1) Cz ?_
        exact hansomref05_May_j22_ok i_ i_ r_1.1 r h
theorem hansomref05_May_L (i_ : Inst) (r : Bool) (h : hansomref05_May i_ = some r) : L 25 [.d (Inst.d i_)] = some (.b r, [.d (Inst.d i_)]) := by
 obtain ⟨p, ⟨hne, hf⟩, hr⟩ := hansomref05_May_ok i_ r h
 obtain ⟨k, hk⟩ := run_of (F := F25) (args := [.d (Inst.d i_)]) (ap := [.d (Inst.d i_)]) (bx0 := updW (fun _ => none) []) rfl rfl (by kernel_rfl) ⟨p, ⟨hne, hf⟩, hr⟩
 exact lim_run (k := k) rfl hk
def hansomref01_Sign_Q (b_ : Int) (r : Int) (p : Out × St) : Prop := (∀ i, p.1 ≠ .exit i) ∧ finF F55 [.y b_] p.2 = some (.w r, [.y b_])
theorem hansomref01_Sign_ok (b_ : Int) (r : Int) (h : hansomref01_Sign b_ = some r) : Runs L F55.body ⟨tmOf [.y b_] 0, updW (fun _ => none) []⟩ (hansomref01_Sign_Q b_ r) := by
 unfold hansomref01_Sign at h
 refine Sq <| Ro <| Rc 1 [vw 0] <| Rk <| Sq <| Sq <| Ro <| Rc 2 [vy b_, vb (decide (b_ < 128))] <| Rk ?_
 cases hb_1 : ((decide (b_ < 128)) : Bool) with
 | true =>
  replace h := ite_t hb_1 h
  refine Ct <| Sq <| Ro <| Rc 3 [vy b_, vw (IntKind.wrap .u16 b_), vw (IntKind.wrap .u16 b_)] <| Rk <| Runs.ret <| kS_ret ?_
  cases h
  exact Fq
 | false =>
  replace h := ite_f hb_1 h
  refine Cf <| Runs.skip <| kS_nrm <| Sq <| Ro <| Rc 4 [vy b_, vw (IntKind.wrap .u16 b_), vw (IntKind.wrap .u16 (65280 + (IntKind.wrap .u16 b_))), vw (IntKind.wrap .u16 (65280 + (IntKind.wrap .u16 b_)))] <| Rk <| Runs.ret ?_
  cases h
  exact Fq
theorem hansomref01_Sign_L (b_ : Int) (r : Int) (h : hansomref01_Sign b_ = some r) : L 55 [.y b_] = some (.w r, [.y b_]) := by
 obtain ⟨p, ⟨hne, hf⟩, hr⟩ := hansomref01_Sign_ok b_ r h
 obtain ⟨k, hk⟩ := run_of (F := F55) (args := [.y b_]) (ap := [.y b_]) (bx0 := updW (fun _ => none) []) rfl rfl (by kernel_rfl) ⟨p, ⟨hne, hf⟩, hr⟩
 exact lim_run (k := k) rfl hk
def hansomref05_Near_h35 (x1 : Inst) (i2 : Inst) (r3 : Row) : St := ⟨tab [(1, .ptr [1] 0 0), (2, .ptr [2] 0 0), (3, .ptr [3] 0 0)], tabB [([1], some (.cells [.b x1.Lock, .i x1.Rep, .i x1.Seg, .y x1.Op, .i x1.Mod, .i x1.Reg, .i x1.RM, .w x1.Disp, .w x1.Imm, .w x1.Sel] 0)), ([2], some (.cells [.b i2.Lock, .i i2.Rep, .i i2.Seg, .y i2.Op, .i i2.Mod, .i i2.Reg, .i i2.RM, .w i2.Disp, .w i2.Imm, .w i2.Sel] 0)), ([3], some (.cells [.i r3.Name, .i r3.A, .i r3.B, .b r3.Mod] 0))]⟩
def hansomref05_Near_h43 (x1 : Inst) (i2 : Inst) (r3 : Row) (k5 : Int) : St := ⟨tab [(1, .ptr [1] 0 0), (2, .ptr [2] 0 0), (3, .ptr [3] 0 0), (5, .i k5)], tabB [([1], some (.cells [.b x1.Lock, .i x1.Rep, .i x1.Seg, .y x1.Op, .i x1.Mod, .i x1.Reg, .i x1.RM, .w x1.Disp, .w x1.Imm, .w x1.Sel] 0)), ([2], some (.cells [.b i2.Lock, .i i2.Rep, .i i2.Seg, .y i2.Op, .i i2.Mod, .i i2.Reg, .i i2.RM, .w i2.Disp, .w i2.Imm, .w i2.Sel] 0)), ([3], some (.cells [.i r3.Name, .i r3.A, .i r3.B, .b r3.Mod] 0))]⟩
def hansomref05_Near_h86 (x1 : Inst) (i2 : Inst) (r3 : Row) : St := ⟨tab [(1, .ptr [1] 0 0), (2, .ptr [2] 0 0), (3, .ptr [3] 0 0)], tabB [([1], some (.cells [.b x1.Lock, .i x1.Rep, .i x1.Seg, .y x1.Op, .i x1.Mod, .i x1.Reg, .i x1.RM, .w x1.Disp, .w x1.Imm, .w x1.Sel] 0)), ([2], some (.cells [.b i2.Lock, .i i2.Rep, .i i2.Seg, .y i2.Op, .i i2.Mod, .i i2.Reg, .i i2.RM, .w i2.Disp, .w i2.Imm, .w i2.Sel] 0)), ([3], some (.cells [.i r3.Name, .i r3.A, .i r3.B, .b r3.Mod] 0))]⟩
def hansomref05_Near_h100 (x1 : Inst) (i2 : Inst) : St := ⟨tab [(1, .ptr [1] 0 0), (2, .ptr [2] 0 0)], tabB [([1], some (.cells [.b x1.Lock, .i x1.Rep, .i x1.Seg, .y x1.Op, .i x1.Mod, .i x1.Reg, .i x1.RM, .w x1.Disp, .w x1.Imm, .w x1.Sel] 0)), ([2], some (.cells [.b i2.Lock, .i i2.Rep, .i i2.Seg, .y i2.Op, .i i2.Mod, .i i2.Reg, .i i2.RM, .w i2.Disp, .w i2.Imm, .w i2.Sel] 0))]⟩
def hansomref05_Near_h63 (x1 : Inst) (i2 : Inst) (r3 : Row) (t61 : Int) (t77 : Bool) : St := ⟨tab [(1, .ptr [1] 0 0), (2, .ptr [2] 0 0), (3, .ptr [3] 0 0), (61, .i t61), (77, .b t77)], tabB [([1], some (.cells [.b x1.Lock, .i x1.Rep, .i x1.Seg, .y x1.Op, .i x1.Mod, .i x1.Reg, .i x1.RM, .w x1.Disp, .w x1.Imm, .w x1.Sel] 0)), ([2], some (.cells [.b i2.Lock, .i i2.Rep, .i i2.Seg, .y i2.Op, .i i2.Mod, .i i2.Reg, .i i2.RM, .w i2.Disp, .w i2.Imm, .w i2.Sel] 0)), ([3], some (.cells [.i r3.Name, .i r3.A, .i r3.B, .b r3.Mod] 0))]⟩
def hansomref05_Near_h79 (x1 : Inst) (i2 : Inst) (r3 : Row) (t61 : Int) (t86 : Bool) : St := ⟨tab [(1, .ptr [1] 0 0), (2, .ptr [2] 0 0), (3, .ptr [3] 0 0), (61, .i t61), (86, .b t86)], tabB [([1], some (.cells [.b x1.Lock, .i x1.Rep, .i x1.Seg, .y x1.Op, .i x1.Mod, .i x1.Reg, .i x1.RM, .w x1.Disp, .w x1.Imm, .w x1.Sel] 0)), ([2], some (.cells [.b i2.Lock, .i i2.Rep, .i i2.Seg, .y i2.Op, .i i2.Mod, .i i2.Reg, .i i2.RM, .w i2.Disp, .w i2.Imm, .w i2.Sel] 0)), ([3], some (.cells [.i r3.Name, .i r3.A, .i r3.B, .b r3.Mod] 0))]⟩
def hansomref05_Near_Q (x_ : Inst) (r : Inst) (p : Out × St) : Prop := (∀ i, p.1 ≠ .exit i) ∧ finF F24 [.d (Inst.d x_)] p.2 = some (.d (Inst.d r), [.d (Inst.d x_)])
theorem hansomref05_Near_j100_ok (x_ : Inst) (x1 : Inst) (i2 : Inst) (r : Inst) (h : hansomref05_Near_j100 x1 i2 = some r) : Runs L F24b100 (hansomref05_Near_h100 x1 i2) (hansomref05_Near_Q x_ r) := by
 unfold hansomref05_Near_j100 at h
 refine Sq <| Sq <| Ro <| Rc 4 [vp [1] 0 2, vi x1.Seg, vi (bitsOp .and .i64 x1.Seg 7), vb (decide ((bitsOp .and .i64 x1.Seg 7) ≤ 4))] <| Rk ?_
 cases hb_10 : ((decide ((bitsOp .and .i64 x1.Seg 7) ≤ 4)) : Bool) with
 | true =>
  replace h := ite_t hb_10 h
  refine Ct <| Ro <| Rc 5 [vp [1] 0 2, vi x1.Seg, vi (bitsOp .and .i64 x1.Seg 7), vp [2] 0 2, ⟨.tup [], [([2], some (.cells [.b i2.Lock, .i i2.Rep, .i (bitsOp .and .i64 x1.Seg 7), .y i2.Op, .i i2.Mod, .i i2.Reg, .i i2.RM, .w i2.Disp, .w i2.Imm, .w i2.Sel] 0))]⟩] <| Rk <| Sq <| Sq <| Ro <| Rc 1 [⟨.d (.agg [.bool i2.Lock, .int .i64 i2.Rep, .int .i64 (bitsOp .and .i64 x1.Seg 7), .int .u8 i2.Op, .int .i64 i2.Mod, .int .i64 i2.Reg, .int .i64 i2.RM, .int .u16 i2.Disp, .int .u16 i2.Imm, .int .u16 i2.Sel]), []⟩] ?_
  obtain ⟨r_4, hr_4, h⟩ := bind_s h
  have hc_4 := hansomref05_May_L ({ i2 with Seg := (bitsOp .and .i64 x1.Seg 7) } : Inst) r_4 hr_4
  refine Rt (some 132) (.callf 25) [] none [.d (.agg [.bool i2.Lock, .int .i64 i2.Rep, .int .i64 (bitsOp .and .i64 x1.Seg 7), .int .u8 i2.Op, .int .i64 i2.Mod, .int .i64 i2.Reg, .int .i64 i2.RM, .int .u16 i2.Disp, .int .u16 i2.Imm, .int .u16 i2.Sel])] (.b r_4) [] (cc hc_4) <| Rc 1 [vb (!r_4)] <| Rk ?_
  cases hb_11 : ((!r_4) : Bool) with
  | true =>
   replace h := ite_t hb_11 h
   refine Ct <| Sq <| Ro <| Rc 2 [⟨.d (.agg [.bool false, .int .i64 0, .int .i64 0, .int .u8 144, .int .i64 0, .int .i64 0, .int .i64 0, .int .u16 0, .int .u16 0, .int .u16 0]), []⟩, ⟨.tup [], [([2], some (.cells [.b false, .i 0, .i 0, .y 144, .i 0, .i 0, .i 0, .w 0, .w 0, .w 0] 0))]⟩] <| Rk <| Runs.ret <| kS_ret ?_
   cases h
   exact Fq
  | false =>
   replace h := ite_f hb_11 h
   refine Cf <| Runs.skip <| kS_nrm <| Sq <| Ro <| Rc 2 [⟨.d (.agg [.bool i2.Lock, .int .i64 i2.Rep, .int .i64 (bitsOp .and .i64 x1.Seg 7), .int .u8 i2.Op, .int .i64 i2.Mod, .int .i64 i2.Reg, .int .i64 i2.RM, .int .u16 i2.Disp, .int .u16 i2.Imm, .int .u16 i2.Sel]), []⟩, ⟨.tup [], [([2], some (.cells [.b i2.Lock, .i i2.Rep, .i (bitsOp .and .i64 x1.Seg 7), .y i2.Op, .i i2.Mod, .i i2.Reg, .i i2.RM, .w i2.Disp, .w i2.Imm, .w i2.Sel] 0))]⟩] <| Rk <| Runs.ret ?_
   cases h
   exact Fq
 | false =>
  replace h := ite_f hb_10 h
  refine Cf <| Runs.skip <| kS_nrm <| Sq <| Sq <| Ro <| Rc 1 [⟨.d (Inst.d i2), []⟩] ?_
  obtain ⟨r_5, hr_5, h⟩ := bind_s h
  have hc_5 := hansomref05_May_L i2 r_5 hr_5
  refine Rt (some 132) (.callf 25) [] none [.d (Inst.d i2)] (.b r_5) [] (cc hc_5) <| Rc 1 [vb (!r_5)] <| Rk ?_
  cases hb_12 : ((!r_5) : Bool) with
  | true =>
   replace h := ite_t hb_12 h
   refine Ct <| Sq <| Ro <| Rc 2 [⟨.d (.agg [.bool false, .int .i64 0, .int .i64 0, .int .u8 144, .int .i64 0, .int .i64 0, .int .i64 0, .int .u16 0, .int .u16 0, .int .u16 0]), []⟩, ⟨.tup [], [([2], some (.cells [.b false, .i 0, .i 0, .y 144, .i 0, .i 0, .i 0, .w 0, .w 0, .w 0] 0))]⟩] <| Rk <| Runs.ret <| kS_ret ?_
   cases h
   exact Fq
  | false =>
   replace h := ite_f hb_12 h
   refine Cf <| Runs.skip <| kS_nrm <| Sq <| Ro <| Rc 2 [⟨.d (Inst.d i2), []⟩, ⟨.tup [], [([2], some (.cells [.b i2.Lock, .i i2.Rep, .i i2.Seg, .y i2.Op, .i i2.Mod, .i i2.Reg, .i i2.RM, .w i2.Disp, .w i2.Imm, .w i2.Sel] 0))]⟩] <| Rk <| Runs.ret ?_
   cases h
   exact Fq
theorem hansomref05_Near_j86_ok (x_ : Inst) (x1 : Inst) (i2 : Inst) (r3 : Row) (r : Inst) (h : hansomref05_Near_j86 x1 i2 r3 = some r) : Runs L F24b86 (hansomref05_Near_h86 x1 i2 r3) (hansomref05_Near_Q x_ r) := by
 unfold hansomref05_Near_j86 at h
 refine Sq <| Sq <| Ro <| Rc 2 [vp [3] 0 0, vi r3.Name] ?_
 obtain ⟨r_3, hr_3, h⟩ := bind_s h
 have hc_3 := hansomref04_Repeats_L r3.Name r_3 hr_3
 refine Rt (some 104) (.callf 16) [] none [.i r3.Name] (.i r_3) [] (cc hc_3) <| Rc 1 [vi r_3] <| Rk <| Sq <| Ro <| Rc 3 [vi r_3, vb (decide (r_3 > 0)), vb (decide (r_3 > 0))] ?_
 cases hb_6 : ((decide (r_3 > 0)) : Bool) with
 | true =>
  replace h := ite_t hb_6 h
  refine Rc 5 [vp [1] 0 1, vi x1.Rep, vi (bitsOp .and .i64 x1.Rep 3), vb (decide ((bitsOp .and .i64 x1.Rep 3) > 0)), vb (decide ((bitsOp .and .i64 x1.Rep 3) > 0))] <| Rk ?_
  cases hb_7 : ((decide ((bitsOp .and .i64 x1.Rep 3) > 0)) : Bool) with
  | true =>
   replace h := ite_t hb_7 h
   refine Ct <| Sq <| Ro <| Rc 2 [vp [2] 0 1, ⟨.tup [], [([2], some (.cells [.b i2.Lock, .i 2, .i i2.Seg, .y i2.Op, .i i2.Mod, .i i2.Reg, .i i2.RM, .w i2.Disp, .w i2.Imm, .w i2.Sel] 0))]⟩] <| Rk <| Sq <| Ro <| Rc 3 [vi r_3, vb (r_3 == 2), vb (r_3 == 2)] ?_
   cases hb_8 : ((r_3 == 2) : Bool) with
   | true =>
    replace h := ite_t hb_8 h
    refine Rc 5 [vp [1] 0 1, vi x1.Rep, vi (bitsOp .and .i64 x1.Rep 1), vb ((bitsOp .and .i64 x1.Rep 1) == 1), vb ((bitsOp .and .i64 x1.Rep 1) == 1)] <| Rk ?_
    cases hb_9 : (((bitsOp .and .i64 x1.Rep 1) == 1) : Bool) with
    | true =>
     replace h := ite_t hb_9 h
     refine Ct <| Ro <| Rc 2 [vp [2] 0 1, ⟨.tup [], [([2], some (.cells [.b i2.Lock, .i 1, .i i2.Seg, .y i2.Op, .i i2.Mod, .i i2.Reg, .i i2.RM, .w i2.Disp, .w i2.Imm, .w i2.Sel] 0))]⟩] <| Rk <| Runs.canon (hansomref05_Near_h100 x1 ({ i2 with Rep := 1 } : Inst)) Cz ?_
     exact hansomref05_Near_j100_ok x_ x1 ({ i2 with Rep := 1 } : Inst) r h
    | false =>
     replace h := ite_f hb_9 h
     refine Cf <| Runs.skip <| kS_nrm <| Runs.canon (hansomref05_Near_h100 x1 ({ i2 with Rep := 2 } : Inst)) Cz ?_
     exact hansomref05_Near_j100_ok x_ x1 ({ i2 with Rep := 2 } : Inst) r h
   | false =>
    replace h := ite_f hb_8 h
    refine Rc 5 [vn, vn, vn, vn, vb false] <| Rk <| Cf <| Runs.skip <| kS_nrm <| Runs.canon (hansomref05_Near_h100 x1 ({ i2 with Rep := 2 } : Inst)) Cz ?_
    exact hansomref05_Near_j100_ok x_ x1 ({ i2 with Rep := 2 } : Inst) r h
  | false =>
   replace h := ite_f hb_7 h
   refine Cf <| Runs.skip <| kS_nrm <| Runs.canon (hansomref05_Near_h100 x1 i2) Cz ?_
   exact hansomref05_Near_j100_ok x_ x1 i2 r h
 | false =>
  replace h := ite_f hb_6 h
  refine Rc 5 [vn, vn, vn, vn, vb false] <| Rk <| Cf <| Runs.skip <| kS_nrm <| Runs.canon (hansomref05_Near_h100 x1 i2) Cz ?_
  exact hansomref05_Near_j100_ok x_ x1 i2 r h
theorem hansomref05_Near_j79_ok (x_ : Inst) (x1 : Inst) (i2 : Inst) (r3 : Row) (t61 : Int) (t86 : Bool) (r : Inst) (h : hansomref05_Near_j79 x1 i2 r3 t61 t86 = some r) : Runs L F24b79 (hansomref05_Near_h79 x1 i2 r3 t61 t86) (kB 1 (kS L F24c86 (hansomref05_Near_Q x_ r))) := by
 unfold hansomref05_Near_j79 at h
 cases hb_17 : (t86 : Bool) with
 | true =>
  replace h := ite_t hb_17 h
  refine Ct <| Ro <| Rc 4 [vp [1] 0 8, vw x1.Imm, vp [2] 0 8, ⟨.tup [], [([2], some (.cells [.b i2.Lock, .i i2.Rep, .i i2.Seg, .y i2.Op, .i i2.Mod, .i i2.Reg, .i i2.RM, .w i2.Disp, .w x1.Imm, .w i2.Sel] 0))]⟩] <| Rd <| kB_nrm <| kS_nrm <| Runs.canon (hansomref05_Near_h86 x1 ({ i2 with Imm := x1.Imm } : Inst) r3) Cz ?_
  exact hansomref05_Near_j86_ok x_ x1 ({ i2 with Imm := x1.Imm } : Inst) r3 r h
 | false =>
  replace h := ite_f hb_17 h
  refine Cf <| Sq <| Ro <| Rc 2 [vb (t61 == 11), vb (t61 == 11)] <| Rk ?_
  cases hb_18 : ((t61 == 11) : Bool) with
  | true =>
   replace h := ite_t hb_18 h
   refine Ct <| Ro <| Rc 8 [vp [1] 0 8, vw x1.Imm, vp [1] 0 9, vw x1.Sel, vp [2] 0 8, ⟨.tup [], [([2], some (.cells [.b i2.Lock, .i i2.Rep, .i i2.Seg, .y i2.Op, .i i2.Mod, .i i2.Reg, .i i2.RM, .w i2.Disp, .w x1.Imm, .w i2.Sel] 0))]⟩, vp [2] 0 9, ⟨.tup [], [([2], some (.cells [.b i2.Lock, .i i2.Rep, .i i2.Seg, .y i2.Op, .i i2.Mod, .i i2.Reg, .i i2.RM, .w i2.Disp, .w x1.Imm, .w x1.Sel] 0))]⟩] <| Rd <| kB_nrm <| kS_nrm <| Runs.canon (hansomref05_Near_h86 x1 ({ i2 with Imm := x1.Imm, Sel := x1.Sel } : Inst) r3) Cz ?_
   exact hansomref05_Near_j86_ok x_ x1 ({ i2 with Imm := x1.Imm, Sel := x1.Sel } : Inst) r3 r h
  | false =>
   replace h := ite_f hb_18 h
   refine Cf <| Runs.skip <| kB_nrm <| kS_nrm <| Runs.canon (hansomref05_Near_h86 x1 i2 r3) Cz ?_
   exact hansomref05_Near_j86_ok x_ x1 i2 r3 r h
theorem hansomref05_Near_j63_ok (x_ : Inst) (x1 : Inst) (i2 : Inst) (r3 : Row) (t61 : Int) (t77 : Bool) (r : Inst) (h : hansomref05_Near_j63 x1 i2 r3 t61 t77 = some r) : Runs L F24b63 (hansomref05_Near_h63 x1 i2 r3 t61 t77) (kB 1 (kS L F24c86 (hansomref05_Near_Q x_ r))) := by
 unfold hansomref05_Near_j63 at h
 cases hb_15 : (t77 : Bool) with
 | true =>
  replace h := ite_t hb_15 h
  refine Ct <| Ro <| Rc 4 [vp [1] 0 8, vw x1.Imm, vw (Int.tmod x1.Imm 256), vy (IntKind.wrap .u8 (Int.tmod x1.Imm 256))] ?_
  obtain ⟨r_6, hr_6, h⟩ := bind_s h
  have hc_6 := hansomref01_Sign_L (IntKind.wrap .u8 (Int.tmod x1.Imm 256)) r_6 hr_6
  refine Rt (some 84) (.callf 55) [] none [.y (IntKind.wrap .u8 (Int.tmod x1.Imm 256))] (.w r_6) [] (cc hc_6) <| Rc 2 [vp [2] 0 8, ⟨.tup [], [([2], some (.cells [.b i2.Lock, .i i2.Rep, .i i2.Seg, .y i2.Op, .i i2.Mod, .i i2.Reg, .i i2.RM, .w i2.Disp, .w r_6, .w i2.Sel] 0))]⟩] <| Rd <| kB_nrm <| kS_nrm <| Runs.canon (hansomref05_Near_h86 x1 ({ i2 with Imm := r_6 } : Inst) r3) Cz ?_
  exact hansomref05_Near_j86_ok x_ x1 ({ i2 with Imm := r_6 } : Inst) r3 r h
 | false =>
  replace h := ite_f hb_15 h
  refine Cf <| Sq <| Sq <| Ro <| Rc 2 [vb (t61 == 7), vb (t61 == 7)] <| Rk ?_
  cases hb_16 : ((t61 == 7) : Bool) with
  | true =>
   replace h := ite_t hb_16 h
   refine Ct <| Runs.skip <| kS_nrm <| Runs.canon (hansomref05_Near_h79 x1 i2 r3 t61 true) Cz ?_
   exact hansomref05_Near_j79_ok x_ x1 i2 r3 t61 true r h
  | false =>
   replace h := ite_f hb_16 h
   refine Cf <| Sq <| Ro <| Rc 2 [vb (t61 == 10), vb (t61 == 10)] <| Rk ?_
   cases hb_19 : ((t61 == 10) : Bool) with
   | true =>
    replace h := ite_t hb_19 h
    refine Ct <| Runs.skip <| kS_nrm <| Runs.canon (hansomref05_Near_h79 x1 i2 r3 t61 true) Cz ?_
    exact hansomref05_Near_j79_ok x_ x1 i2 r3 t61 true r h
   | false =>
    replace h := ite_f hb_19 h
    refine Cf <| Sq <| Ro <| Rc 2 [vb (t61 == 12), vb (t61 == 12)] <| Rk ?_
    cases hb_20 : ((t61 == 12) : Bool) with
    | true =>
     replace h := ite_t hb_20 h
     refine Ct <| Runs.skip <| kS_nrm <| Runs.canon (hansomref05_Near_h79 x1 i2 r3 t61 true) Cz ?_
     exact hansomref05_Near_j79_ok x_ x1 i2 r3 t61 true r h
    | false =>
     replace h := ite_f hb_20 h
     refine Cf <| Ro <| Rc 2 [vb (t61 == 13), vb (t61 == 13)] <| Rk <| Runs.canon (hansomref05_Near_h79 x1 i2 r3 t61 (t61 == 13)) Cz ?_
     exact hansomref05_Near_j79_ok x_ x1 i2 r3 t61 (t61 == 13) r h
theorem hansomref05_Near_j43_ok (x_ : Inst) (x1 : Inst) (i2 : Inst) (r3 : Row) (k5 : Int) (r : Inst) (h : hansomref05_Near_j43 x1 i2 r3 k5 = some r) : Runs L F24b43 (hansomref05_Near_h43 x1 i2 r3 k5) (hansomref05_Near_Q x_ r) := by
 unfold hansomref05_Near_j43 at h
 refine Sq <| Sq <| Ro <| Rc 1 [vi k5] <| Rk <| Runs.block <| Sq <| Ro <| Rc 2 [vb (k5 == 6), vb (k5 == 6)] <| Rk ?_
 cases hb_4 : ((k5 == 6) : Bool) with
 | true =>
  replace h := ite_t hb_4 h
  refine Ct <| Sq <| Ro <| Rc 5 [vp [1] 0 8, vw x1.Imm, vw (Int.tmod x1.Imm 256), vp [2] 0 8, ⟨.tup [], [([2], some (.cells [.b i2.Lock, .i i2.Rep, .i i2.Seg, .y i2.Op, .i i2.Mod, .i i2.Reg, .i i2.RM, .w i2.Disp, .w (Int.tmod x1.Imm 256), .w i2.Sel] 0))]⟩] <| Rk <| Sq <| Ro <| Rc 4 [vp [3] 0 0, vi r3.Name, vb (r3.Name == 70), vb (r3.Name == 70)] ?_
  cases hb_5 : ((r3.Name == 70) : Bool) with
  | true =>
   replace h := ite_t hb_5 h
   refine Rc 4 [vn, vn, vn, vb true] <| Rk <| Ct <| Ro <| Rc 2 [vp [2] 0 8, ⟨.tup [], [([2], some (.cells [.b i2.Lock, .i i2.Rep, .i i2.Seg, .y i2.Op, .i i2.Mod, .i i2.Reg, .i i2.RM, .w i2.Disp, .w 10, .w i2.Sel] 0))]⟩] <| Rd <| kB_nrm <| kS_nrm <| Runs.canon (hansomref05_Near_h86 x1 ({ i2 with Imm := 10 } : Inst) r3) Cz ?_
   exact hansomref05_Near_j86_ok x_ x1 ({ i2 with Imm := 10 } : Inst) r3 r h
  | false =>
   replace h := ite_f hb_5 h
   refine Rc 4 [vp [3] 0 0, vi r3.Name, vb (r3.Name == 71), vb (r3.Name == 71)] <| Rk ?_
   cases hb_13 : ((r3.Name == 71) : Bool) with
   | true =>
    replace h := ite_t hb_13 h
    refine Ct <| Ro <| Rc 2 [vp [2] 0 8, ⟨.tup [], [([2], some (.cells [.b i2.Lock, .i i2.Rep, .i i2.Seg, .y i2.Op, .i i2.Mod, .i i2.Reg, .i i2.RM, .w i2.Disp, .w 10, .w i2.Sel] 0))]⟩] <| Rd <| kB_nrm <| kS_nrm <| Runs.canon (hansomref05_Near_h86 x1 ({ i2 with Imm := 10 } : Inst) r3) Cz ?_
    exact hansomref05_Near_j86_ok x_ x1 ({ i2 with Imm := 10 } : Inst) r3 r h
   | false =>
    replace h := ite_f hb_13 h
    refine Cf <| Runs.skip <| kB_nrm <| kS_nrm <| Runs.canon (hansomref05_Near_h86 x1 ({ i2 with Imm := (Int.tmod x1.Imm 256) } : Inst) r3) Cz ?_
    exact hansomref05_Near_j86_ok x_ x1 ({ i2 with Imm := (Int.tmod x1.Imm 256) } : Inst) r3 r h
 | false =>
  replace h := ite_f hb_4 h
  refine Cf <| Sq <| Sq <| Ro <| Rc 2 [vb (k5 == 8), vb (k5 == 8)] <| Rk ?_
  cases hb_14 : ((k5 == 8) : Bool) with
  | true =>
   replace h := ite_t hb_14 h
   refine Ct <| Runs.skip <| kS_nrm <| Runs.canon (hansomref05_Near_h63 x1 i2 r3 k5 true) Cz ?_
   exact hansomref05_Near_j63_ok x_ x1 i2 r3 k5 true r h
  | false =>
   replace h := ite_f hb_14 h
   refine Cf <| Ro <| Rc 2 [vb (k5 == 9), vb (k5 == 9)] <| Rk <| Runs.canon (hansomref05_Near_h63 x1 i2 r3 k5 (k5 == 9)) Cz ?_
   exact hansomref05_Near_j63_ok x_ x1 i2 r3 k5 (k5 == 9) r h
theorem hansomref05_Near_j35_ok (x_ : Inst) (x1 : Inst) (i2 : Inst) (r3 : Row) (r : Inst) (h : hansomref05_Near_j35 x1 i2 r3 = some r) : Runs L F24b35 (hansomref05_Near_h35 x1 i2 r3) (hansomref05_Near_Q x_ r) := by
 unfold hansomref05_Near_j35 at h
 refine Sq <| Ro <| Rc 3 [vp [3] 0 1, vi r3.A, vi r3.A] <| Rk <| Sq <| Sq <| Ro <| Rc 1 [vi r3.A] ?_
 obtain ⟨r_2, hr_2, h⟩ := bind_s h
 have hc_2 := hansomref04_Bytes_L r3.A r_2 hr_2
 refine Rt (some 57) (.callf 18) [] none [.i r3.A] (.i r_2) [] (cc hc_2) <| Rc 1 [vb (r_2 == 0)] <| Rk ?_
 cases hb_3 : ((r_2 == 0) : Bool) with
 | true =>
  replace h := ite_t hb_3 h
  refine Ct <| Ro <| Rc 3 [vp [3] 0 2, vi r3.B, vi r3.B] <| Rk <| Runs.canon (hansomref05_Near_h43 x1 i2 r3 r3.B) Cz ?_
  exact hansomref05_Near_j43_ok x_ x1 i2 r3 r3.B r h
 | false =>
  replace h := ite_f hb_3 h
  refine Cf <| Runs.skip <| kS_nrm <| Runs.canon (hansomref05_Near_h43 x1 i2 r3 r3.A) Cz ?_
  exact hansomref05_Near_j43_ok x_ x1 i2 r3 r3.A r h
theorem hansomref05_Near_ok (x_ : Inst) (r : Inst) (h : hansomref05_Near x_ = some r) : Runs L F24.body ⟨tmOf [.d (Inst.d x_)] 0, updW (fun _ => none) []⟩ (hansomref05_Near_Q x_ r) := by
 unfold hansomref05_Near at h
 refine Sq <| Ro <| Rc 2 [⟨.ptr [1] 0 0, [([1], some (.cells [.b x_.Lock, .i x_.Rep, .i x_.Seg, .y x_.Op, .i x_.Mod, .i x_.Reg, .i x_.RM, .w x_.Disp, .w x_.Imm, .w x_.Sel] 0))]⟩, ⟨.ptr [2] 0 0, [([2], some (.cells [.b false, .i 0, .i 0, .y 0, .i 0, .i 0, .i 0, .w 0, .w 0, .w 0] 0))]⟩] <| Rk <| Sq <| Ro <| Rc 6 [vp [1] 0 3, vy x_.Op, vp [1] 0 0, vb x_.Lock, ⟨.d (.agg [.bool x_.Lock, .int .i64 0, .int .i64 0, .int .u8 x_.Op, .int .i64 0, .int .i64 0, .int .i64 0, .int .u16 0, .int .u16 0, .int .u16 0]), []⟩, ⟨.tup [], [([2], some (.cells [.b x_.Lock, .i 0, .i 0, .y x_.Op, .i 0, .i 0, .i 0, .w 0, .w 0, .w 0] 0))]⟩] <| Rk <| Sq <| Ro <| Rc 5 [vp [1] 0 5, vi x_.Reg, vi (bitsOp .and .i64 x_.Reg 7), vp [2] 0 5, ⟨.tup [], [([2], some (.cells [.b x_.Lock, .i 0, .i 0, .y x_.Op, .i 0, .i (bitsOp .and .i64 x_.Reg 7), .i 0, .w 0, .w 0, .w 0] 0))]⟩] <| Rk <| Sq <| Ro <| Rc 1 [⟨.d (.agg [.bool x_.Lock, .int .i64 0, .int .i64 0, .int .u8 x_.Op, .int .i64 0, .int .i64 (bitsOp .and .i64 x_.Reg 7), .int .i64 0, .int .u16 0, .int .u16 0, .int .u16 0]), []⟩] ?_
 obtain ⟨r_1, hr_1, h⟩ := bind_s h
 have hc_1 := hansomref05_Row_L ({ x_ with Rep := 0, Seg := 0, Mod := 0, Reg := (bitsOp .and .i64 x_.Reg 7), RM := 0, Disp := 0, Imm := 0, Sel := 0 } : Inst) r_1 hr_1
 refine Rt (some 18) (.callf 26) [] none [.d (.agg [.bool x_.Lock, .int .i64 0, .int .i64 0, .int .u8 x_.Op, .int .i64 0, .int .i64 (bitsOp .and .i64 x_.Reg 7), .int .i64 0, .int .u16 0, .int .u16 0, .int .u16 0])] (.tup [.d (Row.d r_1.1), .b r_1.2]) [] (cc hc_1) <| Rc 6 [⟨.tup [.d (Row.d r_1.1), .b r_1.2], []⟩, ⟨.d (Row.d r_1.1), []⟩, vb r_1.2, ⟨.ptr [3] 0 0, [([3], some (.cells [.i 0, .i 0, .i 0, .b false] 0))]⟩, ⟨.tup [], [([3], some (.cells [.i r_1.1.Name, .i r_1.1.A, .i r_1.1.B, .b r_1.1.Mod] 0))]⟩, vb r_1.2] <| Rk <| Sq <| Sq <| Ro <| Rc 2 [vb r_1.2, vb (!r_1.2)] <| Rk ?_
 cases hb_1 : ((!r_1.2) : Bool) with
 | true =>
  replace h := ite_t hb_1 h
  refine Ct <| Sq <| Ro <| Rc 2 [⟨.d (.agg [.bool false, .int .i64 0, .int .i64 0, .int .u8 144, .int .i64 0, .int .i64 0, .int .i64 0, .int .u16 0, .int .u16 0, .int .u16 0]), []⟩, ⟨.tup [], [([2], some (.cells [.b false, .i 0, .i 0, .y 144, .i 0, .i 0, .i 0, .w 0, .w 0, .w 0] 0))]⟩] <| Rk <| Runs.ret <| kS_ret ?_
  cases h
  exact Fq
 | false =>
  replace h := ite_f hb_1 h
  refine Cf <| Runs.skip <| kS_nrm <| Sq <| Sq <| Ro <| Rc 3 [vp [3] 0 3, vb r_1.1.Mod, vb (!r_1.1.Mod)] <| Rk ?_
  cases hb_2 : ((!r_1.1.Mod) : Bool) with
  | true =>
   replace h := ite_t hb_2 h
   refine Ct <| Ro <| Rc 2 [vp [2] 0 5, ⟨.tup [], [([2], some (.cells [.b x_.Lock, .i 0, .i 0, .y x_.Op, .i 0, .i 0, .i 0, .w 0, .w 0, .w 0] 0))]⟩] <| Rk <| Runs.canon (hansomref05_Near_h35 x_ ({ x_ with Rep := 0, Seg := 0, Mod := 0, Reg := 0, RM := 0, Disp := 0, Imm := 0, Sel := 0 } : Inst) r_1.1) Cz ?_
   exact hansomref05_Near_j35_ok x_ x_ ({ x_ with Rep := 0, Seg := 0, Mod := 0, Reg := 0, RM := 0, Disp := 0, Imm := 0, Sel := 0 } : Inst) r_1.1 r h
  | false =>
   replace h := ite_f hb_2 h
   refine Cf <| Sq <| Ro <| Rc 10 [vp [1] 0 4, vi x_.Mod, vi (bitsOp .and .i64 x_.Mod 3), vp [1] 0 6, vi x_.RM, vi (bitsOp .and .i64 x_.RM 7), vp [2] 0 4, ⟨.tup [], [([2], some (.cells [.b x_.Lock, .i 0, .i 0, .y x_.Op, .i (bitsOp .and .i64 x_.Mod 3), .i (bitsOp .and .i64 x_.Reg 7), .i 0, .w 0, .w 0, .w 0] 0))]⟩, vp [2] 0 6, ⟨.tup [], [([2], some (.cells [.b x_.Lock, .i 0, .i 0, .y x_.Op, .i (bitsOp .and .i64 x_.Mod 3), .i (bitsOp .and .i64 x_.Reg 7), .i (bitsOp .and .i64 x_.RM 7), .w 0, .w 0, .w 0] 0))]⟩] <| Rk <| Sq <| Ro <| Rc 4 [vp [2] 0 4, vi (bitsOp .and .i64 x_.Mod 3), vp [2] 0 6, vi (bitsOp .and .i64 x_.RM 7)] ?_
   obtain ⟨r_7, hr_7, h⟩ := bind_s h
   have hc_7 := hansomref05_Disps_L (bitsOp .and .i64 x_.Mod 3) (bitsOp .and .i64 x_.RM 7) r_7 hr_7
   refine Rt (some 40) (.callf 54) [] none [.i (bitsOp .and .i64 x_.Mod 3), .i (bitsOp .and .i64 x_.RM 7)] (.i r_7) [] (cc hc_7) <| Rk <| Runs.block <| Sq <| Ro <| Rc 2 [vb (r_7 == 1), vb (r_7 == 1)] <| Rk ?_
   cases hb_21 : ((r_7 == 1) : Bool) with
   | true =>
    replace h := ite_t hb_21 h
    refine Ct <| Ro <| Rc 4 [vp [1] 0 7, vw x_.Disp, vw (Int.tmod x_.Disp 256), vy (IntKind.wrap .u8 (Int.tmod x_.Disp 256))] ?_
    obtain ⟨r_8, hr_8, h⟩ := bind_s h
    have hc_8 := hansomref01_Sign_L (IntKind.wrap .u8 (Int.tmod x_.Disp 256)) r_8 hr_8
    refine Rt (some 47) (.callf 55) [] none [.y (IntKind.wrap .u8 (Int.tmod x_.Disp 256))] (.w r_8) [] (cc hc_8) <| Rc 2 [vp [2] 0 7, ⟨.tup [], [([2], some (.cells [.b x_.Lock, .i 0, .i 0, .y x_.Op, .i (bitsOp .and .i64 x_.Mod 3), .i (bitsOp .and .i64 x_.Reg 7), .i (bitsOp .and .i64 x_.RM 7), .w r_8, .w 0, .w 0] 0))]⟩] <| Rd <| kB_nrm <| kS_nrm <| Runs.canon (hansomref05_Near_h35 x_ ({ x_ with Rep := 0, Seg := 0, Mod := (bitsOp .and .i64 x_.Mod 3), Reg := (bitsOp .and .i64 x_.Reg 7), RM := (bitsOp .and .i64 x_.RM 7), Disp := r_8, Imm := 0, Sel := 0 } : Inst) r_1.1) Cz ?_
    exact hansomref05_Near_j35_ok x_ x_ ({ x_ with Rep := 0, Seg := 0, Mod := (bitsOp .and .i64 x_.Mod 3), Reg := (bitsOp .and .i64 x_.Reg 7), RM := (bitsOp .and .i64 x_.RM 7), Disp := r_8, Imm := 0, Sel := 0 } : Inst) r_1.1 r h
   | false =>
    replace h := ite_f hb_21 h
    refine Cf <| Sq <| Ro <| Rc 2 [vb (r_7 == 2), vb (r_7 == 2)] <| Rk ?_
    cases hb_22 : ((r_7 == 2) : Bool) with
    | true =>
     replace h := ite_t hb_22 h
     refine Ct <| Ro <| Rc 4 [vp [1] 0 7, vw x_.Disp, vp [2] 0 7, ⟨.tup [], [([2], some (.cells [.b x_.Lock, .i 0, .i 0, .y x_.Op, .i (bitsOp .and .i64 x_.Mod 3), .i (bitsOp .and .i64 x_.Reg 7), .i (bitsOp .and .i64 x_.RM 7), .w x_.Disp, .w 0, .w 0] 0))]⟩] <| Rd <| kB_nrm <| kS_nrm <| Runs.canon (hansomref05_Near_h35 x_ ({ x_ with Rep := 0, Seg := 0, Mod := (bitsOp .and .i64 x_.Mod 3), Reg := (bitsOp .and .i64 x_.Reg 7), RM := (bitsOp .and .i64 x_.RM 7), Imm := 0, Sel := 0 } : Inst) r_1.1) Cz ?_
     exact hansomref05_Near_j35_ok x_ x_ ({ x_ with Rep := 0, Seg := 0, Mod := (bitsOp .and .i64 x_.Mod 3), Reg := (bitsOp .and .i64 x_.Reg 7), RM := (bitsOp .and .i64 x_.RM 7), Imm := 0, Sel := 0 } : Inst) r_1.1 r h
    | false =>
     replace h := ite_f hb_22 h
     refine Cf <| Runs.skip <| kB_nrm <| kS_nrm <| Runs.canon (hansomref05_Near_h35 x_ ({ x_ with Rep := 0, Seg := 0, Mod := (bitsOp .and .i64 x_.Mod 3), Reg := (bitsOp .and .i64 x_.Reg 7), RM := (bitsOp .and .i64 x_.RM 7), Disp := 0, Imm := 0, Sel := 0 } : Inst) r_1.1) Cz ?_
     exact hansomref05_Near_j35_ok x_ x_ ({ x_ with Rep := 0, Seg := 0, Mod := (bitsOp .and .i64 x_.Mod 3), Reg := (bitsOp .and .i64 x_.Reg 7), RM := (bitsOp .and .i64 x_.RM 7), Disp := 0, Imm := 0, Sel := 0 } : Inst) r_1.1 r h
theorem hansomref05_Near_L (x_ : Inst) (r : Inst) (h : hansomref05_Near x_ = some r) : L 24 [.d (Inst.d x_)] = some (.d (Inst.d r), [.d (Inst.d x_)]) := by
 obtain ⟨p, ⟨hne, hf⟩, hr⟩ := hansomref05_Near_ok x_ r h
 obtain ⟨k, hk⟩ := run_of (F := F24) (args := [.d (Inst.d x_)]) (ap := [.d (Inst.d x_)]) (bx0 := updW (fun _ => none) []) rfl rfl (by kernel_rfl) ⟨p, ⟨hne, hf⟩, hr⟩
 exact lim_run (k := k) rfl hk
def hansomref05_two_Q (w_ : Int) (r : (List Int)) (p : Out × St) : Prop := (∀ i, p.1 ≠ .exit i) ∧ finF F58 [.w w_] p.2 = some (.d (.sl (mY r)), [.w w_])
theorem hansomref05_two_ok (w_ : Int) (r : (List Int)) (h : hansomref05_two w_ = some r) : Runs L F58.body ⟨tmOf [.w w_] 0, updW (fun _ => none) []⟩ (hansomref05_two_Q w_ r) := by
 unfold hansomref05_two at h
 refine Sq <| Ro <| Rc 1 [⟨.nils, []⟩] <| Rk <| Sq <| Ro <| Rc 8 [vw w_, vw (Int.tmod w_ 256), vy (IntKind.wrap .u8 (Int.tmod w_ 256)), vw w_, vw (IntKind.wrap .u16 (Int.tdiv w_ 256)), vy (IntKind.wrap .u8 (IntKind.wrap .u16 (Int.tdiv w_ 256))), ⟨.ref [9] 0 0 (mY ([(IntKind.wrap .u8 (Int.tmod w_ 256)), (IntKind.wrap .u8 (IntKind.wrap .u16 (Int.tdiv w_ 256)))] : List Int)).length 1, [([9], some (.arr (mY ([(IntKind.wrap .u8 (Int.tmod w_ 256)), (IntKind.wrap .u8 (IntKind.wrap .u16 (Int.tdiv w_ 256)))] : List Int)) 0 false))]⟩, ⟨.ref [9] 0 0 (mY ([(IntKind.wrap .u8 (Int.tmod w_ 256)), (IntKind.wrap .u8 (IntKind.wrap .u16 (Int.tdiv w_ 256)))] : List Int)).length 1, []⟩] <| Rk <| Sq <| Runs.gcons (frz_ref (e := (D.int .u8)) (l := ([(IntKind.wrap .u8 (Int.tmod w_ 256)), (IntKind.wrap .u8 (IntKind.wrap .u16 (Int.tdiv w_ 256)))] : List Int)) (id := [9]) (v := 0) (n := 1) (fz := false) (by kernel_rfl) (by kernel_rfl) rfl) <| Runs.gnil <| kS_nrm <| Runs.ret ?_
 cases h
 exact Fq
theorem hansomref05_two_L (w_ : Int) (r : (List Int)) (h : hansomref05_two w_ = some r) : L 58 [.w w_] = some (.d (.sl (mY r)), [.w w_]) := by
 obtain ⟨p, ⟨hne, hf⟩, hr⟩ := hansomref05_two_ok w_ r h
 obtain ⟨k, hk⟩ := run_of (F := F58) (args := [.w w_]) (ap := [.w w_]) (bx0 := updW (fun _ => none) []) rfl rfl (by kernel_rfl) ⟨p, ⟨hne, hf⟩, hr⟩
 exact lim_run (k := k) rfl hk
def hansomref05_Imms_Q (r_ : Row) (r : Int) (p : Out × St) : Prop := (∀ i, p.1 ≠ .exit i) ∧ finF F28 [.d (Row.d r_)] p.2 = some (.i r, [.d (Row.d r_)])
theorem hansomref05_Imms_ok (r_ : Row) (r : Int) (h : hansomref05_Imms r_ = some r) : Runs L F28.body ⟨tmOf [.d (Row.d r_)] 0, updW (fun _ => none) []⟩ (hansomref05_Imms_Q r_ r) := by
 unfold hansomref05_Imms at h
 refine Sq <| Ro <| Rc 2 [⟨.ptr [1] 0 0, [([1], some (.cells [.i r_.Name, .i r_.A, .i r_.B, .b r_.Mod] 0))]⟩, vi 0] <| Rk <| Sq <| Ro <| Rc 2 [vp [1] 0 1, vi r_.A] ?_
 obtain ⟨r_1, hr_1, h⟩ := bind_s h
 have hc_1 := hansomref04_Bytes_L r_.A r_1 hr_1
 refine Rt (some 5) (.callf 18) [] (some []) [.i r_.A] (.i r_1) [] (cc hc_1) <| Rc 2 [vp [1] 0 2, vi r_.B] ?_
 obtain ⟨r_2, hr_2, h⟩ := bind_s h
 have hc_2 := hansomref04_Bytes_L r_.B r_2 hr_2
 refine Rt (some 8) (.callf 18) [] none [.i r_.B] (.i r_2) [] (cc hc_2) <| Rc 2 [vi (IntKind.wrap .i64 (r_1 + r_2)), vi (IntKind.wrap .i64 (r_1 + r_2))] <| Rk <| Runs.ret ?_
 cases h
 exact Fq
theorem hansomref05_Imms_L (r_ : Row) (r : Int) (h : hansomref05_Imms r_ = some r) : L 28 [.d (Row.d r_)] = some (.i r, [.d (Row.d r_)]) := by
 obtain ⟨p, ⟨hne, hf⟩, hr⟩ := hansomref05_Imms_ok r_ r h
 obtain ⟨k, hk⟩ := run_of (F := F28) (args := [.d (Row.d r_)]) (ap := [.d (Row.d r_)]) (bx0 := updW (fun _ => none) []) rfl rfl (by kernel_rfl) ⟨p, ⟨hne, hf⟩, hr⟩
 exact lim_run (k := k) rfl hk
def hansomref05_Put_h12 (i1 : Inst) (r3 : Row) (b_12 : (List Int)) (v_12 : Nat) : St := ⟨tab [(1, .ptr [1] 0 0), (3, .ptr [3] 0 0), (5, .ref [12] v_12 0 (mY b_12).length 1)], tabB [([1], some (.cells [.b i1.Lock, .i i1.Rep, .i i1.Seg, .y i1.Op, .i i1.Mod, .i i1.Reg, .i i1.RM, .w i1.Disp, .w i1.Imm, .w i1.Sel] 0)), ([3], some (.cells [.i r3.Name, .i r3.A, .i r3.B, .b r3.Mod] 0)), ([12], some (.arr (mY b_12) v_12 false))]⟩
def hansomref05_Put_h18 (i1 : Inst) (r3 : Row) (b_12 : (List Int)) (v_12 : Nat) : St := ⟨tab [(1, .ptr [1] 0 0), (3, .ptr [3] 0 0), (5, .ref [12] v_12 0 (mY b_12).length 1)], tabB [([1], some (.cells [.b i1.Lock, .i i1.Rep, .i i1.Seg, .y i1.Op, .i i1.Mod, .i i1.Reg, .i i1.RM, .w i1.Disp, .w i1.Imm, .w i1.Sel] 0)), ([3], some (.cells [.i r3.Name, .i r3.A, .i r3.B, .b r3.Mod] 0)), ([12], some (.arr (mY b_12) v_12 false))]⟩
def hansomref05_Put_h24 (i1 : Inst) (r3 : Row) (b_12 : (List Int)) (v_12 : Nat) : St := ⟨tab [(1, .ptr [1] 0 0), (3, .ptr [3] 0 0), (5, .ref [12] v_12 0 (mY b_12).length 1)], tabB [([1], some (.cells [.b i1.Lock, .i i1.Rep, .i i1.Seg, .y i1.Op, .i i1.Mod, .i i1.Reg, .i i1.RM, .w i1.Disp, .w i1.Imm, .w i1.Sel] 0)), ([3], some (.cells [.i r3.Name, .i r3.A, .i r3.B, .b r3.Mod] 0)), ([12], some (.arr (mY b_12) v_12 false))]⟩
def hansomref05_Put_h34 (i1 : Inst) (r3 : Row) (b_12 : (List Int)) (v_12 : Nat) : St := ⟨tab [(1, .ptr [1] 0 0), (3, .ptr [3] 0 0), (5, .ref [12] v_12 0 (mY b_12).length 1)], tabB [([1], some (.cells [.b i1.Lock, .i i1.Rep, .i i1.Seg, .y i1.Op, .i i1.Mod, .i i1.Reg, .i i1.RM, .w i1.Disp, .w i1.Imm, .w i1.Sel] 0)), ([3], some (.cells [.i r3.Name, .i r3.A, .i r3.B, .b r3.Mod] 0)), ([12], some (.arr (mY b_12) v_12 false))]⟩
def hansomref05_Put_h46 (i1 : Inst) (b_12 : (List Int)) (n6 : Int) (t73 : Int) (t74 : Bool) (v_12 : Nat) : St := ⟨tab [(1, .ptr [1] 0 0), (5, .ref [12] v_12 0 (mY b_12).length 1), (6, .i n6), (73, .i t73), (74, .b t74)], tabB [([1], some (.cells [.b i1.Lock, .i i1.Rep, .i i1.Seg, .y i1.Op, .i i1.Mod, .i i1.Reg, .i i1.RM, .w i1.Disp, .w i1.Imm, .w i1.Sel] 0)), ([12], some (.arr (mY b_12) v_12 false))]⟩
def hansomref05_Put_Q (i_ : Inst) (r : (List Int)) (p : Out × St) : Prop := (∀ i, p.1 ≠ .exit i) ∧ finF F27 [.d (Inst.d i_)] p.2 = some (.d (.sl (mY r)), [.d (Inst.d i_)])
theorem hansomref05_Put_j46_ok (i_ : Inst) (i1 : Inst) (b_12 : (List Int)) (n6 : Int) (t73 : Int) (t74 : Bool) (v_12 : Nat) (r : (List Int)) (h : hansomref05_Put_j46 i1 b_12 n6 t73 t74 = some r) : Runs L F27b46 (hansomref05_Put_h46 i1 b_12 n6 t73 t74 v_12) (kB 0 (kS L F27c53 (hansomref05_Put_Q i_ r))) := by
 unfold hansomref05_Put_j46 at h
 cases hb_6 : (t74 : Bool) with
 | true =>
  replace h := ite_t hb_6 h
  refine Ct <| Ro <| Rc 3 [⟨.ref [12] v_12 0 (mY b_12).length 1, []⟩, vp [1] 0 8, vw i1.Imm] ?_
  obtain ⟨r_5, hr_5, h⟩ := bind_s h
  have hc_5 := hansomref05_two_L i1.Imm r_5 hr_5
  refine Rt (some 80) (.callf 58) [] none [.w i1.Imm] (.d (.sl (mY r_5))) [] (cc hc_5) <| Rc 1 [vi n6] ?_
  obtain ⟨z_8, hz_8, h⟩ := bind_s h
  refine Rt (some 82) (.subsl 1 false true false) [] none [.d (.sl (mY r_5)), .i n6] (.d (.sl (mY z_8))) [] (cut_slFT hz_8 (fun _ => rfl)) ?_
  obtain ⟨z_9, hz_9, h⟩ := bind_s h
  refine Rt (some 83) (.append 1 1 false) [] none [.ref [12] v_12 0 (mY b_12).length 1, .d (.sl (mY z_8))] (.ref [12] (v_12 + 1) 0 (mY z_9).length 1) [([12], some (.arr (mY z_9) (v_12 + 1) false))] (cut_appR (e := (D.int .u8)) (l := b_12) (fz := false) (ws := []) (ap_data _) (fun _ => rfl) hz_9 (by kernel_rfl) (by kernel_rfl) rfl) <| Rc 1 [⟨.ref [12] (v_12 + 1) 0 (mY z_9).length 1, []⟩] <| Rd <| kB_nrm <| kS_nrm <| Sq <| Ro <| Rc 2 [⟨.ref [12] (v_12 + 1) 0 (mY z_9).length 1, []⟩, ⟨.ref [12] (v_12 + 1) 0 (mY z_9).length 1, []⟩] <| Rk <| Sq <| Runs.gcons (frz_ref (e := (D.int .u8)) (l := z_9) (id := [12]) (v := (v_12 + 1)) (n := 1) (fz := false) (by kernel_rfl) (by kernel_rfl) rfl) <| Runs.gnil <| kS_nrm <| Runs.ret ?_
  cases h
  exact Fq
 | false =>
  replace h := ite_f hb_6 h
  refine Cf <| Sq <| Ro <| Rc 2 [vb (t73 == 4), vb (t73 == 4)] <| Rk ?_
  cases hb_7 : ((t73 == 4) : Bool) with
  | true =>
   replace h := ite_t hb_7 h
   refine Ct <| Ro <| Rc 3 [⟨.ref [12] v_12 0 (mY b_12).length 1, []⟩, vp [1] 0 8, vw i1.Imm] ?_
   obtain ⟨r_6, hr_6, h⟩ := bind_s h
   have hc_6 := hansomref05_two_L i1.Imm r_6 hr_6
   refine Rt (some 89) (.callf 58) [] (some []) [.w i1.Imm] (.d (.sl (mY r_6))) [] (cc hc_6) ?_
   obtain ⟨z_10, hz_10, h⟩ := bind_s h
   refine Rt (some 90) (.append 1 1 false) [] (some [[12], [17], [27], [38], [43], [59], [70], [83], [90], [94]]) [.ref [12] v_12 0 (mY b_12).length 1, .d (.sl (mY r_6))] (.ref [12] (v_12 + 1) 0 (mY z_10).length 1) [([12], some (.arr (mY z_10) (v_12 + 1) false))] (cut_appR (e := (D.int .u8)) (l := b_12) (fz := false) (ws := []) (ap_data _) (fun _ => rfl) hz_10 (by kernel_rfl) (by kernel_rfl) rfl) <| Rc 2 [vp [1] 0 9, vw i1.Sel] ?_
   obtain ⟨r_7, hr_7, h⟩ := bind_s h
   have hc_7 := hansomref05_two_L i1.Sel r_7 hr_7
   refine Rt (some 93) (.callf 58) [] none [.w i1.Sel] (.d (.sl (mY r_7))) [] (cc hc_7) ?_
   obtain ⟨z_11, hz_11, h⟩ := bind_s h
   refine Rt (some 94) (.append 1 1 false) [] none [.ref [12] (v_12 + 1) 0 (mY z_10).length 1, .d (.sl (mY r_7))] (.ref [12] ((v_12 + 1) + 1) 0 (mY z_11).length 1) [([12], some (.arr (mY z_11) ((v_12 + 1) + 1) false))] (cut_appR (e := (D.int .u8)) (l := z_10) (fz := false) (ws := []) (ap_data _) (fun _ => rfl) hz_11 (by kernel_rfl) (by kernel_rfl) rfl) <| Rc 1 [⟨.ref [12] ((v_12 + 1) + 1) 0 (mY z_11).length 1, []⟩] <| Rd <| kB_nrm <| kS_nrm <| Sq <| Ro <| Rc 2 [⟨.ref [12] ((v_12 + 1) + 1) 0 (mY z_11).length 1, []⟩, ⟨.ref [12] ((v_12 + 1) + 1) 0 (mY z_11).length 1, []⟩] <| Rk <| Sq <| Runs.gcons (frz_ref (e := (D.int .u8)) (l := z_11) (id := [12]) (v := ((v_12 + 1) + 1)) (n := 1) (fz := false) (by kernel_rfl) (by kernel_rfl) rfl) <| Runs.gnil <| kS_nrm <| Runs.ret ?_
   cases h
   exact Fq
  | false =>
   replace h := ite_f hb_7 h
   refine Cf <| Runs.skip <| kB_nrm <| kS_nrm <| Sq <| Ro <| Rc 2 [⟨.ref [12] v_12 0 (mY b_12).length 1, []⟩, ⟨.ref [12] v_12 0 (mY b_12).length 1, []⟩] <| Rk <| Sq <| Runs.gcons (frz_ref (e := (D.int .u8)) (l := b_12) (id := [12]) (v := v_12) (n := 1) (fz := false) (by kernel_rfl) (by kernel_rfl) rfl) <| Runs.gnil <| kS_nrm <| Runs.ret ?_
   cases h
   exact Fq
theorem hansomref05_Put_j34_ok (i_ : Inst) (i1 : Inst) (r3 : Row) (b_12 : (List Int)) (v_12 : Nat) (r : (List Int)) (h : hansomref05_Put_j34 i1 r3 b_12 = some r) : Runs L F27b34 (hansomref05_Put_h34 i1 r3 b_12 v_12) (hansomref05_Put_Q i_ r) := by
 unfold hansomref05_Put_j34 at h
 refine Sq <| Sq <| Ro <| Rc 1 [⟨.d (Row.d r3), []⟩] ?_
 obtain ⟨r_4, hr_4, h⟩ := bind_s h
 have hc_4 := hansomref05_Imms_L r3 r_4 hr_4
 refine Rt (some 72) (.callf 28) [] none [.d (Row.d r3)] (.i r_4) [] (cc hc_4) <| Rc 1 [vi r_4] <| Rk <| Sq <| Ro <| Rc 1 [vi r_4] <| Rk <| Runs.block <| Sq <| Sq <| Ro <| Rc 2 [vb (r_4 == 1), vb (r_4 == 1)] <| Rk ?_
 cases hb_5 : ((r_4 == 1) : Bool) with
 | true =>
  replace h := ite_t hb_5 h
  refine Ct <| Runs.skip <| kS_nrm <| Runs.canon (hansomref05_Put_h46 i1 b_12 r_4 r_4 true v_12) Cz ?_
  exact hansomref05_Put_j46_ok i_ i1 b_12 r_4 r_4 true v_12 r h
 | false =>
  replace h := ite_f hb_5 h
  refine Cf <| Ro <| Rc 2 [vb (r_4 == 2), vb (r_4 == 2)] <| Rk <| Runs.canon (hansomref05_Put_h46 i1 b_12 r_4 r_4 (r_4 == 2) v_12) Cz ?_
  exact hansomref05_Put_j46_ok i_ i1 b_12 r_4 r_4 (r_4 == 2) v_12 r h
theorem hansomref05_Put_j24_ok (i_ : Inst) (i1 : Inst) (r3 : Row) (b_12 : (List Int)) (v_12 : Nat) (r : (List Int)) (h : hansomref05_Put_j24 i1 r3 b_12 = some r) : Runs L F27b24 (hansomref05_Put_h24 i1 r3 b_12 v_12) (hansomref05_Put_Q i_ r) := by
 unfold hansomref05_Put_j24 at h
 refine Sq <| Ro <| Rc 4 [⟨.ref [12] v_12 0 (mY b_12).length 1, []⟩, vp [1] 0 3, vy i1.Op, ⟨.ref [42] 0 0 (mY ([i1.Op] : List Int)).length 1, [([42], some (.arr (mY ([i1.Op] : List Int)) 0 false))]⟩] ?_
 obtain ⟨z_4, hz_4, h⟩ := bind_s h
 refine Rt (some 43) (.append 1 1 false) [] none [.ref [12] v_12 0 (mY b_12).length 1, .ref [42] 0 0 (mY ([i1.Op] : List Int)).length 1] (.ref [12] (v_12 + 1) 0 (mY z_4).length 1) [([12], some (.arr (mY z_4) (v_12 + 1) false))] (cut_appR (e := (D.int .u8)) (l := b_12) (fz := false) (ws := []) (ap_ref (e := (D.int .u8)) (l := ([i1.Op] : List Int)) (fz := false) (by kernel_rfl) (by kernel_rfl) rfl) (fun _ => rfl) hz_4 (by kernel_rfl) (by kernel_rfl) rfl) <| Rc 1 [⟨.ref [12] (v_12 + 1) 0 (mY z_4).length 1, []⟩] <| Rk <| Sq <| Sq <| Ro <| Rc 2 [vp [3] 0 3, vb r3.Mod] <| Rk ?_
 cases hb_4 : (r3.Mod : Bool) with
 | true =>
  replace h := ite_t hb_4 h
  refine Ct <| Sq <| Ro <| Rc 13 [⟨.ref [12] (v_12 + 1) 0 (mY z_4).length 1, []⟩, vp [1] 0 4, vi i1.Mod, vi (IntKind.wrap .i64 (64 * i1.Mod)), vp [1] 0 5, vi i1.Reg, vi (IntKind.wrap .i64 (8 * i1.Reg)), vi (IntKind.wrap .i64 ((IntKind.wrap .i64 (64 * i1.Mod)) + (IntKind.wrap .i64 (8 * i1.Reg)))), vp [1] 0 6, vi i1.RM, vi (IntKind.wrap .i64 ((IntKind.wrap .i64 ((IntKind.wrap .i64 (64 * i1.Mod)) + (IntKind.wrap .i64 (8 * i1.Reg)))) + i1.RM)), vy (IntKind.wrap .u8 (IntKind.wrap .i64 ((IntKind.wrap .i64 ((IntKind.wrap .i64 (64 * i1.Mod)) + (IntKind.wrap .i64 (8 * i1.Reg)))) + i1.RM))), ⟨.ref [58] 0 0 (mY ([(IntKind.wrap .u8 (IntKind.wrap .i64 ((IntKind.wrap .i64 ((IntKind.wrap .i64 (64 * i1.Mod)) + (IntKind.wrap .i64 (8 * i1.Reg)))) + i1.RM)))] : List Int)).length 1, [([58], some (.arr (mY ([(IntKind.wrap .u8 (IntKind.wrap .i64 ((IntKind.wrap .i64 ((IntKind.wrap .i64 (64 * i1.Mod)) + (IntKind.wrap .i64 (8 * i1.Reg)))) + i1.RM)))] : List Int)) 0 false))]⟩] ?_
  obtain ⟨z_5, hz_5, h⟩ := bind_s h
  refine Rt (some 59) (.append 1 1 false) [] none [.ref [12] (v_12 + 1) 0 (mY z_4).length 1, .ref [58] 0 0 (mY ([(IntKind.wrap .u8 (IntKind.wrap .i64 ((IntKind.wrap .i64 ((IntKind.wrap .i64 (64 * i1.Mod)) + (IntKind.wrap .i64 (8 * i1.Reg)))) + i1.RM)))] : List Int)).length 1] (.ref [12] ((v_12 + 1) + 1) 0 (mY z_5).length 1) [([12], some (.arr (mY z_5) ((v_12 + 1) + 1) false))] (cut_appR (e := (D.int .u8)) (l := z_4) (fz := false) (ws := []) (ap_ref (e := (D.int .u8)) (l := ([(IntKind.wrap .u8 (IntKind.wrap .i64 ((IntKind.wrap .i64 ((IntKind.wrap .i64 (64 * i1.Mod)) + (IntKind.wrap .i64 (8 * i1.Reg)))) + i1.RM)))] : List Int)) (fz := false) (by kernel_rfl) (by kernel_rfl) rfl) (fun _ => rfl) hz_5 (by kernel_rfl) (by kernel_rfl) rfl) <| Rc 1 [⟨.ref [12] ((v_12 + 1) + 1) 0 (mY z_5).length 1, []⟩] <| Rk <| Ro <| Rc 3 [⟨.ref [12] ((v_12 + 1) + 1) 0 (mY z_5).length 1, []⟩, vp [1] 0 7, vw i1.Disp] ?_
  obtain ⟨r_2, hr_2, h⟩ := bind_s h
  have hc_2 := hansomref05_two_L i1.Disp r_2 hr_2
  refine Rt (some 63) (.callf 58) [] (some []) [.w i1.Disp] (.d (.sl (mY r_2))) [] (cc hc_2) <| Rc 4 [vp [1] 0 4, vi i1.Mod, vp [1] 0 6, vi i1.RM] ?_
  obtain ⟨r_3, hr_3, h⟩ := bind_s h
  have hc_3 := hansomref05_Disps_L i1.Mod i1.RM r_3 hr_3
  refine Rt (some 68) (.callf 54) [] none [.i i1.Mod, .i i1.RM] (.i r_3) [] (cc hc_3) ?_
  obtain ⟨z_6, hz_6, h⟩ := bind_s h
  refine Rt (some 69) (.subsl 1 false true false) [] none [.d (.sl (mY r_2)), .i r_3] (.d (.sl (mY z_6))) [] (cut_slFT hz_6 (fun _ => rfl)) ?_
  obtain ⟨z_7, hz_7, h⟩ := bind_s h
  refine Rt (some 70) (.append 1 1 false) [] none [.ref [12] ((v_12 + 1) + 1) 0 (mY z_5).length 1, .d (.sl (mY z_6))] (.ref [12] (((v_12 + 1) + 1) + 1) 0 (mY z_7).length 1) [([12], some (.arr (mY z_7) (((v_12 + 1) + 1) + 1) false))] (cut_appR (e := (D.int .u8)) (l := z_5) (fz := false) (ws := []) (ap_data _) (fun _ => rfl) hz_7 (by kernel_rfl) (by kernel_rfl) rfl) <| Rc 1 [⟨.ref [12] (((v_12 + 1) + 1) + 1) 0 (mY z_7).length 1, []⟩] <| Rk <| Runs.canon (hansomref05_Put_h34 i1 r3 z_7 (((v_12 + 1) + 1) + 1)) Cz ?_
  exact hansomref05_Put_j34_ok i_ i1 r3 z_7 (((v_12 + 1) + 1) + 1) r h
 | false =>
  replace h := ite_f hb_4 h
  refine Cf <| Runs.skip <| kS_nrm <| Runs.canon (hansomref05_Put_h34 i1 r3 z_4 (v_12 + 1)) Cz ?_
  exact hansomref05_Put_j34_ok i_ i1 r3 z_4 (v_12 + 1) r h
theorem hansomref05_Put_j18_ok (i_ : Inst) (i1 : Inst) (r3 : Row) (b_12 : (List Int)) (v_12 : Nat) (r : (List Int)) (h : hansomref05_Put_j18 i1 r3 b_12 = some r) : Runs L F27b18 (hansomref05_Put_h18 i1 r3 b_12 v_12) (hansomref05_Put_Q i_ r) := by
 unfold hansomref05_Put_j18 at h
 refine Sq <| Sq <| Ro <| Rc 3 [vp [1] 0 2, vi i1.Seg, vb (decide (i1.Seg > 0))] <| Rk ?_
 cases hb_3 : ((decide (i1.Seg > 0)) : Bool) with
 | true =>
  replace h := ite_t hb_3 h
  refine Ct <| Ro <| Rc 7 [⟨.ref [12] v_12 0 (mY b_12).length 1, []⟩, vp [1] 0 2, vi i1.Seg, vi (IntKind.wrap .i64 (8 * i1.Seg)), vi (IntKind.wrap .i64 (30 + (IntKind.wrap .i64 (8 * i1.Seg)))), vy (IntKind.wrap .u8 (IntKind.wrap .i64 (30 + (IntKind.wrap .i64 (8 * i1.Seg))))), ⟨.ref [37] 0 0 (mY ([(IntKind.wrap .u8 (IntKind.wrap .i64 (30 + (IntKind.wrap .i64 (8 * i1.Seg)))))] : List Int)).length 1, [([37], some (.arr (mY ([(IntKind.wrap .u8 (IntKind.wrap .i64 (30 + (IntKind.wrap .i64 (8 * i1.Seg)))))] : List Int)) 0 false))]⟩] ?_
  obtain ⟨z_3, hz_3, h⟩ := bind_s h
  refine Rt (some 38) (.append 1 1 false) [] none [.ref [12] v_12 0 (mY b_12).length 1, .ref [37] 0 0 (mY ([(IntKind.wrap .u8 (IntKind.wrap .i64 (30 + (IntKind.wrap .i64 (8 * i1.Seg)))))] : List Int)).length 1] (.ref [12] (v_12 + 1) 0 (mY z_3).length 1) [([12], some (.arr (mY z_3) (v_12 + 1) false))] (cut_appR (e := (D.int .u8)) (l := b_12) (fz := false) (ws := []) (ap_ref (e := (D.int .u8)) (l := ([(IntKind.wrap .u8 (IntKind.wrap .i64 (30 + (IntKind.wrap .i64 (8 * i1.Seg)))))] : List Int)) (fz := false) (by kernel_rfl) (by kernel_rfl) rfl) (fun _ => rfl) hz_3 (by kernel_rfl) (by kernel_rfl) rfl) <| Rc 1 [⟨.ref [12] (v_12 + 1) 0 (mY z_3).length 1, []⟩] <| Rk <| Runs.canon (hansomref05_Put_h24 i1 r3 z_3 (v_12 + 1)) Cz ?_
  exact hansomref05_Put_j24_ok i_ i1 r3 z_3 (v_12 + 1) r h
 | false =>
  replace h := ite_f hb_3 h
  refine Cf <| Runs.skip <| kS_nrm <| Runs.canon (hansomref05_Put_h24 i1 r3 b_12 v_12) Cz ?_
  exact hansomref05_Put_j24_ok i_ i1 r3 b_12 v_12 r h
theorem hansomref05_Put_j12_ok (i_ : Inst) (i1 : Inst) (r3 : Row) (b_12 : (List Int)) (v_12 : Nat) (r : (List Int)) (h : hansomref05_Put_j12 i1 r3 b_12 = some r) : Runs L F27b12 (hansomref05_Put_h12 i1 r3 b_12 v_12) (hansomref05_Put_Q i_ r) := by
 unfold hansomref05_Put_j12 at h
 refine Sq <| Sq <| Ro <| Rc 3 [vp [1] 0 1, vi i1.Rep, vb (decide (i1.Rep > 0))] <| Rk ?_
 cases hb_2 : ((decide (i1.Rep > 0)) : Bool) with
 | true =>
  replace h := ite_t hb_2 h
  refine Ct <| Ro <| Rc 6 [⟨.ref [12] v_12 0 (mY b_12).length 1, []⟩, vp [1] 0 1, vi i1.Rep, vi (IntKind.wrap .i64 (241 + i1.Rep)), vy (IntKind.wrap .u8 (IntKind.wrap .i64 (241 + i1.Rep))), ⟨.ref [26] 0 0 (mY ([(IntKind.wrap .u8 (IntKind.wrap .i64 (241 + i1.Rep)))] : List Int)).length 1, [([26], some (.arr (mY ([(IntKind.wrap .u8 (IntKind.wrap .i64 (241 + i1.Rep)))] : List Int)) 0 false))]⟩] ?_
  obtain ⟨z_2, hz_2, h⟩ := bind_s h
  refine Rt (some 27) (.append 1 1 false) [] none [.ref [12] v_12 0 (mY b_12).length 1, .ref [26] 0 0 (mY ([(IntKind.wrap .u8 (IntKind.wrap .i64 (241 + i1.Rep)))] : List Int)).length 1] (.ref [12] (v_12 + 1) 0 (mY z_2).length 1) [([12], some (.arr (mY z_2) (v_12 + 1) false))] (cut_appR (e := (D.int .u8)) (l := b_12) (fz := false) (ws := []) (ap_ref (e := (D.int .u8)) (l := ([(IntKind.wrap .u8 (IntKind.wrap .i64 (241 + i1.Rep)))] : List Int)) (fz := false) (by kernel_rfl) (by kernel_rfl) rfl) (fun _ => rfl) hz_2 (by kernel_rfl) (by kernel_rfl) rfl) <| Rc 1 [⟨.ref [12] (v_12 + 1) 0 (mY z_2).length 1, []⟩] <| Rk <| Runs.canon (hansomref05_Put_h18 i1 r3 z_2 (v_12 + 1)) Cz ?_
  exact hansomref05_Put_j18_ok i_ i1 r3 z_2 (v_12 + 1) r h
 | false =>
  replace h := ite_f hb_2 h
  refine Cf <| Runs.skip <| kS_nrm <| Runs.canon (hansomref05_Put_h18 i1 r3 b_12 v_12) Cz ?_
  exact hansomref05_Put_j18_ok i_ i1 r3 b_12 v_12 r h
theorem hansomref05_Put_ok (i_ : Inst) (r : (List Int)) (h : hansomref05_Put i_ = some r) : Runs L F27.body ⟨tmOf [.d (Inst.d i_)] 0, updW (fun _ => none) []⟩ (hansomref05_Put_Q i_ r) := by
 unfold hansomref05_Put at h
 refine Sq <| Ro <| Rc 2 [⟨.ptr [1] 0 0, [([1], some (.cells [.b i_.Lock, .i i_.Rep, .i i_.Seg, .y i_.Op, .i i_.Mod, .i i_.Reg, .i i_.RM, .w i_.Disp, .w i_.Imm, .w i_.Sel] 0))]⟩, ⟨.nils, []⟩] <| Rk <| Sq <| Ro <| Rc 1 [⟨.d (Inst.d i_), []⟩] ?_
 obtain ⟨r_1, hr_1, h⟩ := bind_s h
 have hc_1 := hansomref05_Row_L i_ r_1 hr_1
 refine Rt (some 9) (.callf 26) [] none [.d (Inst.d i_)] (.tup [.d (Row.d r_1.1), .b r_1.2]) [] (cc hc_1) <| Rc 6 [⟨.tup [.d (Row.d r_1.1), .b r_1.2], []⟩, ⟨.d (Row.d r_1.1), []⟩, vb r_1.2, ⟨.ptr [3] 0 0, [([3], some (.cells [.i 0, .i 0, .i 0, .b false] 0))]⟩, ⟨.tup [], [([3], some (.cells [.i r_1.1.Name, .i r_1.1.A, .i r_1.1.B, .b r_1.1.Mod] 0))]⟩, vb r_1.2] <| Rk <| Sq <| Ro <| Rc 2 [⟨.ref [12] 0 0 (mY ([] : List Int)).length 1, [([12], some (.arr (mY ([] : List Int)) 0 false))]⟩, ⟨.ref [12] 0 0 (mY ([] : List Int)).length 1, []⟩] <| Rk <| Sq <| Sq <| Ro <| Rc 2 [vp [1] 0 0, vb i_.Lock] <| Rk ?_
 cases hb_1 : (i_.Lock : Bool) with
 | true =>
  replace h := ite_t hb_1 h
  refine Ct <| Ro <| Rc 2 [⟨.ref [12] 0 0 (mY ([] : List Int)).length 1, []⟩, ⟨.ref [16] 0 0 (mY ([240] : List Int)).length 1, [([16], some (.arr (mY ([240] : List Int)) 0 false))]⟩] ?_
  obtain ⟨z_1, hz_1, h⟩ := bind_s h
  refine Rt (some 17) (.append 1 1 false) [] none [.ref [12] 0 0 (mY ([] : List Int)).length 1, .ref [16] 0 0 (mY ([240] : List Int)).length 1] (.ref [12] 1 0 (mY z_1).length 1) [([12], some (.arr (mY z_1) 1 false))] (cut_appR (e := (D.int .u8)) (l := ([] : List Int)) (fz := false) (ws := []) (ap_ref (e := (D.int .u8)) (l := ([240] : List Int)) (fz := false) (by kernel_rfl) (by kernel_rfl) rfl) (fun _ => rfl) hz_1 (by kernel_rfl) (by kernel_rfl) rfl) <| Rc 1 [⟨.ref [12] 1 0 (mY z_1).length 1, []⟩] <| Rk <| Runs.canon (hansomref05_Put_h12 ({ i_ with Lock := true } : Inst) r_1.1 z_1 1) Cz ?_
  exact hansomref05_Put_j12_ok i_ ({ i_ with Lock := true } : Inst) r_1.1 z_1 1 r h
 | false =>
  replace h := ite_f hb_1 h
  refine Cf <| Runs.skip <| kS_nrm <| Runs.canon (hansomref05_Put_h12 ({ i_ with Lock := false } : Inst) r_1.1 ([] : List Int) 0) Cz ?_
  exact hansomref05_Put_j12_ok i_ ({ i_ with Lock := false } : Inst) r_1.1 ([] : List Int) 0 r h
theorem hansomref05_Put_L (i_ : Inst) (r : (List Int)) (h : hansomref05_Put i_ = some r) : L 27 [.d (Inst.d i_)] = some (.d (.sl (mY r)), [.d (Inst.d i_)]) := by
 obtain ⟨p, ⟨hne, hf⟩, hr⟩ := hansomref05_Put_ok i_ r h
 obtain ⟨k, hk⟩ := run_of (F := F27) (args := [.d (Inst.d i_)]) (ap := [.d (Inst.d i_)]) (bx0 := updW (fun _ => none) []) rfl rfl (by kernel_rfl) ⟨p, ⟨hne, hf⟩, hr⟩
 exact lim_run (k := k) rfl hk
def scan_All_h4 (out4 : (List Inst)) (b0 : (List Int)) (v_4 : Nat) : St := ⟨tab [(0, .d (.sl (mY b0))), (4, .ref [4] v_4 0 (List.map Inst.d out4).length 10)], tabB [([4], some (.arr (List.map Inst.d out4) v_4 false))]⟩
def scan_All_h8 (out4 : (List Inst)) (b0 : (List Int)) (at5 : Int) (v_4 : Nat) : St := ⟨tab [(0, .d (.sl (mY b0))), (4, .ref [4] v_4 0 (List.map Inst.d out4).length 10), (5, .i at5)], tabB [([4], some (.arr (List.map Inst.d out4) v_4 false))]⟩
def scan_All_h27 (out4 : (List Inst)) (at5 : Int) (v_4 : Nat) : St := ⟨tab [(4, .ref [4] v_4 0 (List.map Inst.d out4).length 10), (5, .i at5)], tabB [([4], some (.arr (List.map Inst.d out4) v_4 false))]⟩
def scan_All_Q (b_ : (List Int)) (r : ((List Inst) × Int)) (p : Out × St) : Prop := (∀ i, p.1 ≠ .exit i) ∧ finF F36 [.d (.sl (mY b_))] p.2 = some (.tup [.d (.sl (List.map Inst.d r.1)), .i r.2], [.d (.sl (mY b_))])
def scan_All_P8 (b_ : (List Int)) (b0 : (List Int)) (e : ((List Inst) × Int)) (p : Out × St) : Prop := p.1 = .exit 0 ∧ ∃ g : Nat, Canon [] [4, 5] [[4]] p.2 (scan_All_h27 e.1 e.2 g)
theorem scan_All_l8_ok (b_ : (List Int)) (out4 : (List Inst)) (b0 : (List Int)) (at5 : Int) (v_4 : Nat) (r : (Lp ((List Inst) × Int) ((List Inst) × Int))) (h : scan_All_l8 out4 b0 at5 = some r) : Runs L F36l8 (scan_All_h8 out4 b0 at5 v_4) (LQ [] [0, 4, 5] [[4]] (fun (x : ((List Inst) × Int)) (g : Nat) => scan_All_h8 x.1 b0 x.2 g) (scan_All_P8 b_ b0) r) := by
 unfold scan_All_l8 at h
 refine Sq <| Sq <| Ro <| Rc 2 [vi at5, ⟨.d (.sl (mY b0)), []⟩] <| Rt (some 11) .lenL [] none [.d (.sl (mY b0))] (.i (b0.length : Int)) [] (cut_len _) <| Rc 1 [vb (decide (at5 < (b0.length : Int)))] <| Rk ?_
 cases hb_1 : ((decide (at5 < (b0.length : Int))) : Bool) with
 | true =>
  replace h := ite_t hb_1 h
  refine Ct <| Runs.skip <| kS_nrm <| Runs.block <| Sq <| Ro <| Rc 2 [⟨.d (.sl (mY b0)), []⟩, vi at5] ?_
  obtain ⟨z_1, hz_1, h⟩ := bind_s h
  refine Rt (some 16) (.subsl 1 true false false) [] none [.d (.sl (mY b0)), .i at5] (.d (.sl (mY z_1))) [] (cut_slTF hz_1 (fun _ => rfl)) ?_
  obtain ⟨r_1, hr_1, h⟩ := bind_s h
  have hc_1 := scan_Get_L z_1 r_1 hr_1
  refine Rt (some 17) (.callf 34) [] none [.d (.sl (mY z_1))] (.tup [.d (Inst.d r_1.1), .i r_1.2.1, .i r_1.2.2]) [] (cc hc_1) <| Rc 8 [⟨.tup [.d (Inst.d r_1.1), .i r_1.2.1, .i r_1.2.2], []⟩, ⟨.d (Inst.d r_1.1), []⟩, vi r_1.2.1, vi r_1.2.2, ⟨.ptr [6] 0 0, [([6], some (.cells [.b false, .i 0, .i 0, .y 0, .i 0, .i 0, .i 0, .w 0, .w 0, .w 0] 0))]⟩, ⟨.tup [], [([6], some (.cells [.b r_1.1.Lock, .i r_1.1.Rep, .i r_1.1.Seg, .y r_1.1.Op, .i r_1.1.Mod, .i r_1.1.Reg, .i r_1.1.RM, .w r_1.1.Disp, .w r_1.1.Imm, .w r_1.1.Sel] 0))]⟩, vi r_1.2.1, vi r_1.2.2] <| Rk <| Sq <| Sq <| Ro <| Rc 2 [vi r_1.2.2, vb (r_1.2.2 != 0)] <| Rk ?_
  cases hb_2 : ((r_1.2.2 != 0) : Bool) with
  | true =>
   replace h := ite_t hb_2 h
   refine Ct <| Runs.exit <| kS_exit <| kB_pass (by decide) ?_
   obtain rfl := sj h
   exact ⟨nofun, rfl, v_4, Cz⟩
  | false =>
   replace h := ite_f hb_2 h
   refine Cf <| Runs.skip <| kS_nrm <| Sq <| Ro <| Rc 3 [⟨.ref [4] v_4 0 (List.map Inst.d out4).length 10, []⟩, ⟨.d (Inst.d r_1.1), []⟩, ⟨.ref [25] 0 0 (List.map Inst.d ([r_1.1] : List Inst)).length 10, [([25], some (.arr (List.map Inst.d ([r_1.1] : List Inst)) 0 false))]⟩] ?_
   obtain ⟨z_2, hz_2, h⟩ := bind_s h
   refine Rt (some 26) (.append 10 64 false) [] none [.ref [4] v_4 0 (List.map Inst.d out4).length 10, .ref [25] 0 0 (List.map Inst.d ([r_1.1] : List Inst)).length 10] (.ref [4] (v_4 + 1) 0 (List.map Inst.d z_2).length 10) [([4], some (.arr (List.map Inst.d z_2) (v_4 + 1) false))] (cut_appR (e := Inst.d) (l := out4) (fz := false) (ws := []) (ap_ref (e := Inst.d) (l := ([r_1.1] : List Inst)) (fz := false) (by kernel_rfl) (by kernel_rfl) rfl) (fun _ => rfl) hz_2 (by kernel_rfl) (by kernel_rfl) rfl) <| Rc 1 [⟨.ref [4] (v_4 + 1) 0 (List.map Inst.d z_2).length 10, []⟩] <| Rk <| Ro <| Rc 4 [vi at5, vi r_1.2.1, vi (IntKind.wrap .i64 (at5 + r_1.2.1)), vi (IntKind.wrap .i64 (at5 + r_1.2.1))] <| Rd <| kB_nrm ?_
   obtain rfl := sj h
   exact ⟨rfl, (v_4 + 1), Cz⟩
 | false =>
  replace h := ite_f hb_1 h
  refine Cf <| Runs.exit <| kS_exit ?_
  obtain rfl := sj h
  exact ⟨nofun, rfl, v_4, Cz⟩
theorem scan_All_ok (b_ : (List Int)) (r : ((List Inst) × Int)) (h : scan_All b_ = some r) : Runs L F36.body ⟨tmOf [.d (.sl (mY b_))] 0, updW (fun _ => none) []⟩ (scan_All_Q b_ r) := by
 unfold scan_All at h
 refine Sq <| Ro <| Rc 2 [⟨.nils, []⟩, vi 0] <| Rk <| Sq <| Ro <| Rc 1 [⟨.nils, []⟩] <| Rk <| Runs.canon (scan_All_h4 ([] : List Inst) b_ 0) (Canon.cons (own_nil Inst.d (v := 0) (by kernel_rfl) (by kernel_rfl)) Cz) <| Sq <| Ro <| Rc 1 [vi 0] <| Rk <| Sq <| Runs.block ?_
 obtain ⟨e_1, he_1, h⟩ := bind_s h
 refine Runs.loop (fun x : ((List Inst) × Int) => scan_All_l8 x.1 b_ x.2) (fun (x : ((List Inst) × Int)) (g : Nat) => scan_All_h8 x.1 b_ x.2 g) (scan_All_P8 b_ b_) (fun x g r hr => scan_All_l8_ok b_ x.1 b_ x.2 g r hr) 0 he_1 Cz ?_
 rintro ⟨o, s⟩ hp
 obtain ⟨ho, g_1, hk_1⟩ := hp
 have ho' : o = .exit 0 := ho
 subst ho'
 refine kB_hit <| kS_nrm <| Runs.canon _ hk_1 <| Sq <| Ro <| Rc 4 [⟨.ref [4] g_1 0 (List.map Inst.d e_1.1).length 10, []⟩, vi e_1.2, ⟨.ref [4] g_1 0 (List.map Inst.d e_1.1).length 10, []⟩, vi e_1.2] <| Rk <| Sq <| Runs.gcons (frz_ref (e := Inst.d) (l := e_1.1) (id := [4]) (v := g_1) (n := 10) (fz := false) (by kernel_rfl) (by kernel_rfl) rfl) <| Runs.gnil <| kS_nrm <| Runs.ret ?_
 cases h
 exact Fq
theorem scan_All_L (b_ : (List Int)) (r : ((List Inst) × Int)) (h : scan_All b_ = some r) : L 36 [.d (.sl (mY b_))] = some (.tup [.d (.sl (List.map Inst.d r.1)), .i r.2], [.d (.sl (mY b_))]) := by
 obtain ⟨p, ⟨hne, hf⟩, hr⟩ := scan_All_ok b_ r h
 obtain ⟨k, hk⟩ := run_of (F := F36) (args := [.d (.sl (mY b_))]) (ap := [.d (.sl (mY b_))]) (bx0 := updW (fun _ => none) []) rfl rfl (by kernel_rfl) ⟨p, ⟨hne, hf⟩, hr⟩
 exact lim_run (k := k) rfl hk
def hansomlaw07_awake_Q  (r : Bool) (p : Out × St) : Prop := (∀ i, p.1 ≠ .exit i) ∧ finF F35 [] p.2 = some (.b r, [])
theorem hansomlaw07_awake_ok  (r : Bool) (h : hansomlaw07_awake = some r) : Runs L F35.body ⟨tmOf [] 0, updW (fun _ => none) []⟩ (hansomlaw07_awake_Q  r) := by
 unfold hansomlaw07_awake at h
 refine Sq <| Ro <| Rc 1 [vb false] <| Rk <| Sq <| Ro <| Rc 1 [⟨.ref [5] 0 0 (mY ([184, 52, 18, 144] : List Int)).length 1, [([5], some (.arr (mY ([184, 52, 18, 144] : List Int)) 0 false))]⟩] ?_
 obtain ⟨r_1, hr_1, h⟩ := bind_s h
 have hc_1 := scan_Get_L ([184, 52, 18, 144] : List Int) r_1 hr_1
 refine Rt (some 6) (.callf 34) [] none [.ref [5] 0 0 (mY ([184, 52, 18, 144] : List Int)).length 1] (.tup [.d (Inst.d r_1.1), .i r_1.2.1, .i r_1.2.2]) [([5], some (.arr (mY ([184, 52, 18, 144] : List Int)) 0 true))] (cut_call (call_of (ws := [([5], some (.arr (mY ([184, 52, 18, 144] : List Int)) 0 true))]) (us := [([5], some (.arr (mY ([184, 52, 18, 144] : List Int)) 0 true))]) (by kernel_rfl) (gives_cons (ws := [([5], some (.arr (mY ([184, 52, 18, 144] : List Int)) 0 true))]) (give_ref (e := (D.int .u8)) (l := ([184, 52, 18, 144] : List Int)) (fz := false) (by kernel_rfl) (by kernel_rfl) rfl) gives_nil) hc_1 (by kernel_rfl) (by kernel_rfl))) <| Rc 8 [⟨.tup [.d (Inst.d r_1.1), .i r_1.2.1, .i r_1.2.2], []⟩, ⟨.d (Inst.d r_1.1), []⟩, vi r_1.2.1, vi r_1.2.2, ⟨.ptr [1] 0 0, [([1], some (.cells [.b false, .i 0, .i 0, .y 0, .i 0, .i 0, .i 0, .w 0, .w 0, .w 0] 0))]⟩, ⟨.tup [], [([1], some (.cells [.b r_1.1.Lock, .i r_1.1.Rep, .i r_1.1.Seg, .y r_1.1.Op, .i r_1.1.Mod, .i r_1.1.Reg, .i r_1.1.RM, .w r_1.1.Disp, .w r_1.1.Imm, .w r_1.1.Sel] 0))]⟩, vi r_1.2.1, vi r_1.2.2] ?_
 refine Rk <| Sq <| Ro <| Rc 3 [vi r_1.2.2, vb (r_1.2.2 == 0), vb (r_1.2.2 == 0)] ?_
 cases hb_1 : ((r_1.2.2 == 0) : Bool) with
 | true =>
  replace h := ite_t hb_1 h
  refine Rc 4 [vi r_1.2.1, vb (r_1.2.1 == 3), vb (r_1.2.1 == 3), vb (r_1.2.1 == 3)] ?_
  cases hb_2 : ((r_1.2.1 == 3) : Bool) with
  | true =>
   replace h := ite_t hb_2 h
   refine Rc 5 [vp [1] 0 8, vw r_1.1.Imm, vb (r_1.1.Imm == 4660), vb (r_1.1.Imm == 4660), vb (r_1.1.Imm == 4660)] ?_
   cases hb_3 : ((r_1.1.Imm == 4660) : Bool) with
   | true =>
    replace h := ite_t hb_3 h
    refine Rc 5 [vp [1] 0 3, vy r_1.1.Op, vb (r_1.1.Op == 184), vb (r_1.1.Op == 184), vb (r_1.1.Op == 184)] <| Rk <| Runs.ret ?_
    cases h
    exact Fq
   | false =>
    replace h := ite_f hb_3 h
    refine Rc 5 [vn, vn, vn, vb false, vb false] <| Rk <| Runs.ret ?_
    cases h
    exact Fq
  | false =>
   replace h := ite_f hb_2 h
   refine Rc 10 [vn, vn, vn, vb false, vb false, vn, vn, vn, vb false, vb false] <| Rk <| Runs.ret ?_
   cases h
   exact Fq
 | false =>
  replace h := ite_f hb_1 h
  refine Rc 14 [vn, vn, vb false, vb false, vn, vn, vn, vb false, vb false, vn, vn, vn, vb false, vb false] <| Rk <| Runs.ret ?_
  cases h
  exact Fq
theorem hansomlaw07_awake_L  (r : Bool) (h : hansomlaw07_awake = some r) : L 35 [] = some (.b r, []) := by
 obtain ⟨p, ⟨hne, hf⟩, hr⟩ := hansomlaw07_awake_ok  r h
 obtain ⟨k, hk⟩ := run_of (F := F35) (args := []) (ap := []) (bx0 := updW (fun _ => none) []) rfl rfl (by kernel_rfl) ⟨p, ⟨hne, hf⟩, hr⟩
 exact lim_run (k := k) rfl hk
def hansomlaw07_ScanAll_h8 (b_14 : (List Inst)) (b_15 : (List Int)) (l0 : (List Inst)) (cut1 : Int) (i7 : Int) (v_14 : Nat) (v_15 : Nat) : St := ⟨tab [(0, .d (.sl (List.map Inst.d l0))), (1, .i cut1), (5, .ref [14] v_14 0 (List.map Inst.d b_14).length 10), (6, .ref [15] v_15 0 (mY b_15).length 1), (7, .i i7)], tabB [([14], some (.arr (List.map Inst.d b_14) v_14 false)), ([15], some (.arr (mY b_15) v_15 false))]⟩
def hansomlaw07_ScanAll_h21 (b_14 : (List Inst)) (b_15 : (List Int)) (cut1 : Int) (v_14 : Nat) (v_15 : Nat) : St := ⟨tab [(1, .i cut1), (5, .ref [14] v_14 0 (List.map Inst.d b_14).length 10), (6, .ref [15] v_15 0 (mY b_15).length 1)], tabB [([14], some (.arr (List.map Inst.d b_14) v_14 false)), ([15], some (.arr (mY b_15) v_15 false))]⟩
def hansomlaw07_ScanAll_h41 (b_14 : (List Inst)) (cut1 : Int) (b6 : (List Int)) (n8 : Int) (got9 : (List Inst)) (i11 : Int) (v_14 : Nat) : St := ⟨tab [(1, .i cut1), (5, .ref [14] v_14 0 (List.map Inst.d b_14).length 10), (6, .d (.sl (mY b6))), (8, .i n8), (9, .d (.sl (List.map Inst.d got9))), (11, .i i11)], tabB [([14], some (.arr (List.map Inst.d b_14) v_14 false))]⟩
def hansomlaw07_ScanAll_h58 (b_14 : (List Inst)) (cut1 : Int) (b6 : (List Int)) (n8 : Int) (v_14 : Nat) : St := ⟨tab [(1, .i cut1), (5, .ref [14] v_14 0 (List.map Inst.d b_14).length 10), (6, .d (.sl (mY b6))), (8, .i n8)], tabB [([14], some (.arr (List.map Inst.d b_14) v_14 false))]⟩
def hansomlaw07_ScanAll_Q (l_ : (List Inst)) (cut_ : Int) (r : Bool) (p : Out × St) : Prop := (∀ i, p.1 ≠ .exit i) ∧ finF F10 [.d (.sl (List.map Inst.d l_)), .i cut_] p.2 = some (.b r, [.d (.sl (List.map Inst.d l_)), .i cut_])
def hansomlaw07_ScanAll_P8 (l_ : (List Inst)) (cut_ : Int) (l0 : (List Inst)) (cut1 : Int) (e : ((List Inst) × (List Int))) (p : Out × St) : Prop := p.1 = .exit 0 ∧ ∃ g : (Nat × Nat), Canon [] [1, 5, 6] [[14], [15]] p.2 (hansomlaw07_ScanAll_h21 e.1 e.2 cut1 g.1 g.2)
def hansomlaw07_ScanAll_P41 (l_ : (List Inst)) (cut_ : Int) (b_14 : (List Inst)) (cut1 : Int) (b6 : (List Int)) (n8 : Int) (got9 : (List Inst)) (e : (Bool ⊕ Unit)) (p : Out × St) : Prop := match e with
 | .inl x => p.1 = .ret ∧ finF F10 [.d (.sl (List.map Inst.d l_)), .i cut_] p.2 = some (.b x, [.d (.sl (List.map Inst.d l_)), .i cut_])
 | .inr x => p.1 = .exit 2 ∧ ∃ g : Nat, Canon [] [1, 5, 6, 8] [[14]] p.2 (hansomlaw07_ScanAll_h58 b_14 cut1 b6 n8 g)
theorem hansomlaw07_ScanAll_l8_ok (l_ : (List Inst)) (cut_ : Int) (b_14 : (List Inst)) (b_15 : (List Int)) (l0 : (List Inst)) (cut1 : Int) (i7 : Int) (v_14 : Nat) (v_15 : Nat) (r : (Lp ((List Inst) × (List Int) × Int) ((List Inst) × (List Int)))) (h : hansomlaw07_ScanAll_l8 b_14 b_15 l0 cut1 i7 = some r) : Runs L F10l8 (hansomlaw07_ScanAll_h8 b_14 b_15 l0 cut1 i7 v_14 v_15) (LQ [] [0, 1, 5, 6, 7] [[14], [15]] (fun (x : ((List Inst) × (List Int) × Int)) (g : (Nat × Nat)) => hansomlaw07_ScanAll_h8 x.1 x.2.1 l0 cut1 x.2.2 g.1 g.2) (hansomlaw07_ScanAll_P8 l_ cut_ l0 cut1) r) := by
 unfold hansomlaw07_ScanAll_l8 at h
 refine Sq <| Sq <| Ro <| Rc 2 [vi i7, ⟨.d (.sl (List.map Inst.d l0)), []⟩] <| Rt (some 18) .lenL [] none [.d (.sl (List.map Inst.d l0))] (.i (l0.length : Int)) [] (cut_len _) <| Rc 2 [vb (decide (i7 < (l0.length : Int))), vb (decide (i7 < (l0.length : Int)))] ?_
 cases hb_1 : ((decide (i7 < (l0.length : Int))) : Bool) with
 | true =>
  replace h := ite_t hb_1 h
  refine Rc 3 [vi i7, vb (decide (i7 < 20)), vb (decide (i7 < 20))] <| Rk ?_
  cases hb_2 : ((decide (i7 < 20)) : Bool) with
  | true =>
   replace h := ite_t hb_2 h
   refine Ct <| Runs.skip <| kS_nrm <| Sq <| Runs.block <| Sq <| Ro <| Rc 3 [⟨.ref [14] v_14 0 (List.map Inst.d b_14).length 10, []⟩, ⟨.d (.sl (List.map Inst.d l0)), []⟩, vi i7] ?_
   obtain ⟨z_1, hz_1, h⟩ := bind_s h
   refine Rt (some 29) (.iaddrS 10) [] none [.d (.sl (List.map Inst.d l0)), .i i7] (.elt (Inst.d z_1) 0) [] (cut_at hz_1 (fun _ => rfl)) <| Rc 1 [⟨.d (Inst.d z_1), []⟩] ?_
   obtain ⟨r_1, hr_1, h⟩ := bind_s h
   have hc_1 := hansomref05_Near_L z_1 r_1 hr_1
   refine Rt (some 31) (.callf 24) [] none [.d (Inst.d z_1)] (.d (Inst.d r_1)) [] (cc hc_1) <| Rc 1 [⟨.ref [32] 0 0 (List.map Inst.d ([r_1] : List Inst)).length 10, [([32], some (.arr (List.map Inst.d ([r_1] : List Inst)) 0 false))]⟩] ?_
   obtain ⟨z_2, hz_2, h⟩ := bind_s h
   refine Rt (some 33) (.append 10 64 false) [] none [.ref [14] v_14 0 (List.map Inst.d b_14).length 10, .ref [32] 0 0 (List.map Inst.d ([r_1] : List Inst)).length 10] (.ref [14] (v_14 + 1) 0 (List.map Inst.d z_2).length 10) [([14], some (.arr (List.map Inst.d z_2) (v_14 + 1) false))] (cut_appR (e := Inst.d) (l := b_14) (fz := false) (ws := []) (ap_ref (e := Inst.d) (l := ([r_1] : List Inst)) (fz := false) (by kernel_rfl) (by kernel_rfl) rfl) (fun _ => rfl) hz_2 (by kernel_rfl) (by kernel_rfl) rfl) <| Rc 1 [⟨.ref [14] (v_14 + 1) 0 (List.map Inst.d z_2).length 10, []⟩] <| Rk <| Ro <| Rc 3 [⟨.ref [15] v_15 0 (mY b_15).length 1, []⟩, ⟨.ref [14] (v_14 + 1) 0 (List.map Inst.d z_2).length 10, []⟩, vi i7] ?_
   obtain ⟨z_3, hz_3, h⟩ := bind_s h
   refine Rt (some 37) (.iaddrS 10) [] none [.ref [14] (v_14 + 1) 0 (List.map Inst.d z_2).length 10, .i i7] (.eref [14] (v_14 + 1) (0 + (i7).toNat) 0) [] (cut_atR (e := Inst.d) (l := z_2) hz_3 rfl) <| Rt (some 38) (.load (some 10)) [] none [.eref [14] (v_14 + 1) (0 + (i7).toNat) 0] (.d (Inst.d z_3)) [] (cut_loadR (e := Inst.d) (l := z_2) (fz := false) (y := z_3) (by kernel_rfl) hz_3 (by kernel_rfl) (by kernel_rfl)) ?_
   obtain ⟨r_2, hr_2, h⟩ := bind_s h
   have hc_2 := hansomref05_Put_L z_3 r_2 hr_2
   refine Rt (some 39) (.callf 27) [] none [.d (Inst.d z_3)] (.d (.sl (mY r_2))) [] (cc hc_2) ?_
   obtain ⟨z_4, hz_4, h⟩ := bind_s h
   refine Rt (some 40) (.append 1 1 false) [] none [.ref [15] v_15 0 (mY b_15).length 1, .d (.sl (mY r_2))] (.ref [15] (v_15 + 1) 0 (mY z_4).length 1) [([15], some (.arr (mY z_4) (v_15 + 1) false))] (cut_appR (e := (D.int .u8)) (l := b_15) (fz := false) (ws := []) (ap_data _) (fun _ => rfl) hz_4 (by kernel_rfl) (by kernel_rfl) rfl) <| Rc 1 [⟨.ref [15] (v_15 + 1) 0 (mY z_4).length 1, []⟩] <| Rd <| kB_nrm <| kS_nrm <| Ro <| Rc 3 [vi i7, vi (IntKind.wrap .i64 (i7 + 1)), vi (IntKind.wrap .i64 (i7 + 1))] <| Rd ?_
   obtain rfl := sj h
   exact ⟨rfl, ((v_14 + 1), (v_15 + 1)), Cz⟩
  | false =>
   replace h := ite_f hb_2 h
   refine Cf <| Runs.exit <| kS_exit ?_
   obtain rfl := sj h
   exact ⟨nofun, rfl, (v_14, v_15), Cz⟩
 | false =>
  replace h := ite_f hb_1 h
  refine Rc 3 [vn, vn, vb false] <| Rk <| Cf <| Runs.exit <| kS_exit ?_
  obtain rfl := sj h
  exact ⟨nofun, rfl, (v_14, v_15), Cz⟩
theorem hansomlaw07_ScanAll_l41_ok (l_ : (List Inst)) (cut_ : Int) (b_14 : (List Inst)) (cut1 : Int) (b6 : (List Int)) (n8 : Int) (got9 : (List Inst)) (i11 : Int) (v_14 : Nat) (r : (Lp Int (Bool ⊕ Unit))) (h : hansomlaw07_ScanAll_l41 b_14 cut1 b6 n8 got9 i11 = some r) : Runs L F10l41 (hansomlaw07_ScanAll_h41 b_14 cut1 b6 n8 got9 i11 v_14) (LQ [] [1, 5, 6, 8, 9, 11] [[14]] (fun (x : Int) (g : Nat) => hansomlaw07_ScanAll_h41 b_14 cut1 b6 n8 got9 x g) (hansomlaw07_ScanAll_P41 l_ cut_ b_14 cut1 b6 n8 got9) r) := by
 unfold hansomlaw07_ScanAll_l41 at h
 refine Sq <| Sq <| Ro <| Rc 2 [vi i11, ⟨.ref [14] v_14 0 (List.map Inst.d b_14).length 10, []⟩] <| Rt (some 62) .lenL [] none [.ref [14] v_14 0 (List.map Inst.d b_14).length 10] (.i (b_14.length : Int)) [] (cut_lenR (e := Inst.d) b_14 rfl) <| Rc 1 [vb (decide (i11 < (b_14.length : Int)))] <| Rk ?_
 cases hb_3 : ((decide (i11 < (b_14.length : Int))) : Bool) with
 | true =>
  replace h := ite_t hb_3 h
  refine Ct <| Runs.skip <| kS_nrm <| Sq <| Runs.block <| Sq <| Ro <| Rc 2 [⟨.d (.sl (List.map Inst.d got9)), []⟩, vi i11] ?_
  obtain ⟨z_2, hz_2, h⟩ := bind_s h
  refine Rt (some 68) (.iaddrS 10) [] none [.d (.sl (List.map Inst.d got9)), .i i11] (.elt (Inst.d z_2) 0) [] (cut_at hz_2 (fun _ => rfl)) <| Rc 3 [⟨.d (Inst.d z_2), []⟩, ⟨.ref [14] v_14 0 (List.map Inst.d b_14).length 10, []⟩, vi i11] ?_
  obtain ⟨z_3, hz_3, h⟩ := bind_s h
  refine Rt (some 72) (.iaddrS 10) [] none [.ref [14] v_14 0 (List.map Inst.d b_14).length 10, .i i11] (.eref [14] v_14 (0 + (i11).toNat) 0) [] (cut_atR (e := Inst.d) (l := b_14) hz_3 rfl) <| Rt (some 73) (.load (some 10)) [] none [.eref [14] v_14 (0 + (i11).toNat) 0] (.d (Inst.d z_3)) [] (cut_loadR (e := Inst.d) (l := b_14) (fz := false) (y := z_3) (by kernel_rfl) hz_3 (by kernel_rfl) (by kernel_rfl)) <| Rc 1 [vb (!(z_2.Lock == z_3.Lock && (z_2.Rep == z_3.Rep && (z_2.Seg == z_3.Seg && (z_2.Op == z_3.Op && (z_2.Mod == z_3.Mod && (z_2.Reg == z_3.Reg && (z_2.RM == z_3.RM && (z_2.Disp == z_3.Disp && (z_2.Imm == z_3.Imm && (z_2.Sel == z_3.Sel && true)))))))))))] <| Rk ?_
  cases hb_4 : ((!(z_2.Lock == z_3.Lock && (z_2.Rep == z_3.Rep && (z_2.Seg == z_3.Seg && (z_2.Op == z_3.Op && (z_2.Mod == z_3.Mod && (z_2.Reg == z_3.Reg && (z_2.RM == z_3.RM && (z_2.Disp == z_3.Disp && (z_2.Imm == z_3.Imm && (z_2.Sel == z_3.Sel && true))))))))))) : Bool) with
  | true =>
   replace h := ite_t hb_4 h
   refine Ct <| Sq <| Ro <| Rc 1 [vb false] <| Rk <| Runs.ret <| kB_ret <| kS_ret ?_
   obtain rfl := sj h
   exact ⟨nofun, rfl, (by kernel_rfl)⟩
  | false =>
   replace h := ite_f hb_4 h
   refine Cf <| Runs.skip <| kB_nrm <| kS_nrm <| Ro <| Rc 3 [vi i11, vi (IntKind.wrap .i64 (i11 + 1)), vi (IntKind.wrap .i64 (i11 + 1))] <| Rd ?_
   obtain rfl := sj h
   exact ⟨rfl, v_14, Cz⟩
 | false =>
  replace h := ite_f hb_3 h
  refine Cf <| Runs.exit <| kS_exit ?_
  obtain rfl := sj h
  exact ⟨nofun, rfl, v_14, Cz⟩
theorem hansomlaw07_ScanAll_ok (l_ : (List Inst)) (cut_ : Int) (r : Bool) (h : hansomlaw07_ScanAll l_ cut_ = some r) : Runs L F10.body ⟨tmOf [.d (.sl (List.map Inst.d l_)), .i cut_] 0, updW (fun _ => none) []⟩ (hansomlaw07_ScanAll_Q l_ cut_ r) := by
 unfold hansomlaw07_ScanAll at h
 refine Sq <| Ro <| Rc 1 [vb false] <| Rk <| Sq <| Ro <| Rc 4 [⟨.ref [14] 0 0 (List.map Inst.d ([] : List Inst)).length 10, [([14], some (.arr (List.map Inst.d ([] : List Inst)) 0 false))]⟩, ⟨.ref [15] 0 0 (mY ([] : List Int)).length 1, [([15], some (.arr (mY ([] : List Int)) 0 false))]⟩, ⟨.ref [14] 0 0 (List.map Inst.d ([] : List Inst)).length 10, []⟩, ⟨.ref [15] 0 0 (mY ([] : List Int)).length 1, []⟩] <| Rk <| Sq <| Sq <| Ro <| Rc 1 [vi 0] <| Rk <| Runs.block ?_
 obtain ⟨e_1, he_1, h⟩ := bind_s h
 refine Runs.loop (fun x : ((List Inst) × (List Int) × Int) => hansomlaw07_ScanAll_l8 x.1 x.2.1 l_ cut_ x.2.2) (fun (x : ((List Inst) × (List Int) × Int)) (g : (Nat × Nat)) => hansomlaw07_ScanAll_h8 x.1 x.2.1 l_ cut_ x.2.2 g.1 g.2) (hansomlaw07_ScanAll_P8 l_ cut_ l_ cut_) (fun x g r hr => hansomlaw07_ScanAll_l8_ok l_ cut_ x.1 x.2.1 l_ cut_ x.2.2 g.1 g.2 r hr) (0, 0) he_1 Cz ?_
 rintro ⟨o, s⟩ hp
 obtain ⟨ho, g_1, hk_1⟩ := hp
 have ho' : o = .exit 0 := ho
 subst ho'
 refine kB_hit <| kS_nrm <| Runs.canon _ hk_1 <| Sq <| Ro <| Rc 1 [⟨.ref [15] g_1.2 0 (mY e_1.2).length 1, []⟩] <| Rt (some 42) .lenL [] none [.ref [15] g_1.2 0 (mY e_1.2).length 1] (.i (e_1.2.length : Int)) [] (cut_lenR (e := (D.int .u8)) e_1.2 rfl) <| Rc 1 [vi (e_1.2.length : Int)] <| Rk <| Sq <| Sq <| Ro <| Rc 1 [⟨.ref [15] g_1.2 0 (mY e_1.2).length 1, []⟩] <| Rk <| Sq <| Runs.gcons (frz_ref (e := (D.int .u8)) (l := e_1.2) (id := [15]) (v := g_1.2) (n := 1) (fz := false) (by kernel_rfl) (by kernel_rfl) rfl) <| Runs.gnil <| kS_nrm <| Ro <| Rc 1 [⟨.ref [45] 0 0 (mY ([15, 144] : List Int)).length 1, [([45], some (.arr (mY ([15, 144] : List Int)) 0 false))]⟩] ?_
 obtain ⟨z_1, hz_1, h⟩ := bind_s h
 refine Rt (some 46) (.append 1 1 false) [] none [.ref [15] g_1.2 0 (mY e_1.2).length 1, .ref [45] 0 0 (mY ([15, 144] : List Int)).length 1] (.ref [15] (g_1.2 + 1) 0 (mY z_1).length 1) [([15], some (.arr (mY z_1) (g_1.2 + 1) true))] (cut_appR (e := (D.int .u8)) (l := e_1.2) (fz := true) (ws := []) (ap_ref (e := (D.int .u8)) (l := ([15, 144] : List Int)) (fz := false) (by kernel_rfl) (by kernel_rfl) rfl) (fun _ => rfl) hz_1 (by kernel_rfl) (by kernel_rfl) rfl) ?_
 obtain ⟨r_1, hr_1, h⟩ := bind_s h
 have hc_1 := scan_All_L z_1 r_1 hr_1
 refine Rt (some 47) (.callf 36) [] none [.ref [15] (g_1.2 + 1) 0 (mY z_1).length 1] (.tup [.d (.sl (List.map Inst.d r_1.1)), .i r_1.2]) [([15], some (.arr (mY z_1) (g_1.2 + 1) true))] (cut_call (call_of (ws := [([15], some (.arr (mY z_1) (g_1.2 + 1) true))]) (us := [([15], some (.arr (mY z_1) (g_1.2 + 1) true))]) (by kernel_rfl) (gives_cons (ws := [([15], some (.arr (mY z_1) (g_1.2 + 1) true))]) (give_ref (e := (D.int .u8)) (l := z_1) (fz := true) (by kernel_rfl) (by kernel_rfl) rfl) gives_nil) hc_1 (by kernel_rfl) (by kernel_rfl))) <| Rc 5 [⟨.tup [.d (.sl (List.map Inst.d r_1.1)), .i r_1.2], []⟩, ⟨.d (.sl (List.map Inst.d r_1.1)), []⟩, vi r_1.2, ⟨.d (.sl (List.map Inst.d r_1.1)), []⟩, vi r_1.2] <| Rk <| Sq <| Sq <| Ro <| Rc 4 [vi r_1.2, vi (e_1.2.length : Int), vb (r_1.2 != (e_1.2.length : Int)), vb (r_1.2 != (e_1.2.length : Int))] ?_
 cases hb_1 : ((r_1.2 != (e_1.2.length : Int)) : Bool) with
 | true =>
  replace h := ite_t hb_1 h
  refine Rc 6 [vn, vn, vn, vn, vn, vb true] <| Rk <| Ct <| Sq <| Ro <| Rc 1 [vb false] <| Rk <| Runs.ret <| kS_ret ?_
  cases h
  exact Fq
 | false =>
  replace h := ite_f hb_1 h
  refine Rc 1 [⟨.d (.sl (List.map Inst.d r_1.1)), []⟩] <| Rt (some 55) .lenL [] none [.d (.sl (List.map Inst.d r_1.1))] (.i (r_1.1.length : Int)) [] (cut_len _) <| Rc 1 [⟨.ref [14] g_1.1 0 (List.map Inst.d e_1.1).length 10, []⟩] <| Rt (some 57) .lenL [] none [.ref [14] g_1.1 0 (List.map Inst.d e_1.1).length 10] (.i (e_1.1.length : Int)) [] (cut_lenR (e := Inst.d) e_1.1 rfl) <| Rc 2 [vb ((r_1.1.length : Int) != (e_1.1.length : Int)), vb ((r_1.1.length : Int) != (e_1.1.length : Int))] <| Rk ?_
  cases hb_2 : (((r_1.1.length : Int) != (e_1.1.length : Int)) : Bool) with
  | true =>
   replace h := ite_t hb_2 h
   refine Ct <| Sq <| Ro <| Rc 1 [vb false] <| Rk <| Runs.ret <| kS_ret ?_
   cases h
   exact Fq
  | false =>
   replace h := ite_f hb_2 h
   refine Cf <| Runs.skip <| kS_nrm <| Sq <| Sq <| Ro <| Rc 1 [vi 0] <| Rk <| Runs.block ?_
   obtain ⟨e_2, he_2, h⟩ := bind_s h
   refine Runs.loop (fun x : Int => hansomlaw07_ScanAll_l41 e_1.1 cut_ e_1.2 (e_1.2.length : Int) r_1.1 x) (fun (x : Int) (g : Nat) => hansomlaw07_ScanAll_h41 e_1.1 cut_ e_1.2 (e_1.2.length : Int) r_1.1 x g) (hansomlaw07_ScanAll_P41 l_ cut_ e_1.1 cut_ e_1.2 (e_1.2.length : Int) r_1.1) (fun x g r hr => hansomlaw07_ScanAll_l41_ok l_ cut_ e_1.1 cut_ e_1.2 (e_1.2.length : Int) r_1.1 x g r hr) g_1.1 he_2 Cz ?_
   rintro ⟨o, s⟩ hp
   cases e_2 with
   | inl e_3 =>
    obtain ⟨ho, hf⟩ := hp
    have ho' : o = .ret := ho
    subst ho'
    refine kB_ret <| kS_ret ?_
    obtain rfl := sj h
    exact ⟨Out.ret_ne, hf⟩
   | inr e_4 =>
    obtain ⟨ho, g_2, hk_2⟩ := hp
    have ho' : o = .exit 2 := ho
    subst ho'
    refine kB_hit <| kS_nrm <| Runs.canon _ hk_2 <| Sq <| Ro <| Rc 5 [⟨.d (.sl (mY e_1.2)), []⟩, vi cut_, vi (bitsOp .and .i64 cut_ 65535), vi (e_1.2.length : Int), vi (IntKind.wrap .i64 ((e_1.2.length : Int) + 1))] ?_
    obtain ⟨z_2, hz_2, h⟩ := bind_s h
    refine Rt (some 81) (.bin .rem) [] none [.i (bitsOp .and .i64 cut_ 65535), .i (IntKind.wrap .i64 ((e_1.2.length : Int) + 1))] (.i z_2) [] (cut_rem hz_2) ?_
    obtain ⟨z_3, hz_3, h⟩ := bind_s h
    refine Rt (some 82) (.subsl 1 false true false) [] none [.d (.sl (mY e_1.2)), .i z_2] (.d (.sl (mY z_3))) [] (cut_slFT hz_3 (fun _ => rfl)) ?_
    obtain ⟨r_2, hr_2, h⟩ := bind_s h
    have hc_2 := scan_All_L z_3 r_2 hr_2
    refine Rt (some 83) (.callf 36) [] none [.d (.sl (mY z_3))] (.tup [.d (.sl (List.map Inst.d r_2.1)), .i r_2.2]) [] (cc hc_2) <| Rc 5 [⟨.tup [.d (.sl (List.map Inst.d r_2.1)), .i r_2.2], []⟩, ⟨.d (.sl (List.map Inst.d r_2.1)), []⟩, vi r_2.2, ⟨.d (.sl (List.map Inst.d r_2.1)), []⟩, vi r_2.2] <| Rk <| Sq <| Ro ?_
    obtain ⟨r_3, hr_3, h⟩ := bind_s h
    have hc_3 := hansomlaw07_awake_L r_3 hr_3
    refine Rt (some 86) (.callf 35) [] none [] (.b r_3) [] (cc hc_3) <| Rc 1 [vb r_3] ?_
    cases hb_3 : (r_3 : Bool) with
    | true =>
     replace h := ite_t hb_3 h
     refine Rc 1 [⟨.d (.sl (List.map Inst.d r_2.1)), []⟩] <| Rt (some 89) .lenL [] none [.d (.sl (List.map Inst.d r_2.1))] (.i (r_2.1.length : Int)) [] (cut_len _) <| Rc 1 [⟨.ref [14] g_2 0 (List.map Inst.d e_1.1).length 10, []⟩] <| Rt (some 91) .lenL [] none [.ref [14] g_2 0 (List.map Inst.d e_1.1).length 10] (.i (e_1.1.length : Int)) [] (cut_lenR (e := Inst.d) e_1.1 rfl) <| Rc 3 [vb (decide ((r_2.1.length : Int) ≤ (e_1.1.length : Int))), vb (decide ((r_2.1.length : Int) ≤ (e_1.1.length : Int))), vb (decide ((r_2.1.length : Int) ≤ (e_1.1.length : Int)))] ?_
     cases hb_4 : ((decide ((r_2.1.length : Int) ≤ (e_1.1.length : Int))) : Bool) with
     | true =>
      replace h := ite_t hb_4 h
      refine Rc 5 [vi r_2.2, vi (e_1.2.length : Int), vb (decide (r_2.2 ≤ (e_1.2.length : Int))), vb (decide (r_2.2 ≤ (e_1.2.length : Int))), vb (decide (r_2.2 ≤ (e_1.2.length : Int)))] <| Rk <| Runs.ret ?_
      cases h
      exact Fq
     | false =>
      replace h := ite_f hb_4 h
      refine Rc 5 [vn, vn, vn, vb false, vb false] <| Rk <| Runs.ret ?_
      cases h
      exact Fq
    | false =>
     replace h := ite_f hb_3 h
     refine Rc 12 [vn, vn, vn, vn, vn, vb false, vb false, vn, vn, vn, vb false, vb false] <| Rk <| Runs.ret ?_
     cases h
     exact Fq
theorem hansomlaw07_ScanAll_L (l_ : (List Inst)) (cut_ : Int) (r : Bool) (h : hansomlaw07_ScanAll l_ cut_ = some r) : L 10 [.d (.sl (List.map Inst.d l_)), .i cut_] = some (.b r, [.d (.sl (List.map Inst.d l_)), .i cut_]) := by
 obtain ⟨p, ⟨hne, hf⟩, hr⟩ := hansomlaw07_ScanAll_ok l_ cut_ r h
 obtain ⟨k, hk⟩ := run_of (F := F10) (args := [.d (.sl (List.map Inst.d l_)), .i cut_]) (ap := [.d (.sl (List.map Inst.d l_)), .i cut_]) (bx0 := updW (fun _ => none) []) rfl rfl (by kernel_rfl) ⟨p, ⟨hne, hf⟩, hr⟩
 exact lim_run (k := k) rfl hk
end Go.Es.Sca
