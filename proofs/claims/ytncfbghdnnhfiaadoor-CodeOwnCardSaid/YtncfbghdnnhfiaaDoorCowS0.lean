/- The interpreter answers as plain Lean does: part 1. No condition. -/
import Derived.Test.YtncfbghdnnhfiaaDoorCowF
import Derived.Test.YtncfbghdnnhfiaaDoorCowP
import Derived.KernelRfl
set_option linter.unusedVariables false
set_option linter.unusedSimpArgs false
set_option maxRecDepth 100000
set_option maxHeartbeats 4000000
namespace Go.Es.Cow
def hansomref05_prefix_Q (b_ : Int) (r : Bool) (p : Out × St) : Prop := (∀ i, p.1 ≠ .exit i) ∧ finF F30 [.d (.int .u8 b_)] p.2 = some (.d (.bool r), [.d (.int .u8 b_)])
theorem hansomref05_prefix_ok (b_ : Int) (r : Bool) (h : hansomref05_prefix b_ = some r) : Runs L F30.body ⟨tmOf [.d (.int .u8 b_)] 0, updW (fun _ => none) []⟩ (hansomref05_prefix_Q b_ r) := by
 unfold hansomref05_prefix at h
 refine Sq <| Ro <| Rc 1 [⟨.d (.bool false), []⟩] <| Rd <| kS_nrm <| Sq <| Ro <| Rc 3 [⟨.d (.int .u8 b_), []⟩, ⟨.d (.bool (b_ == 38)), []⟩, ⟨.d (.bool (b_ == 38)), []⟩] ?_
 cases hb_1 : ((b_ == 38) : Bool) with
 | true =>
  replace h := ite_t hb_1 h
  refine Rc 24 [⟨.tup [], []⟩, ⟨.tup [], []⟩, ⟨.d (.bool true), []⟩, ⟨.d (.bool true), []⟩, ⟨.tup [], []⟩, ⟨.tup [], []⟩, ⟨.d (.bool true), []⟩, ⟨.d (.bool true), []⟩, ⟨.tup [], []⟩, ⟨.tup [], []⟩, ⟨.d (.bool true), []⟩, ⟨.d (.bool true), []⟩, ⟨.tup [], []⟩, ⟨.tup [], []⟩, ⟨.d (.bool true), []⟩, ⟨.d (.bool true), []⟩, ⟨.tup [], []⟩, ⟨.tup [], []⟩, ⟨.d (.bool true), []⟩, ⟨.d (.bool true), []⟩, ⟨.tup [], []⟩, ⟨.tup [], []⟩, ⟨.d (.bool true), []⟩, ⟨.d (.bool true), []⟩] <| Rd <| kS_nrm <| Runs.ret ?_
  obtain rfl := Option.some.inj h
  exact ⟨Out.ret_ne, (by kernel_rfl)⟩
 | false =>
  replace h := ite_f hb_1 h
  refine Rc 4 [⟨.d (.int .u8 b_), []⟩, ⟨.d (.bool (b_ == 46)), []⟩, ⟨.d (.bool (b_ == 46)), []⟩, ⟨.d (.bool (b_ == 46)), []⟩] ?_
  cases hb_2 : ((b_ == 46) : Bool) with
  | true =>
   replace h := ite_t hb_2 h
   refine Rc 20 [⟨.tup [], []⟩, ⟨.tup [], []⟩, ⟨.d (.bool true), []⟩, ⟨.d (.bool true), []⟩, ⟨.tup [], []⟩, ⟨.tup [], []⟩, ⟨.d (.bool true), []⟩, ⟨.d (.bool true), []⟩, ⟨.tup [], []⟩, ⟨.tup [], []⟩, ⟨.d (.bool true), []⟩, ⟨.d (.bool true), []⟩, ⟨.tup [], []⟩, ⟨.tup [], []⟩, ⟨.d (.bool true), []⟩, ⟨.d (.bool true), []⟩, ⟨.tup [], []⟩, ⟨.tup [], []⟩, ⟨.d (.bool true), []⟩, ⟨.d (.bool true), []⟩] <| Rd <| kS_nrm <| Runs.ret ?_
   obtain rfl := Option.some.inj h
   exact ⟨Out.ret_ne, (by kernel_rfl)⟩
  | false =>
   replace h := ite_f hb_2 h
   refine Rc 4 [⟨.d (.int .u8 b_), []⟩, ⟨.d (.bool (b_ == 54)), []⟩, ⟨.d (.bool (b_ == 54)), []⟩, ⟨.d (.bool (b_ == 54)), []⟩] ?_
   cases hb_3 : ((b_ == 54) : Bool) with
   | true =>
    replace h := ite_t hb_3 h
    refine Rc 16 [⟨.tup [], []⟩, ⟨.tup [], []⟩, ⟨.d (.bool true), []⟩, ⟨.d (.bool true), []⟩, ⟨.tup [], []⟩, ⟨.tup [], []⟩, ⟨.d (.bool true), []⟩, ⟨.d (.bool true), []⟩, ⟨.tup [], []⟩, ⟨.tup [], []⟩, ⟨.d (.bool true), []⟩, ⟨.d (.bool true), []⟩, ⟨.tup [], []⟩, ⟨.tup [], []⟩, ⟨.d (.bool true), []⟩, ⟨.d (.bool true), []⟩] <| Rd <| kS_nrm <| Runs.ret ?_
    obtain rfl := Option.some.inj h
    exact ⟨Out.ret_ne, (by kernel_rfl)⟩
   | false =>
    replace h := ite_f hb_3 h
    refine Rc 4 [⟨.d (.int .u8 b_), []⟩, ⟨.d (.bool (b_ == 62)), []⟩, ⟨.d (.bool (b_ == 62)), []⟩, ⟨.d (.bool (b_ == 62)), []⟩] ?_
    cases hb_4 : ((b_ == 62) : Bool) with
    | true =>
     replace h := ite_t hb_4 h
     refine Rc 12 [⟨.tup [], []⟩, ⟨.tup [], []⟩, ⟨.d (.bool true), []⟩, ⟨.d (.bool true), []⟩, ⟨.tup [], []⟩, ⟨.tup [], []⟩, ⟨.d (.bool true), []⟩, ⟨.d (.bool true), []⟩, ⟨.tup [], []⟩, ⟨.tup [], []⟩, ⟨.d (.bool true), []⟩, ⟨.d (.bool true), []⟩] <| Rd <| kS_nrm <| Runs.ret ?_
     obtain rfl := Option.some.inj h
     exact ⟨Out.ret_ne, (by kernel_rfl)⟩
    | false =>
     replace h := ite_f hb_4 h
     refine Rc 4 [⟨.d (.int .u8 b_), []⟩, ⟨.d (.bool (b_ == 240)), []⟩, ⟨.d (.bool (b_ == 240)), []⟩, ⟨.d (.bool (b_ == 240)), []⟩] ?_
     cases hb_5 : ((b_ == 240) : Bool) with
     | true =>
      replace h := ite_t hb_5 h
      refine Rc 8 [⟨.tup [], []⟩, ⟨.tup [], []⟩, ⟨.d (.bool true), []⟩, ⟨.d (.bool true), []⟩, ⟨.tup [], []⟩, ⟨.tup [], []⟩, ⟨.d (.bool true), []⟩, ⟨.d (.bool true), []⟩] <| Rd <| kS_nrm <| Runs.ret ?_
      obtain rfl := Option.some.inj h
      exact ⟨Out.ret_ne, (by kernel_rfl)⟩
     | false =>
      replace h := ite_f hb_5 h
      refine Rc 4 [⟨.d (.int .u8 b_), []⟩, ⟨.d (.bool (b_ == 242)), []⟩, ⟨.d (.bool (b_ == 242)), []⟩, ⟨.d (.bool (b_ == 242)), []⟩] ?_
      cases hb_6 : ((b_ == 242) : Bool) with
      | true =>
       replace h := ite_t hb_6 h
       refine Rc 4 [⟨.tup [], []⟩, ⟨.tup [], []⟩, ⟨.d (.bool true), []⟩, ⟨.d (.bool true), []⟩] <| Rd <| kS_nrm <| Runs.ret ?_
       obtain rfl := Option.some.inj h
       exact ⟨Out.ret_ne, (by kernel_rfl)⟩
      | false =>
       replace h := ite_f hb_6 h
       refine Rc 4 [⟨.d (.int .u8 b_), []⟩, ⟨.d (.bool (b_ == 243)), []⟩, ⟨.d (.bool (b_ == 243)), []⟩, ⟨.d (.bool (b_ == 243)), []⟩] <| Rd <| kS_nrm <| Runs.ret ?_
       obtain rfl := Option.some.inj h
       exact ⟨Out.ret_ne, (by kernel_rfl)⟩
theorem hansomref05_prefix_L (b_ : Int) (r : Bool) (h : hansomref05_prefix b_ = some r) : L 30 [.d (.int .u8 b_)] = some (.d (.bool r), [.d (.int .u8 b_)]) := by
 obtain ⟨p, ⟨hne, hf⟩, hr⟩ := hansomref05_prefix_ok b_ r h
 obtain ⟨k, hk⟩ := run_of (F := F30) (args := [.d (.int .u8 b_)]) (ap := [.d (.int .u8 b_)]) (bx0 := updW (fun _ => none) []) rfl rfl (by kernel_rfl) ⟨p, ⟨hne, hf⟩, hr⟩
 exact lim_run (k := k) rfl hk
def hansomref04_word_h8 (s0 : (List UInt8)) (n1 : Int) (at5 : Int) (k6 : Int) : St := ⟨tab [(0, .d (.str s0)), (1, .d (.int .i64 n1)), (5, .d (.int .i64 at5)), (6, .d (.int .i64 k6))], tabB []⟩
def hansomref04_word_h19 (s0 : (List UInt8)) (n1 : Int) (at5 : Int) (k6 : Int) : St := ⟨tab [(0, .d (.str s0)), (1, .d (.int .i64 n1)), (5, .d (.int .i64 at5)), (6, .d (.int .i64 k6))], tabB []⟩
def hansomref04_word_h28 (s0 : (List UInt8)) (n1 : Int) (at5 : Int) (k6 : Int) : St := ⟨tab [(0, .d (.str s0)), (1, .d (.int .i64 n1)), (5, .d (.int .i64 at5)), (6, .d (.int .i64 k6))], tabB []⟩
def hansomref04_word_h30 (s0 : (List UInt8)) (at5 : Int) : St := ⟨tab [(0, .d (.str s0)), (5, .d (.int .i64 at5))], tabB []⟩
def hansomref04_word_h34 (s0 : (List UInt8)) (at5 : Int) (end7 : Int) : St := ⟨tab [(0, .d (.str s0)), (5, .d (.int .i64 at5)), (7, .d (.int .i64 end7))], tabB []⟩
def hansomref04_word_h43 (s0 : (List UInt8)) (at5 : Int) (end7 : Int) : St := ⟨tab [(0, .d (.str s0)), (5, .d (.int .i64 at5)), (7, .d (.int .i64 end7))], tabB []⟩
def hansomref04_word_Q (s_ : (List UInt8)) (n_ : Int) (r : (List UInt8)) (p : Out × St) : Prop := (∀ i, p.1 ≠ .exit i) ∧ finF F51 [.d (.str s_), .d (.int .i64 n_)] p.2 = some (.d (.str r), [.d (.str s_), .d (.int .i64 n_)])
def hansomref04_word_P19 (s_ : (List UInt8)) (n_ : Int) (s0 : (List UInt8)) (n1 : Int) (k6 : Int) (e : Int) (p : Out × St) : Prop := p.1 = .exit 2 ∧ ∃ g : Unit, Canon [] [0, 1, 5, 6] [] p.2 (hansomref04_word_h28 s0 n1 e k6)
def hansomref04_word_P8 (s_ : (List UInt8)) (n_ : Int) (s0 : (List UInt8)) (n1 : Int) (e : Int) (p : Out × St) : Prop := p.1 = .exit 0 ∧ ∃ g : Unit, Canon [] [0, 5] [] p.2 (hansomref04_word_h30 s0 e)
def hansomref04_word_P34 (s_ : (List UInt8)) (n_ : Int) (s0 : (List UInt8)) (at5 : Int) (e : Int) (p : Out × St) : Prop := p.1 = .exit 4 ∧ ∃ g : Unit, Canon [] [0, 5, 7] [] p.2 (hansomref04_word_h43 s0 at5 e)
theorem hansomref04_word_l19_ok (s_ : (List UInt8)) (n_ : Int) (s0 : (List UInt8)) (n1 : Int) (at5 : Int) (k6 : Int) (r : (Lp Int Int)) (h : hansomref04_word_l19 s0 n1 at5 k6 = some r) : Runs L F51l19 (hansomref04_word_h19 s0 n1 at5 k6) (LQ [] [0, 1, 5, 6] [] (fun (x : Int) (g : Unit) => hansomref04_word_h19 s0 n1 x k6) (hansomref04_word_P19 s_ n_ s0 n1 k6) r) := by
 unfold hansomref04_word_l19 at h
 refine Sq <| Sq <| Ro <| Rc 2 [⟨.d (.int .i64 at5), []⟩, ⟨.d (.str s0), []⟩] <| Rt (some 21) .lenS [] none [.d (.str s0)] (.d (.int .i64 (s0.length : Int))) [] (cut_lenS _) <| Rc 2 [⟨.d (.bool (decide (at5 < (s0.length : Int)))), []⟩, ⟨.d (.bool (decide (at5 < (s0.length : Int)))), []⟩] ?_
 cases hb_3 : ((decide (at5 < (s0.length : Int))) : Bool) with
 | true =>
  replace h := ite_t hb_3 h
  refine Rc 2 [⟨.d (.str s0), []⟩, ⟨.d (.int .i64 at5), []⟩] ?_
  obtain ⟨z_1, hz_1, h⟩ := bind_s h
  refine Rt (some 26) .indexS [] none [.d (.str s0), .d (.int .i64 at5)] (.d (.int .u8 (z_1.toNat : Int))) [] (cut_ixS hz_1) <| Rc 2 [⟨.d (.bool ((z_1.toNat : Int) != 32)), []⟩, ⟨.d (.bool ((z_1.toNat : Int) != 32)), []⟩] <| Rd <| kS_nrm ?_
  cases hb_4 : (((z_1.toNat : Int) != 32) : Bool) with
  | true =>
   replace h := ite_t hb_4 h
   refine Ct <| Runs.skip <| kS_nrm <| Runs.block <| Ro <| Rc 3 [⟨.d (.int .i64 at5), []⟩, ⟨.d (.int .i64 (IntKind.wrap .i64 (at5 + 1))), []⟩, ⟨.d (.int .i64 (IntKind.wrap .i64 (at5 + 1))), []⟩] <| Rd <| kB_nrm ?_
   obtain rfl := Option.some.inj h
   exact ⟨rfl, (), (Canon.nil (by kernel_rfl))⟩
  | false =>
   replace h := ite_f hb_4 h
   refine Cf <| Runs.exit <| kS_exit ?_
   obtain rfl := Option.some.inj h
   exact ⟨nofun, rfl, (), (Canon.nil (by kernel_rfl))⟩
 | false =>
  replace h := ite_f hb_3 h
  refine Rc 5 [⟨.tup [], []⟩, ⟨.tup [], []⟩, ⟨.tup [], []⟩, ⟨.tup [], []⟩, ⟨.d (.bool false), []⟩] <| Rd <| kS_nrm <| Cf <| Runs.exit <| kS_exit ?_
  obtain rfl := Option.some.inj h
  exact ⟨nofun, rfl, (), (Canon.nil (by kernel_rfl))⟩
theorem hansomref04_word_l8_ok (s_ : (List UInt8)) (n_ : Int) (s0 : (List UInt8)) (n1 : Int) (at5 : Int) (k6 : Int) (r : (Lp (Int × Int) Int)) (h : hansomref04_word_l8 s0 n1 at5 k6 = some r) : Runs L F51l8 (hansomref04_word_h8 s0 n1 at5 k6) (LQ [] [0, 1, 5, 6] [] (fun (x : (Int × Int)) (g : Unit) => hansomref04_word_h8 s0 n1 x.1 x.2) (hansomref04_word_P8 s_ n_ s0 n1) r) := by
 unfold hansomref04_word_l8 at h
 refine Sq <| Sq <| Ro <| Rc 4 [⟨.d (.int .i64 k6), []⟩, ⟨.d (.int .i64 n1), []⟩, ⟨.d (.bool (decide (k6 < n1))), []⟩, ⟨.d (.bool (decide (k6 < n1))), []⟩] ?_
 cases hb_1 : ((decide (k6 < n1)) : Bool) with
 | true =>
  replace h := ite_t hb_1 h
  refine Rc 2 [⟨.d (.int .i64 at5), []⟩, ⟨.d (.str s0), []⟩] <| Rt (some 14) .lenS [] none [.d (.str s0)] (.d (.int .i64 (s0.length : Int))) [] (cut_lenS _) <| Rc 2 [⟨.d (.bool (decide (at5 < (s0.length : Int)))), []⟩, ⟨.d (.bool (decide (at5 < (s0.length : Int)))), []⟩] <| Rd <| kS_nrm ?_
  cases hb_2 : ((decide (at5 < (s0.length : Int))) : Bool) with
  | true =>
   replace h := ite_t hb_2 h
   refine Ct <| Runs.skip <| kS_nrm <| Sq <| Runs.block <| Sq <| Runs.block ?_
   obtain ⟨e_1, he_1, h⟩ := bind_s h
   refine Runs.loop (fun x : Int => hansomref04_word_l19 s0 n1 x k6) (fun (x : Int) (g : Unit) => hansomref04_word_h19 s0 n1 x k6) (hansomref04_word_P19 s_ n_ s0 n1 k6) (fun x g r hr => hansomref04_word_l19_ok s_ n_ s0 n1 x k6  r hr) () he_1 (Canon.nil (by kernel_rfl)) ?_
   rintro ⟨o, s⟩ hp
   obtain ⟨ho, g_1, hk_1⟩ := hp
   have ho' : o = .exit 2 := ho
   subst ho'
   refine kB_hit <| kS_nrm <| Runs.canon _ hk_1 <| Ro <| Rc 3 [⟨.d (.int .i64 e_1), []⟩, ⟨.d (.int .i64 (IntKind.wrap .i64 (e_1 + 1))), []⟩, ⟨.d (.int .i64 (IntKind.wrap .i64 (e_1 + 1))), []⟩] <| Rd <| kB_nrm <| kS_nrm <| Ro <| Rc 3 [⟨.d (.int .i64 k6), []⟩, ⟨.d (.int .i64 (IntKind.wrap .i64 (k6 + 1))), []⟩, ⟨.d (.int .i64 (IntKind.wrap .i64 (k6 + 1))), []⟩] <| Rd ?_
   obtain rfl := Option.some.inj h
   exact ⟨rfl, (), (Canon.nil (by kernel_rfl))⟩
  | false =>
   replace h := ite_f hb_2 h
   refine Cf <| Runs.exit <| kS_exit ?_
   obtain rfl := Option.some.inj h
   exact ⟨nofun, rfl, (), (Canon.nil (by kernel_rfl))⟩
 | false =>
  replace h := ite_f hb_1 h
  refine Rc 5 [⟨.tup [], []⟩, ⟨.tup [], []⟩, ⟨.tup [], []⟩, ⟨.tup [], []⟩, ⟨.d (.bool false), []⟩] <| Rd <| kS_nrm <| Cf <| Runs.exit <| kS_exit ?_
  obtain rfl := Option.some.inj h
  exact ⟨nofun, rfl, (), (Canon.nil (by kernel_rfl))⟩
theorem hansomref04_word_l34_ok (s_ : (List UInt8)) (n_ : Int) (s0 : (List UInt8)) (at5 : Int) (end7 : Int) (r : (Lp Int Int)) (h : hansomref04_word_l34 s0 at5 end7 = some r) : Runs L F51l34 (hansomref04_word_h34 s0 at5 end7) (LQ [] [0, 5, 7] [] (fun (x : Int) (g : Unit) => hansomref04_word_h34 s0 at5 x) (hansomref04_word_P34 s_ n_ s0 at5) r) := by
 unfold hansomref04_word_l34 at h
 refine Sq <| Sq <| Ro <| Rc 2 [⟨.d (.int .i64 end7), []⟩, ⟨.d (.str s0), []⟩] <| Rt (some 36) .lenS [] none [.d (.str s0)] (.d (.int .i64 (s0.length : Int))) [] (cut_lenS _) <| Rc 2 [⟨.d (.bool (decide (end7 < (s0.length : Int)))), []⟩, ⟨.d (.bool (decide (end7 < (s0.length : Int)))), []⟩] ?_
 cases hb_1 : ((decide (end7 < (s0.length : Int))) : Bool) with
 | true =>
  replace h := ite_t hb_1 h
  refine Rc 2 [⟨.d (.str s0), []⟩, ⟨.d (.int .i64 end7), []⟩] ?_
  obtain ⟨z_1, hz_1, h⟩ := bind_s h
  refine Rt (some 41) .indexS [] none [.d (.str s0), .d (.int .i64 end7)] (.d (.int .u8 (z_1.toNat : Int))) [] (cut_ixS hz_1) <| Rc 2 [⟨.d (.bool ((z_1.toNat : Int) != 32)), []⟩, ⟨.d (.bool ((z_1.toNat : Int) != 32)), []⟩] <| Rd <| kS_nrm ?_
  cases hb_2 : (((z_1.toNat : Int) != 32) : Bool) with
  | true =>
   replace h := ite_t hb_2 h
   refine Ct <| Runs.skip <| kS_nrm <| Runs.block <| Ro <| Rc 3 [⟨.d (.int .i64 end7), []⟩, ⟨.d (.int .i64 (IntKind.wrap .i64 (end7 + 1))), []⟩, ⟨.d (.int .i64 (IntKind.wrap .i64 (end7 + 1))), []⟩] <| Rd <| kB_nrm ?_
   obtain rfl := Option.some.inj h
   exact ⟨rfl, (), (Canon.nil (by kernel_rfl))⟩
  | false =>
   replace h := ite_f hb_2 h
   refine Cf <| Runs.exit <| kS_exit ?_
   obtain rfl := Option.some.inj h
   exact ⟨nofun, rfl, (), (Canon.nil (by kernel_rfl))⟩
 | false =>
  replace h := ite_f hb_1 h
  refine Rc 5 [⟨.tup [], []⟩, ⟨.tup [], []⟩, ⟨.tup [], []⟩, ⟨.tup [], []⟩, ⟨.d (.bool false), []⟩] <| Rd <| kS_nrm <| Cf <| Runs.exit <| kS_exit ?_
  obtain rfl := Option.some.inj h
  exact ⟨nofun, rfl, (), (Canon.nil (by kernel_rfl))⟩
theorem hansomref04_word_ok (s_ : (List UInt8)) (n_ : Int) (r : (List UInt8)) (h : hansomref04_word s_ n_ = some r) : Runs L F51.body ⟨tmOf [.d (.str s_), .d (.int .i64 n_)] 0, updW (fun _ => none) []⟩ (hansomref04_word_Q s_ n_ r) := by
 unfold hansomref04_word at h
 refine Sq <| Ro <| Rc 1 [⟨.d (.str ([] : List UInt8)), []⟩] <| Rd <| kS_nrm <| Sq <| Ro <| Rc 1 [⟨.d (.int .i64 0), []⟩] <| Rd <| kS_nrm <| Sq <| Sq <| Ro <| Rc 1 [⟨.d (.int .i64 0), []⟩] <| Rd <| kS_nrm <| Runs.block ?_
 obtain ⟨e_1, he_1, h⟩ := bind_s h
 refine Runs.loop (fun x : (Int × Int) => hansomref04_word_l8 s_ n_ x.1 x.2) (fun (x : (Int × Int)) (g : Unit) => hansomref04_word_h8 s_ n_ x.1 x.2) (hansomref04_word_P8 s_ n_ s_ n_) (fun x g r hr => hansomref04_word_l8_ok s_ n_ s_ n_ x.1 x.2  r hr) () he_1 (Canon.nil (by kernel_rfl)) ?_
 rintro ⟨o, s⟩ hp
 obtain ⟨ho, g_1, hk_1⟩ := hp
 have ho' : o = .exit 0 := ho
 subst ho'
 refine kB_hit <| kS_nrm <| Runs.canon _ hk_1 <| Sq <| Ro <| Rc 2 [⟨.d (.int .i64 e_1), []⟩, ⟨.d (.int .i64 e_1), []⟩] <| Rd <| kS_nrm <| Sq <| Runs.block ?_
 obtain ⟨e_2, he_2, h⟩ := bind_s h
 refine Runs.loop (fun x : Int => hansomref04_word_l34 s_ e_1 x) (fun (x : Int) (g : Unit) => hansomref04_word_h34 s_ e_1 x) (hansomref04_word_P34 s_ n_ s_ e_1) (fun x g r hr => hansomref04_word_l34_ok s_ n_ s_ e_1 x  r hr) () he_2 (Canon.nil (by kernel_rfl)) ?_
 rintro ⟨o, s⟩ hp
 obtain ⟨ho, g_2, hk_2⟩ := hp
 have ho' : o = .exit 4 := ho
 subst ho'
 refine kB_hit <| kS_nrm <| Runs.canon _ hk_2 <| Sq <| Sq <| Ro <| Rc 2 [⟨.d (.int .i64 e_1), []⟩, ⟨.d (.str s_), []⟩] <| Rt (some 48) .lenS [] none [.d (.str s_)] (.d (.int .i64 (s_.length : Int))) [] (cut_lenS _) <| Rc 1 [⟨.d (.bool (decide (e_1 ≥ (s_.length : Int)))), []⟩] <| Rd <| kS_nrm ?_
 cases hb_1 : ((decide (e_1 ≥ (s_.length : Int))) : Bool) with
 | true =>
  replace h := ite_t hb_1 h
  refine Ct <| Sq <| Ro <| Rc 1 [⟨.d (.str ([] : List UInt8)), []⟩] <| Rd <| kS_nrm <| Runs.ret <| kS_ret ?_
  obtain rfl := Option.some.inj h
  exact ⟨Out.ret_ne, (by kernel_rfl)⟩
 | false =>
  replace h := ite_f hb_1 h
  refine Cf <| Runs.skip <| kS_nrm <| Sq <| Ro <| Rc 3 [⟨.d (.str s_), []⟩, ⟨.d (.int .i64 e_1), []⟩, ⟨.d (.int .i64 e_2), []⟩] ?_
  obtain ⟨z_1, hz_1, h⟩ := bind_s h
  refine Rt (some 53) (.substr true true) [] none [.d (.str s_), .d (.int .i64 e_1), .d (.int .i64 e_2)] (.d (.str z_1)) [] (cut_strTT hz_1) <| Rc 1 [⟨.d (.str z_1), []⟩] <| Rd <| kS_nrm <| Runs.ret ?_
  obtain rfl := Option.some.inj h
  exact ⟨Out.ret_ne, (by kernel_rfl)⟩
theorem hansomref04_word_L (s_ : (List UInt8)) (n_ : Int) (r : (List UInt8)) (h : hansomref04_word s_ n_ = some r) : L 51 [.d (.str s_), .d (.int .i64 n_)] = some (.d (.str r), [.d (.str s_), .d (.int .i64 n_)]) := by
 obtain ⟨p, ⟨hne, hf⟩, hr⟩ := hansomref04_word_ok s_ n_ r h
 obtain ⟨k, hk⟩ := run_of (F := F51) (args := [.d (.str s_), .d (.int .i64 n_)]) (ap := [.d (.str s_), .d (.int .i64 n_)]) (bx0 := updW (fun _ => none) []) rfl rfl (by kernel_rfl) ⟨p, ⟨hne, hf⟩, hr⟩
 exact lim_run (k := k) rfl hk
def hansomref04_part_h8 (s0 : (List UInt8)) (mark1 : Int) (n2 : Int) (from7 : Int) (i8 : Int) : St := ⟨tab [(0, .d (.str s0)), (1, .d (.int .u8 mark1)), (2, .d (.int .i64 n2)), (7, .d (.int .i64 from7)), (8, .d (.int .i64 i8))], tabB []⟩
def hansomref04_part_h35  : St := ⟨tab [], tabB []⟩
def hansomref04_part_Q (s_ : (List UInt8)) (mark_ : Int) (n_ : Int) (r : (List UInt8)) (p : Out × St) : Prop := (∀ i, p.1 ≠ .exit i) ∧ finF F47 [.d (.str s_), .d (.int .u8 mark_), .d (.int .i64 n_)] p.2 = some (.d (.str r), [.d (.str s_), .d (.int .u8 mark_), .d (.int .i64 n_)])
def hansomref04_part_P8 (s_ : (List UInt8)) (mark_ : Int) (n_ : Int) (s0 : (List UInt8)) (mark1 : Int) (e : ((List UInt8) ⊕ Unit)) (p : Out × St) : Prop := match e with
 | .inl x => p.1 = .ret ∧ finF F47 [.d (.str s_), .d (.int .u8 mark_), .d (.int .i64 n_)] p.2 = some (.d (.str x), [.d (.str s_), .d (.int .u8 mark_), .d (.int .i64 n_)])
 | .inr x => p.1 = .exit 0 ∧ ∃ g : Unit, Canon [] [] [] p.2 (hansomref04_part_h35)
theorem hansomref04_part_l8_ok (s_ : (List UInt8)) (mark_ : Int) (n_ : Int) (s0 : (List UInt8)) (mark1 : Int) (n2 : Int) (from7 : Int) (i8 : Int) (r : (Lp (Int × Int × Int) ((List UInt8) ⊕ Unit))) (h : hansomref04_part_l8 s0 mark1 n2 from7 i8 = some r) : Runs L F47l8 (hansomref04_part_h8 s0 mark1 n2 from7 i8) (LQ [] [0, 1, 2, 7, 8] [] (fun (x : (Int × Int × Int)) (g : Unit) => hansomref04_part_h8 s0 mark1 x.1 x.2.1 x.2.2) (hansomref04_part_P8 s_ mark_ n_ s0 mark1) r) := by
 unfold hansomref04_part_l8 at h
 refine Sq <| Sq <| Ro <| Rc 2 [⟨.d (.int .i64 i8), []⟩, ⟨.d (.str s0), []⟩] <| Rt (some 11) .lenS [] none [.d (.str s0)] (.d (.int .i64 (s0.length : Int))) [] (cut_lenS _) <| Rc 1 [⟨.d (.bool (decide (i8 ≤ (s0.length : Int)))), []⟩] <| Rd <| kS_nrm ?_
 cases hb_1 : ((decide (i8 ≤ (s0.length : Int))) : Bool) with
 | true =>
  replace h := ite_t hb_1 h
  refine Ct <| Runs.skip <| kS_nrm <| Sq <| Runs.block <| Sq <| Sq <| Ro <| Rc 2 [⟨.d (.int .i64 i8), []⟩, ⟨.d (.str s0), []⟩] <| Rt (some 17) .lenS [] none [.d (.str s0)] (.d (.int .i64 (s0.length : Int))) [] (cut_lenS _) <| Rc 2 [⟨.d (.bool (decide (i8 < (s0.length : Int)))), []⟩, ⟨.d (.bool (decide (i8 < (s0.length : Int)))), []⟩] ?_
  cases hb_2 : ((decide (i8 < (s0.length : Int))) : Bool) with
  | true =>
   replace h := ite_t hb_2 h
   refine Rc 2 [⟨.d (.str s0), []⟩, ⟨.d (.int .i64 i8), []⟩] ?_
   obtain ⟨z_1, hz_1, h⟩ := bind_s h
   refine Rt (some 22) .indexS [] none [.d (.str s0), .d (.int .i64 i8)] (.d (.int .u8 (z_1.toNat : Int))) [] (cut_ixS hz_1) <| Rc 3 [⟨.d (.int .u8 mark1), []⟩, ⟨.d (.bool ((z_1.toNat : Int) != mark1)), []⟩, ⟨.d (.bool ((z_1.toNat : Int) != mark1)), []⟩] <| Rd <| kS_nrm ?_
   cases hb_3 : (((z_1.toNat : Int) != mark1) : Bool) with
   | true =>
    replace h := ite_t hb_3 h
    refine Ct <| Runs.exit <| kS_exit <| kB_hit <| kS_nrm <| Ro <| Rc 3 [⟨.d (.int .i64 i8), []⟩, ⟨.d (.int .i64 (IntKind.wrap .i64 (i8 + 1))), []⟩, ⟨.d (.int .i64 (IntKind.wrap .i64 (i8 + 1))), []⟩] <| Rd ?_
    obtain rfl := Option.some.inj h
    exact ⟨rfl, (), (Canon.nil (by kernel_rfl))⟩
   | false =>
    replace h := ite_f hb_3 h
    refine Cf <| Runs.skip <| kS_nrm <| Sq <| Sq <| Ro <| Rc 2 [⟨.d (.int .i64 n2), []⟩, ⟨.d (.bool (n2 == 0)), []⟩] <| Rd <| kS_nrm ?_
    cases hb_4 : ((n2 == 0) : Bool) with
    | true =>
     replace h := ite_t hb_4 h
     refine Ct <| Sq <| Ro <| Rc 3 [⟨.d (.str s0), []⟩, ⟨.d (.int .i64 from7), []⟩, ⟨.d (.int .i64 i8), []⟩] ?_
     obtain ⟨z_2, hz_2, h⟩ := bind_s h
     refine Rt (some 31) (.substr true true) [] none [.d (.str s0), .d (.int .i64 from7), .d (.int .i64 i8)] (.d (.str z_2)) [] (cut_strTT hz_2) <| Rc 1 [⟨.d (.str z_2), []⟩] <| Rd <| kS_nrm <| Runs.ret <| kS_ret <| kB_ret <| kS_ret ?_
     obtain rfl := Option.some.inj h
     exact ⟨nofun, rfl, (by kernel_rfl)⟩
    | false =>
     replace h := ite_f hb_4 h
     refine Cf <| Runs.skip <| kS_nrm <| Sq <| Ro <| Rc 3 [⟨.d (.int .i64 n2), []⟩, ⟨.d (.int .i64 (IntKind.wrap .i64 (n2 - 1))), []⟩, ⟨.d (.int .i64 (IntKind.wrap .i64 (n2 - 1))), []⟩] <| Rd <| kS_nrm <| Ro <| Rc 3 [⟨.d (.int .i64 i8), []⟩, ⟨.d (.int .i64 (IntKind.wrap .i64 (i8 + 1))), []⟩, ⟨.d (.int .i64 (IntKind.wrap .i64 (i8 + 1))), []⟩] <| Rd <| kB_nrm <| kS_nrm <| Ro <| Rc 3 [⟨.d (.int .i64 i8), []⟩, ⟨.d (.int .i64 (IntKind.wrap .i64 (i8 + 1))), []⟩, ⟨.d (.int .i64 (IntKind.wrap .i64 (i8 + 1))), []⟩] <| Rd ?_
     obtain rfl := Option.some.inj h
     exact ⟨rfl, (), (Canon.nil (by kernel_rfl))⟩
  | false =>
   replace h := ite_f hb_2 h
   refine Rc 6 [⟨.tup [], []⟩, ⟨.tup [], []⟩, ⟨.tup [], []⟩, ⟨.tup [], []⟩, ⟨.tup [], []⟩, ⟨.d (.bool false), []⟩] <| Rd <| kS_nrm <| Cf <| Runs.skip <| kS_nrm <| Sq <| Sq <| Ro <| Rc 2 [⟨.d (.int .i64 n2), []⟩, ⟨.d (.bool (n2 == 0)), []⟩] <| Rd <| kS_nrm ?_
   cases hb_5 : ((n2 == 0) : Bool) with
   | true =>
    replace h := ite_t hb_5 h
    refine Ct <| Sq <| Ro <| Rc 3 [⟨.d (.str s0), []⟩, ⟨.d (.int .i64 from7), []⟩, ⟨.d (.int .i64 i8), []⟩] ?_
    obtain ⟨z_3, hz_3, h⟩ := bind_s h
    refine Rt (some 31) (.substr true true) [] none [.d (.str s0), .d (.int .i64 from7), .d (.int .i64 i8)] (.d (.str z_3)) [] (cut_strTT hz_3) <| Rc 1 [⟨.d (.str z_3), []⟩] <| Rd <| kS_nrm <| Runs.ret <| kS_ret <| kB_ret <| kS_ret ?_
    obtain rfl := Option.some.inj h
    exact ⟨nofun, rfl, (by kernel_rfl)⟩
   | false =>
    replace h := ite_f hb_5 h
    refine Cf <| Runs.skip <| kS_nrm <| Sq <| Ro <| Rc 3 [⟨.d (.int .i64 n2), []⟩, ⟨.d (.int .i64 (IntKind.wrap .i64 (n2 - 1))), []⟩, ⟨.d (.int .i64 (IntKind.wrap .i64 (n2 - 1))), []⟩] <| Rd <| kS_nrm <| Ro <| Rc 3 [⟨.d (.int .i64 i8), []⟩, ⟨.d (.int .i64 (IntKind.wrap .i64 (i8 + 1))), []⟩, ⟨.d (.int .i64 (IntKind.wrap .i64 (i8 + 1))), []⟩] <| Rd <| kB_nrm <| kS_nrm <| Ro <| Rc 3 [⟨.d (.int .i64 i8), []⟩, ⟨.d (.int .i64 (IntKind.wrap .i64 (i8 + 1))), []⟩, ⟨.d (.int .i64 (IntKind.wrap .i64 (i8 + 1))), []⟩] <| Rd ?_
    obtain rfl := Option.some.inj h
    exact ⟨rfl, (), (Canon.nil (by kernel_rfl))⟩
 | false =>
  replace h := ite_f hb_1 h
  refine Cf <| Runs.exit <| kS_exit ?_
  obtain rfl := Option.some.inj h
  exact ⟨nofun, rfl, (), (Canon.nil (by kernel_rfl))⟩
theorem hansomref04_part_ok (s_ : (List UInt8)) (mark_ : Int) (n_ : Int) (r : (List UInt8)) (h : hansomref04_part s_ mark_ n_ = some r) : Runs L F47.body ⟨tmOf [.d (.str s_), .d (.int .u8 mark_), .d (.int .i64 n_)] 0, updW (fun _ => none) []⟩ (hansomref04_part_Q s_ mark_ n_ r) := by
 unfold hansomref04_part at h
 refine Sq <| Ro <| Rc 1 [⟨.d (.str ([] : List UInt8)), []⟩] <| Rd <| kS_nrm <| Sq <| Ro <| Rc 1 [⟨.d (.int .i64 0), []⟩] <| Rd <| kS_nrm <| Sq <| Sq <| Ro <| Rc 1 [⟨.d (.int .i64 0), []⟩] <| Rd <| kS_nrm <| Runs.block ?_
 obtain ⟨e_1, he_1, h⟩ := bind_s h
 refine Runs.loop (fun x : (Int × Int × Int) => hansomref04_part_l8 s_ mark_ x.1 x.2.1 x.2.2) (fun (x : (Int × Int × Int)) (g : Unit) => hansomref04_part_h8 s_ mark_ x.1 x.2.1 x.2.2) (hansomref04_part_P8 s_ mark_ n_ s_ mark_) (fun x g r hr => hansomref04_part_l8_ok s_ mark_ n_ s_ mark_ x.1 x.2.1 x.2.2  r hr) () he_1 (Canon.nil (by kernel_rfl)) ?_
 rintro ⟨o, s⟩ hp
 cases e_1 with
 | inl e_2 =>
  obtain ⟨ho, hf⟩ := hp
  have ho' : o = .ret := ho
  subst ho'
  refine kB_ret <| kS_ret ?_
  obtain rfl := Option.some.inj h
  exact ⟨Out.ret_ne, hf⟩
 | inr e_3 =>
  obtain ⟨ho, g_1, hk_1⟩ := hp
  have ho' : o = .exit 0 := ho
  subst ho'
  refine kB_hit <| kS_nrm <| Runs.canon _ hk_1 <| Sq <| Ro <| Rc 1 [⟨.d (.str ([] : List UInt8)), []⟩] <| Rd <| kS_nrm <| Runs.ret ?_
  obtain rfl := Option.some.inj h
  exact ⟨Out.ret_ne, (by kernel_rfl)⟩
theorem hansomref04_part_L (s_ : (List UInt8)) (mark_ : Int) (n_ : Int) (r : (List UInt8)) (h : hansomref04_part s_ mark_ n_ = some r) : L 47 [.d (.str s_), .d (.int .u8 mark_), .d (.int .i64 n_)] = some (.d (.str r), [.d (.str s_), .d (.int .u8 mark_), .d (.int .i64 n_)]) := by
 obtain ⟨p, ⟨hne, hf⟩, hr⟩ := hansomref04_part_ok s_ mark_ n_ r h
 obtain ⟨k, hk⟩ := run_of (F := F47) (args := [.d (.str s_), .d (.int .u8 mark_), .d (.int .i64 n_)]) (ap := [.d (.str s_), .d (.int .u8 mark_), .d (.int .i64 n_)]) (bx0 := updW (fun _ => none) []) rfl rfl (by kernel_rfl) ⟨p, ⟨hne, hf⟩, hr⟩
 exact lim_run (k := k) rfl hk
def hansomref04_Entry_Q (op_ : Int) (reg_ : Int) (r : (List UInt8)) (p : Out × St) : Prop := (∀ i, p.1 ≠ .exit i) ∧ finF F45 [.d (.int .u8 op_), .d (.int .i64 reg_)] p.2 = some (.d (.str r), [.d (.int .u8 op_), .d (.int .i64 reg_)])
theorem hansomref04_Entry_ok (op_ : Int) (reg_ : Int) (r : (List UInt8)) (h : hansomref04_Entry op_ reg_ = some r) : Runs L F45.body ⟨tmOf [.d (.int .u8 op_), .d (.int .i64 reg_)] 0, updW (fun _ => none) []⟩ (hansomref04_Entry_Q op_ reg_ r) := by
 unfold hansomref04_Entry at h
 refine Sq <| Ro <| Rc 1 [⟨.d (.str ([] : List UInt8)), []⟩] <| Rd <| kS_nrm <| Sq <| Ro <| Rc 2 [⟨.d (.int .u8 op_), []⟩, ⟨.d (.int .i64 (IntKind.wrap .i64 op_)), []⟩] ?_
 obtain ⟨r_1, hr_1, h⟩ := bind_s h
 have hc_1 := hansomref04_word_L ([65, 68, 68, 58, 69, 98, 58, 71, 98, 32, 65, 68, 68, 58, 69, 118, 58, 71, 118, 32, 65, 68, 68, 58, 71, 98, 58, 69, 98, 32, 65, 68, 68, 58, 71, 118, 58, 69, 118, 32, 65, 68, 68, 58, 65, 76, 58, 73, 98, 32, 65, 68, 68, 58, 65, 88, 58, 73, 118, 32, 80, 85, 83, 72, 58, 90, 115, 32, 80, 79, 80, 58, 90, 115, 32, 79, 82, 58, 69, 98, 58, 71, 98, 32, 79, 82, 58, 69, 118, 58, 71, 118, 32, 79, 82, 58, 71, 98, 58, 69, 98, 32, 79, 82, 58, 71, 118, 58, 69, 118, 32, 79, 82, 58, 65, 76, 58, 73, 98, 32, 79, 82, 58, 65, 88, 58, 73, 118, 32, 80, 85, 83, 72, 58, 90, 115, 32, 45, 32, 65, 68, 67, 58, 69, 98, 58, 71, 98, 32, 65, 68, 67, 58, 69, 118, 58, 71, 118, 32, 65, 68, 67, 58, 71, 98, 58, 69, 98, 32, 65, 68, 67, 58, 71, 118, 58, 69, 118, 32, 65, 68, 67, 58, 65, 76, 58, 73, 98, 32, 65, 68, 67, 58, 65, 88, 58, 73, 118, 32, 80, 85, 83, 72, 58, 90, 115, 32, 80, 79, 80, 58, 90, 115, 32, 83, 66, 66, 58, 69, 98, 58, 71, 98, 32, 83, 66, 66, 58, 69, 118, 58, 71, 118, 32, 83, 66, 66, 58, 71, 98, 58, 69, 98, 32, 83, 66, 66, 58, 71, 118, 58, 69, 118, 32, 83, 66, 66, 58, 65, 76, 58, 73, 98, 32, 83, 66, 66, 58, 65, 88, 58, 73, 118, 32, 80, 85, 83, 72, 58, 90, 115, 32, 80, 79, 80, 58, 90, 115, 32, 65, 78, 68, 58, 69, 98, 58, 71, 98, 32, 65, 78, 68, 58, 69, 118, 58, 71, 118, 32, 65, 78, 68, 58, 71, 98, 58, 69, 98, 32, 65, 78, 68, 58, 71, 118, 58, 69, 118, 32, 65, 78, 68, 58, 65, 76, 58, 73, 98, 32, 65, 78, 68, 58, 65, 88, 58, 73, 118, 32, 45, 32, 68, 65, 65, 32, 83, 85, 66, 58, 69, 98, 58, 71, 98, 32, 83, 85, 66, 58, 69, 118, 58, 71, 118, 32, 83, 85, 66, 58, 71, 98, 58, 69, 98, 32, 83, 85, 66, 58, 71, 118, 58, 69, 118, 32, 83, 85, 66, 58, 65, 76, 58, 73, 98, 32, 83, 85, 66, 58, 65, 88, 58, 73, 118, 32, 45, 32, 68, 65, 83, 32, 88, 79, 82, 58, 69, 98, 58, 71, 98, 32, 88, 79, 82, 58, 69, 118, 58, 71, 118, 32, 88, 79, 82, 58, 71, 98, 58, 69, 98, 32, 88, 79, 82, 58, 71, 118, 58, 69, 118, 32, 88, 79, 82, 58, 65, 76, 58, 73, 98, 32, 88, 79, 82, 58, 65, 88, 58, 73, 118, 32, 45, 32, 65, 65, 65, 32, 67, 77, 80, 58, 69, 98, 58, 71, 98, 32, 67, 77, 80, 58, 69, 118, 58, 71, 118, 32, 67, 77, 80, 58, 71, 98, 58, 69, 98, 32, 67, 77, 80, 58, 71, 118, 58, 69, 118, 32, 67, 77, 80, 58, 65, 76, 58, 73, 98, 32, 67, 77, 80, 58, 65, 88, 58, 73, 118, 32, 45, 32, 65, 65, 83, 32, 73, 78, 67, 58, 90, 118, 32, 73, 78, 67, 58, 90, 118, 32, 73, 78, 67, 58, 90, 118, 32, 73, 78, 67, 58, 90, 118, 32, 73, 78, 67, 58, 90, 118, 32, 73, 78, 67, 58, 90, 118, 32, 73, 78, 67, 58, 90, 118, 32, 73, 78, 67, 58, 90, 118, 32, 68, 69, 67, 58, 90, 118, 32, 68, 69, 67, 58, 90, 118, 32, 68, 69, 67, 58, 90, 118, 32, 68, 69, 67, 58, 90, 118, 32, 68, 69, 67, 58, 90, 118, 32, 68, 69, 67, 58, 90, 118, 32, 68, 69, 67, 58, 90, 118, 32, 68, 69, 67, 58, 90, 118, 32, 80, 85, 83, 72, 58, 90, 118, 32, 80, 85, 83, 72, 58, 90, 118, 32, 80, 85, 83, 72, 58, 90, 118, 32, 80, 85, 83, 72, 58, 90, 118, 32, 80, 85, 83, 72, 58, 90, 118, 32, 80, 85, 83, 72, 58, 90, 118, 32, 80, 85, 83, 72, 58, 90, 118, 32, 80, 85, 83, 72, 58, 90, 118, 32, 80, 79, 80, 58, 90, 118, 32, 80, 79, 80, 58, 90, 118, 32, 80, 79, 80, 58, 90, 118, 32, 80, 79, 80, 58, 90, 118, 32, 80, 79, 80, 58, 90, 118, 32, 80, 79, 80, 58, 90, 118, 32, 80, 79, 80, 58, 90, 118, 32, 80, 79, 80, 58, 90, 118, 32, 45, 32, 45, 32, 45, 32, 45, 32, 45, 32, 45, 32, 45, 32, 45, 32, 45, 32, 45, 32, 45, 32, 45, 32, 45, 32, 45, 32, 45, 32, 45, 32, 74, 79, 58, 74, 98, 32, 74, 78, 79, 58, 74, 98, 32, 74, 66, 58, 74, 98, 32, 74, 78, 66, 58, 74, 98, 32, 74, 90, 58, 74, 98, 32, 74, 78, 90, 58, 74, 98, 32, 74, 66, 69, 58, 74, 98, 32, 74, 65, 58, 74, 98, 32, 74, 83, 58, 74, 98, 32, 74, 78, 83, 58, 74, 98, 32, 74, 80, 58, 74, 98, 32, 74, 78, 80, 58, 74, 98, 32, 74, 76, 58, 74, 98, 32, 74, 71, 69, 58, 74, 98, 32, 74, 76, 69, 58, 74, 98, 32, 74, 71, 58, 74, 98, 32, 47, 65, 68, 68, 58, 69, 98, 58, 73, 98, 47, 79, 82, 58, 69, 98, 58, 73, 98, 47, 65, 68, 67, 58, 69, 98, 58, 73, 98, 47, 83, 66, 66, 58, 69, 98, 58, 73, 98, 47, 65, 78, 68, 58, 69, 98, 58, 73, 98, 47, 83, 85, 66, 58, 69, 98, 58, 73, 98, 47, 88, 79, 82, 58, 69, 98, 58, 73, 98, 47, 67, 77, 80, 58, 69, 98, 58, 73, 98, 32, 47, 65, 68, 68, 58, 69, 118, 58, 73, 118, 47, 79, 82, 58, 69, 118, 58, 73, 118, 47, 65, 68, 67, 58, 69, 118, 58, 73, 118, 47, 83, 66, 66, 58, 69, 118, 58, 73, 118, 47, 65, 78, 68, 58, 69, 118, 58, 73, 118, 47, 83, 85, 66, 58, 69, 118, 58, 73, 118, 47, 88, 79, 82, 58, 69, 118, 58, 73, 118, 47, 67, 77, 80, 58, 69, 118, 58, 73, 118, 32, 45, 32, 47, 65, 68, 68, 58, 69, 118, 58, 73, 115, 47, 45, 47, 65, 68, 67, 58, 69, 118, 58, 73, 115, 47, 83, 66, 66, 58, 69, 118, 58, 73, 115, 47, 45, 47, 83, 85, 66, 58, 69, 118, 58, 73, 115, 47, 45, 47, 67, 77, 80, 58, 69, 118, 58, 73, 115, 32, 84, 69, 83, 84, 58, 69, 98, 58, 71, 98, 32, 84, 69, 83, 84, 58, 69, 118, 58, 71, 118, 32, 88, 67, 72, 71, 58, 69, 98, 58, 71, 98, 32, 88, 67, 72, 71, 58, 69, 118, 58, 71, 118, 32, 77, 79, 86, 58, 69, 98, 58, 71, 98, 32, 77, 79, 86, 58, 69, 118, 58, 71, 118, 32, 77, 79, 86, 58, 71, 98, 58, 69, 98, 32, 77, 79, 86, 58, 71, 118, 58, 69, 118, 32, 47, 77, 79, 86, 58, 69, 118, 58, 83, 119, 47, 77, 79, 86, 58, 69, 118, 58, 83, 119, 47, 77, 79, 86, 58, 69, 118, 58, 83, 119, 47, 77, 79, 86, 58, 69, 118, 58, 83, 119, 47, 45, 47, 45, 47, 45, 47, 45, 32, 76, 69, 65, 58, 71, 118, 58, 77, 32, 47, 77, 79, 86, 58, 83, 119, 58, 69, 118, 47, 45, 47, 77, 79, 86, 58, 83, 119, 58, 69, 118, 47, 77, 79, 86, 58, 83, 119, 58, 69, 118, 47, 45, 47, 45, 47, 45, 47, 45, 32, 47, 80, 79, 80, 58, 69, 118, 47, 45, 47, 45, 47, 45, 47, 45, 47, 45, 47, 45, 47, 45, 32, 88, 67, 72, 71, 58, 65, 88, 58, 90, 118, 32, 88, 67, 72, 71, 58, 65, 88, 58, 90, 118, 32, 88, 67, 72, 71, 58, 65, 88, 58, 90, 118, 32, 88, 67, 72, 71, 58, 65, 88, 58, 90, 118, 32, 88, 67, 72, 71, 58, 65, 88, 58, 90, 118, 32, 88, 67, 72, 71, 58, 65, 88, 58, 90, 118, 32, 88, 67, 72, 71, 58, 65, 88, 58, 90, 118, 32, 88, 67, 72, 71, 58, 65, 88, 58, 90, 118, 32, 67, 66, 87, 32, 67, 87, 68, 32, 67, 65, 76, 76, 70, 58, 65, 112, 32, 87, 65, 73, 84, 32, 80, 85, 83, 72, 70, 32, 80, 79, 80, 70, 32, 83, 65, 72, 70, 32, 76, 65, 72, 70, 32, 77, 79, 86, 58, 65, 76, 58, 79, 98, 32, 77, 79, 86, 58, 65, 88, 58, 79, 118, 32, 77, 79, 86, 58, 79, 98, 58, 65, 76, 32, 77, 79, 86, 58, 79, 118, 58, 65, 88, 32, 77, 79, 86, 83, 66, 32, 77, 79, 86, 83, 87, 32, 67, 77, 80, 83, 66, 32, 67, 77, 80, 83, 87, 32, 84, 69, 83, 84, 58, 65, 76, 58, 73, 98, 32, 84, 69, 83, 84, 58, 65, 88, 58, 73, 118, 32, 83, 84, 79, 83, 66, 32, 83, 84, 79, 83, 87, 32, 76, 79, 68, 83, 66, 32, 76, 79, 68, 83, 87, 32, 83, 67, 65, 83, 66, 32, 83, 67, 65, 83, 87, 32, 77, 79, 86, 58, 90, 98, 58, 73, 98, 32, 77, 79, 86, 58, 90, 98, 58, 73, 98, 32, 77, 79, 86, 58, 90, 98, 58, 73, 98, 32, 77, 79, 86, 58, 90, 98, 58, 73, 98, 32, 77, 79, 86, 58, 90, 98, 58, 73, 98, 32, 77, 79, 86, 58, 90, 98, 58, 73, 98, 32, 77, 79, 86, 58, 90, 98, 58, 73, 98, 32, 77, 79, 86, 58, 90, 98, 58, 73, 98, 32, 77, 79, 86, 58, 90, 118, 58, 73, 118, 32, 77, 79, 86, 58, 90, 118, 58, 73, 118, 32, 77, 79, 86, 58, 90, 118, 58, 73, 118, 32, 77, 79, 86, 58, 90, 118, 58, 73, 118, 32, 77, 79, 86, 58, 90, 118, 58, 73, 118, 32, 77, 79, 86, 58, 90, 118, 58, 73, 118, 32, 77, 79, 86, 58, 90, 118, 58, 73, 118, 32, 77, 79, 86, 58, 90, 118, 58, 73, 118, 32, 45, 32, 45, 32, 82, 69, 84, 58, 73, 118, 32, 82, 69, 84, 32, 76, 69, 83, 58, 71, 118, 58, 77, 112, 32, 76, 68, 83, 58, 71, 118, 58, 77, 112, 32, 47, 77, 79, 86, 58, 69, 98, 58, 73, 98, 47, 45, 47, 45, 47, 45, 47, 45, 47, 45, 47, 45, 47, 45, 32, 47, 77, 79, 86, 58, 69, 118, 58, 73, 118, 47, 45, 47, 45, 47, 45, 47, 45, 47, 45, 47, 45, 47, 45, 32, 45, 32, 45, 32, 82, 69, 84, 70, 58, 73, 118, 32, 82, 69, 84, 70, 32, 73, 78, 84, 58, 84, 104, 114, 101, 101, 32, 73, 78, 84, 58, 73, 98, 32, 73, 78, 84, 79, 32, 73, 82, 69, 84, 32, 47, 82, 79, 76, 58, 69, 98, 58, 79, 110, 101, 47, 82, 79, 82, 58, 69, 98, 58, 79, 110, 101, 47, 82, 67, 76, 58, 69, 98, 58, 79, 110, 101, 47, 82, 67, 82, 58, 69, 98, 58, 79, 110, 101, 47, 83, 72, 76, 58, 69, 98, 58, 79, 110, 101, 47, 83, 72, 82, 58, 69, 98, 58, 79, 110, 101, 47, 45, 47, 83, 65, 82, 58, 69, 98, 58, 79, 110, 101, 32, 47, 82, 79, 76, 58, 69, 118, 58, 79, 110, 101, 47, 82, 79, 82, 58, 69, 118, 58, 79, 110, 101, 47, 82, 67, 76, 58, 69, 118, 58, 79, 110, 101, 47, 82, 67, 82, 58, 69, 118, 58, 79, 110, 101, 47, 83, 72, 76, 58, 69, 118, 58, 79, 110, 101, 47, 83, 72, 82, 58, 69, 118, 58, 79, 110, 101, 47, 45, 47, 83, 65, 82, 58, 69, 118, 58, 79, 110, 101, 32, 47, 82, 79, 76, 58, 69, 98, 58, 67, 76, 47, 82, 79, 82, 58, 69, 98, 58, 67, 76, 47, 82, 67, 76, 58, 69, 98, 58, 67, 76, 47, 82, 67, 82, 58, 69, 98, 58, 67, 76, 47, 83, 72, 76, 58, 69, 98, 58, 67, 76, 47, 83, 72, 82, 58, 69, 98, 58, 67, 76, 47, 45, 47, 83, 65, 82, 58, 69, 98, 58, 67, 76, 32, 47, 82, 79, 76, 58, 69, 118, 58, 67, 76, 47, 82, 79, 82, 58, 69, 118, 58, 67, 76, 47, 82, 67, 76, 58, 69, 118, 58, 67, 76, 47, 82, 67, 82, 58, 69, 118, 58, 67, 76, 47, 83, 72, 76, 58, 69, 118, 58, 67, 76, 47, 83, 72, 82, 58, 69, 118, 58, 67, 76, 47, 45, 47, 83, 65, 82, 58, 69, 118, 58, 67, 76, 32, 65, 65, 77, 58, 73, 98, 32, 65, 65, 68, 58, 73, 98, 32, 45, 32, 88, 76, 65, 84, 32, 69, 83, 67, 58, 69, 118, 32, 69, 83, 67, 58, 69, 118, 32, 69, 83, 67, 58, 69, 118, 32, 69, 83, 67, 58, 69, 118, 32, 69, 83, 67, 58, 69, 118, 32, 69, 83, 67, 58, 69, 118, 32, 69, 83, 67, 58, 69, 118, 32, 69, 83, 67, 58, 69, 118, 32, 76, 79, 79, 80, 78, 90, 58, 74, 98, 32, 76, 79, 79, 80, 90, 58, 74, 98, 32, 76, 79, 79, 80, 58, 74, 98, 32, 74, 67, 88, 90, 58, 74, 98, 32, 73, 78, 58, 65, 76, 58, 73, 98, 32, 73, 78, 58, 65, 88, 58, 73, 98, 32, 79, 85, 84, 58, 73, 98, 58, 65, 76, 32, 79, 85, 84, 58, 73, 98, 58, 65, 88, 32, 67, 65, 76, 76, 58, 74, 118, 32, 74, 77, 80, 58, 74, 118, 32, 74, 77, 80, 70, 58, 65, 112, 32, 74, 77, 80, 58, 74, 98, 32, 73, 78, 58, 65, 76, 58, 68, 88, 32, 73, 78, 58, 65, 88, 58, 68, 88, 32, 79, 85, 84, 58, 68, 88, 58, 65, 76, 32, 79, 85, 84, 58, 68, 88, 58, 65, 88, 32, 45, 32, 45, 32, 45, 32, 45, 32, 72, 76, 84, 32, 67, 77, 67, 32, 47, 84, 69, 83, 84, 58, 69, 98, 58, 73, 98, 47, 45, 47, 78, 79, 84, 58, 69, 98, 47, 78, 69, 71, 58, 69, 98, 47, 77, 85, 76, 58, 69, 98, 47, 73, 77, 85, 76, 58, 69, 98, 47, 68, 73, 86, 58, 69, 98, 47, 73, 68, 73, 86, 58, 69, 98, 32, 47, 84, 69, 83, 84, 58, 69, 118, 58, 73, 118, 47, 45, 47, 78, 79, 84, 58, 69, 118, 47, 78, 69, 71, 58, 69, 118, 47, 77, 85, 76, 58, 69, 118, 47, 73, 77, 85, 76, 58, 69, 118, 47, 68, 73, 86, 58, 69, 118, 47, 73, 68, 73, 86, 58, 69, 118, 32, 67, 76, 67, 32, 83, 84, 67, 32, 67, 76, 73, 32, 83, 84, 73, 32, 67, 76, 68, 32, 83, 84, 68, 32, 47, 73, 78, 67, 58, 69, 98, 47, 68, 69, 67, 58, 69, 98, 47, 45, 47, 45, 47, 45, 47, 45, 47, 45, 47, 45, 32, 47, 73, 78, 67, 58, 69, 118, 47, 68, 69, 67, 58, 69, 118, 47, 67, 65, 76, 76, 58, 69, 118, 47, 67, 65, 76, 76, 70, 58, 77, 112, 47, 74, 77, 80, 58, 69, 118, 47, 74, 77, 80, 70, 58, 77, 112, 47, 80, 85, 83, 72, 58, 69, 118, 47, 45, 32] : List UInt8) (IntKind.wrap .i64 op_) r_1 hr_1
 refine Rt (some 8) (.callf 51) [] none [.d (.str ([65, 68, 68, 58, 69, 98, 58, 71, 98, 32, 65, 68, 68, 58, 69, 118, 58, 71, 118, 32, 65, 68, 68, 58, 71, 98, 58, 69, 98, 32, 65, 68, 68, 58, 71, 118, 58, 69, 118, 32, 65, 68, 68, 58, 65, 76, 58, 73, 98, 32, 65, 68, 68, 58, 65, 88, 58, 73, 118, 32, 80, 85, 83, 72, 58, 90, 115, 32, 80, 79, 80, 58, 90, 115, 32, 79, 82, 58, 69, 98, 58, 71, 98, 32, 79, 82, 58, 69, 118, 58, 71, 118, 32, 79, 82, 58, 71, 98, 58, 69, 98, 32, 79, 82, 58, 71, 118, 58, 69, 118, 32, 79, 82, 58, 65, 76, 58, 73, 98, 32, 79, 82, 58, 65, 88, 58, 73, 118, 32, 80, 85, 83, 72, 58, 90, 115, 32, 45, 32, 65, 68, 67, 58, 69, 98, 58, 71, 98, 32, 65, 68, 67, 58, 69, 118, 58, 71, 118, 32, 65, 68, 67, 58, 71, 98, 58, 69, 98, 32, 65, 68, 67, 58, 71, 118, 58, 69, 118, 32, 65, 68, 67, 58, 65, 76, 58, 73, 98, 32, 65, 68, 67, 58, 65, 88, 58, 73, 118, 32, 80, 85, 83, 72, 58, 90, 115, 32, 80, 79, 80, 58, 90, 115, 32, 83, 66, 66, 58, 69, 98, 58, 71, 98, 32, 83, 66, 66, 58, 69, 118, 58, 71, 118, 32, 83, 66, 66, 58, 71, 98, 58, 69, 98, 32, 83, 66, 66, 58, 71, 118, 58, 69, 118, 32, 83, 66, 66, 58, 65, 76, 58, 73, 98, 32, 83, 66, 66, 58, 65, 88, 58, 73, 118, 32, 80, 85, 83, 72, 58, 90, 115, 32, 80, 79, 80, 58, 90, 115, 32, 65, 78, 68, 58, 69, 98, 58, 71, 98, 32, 65, 78, 68, 58, 69, 118, 58, 71, 118, 32, 65, 78, 68, 58, 71, 98, 58, 69, 98, 32, 65, 78, 68, 58, 71, 118, 58, 69, 118, 32, 65, 78, 68, 58, 65, 76, 58, 73, 98, 32, 65, 78, 68, 58, 65, 88, 58, 73, 118, 32, 45, 32, 68, 65, 65, 32, 83, 85, 66, 58, 69, 98, 58, 71, 98, 32, 83, 85, 66, 58, 69, 118, 58, 71, 118, 32, 83, 85, 66, 58, 71, 98, 58, 69, 98, 32, 83, 85, 66, 58, 71, 118, 58, 69, 118, 32, 83, 85, 66, 58, 65, 76, 58, 73, 98, 32, 83, 85, 66, 58, 65, 88, 58, 73, 118, 32, 45, 32, 68, 65, 83, 32, 88, 79, 82, 58, 69, 98, 58, 71, 98, 32, 88, 79, 82, 58, 69, 118, 58, 71, 118, 32, 88, 79, 82, 58, 71, 98, 58, 69, 98, 32, 88, 79, 82, 58, 71, 118, 58, 69, 118, 32, 88, 79, 82, 58, 65, 76, 58, 73, 98, 32, 88, 79, 82, 58, 65, 88, 58, 73, 118, 32, 45, 32, 65, 65, 65, 32, 67, 77, 80, 58, 69, 98, 58, 71, 98, 32, 67, 77, 80, 58, 69, 118, 58, 71, 118, 32, 67, 77, 80, 58, 71, 98, 58, 69, 98, 32, 67, 77, 80, 58, 71, 118, 58, 69, 118, 32, 67, 77, 80, 58, 65, 76, 58, 73, 98, 32, 67, 77, 80, 58, 65, 88, 58, 73, 118, 32, 45, 32, 65, 65, 83, 32, 73, 78, 67, 58, 90, 118, 32, 73, 78, 67, 58, 90, 118, 32, 73, 78, 67, 58, 90, 118, 32, 73, 78, 67, 58, 90, 118, 32, 73, 78, 67, 58, 90, 118, 32, 73, 78, 67, 58, 90, 118, 32, 73, 78, 67, 58, 90, 118, 32, 73, 78, 67, 58, 90, 118, 32, 68, 69, 67, 58, 90, 118, 32, 68, 69, 67, 58, 90, 118, 32, 68, 69, 67, 58, 90, 118, 32, 68, 69, 67, 58, 90, 118, 32, 68, 69, 67, 58, 90, 118, 32, 68, 69, 67, 58, 90, 118, 32, 68, 69, 67, 58, 90, 118, 32, 68, 69, 67, 58, 90, 118, 32, 80, 85, 83, 72, 58, 90, 118, 32, 80, 85, 83, 72, 58, 90, 118, 32, 80, 85, 83, 72, 58, 90, 118, 32, 80, 85, 83, 72, 58, 90, 118, 32, 80, 85, 83, 72, 58, 90, 118, 32, 80, 85, 83, 72, 58, 90, 118, 32, 80, 85, 83, 72, 58, 90, 118, 32, 80, 85, 83, 72, 58, 90, 118, 32, 80, 79, 80, 58, 90, 118, 32, 80, 79, 80, 58, 90, 118, 32, 80, 79, 80, 58, 90, 118, 32, 80, 79, 80, 58, 90, 118, 32, 80, 79, 80, 58, 90, 118, 32, 80, 79, 80, 58, 90, 118, 32, 80, 79, 80, 58, 90, 118, 32, 80, 79, 80, 58, 90, 118, 32, 45, 32, 45, 32, 45, 32, 45, 32, 45, 32, 45, 32, 45, 32, 45, 32, 45, 32, 45, 32, 45, 32, 45, 32, 45, 32, 45, 32, 45, 32, 45, 32, 74, 79, 58, 74, 98, 32, 74, 78, 79, 58, 74, 98, 32, 74, 66, 58, 74, 98, 32, 74, 78, 66, 58, 74, 98, 32, 74, 90, 58, 74, 98, 32, 74, 78, 90, 58, 74, 98, 32, 74, 66, 69, 58, 74, 98, 32, 74, 65, 58, 74, 98, 32, 74, 83, 58, 74, 98, 32, 74, 78, 83, 58, 74, 98, 32, 74, 80, 58, 74, 98, 32, 74, 78, 80, 58, 74, 98, 32, 74, 76, 58, 74, 98, 32, 74, 71, 69, 58, 74, 98, 32, 74, 76, 69, 58, 74, 98, 32, 74, 71, 58, 74, 98, 32, 47, 65, 68, 68, 58, 69, 98, 58, 73, 98, 47, 79, 82, 58, 69, 98, 58, 73, 98, 47, 65, 68, 67, 58, 69, 98, 58, 73, 98, 47, 83, 66, 66, 58, 69, 98, 58, 73, 98, 47, 65, 78, 68, 58, 69, 98, 58, 73, 98, 47, 83, 85, 66, 58, 69, 98, 58, 73, 98, 47, 88, 79, 82, 58, 69, 98, 58, 73, 98, 47, 67, 77, 80, 58, 69, 98, 58, 73, 98, 32, 47, 65, 68, 68, 58, 69, 118, 58, 73, 118, 47, 79, 82, 58, 69, 118, 58, 73, 118, 47, 65, 68, 67, 58, 69, 118, 58, 73, 118, 47, 83, 66, 66, 58, 69, 118, 58, 73, 118, 47, 65, 78, 68, 58, 69, 118, 58, 73, 118, 47, 83, 85, 66, 58, 69, 118, 58, 73, 118, 47, 88, 79, 82, 58, 69, 118, 58, 73, 118, 47, 67, 77, 80, 58, 69, 118, 58, 73, 118, 32, 45, 32, 47, 65, 68, 68, 58, 69, 118, 58, 73, 115, 47, 45, 47, 65, 68, 67, 58, 69, 118, 58, 73, 115, 47, 83, 66, 66, 58, 69, 118, 58, 73, 115, 47, 45, 47, 83, 85, 66, 58, 69, 118, 58, 73, 115, 47, 45, 47, 67, 77, 80, 58, 69, 118, 58, 73, 115, 32, 84, 69, 83, 84, 58, 69, 98, 58, 71, 98, 32, 84, 69, 83, 84, 58, 69, 118, 58, 71, 118, 32, 88, 67, 72, 71, 58, 69, 98, 58, 71, 98, 32, 88, 67, 72, 71, 58, 69, 118, 58, 71, 118, 32, 77, 79, 86, 58, 69, 98, 58, 71, 98, 32, 77, 79, 86, 58, 69, 118, 58, 71, 118, 32, 77, 79, 86, 58, 71, 98, 58, 69, 98, 32, 77, 79, 86, 58, 71, 118, 58, 69, 118, 32, 47, 77, 79, 86, 58, 69, 118, 58, 83, 119, 47, 77, 79, 86, 58, 69, 118, 58, 83, 119, 47, 77, 79, 86, 58, 69, 118, 58, 83, 119, 47, 77, 79, 86, 58, 69, 118, 58, 83, 119, 47, 45, 47, 45, 47, 45, 47, 45, 32, 76, 69, 65, 58, 71, 118, 58, 77, 32, 47, 77, 79, 86, 58, 83, 119, 58, 69, 118, 47, 45, 47, 77, 79, 86, 58, 83, 119, 58, 69, 118, 47, 77, 79, 86, 58, 83, 119, 58, 69, 118, 47, 45, 47, 45, 47, 45, 47, 45, 32, 47, 80, 79, 80, 58, 69, 118, 47, 45, 47, 45, 47, 45, 47, 45, 47, 45, 47, 45, 47, 45, 32, 88, 67, 72, 71, 58, 65, 88, 58, 90, 118, 32, 88, 67, 72, 71, 58, 65, 88, 58, 90, 118, 32, 88, 67, 72, 71, 58, 65, 88, 58, 90, 118, 32, 88, 67, 72, 71, 58, 65, 88, 58, 90, 118, 32, 88, 67, 72, 71, 58, 65, 88, 58, 90, 118, 32, 88, 67, 72, 71, 58, 65, 88, 58, 90, 118, 32, 88, 67, 72, 71, 58, 65, 88, 58, 90, 118, 32, 88, 67, 72, 71, 58, 65, 88, 58, 90, 118, 32, 67, 66, 87, 32, 67, 87, 68, 32, 67, 65, 76, 76, 70, 58, 65, 112, 32, 87, 65, 73, 84, 32, 80, 85, 83, 72, 70, 32, 80, 79, 80, 70, 32, 83, 65, 72, 70, 32, 76, 65, 72, 70, 32, 77, 79, 86, 58, 65, 76, 58, 79, 98, 32, 77, 79, 86, 58, 65, 88, 58, 79, 118, 32, 77, 79, 86, 58, 79, 98, 58, 65, 76, 32, 77, 79, 86, 58, 79, 118, 58, 65, 88, 32, 77, 79, 86, 83, 66, 32, 77, 79, 86, 83, 87, 32, 67, 77, 80, 83, 66, 32, 67, 77, 80, 83, 87, 32, 84, 69, 83, 84, 58, 65, 76, 58, 73, 98, 32, 84, 69, 83, 84, 58, 65, 88, 58, 73, 118, 32, 83, 84, 79, 83, 66, 32, 83, 84, 79, 83, 87, 32, 76, 79, 68, 83, 66, 32, 76, 79, 68, 83, 87, 32, 83, 67, 65, 83, 66, 32, 83, 67, 65, 83, 87, 32, 77, 79, 86, 58, 90, 98, 58, 73, 98, 32, 77, 79, 86, 58, 90, 98, 58, 73, 98, 32, 77, 79, 86, 58, 90, 98, 58, 73, 98, 32, 77, 79, 86, 58, 90, 98, 58, 73, 98, 32, 77, 79, 86, 58, 90, 98, 58, 73, 98, 32, 77, 79, 86, 58, 90, 98, 58, 73, 98, 32, 77, 79, 86, 58, 90, 98, 58, 73, 98, 32, 77, 79, 86, 58, 90, 98, 58, 73, 98, 32, 77, 79, 86, 58, 90, 118, 58, 73, 118, 32, 77, 79, 86, 58, 90, 118, 58, 73, 118, 32, 77, 79, 86, 58, 90, 118, 58, 73, 118, 32, 77, 79, 86, 58, 90, 118, 58, 73, 118, 32, 77, 79, 86, 58, 90, 118, 58, 73, 118, 32, 77, 79, 86, 58, 90, 118, 58, 73, 118, 32, 77, 79, 86, 58, 90, 118, 58, 73, 118, 32, 77, 79, 86, 58, 90, 118, 58, 73, 118, 32, 45, 32, 45, 32, 82, 69, 84, 58, 73, 118, 32, 82, 69, 84, 32, 76, 69, 83, 58, 71, 118, 58, 77, 112, 32, 76, 68, 83, 58, 71, 118, 58, 77, 112, 32, 47, 77, 79, 86, 58, 69, 98, 58, 73, 98, 47, 45, 47, 45, 47, 45, 47, 45, 47, 45, 47, 45, 47, 45, 32, 47, 77, 79, 86, 58, 69, 118, 58, 73, 118, 47, 45, 47, 45, 47, 45, 47, 45, 47, 45, 47, 45, 47, 45, 32, 45, 32, 45, 32, 82, 69, 84, 70, 58, 73, 118, 32, 82, 69, 84, 70, 32, 73, 78, 84, 58, 84, 104, 114, 101, 101, 32, 73, 78, 84, 58, 73, 98, 32, 73, 78, 84, 79, 32, 73, 82, 69, 84, 32, 47, 82, 79, 76, 58, 69, 98, 58, 79, 110, 101, 47, 82, 79, 82, 58, 69, 98, 58, 79, 110, 101, 47, 82, 67, 76, 58, 69, 98, 58, 79, 110, 101, 47, 82, 67, 82, 58, 69, 98, 58, 79, 110, 101, 47, 83, 72, 76, 58, 69, 98, 58, 79, 110, 101, 47, 83, 72, 82, 58, 69, 98, 58, 79, 110, 101, 47, 45, 47, 83, 65, 82, 58, 69, 98, 58, 79, 110, 101, 32, 47, 82, 79, 76, 58, 69, 118, 58, 79, 110, 101, 47, 82, 79, 82, 58, 69, 118, 58, 79, 110, 101, 47, 82, 67, 76, 58, 69, 118, 58, 79, 110, 101, 47, 82, 67, 82, 58, 69, 118, 58, 79, 110, 101, 47, 83, 72, 76, 58, 69, 118, 58, 79, 110, 101, 47, 83, 72, 82, 58, 69, 118, 58, 79, 110, 101, 47, 45, 47, 83, 65, 82, 58, 69, 118, 58, 79, 110, 101, 32, 47, 82, 79, 76, 58, 69, 98, 58, 67, 76, 47, 82, 79, 82, 58, 69, 98, 58, 67, 76, 47, 82, 67, 76, 58, 69, 98, 58, 67, 76, 47, 82, 67, 82, 58, 69, 98, 58, 67, 76, 47, 83, 72, 76, 58, 69, 98, 58, 67, 76, 47, 83, 72, 82, 58, 69, 98, 58, 67, 76, 47, 45, 47, 83, 65, 82, 58, 69, 98, 58, 67, 76, 32, 47, 82, 79, 76, 58, 69, 118, 58, 67, 76, 47, 82, 79, 82, 58, 69, 118, 58, 67, 76, 47, 82, 67, 76, 58, 69, 118, 58, 67, 76, 47, 82, 67, 82, 58, 69, 118, 58, 67, 76, 47, 83, 72, 76, 58, 69, 118, 58, 67, 76, 47, 83, 72, 82, 58, 69, 118, 58, 67, 76, 47, 45, 47, 83, 65, 82, 58, 69, 118, 58, 67, 76, 32, 65, 65, 77, 58, 73, 98, 32, 65, 65, 68, 58, 73, 98, 32, 45, 32, 88, 76, 65, 84, 32, 69, 83, 67, 58, 69, 118, 32, 69, 83, 67, 58, 69, 118, 32, 69, 83, 67, 58, 69, 118, 32, 69, 83, 67, 58, 69, 118, 32, 69, 83, 67, 58, 69, 118, 32, 69, 83, 67, 58, 69, 118, 32, 69, 83, 67, 58, 69, 118, 32, 69, 83, 67, 58, 69, 118, 32, 76, 79, 79, 80, 78, 90, 58, 74, 98, 32, 76, 79, 79, 80, 90, 58, 74, 98, 32, 76, 79, 79, 80, 58, 74, 98, 32, 74, 67, 88, 90, 58, 74, 98, 32, 73, 78, 58, 65, 76, 58, 73, 98, 32, 73, 78, 58, 65, 88, 58, 73, 98, 32, 79, 85, 84, 58, 73, 98, 58, 65, 76, 32, 79, 85, 84, 58, 73, 98, 58, 65, 88, 32, 67, 65, 76, 76, 58, 74, 118, 32, 74, 77, 80, 58, 74, 118, 32, 74, 77, 80, 70, 58, 65, 112, 32, 74, 77, 80, 58, 74, 98, 32, 73, 78, 58, 65, 76, 58, 68, 88, 32, 73, 78, 58, 65, 88, 58, 68, 88, 32, 79, 85, 84, 58, 68, 88, 58, 65, 76, 32, 79, 85, 84, 58, 68, 88, 58, 65, 88, 32, 45, 32, 45, 32, 45, 32, 45, 32, 72, 76, 84, 32, 67, 77, 67, 32, 47, 84, 69, 83, 84, 58, 69, 98, 58, 73, 98, 47, 45, 47, 78, 79, 84, 58, 69, 98, 47, 78, 69, 71, 58, 69, 98, 47, 77, 85, 76, 58, 69, 98, 47, 73, 77, 85, 76, 58, 69, 98, 47, 68, 73, 86, 58, 69, 98, 47, 73, 68, 73, 86, 58, 69, 98, 32, 47, 84, 69, 83, 84, 58, 69, 118, 58, 73, 118, 47, 45, 47, 78, 79, 84, 58, 69, 118, 47, 78, 69, 71, 58, 69, 118, 47, 77, 85, 76, 58, 69, 118, 47, 73, 77, 85, 76, 58, 69, 118, 47, 68, 73, 86, 58, 69, 118, 47, 73, 68, 73, 86, 58, 69, 118, 32, 67, 76, 67, 32, 83, 84, 67, 32, 67, 76, 73, 32, 83, 84, 73, 32, 67, 76, 68, 32, 83, 84, 68, 32, 47, 73, 78, 67, 58, 69, 98, 47, 68, 69, 67, 58, 69, 98, 47, 45, 47, 45, 47, 45, 47, 45, 47, 45, 47, 45, 32, 47, 73, 78, 67, 58, 69, 118, 47, 68, 69, 67, 58, 69, 118, 47, 67, 65, 76, 76, 58, 69, 118, 47, 67, 65, 76, 76, 70, 58, 77, 112, 47, 74, 77, 80, 58, 69, 118, 47, 74, 77, 80, 70, 58, 77, 112, 47, 80, 85, 83, 72, 58, 69, 118, 47, 45, 32] : List UInt8)), .d (.int .i64 (IntKind.wrap .i64 op_))] (.d (.str r_1)) [] (cut_call (call_of (ws := []) (us := []) (by kernel_rfl) (by kernel_rfl) hc_1 (by kernel_rfl) (by kernel_rfl))) ?_
 refine Rc 1 [⟨.d (.str r_1), []⟩] <| Rd <| kS_nrm <| Sq <| Sq <| Ro <| Rc 1 [⟨.d (.str r_1), []⟩] <| Rt (some 10) .lenS [] none [.d (.str r_1)] (.d (.int .i64 (r_1.length : Int))) [] (cut_lenS _) <| Rc 2 [⟨.d (.bool (decide ((r_1.length : Int) > 0))), []⟩, ⟨.d (.bool (decide ((r_1.length : Int) > 0))), []⟩] ?_
 cases hb_1 : ((decide ((r_1.length : Int) > 0)) : Bool) with
 | true =>
  replace h := ite_t hb_1 h
  refine Rc 1 [⟨.d (.str r_1), []⟩] ?_
  obtain ⟨z_1, hz_1, h⟩ := bind_s h
  refine Rt (some 14) .indexS [] none [.d (.str r_1), .d (.int .i64 0)] (.d (.int .u8 (z_1.toNat : Int))) [] (cut_ixS hz_1) <| Rc 2 [⟨.d (.bool ((z_1.toNat : Int) == 47)), []⟩, ⟨.d (.bool ((z_1.toNat : Int) == 47)), []⟩] <| Rd <| kS_nrm ?_
  cases hb_2 : (((z_1.toNat : Int) == 47) : Bool) with
  | true =>
   replace h := ite_t hb_2 h
   refine Ct <| Sq <| Ro <| Rc 4 [⟨.d (.str r_1), []⟩, ⟨.d (.int .i64 reg_), []⟩, ⟨.d (.int .i64 (bitsOp .and .i64 reg_ 7)), []⟩, ⟨.d (.int .i64 (IntKind.wrap .i64 ((bitsOp .and .i64 reg_ 7) + 1))), []⟩] ?_
   obtain ⟨r_2, hr_2, h⟩ := bind_s h
   have hc_2 := hansomref04_part_L r_1 47 (IntKind.wrap .i64 ((bitsOp .and .i64 reg_ 7) + 1)) r_2 hr_2
   refine Rt (some 21) (.callf 47) [] none [.d (.str r_1), .d (.int .u8 47), .d (.int .i64 (IntKind.wrap .i64 ((bitsOp .and .i64 reg_ 7) + 1)))] (.d (.str r_2)) [] (cut_call (call_of (ws := []) (us := []) (by kernel_rfl) (by kernel_rfl) hc_2 (by kernel_rfl) (by kernel_rfl))) <| Rc 1 [⟨.d (.str r_2), []⟩] <| Rd <| kS_nrm <| Runs.ret <| kS_ret ?_
   obtain rfl := Option.some.inj h
   exact ⟨Out.ret_ne, (by kernel_rfl)⟩
  | false =>
   replace h := ite_f hb_2 h
   refine Cf <| Runs.skip <| kS_nrm <| Sq <| Ro <| Rc 2 [⟨.d (.str r_1), []⟩, ⟨.d (.str r_1), []⟩] <| Rd <| kS_nrm <| Runs.ret ?_
   obtain rfl := Option.some.inj h
   exact ⟨Out.ret_ne, (by kernel_rfl)⟩
 | false =>
  replace h := ite_f hb_1 h
  refine Rc 4 [⟨.tup [], []⟩, ⟨.tup [], []⟩, ⟨.tup [], []⟩, ⟨.d (.bool false), []⟩] <| Rd <| kS_nrm <| Cf <| Runs.skip <| kS_nrm <| Sq <| Ro <| Rc 2 [⟨.d (.str r_1), []⟩, ⟨.d (.str r_1), []⟩] <| Rd <| kS_nrm <| Runs.ret ?_
  obtain rfl := Option.some.inj h
  exact ⟨Out.ret_ne, (by kernel_rfl)⟩
theorem hansomref04_Entry_L (op_ : Int) (reg_ : Int) (r : (List UInt8)) (h : hansomref04_Entry op_ reg_ = some r) : L 45 [.d (.int .u8 op_), .d (.int .i64 reg_)] = some (.d (.str r), [.d (.int .u8 op_), .d (.int .i64 reg_)]) := by
 obtain ⟨p, ⟨hne, hf⟩, hr⟩ := hansomref04_Entry_ok op_ reg_ r h
 obtain ⟨k, hk⟩ := run_of (F := F45) (args := [.d (.int .u8 op_), .d (.int .i64 reg_)]) (ap := [.d (.int .u8 op_), .d (.int .i64 reg_)]) (bx0 := updW (fun _ => none) []) rfl rfl (by kernel_rfl) ⟨p, ⟨hne, hf⟩, hr⟩
 exact lim_run (k := k) rfl hk
def hansomref04_find_h8 (s0 : (List UInt8)) (w1 : (List UInt8)) (n5 : Int) (from6 : Int) (i7 : Int) : St := ⟨tab [(0, .d (.str s0)), (1, .d (.str w1)), (5, .d (.int .i64 n5)), (6, .d (.int .i64 from6)), (7, .d (.int .i64 i7))], tabB []⟩
def hansomref04_find_h35  : St := ⟨tab [], tabB []⟩
def hansomref04_find_Q (s_ : (List UInt8)) (w_ : (List UInt8)) (r : Int) (p : Out × St) : Prop := (∀ i, p.1 ≠ .exit i) ∧ finF F48 [.d (.str s_), .d (.str w_)] p.2 = some (.d (.int .i64 r), [.d (.str s_), .d (.str w_)])
def hansomref04_find_P8 (s_ : (List UInt8)) (w_ : (List UInt8)) (s0 : (List UInt8)) (w1 : (List UInt8)) (e : (Int ⊕ Unit)) (p : Out × St) : Prop := match e with
 | .inl x => p.1 = .ret ∧ finF F48 [.d (.str s_), .d (.str w_)] p.2 = some (.d (.int .i64 x), [.d (.str s_), .d (.str w_)])
 | .inr x => p.1 = .exit 0 ∧ ∃ g : Unit, Canon [] [] [] p.2 (hansomref04_find_h35)
theorem hansomref04_find_l8_ok (s_ : (List UInt8)) (w_ : (List UInt8)) (s0 : (List UInt8)) (w1 : (List UInt8)) (n5 : Int) (from6 : Int) (i7 : Int) (r : (Lp (Int × Int × Int) (Int ⊕ Unit))) (h : hansomref04_find_l8 s0 w1 n5 from6 i7 = some r) : Runs L F48l8 (hansomref04_find_h8 s0 w1 n5 from6 i7) (LQ [] [0, 1, 5, 6, 7] [] (fun (x : (Int × Int × Int)) (g : Unit) => hansomref04_find_h8 s0 w1 x.1 x.2.1 x.2.2) (hansomref04_find_P8 s_ w_ s0 w1) r) := by
 unfold hansomref04_find_l8 at h
 refine Sq <| Sq <| Ro <| Rc 2 [⟨.d (.int .i64 i7), []⟩, ⟨.d (.str s0), []⟩] <| Rt (some 10) .lenS [] none [.d (.str s0)] (.d (.int .i64 (s0.length : Int))) [] (cut_lenS _) <| Rc 1 [⟨.d (.bool (decide (i7 < (s0.length : Int)))), []⟩] <| Rd <| kS_nrm ?_
 cases hb_1 : ((decide (i7 < (s0.length : Int))) : Bool) with
 | true =>
  replace h := ite_t hb_1 h
  refine Ct <| Runs.skip <| kS_nrm <| Sq <| Runs.block <| Sq <| Sq <| Ro <| Rc 2 [⟨.d (.str s0), []⟩, ⟨.d (.int .i64 i7), []⟩] ?_
  obtain ⟨z_1, hz_1, h⟩ := bind_s h
  refine Rt (some 16) .indexS [] none [.d (.str s0), .d (.int .i64 i7)] (.d (.int .u8 (z_1.toNat : Int))) [] (cut_ixS hz_1) <| Rc 1 [⟨.d (.bool ((z_1.toNat : Int) != 32)), []⟩] <| Rd <| kS_nrm ?_
  cases hb_2 : (((z_1.toNat : Int) != 32) : Bool) with
  | true =>
   replace h := ite_t hb_2 h
   refine Ct <| Runs.exit <| kS_exit <| kB_hit <| kS_nrm <| Ro <| Rc 3 [⟨.d (.int .i64 i7), []⟩, ⟨.d (.int .i64 (IntKind.wrap .i64 (i7 + 1))), []⟩, ⟨.d (.int .i64 (IntKind.wrap .i64 (i7 + 1))), []⟩] <| Rd ?_
   obtain rfl := Option.some.inj h
   exact ⟨rfl, (), (Canon.nil (by kernel_rfl))⟩
  | false =>
   replace h := ite_f hb_2 h
   refine Cf <| Runs.skip <| kS_nrm <| Sq <| Sq <| Ro <| Rc 3 [⟨.d (.str s0), []⟩, ⟨.d (.int .i64 from6), []⟩, ⟨.d (.int .i64 i7), []⟩] ?_
   obtain ⟨z_2, hz_2, h⟩ := bind_s h
   refine Rt (some 21) (.substr true true) [] none [.d (.str s0), .d (.int .i64 from6), .d (.int .i64 i7)] (.d (.str z_2)) [] (cut_strTT hz_2) <| Rc 2 [⟨.d (.str w1), []⟩, ⟨.d (.bool (z_2 == w1)), []⟩] <| Rd <| kS_nrm ?_
   cases hb_3 : ((z_2 == w1) : Bool) with
   | true =>
    replace h := ite_t hb_3 h
    refine Ct <| Sq <| Ro <| Rc 2 [⟨.d (.int .i64 n5), []⟩, ⟨.d (.int .i64 n5), []⟩] <| Rd <| kS_nrm <| Runs.ret <| kS_ret <| kB_ret <| kS_ret ?_
    obtain rfl := Option.some.inj h
    exact ⟨nofun, rfl, (by kernel_rfl)⟩
   | false =>
    replace h := ite_f hb_3 h
    refine Cf <| Runs.skip <| kS_nrm <| Sq <| Ro <| Rc 3 [⟨.d (.int .i64 n5), []⟩, ⟨.d (.int .i64 (IntKind.wrap .i64 (n5 + 1))), []⟩, ⟨.d (.int .i64 (IntKind.wrap .i64 (n5 + 1))), []⟩] <| Rd <| kS_nrm <| Ro <| Rc 3 [⟨.d (.int .i64 i7), []⟩, ⟨.d (.int .i64 (IntKind.wrap .i64 (i7 + 1))), []⟩, ⟨.d (.int .i64 (IntKind.wrap .i64 (i7 + 1))), []⟩] <| Rd <| kB_nrm <| kS_nrm <| Ro <| Rc 3 [⟨.d (.int .i64 i7), []⟩, ⟨.d (.int .i64 (IntKind.wrap .i64 (i7 + 1))), []⟩, ⟨.d (.int .i64 (IntKind.wrap .i64 (i7 + 1))), []⟩] <| Rd ?_
    obtain rfl := Option.some.inj h
    exact ⟨rfl, (), (Canon.nil (by kernel_rfl))⟩
 | false =>
  replace h := ite_f hb_1 h
  refine Cf <| Runs.exit <| kS_exit ?_
  obtain rfl := Option.some.inj h
  exact ⟨nofun, rfl, (), (Canon.nil (by kernel_rfl))⟩
theorem hansomref04_find_ok (s_ : (List UInt8)) (w_ : (List UInt8)) (r : Int) (h : hansomref04_find s_ w_ = some r) : Runs L F48.body ⟨tmOf [.d (.str s_), .d (.str w_)] 0, updW (fun _ => none) []⟩ (hansomref04_find_Q s_ w_ r) := by
 unfold hansomref04_find at h
 refine Sq <| Ro <| Rc 1 [⟨.d (.int .i64 0), []⟩] <| Rd <| kS_nrm <| Sq <| Ro <| Rc 2 [⟨.d (.int .i64 1), []⟩, ⟨.d (.int .i64 0), []⟩] <| Rd <| kS_nrm <| Sq <| Sq <| Ro <| Rc 1 [⟨.d (.int .i64 0), []⟩] <| Rd <| kS_nrm <| Runs.block ?_
 obtain ⟨e_1, he_1, h⟩ := bind_s h
 refine Runs.loop (fun x : (Int × Int × Int) => hansomref04_find_l8 s_ w_ x.1 x.2.1 x.2.2) (fun (x : (Int × Int × Int)) (g : Unit) => hansomref04_find_h8 s_ w_ x.1 x.2.1 x.2.2) (hansomref04_find_P8 s_ w_ s_ w_) (fun x g r hr => hansomref04_find_l8_ok s_ w_ s_ w_ x.1 x.2.1 x.2.2  r hr) () he_1 (Canon.nil (by kernel_rfl)) ?_
 rintro ⟨o, s⟩ hp
 cases e_1 with
 | inl e_2 =>
  obtain ⟨ho, hf⟩ := hp
  have ho' : o = .ret := ho
  subst ho'
  refine kB_ret <| kS_ret ?_
  obtain rfl := Option.some.inj h
  exact ⟨Out.ret_ne, hf⟩
 | inr e_3 =>
  obtain ⟨ho, g_1, hk_1⟩ := hp
  have ho' : o = .exit 0 := ho
  subst ho'
  refine kB_hit <| kS_nrm <| Runs.canon _ hk_1 <| Sq <| Ro <| Rc 1 [⟨.d (.int .i64 0), []⟩] <| Rd <| kS_nrm <| Runs.ret ?_
  obtain rfl := Option.some.inj h
  exact ⟨Out.ret_ne, (by kernel_rfl)⟩
theorem hansomref04_find_L (s_ : (List UInt8)) (w_ : (List UInt8)) (r : Int) (h : hansomref04_find s_ w_ = some r) : L 48 [.d (.str s_), .d (.str w_)] = some (.d (.int .i64 r), [.d (.str s_), .d (.str w_)]) := by
 obtain ⟨p, ⟨hne, hf⟩, hr⟩ := hansomref04_find_ok s_ w_ r h
 obtain ⟨k, hk⟩ := run_of (F := F48) (args := [.d (.str s_), .d (.str w_)]) (ap := [.d (.str s_), .d (.str w_)]) (bx0 := updW (fun _ => none) []) rfl rfl (by kernel_rfl) ⟨p, ⟨hne, hf⟩, hr⟩
 exact lim_run (k := k) rfl hk
def hansomref04_Find_Q (s_ : (List UInt8)) (r : Int) (p : Out × St) : Prop := (∀ i, p.1 ≠ .exit i) ∧ finF F46 [.d (.str s_)] p.2 = some (.d (.int .i64 r), [.d (.str s_)])
theorem hansomref04_Find_ok (s_ : (List UInt8)) (r : Int) (h : hansomref04_Find s_ = some r) : Runs L F46.body ⟨tmOf [.d (.str s_)] 0, updW (fun _ => none) []⟩ (hansomref04_Find_Q s_ r) := by
 unfold hansomref04_Find at h
 refine Sq <| Ro <| Rc 1 [⟨.d (.int .i64 0), []⟩] <| Rd <| kS_nrm <| Sq <| Ro <| Rc 1 [⟨.d (.str s_), []⟩] ?_
 obtain ⟨r_1, hr_1, h⟩ := bind_s h
 have hc_1 := hansomref04_find_L ([65, 68, 68, 32, 79, 82, 32, 65, 68, 67, 32, 83, 66, 66, 32, 65, 78, 68, 32, 83, 85, 66, 32, 88, 79, 82, 32, 67, 77, 80, 32, 80, 85, 83, 72, 32, 80, 79, 80, 32, 68, 65, 65, 32, 68, 65, 83, 32, 65, 65, 65, 32, 65, 65, 83, 32, 73, 78, 67, 32, 68, 69, 67, 32, 74, 79, 32, 74, 78, 79, 32, 74, 66, 32, 74, 78, 66, 32, 74, 90, 32, 74, 78, 90, 32, 74, 66, 69, 32, 74, 65, 32, 74, 83, 32, 74, 78, 83, 32, 74, 80, 32, 74, 78, 80, 32, 74, 76, 32, 74, 71, 69, 32, 74, 76, 69, 32, 74, 71, 32, 84, 69, 83, 84, 32, 88, 67, 72, 71, 32, 77, 79, 86, 32, 76, 69, 65, 32, 67, 66, 87, 32, 67, 87, 68, 32, 67, 65, 76, 76, 32, 67, 65, 76, 76, 70, 32, 87, 65, 73, 84, 32, 80, 85, 83, 72, 70, 32, 80, 79, 80, 70, 32, 83, 65, 72, 70, 32, 76, 65, 72, 70, 32, 77, 79, 86, 83, 66, 32, 77, 79, 86, 83, 87, 32, 67, 77, 80, 83, 66, 32, 67, 77, 80, 83, 87, 32, 83, 84, 79, 83, 66, 32, 83, 84, 79, 83, 87, 32, 76, 79, 68, 83, 66, 32, 76, 79, 68, 83, 87, 32, 83, 67, 65, 83, 66, 32, 83, 67, 65, 83, 87, 32, 82, 69, 84, 32, 82, 69, 84, 70, 32, 76, 69, 83, 32, 76, 68, 83, 32, 73, 78, 84, 32, 73, 78, 84, 79, 32, 73, 82, 69, 84, 32, 82, 79, 76, 32, 82, 79, 82, 32, 82, 67, 76, 32, 82, 67, 82, 32, 83, 72, 76, 32, 83, 72, 82, 32, 83, 65, 82, 32, 65, 65, 77, 32, 65, 65, 68, 32, 88, 76, 65, 84, 32, 69, 83, 67, 32, 76, 79, 79, 80, 78, 90, 32, 76, 79, 79, 80, 90, 32, 76, 79, 79, 80, 32, 74, 67, 88, 90, 32, 73, 78, 32, 79, 85, 84, 32, 74, 77, 80, 32, 74, 77, 80, 70, 32, 72, 76, 84, 32, 67, 77, 67, 32, 78, 79, 84, 32, 78, 69, 71, 32, 77, 85, 76, 32, 73, 77, 85, 76, 32, 68, 73, 86, 32, 73, 68, 73, 86, 32, 67, 76, 67, 32, 83, 84, 67, 32, 67, 76, 73, 32, 83, 84, 73, 32, 67, 76, 68, 32, 83, 84, 68, 32] : List UInt8) s_ r_1 hr_1
 refine Rt (some 4) (.callf 48) [] none [.d (.str ([65, 68, 68, 32, 79, 82, 32, 65, 68, 67, 32, 83, 66, 66, 32, 65, 78, 68, 32, 83, 85, 66, 32, 88, 79, 82, 32, 67, 77, 80, 32, 80, 85, 83, 72, 32, 80, 79, 80, 32, 68, 65, 65, 32, 68, 65, 83, 32, 65, 65, 65, 32, 65, 65, 83, 32, 73, 78, 67, 32, 68, 69, 67, 32, 74, 79, 32, 74, 78, 79, 32, 74, 66, 32, 74, 78, 66, 32, 74, 90, 32, 74, 78, 90, 32, 74, 66, 69, 32, 74, 65, 32, 74, 83, 32, 74, 78, 83, 32, 74, 80, 32, 74, 78, 80, 32, 74, 76, 32, 74, 71, 69, 32, 74, 76, 69, 32, 74, 71, 32, 84, 69, 83, 84, 32, 88, 67, 72, 71, 32, 77, 79, 86, 32, 76, 69, 65, 32, 67, 66, 87, 32, 67, 87, 68, 32, 67, 65, 76, 76, 32, 67, 65, 76, 76, 70, 32, 87, 65, 73, 84, 32, 80, 85, 83, 72, 70, 32, 80, 79, 80, 70, 32, 83, 65, 72, 70, 32, 76, 65, 72, 70, 32, 77, 79, 86, 83, 66, 32, 77, 79, 86, 83, 87, 32, 67, 77, 80, 83, 66, 32, 67, 77, 80, 83, 87, 32, 83, 84, 79, 83, 66, 32, 83, 84, 79, 83, 87, 32, 76, 79, 68, 83, 66, 32, 76, 79, 68, 83, 87, 32, 83, 67, 65, 83, 66, 32, 83, 67, 65, 83, 87, 32, 82, 69, 84, 32, 82, 69, 84, 70, 32, 76, 69, 83, 32, 76, 68, 83, 32, 73, 78, 84, 32, 73, 78, 84, 79, 32, 73, 82, 69, 84, 32, 82, 79, 76, 32, 82, 79, 82, 32, 82, 67, 76, 32, 82, 67, 82, 32, 83, 72, 76, 32, 83, 72, 82, 32, 83, 65, 82, 32, 65, 65, 77, 32, 65, 65, 68, 32, 88, 76, 65, 84, 32, 69, 83, 67, 32, 76, 79, 79, 80, 78, 90, 32, 76, 79, 79, 80, 90, 32, 76, 79, 79, 80, 32, 74, 67, 88, 90, 32, 73, 78, 32, 79, 85, 84, 32, 74, 77, 80, 32, 74, 77, 80, 70, 32, 72, 76, 84, 32, 67, 77, 67, 32, 78, 79, 84, 32, 78, 69, 71, 32, 77, 85, 76, 32, 73, 77, 85, 76, 32, 68, 73, 86, 32, 73, 68, 73, 86, 32, 67, 76, 67, 32, 83, 84, 67, 32, 67, 76, 73, 32, 83, 84, 73, 32, 67, 76, 68, 32, 83, 84, 68, 32] : List UInt8)), .d (.str s_)] (.d (.int .i64 r_1)) [] (cut_call (call_of (ws := []) (us := []) (by kernel_rfl) (by kernel_rfl) hc_1 (by kernel_rfl) (by kernel_rfl))) ?_
 refine Rc 1 [⟨.d (.int .i64 r_1), []⟩] <| Rd <| kS_nrm <| Runs.ret ?_
 obtain rfl := Option.some.inj h
 exact ⟨Out.ret_ne, (by kernel_rfl)⟩
theorem hansomref04_Find_L (s_ : (List UInt8)) (r : Int) (h : hansomref04_Find s_ = some r) : L 46 [.d (.str s_)] = some (.d (.int .i64 r), [.d (.str s_)]) := by
 obtain ⟨p, ⟨hne, hf⟩, hr⟩ := hansomref04_Find_ok s_ r h
 obtain ⟨k, hk⟩ := run_of (F := F46) (args := [.d (.str s_)]) (ap := [.d (.str s_)]) (bx0 := updW (fun _ => none) []) rfl rfl (by kernel_rfl) ⟨p, ⟨hne, hf⟩, hr⟩
 exact lim_run (k := k) rfl hk
def hansomref04_second_Q (k_ : Int) (r : Bool) (p : Out × St) : Prop := (∀ i, p.1 ≠ .exit i) ∧ finF F49 [.d (.int .i64 k_)] p.2 = some (.d (.bool r), [.d (.int .i64 k_)])
theorem hansomref04_second_ok (k_ : Int) (r : Bool) (h : hansomref04_second k_ = some r) : Runs L F49.body ⟨tmOf [.d (.int .i64 k_)] 0, updW (fun _ => none) []⟩ (hansomref04_second_Q k_ r) := by
 unfold hansomref04_second at h
 refine Sq <| Ro <| Rc 1 [⟨.d (.bool false), []⟩] <| Rd <| kS_nrm <| Sq <| Ro <| Rc 3 [⟨.d (.int .i64 k_), []⟩, ⟨.d (.bool (decide (k_ ≥ 1))), []⟩, ⟨.d (.bool (decide (k_ ≥ 1))), []⟩] ?_
 cases hb_1 : ((decide (k_ ≥ 1)) : Bool) with
 | true =>
  replace h := ite_t hb_1 h
  refine Rc 4 [⟨.d (.int .i64 k_), []⟩, ⟨.d (.bool (decide (k_ ≤ 5))), []⟩, ⟨.d (.bool (decide (k_ ≤ 5))), []⟩, ⟨.d (.bool (decide (k_ ≤ 5))), []⟩] ?_
  cases hb_2 : ((decide (k_ ≤ 5)) : Bool) with
  | true =>
   replace h := ite_t hb_2 h
   refine Rc 8 [⟨.tup [], []⟩, ⟨.tup [], []⟩, ⟨.d (.bool true), []⟩, ⟨.d (.bool true), []⟩, ⟨.tup [], []⟩, ⟨.tup [], []⟩, ⟨.d (.bool true), []⟩, ⟨.d (.bool true), []⟩] <| Rd <| kS_nrm <| Runs.ret ?_
   obtain rfl := Option.some.inj h
   exact ⟨Out.ret_ne, (by kernel_rfl)⟩
  | false =>
   replace h := ite_f hb_2 h
   refine Rc 4 [⟨.d (.int .i64 k_), []⟩, ⟨.d (.bool (k_ == 19)), []⟩, ⟨.d (.bool (k_ == 19)), []⟩, ⟨.d (.bool (k_ == 19)), []⟩] ?_
   cases hb_3 : ((k_ == 19) : Bool) with
   | true =>
    replace h := ite_t hb_3 h
    refine Rc 4 [⟨.tup [], []⟩, ⟨.tup [], []⟩, ⟨.d (.bool true), []⟩, ⟨.d (.bool true), []⟩] <| Rd <| kS_nrm <| Runs.ret ?_
    obtain rfl := Option.some.inj h
    exact ⟨Out.ret_ne, (by kernel_rfl)⟩
   | false =>
    replace h := ite_f hb_3 h
    refine Rc 4 [⟨.d (.int .i64 k_), []⟩, ⟨.d (.bool (k_ == 20)), []⟩, ⟨.d (.bool (k_ == 20)), []⟩, ⟨.d (.bool (k_ == 20)), []⟩] <| Rd <| kS_nrm <| Runs.ret ?_
    obtain rfl := Option.some.inj h
    exact ⟨Out.ret_ne, (by kernel_rfl)⟩
 | false =>
  replace h := ite_f hb_1 h
  refine Rc 8 [⟨.tup [], []⟩, ⟨.tup [], []⟩, ⟨.d (.bool false), []⟩, ⟨.d (.bool false), []⟩, ⟨.d (.int .i64 k_), []⟩, ⟨.d (.bool (k_ == 19)), []⟩, ⟨.d (.bool (k_ == 19)), []⟩, ⟨.d (.bool (k_ == 19)), []⟩] ?_
  cases hb_4 : ((k_ == 19) : Bool) with
  | true =>
   replace h := ite_t hb_4 h
   refine Rc 4 [⟨.tup [], []⟩, ⟨.tup [], []⟩, ⟨.d (.bool true), []⟩, ⟨.d (.bool true), []⟩] <| Rd <| kS_nrm <| Runs.ret ?_
   obtain rfl := Option.some.inj h
   exact ⟨Out.ret_ne, (by kernel_rfl)⟩
  | false =>
   replace h := ite_f hb_4 h
   refine Rc 4 [⟨.d (.int .i64 k_), []⟩, ⟨.d (.bool (k_ == 20)), []⟩, ⟨.d (.bool (k_ == 20)), []⟩, ⟨.d (.bool (k_ == 20)), []⟩] <| Rd <| kS_nrm <| Runs.ret ?_
   obtain rfl := Option.some.inj h
   exact ⟨Out.ret_ne, (by kernel_rfl)⟩
theorem hansomref04_second_L (k_ : Int) (r : Bool) (h : hansomref04_second k_ = some r) : L 49 [.d (.int .i64 k_)] = some (.d (.bool r), [.d (.int .i64 k_)]) := by
 obtain ⟨p, ⟨hne, hf⟩, hr⟩ := hansomref04_second_ok k_ r h
 obtain ⟨k, hk⟩ := run_of (F := F49) (args := [.d (.int .i64 k_)]) (ap := [.d (.int .i64 k_)]) (bx0 := updW (fun _ => none) []) rfl rfl (by kernel_rfl) ⟨p, ⟨hne, hf⟩, hr⟩
 exact lim_run (k := k) rfl hk
def hansomref04_Row_Q (op_ : Int) (reg_ : Int) (r : (Row × Bool)) (p : Out × St) : Prop := (∀ i, p.1 ≠ .exit i) ∧ finF F31 [.d (.int .u8 op_), .d (.int .i64 reg_)] p.2 = some (.tup [.d (Row.d r.1), .d (.bool r.2)], [.d (.int .u8 op_), .d (.int .i64 reg_)])
theorem hansomref04_Row_ok (op_ : Int) (reg_ : Int) (r : (Row × Bool)) (h : hansomref04_Row op_ reg_ = some r) : Runs L F31.body ⟨tmOf [.d (.int .u8 op_), .d (.int .i64 reg_)] 0, updW (fun _ => none) []⟩ (hansomref04_Row_Q op_ reg_ r) := by
 unfold hansomref04_Row at h
 refine Sq <| Ro <| Rc 2 [⟨.ptr [4] 0 0, [([4], some (.cells [.d (.int .i64 0), .d (.int .i64 0), .d (.int .i64 0), .d (.bool false)] 0))]⟩, ⟨.d (.bool false), []⟩] <| Rd <| kS_nrm <| Sq <| Ro <| Rc 2 [⟨.d (.int .u8 op_), []⟩, ⟨.d (.int .i64 reg_), []⟩] ?_
 obtain ⟨r_1, hr_1, h⟩ := bind_s h
 have hc_1 := hansomref04_Entry_L op_ reg_ r_1 hr_1
 refine Rt (some 10) (.callf 45) [] none [.d (.int .u8 op_), .d (.int .i64 reg_)] (.d (.str r_1)) [] (cut_call (call_of (ws := []) (us := []) (by kernel_rfl) (by kernel_rfl) hc_1 (by kernel_rfl) (by kernel_rfl))) <| Rc 1 [⟨.d (.str r_1), []⟩] <| Rd <| kS_nrm <| Sq <| Sq <| Ro <| Rc 3 [⟨.d (.str r_1), []⟩, ⟨.d (.bool (r_1 == ([45] : List UInt8))), []⟩, ⟨.d (.bool (r_1 == ([45] : List UInt8))), []⟩] ?_
 cases hb_1 : ((r_1 == ([45] : List UInt8)) : Bool) with
 | true =>
  replace h := ite_t hb_1 h
  refine Rc 3 [⟨.tup [], []⟩, ⟨.tup [], []⟩, ⟨.d (.bool true), []⟩] <| Rd <| kS_nrm <| Ct <| Sq <| Ro <| Rc 3 [⟨.d (.agg [.int .i64 0, .int .i64 0, .int .i64 0, .bool false]), []⟩, ⟨.tup [], [([4], some (.cells [.d (.int .i64 0), .d (.int .i64 0), .d (.int .i64 0), .d (.bool false)] 0))]⟩, ⟨.d (.bool false), []⟩] <| Rd <| kS_nrm <| Runs.ret <| kS_ret ?_
  obtain rfl := Option.some.inj h
  exact ⟨Out.ret_ne, (by kernel_rfl)⟩
 | false =>
  replace h := ite_f hb_1 h
  refine Rc 3 [⟨.d (.str r_1), []⟩, ⟨.d (.bool (r_1 == ([] : List UInt8))), []⟩, ⟨.d (.bool (r_1 == ([] : List UInt8))), []⟩] <| Rd <| kS_nrm ?_
  cases hb_2 : ((r_1 == ([] : List UInt8)) : Bool) with
  | true =>
   replace h := ite_t hb_2 h
   refine Ct <| Sq <| Ro <| Rc 3 [⟨.d (.agg [.int .i64 0, .int .i64 0, .int .i64 0, .bool false]), []⟩, ⟨.tup [], [([4], some (.cells [.d (.int .i64 0), .d (.int .i64 0), .d (.int .i64 0), .d (.bool false)] 0))]⟩, ⟨.d (.bool false), []⟩] <| Rd <| kS_nrm <| Runs.ret <| kS_ret ?_
   obtain rfl := Option.some.inj h
   exact ⟨Out.ret_ne, (by kernel_rfl)⟩
  | false =>
   replace h := ite_f hb_2 h
   refine Cf <| Runs.skip <| kS_nrm <| Sq <| Ro <| Rc 1 [⟨.d (.str r_1), []⟩] ?_
   obtain ⟨r_2, hr_2, h⟩ := bind_s h
   have hc_2 := hansomref04_part_L r_1 58 0 r_2 hr_2
   refine Rt (some 19) (.callf 47) [] none [.d (.str r_1), .d (.int .u8 58), .d (.int .i64 0)] (.d (.str r_2)) [] (cut_call (call_of (ws := []) (us := []) (by kernel_rfl) (by kernel_rfl) hc_2 (by kernel_rfl) (by kernel_rfl))) ?_
   obtain ⟨r_3, hr_3, h⟩ := bind_s h
   have hc_3 := hansomref04_Find_L r_2 r_3 hr_3
   refine Rt (some 20) (.callf 46) [] none [.d (.str r_2)] (.d (.int .i64 r_3)) [] (cut_call (call_of (ws := []) (us := []) (by kernel_rfl) (by kernel_rfl) hc_3 (by kernel_rfl) (by kernel_rfl))) <| Rc 1 [⟨.d (.str r_1), []⟩] ?_
   obtain ⟨r_4, hr_4, h⟩ := bind_s h
   have hc_4 := hansomref04_part_L r_1 58 1 r_4 hr_4
   refine Rt (some 22) (.callf 47) [] none [.d (.str r_1), .d (.int .u8 58), .d (.int .i64 1)] (.d (.str r_4)) [] (cut_call (call_of (ws := []) (us := []) (by kernel_rfl) (by kernel_rfl) hc_4 (by kernel_rfl) (by kernel_rfl))) ?_
   obtain ⟨r_5, hr_5, h⟩ := bind_s h
   have hc_5 := hansomref04_find_L ([69, 98, 32, 69, 118, 32, 71, 98, 32, 71, 118, 32, 83, 119, 32, 73, 98, 32, 73, 118, 32, 73, 115, 32, 74, 98, 32, 74, 118, 32, 65, 112, 32, 79, 98, 32, 79, 118, 32, 65, 76, 32, 67, 76, 32, 65, 88, 32, 68, 88, 32, 79, 110, 101, 32, 77, 112, 32, 77, 32, 90, 98, 32, 90, 118, 32, 90, 115, 32, 84, 104, 114, 101, 101, 32] : List UInt8) r_4 r_5 hr_5
   refine Rt (some 23) (.callf 48) [] none [.d (.str ([69, 98, 32, 69, 118, 32, 71, 98, 32, 71, 118, 32, 83, 119, 32, 73, 98, 32, 73, 118, 32, 73, 115, 32, 74, 98, 32, 74, 118, 32, 65, 112, 32, 79, 98, 32, 79, 118, 32, 65, 76, 32, 67, 76, 32, 65, 88, 32, 68, 88, 32, 79, 110, 101, 32, 77, 112, 32, 77, 32, 90, 98, 32, 90, 118, 32, 90, 115, 32, 84, 104, 114, 101, 101, 32] : List UInt8)), .d (.str r_4)] (.d (.int .i64 r_5)) [] (cut_call (call_of (ws := []) (us := []) (by kernel_rfl) (by kernel_rfl) hc_5 (by kernel_rfl) (by kernel_rfl))) <| Rc 1 [⟨.d (.str r_1), []⟩] ?_
   obtain ⟨r_6, hr_6, h⟩ := bind_s h
   have hc_6 := hansomref04_part_L r_1 58 2 r_6 hr_6
   refine Rt (some 25) (.callf 47) [] none [.d (.str r_1), .d (.int .u8 58), .d (.int .i64 2)] (.d (.str r_6)) [] (cut_call (call_of (ws := []) (us := []) (by kernel_rfl) (by kernel_rfl) hc_6 (by kernel_rfl) (by kernel_rfl))) ?_
   obtain ⟨r_7, hr_7, h⟩ := bind_s h
   have hc_7 := hansomref04_find_L ([69, 98, 32, 69, 118, 32, 71, 98, 32, 71, 118, 32, 83, 119, 32, 73, 98, 32, 73, 118, 32, 73, 115, 32, 74, 98, 32, 74, 118, 32, 65, 112, 32, 79, 98, 32, 79, 118, 32, 65, 76, 32, 67, 76, 32, 65, 88, 32, 68, 88, 32, 79, 110, 101, 32, 77, 112, 32, 77, 32, 90, 98, 32, 90, 118, 32, 90, 115, 32, 84, 104, 114, 101, 101, 32] : List UInt8) r_6 r_7 hr_7
   refine Rt (some 26) (.callf 48) [] none [.d (.str ([69, 98, 32, 69, 118, 32, 71, 98, 32, 71, 118, 32, 83, 119, 32, 73, 98, 32, 73, 118, 32, 73, 115, 32, 74, 98, 32, 74, 118, 32, 65, 112, 32, 79, 98, 32, 79, 118, 32, 65, 76, 32, 67, 76, 32, 65, 88, 32, 68, 88, 32, 79, 110, 101, 32, 77, 112, 32, 77, 32, 90, 98, 32, 90, 118, 32, 90, 115, 32, 84, 104, 114, 101, 101, 32] : List UInt8)), .d (.str r_6)] (.d (.int .i64 r_7)) [] (cut_call (call_of (ws := []) (us := []) (by kernel_rfl) (by kernel_rfl) hc_7 (by kernel_rfl) (by kernel_rfl))) <| Rc 3 [⟨.d (.agg [.int .i64 r_3, .int .i64 r_5, .int .i64 r_7, .bool false]), []⟩, ⟨.ptr [7] 0 0, [([7], some (.cells [.d (.int .i64 0), .d (.int .i64 0), .d (.int .i64 0), .d (.bool false)] 0))]⟩, ⟨.tup [], [([7], some (.cells [.d (.int .i64 r_3), .d (.int .i64 r_5), .d (.int .i64 r_7), .d (.bool false)] 0))]⟩] <| Rd <| kS_nrm <| Sq <| Ro <| Rc 2 [⟨.ptr [7] 0 1, []⟩, ⟨.d (.int .i64 r_5), []⟩] ?_
   obtain ⟨r_8, hr_8, h⟩ := bind_s h
   have hc_8 := hansomref04_second_L r_5 r_8 hr_8
   refine Rt (some 30) (.callf 49) [] none [.d (.int .i64 r_5)] (.d (.bool r_8)) [] (cut_call (call_of (ws := []) (us := []) (by kernel_rfl) (by kernel_rfl) hc_8 (by kernel_rfl) (by kernel_rfl))) <| Rc 1 [⟨.d (.bool r_8), []⟩] ?_
   cases hb_3 : (r_8 : Bool) with
   | true =>
    replace h := ite_t hb_3 h
    refine Rc 6 [⟨.tup [], []⟩, ⟨.tup [], []⟩, ⟨.tup [], []⟩, ⟨.d (.bool true), []⟩, ⟨.ptr [7] 0 3, []⟩, ⟨.tup [], [([7], some (.cells [.d (.int .i64 r_3), .d (.int .i64 r_5), .d (.int .i64 r_7), .d (.bool true)] 0))]⟩] <| Rd <| kS_nrm <| Sq <| Ro <| Rc 3 [⟨.d (.agg [.int .i64 r_3, .int .i64 r_5, .int .i64 r_7, .bool true]), []⟩, ⟨.tup [], [([4], some (.cells [.d (.int .i64 r_3), .d (.int .i64 r_5), .d (.int .i64 r_7), .d (.bool true)] 0))]⟩, ⟨.d (.bool true), []⟩] <| Rd <| kS_nrm <| Runs.ret ?_
    obtain rfl := Option.some.inj h
    exact ⟨Out.ret_ne, (by kernel_rfl)⟩
   | false =>
    replace h := ite_f hb_3 h
    refine Rc 2 [⟨.ptr [7] 0 2, []⟩, ⟨.d (.int .i64 r_7), []⟩] ?_
    obtain ⟨r_9, hr_9, h⟩ := bind_s h
    have hc_9 := hansomref04_second_L r_7 r_9 hr_9
    refine Rt (some 34) (.callf 49) [] none [.d (.int .i64 r_7)] (.d (.bool r_9)) [] (cut_call (call_of (ws := []) (us := []) (by kernel_rfl) (by kernel_rfl) hc_9 (by kernel_rfl) (by kernel_rfl))) <| Rc 3 [⟨.d (.bool r_9), []⟩, ⟨.ptr [7] 0 3, []⟩, ⟨.tup [], [([7], some (.cells [.d (.int .i64 r_3), .d (.int .i64 r_5), .d (.int .i64 r_7), .d (.bool r_9)] 0))]⟩] <| Rd <| kS_nrm <| Sq <| Ro <| Rc 3 [⟨.d (.agg [.int .i64 r_3, .int .i64 r_5, .int .i64 r_7, .bool r_9]), []⟩, ⟨.tup [], [([4], some (.cells [.d (.int .i64 r_3), .d (.int .i64 r_5), .d (.int .i64 r_7), .d (.bool r_9)] 0))]⟩, ⟨.d (.bool true), []⟩] <| Rd <| kS_nrm <| Runs.ret ?_
    obtain rfl := Option.some.inj h
    exact ⟨Out.ret_ne, (by kernel_rfl)⟩
theorem hansomref04_Row_L (op_ : Int) (reg_ : Int) (r : (Row × Bool)) (h : hansomref04_Row op_ reg_ = some r) : L 31 [.d (.int .u8 op_), .d (.int .i64 reg_)] = some (.tup [.d (Row.d r.1), .d (.bool r.2)], [.d (.int .u8 op_), .d (.int .i64 reg_)]) := by
 obtain ⟨p, ⟨hne, hf⟩, hr⟩ := hansomref04_Row_ok op_ reg_ r h
 obtain ⟨k, hk⟩ := run_of (F := F31) (args := [.d (.int .u8 op_), .d (.int .i64 reg_)]) (ap := [.d (.int .u8 op_), .d (.int .i64 reg_)]) (bx0 := updW (fun _ => none) []) rfl rfl (by kernel_rfl) ⟨p, ⟨hne, hf⟩, hr⟩
 exact lim_run (k := k) rfl hk
def hansomref05_Row_Q (i_ : Inst) (r : (Row × Bool)) (p : Out × St) : Prop := (∀ i, p.1 ≠ .exit i) ∧ finF F13 [.d (Inst.d i_)] p.2 = some (.tup [.d (Row.d r.1), .d (.bool r.2)], [.d (Inst.d i_)])
theorem hansomref05_Row_ok (i_ : Inst) (r : (Row × Bool)) (h : hansomref05_Row i_ = some r) : Runs L F13.body ⟨tmOf [.d (Inst.d i_)] 0, updW (fun _ => none) []⟩ (hansomref05_Row_Q i_ r) := by
 unfold hansomref05_Row at h
 refine Sq <| Ro <| Rc 3 [⟨.ptr [1] 0 0, [([1], some (.cells [.d (.bool i_.Lock), .d (.int .i64 i_.Rep), .d (.int .i64 i_.Seg), .d (.int .u8 i_.Op), .d (.int .i64 i_.Mod), .d (.int .i64 i_.Reg), .d (.int .i64 i_.RM), .d (.int .u16 i_.Disp), .d (.int .u16 i_.Imm), .d (.int .u16 i_.Sel)] 0))]⟩, ⟨.ptr [2] 0 0, [([2], some (.cells [.d (.int .i64 0), .d (.int .i64 0), .d (.int .i64 0), .d (.bool false)] 0))]⟩, ⟨.d (.bool false), []⟩] <| Rd <| kS_nrm <| Sq <| Sq <| Ro <| Rc 2 [⟨.ptr [1] 0 3, []⟩, ⟨.d (.int .u8 i_.Op), []⟩] ?_
 obtain ⟨r_1, hr_1, h⟩ := bind_s h
 have hc_1 := hansomref05_prefix_L i_.Op r_1 hr_1
 refine Rt (some 6) (.callf 30) [] none [.d (.int .u8 i_.Op)] (.d (.bool r_1)) [] (cut_call (call_of (ws := []) (us := []) (by kernel_rfl) (by kernel_rfl) hc_1 (by kernel_rfl) (by kernel_rfl))) <| Rd <| kS_nrm ?_
 cases hb_1 : (r_1 : Bool) with
 | true =>
  replace h := ite_t hb_1 h
  refine Ct <| Sq <| Ro <| Rc 3 [⟨.d (.agg [.int .i64 0, .int .i64 0, .int .i64 0, .bool false]), []⟩, ⟨.tup [], [([2], some (.cells [.d (.int .i64 0), .d (.int .i64 0), .d (.int .i64 0), .d (.bool false)] 0))]⟩, ⟨.d (.bool false), []⟩] <| Rd <| kS_nrm <| Runs.ret <| kS_ret ?_
  obtain rfl := Option.some.inj h
  exact ⟨Out.ret_ne, (by kernel_rfl)⟩
 | false =>
  replace h := ite_f hb_1 h
  refine Cf <| Runs.skip <| kS_nrm <| Sq <| Ro <| Rc 4 [⟨.ptr [1] 0 3, []⟩, ⟨.d (.int .u8 i_.Op), []⟩, ⟨.ptr [1] 0 5, []⟩, ⟨.d (.int .i64 i_.Reg), []⟩] ?_
  obtain ⟨r_2, hr_2, h⟩ := bind_s h
  have hc_2 := hansomref04_Row_L i_.Op i_.Reg r_2 hr_2
  refine Rt (some 12) (.callf 31) [] none [.d (.int .u8 i_.Op), .d (.int .i64 i_.Reg)] (.tup [.d (Row.d r_2.1), .d (.bool r_2.2)]) [] (cut_call (call_of (ws := []) (us := []) (by kernel_rfl) (by kernel_rfl) hc_2 (by kernel_rfl) (by kernel_rfl))) <| Rc 4 [⟨.d (Row.d r_2.1), []⟩, ⟨.d (.bool r_2.2), []⟩, ⟨.tup [], [([2], some (.cells [.d (.int .i64 r_2.1.Name), .d (.int .i64 r_2.1.A), .d (.int .i64 r_2.1.B), .d (.bool r_2.1.Mod)] 0))]⟩, ⟨.d (.bool r_2.2), []⟩] <| Rd <| kS_nrm <| Runs.ret ?_
  obtain rfl := Option.some.inj h
  exact ⟨Out.ret_ne, (by kernel_rfl)⟩
theorem hansomref05_Row_L (i_ : Inst) (r : (Row × Bool)) (h : hansomref05_Row i_ = some r) : L 13 [.d (Inst.d i_)] = some (.tup [.d (Row.d r.1), .d (.bool r.2)], [.d (Inst.d i_)]) := by
 obtain ⟨p, ⟨hne, hf⟩, hr⟩ := hansomref05_Row_ok i_ r h
 obtain ⟨k, hk⟩ := run_of (F := F13) (args := [.d (Inst.d i_)]) (ap := [.d (Inst.d i_)]) (bx0 := updW (fun _ => none) []) rfl rfl (by kernel_rfl) ⟨p, ⟨hne, hf⟩, hr⟩
 exact lim_run (k := k) rfl hk
def hansomref04_Bytes_h16 (t3 : Int) (t4 : Bool) : St := ⟨tab [(3, .d (.int .i64 t3)), (4, .d (.bool t4))], tabB []⟩
def hansomref04_Bytes_Q (k_ : Int) (r : Int) (p : Out × St) : Prop := (∀ i, p.1 ≠ .exit i) ∧ finF F19 [.d (.int .i64 k_)] p.2 = some (.d (.int .i64 r), [.d (.int .i64 k_)])
theorem hansomref04_Bytes_j16_ok (k_ : Int) (t3 : Int) (t4 : Bool) (r : Int) (h : hansomref04_Bytes_j16 t3 t4 = some r) : Runs L F19b16 (hansomref04_Bytes_h16 t3 t4) (kB 0 (kS L F19c45 (hansomref04_Bytes_Q k_ r))) := by
 unfold hansomref04_Bytes_j16 at h
 cases hb_2 : (t4 : Bool) with
 | true =>
  replace h := ite_t hb_2 h
  refine Ct <| Sq <| Ro <| Rc 1 [⟨.d (.int .i64 1), []⟩] <| Rd <| kS_nrm <| Runs.ret <| kB_ret <| kS_ret ?_
  obtain rfl := Option.some.inj h
  exact ⟨Out.ret_ne, (by kernel_rfl)⟩
 | false =>
  replace h := ite_f hb_2 h
  refine Cf <| Sq <| Sq <| Ro <| Rc 2 [⟨.d (.bool (t3 == 7)), []⟩, ⟨.d (.bool (t3 == 7)), []⟩] <| Rd <| kS_nrm ?_
  cases hb_3 : ((t3 == 7) : Bool) with
  | true =>
   replace h := ite_t hb_3 h
   refine Ct <| Runs.skip <| kS_nrm <| Ct <| Sq <| Ro <| Rc 1 [⟨.d (.int .i64 2), []⟩] <| Rd <| kS_nrm <| Runs.ret <| kB_ret <| kS_ret ?_
   obtain rfl := Option.some.inj h
   exact ⟨Out.ret_ne, (by kernel_rfl)⟩
  | false =>
   replace h := ite_f hb_3 h
   refine Cf <| Sq <| Ro <| Rc 2 [⟨.d (.bool (t3 == 10)), []⟩, ⟨.d (.bool (t3 == 10)), []⟩] <| Rd <| kS_nrm ?_
   cases hb_4 : ((t3 == 10) : Bool) with
   | true =>
    replace h := ite_t hb_4 h
    refine Ct <| Runs.skip <| kS_nrm <| Ct <| Sq <| Ro <| Rc 1 [⟨.d (.int .i64 2), []⟩] <| Rd <| kS_nrm <| Runs.ret <| kB_ret <| kS_ret ?_
    obtain rfl := Option.some.inj h
    exact ⟨Out.ret_ne, (by kernel_rfl)⟩
   | false =>
    replace h := ite_f hb_4 h
    refine Cf <| Sq <| Ro <| Rc 2 [⟨.d (.bool (t3 == 12)), []⟩, ⟨.d (.bool (t3 == 12)), []⟩] <| Rd <| kS_nrm ?_
    cases hb_5 : ((t3 == 12) : Bool) with
    | true =>
     replace h := ite_t hb_5 h
     refine Ct <| Runs.skip <| kS_nrm <| Ct <| Sq <| Ro <| Rc 1 [⟨.d (.int .i64 2), []⟩] <| Rd <| kS_nrm <| Runs.ret <| kB_ret <| kS_ret ?_
     obtain rfl := Option.some.inj h
     exact ⟨Out.ret_ne, (by kernel_rfl)⟩
    | false =>
     replace h := ite_f hb_5 h
     refine Cf <| Ro <| Rc 2 [⟨.d (.bool (t3 == 13)), []⟩, ⟨.d (.bool (t3 == 13)), []⟩] <| Rd <| kS_nrm ?_
     cases hb_6 : ((t3 == 13) : Bool) with
     | true =>
      replace h := ite_t hb_6 h
      refine Ct <| Sq <| Ro <| Rc 1 [⟨.d (.int .i64 2), []⟩] <| Rd <| kS_nrm <| Runs.ret <| kB_ret <| kS_ret ?_
      obtain rfl := Option.some.inj h
      exact ⟨Out.ret_ne, (by kernel_rfl)⟩
     | false =>
      replace h := ite_f hb_6 h
      refine Cf <| Sq <| Ro <| Rc 2 [⟨.d (.bool (t3 == 11)), []⟩, ⟨.d (.bool (t3 == 11)), []⟩] <| Rd <| kS_nrm ?_
      cases hb_7 : ((t3 == 11) : Bool) with
      | true =>
       replace h := ite_t hb_7 h
       refine Ct <| Sq <| Ro <| Rc 1 [⟨.d (.int .i64 4), []⟩] <| Rd <| kS_nrm <| Runs.ret <| kB_ret <| kS_ret ?_
       obtain rfl := Option.some.inj h
       exact ⟨Out.ret_ne, (by kernel_rfl)⟩
      | false =>
       replace h := ite_f hb_7 h
       refine Cf <| Runs.skip <| kB_nrm <| kS_nrm <| Sq <| Ro <| Rc 1 [⟨.d (.int .i64 0), []⟩] <| Rd <| kS_nrm <| Runs.ret ?_
       obtain rfl := Option.some.inj h
       exact ⟨Out.ret_ne, (by kernel_rfl)⟩
theorem hansomref04_Bytes_ok (k_ : Int) (r : Int) (h : hansomref04_Bytes k_ = some r) : Runs L F19.body ⟨tmOf [.d (.int .i64 k_)] 0, updW (fun _ => none) []⟩ (hansomref04_Bytes_Q k_ r) := by
 unfold hansomref04_Bytes at h
 refine Sq <| Ro <| Rc 1 [⟨.d (.int .i64 0), []⟩] <| Rd <| kS_nrm <| Sq <| Sq <| Ro <| Rc 1 [⟨.d (.int .i64 k_), []⟩] <| Rd <| kS_nrm <| Runs.block <| Sq <| Sq <| Ro <| Rc 2 [⟨.d (.bool (k_ == 6)), []⟩, ⟨.d (.bool (k_ == 6)), []⟩] <| Rd <| kS_nrm ?_
 cases hb_1 : ((k_ == 6) : Bool) with
 | true =>
  replace h := ite_t hb_1 h
  refine Ct <| Runs.skip <| kS_nrm <| Runs.canon (hansomref04_Bytes_h16 k_ true) (Canon.nil (by kernel_rfl)) ?_
  exact hansomref04_Bytes_j16_ok k_ k_ true r h
 | false =>
  replace h := ite_f hb_1 h
  refine Cf <| Sq <| Ro <| Rc 2 [⟨.d (.bool (k_ == 8)), []⟩, ⟨.d (.bool (k_ == 8)), []⟩] <| Rd <| kS_nrm ?_
  cases hb_8 : ((k_ == 8) : Bool) with
  | true =>
   replace h := ite_t hb_8 h
   refine Ct <| Runs.skip <| kS_nrm <| Runs.canon (hansomref04_Bytes_h16 k_ true) (Canon.nil (by kernel_rfl)) ?_
   exact hansomref04_Bytes_j16_ok k_ k_ true r h
  | false =>
   replace h := ite_f hb_8 h
   refine Cf <| Ro <| Rc 2 [⟨.d (.bool (k_ == 9)), []⟩, ⟨.d (.bool (k_ == 9)), []⟩] <| Rd <| kS_nrm <| Runs.canon (hansomref04_Bytes_h16 k_ (k_ == 9)) (Canon.nil (by kernel_rfl)) ?_
   exact hansomref04_Bytes_j16_ok k_ k_ (k_ == 9) r h
theorem hansomref04_Bytes_L (k_ : Int) (r : Int) (h : hansomref04_Bytes k_ = some r) : L 19 [.d (.int .i64 k_)] = some (.d (.int .i64 r), [.d (.int .i64 k_)]) := by
 obtain ⟨p, ⟨hne, hf⟩, hr⟩ := hansomref04_Bytes_ok k_ r h
 obtain ⟨k, hk⟩ := run_of (F := F19) (args := [.d (.int .i64 k_)]) (ap := [.d (.int .i64 k_)]) (bx0 := updW (fun _ => none) []) rfl rfl (by kernel_rfl) ⟨p, ⟨hne, hf⟩, hr⟩
 exact lim_run (k := k) rfl hk
def hansomref04_Name_Q (n_ : Int) (r : (List UInt8)) (p : Out × St) : Prop := (∀ i, p.1 ≠ .exit i) ∧ finF F38 [.d (.int .i64 n_)] p.2 = some (.d (.str r), [.d (.int .i64 n_)])
theorem hansomref04_Name_ok (n_ : Int) (r : (List UInt8)) (h : hansomref04_Name n_ = some r) : Runs L F38.body ⟨tmOf [.d (.int .i64 n_)] 0, updW (fun _ => none) []⟩ (hansomref04_Name_Q n_ r) := by
 unfold hansomref04_Name at h
 refine Sq <| Ro <| Rc 1 [⟨.d (.str ([] : List UInt8)), []⟩] <| Rd <| kS_nrm <| Sq <| Sq <| Ro <| Rc 3 [⟨.d (.int .i64 n_), []⟩, ⟨.d (.bool (decide (n_ < 1))), []⟩, ⟨.d (.bool (decide (n_ < 1))), []⟩] ?_
 cases hb_1 : ((decide (n_ < 1)) : Bool) with
 | true =>
  replace h := ite_t hb_1 h
  refine Rc 3 [⟨.tup [], []⟩, ⟨.tup [], []⟩, ⟨.d (.bool true), []⟩] <| Rd <| kS_nrm <| Ct <| Sq <| Ro <| Rc 1 [⟨.d (.str ([63] : List UInt8)), []⟩] <| Rd <| kS_nrm <| Runs.ret <| kS_ret ?_
  obtain rfl := Option.some.inj h
  exact ⟨Out.ret_ne, (by kernel_rfl)⟩
 | false =>
  replace h := ite_f hb_1 h
  refine Rc 3 [⟨.d (.int .i64 n_), []⟩, ⟨.d (.bool (decide (n_ > 95))), []⟩, ⟨.d (.bool (decide (n_ > 95))), []⟩] <| Rd <| kS_nrm ?_
  cases hb_2 : ((decide (n_ > 95)) : Bool) with
  | true =>
   replace h := ite_t hb_2 h
   refine Ct <| Sq <| Ro <| Rc 1 [⟨.d (.str ([63] : List UInt8)), []⟩] <| Rd <| kS_nrm <| Runs.ret <| kS_ret ?_
   obtain rfl := Option.some.inj h
   exact ⟨Out.ret_ne, (by kernel_rfl)⟩
  | false =>
   replace h := ite_f hb_2 h
   refine Cf <| Runs.skip <| kS_nrm <| Sq <| Ro <| Rc 2 [⟨.d (.int .i64 n_), []⟩, ⟨.d (.int .i64 (IntKind.wrap .i64 (n_ - 1))), []⟩] ?_
   obtain ⟨r_1, hr_1, h⟩ := bind_s h
   have hc_1 := hansomref04_word_L ([65, 68, 68, 32, 79, 82, 32, 65, 68, 67, 32, 83, 66, 66, 32, 65, 78, 68, 32, 83, 85, 66, 32, 88, 79, 82, 32, 67, 77, 80, 32, 80, 85, 83, 72, 32, 80, 79, 80, 32, 68, 65, 65, 32, 68, 65, 83, 32, 65, 65, 65, 32, 65, 65, 83, 32, 73, 78, 67, 32, 68, 69, 67, 32, 74, 79, 32, 74, 78, 79, 32, 74, 66, 32, 74, 78, 66, 32, 74, 90, 32, 74, 78, 90, 32, 74, 66, 69, 32, 74, 65, 32, 74, 83, 32, 74, 78, 83, 32, 74, 80, 32, 74, 78, 80, 32, 74, 76, 32, 74, 71, 69, 32, 74, 76, 69, 32, 74, 71, 32, 84, 69, 83, 84, 32, 88, 67, 72, 71, 32, 77, 79, 86, 32, 76, 69, 65, 32, 67, 66, 87, 32, 67, 87, 68, 32, 67, 65, 76, 76, 32, 67, 65, 76, 76, 70, 32, 87, 65, 73, 84, 32, 80, 85, 83, 72, 70, 32, 80, 79, 80, 70, 32, 83, 65, 72, 70, 32, 76, 65, 72, 70, 32, 77, 79, 86, 83, 66, 32, 77, 79, 86, 83, 87, 32, 67, 77, 80, 83, 66, 32, 67, 77, 80, 83, 87, 32, 83, 84, 79, 83, 66, 32, 83, 84, 79, 83, 87, 32, 76, 79, 68, 83, 66, 32, 76, 79, 68, 83, 87, 32, 83, 67, 65, 83, 66, 32, 83, 67, 65, 83, 87, 32, 82, 69, 84, 32, 82, 69, 84, 70, 32, 76, 69, 83, 32, 76, 68, 83, 32, 73, 78, 84, 32, 73, 78, 84, 79, 32, 73, 82, 69, 84, 32, 82, 79, 76, 32, 82, 79, 82, 32, 82, 67, 76, 32, 82, 67, 82, 32, 83, 72, 76, 32, 83, 72, 82, 32, 83, 65, 82, 32, 65, 65, 77, 32, 65, 65, 68, 32, 88, 76, 65, 84, 32, 69, 83, 67, 32, 76, 79, 79, 80, 78, 90, 32, 76, 79, 79, 80, 90, 32, 76, 79, 79, 80, 32, 74, 67, 88, 90, 32, 73, 78, 32, 79, 85, 84, 32, 74, 77, 80, 32, 74, 77, 80, 70, 32, 72, 76, 84, 32, 67, 77, 67, 32, 78, 79, 84, 32, 78, 69, 71, 32, 77, 85, 76, 32, 73, 77, 85, 76, 32, 68, 73, 86, 32, 73, 68, 73, 86, 32, 67, 76, 67, 32, 83, 84, 67, 32, 67, 76, 73, 32, 83, 84, 73, 32, 67, 76, 68, 32, 83, 84, 68, 32] : List UInt8) (IntKind.wrap .i64 (n_ - 1)) r_1 hr_1
   refine Rt (some 11) (.callf 51) [] none [.d (.str ([65, 68, 68, 32, 79, 82, 32, 65, 68, 67, 32, 83, 66, 66, 32, 65, 78, 68, 32, 83, 85, 66, 32, 88, 79, 82, 32, 67, 77, 80, 32, 80, 85, 83, 72, 32, 80, 79, 80, 32, 68, 65, 65, 32, 68, 65, 83, 32, 65, 65, 65, 32, 65, 65, 83, 32, 73, 78, 67, 32, 68, 69, 67, 32, 74, 79, 32, 74, 78, 79, 32, 74, 66, 32, 74, 78, 66, 32, 74, 90, 32, 74, 78, 90, 32, 74, 66, 69, 32, 74, 65, 32, 74, 83, 32, 74, 78, 83, 32, 74, 80, 32, 74, 78, 80, 32, 74, 76, 32, 74, 71, 69, 32, 74, 76, 69, 32, 74, 71, 32, 84, 69, 83, 84, 32, 88, 67, 72, 71, 32, 77, 79, 86, 32, 76, 69, 65, 32, 67, 66, 87, 32, 67, 87, 68, 32, 67, 65, 76, 76, 32, 67, 65, 76, 76, 70, 32, 87, 65, 73, 84, 32, 80, 85, 83, 72, 70, 32, 80, 79, 80, 70, 32, 83, 65, 72, 70, 32, 76, 65, 72, 70, 32, 77, 79, 86, 83, 66, 32, 77, 79, 86, 83, 87, 32, 67, 77, 80, 83, 66, 32, 67, 77, 80, 83, 87, 32, 83, 84, 79, 83, 66, 32, 83, 84, 79, 83, 87, 32, 76, 79, 68, 83, 66, 32, 76, 79, 68, 83, 87, 32, 83, 67, 65, 83, 66, 32, 83, 67, 65, 83, 87, 32, 82, 69, 84, 32, 82, 69, 84, 70, 32, 76, 69, 83, 32, 76, 68, 83, 32, 73, 78, 84, 32, 73, 78, 84, 79, 32, 73, 82, 69, 84, 32, 82, 79, 76, 32, 82, 79, 82, 32, 82, 67, 76, 32, 82, 67, 82, 32, 83, 72, 76, 32, 83, 72, 82, 32, 83, 65, 82, 32, 65, 65, 77, 32, 65, 65, 68, 32, 88, 76, 65, 84, 32, 69, 83, 67, 32, 76, 79, 79, 80, 78, 90, 32, 76, 79, 79, 80, 90, 32, 76, 79, 79, 80, 32, 74, 67, 88, 90, 32, 73, 78, 32, 79, 85, 84, 32, 74, 77, 80, 32, 74, 77, 80, 70, 32, 72, 76, 84, 32, 67, 77, 67, 32, 78, 79, 84, 32, 78, 69, 71, 32, 77, 85, 76, 32, 73, 77, 85, 76, 32, 68, 73, 86, 32, 73, 68, 73, 86, 32, 67, 76, 67, 32, 83, 84, 67, 32, 67, 76, 73, 32, 83, 84, 73, 32, 67, 76, 68, 32, 83, 84, 68, 32] : List UInt8)), .d (.int .i64 (IntKind.wrap .i64 (n_ - 1)))] (.d (.str r_1)) [] (cut_call (call_of (ws := []) (us := []) (by kernel_rfl) (by kernel_rfl) hc_1 (by kernel_rfl) (by kernel_rfl))) ?_
   refine Rc 1 [⟨.d (.str r_1), []⟩] <| Rd <| kS_nrm <| Runs.ret ?_
   obtain rfl := Option.some.inj h
   exact ⟨Out.ret_ne, (by kernel_rfl)⟩
theorem hansomref04_Name_L (n_ : Int) (r : (List UInt8)) (h : hansomref04_Name n_ = some r) : L 38 [.d (.int .i64 n_)] = some (.d (.str r), [.d (.int .i64 n_)]) := by
 obtain ⟨p, ⟨hne, hf⟩, hr⟩ := hansomref04_Name_ok n_ r h
 obtain ⟨k, hk⟩ := run_of (F := F38) (args := [.d (.int .i64 n_)]) (ap := [.d (.int .i64 n_)]) (bx0 := updW (fun _ => none) []) rfl rfl (by kernel_rfl) ⟨p, ⟨hne, hf⟩, hr⟩
 exact lim_run (k := k) rfl hk
def hansomref04_Repeats_h28 (t4 : (List UInt8)) (t5 : Bool) : St := ⟨tab [(4, .d (.str t4)), (5, .d (.bool t5))], tabB []⟩
def hansomref04_Repeats_Q (n_ : Int) (r : Int) (p : Out × St) : Prop := (∀ i, p.1 ≠ .exit i) ∧ finF F20 [.d (.int .i64 n_)] p.2 = some (.d (.int .i64 r), [.d (.int .i64 n_)])
theorem hansomref04_Repeats_j28_ok (n_ : Int) (t4 : (List UInt8)) (t5 : Bool) (r : Int) (h : hansomref04_Repeats_j28 t4 t5 = some r) : Runs L F20b28 (hansomref04_Repeats_h28 t4 t5) (kB 0 (kS L F20c51 (hansomref04_Repeats_Q n_ r))) := by
 unfold hansomref04_Repeats_j28 at h
 cases hb_2 : (t5 : Bool) with
 | true =>
  replace h := ite_t hb_2 h
  refine Ct <| Sq <| Ro <| Rc 1 [⟨.d (.int .i64 1), []⟩] <| Rd <| kS_nrm <| Runs.ret <| kB_ret <| kS_ret ?_
  obtain rfl := Option.some.inj h
  exact ⟨Out.ret_ne, (by kernel_rfl)⟩
 | false =>
  replace h := ite_f hb_2 h
  refine Cf <| Sq <| Sq <| Ro <| Rc 2 [⟨.d (.bool (t4 == ([67, 77, 80, 83, 66] : List UInt8))), []⟩, ⟨.d (.bool (t4 == ([67, 77, 80, 83, 66] : List UInt8))), []⟩] <| Rd <| kS_nrm ?_
  cases hb_3 : ((t4 == ([67, 77, 80, 83, 66] : List UInt8)) : Bool) with
  | true =>
   replace h := ite_t hb_3 h
   refine Ct <| Runs.skip <| kS_nrm <| Ct <| Sq <| Ro <| Rc 1 [⟨.d (.int .i64 2), []⟩] <| Rd <| kS_nrm <| Runs.ret <| kB_ret <| kS_ret ?_
   obtain rfl := Option.some.inj h
   exact ⟨Out.ret_ne, (by kernel_rfl)⟩
  | false =>
   replace h := ite_f hb_3 h
   refine Cf <| Sq <| Ro <| Rc 2 [⟨.d (.bool (t4 == ([67, 77, 80, 83, 87] : List UInt8))), []⟩, ⟨.d (.bool (t4 == ([67, 77, 80, 83, 87] : List UInt8))), []⟩] <| Rd <| kS_nrm ?_
   cases hb_4 : ((t4 == ([67, 77, 80, 83, 87] : List UInt8)) : Bool) with
   | true =>
    replace h := ite_t hb_4 h
    refine Ct <| Runs.skip <| kS_nrm <| Ct <| Sq <| Ro <| Rc 1 [⟨.d (.int .i64 2), []⟩] <| Rd <| kS_nrm <| Runs.ret <| kB_ret <| kS_ret ?_
    obtain rfl := Option.some.inj h
    exact ⟨Out.ret_ne, (by kernel_rfl)⟩
   | false =>
    replace h := ite_f hb_4 h
    refine Cf <| Sq <| Ro <| Rc 2 [⟨.d (.bool (t4 == ([83, 67, 65, 83, 66] : List UInt8))), []⟩, ⟨.d (.bool (t4 == ([83, 67, 65, 83, 66] : List UInt8))), []⟩] <| Rd <| kS_nrm ?_
    cases hb_5 : ((t4 == ([83, 67, 65, 83, 66] : List UInt8)) : Bool) with
    | true =>
     replace h := ite_t hb_5 h
     refine Ct <| Runs.skip <| kS_nrm <| Ct <| Sq <| Ro <| Rc 1 [⟨.d (.int .i64 2), []⟩] <| Rd <| kS_nrm <| Runs.ret <| kB_ret <| kS_ret ?_
     obtain rfl := Option.some.inj h
     exact ⟨Out.ret_ne, (by kernel_rfl)⟩
    | false =>
     replace h := ite_f hb_5 h
     refine Cf <| Ro <| Rc 2 [⟨.d (.bool (t4 == ([83, 67, 65, 83, 87] : List UInt8))), []⟩, ⟨.d (.bool (t4 == ([83, 67, 65, 83, 87] : List UInt8))), []⟩] <| Rd <| kS_nrm ?_
     cases hb_6 : ((t4 == ([83, 67, 65, 83, 87] : List UInt8)) : Bool) with
     | true =>
      replace h := ite_t hb_6 h
      refine Ct <| Sq <| Ro <| Rc 1 [⟨.d (.int .i64 2), []⟩] <| Rd <| kS_nrm <| Runs.ret <| kB_ret <| kS_ret ?_
      obtain rfl := Option.some.inj h
      exact ⟨Out.ret_ne, (by kernel_rfl)⟩
     | false =>
      replace h := ite_f hb_6 h
      refine Cf <| Runs.skip <| kB_nrm <| kS_nrm <| Sq <| Ro <| Rc 1 [⟨.d (.int .i64 0), []⟩] <| Rd <| kS_nrm <| Runs.ret ?_
      obtain rfl := Option.some.inj h
      exact ⟨Out.ret_ne, (by kernel_rfl)⟩
theorem hansomref04_Repeats_ok (n_ : Int) (r : Int) (h : hansomref04_Repeats n_ = some r) : Runs L F20.body ⟨tmOf [.d (.int .i64 n_)] 0, updW (fun _ => none) []⟩ (hansomref04_Repeats_Q n_ r) := by
 unfold hansomref04_Repeats at h
 refine Sq <| Ro <| Rc 1 [⟨.d (.int .i64 0), []⟩] <| Rd <| kS_nrm <| Sq <| Sq <| Ro <| Rc 1 [⟨.d (.int .i64 n_), []⟩] ?_
 obtain ⟨r_1, hr_1, h⟩ := bind_s h
 have hc_1 := hansomref04_Name_L n_ r_1 hr_1
 refine Rt (some 4) (.callf 38) [] none [.d (.int .i64 n_)] (.d (.str r_1)) [] (cut_call (call_of (ws := []) (us := []) (by kernel_rfl) (by kernel_rfl) hc_1 (by kernel_rfl) (by kernel_rfl))) <| Rd <| kS_nrm <| Runs.block <| Sq <| Sq <| Ro <| Rc 2 [⟨.d (.bool (r_1 == ([77, 79, 86, 83, 66] : List UInt8))), []⟩, ⟨.d (.bool (r_1 == ([77, 79, 86, 83, 66] : List UInt8))), []⟩] <| Rd <| kS_nrm ?_
 cases hb_1 : ((r_1 == ([77, 79, 86, 83, 66] : List UInt8)) : Bool) with
 | true =>
  replace h := ite_t hb_1 h
  refine Ct <| Runs.skip <| kS_nrm <| Runs.canon (hansomref04_Repeats_h28 r_1 true) (Canon.nil (by kernel_rfl)) ?_
  exact hansomref04_Repeats_j28_ok n_ r_1 true r h
 | false =>
  replace h := ite_f hb_1 h
  refine Cf <| Sq <| Ro <| Rc 2 [⟨.d (.bool (r_1 == ([77, 79, 86, 83, 87] : List UInt8))), []⟩, ⟨.d (.bool (r_1 == ([77, 79, 86, 83, 87] : List UInt8))), []⟩] <| Rd <| kS_nrm ?_
  cases hb_7 : ((r_1 == ([77, 79, 86, 83, 87] : List UInt8)) : Bool) with
  | true =>
   replace h := ite_t hb_7 h
   refine Ct <| Runs.skip <| kS_nrm <| Runs.canon (hansomref04_Repeats_h28 r_1 true) (Canon.nil (by kernel_rfl)) ?_
   exact hansomref04_Repeats_j28_ok n_ r_1 true r h
  | false =>
   replace h := ite_f hb_7 h
   refine Cf <| Sq <| Ro <| Rc 2 [⟨.d (.bool (r_1 == ([83, 84, 79, 83, 66] : List UInt8))), []⟩, ⟨.d (.bool (r_1 == ([83, 84, 79, 83, 66] : List UInt8))), []⟩] <| Rd <| kS_nrm ?_
   cases hb_8 : ((r_1 == ([83, 84, 79, 83, 66] : List UInt8)) : Bool) with
   | true =>
    replace h := ite_t hb_8 h
    refine Ct <| Runs.skip <| kS_nrm <| Runs.canon (hansomref04_Repeats_h28 r_1 true) (Canon.nil (by kernel_rfl)) ?_
    exact hansomref04_Repeats_j28_ok n_ r_1 true r h
   | false =>
    replace h := ite_f hb_8 h
    refine Cf <| Sq <| Ro <| Rc 2 [⟨.d (.bool (r_1 == ([83, 84, 79, 83, 87] : List UInt8))), []⟩, ⟨.d (.bool (r_1 == ([83, 84, 79, 83, 87] : List UInt8))), []⟩] <| Rd <| kS_nrm ?_
    cases hb_9 : ((r_1 == ([83, 84, 79, 83, 87] : List UInt8)) : Bool) with
    | true =>
     replace h := ite_t hb_9 h
     refine Ct <| Runs.skip <| kS_nrm <| Runs.canon (hansomref04_Repeats_h28 r_1 true) (Canon.nil (by kernel_rfl)) ?_
     exact hansomref04_Repeats_j28_ok n_ r_1 true r h
    | false =>
     replace h := ite_f hb_9 h
     refine Cf <| Sq <| Ro <| Rc 2 [⟨.d (.bool (r_1 == ([76, 79, 68, 83, 66] : List UInt8))), []⟩, ⟨.d (.bool (r_1 == ([76, 79, 68, 83, 66] : List UInt8))), []⟩] <| Rd <| kS_nrm ?_
     cases hb_10 : ((r_1 == ([76, 79, 68, 83, 66] : List UInt8)) : Bool) with
     | true =>
      replace h := ite_t hb_10 h
      refine Ct <| Runs.skip <| kS_nrm <| Runs.canon (hansomref04_Repeats_h28 r_1 true) (Canon.nil (by kernel_rfl)) ?_
      exact hansomref04_Repeats_j28_ok n_ r_1 true r h
     | false =>
      replace h := ite_f hb_10 h
      refine Cf <| Ro <| Rc 2 [⟨.d (.bool (r_1 == ([76, 79, 68, 83, 87] : List UInt8))), []⟩, ⟨.d (.bool (r_1 == ([76, 79, 68, 83, 87] : List UInt8))), []⟩] <| Rd <| kS_nrm <| Runs.canon (hansomref04_Repeats_h28 r_1 (r_1 == ([76, 79, 68, 83, 87] : List UInt8))) (Canon.nil (by kernel_rfl)) ?_
      exact hansomref04_Repeats_j28_ok n_ r_1 (r_1 == ([76, 79, 68, 83, 87] : List UInt8)) r h
theorem hansomref04_Repeats_L (n_ : Int) (r : Int) (h : hansomref04_Repeats n_ = some r) : L 20 [.d (.int .i64 n_)] = some (.d (.int .i64 r), [.d (.int .i64 n_)]) := by
 obtain ⟨p, ⟨hne, hf⟩, hr⟩ := hansomref04_Repeats_ok n_ r h
 obtain ⟨k, hk⟩ := run_of (F := F20) (args := [.d (.int .i64 n_)]) (ap := [.d (.int .i64 n_)]) (bx0 := updW (fun _ => none) []) rfl rfl (by kernel_rfl) ⟨p, ⟨hne, hf⟩, hr⟩
 exact lim_run (k := k) rfl hk
def hansomref01_Fits_Q (w_ : Int) (r : Bool) (p : Out × St) : Prop := (∀ i, p.1 ≠ .exit i) ∧ finF F28 [.d (.int .u16 w_)] p.2 = some (.d (.bool r), [.d (.int .u16 w_)])
theorem hansomref01_Fits_ok (w_ : Int) (r : Bool) (h : hansomref01_Fits w_ = some r) : Runs L F28.body ⟨tmOf [.d (.int .u16 w_)] 0, updW (fun _ => none) []⟩ (hansomref01_Fits_Q w_ r) := by
 unfold hansomref01_Fits at h
 refine Sq <| Ro <| Rc 1 [⟨.d (.bool false), []⟩] <| Rd <| kS_nrm <| Sq <| Ro <| Rc 3 [⟨.d (.int .u16 w_), []⟩, ⟨.d (.bool (decide (w_ < 128))), []⟩, ⟨.d (.bool (decide (w_ < 128))), []⟩] ?_
 cases hb_1 : ((decide (w_ < 128)) : Bool) with
 | true =>
  replace h := ite_t hb_1 h
  refine Rc 4 [⟨.tup [], []⟩, ⟨.tup [], []⟩, ⟨.d (.bool true), []⟩, ⟨.d (.bool true), []⟩] <| Rd <| kS_nrm <| Runs.ret ?_
  obtain rfl := Option.some.inj h
  exact ⟨Out.ret_ne, (by kernel_rfl)⟩
 | false =>
  replace h := ite_f hb_1 h
  refine Rc 4 [⟨.d (.int .u16 w_), []⟩, ⟨.d (.bool (decide (w_ ≥ 65408))), []⟩, ⟨.d (.bool (decide (w_ ≥ 65408))), []⟩, ⟨.d (.bool (decide (w_ ≥ 65408))), []⟩] <| Rd <| kS_nrm <| Runs.ret ?_
  obtain rfl := Option.some.inj h
  exact ⟨Out.ret_ne, (by kernel_rfl)⟩
theorem hansomref01_Fits_L (w_ : Int) (r : Bool) (h : hansomref01_Fits w_ = some r) : L 28 [.d (.int .u16 w_)] = some (.d (.bool r), [.d (.int .u16 w_)]) := by
 obtain ⟨p, ⟨hne, hf⟩, hr⟩ := hansomref01_Fits_ok w_ r h
 obtain ⟨k, hk⟩ := run_of (F := F28) (args := [.d (.int .u16 w_)]) (ap := [.d (.int .u16 w_)]) (bx0 := updW (fun _ => none) []) rfl rfl (by kernel_rfl) ⟨p, ⟨hne, hf⟩, hr⟩
 exact lim_run (k := k) rfl hk
def hansomref05_Disps_Q (mod_ : Int) (rm_ : Int) (r : Int) (p : Out × St) : Prop := (∀ i, p.1 ≠ .exit i) ∧ finF F17 [.d (.int .i64 mod_), .d (.int .i64 rm_)] p.2 = some (.d (.int .i64 r), [.d (.int .i64 mod_), .d (.int .i64 rm_)])
theorem hansomref05_Disps_ok (mod_ : Int) (rm_ : Int) (r : Int) (h : hansomref05_Disps mod_ rm_ = some r) : Runs L F17.body ⟨tmOf [.d (.int .i64 mod_), .d (.int .i64 rm_)] 0, updW (fun _ => none) []⟩ (hansomref05_Disps_Q mod_ rm_ r) := by
 unfold hansomref05_Disps at h
 refine Sq <| Ro <| Rc 1 [⟨.d (.int .i64 0), []⟩] <| Rd <| kS_nrm <| Sq <| Sq <| Ro <| Rc 2 [⟨.d (.int .i64 mod_), []⟩, ⟨.d (.bool (mod_ == 1)), []⟩] <| Rd <| kS_nrm ?_
 cases hb_1 : ((mod_ == 1) : Bool) with
 | true =>
  replace h := ite_t hb_1 h
  refine Ct <| Sq <| Ro <| Rc 1 [⟨.d (.int .i64 1), []⟩] <| Rd <| kS_nrm <| Runs.ret <| kS_ret ?_
  obtain rfl := Option.some.inj h
  exact ⟨Out.ret_ne, (by kernel_rfl)⟩
 | false =>
  replace h := ite_f hb_1 h
  refine Cf <| Runs.skip <| kS_nrm <| Sq <| Sq <| Ro <| Rc 3 [⟨.d (.int .i64 mod_), []⟩, ⟨.d (.bool (mod_ == 2)), []⟩, ⟨.d (.bool (mod_ == 2)), []⟩] ?_
  cases hb_2 : ((mod_ == 2) : Bool) with
  | true =>
   replace h := ite_t hb_2 h
   refine Rc 7 [⟨.tup [], []⟩, ⟨.tup [], []⟩, ⟨.tup [], []⟩, ⟨.tup [], []⟩, ⟨.tup [], []⟩, ⟨.tup [], []⟩, ⟨.d (.bool true), []⟩] <| Rd <| kS_nrm <| Ct <| Sq <| Ro <| Rc 1 [⟨.d (.int .i64 2), []⟩] <| Rd <| kS_nrm <| Runs.ret <| kS_ret ?_
   obtain rfl := Option.some.inj h
   exact ⟨Out.ret_ne, (by kernel_rfl)⟩
  | false =>
   replace h := ite_f hb_2 h
   refine Rc 3 [⟨.d (.int .i64 mod_), []⟩, ⟨.d (.bool (mod_ == 0)), []⟩, ⟨.d (.bool (mod_ == 0)), []⟩] ?_
   cases hb_3 : ((mod_ == 0) : Bool) with
   | true =>
    replace h := ite_t hb_3 h
    refine Rc 4 [⟨.d (.int .i64 rm_), []⟩, ⟨.d (.bool (rm_ == 6)), []⟩, ⟨.d (.bool (rm_ == 6)), []⟩, ⟨.d (.bool (rm_ == 6)), []⟩] <| Rd <| kS_nrm ?_
    cases hb_4 : ((rm_ == 6) : Bool) with
    | true =>
     replace h := ite_t hb_4 h
     refine Ct <| Sq <| Ro <| Rc 1 [⟨.d (.int .i64 2), []⟩] <| Rd <| kS_nrm <| Runs.ret <| kS_ret ?_
     obtain rfl := Option.some.inj h
     exact ⟨Out.ret_ne, (by kernel_rfl)⟩
    | false =>
     replace h := ite_f hb_4 h
     refine Cf <| Runs.skip <| kS_nrm <| Sq <| Ro <| Rc 1 [⟨.d (.int .i64 0), []⟩] <| Rd <| kS_nrm <| Runs.ret ?_
     obtain rfl := Option.some.inj h
     exact ⟨Out.ret_ne, (by kernel_rfl)⟩
   | false =>
    replace h := ite_f hb_3 h
    refine Rc 4 [⟨.tup [], []⟩, ⟨.tup [], []⟩, ⟨.d (.bool false), []⟩, ⟨.d (.bool false), []⟩] <| Rd <| kS_nrm <| Cf <| Runs.skip <| kS_nrm <| Sq <| Ro <| Rc 1 [⟨.d (.int .i64 0), []⟩] <| Rd <| kS_nrm <| Runs.ret ?_
    obtain rfl := Option.some.inj h
    exact ⟨Out.ret_ne, (by kernel_rfl)⟩
theorem hansomref05_Disps_L (mod_ : Int) (rm_ : Int) (r : Int) (h : hansomref05_Disps mod_ rm_ = some r) : L 17 [.d (.int .i64 mod_), .d (.int .i64 rm_)] = some (.d (.int .i64 r), [.d (.int .i64 mod_), .d (.int .i64 rm_)]) := by
 obtain ⟨p, ⟨hne, hf⟩, hr⟩ := hansomref05_Disps_ok mod_ rm_ r h
 obtain ⟨k, hk⟩ := run_of (F := F17) (args := [.d (.int .i64 mod_), .d (.int .i64 rm_)]) (ap := [.d (.int .i64 mod_), .d (.int .i64 rm_)]) (bx0 := updW (fun _ => none) []) rfl rfl (by kernel_rfl) ⟨p, ⟨hne, hf⟩, hr⟩
 exact lim_run (k := k) rfl hk
def hansomref05_May_h22 (i1 : Inst) (r3 : Row) : St := ⟨tab [(1, .ptr [1] 0 0), (3, .ptr [3] 0 0)], tabB [([1], some (.cells [.d (.bool i1.Lock), .d (.int .i64 i1.Rep), .d (.int .i64 i1.Seg), .d (.int .u8 i1.Op), .d (.int .i64 i1.Mod), .d (.int .i64 i1.Reg), .d (.int .i64 i1.RM), .d (.int .u16 i1.Disp), .d (.int .u16 i1.Imm), .d (.int .u16 i1.Sel)] 0)), ([3], some (.cells [.d (.int .i64 r3.Name), .d (.int .i64 r3.A), .d (.int .i64 r3.B), .d (.bool r3.Mod)] 0))]⟩
def hansomref05_May_h58 (i1 : Inst) (r3 : Row) : St := ⟨tab [(1, .ptr [1] 0 0), (3, .ptr [3] 0 0)], tabB [([1], some (.cells [.d (.bool i1.Lock), .d (.int .i64 i1.Rep), .d (.int .i64 i1.Seg), .d (.int .u8 i1.Op), .d (.int .i64 i1.Mod), .d (.int .i64 i1.Reg), .d (.int .i64 i1.RM), .d (.int .u16 i1.Disp), .d (.int .u16 i1.Imm), .d (.int .u16 i1.Sel)] 0)), ([3], some (.cells [.d (.int .i64 r3.Name), .d (.int .i64 r3.A), .d (.int .i64 r3.B), .d (.bool r3.Mod)] 0))]⟩
def hansomref05_May_h66 (i1 : Inst) (r3 : Row) (k7 : Int) : St := ⟨tab [(1, .ptr [1] 0 0), (3, .ptr [3] 0 0), (7, .d (.int .i64 k7))], tabB [([1], some (.cells [.d (.bool i1.Lock), .d (.int .i64 i1.Rep), .d (.int .i64 i1.Seg), .d (.int .u8 i1.Op), .d (.int .i64 i1.Mod), .d (.int .i64 i1.Reg), .d (.int .i64 i1.RM), .d (.int .u16 i1.Disp), .d (.int .u16 i1.Imm), .d (.int .u16 i1.Sel)] 0)), ([3], some (.cells [.d (.int .i64 r3.Name), .d (.int .i64 r3.A), .d (.int .i64 r3.B), .d (.bool r3.Mod)] 0))]⟩
def hansomref05_May_h82 (i1 : Inst) (t155 : Int) (t181 : Bool) : St := ⟨tab [(1, .ptr [1] 0 0), (155, .d (.int .i64 t155)), (181, .d (.bool t181))], tabB [([1], some (.cells [.d (.bool i1.Lock), .d (.int .i64 i1.Rep), .d (.int .i64 i1.Seg), .d (.int .u8 i1.Op), .d (.int .i64 i1.Mod), .d (.int .i64 i1.Reg), .d (.int .i64 i1.RM), .d (.int .u16 i1.Disp), .d (.int .u16 i1.Imm), .d (.int .u16 i1.Sel)] 0))]⟩
def hansomref05_May_h49 (i1 : Inst) (r3 : Row) : St := ⟨tab [(1, .ptr [1] 0 0), (3, .ptr [3] 0 0)], tabB [([1], some (.cells [.d (.bool i1.Lock), .d (.int .i64 i1.Rep), .d (.int .i64 i1.Seg), .d (.int .u8 i1.Op), .d (.int .i64 i1.Mod), .d (.int .i64 i1.Reg), .d (.int .i64 i1.RM), .d (.int .u16 i1.Disp), .d (.int .u16 i1.Imm), .d (.int .u16 i1.Sel)] 0)), ([3], some (.cells [.d (.int .i64 r3.Name), .d (.int .i64 r3.A), .d (.int .i64 r3.B), .d (.bool r3.Mod)] 0))]⟩
def hansomref05_May_Q (i_ : Inst) (r : Bool) (p : Out × St) : Prop := (∀ i, p.1 ≠ .exit i) ∧ finF F9 [.d (Inst.d i_)] p.2 = some (.d (.bool r), [.d (Inst.d i_)])
theorem hansomref05_May_j82_ok (i_ : Inst) (i1 : Inst) (t155 : Int) (t181 : Bool) (r : Bool) (h : hansomref05_May_j82 i1 t155 t181 = some r) : Runs L F9b82 (hansomref05_May_h82 i1 t155 t181) (kB 0 (kS L F9c111 (hansomref05_May_Q i_ r))) := by
 unfold hansomref05_May_j82 at h
 cases hb_22 : (t181 : Bool) with
 | true =>
  replace h := ite_t hb_22 h
  refine Ct <| Sq <| Ro <| Rc 2 [⟨.ptr [1] 0 8, []⟩, ⟨.d (.int .u16 i1.Imm), []⟩] ?_
  obtain ⟨r_4, hr_4, h⟩ := bind_s h
  have hc_4 := hansomref01_Fits_L i1.Imm r_4 hr_4
  refine Rt (some 186) (.callf 28) [] none [.d (.int .u16 i1.Imm)] (.d (.bool r_4)) [] (cut_call (call_of (ws := []) (us := []) (by kernel_rfl) (by kernel_rfl) hc_4 (by kernel_rfl) (by kernel_rfl))) <| Rc 1 [⟨.d (.bool r_4), []⟩] ?_
  cases hb_23 : (r_4 : Bool) with
  | true =>
   replace h := ite_t hb_23 h
   refine Rc 5 [⟨.ptr [1] 0 9, []⟩, ⟨.d (.int .u16 i1.Sel), []⟩, ⟨.d (.bool (i1.Sel == 0)), []⟩, ⟨.d (.bool (i1.Sel == 0)), []⟩, ⟨.d (.bool (i1.Sel == 0)), []⟩] <| Rd <| kS_nrm <| Runs.ret <| kB_ret <| kS_ret ?_
   obtain rfl := Option.some.inj h
   exact ⟨Out.ret_ne, (by kernel_rfl)⟩
  | false =>
   replace h := ite_f hb_23 h
   refine Rc 5 [⟨.tup [], []⟩, ⟨.tup [], []⟩, ⟨.tup [], []⟩, ⟨.d (.bool false), []⟩, ⟨.d (.bool false), []⟩] <| Rd <| kS_nrm <| Runs.ret <| kB_ret <| kS_ret ?_
   obtain rfl := Option.some.inj h
   exact ⟨Out.ret_ne, (by kernel_rfl)⟩
 | false =>
  replace h := ite_f hb_22 h
  refine Cf <| Sq <| Sq <| Ro <| Rc 2 [⟨.d (.bool (t155 == 7)), []⟩, ⟨.d (.bool (t155 == 7)), []⟩] <| Rd <| kS_nrm ?_
  cases hb_24 : ((t155 == 7) : Bool) with
  | true =>
   replace h := ite_t hb_24 h
   refine Ct <| Runs.skip <| kS_nrm <| Ct <| Sq <| Ro <| Rc 4 [⟨.ptr [1] 0 9, []⟩, ⟨.d (.int .u16 i1.Sel), []⟩, ⟨.d (.bool (i1.Sel == 0)), []⟩, ⟨.d (.bool (i1.Sel == 0)), []⟩] <| Rd <| kS_nrm <| Runs.ret <| kB_ret <| kS_ret ?_
   obtain rfl := Option.some.inj h
   exact ⟨Out.ret_ne, (by kernel_rfl)⟩
  | false =>
   replace h := ite_f hb_24 h
   refine Cf <| Sq <| Ro <| Rc 2 [⟨.d (.bool (t155 == 10)), []⟩, ⟨.d (.bool (t155 == 10)), []⟩] <| Rd <| kS_nrm ?_
   cases hb_25 : ((t155 == 10) : Bool) with
   | true =>
    replace h := ite_t hb_25 h
    refine Ct <| Runs.skip <| kS_nrm <| Ct <| Sq <| Ro <| Rc 4 [⟨.ptr [1] 0 9, []⟩, ⟨.d (.int .u16 i1.Sel), []⟩, ⟨.d (.bool (i1.Sel == 0)), []⟩, ⟨.d (.bool (i1.Sel == 0)), []⟩] <| Rd <| kS_nrm <| Runs.ret <| kB_ret <| kS_ret ?_
    obtain rfl := Option.some.inj h
    exact ⟨Out.ret_ne, (by kernel_rfl)⟩
   | false =>
    replace h := ite_f hb_25 h
    refine Cf <| Sq <| Ro <| Rc 2 [⟨.d (.bool (t155 == 12)), []⟩, ⟨.d (.bool (t155 == 12)), []⟩] <| Rd <| kS_nrm ?_
    cases hb_26 : ((t155 == 12) : Bool) with
    | true =>
     replace h := ite_t hb_26 h
     refine Ct <| Runs.skip <| kS_nrm <| Ct <| Sq <| Ro <| Rc 4 [⟨.ptr [1] 0 9, []⟩, ⟨.d (.int .u16 i1.Sel), []⟩, ⟨.d (.bool (i1.Sel == 0)), []⟩, ⟨.d (.bool (i1.Sel == 0)), []⟩] <| Rd <| kS_nrm <| Runs.ret <| kB_ret <| kS_ret ?_
     obtain rfl := Option.some.inj h
     exact ⟨Out.ret_ne, (by kernel_rfl)⟩
    | false =>
     replace h := ite_f hb_26 h
     refine Cf <| Ro <| Rc 2 [⟨.d (.bool (t155 == 13)), []⟩, ⟨.d (.bool (t155 == 13)), []⟩] <| Rd <| kS_nrm ?_
     cases hb_27 : ((t155 == 13) : Bool) with
     | true =>
      replace h := ite_t hb_27 h
      refine Ct <| Sq <| Ro <| Rc 4 [⟨.ptr [1] 0 9, []⟩, ⟨.d (.int .u16 i1.Sel), []⟩, ⟨.d (.bool (i1.Sel == 0)), []⟩, ⟨.d (.bool (i1.Sel == 0)), []⟩] <| Rd <| kS_nrm <| Runs.ret <| kB_ret <| kS_ret ?_
      obtain rfl := Option.some.inj h
      exact ⟨Out.ret_ne, (by kernel_rfl)⟩
     | false =>
      replace h := ite_f hb_27 h
      refine Cf <| Sq <| Ro <| Rc 2 [⟨.d (.bool (t155 == 11)), []⟩, ⟨.d (.bool (t155 == 11)), []⟩] <| Rd <| kS_nrm ?_
      cases hb_28 : ((t155 == 11) : Bool) with
      | true =>
       replace h := ite_t hb_28 h
       refine Ct <| Sq <| Ro <| Rc 1 [⟨.d (.bool true), []⟩] <| Rd <| kS_nrm <| Runs.ret <| kB_ret <| kS_ret ?_
       obtain rfl := Option.some.inj h
       exact ⟨Out.ret_ne, (by kernel_rfl)⟩
      | false =>
       replace h := ite_f hb_28 h
       refine Cf <| Runs.skip <| kB_nrm <| kS_nrm <| Sq <| Ro <| Rc 4 [⟨.ptr [1] 0 8, []⟩, ⟨.d (.int .u16 i1.Imm), []⟩, ⟨.d (.bool (i1.Imm == 0)), []⟩, ⟨.d (.bool (i1.Imm == 0)), []⟩] ?_
       cases hb_29 : ((i1.Imm == 0) : Bool) with
       | true =>
        replace h := ite_t hb_29 h
        refine Rc 5 [⟨.ptr [1] 0 9, []⟩, ⟨.d (.int .u16 i1.Sel), []⟩, ⟨.d (.bool (i1.Sel == 0)), []⟩, ⟨.d (.bool (i1.Sel == 0)), []⟩, ⟨.d (.bool (i1.Sel == 0)), []⟩] <| Rd <| kS_nrm <| Runs.ret ?_
        obtain rfl := Option.some.inj h
        exact ⟨Out.ret_ne, (by kernel_rfl)⟩
       | false =>
        replace h := ite_f hb_29 h
        refine Rc 5 [⟨.tup [], []⟩, ⟨.tup [], []⟩, ⟨.tup [], []⟩, ⟨.d (.bool false), []⟩, ⟨.d (.bool false), []⟩] <| Rd <| kS_nrm <| Runs.ret ?_
        obtain rfl := Option.some.inj h
        exact ⟨Out.ret_ne, (by kernel_rfl)⟩
theorem hansomref05_May_j66_ok (i_ : Inst) (i1 : Inst) (r3 : Row) (k7 : Int) (r : Bool) (h : hansomref05_May_j66 i1 r3 k7 = some r) : Runs L F9b66 (hansomref05_May_h66 i1 r3 k7) (hansomref05_May_Q i_ r) := by
 unfold hansomref05_May_j66 at h
 refine Sq <| Sq <| Ro <| Rc 1 [⟨.d (.int .i64 k7), []⟩] <| Rd <| kS_nrm <| Runs.block <| Sq <| Ro <| Rc 2 [⟨.d (.bool (k7 == 6)), []⟩, ⟨.d (.bool (k7 == 6)), []⟩] <| Rd <| kS_nrm ?_
 cases hb_16 : ((k7 == 6) : Bool) with
 | true =>
  replace h := ite_t hb_16 h
  refine Ct <| Sq <| Ro <| Rc 4 [⟨.ptr [1] 0 8, []⟩, ⟨.d (.int .u16 i1.Imm), []⟩, ⟨.d (.bool (decide (i1.Imm < 256))), []⟩, ⟨.d (.bool (decide (i1.Imm < 256))), []⟩] ?_
  cases hb_17 : ((decide (i1.Imm < 256)) : Bool) with
  | true =>
   replace h := ite_t hb_17 h
   refine Rc 5 [⟨.ptr [1] 0 9, []⟩, ⟨.d (.int .u16 i1.Sel), []⟩, ⟨.d (.bool (i1.Sel == 0)), []⟩, ⟨.d (.bool (i1.Sel == 0)), []⟩, ⟨.d (.bool (i1.Sel == 0)), []⟩] ?_
   cases hb_18 : ((i1.Sel == 0) : Bool) with
   | true =>
    replace h := ite_t hb_18 h
    refine Rc 4 [⟨.ptr [3] 0 0, []⟩, ⟨.d (.int .i64 r3.Name), []⟩, ⟨.d (.bool (r3.Name != 70)), []⟩, ⟨.d (.bool (r3.Name != 70)), []⟩] ?_
    cases hb_19 : ((r3.Name != 70) : Bool) with
    | true =>
     replace h := ite_t hb_19 h
     refine Rc 5 [⟨.ptr [3] 0 0, []⟩, ⟨.d (.int .i64 r3.Name), []⟩, ⟨.d (.bool (r3.Name != 71)), []⟩, ⟨.d (.bool (r3.Name != 71)), []⟩, ⟨.d (.bool (r3.Name != 71)), []⟩] ?_
     cases hb_20 : ((r3.Name != 71) : Bool) with
     | true =>
      replace h := ite_t hb_20 h
      refine Rc 6 [⟨.tup [], []⟩, ⟨.tup [], []⟩, ⟨.tup [], []⟩, ⟨.d (.bool true), []⟩, ⟨.d (.bool true), []⟩, ⟨.d (.bool true), []⟩] <| Rd <| kS_nrm <| Runs.ret <| kB_ret <| kS_ret ?_
      obtain rfl := Option.some.inj h
      exact ⟨Out.ret_ne, (by kernel_rfl)⟩
     | false =>
      replace h := ite_f hb_20 h
      refine Rc 6 [⟨.ptr [1] 0 8, []⟩, ⟨.d (.int .u16 i1.Imm), []⟩, ⟨.d (.bool (i1.Imm == 10)), []⟩, ⟨.d (.bool (i1.Imm == 10)), []⟩, ⟨.d (.bool (i1.Imm == 10)), []⟩, ⟨.d (.bool (i1.Imm == 10)), []⟩] <| Rd <| kS_nrm <| Runs.ret <| kB_ret <| kS_ret ?_
      obtain rfl := Option.some.inj h
      exact ⟨Out.ret_ne, (by kernel_rfl)⟩
    | false =>
     replace h := ite_f hb_19 h
     refine Rc 11 [⟨.tup [], []⟩, ⟨.tup [], []⟩, ⟨.tup [], []⟩, ⟨.d (.bool false), []⟩, ⟨.d (.bool false), []⟩, ⟨.ptr [1] 0 8, []⟩, ⟨.d (.int .u16 i1.Imm), []⟩, ⟨.d (.bool (i1.Imm == 10)), []⟩, ⟨.d (.bool (i1.Imm == 10)), []⟩, ⟨.d (.bool (i1.Imm == 10)), []⟩, ⟨.d (.bool (i1.Imm == 10)), []⟩] <| Rd <| kS_nrm <| Runs.ret <| kB_ret <| kS_ret ?_
     obtain rfl := Option.some.inj h
     exact ⟨Out.ret_ne, (by kernel_rfl)⟩
   | false =>
    replace h := ite_f hb_18 h
    refine Rc 15 [⟨.tup [], []⟩, ⟨.tup [], []⟩, ⟨.tup [], []⟩, ⟨.tup [], []⟩, ⟨.tup [], []⟩, ⟨.tup [], []⟩, ⟨.tup [], []⟩, ⟨.tup [], []⟩, ⟨.tup [], []⟩, ⟨.tup [], []⟩, ⟨.tup [], []⟩, ⟨.tup [], []⟩, ⟨.tup [], []⟩, ⟨.d (.bool false), []⟩, ⟨.d (.bool false), []⟩] <| Rd <| kS_nrm <| Runs.ret <| kB_ret <| kS_ret ?_
    obtain rfl := Option.some.inj h
    exact ⟨Out.ret_ne, (by kernel_rfl)⟩
  | false =>
   replace h := ite_f hb_17 h
   refine Rc 20 [⟨.tup [], []⟩, ⟨.tup [], []⟩, ⟨.tup [], []⟩, ⟨.d (.bool false), []⟩, ⟨.d (.bool false), []⟩, ⟨.tup [], []⟩, ⟨.tup [], []⟩, ⟨.tup [], []⟩, ⟨.tup [], []⟩, ⟨.tup [], []⟩, ⟨.tup [], []⟩, ⟨.tup [], []⟩, ⟨.tup [], []⟩, ⟨.tup [], []⟩, ⟨.tup [], []⟩, ⟨.tup [], []⟩, ⟨.tup [], []⟩, ⟨.tup [], []⟩, ⟨.d (.bool false), []⟩, ⟨.d (.bool false), []⟩] <| Rd <| kS_nrm <| Runs.ret <| kB_ret <| kS_ret ?_
   obtain rfl := Option.some.inj h
   exact ⟨Out.ret_ne, (by kernel_rfl)⟩
 | false =>
  replace h := ite_f hb_16 h
  refine Cf <| Sq <| Sq <| Ro <| Rc 2 [⟨.d (.bool (k7 == 8)), []⟩, ⟨.d (.bool (k7 == 8)), []⟩] <| Rd <| kS_nrm ?_
  cases hb_21 : ((k7 == 8) : Bool) with
  | true =>
   replace h := ite_t hb_21 h
   refine Ct <| Runs.skip <| kS_nrm <| Runs.canon (hansomref05_May_h82 i1 k7 true) (Canon.nil (by kernel_rfl)) ?_
   exact hansomref05_May_j82_ok i_ i1 k7 true r h
  | false =>
   replace h := ite_f hb_21 h
   refine Cf <| Ro <| Rc 2 [⟨.d (.bool (k7 == 9)), []⟩, ⟨.d (.bool (k7 == 9)), []⟩] <| Rd <| kS_nrm <| Runs.canon (hansomref05_May_h82 i1 k7 (k7 == 9)) (Canon.nil (by kernel_rfl)) ?_
   exact hansomref05_May_j82_ok i_ i1 k7 (k7 == 9) r h
theorem hansomref05_May_j58_ok (i_ : Inst) (i1 : Inst) (r3 : Row) (r : Bool) (h : hansomref05_May_j58 i1 r3 = some r) : Runs L F9b58 (hansomref05_May_h58 i1 r3) (hansomref05_May_Q i_ r) := by
 unfold hansomref05_May_j58 at h
 refine Sq <| Ro <| Rc 3 [⟨.ptr [3] 0 1, []⟩, ⟨.d (.int .i64 r3.A), []⟩, ⟨.d (.int .i64 r3.A), []⟩] <| Rd <| kS_nrm <| Sq <| Sq <| Ro <| Rc 1 [⟨.d (.int .i64 r3.A), []⟩] ?_
 obtain ⟨r_3, hr_3, h⟩ := bind_s h
 have hc_3 := hansomref04_Bytes_L r3.A r_3 hr_3
 refine Rt (some 151) (.callf 19) [] none [.d (.int .i64 r3.A)] (.d (.int .i64 r_3)) [] (cut_call (call_of (ws := []) (us := []) (by kernel_rfl) (by kernel_rfl) hc_3 (by kernel_rfl) (by kernel_rfl))) <| Rc 1 [⟨.d (.bool (r_3 == 0)), []⟩] <| Rd <| kS_nrm ?_
 cases hb_15 : ((r_3 == 0) : Bool) with
 | true =>
  replace h := ite_t hb_15 h
  refine Ct <| Ro <| Rc 3 [⟨.ptr [3] 0 2, []⟩, ⟨.d (.int .i64 r3.B), []⟩, ⟨.d (.int .i64 r3.B), []⟩] <| Rd <| kS_nrm <| Runs.canon (hansomref05_May_h66 i1 r3 r3.B) (Canon.nil (by kernel_rfl)) ?_
  exact hansomref05_May_j66_ok i_ i1 r3 r3.B r h
 | false =>
  replace h := ite_f hb_15 h
  refine Cf <| Runs.skip <| kS_nrm <| Runs.canon (hansomref05_May_h66 i1 r3 r3.A) (Canon.nil (by kernel_rfl)) ?_
  exact hansomref05_May_j66_ok i_ i1 r3 r3.A r h
theorem hansomref05_May_j49_ok (i_ : Inst) (i1 : Inst) (r3 : Row) (r : Bool) (h : hansomref05_May_j49 i1 r3 = some r) : Runs L F9b49 (hansomref05_May_h49 i1 r3) (kS L F9c58 (hansomref05_May_Q i_ r)) := by
 unfold hansomref05_May_j49 at h
 refine Sq <| Ro <| Rc 4 [⟨.ptr [1] 0 4, []⟩, ⟨.d (.int .i64 i1.Mod), []⟩, ⟨.ptr [1] 0 6, []⟩, ⟨.d (.int .i64 i1.RM), []⟩] ?_
 obtain ⟨r_5, hr_5, h⟩ := bind_s h
 have hc_5 := hansomref05_Disps_L i1.Mod i1.RM r_5 hr_5
 refine Rt (some 130) (.callf 17) [] none [.d (.int .i64 i1.Mod), .d (.int .i64 i1.RM)] (.d (.int .i64 r_5)) [] (cut_call (call_of (ws := []) (us := []) (by kernel_rfl) (by kernel_rfl) hc_5 (by kernel_rfl) (by kernel_rfl))) <| Rc 1 [⟨.d (.int .i64 r_5), []⟩] <| Rd <| kS_nrm <| Sq <| Ro <| Rc 3 [⟨.d (.int .i64 r_5), []⟩, ⟨.d (.bool (r_5 == 0)), []⟩, ⟨.d (.bool (r_5 == 0)), []⟩] ?_
 cases hb_41 : ((r_5 == 0) : Bool) with
 | true =>
  replace h := ite_t hb_41 h
  refine Rc 5 [⟨.ptr [1] 0 7, []⟩, ⟨.d (.int .u16 i1.Disp), []⟩, ⟨.d (.bool (i1.Disp != 0)), []⟩, ⟨.d (.bool (i1.Disp != 0)), []⟩, ⟨.d (.bool (i1.Disp != 0)), []⟩] ?_
  cases hb_42 : ((i1.Disp != 0) : Bool) with
  | true =>
   replace h := ite_t hb_42 h
   refine Rc 9 [⟨.tup [], []⟩, ⟨.tup [], []⟩, ⟨.tup [], []⟩, ⟨.tup [], []⟩, ⟨.tup [], []⟩, ⟨.tup [], []⟩, ⟨.tup [], []⟩, ⟨.tup [], []⟩, ⟨.d (.bool true), []⟩] <| Rd <| kS_nrm <| Ct <| Sq <| Ro <| Rc 1 [⟨.d (.bool false), []⟩] <| Rd <| kS_nrm <| Runs.ret <| kS_ret ?_
   obtain rfl := Option.some.inj h
   exact ⟨Out.ret_ne, (by kernel_rfl)⟩
  | false =>
   replace h := ite_f hb_42 h
   refine Rc 3 [⟨.d (.int .i64 r_5), []⟩, ⟨.d (.bool (r_5 == 1)), []⟩, ⟨.d (.bool (r_5 == 1)), []⟩] ?_
   cases hb_43 : ((r_5 == 1) : Bool) with
   | true =>
    replace h := ite_t hb_43 h
    refine Rc 2 [⟨.ptr [1] 0 7, []⟩, ⟨.d (.int .u16 i1.Disp), []⟩] ?_
    obtain ⟨r_6, hr_6, h⟩ := bind_s h
    have hc_6 := hansomref01_Fits_L i1.Disp r_6 hr_6
    refine Rt (some 144) (.callf 28) [] none [.d (.int .u16 i1.Disp)] (.d (.bool r_6)) [] (cut_call (call_of (ws := []) (us := []) (by kernel_rfl) (by kernel_rfl) hc_6 (by kernel_rfl) (by kernel_rfl))) <| Rc 3 [⟨.d (.bool (!r_6)), []⟩, ⟨.d (.bool (!r_6)), []⟩, ⟨.d (.bool (!r_6)), []⟩] <| Rd <| kS_nrm ?_
    cases hb_44 : ((!r_6) : Bool) with
    | true =>
     replace h := ite_t hb_44 h
     refine Ct <| Sq <| Ro <| Rc 1 [⟨.d (.bool false), []⟩] <| Rd <| kS_nrm <| Runs.ret <| kS_ret ?_
     obtain rfl := Option.some.inj h
     exact ⟨Out.ret_ne, (by kernel_rfl)⟩
    | false =>
     replace h := ite_f hb_44 h
     refine Cf <| Runs.skip <| kS_nrm <| Runs.canon (hansomref05_May_h58 i1 r3) (Canon.nil (by kernel_rfl)) ?_
     exact hansomref05_May_j58_ok i_ i1 r3 r h
   | false =>
    replace h := ite_f hb_43 h
    refine Rc 6 [⟨.tup [], []⟩, ⟨.tup [], []⟩, ⟨.tup [], []⟩, ⟨.tup [], []⟩, ⟨.d (.bool false), []⟩, ⟨.d (.bool false), []⟩] <| Rd <| kS_nrm <| Cf <| Runs.skip <| kS_nrm <| Runs.canon (hansomref05_May_h58 i1 r3) (Canon.nil (by kernel_rfl)) ?_
    exact hansomref05_May_j58_ok i_ i1 r3 r h
 | false =>
  replace h := ite_f hb_41 h
  refine Rc 8 [⟨.tup [], []⟩, ⟨.tup [], []⟩, ⟨.tup [], []⟩, ⟨.d (.bool false), []⟩, ⟨.d (.bool false), []⟩, ⟨.d (.int .i64 r_5), []⟩, ⟨.d (.bool (r_5 == 1)), []⟩, ⟨.d (.bool (r_5 == 1)), []⟩] ?_
  cases hb_45 : ((r_5 == 1) : Bool) with
  | true =>
   replace h := ite_t hb_45 h
   refine Rc 2 [⟨.ptr [1] 0 7, []⟩, ⟨.d (.int .u16 i1.Disp), []⟩] ?_
   obtain ⟨r_7, hr_7, h⟩ := bind_s h
   have hc_7 := hansomref01_Fits_L i1.Disp r_7 hr_7
   refine Rt (some 144) (.callf 28) [] none [.d (.int .u16 i1.Disp)] (.d (.bool r_7)) [] (cut_call (call_of (ws := []) (us := []) (by kernel_rfl) (by kernel_rfl) hc_7 (by kernel_rfl) (by kernel_rfl))) <| Rc 3 [⟨.d (.bool (!r_7)), []⟩, ⟨.d (.bool (!r_7)), []⟩, ⟨.d (.bool (!r_7)), []⟩] <| Rd <| kS_nrm ?_
   cases hb_46 : ((!r_7) : Bool) with
   | true =>
    replace h := ite_t hb_46 h
    refine Ct <| Sq <| Ro <| Rc 1 [⟨.d (.bool false), []⟩] <| Rd <| kS_nrm <| Runs.ret <| kS_ret ?_
    obtain rfl := Option.some.inj h
    exact ⟨Out.ret_ne, (by kernel_rfl)⟩
   | false =>
    replace h := ite_f hb_46 h
    refine Cf <| Runs.skip <| kS_nrm <| Runs.canon (hansomref05_May_h58 i1 r3) (Canon.nil (by kernel_rfl)) ?_
    exact hansomref05_May_j58_ok i_ i1 r3 r h
  | false =>
   replace h := ite_f hb_45 h
   refine Rc 6 [⟨.tup [], []⟩, ⟨.tup [], []⟩, ⟨.tup [], []⟩, ⟨.tup [], []⟩, ⟨.d (.bool false), []⟩, ⟨.d (.bool false), []⟩] <| Rd <| kS_nrm <| Cf <| Runs.skip <| kS_nrm <| Runs.canon (hansomref05_May_h58 i1 r3) (Canon.nil (by kernel_rfl)) ?_
   exact hansomref05_May_j58_ok i_ i1 r3 r h
theorem hansomref05_May_j22_ok (i_ : Inst) (i1 : Inst) (r3 : Row) (r : Bool) (h : hansomref05_May_j22 i1 r3 = some r) : Runs L F9b22 (hansomref05_May_h22 i1 r3) (hansomref05_May_Q i_ r) := by
 unfold hansomref05_May_j22 at h
 refine Sq <| Sq <| Ro <| Rc 3 [⟨.ptr [3] 0 3, []⟩, ⟨.d (.bool r3.Mod), []⟩, ⟨.d (.bool (!r3.Mod)), []⟩] <| Rd <| kS_nrm ?_
 cases hb_10 : ((!r3.Mod) : Bool) with
 | true =>
  replace h := ite_t hb_10 h
  refine Ct <| Sq <| Ro <| Rc 4 [⟨.ptr [1] 0 4, []⟩, ⟨.d (.int .i64 i1.Mod), []⟩, ⟨.d (.bool (i1.Mod != 0)), []⟩, ⟨.d (.bool (i1.Mod != 0)), []⟩] ?_
  cases hb_11 : ((i1.Mod != 0) : Bool) with
  | true =>
   replace h := ite_t hb_11 h
   refine Rc 14 [⟨.tup [], []⟩, ⟨.tup [], []⟩, ⟨.tup [], []⟩, ⟨.d (.bool true), []⟩, ⟨.d (.bool true), []⟩, ⟨.tup [], []⟩, ⟨.tup [], []⟩, ⟨.tup [], []⟩, ⟨.d (.bool true), []⟩, ⟨.d (.bool true), []⟩, ⟨.tup [], []⟩, ⟨.tup [], []⟩, ⟨.tup [], []⟩, ⟨.d (.bool true), []⟩] <| Rd <| kS_nrm <| Ct <| Sq <| Ro <| Rc 1 [⟨.d (.bool false), []⟩] <| Rd <| kS_nrm <| Runs.ret <| kS_ret ?_
   obtain rfl := Option.some.inj h
   exact ⟨Out.ret_ne, (by kernel_rfl)⟩
  | false =>
   replace h := ite_f hb_11 h
   refine Rc 5 [⟨.ptr [1] 0 5, []⟩, ⟨.d (.int .i64 i1.Reg), []⟩, ⟨.d (.bool (i1.Reg != 0)), []⟩, ⟨.d (.bool (i1.Reg != 0)), []⟩, ⟨.d (.bool (i1.Reg != 0)), []⟩] ?_
   cases hb_12 : ((i1.Reg != 0) : Bool) with
   | true =>
    replace h := ite_t hb_12 h
    refine Rc 9 [⟨.tup [], []⟩, ⟨.tup [], []⟩, ⟨.tup [], []⟩, ⟨.d (.bool true), []⟩, ⟨.d (.bool true), []⟩, ⟨.tup [], []⟩, ⟨.tup [], []⟩, ⟨.tup [], []⟩, ⟨.d (.bool true), []⟩] <| Rd <| kS_nrm <| Ct <| Sq <| Ro <| Rc 1 [⟨.d (.bool false), []⟩] <| Rd <| kS_nrm <| Runs.ret <| kS_ret ?_
    obtain rfl := Option.some.inj h
    exact ⟨Out.ret_ne, (by kernel_rfl)⟩
   | false =>
    replace h := ite_f hb_12 h
    refine Rc 5 [⟨.ptr [1] 0 6, []⟩, ⟨.d (.int .i64 i1.RM), []⟩, ⟨.d (.bool (i1.RM != 0)), []⟩, ⟨.d (.bool (i1.RM != 0)), []⟩, ⟨.d (.bool (i1.RM != 0)), []⟩] ?_
    cases hb_13 : ((i1.RM != 0) : Bool) with
    | true =>
     replace h := ite_t hb_13 h
     refine Rc 4 [⟨.tup [], []⟩, ⟨.tup [], []⟩, ⟨.tup [], []⟩, ⟨.d (.bool true), []⟩] <| Rd <| kS_nrm <| Ct <| Sq <| Ro <| Rc 1 [⟨.d (.bool false), []⟩] <| Rd <| kS_nrm <| Runs.ret <| kS_ret ?_
     obtain rfl := Option.some.inj h
     exact ⟨Out.ret_ne, (by kernel_rfl)⟩
    | false =>
     replace h := ite_f hb_13 h
     refine Rc 4 [⟨.ptr [1] 0 7, []⟩, ⟨.d (.int .u16 i1.Disp), []⟩, ⟨.d (.bool (i1.Disp != 0)), []⟩, ⟨.d (.bool (i1.Disp != 0)), []⟩] <| Rd <| kS_nrm ?_
     cases hb_14 : ((i1.Disp != 0) : Bool) with
     | true =>
      replace h := ite_t hb_14 h
      refine Ct <| Sq <| Ro <| Rc 1 [⟨.d (.bool false), []⟩] <| Rd <| kS_nrm <| Runs.ret <| kS_ret ?_
      obtain rfl := Option.some.inj h
      exact ⟨Out.ret_ne, (by kernel_rfl)⟩
     | false =>
      replace h := ite_f hb_14 h
      refine Cf <| Runs.skip <| kS_nrm <| Runs.canon (hansomref05_May_h58 i1 r3) (Canon.nil (by kernel_rfl)) ?_
      exact hansomref05_May_j58_ok i_ i1 r3 r h
 | false =>
  replace h := ite_f hb_10 h
  refine Cf <| Sq <| Sq <| Ro <| Rc 4 [⟨.ptr [1] 0 4, []⟩, ⟨.d (.int .i64 i1.Mod), []⟩, ⟨.d (.bool (decide (i1.Mod < 0))), []⟩, ⟨.d (.bool (decide (i1.Mod < 0))), []⟩] ?_
  cases hb_30 : ((decide (i1.Mod < 0)) : Bool) with
  | true =>
   replace h := ite_t hb_30 h
   refine Rc 24 [⟨.tup [], []⟩, ⟨.tup [], []⟩, ⟨.tup [], []⟩, ⟨.d (.bool true), []⟩, ⟨.d (.bool true), []⟩, ⟨.tup [], []⟩, ⟨.tup [], []⟩, ⟨.tup [], []⟩, ⟨.d (.bool true), []⟩, ⟨.d (.bool true), []⟩, ⟨.tup [], []⟩, ⟨.tup [], []⟩, ⟨.tup [], []⟩, ⟨.d (.bool true), []⟩, ⟨.d (.bool true), []⟩, ⟨.tup [], []⟩, ⟨.tup [], []⟩, ⟨.tup [], []⟩, ⟨.d (.bool true), []⟩, ⟨.d (.bool true), []⟩, ⟨.tup [], []⟩, ⟨.tup [], []⟩, ⟨.tup [], []⟩, ⟨.d (.bool true), []⟩] <| Rd <| kS_nrm <| Ct <| Sq <| Ro <| Rc 1 [⟨.d (.bool false), []⟩] <| Rd <| kS_nrm <| Runs.ret <| kS_ret <| kS_ret ?_
   obtain rfl := Option.some.inj h
   exact ⟨Out.ret_ne, (by kernel_rfl)⟩
  | false =>
   replace h := ite_f hb_30 h
   refine Rc 5 [⟨.ptr [1] 0 4, []⟩, ⟨.d (.int .i64 i1.Mod), []⟩, ⟨.d (.bool (decide (i1.Mod > 3))), []⟩, ⟨.d (.bool (decide (i1.Mod > 3))), []⟩, ⟨.d (.bool (decide (i1.Mod > 3))), []⟩] ?_
   cases hb_31 : ((decide (i1.Mod > 3)) : Bool) with
   | true =>
    replace h := ite_t hb_31 h
    refine Rc 19 [⟨.tup [], []⟩, ⟨.tup [], []⟩, ⟨.tup [], []⟩, ⟨.d (.bool true), []⟩, ⟨.d (.bool true), []⟩, ⟨.tup [], []⟩, ⟨.tup [], []⟩, ⟨.tup [], []⟩, ⟨.d (.bool true), []⟩, ⟨.d (.bool true), []⟩, ⟨.tup [], []⟩, ⟨.tup [], []⟩, ⟨.tup [], []⟩, ⟨.d (.bool true), []⟩, ⟨.d (.bool true), []⟩, ⟨.tup [], []⟩, ⟨.tup [], []⟩, ⟨.tup [], []⟩, ⟨.d (.bool true), []⟩] <| Rd <| kS_nrm <| Ct <| Sq <| Ro <| Rc 1 [⟨.d (.bool false), []⟩] <| Rd <| kS_nrm <| Runs.ret <| kS_ret <| kS_ret ?_
    obtain rfl := Option.some.inj h
    exact ⟨Out.ret_ne, (by kernel_rfl)⟩
   | false =>
    replace h := ite_f hb_31 h
    refine Rc 5 [⟨.ptr [1] 0 5, []⟩, ⟨.d (.int .i64 i1.Reg), []⟩, ⟨.d (.bool (decide (i1.Reg < 0))), []⟩, ⟨.d (.bool (decide (i1.Reg < 0))), []⟩, ⟨.d (.bool (decide (i1.Reg < 0))), []⟩] ?_
    cases hb_32 : ((decide (i1.Reg < 0)) : Bool) with
    | true =>
     replace h := ite_t hb_32 h
     refine Rc 14 [⟨.tup [], []⟩, ⟨.tup [], []⟩, ⟨.tup [], []⟩, ⟨.d (.bool true), []⟩, ⟨.d (.bool true), []⟩, ⟨.tup [], []⟩, ⟨.tup [], []⟩, ⟨.tup [], []⟩, ⟨.d (.bool true), []⟩, ⟨.d (.bool true), []⟩, ⟨.tup [], []⟩, ⟨.tup [], []⟩, ⟨.tup [], []⟩, ⟨.d (.bool true), []⟩] <| Rd <| kS_nrm <| Ct <| Sq <| Ro <| Rc 1 [⟨.d (.bool false), []⟩] <| Rd <| kS_nrm <| Runs.ret <| kS_ret <| kS_ret ?_
     obtain rfl := Option.some.inj h
     exact ⟨Out.ret_ne, (by kernel_rfl)⟩
    | false =>
     replace h := ite_f hb_32 h
     refine Rc 5 [⟨.ptr [1] 0 5, []⟩, ⟨.d (.int .i64 i1.Reg), []⟩, ⟨.d (.bool (decide (i1.Reg > 7))), []⟩, ⟨.d (.bool (decide (i1.Reg > 7))), []⟩, ⟨.d (.bool (decide (i1.Reg > 7))), []⟩] ?_
     cases hb_33 : ((decide (i1.Reg > 7)) : Bool) with
     | true =>
      replace h := ite_t hb_33 h
      refine Rc 9 [⟨.tup [], []⟩, ⟨.tup [], []⟩, ⟨.tup [], []⟩, ⟨.d (.bool true), []⟩, ⟨.d (.bool true), []⟩, ⟨.tup [], []⟩, ⟨.tup [], []⟩, ⟨.tup [], []⟩, ⟨.d (.bool true), []⟩] <| Rd <| kS_nrm <| Ct <| Sq <| Ro <| Rc 1 [⟨.d (.bool false), []⟩] <| Rd <| kS_nrm <| Runs.ret <| kS_ret <| kS_ret ?_
      obtain rfl := Option.some.inj h
      exact ⟨Out.ret_ne, (by kernel_rfl)⟩
     | false =>
      replace h := ite_f hb_33 h
      refine Rc 5 [⟨.ptr [1] 0 6, []⟩, ⟨.d (.int .i64 i1.RM), []⟩, ⟨.d (.bool (decide (i1.RM < 0))), []⟩, ⟨.d (.bool (decide (i1.RM < 0))), []⟩, ⟨.d (.bool (decide (i1.RM < 0))), []⟩] ?_
      cases hb_34 : ((decide (i1.RM < 0)) : Bool) with
      | true =>
       replace h := ite_t hb_34 h
       refine Rc 4 [⟨.tup [], []⟩, ⟨.tup [], []⟩, ⟨.tup [], []⟩, ⟨.d (.bool true), []⟩] <| Rd <| kS_nrm <| Ct <| Sq <| Ro <| Rc 1 [⟨.d (.bool false), []⟩] <| Rd <| kS_nrm <| Runs.ret <| kS_ret <| kS_ret ?_
       obtain rfl := Option.some.inj h
       exact ⟨Out.ret_ne, (by kernel_rfl)⟩
      | false =>
       replace h := ite_f hb_34 h
       refine Rc 4 [⟨.ptr [1] 0 6, []⟩, ⟨.d (.int .i64 i1.RM), []⟩, ⟨.d (.bool (decide (i1.RM > 7))), []⟩, ⟨.d (.bool (decide (i1.RM > 7))), []⟩] <| Rd <| kS_nrm ?_
       cases hb_35 : ((decide (i1.RM > 7)) : Bool) with
       | true =>
        replace h := ite_t hb_35 h
        refine Ct <| Sq <| Ro <| Rc 1 [⟨.d (.bool false), []⟩] <| Rd <| kS_nrm <| Runs.ret <| kS_ret <| kS_ret ?_
        obtain rfl := Option.some.inj h
        exact ⟨Out.ret_ne, (by kernel_rfl)⟩
       | false =>
        replace h := ite_f hb_35 h
        refine Cf <| Runs.skip <| kS_nrm <| Sq <| Sq <| Ro <| Rc 4 [⟨.ptr [1] 0 4, []⟩, ⟨.d (.int .i64 i1.Mod), []⟩, ⟨.d (.bool (i1.Mod == 3)), []⟩, ⟨.d (.bool (i1.Mod == 3)), []⟩] ?_
        cases hb_36 : ((i1.Mod == 3) : Bool) with
        | true =>
         replace h := ite_t hb_36 h
         refine Rc 4 [⟨.ptr [3] 0 1, []⟩, ⟨.d (.int .i64 r3.A), []⟩, ⟨.d (.bool (r3.A == 19)), []⟩, ⟨.d (.bool (r3.A == 19)), []⟩] ?_
         cases hb_37 : ((r3.A == 19) : Bool) with
         | true =>
          replace h := ite_t hb_37 h
          refine Rc 15 [⟨.tup [], []⟩, ⟨.tup [], []⟩, ⟨.tup [], []⟩, ⟨.d (.bool true), []⟩, ⟨.d (.bool true), []⟩, ⟨.tup [], []⟩, ⟨.tup [], []⟩, ⟨.tup [], []⟩, ⟨.d (.bool true), []⟩, ⟨.d (.bool true), []⟩, ⟨.tup [], []⟩, ⟨.tup [], []⟩, ⟨.tup [], []⟩, ⟨.d (.bool true), []⟩, ⟨.d (.bool true), []⟩] <| Rd <| kS_nrm <| Ct <| Sq <| Ro <| Rc 1 [⟨.d (.bool false), []⟩] <| Rd <| kS_nrm <| Runs.ret <| kS_ret <| kS_ret ?_
          obtain rfl := Option.some.inj h
          exact ⟨Out.ret_ne, (by kernel_rfl)⟩
         | false =>
          replace h := ite_f hb_37 h
          refine Rc 5 [⟨.ptr [3] 0 1, []⟩, ⟨.d (.int .i64 r3.A), []⟩, ⟨.d (.bool (r3.A == 20)), []⟩, ⟨.d (.bool (r3.A == 20)), []⟩, ⟨.d (.bool (r3.A == 20)), []⟩] ?_
          cases hb_38 : ((r3.A == 20) : Bool) with
          | true =>
           replace h := ite_t hb_38 h
           refine Rc 10 [⟨.tup [], []⟩, ⟨.tup [], []⟩, ⟨.tup [], []⟩, ⟨.d (.bool true), []⟩, ⟨.d (.bool true), []⟩, ⟨.tup [], []⟩, ⟨.tup [], []⟩, ⟨.tup [], []⟩, ⟨.d (.bool true), []⟩, ⟨.d (.bool true), []⟩] <| Rd <| kS_nrm <| Ct <| Sq <| Ro <| Rc 1 [⟨.d (.bool false), []⟩] <| Rd <| kS_nrm <| Runs.ret <| kS_ret <| kS_ret ?_
           obtain rfl := Option.some.inj h
           exact ⟨Out.ret_ne, (by kernel_rfl)⟩
          | false =>
           replace h := ite_f hb_38 h
           refine Rc 5 [⟨.ptr [3] 0 2, []⟩, ⟨.d (.int .i64 r3.B), []⟩, ⟨.d (.bool (r3.B == 19)), []⟩, ⟨.d (.bool (r3.B == 19)), []⟩, ⟨.d (.bool (r3.B == 19)), []⟩] ?_
           cases hb_39 : ((r3.B == 19) : Bool) with
           | true =>
            replace h := ite_t hb_39 h
            refine Rc 5 [⟨.tup [], []⟩, ⟨.tup [], []⟩, ⟨.tup [], []⟩, ⟨.d (.bool true), []⟩, ⟨.d (.bool true), []⟩] <| Rd <| kS_nrm <| Ct <| Sq <| Ro <| Rc 1 [⟨.d (.bool false), []⟩] <| Rd <| kS_nrm <| Runs.ret <| kS_ret <| kS_ret ?_
            obtain rfl := Option.some.inj h
            exact ⟨Out.ret_ne, (by kernel_rfl)⟩
           | false =>
            replace h := ite_f hb_39 h
            refine Rc 5 [⟨.ptr [3] 0 2, []⟩, ⟨.d (.int .i64 r3.B), []⟩, ⟨.d (.bool (r3.B == 20)), []⟩, ⟨.d (.bool (r3.B == 20)), []⟩, ⟨.d (.bool (r3.B == 20)), []⟩] <| Rd <| kS_nrm ?_
            cases hb_40 : ((r3.B == 20) : Bool) with
            | true =>
             replace h := ite_t hb_40 h
             refine Ct <| Sq <| Ro <| Rc 1 [⟨.d (.bool false), []⟩] <| Rd <| kS_nrm <| Runs.ret <| kS_ret <| kS_ret ?_
             obtain rfl := Option.some.inj h
             exact ⟨Out.ret_ne, (by kernel_rfl)⟩
            | false =>
             replace h := ite_f hb_40 h
             refine Cf <| Runs.skip <| kS_nrm <| Runs.canon (hansomref05_May_h49 i1 r3) (Canon.nil (by kernel_rfl)) ?_
             exact hansomref05_May_j49_ok i_ i1 r3 r h
        | false =>
         replace h := ite_f hb_36 h
         refine Rc 19 [⟨.tup [], []⟩, ⟨.tup [], []⟩, ⟨.tup [], []⟩, ⟨.tup [], []⟩, ⟨.tup [], []⟩, ⟨.tup [], []⟩, ⟨.tup [], []⟩, ⟨.tup [], []⟩, ⟨.tup [], []⟩, ⟨.tup [], []⟩, ⟨.tup [], []⟩, ⟨.tup [], []⟩, ⟨.tup [], []⟩, ⟨.tup [], []⟩, ⟨.tup [], []⟩, ⟨.tup [], []⟩, ⟨.tup [], []⟩, ⟨.tup [], []⟩, ⟨.d (.bool false), []⟩] <| Rd <| kS_nrm <| Cf <| Runs.skip <| kS_nrm <| Runs.canon (hansomref05_May_h49 i1 r3) (Canon.nil (by kernel_rfl)) ?_
         exact hansomref05_May_j49_ok i_ i1 r3 r h
theorem hansomref05_May_ok (i_ : Inst) (r : Bool) (h : hansomref05_May i_ = some r) : Runs L F9.body ⟨tmOf [.d (Inst.d i_)] 0, updW (fun _ => none) []⟩ (hansomref05_May_Q i_ r) := by
 unfold hansomref05_May at h
 refine Sq <| Ro <| Rc 2 [⟨.ptr [1] 0 0, [([1], some (.cells [.d (.bool i_.Lock), .d (.int .i64 i_.Rep), .d (.int .i64 i_.Seg), .d (.int .u8 i_.Op), .d (.int .i64 i_.Mod), .d (.int .i64 i_.Reg), .d (.int .i64 i_.RM), .d (.int .u16 i_.Disp), .d (.int .u16 i_.Imm), .d (.int .u16 i_.Sel)] 0))]⟩, ⟨.d (.bool false), []⟩] <| Rd <| kS_nrm <| Sq <| Ro <| Rc 1 [⟨.d (Inst.d i_), []⟩] ?_
 obtain ⟨r_1, hr_1, h⟩ := bind_s h
 have hc_1 := hansomref05_Row_L i_ r_1 hr_1
 refine Rt (some 10) (.callf 13) [] none [.d (Inst.d i_)] (.tup [.d (Row.d r_1.1), .d (.bool r_1.2)]) [] (cut_call (call_of (ws := []) (us := []) (by kernel_rfl) (by kernel_rfl) hc_1 (by kernel_rfl) (by kernel_rfl))) <| Rc 6 [⟨.tup [.d (Row.d r_1.1), .d (.bool r_1.2)], []⟩, ⟨.d (Row.d r_1.1), []⟩, ⟨.d (.bool r_1.2), []⟩, ⟨.ptr [3] 0 0, [([3], some (.cells [.d (.int .i64 0), .d (.int .i64 0), .d (.int .i64 0), .d (.bool false)] 0))]⟩, ⟨.tup [], [([3], some (.cells [.d (.int .i64 r_1.1.Name), .d (.int .i64 r_1.1.A), .d (.int .i64 r_1.1.B), .d (.bool r_1.1.Mod)] 0))]⟩, ⟨.d (.bool r_1.2), []⟩] <| Rd <| kS_nrm <| Sq <| Sq <| Ro <| Rc 3 [⟨.d (.bool r_1.2), []⟩, ⟨.d (.bool (!r_1.2)), []⟩, ⟨.d (.bool (!r_1.2)), []⟩] ?_
 cases hb_1 : ((!r_1.2) : Bool) with
 | true =>
  replace h := ite_t hb_1 h
  refine Rc 9 [⟨.tup [], []⟩, ⟨.tup [], []⟩, ⟨.tup [], []⟩, ⟨.d (.bool true), []⟩, ⟨.d (.bool true), []⟩, ⟨.tup [], []⟩, ⟨.tup [], []⟩, ⟨.tup [], []⟩, ⟨.d (.bool true), []⟩] <| Rd <| kS_nrm <| Ct <| Sq <| Ro <| Rc 1 [⟨.d (.bool false), []⟩] <| Rd <| kS_nrm <| Runs.ret <| kS_ret ?_
  obtain rfl := Option.some.inj h
  exact ⟨Out.ret_ne, (by kernel_rfl)⟩
 | false =>
  replace h := ite_f hb_1 h
  refine Rc 5 [⟨.ptr [1] 0 2, []⟩, ⟨.d (.int .i64 i_.Seg), []⟩, ⟨.d (.bool (decide (i_.Seg < 0))), []⟩, ⟨.d (.bool (decide (i_.Seg < 0))), []⟩, ⟨.d (.bool (decide (i_.Seg < 0))), []⟩] ?_
  cases hb_2 : ((decide (i_.Seg < 0)) : Bool) with
  | true =>
   replace h := ite_t hb_2 h
   refine Rc 4 [⟨.tup [], []⟩, ⟨.tup [], []⟩, ⟨.tup [], []⟩, ⟨.d (.bool true), []⟩] <| Rd <| kS_nrm <| Ct <| Sq <| Ro <| Rc 1 [⟨.d (.bool false), []⟩] <| Rd <| kS_nrm <| Runs.ret <| kS_ret ?_
   obtain rfl := Option.some.inj h
   exact ⟨Out.ret_ne, (by kernel_rfl)⟩
  | false =>
   replace h := ite_f hb_2 h
   refine Rc 4 [⟨.ptr [1] 0 2, []⟩, ⟨.d (.int .i64 i_.Seg), []⟩, ⟨.d (.bool (decide (i_.Seg > 4))), []⟩, ⟨.d (.bool (decide (i_.Seg > 4))), []⟩] <| Rd <| kS_nrm ?_
   cases hb_3 : ((decide (i_.Seg > 4)) : Bool) with
   | true =>
    replace h := ite_t hb_3 h
    refine Ct <| Sq <| Ro <| Rc 1 [⟨.d (.bool false), []⟩] <| Rd <| kS_nrm <| Runs.ret <| kS_ret ?_
    obtain rfl := Option.some.inj h
    exact ⟨Out.ret_ne, (by kernel_rfl)⟩
   | false =>
    replace h := ite_f hb_3 h
    refine Cf <| Runs.skip <| kS_nrm <| Sq <| Ro <| Rc 2 [⟨.ptr [3] 0 0, []⟩, ⟨.d (.int .i64 r_1.1.Name), []⟩] ?_
    obtain ⟨r_2, hr_2, h⟩ := bind_s h
    have hc_2 := hansomref04_Repeats_L r_1.1.Name r_2 hr_2
    refine Rt (some 27) (.callf 20) [] none [.d (.int .i64 r_1.1.Name)] (.d (.int .i64 r_2)) [] (cut_call (call_of (ws := []) (us := []) (by kernel_rfl) (by kernel_rfl) hc_2 (by kernel_rfl) (by kernel_rfl))) <| Rc 1 [⟨.d (.int .i64 r_2), []⟩] <| Rd <| kS_nrm <| Sq <| Sq <| Ro <| Rc 4 [⟨.ptr [1] 0 1, []⟩, ⟨.d (.int .i64 i_.Rep), []⟩, ⟨.d (.bool (decide (i_.Rep < 0))), []⟩, ⟨.d (.bool (decide (i_.Rep < 0))), []⟩] ?_
    cases hb_4 : ((decide (i_.Rep < 0)) : Bool) with
    | true =>
     replace h := ite_t hb_4 h
     refine Rc 22 [⟨.tup [], []⟩, ⟨.tup [], []⟩, ⟨.tup [], []⟩, ⟨.d (.bool true), []⟩, ⟨.d (.bool true), []⟩, ⟨.tup [], []⟩, ⟨.tup [], []⟩, ⟨.tup [], []⟩, ⟨.tup [], []⟩, ⟨.tup [], []⟩, ⟨.tup [], []⟩, ⟨.tup [], []⟩, ⟨.d (.bool true), []⟩, ⟨.d (.bool true), []⟩, ⟨.tup [], []⟩, ⟨.tup [], []⟩, ⟨.tup [], []⟩, ⟨.tup [], []⟩, ⟨.tup [], []⟩, ⟨.tup [], []⟩, ⟨.tup [], []⟩, ⟨.d (.bool true), []⟩] <| Rd <| kS_nrm <| Ct <| Sq <| Ro <| Rc 1 [⟨.d (.bool false), []⟩] <| Rd <| kS_nrm <| Runs.ret <| kS_ret ?_
     obtain rfl := Option.some.inj h
     exact ⟨Out.ret_ne, (by kernel_rfl)⟩
    | false =>
     replace h := ite_f hb_4 h
     refine Rc 5 [⟨.ptr [1] 0 1, []⟩, ⟨.d (.int .i64 i_.Rep), []⟩, ⟨.d (.bool (decide (i_.Rep > 2))), []⟩, ⟨.d (.bool (decide (i_.Rep > 2))), []⟩, ⟨.d (.bool (decide (i_.Rep > 2))), []⟩] ?_
     cases hb_5 : ((decide (i_.Rep > 2)) : Bool) with
     | true =>
      replace h := ite_t hb_5 h
      refine Rc 17 [⟨.tup [], []⟩, ⟨.tup [], []⟩, ⟨.tup [], []⟩, ⟨.tup [], []⟩, ⟨.tup [], []⟩, ⟨.tup [], []⟩, ⟨.tup [], []⟩, ⟨.d (.bool true), []⟩, ⟨.d (.bool true), []⟩, ⟨.tup [], []⟩, ⟨.tup [], []⟩, ⟨.tup [], []⟩, ⟨.tup [], []⟩, ⟨.tup [], []⟩, ⟨.tup [], []⟩, ⟨.tup [], []⟩, ⟨.d (.bool true), []⟩] <| Rd <| kS_nrm <| Ct <| Sq <| Ro <| Rc 1 [⟨.d (.bool false), []⟩] <| Rd <| kS_nrm <| Runs.ret <| kS_ret ?_
      obtain rfl := Option.some.inj h
      exact ⟨Out.ret_ne, (by kernel_rfl)⟩
     | false =>
      replace h := ite_f hb_5 h
      refine Rc 4 [⟨.ptr [1] 0 1, []⟩, ⟨.d (.int .i64 i_.Rep), []⟩, ⟨.d (.bool (i_.Rep == 1)), []⟩, ⟨.d (.bool (i_.Rep == 1)), []⟩] ?_
      cases hb_6 : ((i_.Rep == 1) : Bool) with
      | true =>
       replace h := ite_t hb_6 h
       refine Rc 5 [⟨.d (.int .i64 r_2), []⟩, ⟨.d (.bool (decide (r_2 < 2))), []⟩, ⟨.d (.bool (decide (r_2 < 2))), []⟩, ⟨.d (.bool (decide (r_2 < 2))), []⟩, ⟨.d (.bool (decide (r_2 < 2))), []⟩] ?_
       cases hb_7 : ((decide (r_2 < 2)) : Bool) with
       | true =>
        replace h := ite_t hb_7 h
        refine Rc 8 [⟨.tup [], []⟩, ⟨.tup [], []⟩, ⟨.tup [], []⟩, ⟨.tup [], []⟩, ⟨.tup [], []⟩, ⟨.tup [], []⟩, ⟨.tup [], []⟩, ⟨.d (.bool true), []⟩] <| Rd <| kS_nrm <| Ct <| Sq <| Ro <| Rc 1 [⟨.d (.bool false), []⟩] <| Rd <| kS_nrm <| Runs.ret <| kS_ret ?_
        obtain rfl := Option.some.inj h
        exact ⟨Out.ret_ne, (by kernel_rfl)⟩
       | false =>
        replace h := ite_f hb_7 h
        refine Rc 4 [⟨.ptr [1] 0 1, []⟩, ⟨.d (.int .i64 i_.Rep), []⟩, ⟨.d (.bool (i_.Rep == 2)), []⟩, ⟨.d (.bool (i_.Rep == 2)), []⟩] ?_
        cases hb_8 : ((i_.Rep == 2) : Bool) with
        | true =>
         replace h := ite_t hb_8 h
         refine Rc 4 [⟨.d (.int .i64 r_2), []⟩, ⟨.d (.bool (decide (r_2 < 1))), []⟩, ⟨.d (.bool (decide (r_2 < 1))), []⟩, ⟨.d (.bool (decide (r_2 < 1))), []⟩] <| Rd <| kS_nrm ?_
         cases hb_9 : ((decide (r_2 < 1)) : Bool) with
         | true =>
          replace h := ite_t hb_9 h
          refine Ct <| Sq <| Ro <| Rc 1 [⟨.d (.bool false), []⟩] <| Rd <| kS_nrm <| Runs.ret <| kS_ret ?_
          obtain rfl := Option.some.inj h
          exact ⟨Out.ret_ne, (by kernel_rfl)⟩
         | false =>
          replace h := ite_f hb_9 h
          refine Cf <| Runs.skip <| kS_nrm <| Runs.canon (hansomref05_May_h22 i_ r_1.1) (Canon.nil (by kernel_rfl)) ?_
          exact hansomref05_May_j22_ok i_ i_ r_1.1 r h
        | false =>
         replace h := ite_f hb_8 h
         refine Rc 4 [⟨.tup [], []⟩, ⟨.tup [], []⟩, ⟨.d (.bool false), []⟩, ⟨.d (.bool false), []⟩] <| Rd <| kS_nrm <| Cf <| Runs.skip <| kS_nrm <| Runs.canon (hansomref05_May_h22 i_ r_1.1) (Canon.nil (by kernel_rfl)) ?_
         exact hansomref05_May_j22_ok i_ i_ r_1.1 r h
      | false =>
       replace h := ite_f hb_6 h
       refine Rc 9 [⟨.tup [], []⟩, ⟨.tup [], []⟩, ⟨.d (.bool false), []⟩, ⟨.d (.bool false), []⟩, ⟨.d (.bool false), []⟩, ⟨.ptr [1] 0 1, []⟩, ⟨.d (.int .i64 i_.Rep), []⟩, ⟨.d (.bool (i_.Rep == 2)), []⟩, ⟨.d (.bool (i_.Rep == 2)), []⟩] ?_
       cases hb_47 : ((i_.Rep == 2) : Bool) with
       | true =>
        replace h := ite_t hb_47 h
        refine Rc 4 [⟨.d (.int .i64 r_2), []⟩, ⟨.d (.bool (decide (r_2 < 1))), []⟩, ⟨.d (.bool (decide (r_2 < 1))), []⟩, ⟨.d (.bool (decide (r_2 < 1))), []⟩] <| Rd <| kS_nrm ?_
        cases hb_48 : ((decide (r_2 < 1)) : Bool) with
        | true =>
         replace h := ite_t hb_48 h
         refine Ct <| Sq <| Ro <| Rc 1 [⟨.d (.bool false), []⟩] <| Rd <| kS_nrm <| Runs.ret <| kS_ret ?_
         obtain rfl := Option.some.inj h
         exact ⟨Out.ret_ne, (by kernel_rfl)⟩
        | false =>
         replace h := ite_f hb_48 h
         refine Cf <| Runs.skip <| kS_nrm <| Runs.canon (hansomref05_May_h22 i_ r_1.1) (Canon.nil (by kernel_rfl)) ?_
         exact hansomref05_May_j22_ok i_ i_ r_1.1 r h
       | false =>
        replace h := ite_f hb_47 h
        refine Rc 4 [⟨.tup [], []⟩, ⟨.tup [], []⟩, ⟨.d (.bool false), []⟩, ⟨.d (.bool false), []⟩] <| Rd <| kS_nrm <| Cf <| Runs.skip <| kS_nrm <| Runs.canon (hansomref05_May_h22 i_ r_1.1) (Canon.nil (by kernel_rfl)) ?_
        exact hansomref05_May_j22_ok i_ i_ r_1.1 r h
theorem hansomref05_May_L (i_ : Inst) (r : Bool) (h : hansomref05_May i_ = some r) : L 9 [.d (Inst.d i_)] = some (.d (.bool r), [.d (Inst.d i_)]) := by
 obtain ⟨p, ⟨hne, hf⟩, hr⟩ := hansomref05_May_ok i_ r h
 obtain ⟨k, hk⟩ := run_of (F := F9) (args := [.d (Inst.d i_)]) (ap := [.d (Inst.d i_)]) (bx0 := updW (fun _ => none) []) rfl rfl (by kernel_rfl) ⟨p, ⟨hne, hf⟩, hr⟩
 exact lim_run (k := k) rfl hk
def hansomref01_Sign_Q (b_ : Int) (r : Int) (p : Out × St) : Prop := (∀ i, p.1 ≠ .exit i) ∧ finF F18 [.d (.int .u8 b_)] p.2 = some (.d (.int .u16 r), [.d (.int .u8 b_)])
theorem hansomref01_Sign_ok (b_ : Int) (r : Int) (h : hansomref01_Sign b_ = some r) : Runs L F18.body ⟨tmOf [.d (.int .u8 b_)] 0, updW (fun _ => none) []⟩ (hansomref01_Sign_Q b_ r) := by
 unfold hansomref01_Sign at h
 refine Sq <| Ro <| Rc 1 [⟨.d (.int .u16 0), []⟩] <| Rd <| kS_nrm <| Sq <| Sq <| Ro <| Rc 2 [⟨.d (.int .u8 b_), []⟩, ⟨.d (.bool (decide (b_ < 128))), []⟩] <| Rd <| kS_nrm ?_
 cases hb_1 : ((decide (b_ < 128)) : Bool) with
 | true =>
  replace h := ite_t hb_1 h
  refine Ct <| Sq <| Ro <| Rc 3 [⟨.d (.int .u8 b_), []⟩, ⟨.d (.int .u16 (IntKind.wrap .u16 b_)), []⟩, ⟨.d (.int .u16 (IntKind.wrap .u16 b_)), []⟩] <| Rd <| kS_nrm <| Runs.ret <| kS_ret ?_
  obtain rfl := Option.some.inj h
  exact ⟨Out.ret_ne, (by kernel_rfl)⟩
 | false =>
  replace h := ite_f hb_1 h
  refine Cf <| Runs.skip <| kS_nrm <| Sq <| Ro <| Rc 4 [⟨.d (.int .u8 b_), []⟩, ⟨.d (.int .u16 (IntKind.wrap .u16 b_)), []⟩, ⟨.d (.int .u16 (IntKind.wrap .u16 (65280 + (IntKind.wrap .u16 b_)))), []⟩, ⟨.d (.int .u16 (IntKind.wrap .u16 (65280 + (IntKind.wrap .u16 b_)))), []⟩] <| Rd <| kS_nrm <| Runs.ret ?_
  obtain rfl := Option.some.inj h
  exact ⟨Out.ret_ne, (by kernel_rfl)⟩
theorem hansomref01_Sign_L (b_ : Int) (r : Int) (h : hansomref01_Sign b_ = some r) : L 18 [.d (.int .u8 b_)] = some (.d (.int .u16 r), [.d (.int .u8 b_)]) := by
 obtain ⟨p, ⟨hne, hf⟩, hr⟩ := hansomref01_Sign_ok b_ r h
 obtain ⟨k, hk⟩ := run_of (F := F18) (args := [.d (.int .u8 b_)]) (ap := [.d (.int .u8 b_)]) (bx0 := updW (fun _ => none) []) rfl rfl (by kernel_rfl) ⟨p, ⟨hne, hf⟩, hr⟩
 exact lim_run (k := k) rfl hk
def hansomref05_Near_h35 (x1 : Inst) (i2 : Inst) (r3 : Row) : St := ⟨tab [(1, .ptr [1] 0 0), (2, .ptr [2] 0 0), (3, .ptr [3] 0 0)], tabB [([1], some (.cells [.d (.bool x1.Lock), .d (.int .i64 x1.Rep), .d (.int .i64 x1.Seg), .d (.int .u8 x1.Op), .d (.int .i64 x1.Mod), .d (.int .i64 x1.Reg), .d (.int .i64 x1.RM), .d (.int .u16 x1.Disp), .d (.int .u16 x1.Imm), .d (.int .u16 x1.Sel)] 0)), ([2], some (.cells [.d (.bool i2.Lock), .d (.int .i64 i2.Rep), .d (.int .i64 i2.Seg), .d (.int .u8 i2.Op), .d (.int .i64 i2.Mod), .d (.int .i64 i2.Reg), .d (.int .i64 i2.RM), .d (.int .u16 i2.Disp), .d (.int .u16 i2.Imm), .d (.int .u16 i2.Sel)] 0)), ([3], some (.cells [.d (.int .i64 r3.Name), .d (.int .i64 r3.A), .d (.int .i64 r3.B), .d (.bool r3.Mod)] 0))]⟩
def hansomref05_Near_h43 (x1 : Inst) (i2 : Inst) (r3 : Row) (k5 : Int) : St := ⟨tab [(1, .ptr [1] 0 0), (2, .ptr [2] 0 0), (3, .ptr [3] 0 0), (5, .d (.int .i64 k5))], tabB [([1], some (.cells [.d (.bool x1.Lock), .d (.int .i64 x1.Rep), .d (.int .i64 x1.Seg), .d (.int .u8 x1.Op), .d (.int .i64 x1.Mod), .d (.int .i64 x1.Reg), .d (.int .i64 x1.RM), .d (.int .u16 x1.Disp), .d (.int .u16 x1.Imm), .d (.int .u16 x1.Sel)] 0)), ([2], some (.cells [.d (.bool i2.Lock), .d (.int .i64 i2.Rep), .d (.int .i64 i2.Seg), .d (.int .u8 i2.Op), .d (.int .i64 i2.Mod), .d (.int .i64 i2.Reg), .d (.int .i64 i2.RM), .d (.int .u16 i2.Disp), .d (.int .u16 i2.Imm), .d (.int .u16 i2.Sel)] 0)), ([3], some (.cells [.d (.int .i64 r3.Name), .d (.int .i64 r3.A), .d (.int .i64 r3.B), .d (.bool r3.Mod)] 0))]⟩
def hansomref05_Near_h86 (x1 : Inst) (i2 : Inst) (r3 : Row) : St := ⟨tab [(1, .ptr [1] 0 0), (2, .ptr [2] 0 0), (3, .ptr [3] 0 0)], tabB [([1], some (.cells [.d (.bool x1.Lock), .d (.int .i64 x1.Rep), .d (.int .i64 x1.Seg), .d (.int .u8 x1.Op), .d (.int .i64 x1.Mod), .d (.int .i64 x1.Reg), .d (.int .i64 x1.RM), .d (.int .u16 x1.Disp), .d (.int .u16 x1.Imm), .d (.int .u16 x1.Sel)] 0)), ([2], some (.cells [.d (.bool i2.Lock), .d (.int .i64 i2.Rep), .d (.int .i64 i2.Seg), .d (.int .u8 i2.Op), .d (.int .i64 i2.Mod), .d (.int .i64 i2.Reg), .d (.int .i64 i2.RM), .d (.int .u16 i2.Disp), .d (.int .u16 i2.Imm), .d (.int .u16 i2.Sel)] 0)), ([3], some (.cells [.d (.int .i64 r3.Name), .d (.int .i64 r3.A), .d (.int .i64 r3.B), .d (.bool r3.Mod)] 0))]⟩
def hansomref05_Near_h100 (x1 : Inst) (i2 : Inst) : St := ⟨tab [(1, .ptr [1] 0 0), (2, .ptr [2] 0 0)], tabB [([1], some (.cells [.d (.bool x1.Lock), .d (.int .i64 x1.Rep), .d (.int .i64 x1.Seg), .d (.int .u8 x1.Op), .d (.int .i64 x1.Mod), .d (.int .i64 x1.Reg), .d (.int .i64 x1.RM), .d (.int .u16 x1.Disp), .d (.int .u16 x1.Imm), .d (.int .u16 x1.Sel)] 0)), ([2], some (.cells [.d (.bool i2.Lock), .d (.int .i64 i2.Rep), .d (.int .i64 i2.Seg), .d (.int .u8 i2.Op), .d (.int .i64 i2.Mod), .d (.int .i64 i2.Reg), .d (.int .i64 i2.RM), .d (.int .u16 i2.Disp), .d (.int .u16 i2.Imm), .d (.int .u16 i2.Sel)] 0))]⟩
def hansomref05_Near_h63 (x1 : Inst) (i2 : Inst) (r3 : Row) (t61 : Int) (t77 : Bool) : St := ⟨tab [(1, .ptr [1] 0 0), (2, .ptr [2] 0 0), (3, .ptr [3] 0 0), (61, .d (.int .i64 t61)), (77, .d (.bool t77))], tabB [([1], some (.cells [.d (.bool x1.Lock), .d (.int .i64 x1.Rep), .d (.int .i64 x1.Seg), .d (.int .u8 x1.Op), .d (.int .i64 x1.Mod), .d (.int .i64 x1.Reg), .d (.int .i64 x1.RM), .d (.int .u16 x1.Disp), .d (.int .u16 x1.Imm), .d (.int .u16 x1.Sel)] 0)), ([2], some (.cells [.d (.bool i2.Lock), .d (.int .i64 i2.Rep), .d (.int .i64 i2.Seg), .d (.int .u8 i2.Op), .d (.int .i64 i2.Mod), .d (.int .i64 i2.Reg), .d (.int .i64 i2.RM), .d (.int .u16 i2.Disp), .d (.int .u16 i2.Imm), .d (.int .u16 i2.Sel)] 0)), ([3], some (.cells [.d (.int .i64 r3.Name), .d (.int .i64 r3.A), .d (.int .i64 r3.B), .d (.bool r3.Mod)] 0))]⟩
def hansomref05_Near_h79 (x1 : Inst) (i2 : Inst) (r3 : Row) (t61 : Int) (t86 : Bool) : St := ⟨tab [(1, .ptr [1] 0 0), (2, .ptr [2] 0 0), (3, .ptr [3] 0 0), (61, .d (.int .i64 t61)), (86, .d (.bool t86))], tabB [([1], some (.cells [.d (.bool x1.Lock), .d (.int .i64 x1.Rep), .d (.int .i64 x1.Seg), .d (.int .u8 x1.Op), .d (.int .i64 x1.Mod), .d (.int .i64 x1.Reg), .d (.int .i64 x1.RM), .d (.int .u16 x1.Disp), .d (.int .u16 x1.Imm), .d (.int .u16 x1.Sel)] 0)), ([2], some (.cells [.d (.bool i2.Lock), .d (.int .i64 i2.Rep), .d (.int .i64 i2.Seg), .d (.int .u8 i2.Op), .d (.int .i64 i2.Mod), .d (.int .i64 i2.Reg), .d (.int .i64 i2.RM), .d (.int .u16 i2.Disp), .d (.int .u16 i2.Imm), .d (.int .u16 i2.Sel)] 0)), ([3], some (.cells [.d (.int .i64 r3.Name), .d (.int .i64 r3.A), .d (.int .i64 r3.B), .d (.bool r3.Mod)] 0))]⟩
def hansomref05_Near_Q (x_ : Inst) (r : Inst) (p : Out × St) : Prop := (∀ i, p.1 ≠ .exit i) ∧ finF F7 [.d (Inst.d x_)] p.2 = some (.d (Inst.d r), [.d (Inst.d x_)])
theorem hansomref05_Near_j100_ok (x_ : Inst) (x1 : Inst) (i2 : Inst) (r : Inst) (h : hansomref05_Near_j100 x1 i2 = some r) : Runs L F7b100 (hansomref05_Near_h100 x1 i2) (hansomref05_Near_Q x_ r) := by
 unfold hansomref05_Near_j100 at h
 refine Sq <| Sq <| Ro <| Rc 4 [⟨.ptr [1] 0 2, []⟩, ⟨.d (.int .i64 x1.Seg), []⟩, ⟨.d (.int .i64 (bitsOp .and .i64 x1.Seg 7)), []⟩, ⟨.d (.bool (decide ((bitsOp .and .i64 x1.Seg 7) ≤ 4))), []⟩] <| Rd <| kS_nrm ?_
 cases hb_10 : ((decide ((bitsOp .and .i64 x1.Seg 7) ≤ 4)) : Bool) with
 | true =>
  replace h := ite_t hb_10 h
  refine Ct <| Ro <| Rc 5 [⟨.ptr [1] 0 2, []⟩, ⟨.d (.int .i64 x1.Seg), []⟩, ⟨.d (.int .i64 (bitsOp .and .i64 x1.Seg 7)), []⟩, ⟨.ptr [2] 0 2, []⟩, ⟨.tup [], [([2], some (.cells [.d (.bool i2.Lock), .d (.int .i64 i2.Rep), .d (.int .i64 (bitsOp .and .i64 x1.Seg 7)), .d (.int .u8 i2.Op), .d (.int .i64 i2.Mod), .d (.int .i64 i2.Reg), .d (.int .i64 i2.RM), .d (.int .u16 i2.Disp), .d (.int .u16 i2.Imm), .d (.int .u16 i2.Sel)] 0))]⟩] <| Rd <| kS_nrm <| Sq <| Sq <| Ro <| Rc 1 [⟨.d (.agg [.bool i2.Lock, .int .i64 i2.Rep, .int .i64 (bitsOp .and .i64 x1.Seg 7), .int .u8 i2.Op, .int .i64 i2.Mod, .int .i64 i2.Reg, .int .i64 i2.RM, .int .u16 i2.Disp, .int .u16 i2.Imm, .int .u16 i2.Sel]), []⟩] ?_
  obtain ⟨r_4, hr_4, h⟩ := bind_s h
  have hc_4 := hansomref05_May_L ({ Lock := i2.Lock, Rep := i2.Rep, Seg := (bitsOp .and .i64 x1.Seg 7), Op := i2.Op, Mod := i2.Mod, Reg := i2.Reg, RM := i2.RM, Disp := i2.Disp, Imm := i2.Imm, Sel := i2.Sel } : Inst) r_4 hr_4
  refine Rt (some 132) (.callf 9) [] none [.d (.agg [.bool i2.Lock, .int .i64 i2.Rep, .int .i64 (bitsOp .and .i64 x1.Seg 7), .int .u8 i2.Op, .int .i64 i2.Mod, .int .i64 i2.Reg, .int .i64 i2.RM, .int .u16 i2.Disp, .int .u16 i2.Imm, .int .u16 i2.Sel])] (.d (.bool r_4)) [] (cut_call (call_of (ws := []) (us := []) (by kernel_rfl) (by kernel_rfl) hc_4 (by kernel_rfl) (by kernel_rfl))) <| Rc 1 [⟨.d (.bool (!r_4)), []⟩] <| Rd <| kS_nrm ?_
  cases hb_11 : ((!r_4) : Bool) with
  | true =>
   replace h := ite_t hb_11 h
   refine Ct <| Sq <| Ro <| Rc 2 [⟨.d (.agg [.bool false, .int .i64 0, .int .i64 0, .int .u8 144, .int .i64 0, .int .i64 0, .int .i64 0, .int .u16 0, .int .u16 0, .int .u16 0]), []⟩, ⟨.tup [], [([2], some (.cells [.d (.bool false), .d (.int .i64 0), .d (.int .i64 0), .d (.int .u8 144), .d (.int .i64 0), .d (.int .i64 0), .d (.int .i64 0), .d (.int .u16 0), .d (.int .u16 0), .d (.int .u16 0)] 0))]⟩] <| Rd <| kS_nrm <| Runs.ret <| kS_ret ?_
   obtain rfl := Option.some.inj h
   exact ⟨Out.ret_ne, (by kernel_rfl)⟩
  | false =>
   replace h := ite_f hb_11 h
   refine Cf <| Runs.skip <| kS_nrm <| Sq <| Ro <| Rc 2 [⟨.d (.agg [.bool i2.Lock, .int .i64 i2.Rep, .int .i64 (bitsOp .and .i64 x1.Seg 7), .int .u8 i2.Op, .int .i64 i2.Mod, .int .i64 i2.Reg, .int .i64 i2.RM, .int .u16 i2.Disp, .int .u16 i2.Imm, .int .u16 i2.Sel]), []⟩, ⟨.tup [], [([2], some (.cells [.d (.bool i2.Lock), .d (.int .i64 i2.Rep), .d (.int .i64 (bitsOp .and .i64 x1.Seg 7)), .d (.int .u8 i2.Op), .d (.int .i64 i2.Mod), .d (.int .i64 i2.Reg), .d (.int .i64 i2.RM), .d (.int .u16 i2.Disp), .d (.int .u16 i2.Imm), .d (.int .u16 i2.Sel)] 0))]⟩] <| Rd <| kS_nrm <| Runs.ret ?_
   obtain rfl := Option.some.inj h
   exact ⟨Out.ret_ne, (by kernel_rfl)⟩
 | false =>
  replace h := ite_f hb_10 h
  refine Cf <| Runs.skip <| kS_nrm <| Sq <| Sq <| Ro <| Rc 1 [⟨.d (Inst.d i2), []⟩] ?_
  obtain ⟨r_5, hr_5, h⟩ := bind_s h
  have hc_5 := hansomref05_May_L i2 r_5 hr_5
  refine Rt (some 132) (.callf 9) [] none [.d (Inst.d i2)] (.d (.bool r_5)) [] (cut_call (call_of (ws := []) (us := []) (by kernel_rfl) (by kernel_rfl) hc_5 (by kernel_rfl) (by kernel_rfl))) <| Rc 1 [⟨.d (.bool (!r_5)), []⟩] <| Rd <| kS_nrm ?_
  cases hb_12 : ((!r_5) : Bool) with
  | true =>
   replace h := ite_t hb_12 h
   refine Ct <| Sq <| Ro <| Rc 2 [⟨.d (.agg [.bool false, .int .i64 0, .int .i64 0, .int .u8 144, .int .i64 0, .int .i64 0, .int .i64 0, .int .u16 0, .int .u16 0, .int .u16 0]), []⟩, ⟨.tup [], [([2], some (.cells [.d (.bool false), .d (.int .i64 0), .d (.int .i64 0), .d (.int .u8 144), .d (.int .i64 0), .d (.int .i64 0), .d (.int .i64 0), .d (.int .u16 0), .d (.int .u16 0), .d (.int .u16 0)] 0))]⟩] <| Rd <| kS_nrm <| Runs.ret <| kS_ret ?_
   obtain rfl := Option.some.inj h
   exact ⟨Out.ret_ne, (by kernel_rfl)⟩
  | false =>
   replace h := ite_f hb_12 h
   refine Cf <| Runs.skip <| kS_nrm <| Sq <| Ro <| Rc 2 [⟨.d (Inst.d i2), []⟩, ⟨.tup [], [([2], some (.cells [.d (.bool i2.Lock), .d (.int .i64 i2.Rep), .d (.int .i64 i2.Seg), .d (.int .u8 i2.Op), .d (.int .i64 i2.Mod), .d (.int .i64 i2.Reg), .d (.int .i64 i2.RM), .d (.int .u16 i2.Disp), .d (.int .u16 i2.Imm), .d (.int .u16 i2.Sel)] 0))]⟩] <| Rd <| kS_nrm <| Runs.ret ?_
   obtain rfl := Option.some.inj h
   exact ⟨Out.ret_ne, (by kernel_rfl)⟩
theorem hansomref05_Near_j86_ok (x_ : Inst) (x1 : Inst) (i2 : Inst) (r3 : Row) (r : Inst) (h : hansomref05_Near_j86 x1 i2 r3 = some r) : Runs L F7b86 (hansomref05_Near_h86 x1 i2 r3) (hansomref05_Near_Q x_ r) := by
 unfold hansomref05_Near_j86 at h
 refine Sq <| Sq <| Ro <| Rc 2 [⟨.ptr [3] 0 0, []⟩, ⟨.d (.int .i64 r3.Name), []⟩] ?_
 obtain ⟨r_3, hr_3, h⟩ := bind_s h
 have hc_3 := hansomref04_Repeats_L r3.Name r_3 hr_3
 refine Rt (some 104) (.callf 20) [] none [.d (.int .i64 r3.Name)] (.d (.int .i64 r_3)) [] (cut_call (call_of (ws := []) (us := []) (by kernel_rfl) (by kernel_rfl) hc_3 (by kernel_rfl) (by kernel_rfl))) <| Rc 1 [⟨.d (.int .i64 r_3), []⟩] <| Rd <| kS_nrm <| Sq <| Ro <| Rc 3 [⟨.d (.int .i64 r_3), []⟩, ⟨.d (.bool (decide (r_3 > 0))), []⟩, ⟨.d (.bool (decide (r_3 > 0))), []⟩] ?_
 cases hb_6 : ((decide (r_3 > 0)) : Bool) with
 | true =>
  replace h := ite_t hb_6 h
  refine Rc 5 [⟨.ptr [1] 0 1, []⟩, ⟨.d (.int .i64 x1.Rep), []⟩, ⟨.d (.int .i64 (bitsOp .and .i64 x1.Rep 3)), []⟩, ⟨.d (.bool (decide ((bitsOp .and .i64 x1.Rep 3) > 0))), []⟩, ⟨.d (.bool (decide ((bitsOp .and .i64 x1.Rep 3) > 0))), []⟩] <| Rd <| kS_nrm ?_
  cases hb_7 : ((decide ((bitsOp .and .i64 x1.Rep 3) > 0)) : Bool) with
  | true =>
   replace h := ite_t hb_7 h
   refine Ct <| Sq <| Ro <| Rc 2 [⟨.ptr [2] 0 1, []⟩, ⟨.tup [], [([2], some (.cells [.d (.bool i2.Lock), .d (.int .i64 2), .d (.int .i64 i2.Seg), .d (.int .u8 i2.Op), .d (.int .i64 i2.Mod), .d (.int .i64 i2.Reg), .d (.int .i64 i2.RM), .d (.int .u16 i2.Disp), .d (.int .u16 i2.Imm), .d (.int .u16 i2.Sel)] 0))]⟩] <| Rd <| kS_nrm <| Sq <| Ro <| Rc 3 [⟨.d (.int .i64 r_3), []⟩, ⟨.d (.bool (r_3 == 2)), []⟩, ⟨.d (.bool (r_3 == 2)), []⟩] ?_
   cases hb_8 : ((r_3 == 2) : Bool) with
   | true =>
    replace h := ite_t hb_8 h
    refine Rc 5 [⟨.ptr [1] 0 1, []⟩, ⟨.d (.int .i64 x1.Rep), []⟩, ⟨.d (.int .i64 (bitsOp .and .i64 x1.Rep 1)), []⟩, ⟨.d (.bool ((bitsOp .and .i64 x1.Rep 1) == 1)), []⟩, ⟨.d (.bool ((bitsOp .and .i64 x1.Rep 1) == 1)), []⟩] <| Rd <| kS_nrm ?_
    cases hb_9 : (((bitsOp .and .i64 x1.Rep 1) == 1) : Bool) with
    | true =>
     replace h := ite_t hb_9 h
     refine Ct <| Ro <| Rc 2 [⟨.ptr [2] 0 1, []⟩, ⟨.tup [], [([2], some (.cells [.d (.bool i2.Lock), .d (.int .i64 1), .d (.int .i64 i2.Seg), .d (.int .u8 i2.Op), .d (.int .i64 i2.Mod), .d (.int .i64 i2.Reg), .d (.int .i64 i2.RM), .d (.int .u16 i2.Disp), .d (.int .u16 i2.Imm), .d (.int .u16 i2.Sel)] 0))]⟩] <| Rd <| kS_nrm <| Runs.canon (hansomref05_Near_h100 x1 ({ Lock := i2.Lock, Rep := 1, Seg := i2.Seg, Op := i2.Op, Mod := i2.Mod, Reg := i2.Reg, RM := i2.RM, Disp := i2.Disp, Imm := i2.Imm, Sel := i2.Sel } : Inst)) (Canon.nil (by kernel_rfl)) ?_
     exact hansomref05_Near_j100_ok x_ x1 ({ Lock := i2.Lock, Rep := 1, Seg := i2.Seg, Op := i2.Op, Mod := i2.Mod, Reg := i2.Reg, RM := i2.RM, Disp := i2.Disp, Imm := i2.Imm, Sel := i2.Sel } : Inst) r h
    | false =>
     replace h := ite_f hb_9 h
     refine Cf <| Runs.skip <| kS_nrm <| Runs.canon (hansomref05_Near_h100 x1 ({ Lock := i2.Lock, Rep := 2, Seg := i2.Seg, Op := i2.Op, Mod := i2.Mod, Reg := i2.Reg, RM := i2.RM, Disp := i2.Disp, Imm := i2.Imm, Sel := i2.Sel } : Inst)) (Canon.nil (by kernel_rfl)) ?_
     exact hansomref05_Near_j100_ok x_ x1 ({ Lock := i2.Lock, Rep := 2, Seg := i2.Seg, Op := i2.Op, Mod := i2.Mod, Reg := i2.Reg, RM := i2.RM, Disp := i2.Disp, Imm := i2.Imm, Sel := i2.Sel } : Inst) r h
   | false =>
    replace h := ite_f hb_8 h
    refine Rc 5 [⟨.tup [], []⟩, ⟨.tup [], []⟩, ⟨.tup [], []⟩, ⟨.tup [], []⟩, ⟨.d (.bool false), []⟩] <| Rd <| kS_nrm <| Cf <| Runs.skip <| kS_nrm <| Runs.canon (hansomref05_Near_h100 x1 ({ Lock := i2.Lock, Rep := 2, Seg := i2.Seg, Op := i2.Op, Mod := i2.Mod, Reg := i2.Reg, RM := i2.RM, Disp := i2.Disp, Imm := i2.Imm, Sel := i2.Sel } : Inst)) (Canon.nil (by kernel_rfl)) ?_
    exact hansomref05_Near_j100_ok x_ x1 ({ Lock := i2.Lock, Rep := 2, Seg := i2.Seg, Op := i2.Op, Mod := i2.Mod, Reg := i2.Reg, RM := i2.RM, Disp := i2.Disp, Imm := i2.Imm, Sel := i2.Sel } : Inst) r h
  | false =>
   replace h := ite_f hb_7 h
   refine Cf <| Runs.skip <| kS_nrm <| Runs.canon (hansomref05_Near_h100 x1 i2) (Canon.nil (by kernel_rfl)) ?_
   exact hansomref05_Near_j100_ok x_ x1 i2 r h
 | false =>
  replace h := ite_f hb_6 h
  refine Rc 5 [⟨.tup [], []⟩, ⟨.tup [], []⟩, ⟨.tup [], []⟩, ⟨.tup [], []⟩, ⟨.d (.bool false), []⟩] <| Rd <| kS_nrm <| Cf <| Runs.skip <| kS_nrm <| Runs.canon (hansomref05_Near_h100 x1 i2) (Canon.nil (by kernel_rfl)) ?_
  exact hansomref05_Near_j100_ok x_ x1 i2 r h
theorem hansomref05_Near_j79_ok (x_ : Inst) (x1 : Inst) (i2 : Inst) (r3 : Row) (t61 : Int) (t86 : Bool) (r : Inst) (h : hansomref05_Near_j79 x1 i2 r3 t61 t86 = some r) : Runs L F7b79 (hansomref05_Near_h79 x1 i2 r3 t61 t86) (kB 1 (kS L F7c86 (hansomref05_Near_Q x_ r))) := by
 unfold hansomref05_Near_j79 at h
 cases hb_17 : (t86 : Bool) with
 | true =>
  replace h := ite_t hb_17 h
  refine Ct <| Ro <| Rc 4 [⟨.ptr [1] 0 8, []⟩, ⟨.d (.int .u16 x1.Imm), []⟩, ⟨.ptr [2] 0 8, []⟩, ⟨.tup [], [([2], some (.cells [.d (.bool i2.Lock), .d (.int .i64 i2.Rep), .d (.int .i64 i2.Seg), .d (.int .u8 i2.Op), .d (.int .i64 i2.Mod), .d (.int .i64 i2.Reg), .d (.int .i64 i2.RM), .d (.int .u16 i2.Disp), .d (.int .u16 x1.Imm), .d (.int .u16 i2.Sel)] 0))]⟩] <| Rd <| kB_nrm <| kS_nrm <| Runs.canon (hansomref05_Near_h86 x1 ({ Lock := i2.Lock, Rep := i2.Rep, Seg := i2.Seg, Op := i2.Op, Mod := i2.Mod, Reg := i2.Reg, RM := i2.RM, Disp := i2.Disp, Imm := x1.Imm, Sel := i2.Sel } : Inst) r3) (Canon.nil (by kernel_rfl)) ?_
  exact hansomref05_Near_j86_ok x_ x1 ({ Lock := i2.Lock, Rep := i2.Rep, Seg := i2.Seg, Op := i2.Op, Mod := i2.Mod, Reg := i2.Reg, RM := i2.RM, Disp := i2.Disp, Imm := x1.Imm, Sel := i2.Sel } : Inst) r3 r h
 | false =>
  replace h := ite_f hb_17 h
  refine Cf <| Sq <| Ro <| Rc 2 [⟨.d (.bool (t61 == 11)), []⟩, ⟨.d (.bool (t61 == 11)), []⟩] <| Rd <| kS_nrm ?_
  cases hb_18 : ((t61 == 11) : Bool) with
  | true =>
   replace h := ite_t hb_18 h
   refine Ct <| Ro <| Rc 8 [⟨.ptr [1] 0 8, []⟩, ⟨.d (.int .u16 x1.Imm), []⟩, ⟨.ptr [1] 0 9, []⟩, ⟨.d (.int .u16 x1.Sel), []⟩, ⟨.ptr [2] 0 8, []⟩, ⟨.tup [], [([2], some (.cells [.d (.bool i2.Lock), .d (.int .i64 i2.Rep), .d (.int .i64 i2.Seg), .d (.int .u8 i2.Op), .d (.int .i64 i2.Mod), .d (.int .i64 i2.Reg), .d (.int .i64 i2.RM), .d (.int .u16 i2.Disp), .d (.int .u16 x1.Imm), .d (.int .u16 i2.Sel)] 0))]⟩, ⟨.ptr [2] 0 9, []⟩, ⟨.tup [], [([2], some (.cells [.d (.bool i2.Lock), .d (.int .i64 i2.Rep), .d (.int .i64 i2.Seg), .d (.int .u8 i2.Op), .d (.int .i64 i2.Mod), .d (.int .i64 i2.Reg), .d (.int .i64 i2.RM), .d (.int .u16 i2.Disp), .d (.int .u16 x1.Imm), .d (.int .u16 x1.Sel)] 0))]⟩] <| Rd <| kB_nrm <| kS_nrm <| Runs.canon (hansomref05_Near_h86 x1 ({ Lock := i2.Lock, Rep := i2.Rep, Seg := i2.Seg, Op := i2.Op, Mod := i2.Mod, Reg := i2.Reg, RM := i2.RM, Disp := i2.Disp, Imm := x1.Imm, Sel := x1.Sel } : Inst) r3) (Canon.nil (by kernel_rfl)) ?_
   exact hansomref05_Near_j86_ok x_ x1 ({ Lock := i2.Lock, Rep := i2.Rep, Seg := i2.Seg, Op := i2.Op, Mod := i2.Mod, Reg := i2.Reg, RM := i2.RM, Disp := i2.Disp, Imm := x1.Imm, Sel := x1.Sel } : Inst) r3 r h
  | false =>
   replace h := ite_f hb_18 h
   refine Cf <| Runs.skip <| kB_nrm <| kS_nrm <| Runs.canon (hansomref05_Near_h86 x1 i2 r3) (Canon.nil (by kernel_rfl)) ?_
   exact hansomref05_Near_j86_ok x_ x1 i2 r3 r h
theorem hansomref05_Near_j63_ok (x_ : Inst) (x1 : Inst) (i2 : Inst) (r3 : Row) (t61 : Int) (t77 : Bool) (r : Inst) (h : hansomref05_Near_j63 x1 i2 r3 t61 t77 = some r) : Runs L F7b63 (hansomref05_Near_h63 x1 i2 r3 t61 t77) (kB 1 (kS L F7c86 (hansomref05_Near_Q x_ r))) := by
 unfold hansomref05_Near_j63 at h
 cases hb_15 : (t77 : Bool) with
 | true =>
  replace h := ite_t hb_15 h
  refine Ct <| Ro <| Rc 4 [⟨.ptr [1] 0 8, []⟩, ⟨.d (.int .u16 x1.Imm), []⟩, ⟨.d (.int .u16 (Int.tmod x1.Imm 256)), []⟩, ⟨.d (.int .u8 (IntKind.wrap .u8 (Int.tmod x1.Imm 256))), []⟩] ?_
  obtain ⟨r_6, hr_6, h⟩ := bind_s h
  have hc_6 := hansomref01_Sign_L (IntKind.wrap .u8 (Int.tmod x1.Imm 256)) r_6 hr_6
  refine Rt (some 84) (.callf 18) [] none [.d (.int .u8 (IntKind.wrap .u8 (Int.tmod x1.Imm 256)))] (.d (.int .u16 r_6)) [] (cut_call (call_of (ws := []) (us := []) (by kernel_rfl) (by kernel_rfl) hc_6 (by kernel_rfl) (by kernel_rfl))) <| Rc 2 [⟨.ptr [2] 0 8, []⟩, ⟨.tup [], [([2], some (.cells [.d (.bool i2.Lock), .d (.int .i64 i2.Rep), .d (.int .i64 i2.Seg), .d (.int .u8 i2.Op), .d (.int .i64 i2.Mod), .d (.int .i64 i2.Reg), .d (.int .i64 i2.RM), .d (.int .u16 i2.Disp), .d (.int .u16 r_6), .d (.int .u16 i2.Sel)] 0))]⟩] <| Rd <| kB_nrm <| kS_nrm <| Runs.canon (hansomref05_Near_h86 x1 ({ Lock := i2.Lock, Rep := i2.Rep, Seg := i2.Seg, Op := i2.Op, Mod := i2.Mod, Reg := i2.Reg, RM := i2.RM, Disp := i2.Disp, Imm := r_6, Sel := i2.Sel } : Inst) r3) (Canon.nil (by kernel_rfl)) ?_
  exact hansomref05_Near_j86_ok x_ x1 ({ Lock := i2.Lock, Rep := i2.Rep, Seg := i2.Seg, Op := i2.Op, Mod := i2.Mod, Reg := i2.Reg, RM := i2.RM, Disp := i2.Disp, Imm := r_6, Sel := i2.Sel } : Inst) r3 r h
 | false =>
  replace h := ite_f hb_15 h
  refine Cf <| Sq <| Sq <| Ro <| Rc 2 [⟨.d (.bool (t61 == 7)), []⟩, ⟨.d (.bool (t61 == 7)), []⟩] <| Rd <| kS_nrm ?_
  cases hb_16 : ((t61 == 7) : Bool) with
  | true =>
   replace h := ite_t hb_16 h
   refine Ct <| Runs.skip <| kS_nrm <| Runs.canon (hansomref05_Near_h79 x1 i2 r3 t61 true) (Canon.nil (by kernel_rfl)) ?_
   exact hansomref05_Near_j79_ok x_ x1 i2 r3 t61 true r h
  | false =>
   replace h := ite_f hb_16 h
   refine Cf <| Sq <| Ro <| Rc 2 [⟨.d (.bool (t61 == 10)), []⟩, ⟨.d (.bool (t61 == 10)), []⟩] <| Rd <| kS_nrm ?_
   cases hb_19 : ((t61 == 10) : Bool) with
   | true =>
    replace h := ite_t hb_19 h
    refine Ct <| Runs.skip <| kS_nrm <| Runs.canon (hansomref05_Near_h79 x1 i2 r3 t61 true) (Canon.nil (by kernel_rfl)) ?_
    exact hansomref05_Near_j79_ok x_ x1 i2 r3 t61 true r h
   | false =>
    replace h := ite_f hb_19 h
    refine Cf <| Sq <| Ro <| Rc 2 [⟨.d (.bool (t61 == 12)), []⟩, ⟨.d (.bool (t61 == 12)), []⟩] <| Rd <| kS_nrm ?_
    cases hb_20 : ((t61 == 12) : Bool) with
    | true =>
     replace h := ite_t hb_20 h
     refine Ct <| Runs.skip <| kS_nrm <| Runs.canon (hansomref05_Near_h79 x1 i2 r3 t61 true) (Canon.nil (by kernel_rfl)) ?_
     exact hansomref05_Near_j79_ok x_ x1 i2 r3 t61 true r h
    | false =>
     replace h := ite_f hb_20 h
     refine Cf <| Ro <| Rc 2 [⟨.d (.bool (t61 == 13)), []⟩, ⟨.d (.bool (t61 == 13)), []⟩] <| Rd <| kS_nrm <| Runs.canon (hansomref05_Near_h79 x1 i2 r3 t61 (t61 == 13)) (Canon.nil (by kernel_rfl)) ?_
     exact hansomref05_Near_j79_ok x_ x1 i2 r3 t61 (t61 == 13) r h
theorem hansomref05_Near_j43_ok (x_ : Inst) (x1 : Inst) (i2 : Inst) (r3 : Row) (k5 : Int) (r : Inst) (h : hansomref05_Near_j43 x1 i2 r3 k5 = some r) : Runs L F7b43 (hansomref05_Near_h43 x1 i2 r3 k5) (hansomref05_Near_Q x_ r) := by
 unfold hansomref05_Near_j43 at h
 refine Sq <| Sq <| Ro <| Rc 1 [⟨.d (.int .i64 k5), []⟩] <| Rd <| kS_nrm <| Runs.block <| Sq <| Ro <| Rc 2 [⟨.d (.bool (k5 == 6)), []⟩, ⟨.d (.bool (k5 == 6)), []⟩] <| Rd <| kS_nrm ?_
 cases hb_4 : ((k5 == 6) : Bool) with
 | true =>
  replace h := ite_t hb_4 h
  refine Ct <| Sq <| Ro <| Rc 5 [⟨.ptr [1] 0 8, []⟩, ⟨.d (.int .u16 x1.Imm), []⟩, ⟨.d (.int .u16 (Int.tmod x1.Imm 256)), []⟩, ⟨.ptr [2] 0 8, []⟩, ⟨.tup [], [([2], some (.cells [.d (.bool i2.Lock), .d (.int .i64 i2.Rep), .d (.int .i64 i2.Seg), .d (.int .u8 i2.Op), .d (.int .i64 i2.Mod), .d (.int .i64 i2.Reg), .d (.int .i64 i2.RM), .d (.int .u16 i2.Disp), .d (.int .u16 (Int.tmod x1.Imm 256)), .d (.int .u16 i2.Sel)] 0))]⟩] <| Rd <| kS_nrm <| Sq <| Ro <| Rc 4 [⟨.ptr [3] 0 0, []⟩, ⟨.d (.int .i64 r3.Name), []⟩, ⟨.d (.bool (r3.Name == 70)), []⟩, ⟨.d (.bool (r3.Name == 70)), []⟩] ?_
  cases hb_5 : ((r3.Name == 70) : Bool) with
  | true =>
   replace h := ite_t hb_5 h
   refine Rc 4 [⟨.tup [], []⟩, ⟨.tup [], []⟩, ⟨.tup [], []⟩, ⟨.d (.bool true), []⟩] <| Rd <| kS_nrm <| Ct <| Ro <| Rc 2 [⟨.ptr [2] 0 8, []⟩, ⟨.tup [], [([2], some (.cells [.d (.bool i2.Lock), .d (.int .i64 i2.Rep), .d (.int .i64 i2.Seg), .d (.int .u8 i2.Op), .d (.int .i64 i2.Mod), .d (.int .i64 i2.Reg), .d (.int .i64 i2.RM), .d (.int .u16 i2.Disp), .d (.int .u16 10), .d (.int .u16 i2.Sel)] 0))]⟩] <| Rd <| kB_nrm <| kS_nrm <| Runs.canon (hansomref05_Near_h86 x1 ({ Lock := i2.Lock, Rep := i2.Rep, Seg := i2.Seg, Op := i2.Op, Mod := i2.Mod, Reg := i2.Reg, RM := i2.RM, Disp := i2.Disp, Imm := 10, Sel := i2.Sel } : Inst) r3) (Canon.nil (by kernel_rfl)) ?_
   exact hansomref05_Near_j86_ok x_ x1 ({ Lock := i2.Lock, Rep := i2.Rep, Seg := i2.Seg, Op := i2.Op, Mod := i2.Mod, Reg := i2.Reg, RM := i2.RM, Disp := i2.Disp, Imm := 10, Sel := i2.Sel } : Inst) r3 r h
  | false =>
   replace h := ite_f hb_5 h
   refine Rc 4 [⟨.ptr [3] 0 0, []⟩, ⟨.d (.int .i64 r3.Name), []⟩, ⟨.d (.bool (r3.Name == 71)), []⟩, ⟨.d (.bool (r3.Name == 71)), []⟩] <| Rd <| kS_nrm ?_
   cases hb_13 : ((r3.Name == 71) : Bool) with
   | true =>
    replace h := ite_t hb_13 h
    refine Ct <| Ro <| Rc 2 [⟨.ptr [2] 0 8, []⟩, ⟨.tup [], [([2], some (.cells [.d (.bool i2.Lock), .d (.int .i64 i2.Rep), .d (.int .i64 i2.Seg), .d (.int .u8 i2.Op), .d (.int .i64 i2.Mod), .d (.int .i64 i2.Reg), .d (.int .i64 i2.RM), .d (.int .u16 i2.Disp), .d (.int .u16 10), .d (.int .u16 i2.Sel)] 0))]⟩] <| Rd <| kB_nrm <| kS_nrm <| Runs.canon (hansomref05_Near_h86 x1 ({ Lock := i2.Lock, Rep := i2.Rep, Seg := i2.Seg, Op := i2.Op, Mod := i2.Mod, Reg := i2.Reg, RM := i2.RM, Disp := i2.Disp, Imm := 10, Sel := i2.Sel } : Inst) r3) (Canon.nil (by kernel_rfl)) ?_
    exact hansomref05_Near_j86_ok x_ x1 ({ Lock := i2.Lock, Rep := i2.Rep, Seg := i2.Seg, Op := i2.Op, Mod := i2.Mod, Reg := i2.Reg, RM := i2.RM, Disp := i2.Disp, Imm := 10, Sel := i2.Sel } : Inst) r3 r h
   | false =>
    replace h := ite_f hb_13 h
    refine Cf <| Runs.skip <| kB_nrm <| kS_nrm <| Runs.canon (hansomref05_Near_h86 x1 ({ Lock := i2.Lock, Rep := i2.Rep, Seg := i2.Seg, Op := i2.Op, Mod := i2.Mod, Reg := i2.Reg, RM := i2.RM, Disp := i2.Disp, Imm := (Int.tmod x1.Imm 256), Sel := i2.Sel } : Inst) r3) (Canon.nil (by kernel_rfl)) ?_
    exact hansomref05_Near_j86_ok x_ x1 ({ Lock := i2.Lock, Rep := i2.Rep, Seg := i2.Seg, Op := i2.Op, Mod := i2.Mod, Reg := i2.Reg, RM := i2.RM, Disp := i2.Disp, Imm := (Int.tmod x1.Imm 256), Sel := i2.Sel } : Inst) r3 r h
 | false =>
  replace h := ite_f hb_4 h
  refine Cf <| Sq <| Sq <| Ro <| Rc 2 [⟨.d (.bool (k5 == 8)), []⟩, ⟨.d (.bool (k5 == 8)), []⟩] <| Rd <| kS_nrm ?_
  cases hb_14 : ((k5 == 8) : Bool) with
  | true =>
   replace h := ite_t hb_14 h
   refine Ct <| Runs.skip <| kS_nrm <| Runs.canon (hansomref05_Near_h63 x1 i2 r3 k5 true) (Canon.nil (by kernel_rfl)) ?_
   exact hansomref05_Near_j63_ok x_ x1 i2 r3 k5 true r h
  | false =>
   replace h := ite_f hb_14 h
   refine Cf <| Ro <| Rc 2 [⟨.d (.bool (k5 == 9)), []⟩, ⟨.d (.bool (k5 == 9)), []⟩] <| Rd <| kS_nrm <| Runs.canon (hansomref05_Near_h63 x1 i2 r3 k5 (k5 == 9)) (Canon.nil (by kernel_rfl)) ?_
   exact hansomref05_Near_j63_ok x_ x1 i2 r3 k5 (k5 == 9) r h
theorem hansomref05_Near_j35_ok (x_ : Inst) (x1 : Inst) (i2 : Inst) (r3 : Row) (r : Inst) (h : hansomref05_Near_j35 x1 i2 r3 = some r) : Runs L F7b35 (hansomref05_Near_h35 x1 i2 r3) (hansomref05_Near_Q x_ r) := by
 unfold hansomref05_Near_j35 at h
 refine Sq <| Ro <| Rc 3 [⟨.ptr [3] 0 1, []⟩, ⟨.d (.int .i64 r3.A), []⟩, ⟨.d (.int .i64 r3.A), []⟩] <| Rd <| kS_nrm <| Sq <| Sq <| Ro <| Rc 1 [⟨.d (.int .i64 r3.A), []⟩] ?_
 obtain ⟨r_2, hr_2, h⟩ := bind_s h
 have hc_2 := hansomref04_Bytes_L r3.A r_2 hr_2
 refine Rt (some 57) (.callf 19) [] none [.d (.int .i64 r3.A)] (.d (.int .i64 r_2)) [] (cut_call (call_of (ws := []) (us := []) (by kernel_rfl) (by kernel_rfl) hc_2 (by kernel_rfl) (by kernel_rfl))) <| Rc 1 [⟨.d (.bool (r_2 == 0)), []⟩] <| Rd <| kS_nrm ?_
 cases hb_3 : ((r_2 == 0) : Bool) with
 | true =>
  replace h := ite_t hb_3 h
  refine Ct <| Ro <| Rc 3 [⟨.ptr [3] 0 2, []⟩, ⟨.d (.int .i64 r3.B), []⟩, ⟨.d (.int .i64 r3.B), []⟩] <| Rd <| kS_nrm <| Runs.canon (hansomref05_Near_h43 x1 i2 r3 r3.B) (Canon.nil (by kernel_rfl)) ?_
  exact hansomref05_Near_j43_ok x_ x1 i2 r3 r3.B r h
 | false =>
  replace h := ite_f hb_3 h
  refine Cf <| Runs.skip <| kS_nrm <| Runs.canon (hansomref05_Near_h43 x1 i2 r3 r3.A) (Canon.nil (by kernel_rfl)) ?_
  exact hansomref05_Near_j43_ok x_ x1 i2 r3 r3.A r h
theorem hansomref05_Near_ok (x_ : Inst) (r : Inst) (h : hansomref05_Near x_ = some r) : Runs L F7.body ⟨tmOf [.d (Inst.d x_)] 0, updW (fun _ => none) []⟩ (hansomref05_Near_Q x_ r) := by
 unfold hansomref05_Near at h
 refine Sq <| Ro <| Rc 2 [⟨.ptr [1] 0 0, [([1], some (.cells [.d (.bool x_.Lock), .d (.int .i64 x_.Rep), .d (.int .i64 x_.Seg), .d (.int .u8 x_.Op), .d (.int .i64 x_.Mod), .d (.int .i64 x_.Reg), .d (.int .i64 x_.RM), .d (.int .u16 x_.Disp), .d (.int .u16 x_.Imm), .d (.int .u16 x_.Sel)] 0))]⟩, ⟨.ptr [2] 0 0, [([2], some (.cells [.d (.bool false), .d (.int .i64 0), .d (.int .i64 0), .d (.int .u8 0), .d (.int .i64 0), .d (.int .i64 0), .d (.int .i64 0), .d (.int .u16 0), .d (.int .u16 0), .d (.int .u16 0)] 0))]⟩] <| Rd <| kS_nrm <| Sq <| Ro <| Rc 6 [⟨.ptr [1] 0 3, []⟩, ⟨.d (.int .u8 x_.Op), []⟩, ⟨.ptr [1] 0 0, []⟩, ⟨.d (.bool x_.Lock), []⟩, ⟨.d (.agg [.bool x_.Lock, .int .i64 0, .int .i64 0, .int .u8 x_.Op, .int .i64 0, .int .i64 0, .int .i64 0, .int .u16 0, .int .u16 0, .int .u16 0]), []⟩, ⟨.tup [], [([2], some (.cells [.d (.bool x_.Lock), .d (.int .i64 0), .d (.int .i64 0), .d (.int .u8 x_.Op), .d (.int .i64 0), .d (.int .i64 0), .d (.int .i64 0), .d (.int .u16 0), .d (.int .u16 0), .d (.int .u16 0)] 0))]⟩] <| Rd <| kS_nrm <| Sq <| Ro <| Rc 5 [⟨.ptr [1] 0 5, []⟩, ⟨.d (.int .i64 x_.Reg), []⟩, ⟨.d (.int .i64 (bitsOp .and .i64 x_.Reg 7)), []⟩, ⟨.ptr [2] 0 5, []⟩, ⟨.tup [], [([2], some (.cells [.d (.bool x_.Lock), .d (.int .i64 0), .d (.int .i64 0), .d (.int .u8 x_.Op), .d (.int .i64 0), .d (.int .i64 (bitsOp .and .i64 x_.Reg 7)), .d (.int .i64 0), .d (.int .u16 0), .d (.int .u16 0), .d (.int .u16 0)] 0))]⟩] <| Rd <| kS_nrm <| Sq <| Ro <| Rc 1 [⟨.d (.agg [.bool x_.Lock, .int .i64 0, .int .i64 0, .int .u8 x_.Op, .int .i64 0, .int .i64 (bitsOp .and .i64 x_.Reg 7), .int .i64 0, .int .u16 0, .int .u16 0, .int .u16 0]), []⟩] ?_
 obtain ⟨r_1, hr_1, h⟩ := bind_s h
 have hc_1 := hansomref05_Row_L ({ Lock := x_.Lock, Rep := 0, Seg := 0, Op := x_.Op, Mod := 0, Reg := (bitsOp .and .i64 x_.Reg 7), RM := 0, Disp := 0, Imm := 0, Sel := 0 } : Inst) r_1 hr_1
 refine Rt (some 18) (.callf 13) [] none [.d (.agg [.bool x_.Lock, .int .i64 0, .int .i64 0, .int .u8 x_.Op, .int .i64 0, .int .i64 (bitsOp .and .i64 x_.Reg 7), .int .i64 0, .int .u16 0, .int .u16 0, .int .u16 0])] (.tup [.d (Row.d r_1.1), .d (.bool r_1.2)]) [] (cut_call (call_of (ws := []) (us := []) (by kernel_rfl) (by kernel_rfl) hc_1 (by kernel_rfl) (by kernel_rfl))) <| Rc 6 [⟨.tup [.d (Row.d r_1.1), .d (.bool r_1.2)], []⟩, ⟨.d (Row.d r_1.1), []⟩, ⟨.d (.bool r_1.2), []⟩, ⟨.ptr [3] 0 0, [([3], some (.cells [.d (.int .i64 0), .d (.int .i64 0), .d (.int .i64 0), .d (.bool false)] 0))]⟩, ⟨.tup [], [([3], some (.cells [.d (.int .i64 r_1.1.Name), .d (.int .i64 r_1.1.A), .d (.int .i64 r_1.1.B), .d (.bool r_1.1.Mod)] 0))]⟩, ⟨.d (.bool r_1.2), []⟩] <| Rd <| kS_nrm <| Sq <| Sq <| Ro <| Rc 2 [⟨.d (.bool r_1.2), []⟩, ⟨.d (.bool (!r_1.2)), []⟩] <| Rd <| kS_nrm ?_
 cases hb_1 : ((!r_1.2) : Bool) with
 | true =>
  replace h := ite_t hb_1 h
  refine Ct <| Sq <| Ro <| Rc 2 [⟨.d (.agg [.bool false, .int .i64 0, .int .i64 0, .int .u8 144, .int .i64 0, .int .i64 0, .int .i64 0, .int .u16 0, .int .u16 0, .int .u16 0]), []⟩, ⟨.tup [], [([2], some (.cells [.d (.bool false), .d (.int .i64 0), .d (.int .i64 0), .d (.int .u8 144), .d (.int .i64 0), .d (.int .i64 0), .d (.int .i64 0), .d (.int .u16 0), .d (.int .u16 0), .d (.int .u16 0)] 0))]⟩] <| Rd <| kS_nrm <| Runs.ret <| kS_ret ?_
  obtain rfl := Option.some.inj h
  exact ⟨Out.ret_ne, (by kernel_rfl)⟩
 | false =>
  replace h := ite_f hb_1 h
  refine Cf <| Runs.skip <| kS_nrm <| Sq <| Sq <| Ro <| Rc 3 [⟨.ptr [3] 0 3, []⟩, ⟨.d (.bool r_1.1.Mod), []⟩, ⟨.d (.bool (!r_1.1.Mod)), []⟩] <| Rd <| kS_nrm ?_
  cases hb_2 : ((!r_1.1.Mod) : Bool) with
  | true =>
   replace h := ite_t hb_2 h
   refine Ct <| Ro <| Rc 2 [⟨.ptr [2] 0 5, []⟩, ⟨.tup [], [([2], some (.cells [.d (.bool x_.Lock), .d (.int .i64 0), .d (.int .i64 0), .d (.int .u8 x_.Op), .d (.int .i64 0), .d (.int .i64 0), .d (.int .i64 0), .d (.int .u16 0), .d (.int .u16 0), .d (.int .u16 0)] 0))]⟩] <| Rd <| kS_nrm <| Runs.canon (hansomref05_Near_h35 x_ ({ Lock := x_.Lock, Rep := 0, Seg := 0, Op := x_.Op, Mod := 0, Reg := 0, RM := 0, Disp := 0, Imm := 0, Sel := 0 } : Inst) r_1.1) (Canon.nil (by kernel_rfl)) ?_
   exact hansomref05_Near_j35_ok x_ x_ ({ Lock := x_.Lock, Rep := 0, Seg := 0, Op := x_.Op, Mod := 0, Reg := 0, RM := 0, Disp := 0, Imm := 0, Sel := 0 } : Inst) r_1.1 r h
  | false =>
   replace h := ite_f hb_2 h
   refine Cf <| Sq <| Ro <| Rc 10 [⟨.ptr [1] 0 4, []⟩, ⟨.d (.int .i64 x_.Mod), []⟩, ⟨.d (.int .i64 (bitsOp .and .i64 x_.Mod 3)), []⟩, ⟨.ptr [1] 0 6, []⟩, ⟨.d (.int .i64 x_.RM), []⟩, ⟨.d (.int .i64 (bitsOp .and .i64 x_.RM 7)), []⟩, ⟨.ptr [2] 0 4, []⟩, ⟨.tup [], [([2], some (.cells [.d (.bool x_.Lock), .d (.int .i64 0), .d (.int .i64 0), .d (.int .u8 x_.Op), .d (.int .i64 (bitsOp .and .i64 x_.Mod 3)), .d (.int .i64 (bitsOp .and .i64 x_.Reg 7)), .d (.int .i64 0), .d (.int .u16 0), .d (.int .u16 0), .d (.int .u16 0)] 0))]⟩, ⟨.ptr [2] 0 6, []⟩, ⟨.tup [], [([2], some (.cells [.d (.bool x_.Lock), .d (.int .i64 0), .d (.int .i64 0), .d (.int .u8 x_.Op), .d (.int .i64 (bitsOp .and .i64 x_.Mod 3)), .d (.int .i64 (bitsOp .and .i64 x_.Reg 7)), .d (.int .i64 (bitsOp .and .i64 x_.RM 7)), .d (.int .u16 0), .d (.int .u16 0), .d (.int .u16 0)] 0))]⟩] <| Rd <| kS_nrm <| Sq <| Ro <| Rc 4 [⟨.ptr [2] 0 4, []⟩, ⟨.d (.int .i64 (bitsOp .and .i64 x_.Mod 3)), []⟩, ⟨.ptr [2] 0 6, []⟩, ⟨.d (.int .i64 (bitsOp .and .i64 x_.RM 7)), []⟩] ?_
   obtain ⟨r_7, hr_7, h⟩ := bind_s h
   have hc_7 := hansomref05_Disps_L (bitsOp .and .i64 x_.Mod 3) (bitsOp .and .i64 x_.RM 7) r_7 hr_7
   refine Rt (some 40) (.callf 17) [] none [.d (.int .i64 (bitsOp .and .i64 x_.Mod 3)), .d (.int .i64 (bitsOp .and .i64 x_.RM 7))] (.d (.int .i64 r_7)) [] (cut_call (call_of (ws := []) (us := []) (by kernel_rfl) (by kernel_rfl) hc_7 (by kernel_rfl) (by kernel_rfl))) <| Rd <| kS_nrm <| Runs.block <| Sq <| Ro <| Rc 2 [⟨.d (.bool (r_7 == 1)), []⟩, ⟨.d (.bool (r_7 == 1)), []⟩] <| Rd <| kS_nrm ?_
   cases hb_21 : ((r_7 == 1) : Bool) with
   | true =>
    replace h := ite_t hb_21 h
    refine Ct <| Ro <| Rc 4 [⟨.ptr [1] 0 7, []⟩, ⟨.d (.int .u16 x_.Disp), []⟩, ⟨.d (.int .u16 (Int.tmod x_.Disp 256)), []⟩, ⟨.d (.int .u8 (IntKind.wrap .u8 (Int.tmod x_.Disp 256))), []⟩] ?_
    obtain ⟨r_8, hr_8, h⟩ := bind_s h
    have hc_8 := hansomref01_Sign_L (IntKind.wrap .u8 (Int.tmod x_.Disp 256)) r_8 hr_8
    refine Rt (some 47) (.callf 18) [] none [.d (.int .u8 (IntKind.wrap .u8 (Int.tmod x_.Disp 256)))] (.d (.int .u16 r_8)) [] (cut_call (call_of (ws := []) (us := []) (by kernel_rfl) (by kernel_rfl) hc_8 (by kernel_rfl) (by kernel_rfl))) <| Rc 2 [⟨.ptr [2] 0 7, []⟩, ⟨.tup [], [([2], some (.cells [.d (.bool x_.Lock), .d (.int .i64 0), .d (.int .i64 0), .d (.int .u8 x_.Op), .d (.int .i64 (bitsOp .and .i64 x_.Mod 3)), .d (.int .i64 (bitsOp .and .i64 x_.Reg 7)), .d (.int .i64 (bitsOp .and .i64 x_.RM 7)), .d (.int .u16 r_8), .d (.int .u16 0), .d (.int .u16 0)] 0))]⟩] <| Rd <| kB_nrm <| kS_nrm <| Runs.canon (hansomref05_Near_h35 x_ ({ Lock := x_.Lock, Rep := 0, Seg := 0, Op := x_.Op, Mod := (bitsOp .and .i64 x_.Mod 3), Reg := (bitsOp .and .i64 x_.Reg 7), RM := (bitsOp .and .i64 x_.RM 7), Disp := r_8, Imm := 0, Sel := 0 } : Inst) r_1.1) (Canon.nil (by kernel_rfl)) ?_
    exact hansomref05_Near_j35_ok x_ x_ ({ Lock := x_.Lock, Rep := 0, Seg := 0, Op := x_.Op, Mod := (bitsOp .and .i64 x_.Mod 3), Reg := (bitsOp .and .i64 x_.Reg 7), RM := (bitsOp .and .i64 x_.RM 7), Disp := r_8, Imm := 0, Sel := 0 } : Inst) r_1.1 r h
   | false =>
    replace h := ite_f hb_21 h
    refine Cf <| Sq <| Ro <| Rc 2 [⟨.d (.bool (r_7 == 2)), []⟩, ⟨.d (.bool (r_7 == 2)), []⟩] <| Rd <| kS_nrm ?_
    cases hb_22 : ((r_7 == 2) : Bool) with
    | true =>
     replace h := ite_t hb_22 h
     refine Ct <| Ro <| Rc 4 [⟨.ptr [1] 0 7, []⟩, ⟨.d (.int .u16 x_.Disp), []⟩, ⟨.ptr [2] 0 7, []⟩, ⟨.tup [], [([2], some (.cells [.d (.bool x_.Lock), .d (.int .i64 0), .d (.int .i64 0), .d (.int .u8 x_.Op), .d (.int .i64 (bitsOp .and .i64 x_.Mod 3)), .d (.int .i64 (bitsOp .and .i64 x_.Reg 7)), .d (.int .i64 (bitsOp .and .i64 x_.RM 7)), .d (.int .u16 x_.Disp), .d (.int .u16 0), .d (.int .u16 0)] 0))]⟩] <| Rd <| kB_nrm <| kS_nrm <| Runs.canon (hansomref05_Near_h35 x_ ({ Lock := x_.Lock, Rep := 0, Seg := 0, Op := x_.Op, Mod := (bitsOp .and .i64 x_.Mod 3), Reg := (bitsOp .and .i64 x_.Reg 7), RM := (bitsOp .and .i64 x_.RM 7), Disp := x_.Disp, Imm := 0, Sel := 0 } : Inst) r_1.1) (Canon.nil (by kernel_rfl)) ?_
     exact hansomref05_Near_j35_ok x_ x_ ({ Lock := x_.Lock, Rep := 0, Seg := 0, Op := x_.Op, Mod := (bitsOp .and .i64 x_.Mod 3), Reg := (bitsOp .and .i64 x_.Reg 7), RM := (bitsOp .and .i64 x_.RM 7), Disp := x_.Disp, Imm := 0, Sel := 0 } : Inst) r_1.1 r h
    | false =>
     replace h := ite_f hb_22 h
     refine Cf <| Runs.skip <| kB_nrm <| kS_nrm <| Runs.canon (hansomref05_Near_h35 x_ ({ Lock := x_.Lock, Rep := 0, Seg := 0, Op := x_.Op, Mod := (bitsOp .and .i64 x_.Mod 3), Reg := (bitsOp .and .i64 x_.Reg 7), RM := (bitsOp .and .i64 x_.RM 7), Disp := 0, Imm := 0, Sel := 0 } : Inst) r_1.1) (Canon.nil (by kernel_rfl)) ?_
     exact hansomref05_Near_j35_ok x_ x_ ({ Lock := x_.Lock, Rep := 0, Seg := 0, Op := x_.Op, Mod := (bitsOp .and .i64 x_.Mod 3), Reg := (bitsOp .and .i64 x_.Reg 7), RM := (bitsOp .and .i64 x_.RM 7), Disp := 0, Imm := 0, Sel := 0 } : Inst) r_1.1 r h
theorem hansomref05_Near_L (x_ : Inst) (r : Inst) (h : hansomref05_Near x_ = some r) : L 7 [.d (Inst.d x_)] = some (.d (Inst.d r), [.d (Inst.d x_)]) := by
 obtain ⟨p, ⟨hne, hf⟩, hr⟩ := hansomref05_Near_ok x_ r h
 obtain ⟨k, hk⟩ := run_of (F := F7) (args := [.d (Inst.d x_)]) (ap := [.d (Inst.d x_)]) (bx0 := updW (fun _ => none) []) rfl rfl (by kernel_rfl) ⟨p, ⟨hne, hf⟩, hr⟩
 exact lim_run (k := k) rfl hk
def isa_Prefix_Q (b_ : Int) (r : Bool) (p : Out × St) : Prop := (∀ i, p.1 ≠ .exit i) ∧ finF F42 [.d (.int .u8 b_)] p.2 = some (.d (.bool r), [.d (.int .u8 b_)])
theorem isa_Prefix_ok (b_ : Int) (r : Bool) (h : isa_Prefix b_ = some r) : Runs L F42.body ⟨tmOf [.d (.int .u8 b_)] 0, updW (fun _ => none) []⟩ (isa_Prefix_Q b_ r) := by
 unfold isa_Prefix at h
 refine Sq <| Ro <| Rc 1 [⟨.d (.bool false), []⟩] <| Rd <| kS_nrm <| Sq <| Sq <| Ro <| Rc 1 [⟨.d (.int .u8 b_), []⟩] <| Rd <| kS_nrm <| Runs.block <| Sq <| Sq <| Ro <| Rc 2 [⟨.d (.bool (b_ == 38)), []⟩, ⟨.d (.bool (b_ == 38)), []⟩] <| Rd <| kS_nrm ?_
 cases hb_1 : ((b_ == 38) : Bool) with
 | true =>
  replace h := ite_t hb_1 h
  refine Ct <| Runs.skip <| kS_nrm <| Ct <| Sq <| Ro <| Rc 1 [⟨.d (.bool true), []⟩] <| Rd <| kS_nrm <| Runs.ret <| kB_ret <| kS_ret ?_
  obtain rfl := Option.some.inj h
  exact ⟨Out.ret_ne, (by kernel_rfl)⟩
 | false =>
  replace h := ite_f hb_1 h
  refine Cf <| Sq <| Ro <| Rc 2 [⟨.d (.bool (b_ == 46)), []⟩, ⟨.d (.bool (b_ == 46)), []⟩] <| Rd <| kS_nrm ?_
  cases hb_2 : ((b_ == 46) : Bool) with
  | true =>
   replace h := ite_t hb_2 h
   refine Ct <| Runs.skip <| kS_nrm <| Ct <| Sq <| Ro <| Rc 1 [⟨.d (.bool true), []⟩] <| Rd <| kS_nrm <| Runs.ret <| kB_ret <| kS_ret ?_
   obtain rfl := Option.some.inj h
   exact ⟨Out.ret_ne, (by kernel_rfl)⟩
  | false =>
   replace h := ite_f hb_2 h
   refine Cf <| Sq <| Ro <| Rc 2 [⟨.d (.bool (b_ == 54)), []⟩, ⟨.d (.bool (b_ == 54)), []⟩] <| Rd <| kS_nrm ?_
   cases hb_3 : ((b_ == 54) : Bool) with
   | true =>
    replace h := ite_t hb_3 h
    refine Ct <| Runs.skip <| kS_nrm <| Ct <| Sq <| Ro <| Rc 1 [⟨.d (.bool true), []⟩] <| Rd <| kS_nrm <| Runs.ret <| kB_ret <| kS_ret ?_
    obtain rfl := Option.some.inj h
    exact ⟨Out.ret_ne, (by kernel_rfl)⟩
   | false =>
    replace h := ite_f hb_3 h
    refine Cf <| Sq <| Ro <| Rc 2 [⟨.d (.bool (b_ == 62)), []⟩, ⟨.d (.bool (b_ == 62)), []⟩] <| Rd <| kS_nrm ?_
    cases hb_4 : ((b_ == 62) : Bool) with
    | true =>
     replace h := ite_t hb_4 h
     refine Ct <| Runs.skip <| kS_nrm <| Ct <| Sq <| Ro <| Rc 1 [⟨.d (.bool true), []⟩] <| Rd <| kS_nrm <| Runs.ret <| kB_ret <| kS_ret ?_
     obtain rfl := Option.some.inj h
     exact ⟨Out.ret_ne, (by kernel_rfl)⟩
    | false =>
     replace h := ite_f hb_4 h
     refine Cf <| Sq <| Ro <| Rc 2 [⟨.d (.bool (b_ == 240)), []⟩, ⟨.d (.bool (b_ == 240)), []⟩] <| Rd <| kS_nrm ?_
     cases hb_5 : ((b_ == 240) : Bool) with
     | true =>
      replace h := ite_t hb_5 h
      refine Ct <| Runs.skip <| kS_nrm <| Ct <| Sq <| Ro <| Rc 1 [⟨.d (.bool true), []⟩] <| Rd <| kS_nrm <| Runs.ret <| kB_ret <| kS_ret ?_
      obtain rfl := Option.some.inj h
      exact ⟨Out.ret_ne, (by kernel_rfl)⟩
     | false =>
      replace h := ite_f hb_5 h
      refine Cf <| Sq <| Ro <| Rc 2 [⟨.d (.bool (b_ == 242)), []⟩, ⟨.d (.bool (b_ == 242)), []⟩] <| Rd <| kS_nrm ?_
      cases hb_6 : ((b_ == 242) : Bool) with
      | true =>
       replace h := ite_t hb_6 h
       refine Ct <| Runs.skip <| kS_nrm <| Ct <| Sq <| Ro <| Rc 1 [⟨.d (.bool true), []⟩] <| Rd <| kS_nrm <| Runs.ret <| kB_ret <| kS_ret ?_
       obtain rfl := Option.some.inj h
       exact ⟨Out.ret_ne, (by kernel_rfl)⟩
      | false =>
       replace h := ite_f hb_6 h
       refine Cf <| Ro <| Rc 2 [⟨.d (.bool (b_ == 243)), []⟩, ⟨.d (.bool (b_ == 243)), []⟩] <| Rd <| kS_nrm ?_
       cases hb_7 : ((b_ == 243) : Bool) with
       | true =>
        replace h := ite_t hb_7 h
        refine Ct <| Sq <| Ro <| Rc 1 [⟨.d (.bool true), []⟩] <| Rd <| kS_nrm <| Runs.ret <| kB_ret <| kS_ret ?_
        obtain rfl := Option.some.inj h
        exact ⟨Out.ret_ne, (by kernel_rfl)⟩
       | false =>
        replace h := ite_f hb_7 h
        refine Cf <| Runs.skip <| kB_nrm <| kS_nrm <| Sq <| Ro <| Rc 1 [⟨.d (.bool false), []⟩] <| Rd <| kS_nrm <| Runs.ret ?_
        obtain rfl := Option.some.inj h
        exact ⟨Out.ret_ne, (by kernel_rfl)⟩
theorem isa_Prefix_L (b_ : Int) (r : Bool) (h : isa_Prefix b_ = some r) : L 42 [.d (.int .u8 b_)] = some (.d (.bool r), [.d (.int .u8 b_)]) := by
 obtain ⟨p, ⟨hne, hf⟩, hr⟩ := isa_Prefix_ok b_ r h
 obtain ⟨k, hk⟩ := run_of (F := F42) (args := [.d (.int .u8 b_)]) (ap := [.d (.int .u8 b_)]) (bx0 := updW (fun _ => none) []) rfl rfl (by kernel_rfl) ⟨p, ⟨hne, hf⟩, hr⟩
 exact lim_run (k := k) rfl hk
def isa_mod_Q (name_ : Int) (a_ : Int) (b_ : Int) (r : (Row × Bool)) (p : Out × St) : Prop := (∀ i, p.1 ≠ .exit i) ∧ finF F65 [.d (.int .i64 name_), .d (.int .i64 a_), .d (.int .i64 b_)] p.2 = some (.tup [.d (Row.d r.1), .d (.bool r.2)], [.d (.int .i64 name_), .d (.int .i64 a_), .d (.int .i64 b_)])
theorem isa_mod_ok (name_ : Int) (a_ : Int) (b_ : Int) (r : (Row × Bool)) (h : isa_mod name_ a_ b_ = some r) : Runs L F65.body ⟨tmOf [.d (.int .i64 name_), .d (.int .i64 a_), .d (.int .i64 b_)] 0, updW (fun _ => none) []⟩ (isa_mod_Q name_ a_ b_ r) := by
 unfold isa_mod at h
 refine Sq <| Ro <| Rc 2 [⟨.ptr [6] 0 0, [([6], some (.cells [.d (.int .i64 0), .d (.int .i64 0), .d (.int .i64 0), .d (.bool false)] 0))]⟩, ⟨.d (.bool false), []⟩] <| Rd <| kS_nrm <| Sq <| Ro <| Rc 6 [⟨.d (.int .i64 name_), []⟩, ⟨.d (.int .i64 a_), []⟩, ⟨.d (.int .i64 b_), []⟩, ⟨.d (.agg [.int .i64 name_, .int .i64 a_, .int .i64 b_, .bool true]), []⟩, ⟨.tup [], [([6], some (.cells [.d (.int .i64 name_), .d (.int .i64 a_), .d (.int .i64 b_), .d (.bool true)] 0))]⟩, ⟨.d (.bool true), []⟩] <| Rd <| kS_nrm <| Runs.ret ?_
 obtain rfl := Option.some.inj h
 exact ⟨Out.ret_ne, (by kernel_rfl)⟩
theorem isa_mod_L (name_ : Int) (a_ : Int) (b_ : Int) (r : (Row × Bool)) (h : isa_mod name_ a_ b_ = some r) : L 65 [.d (.int .i64 name_), .d (.int .i64 a_), .d (.int .i64 b_)] = some (.tup [.d (Row.d r.1), .d (.bool r.2)], [.d (.int .i64 name_), .d (.int .i64 a_), .d (.int .i64 b_)]) := by
 obtain ⟨p, ⟨hne, hf⟩, hr⟩ := isa_mod_ok name_ a_ b_ r h
 obtain ⟨k, hk⟩ := run_of (F := F65) (args := [.d (.int .i64 name_), .d (.int .i64 a_), .d (.int .i64 b_)]) (ap := [.d (.int .i64 name_), .d (.int .i64 a_), .d (.int .i64 b_)]) (bx0 := updW (fun _ => none) []) rfl rfl (by kernel_rfl) ⟨p, ⟨hne, hf⟩, hr⟩
 exact lim_run (k := k) rfl hk
def isa_row_Q (name_ : Int) (a_ : Int) (b_ : Int) (r : (Row × Bool)) (p : Out × St) : Prop := (∀ i, p.1 ≠ .exit i) ∧ finF F55 [.d (.int .i64 name_), .d (.int .i64 a_), .d (.int .i64 b_)] p.2 = some (.tup [.d (Row.d r.1), .d (.bool r.2)], [.d (.int .i64 name_), .d (.int .i64 a_), .d (.int .i64 b_)])
theorem isa_row_ok (name_ : Int) (a_ : Int) (b_ : Int) (r : (Row × Bool)) (h : isa_row name_ a_ b_ = some r) : Runs L F55.body ⟨tmOf [.d (.int .i64 name_), .d (.int .i64 a_), .d (.int .i64 b_)] 0, updW (fun _ => none) []⟩ (isa_row_Q name_ a_ b_ r) := by
 unfold isa_row at h
 refine Sq <| Ro <| Rc 2 [⟨.ptr [6] 0 0, [([6], some (.cells [.d (.int .i64 0), .d (.int .i64 0), .d (.int .i64 0), .d (.bool false)] 0))]⟩, ⟨.d (.bool false), []⟩] <| Rd <| kS_nrm <| Sq <| Ro <| Rc 6 [⟨.d (.int .i64 name_), []⟩, ⟨.d (.int .i64 a_), []⟩, ⟨.d (.int .i64 b_), []⟩, ⟨.d (.agg [.int .i64 name_, .int .i64 a_, .int .i64 b_, .bool false]), []⟩, ⟨.tup [], [([6], some (.cells [.d (.int .i64 name_), .d (.int .i64 a_), .d (.int .i64 b_), .d (.bool false)] 0))]⟩, ⟨.d (.bool true), []⟩] <| Rd <| kS_nrm <| Runs.ret ?_
 obtain rfl := Option.some.inj h
 exact ⟨Out.ret_ne, (by kernel_rfl)⟩
theorem isa_row_L (name_ : Int) (a_ : Int) (b_ : Int) (r : (Row × Bool)) (h : isa_row name_ a_ b_ = some r) : L 55 [.d (.int .i64 name_), .d (.int .i64 a_), .d (.int .i64 b_)] = some (.tup [.d (Row.d r.1), .d (.bool r.2)], [.d (.int .i64 name_), .d (.int .i64 a_), .d (.int .i64 b_)]) := by
 obtain ⟨p, ⟨hne, hf⟩, hr⟩ := isa_row_ok name_ a_ b_ r h
 obtain ⟨k, hk⟩ := run_of (F := F55) (args := [.d (.int .i64 name_), .d (.int .i64 a_), .d (.int .i64 b_)]) (ap := [.d (.int .i64 name_), .d (.int .i64 a_), .d (.int .i64 b_)]) (bx0 := updW (fun _ => none) []) rfl rfl (by kernel_rfl) ⟨p, ⟨hne, hf⟩, hr⟩
 exact lim_run (k := k) rfl hk
def isa_bad_Q  (r : (Row × Bool)) (p : Out × St) : Prop := (∀ i, p.1 ≠ .exit i) ∧ finF F56 [] p.2 = some (.tup [.d (Row.d r.1), .d (.bool r.2)], [])
theorem isa_bad_ok  (r : (Row × Bool)) (h : isa_bad = some r) : Runs L F56.body ⟨tmOf [] 0, updW (fun _ => none) []⟩ (isa_bad_Q  r) := by
 unfold isa_bad at h
 refine Sq <| Ro <| Rc 2 [⟨.ptr [0] 0 0, [([0], some (.cells [.d (.int .i64 0), .d (.int .i64 0), .d (.int .i64 0), .d (.bool false)] 0))]⟩, ⟨.d (.bool false), []⟩] <| Rd <| kS_nrm <| Sq <| Ro <| Rc 3 [⟨.d (.agg [.int .i64 0, .int .i64 0, .int .i64 0, .bool false]), []⟩, ⟨.tup [], [([0], some (.cells [.d (.int .i64 0), .d (.int .i64 0), .d (.int .i64 0), .d (.bool false)] 0))]⟩, ⟨.d (.bool false), []⟩] <| Rd <| kS_nrm <| Runs.ret ?_
 obtain rfl := Option.some.inj h
 exact ⟨Out.ret_ne, (by kernel_rfl)⟩
theorem isa_bad_L  (r : (Row × Bool)) (h : isa_bad = some r) : L 56 [] = some (.tup [.d (Row.d r.1), .d (.bool r.2)], []) := by
 obtain ⟨p, ⟨hne, hf⟩, hr⟩ := isa_bad_ok  r h
 obtain ⟨k, hk⟩ := run_of (F := F56) (args := []) (ap := []) (bx0 := updW (fun _ => none) []) rfl rfl (by kernel_rfl) ⟨p, ⟨hne, hf⟩, hr⟩
 exact lim_run (k := k) rfl hk
def isa_sums_h63 (b_2 : Row) (t47 : Int) (t48 : Bool) : St := ⟨tab [(2, .ptr [2] 0 0), (47, .d (.int .u8 t47)), (48, .d (.bool t48))], tabB [([2], some (.cells [.d (.int .i64 b_2.Name), .d (.int .i64 b_2.A), .d (.int .i64 b_2.B), .d (.bool b_2.Mod)] 0))]⟩
def isa_sums_h77 (b_2 : Row) (t47 : Int) (t56 : Bool) : St := ⟨tab [(2, .ptr [2] 0 0), (47, .d (.int .u8 t47)), (56, .d (.bool t56))], tabB [([2], some (.cells [.d (.int .i64 b_2.Name), .d (.int .i64 b_2.A), .d (.int .i64 b_2.B), .d (.bool b_2.Mod)] 0))]⟩
def isa_sums_Q (op_ : Int) (r : (Row × Bool)) (p : Out × St) : Prop := (∀ i, p.1 ≠ .exit i) ∧ finF F54 [.d (.int .u8 op_)] p.2 = some (.tup [.d (Row.d r.1), .d (.bool r.2)], [.d (.int .u8 op_)])
theorem isa_sums_j77_ok (op_ : Int) (b_2 : Row) (t47 : Int) (t56 : Bool) (r : (Row × Bool)) (h : isa_sums_j77 b_2 t47 t56 = some r) : Runs L F54b77 (isa_sums_h77 b_2 t47 t56) (kB 1 (kS L F54c106 (isa_sums_Q op_ r))) := by
 unfold isa_sums_j77 at h
 cases hb_10 : (t56 : Bool) with
 | true =>
  replace h := ite_t hb_10 h
  refine Ct <| Sq <| Ro ?_
  obtain ⟨r_8, hr_8, h⟩ := bind_s h
  have hc_8 := isa_row_L 10 23 0 r_8 hr_8
  refine Rt (some 60) (.callf 55) [] none [.d (.int .i64 10), .d (.int .i64 23), .d (.int .i64 0)] (.tup [.d (Row.d r_8.1), .d (.bool r_8.2)]) [] (cut_call (call_of (ws := []) (us := []) (by kernel_rfl) (by kernel_rfl) hc_8 (by kernel_rfl) (by kernel_rfl))) <| Rc 4 [⟨.d (Row.d r_8.1), []⟩, ⟨.d (.bool r_8.2), []⟩, ⟨.tup [], [([2], some (.cells [.d (.int .i64 r_8.1.Name), .d (.int .i64 r_8.1.A), .d (.int .i64 r_8.1.B), .d (.bool r_8.1.Mod)] 0))]⟩, ⟨.d (.bool r_8.2), []⟩] <| Rd <| kS_nrm <| Runs.ret <| kB_ret <| kS_ret ?_
  obtain rfl := Option.some.inj h
  exact ⟨Out.ret_ne, (by kernel_rfl)⟩
 | false =>
  replace h := ite_f hb_10 h
  refine Cf <| Sq <| Ro <| Rc 2 [⟨.d (.bool (t47 == 39)), []⟩, ⟨.d (.bool (t47 == 39)), []⟩] <| Rd <| kS_nrm ?_
  cases hb_11 : ((t47 == 39) : Bool) with
  | true =>
   replace h := ite_t hb_11 h
   refine Ct <| Sq <| Ro ?_
   obtain ⟨r_9, hr_9, h⟩ := bind_s h
   have hc_9 := isa_row_L 11 0 0 r_9 hr_9
   refine Rt (some 65) (.callf 55) [] none [.d (.int .i64 11), .d (.int .i64 0), .d (.int .i64 0)] (.tup [.d (Row.d r_9.1), .d (.bool r_9.2)]) [] (cut_call (call_of (ws := []) (us := []) (by kernel_rfl) (by kernel_rfl) hc_9 (by kernel_rfl) (by kernel_rfl))) <| Rc 4 [⟨.d (Row.d r_9.1), []⟩, ⟨.d (.bool r_9.2), []⟩, ⟨.tup [], [([2], some (.cells [.d (.int .i64 r_9.1.Name), .d (.int .i64 r_9.1.A), .d (.int .i64 r_9.1.B), .d (.bool r_9.1.Mod)] 0))]⟩, ⟨.d (.bool r_9.2), []⟩] <| Rd <| kS_nrm <| Runs.ret <| kB_ret <| kS_ret ?_
   obtain rfl := Option.some.inj h
   exact ⟨Out.ret_ne, (by kernel_rfl)⟩
  | false =>
   replace h := ite_f hb_11 h
   refine Cf <| Sq <| Ro <| Rc 2 [⟨.d (.bool (t47 == 47)), []⟩, ⟨.d (.bool (t47 == 47)), []⟩] <| Rd <| kS_nrm ?_
   cases hb_12 : ((t47 == 47) : Bool) with
   | true =>
    replace h := ite_t hb_12 h
    refine Ct <| Sq <| Ro ?_
    obtain ⟨r_10, hr_10, h⟩ := bind_s h
    have hc_10 := isa_row_L 12 0 0 r_10 hr_10
    refine Rt (some 70) (.callf 55) [] none [.d (.int .i64 12), .d (.int .i64 0), .d (.int .i64 0)] (.tup [.d (Row.d r_10.1), .d (.bool r_10.2)]) [] (cut_call (call_of (ws := []) (us := []) (by kernel_rfl) (by kernel_rfl) hc_10 (by kernel_rfl) (by kernel_rfl))) <| Rc 4 [⟨.d (Row.d r_10.1), []⟩, ⟨.d (.bool r_10.2), []⟩, ⟨.tup [], [([2], some (.cells [.d (.int .i64 r_10.1.Name), .d (.int .i64 r_10.1.A), .d (.int .i64 r_10.1.B), .d (.bool r_10.1.Mod)] 0))]⟩, ⟨.d (.bool r_10.2), []⟩] <| Rd <| kS_nrm <| Runs.ret <| kB_ret <| kS_ret ?_
    obtain rfl := Option.some.inj h
    exact ⟨Out.ret_ne, (by kernel_rfl)⟩
   | false =>
    replace h := ite_f hb_12 h
    refine Cf <| Sq <| Ro <| Rc 2 [⟨.d (.bool (t47 == 55)), []⟩, ⟨.d (.bool (t47 == 55)), []⟩] <| Rd <| kS_nrm ?_
    cases hb_13 : ((t47 == 55) : Bool) with
    | true =>
     replace h := ite_t hb_13 h
     refine Ct <| Sq <| Ro ?_
     obtain ⟨r_11, hr_11, h⟩ := bind_s h
     have hc_11 := isa_row_L 13 0 0 r_11 hr_11
     refine Rt (some 75) (.callf 55) [] none [.d (.int .i64 13), .d (.int .i64 0), .d (.int .i64 0)] (.tup [.d (Row.d r_11.1), .d (.bool r_11.2)]) [] (cut_call (call_of (ws := []) (us := []) (by kernel_rfl) (by kernel_rfl) hc_11 (by kernel_rfl) (by kernel_rfl))) <| Rc 4 [⟨.d (Row.d r_11.1), []⟩, ⟨.d (.bool r_11.2), []⟩, ⟨.tup [], [([2], some (.cells [.d (.int .i64 r_11.1.Name), .d (.int .i64 r_11.1.A), .d (.int .i64 r_11.1.B), .d (.bool r_11.1.Mod)] 0))]⟩, ⟨.d (.bool r_11.2), []⟩] <| Rd <| kS_nrm <| Runs.ret <| kB_ret <| kS_ret ?_
     obtain rfl := Option.some.inj h
     exact ⟨Out.ret_ne, (by kernel_rfl)⟩
    | false =>
     replace h := ite_f hb_13 h
     refine Cf <| Sq <| Ro <| Rc 2 [⟨.d (.bool (t47 == 63)), []⟩, ⟨.d (.bool (t47 == 63)), []⟩] <| Rd <| kS_nrm ?_
     cases hb_14 : ((t47 == 63) : Bool) with
     | true =>
      replace h := ite_t hb_14 h
      refine Ct <| Sq <| Ro ?_
      obtain ⟨r_12, hr_12, h⟩ := bind_s h
      have hc_12 := isa_row_L 14 0 0 r_12 hr_12
      refine Rt (some 80) (.callf 55) [] none [.d (.int .i64 14), .d (.int .i64 0), .d (.int .i64 0)] (.tup [.d (Row.d r_12.1), .d (.bool r_12.2)]) [] (cut_call (call_of (ws := []) (us := []) (by kernel_rfl) (by kernel_rfl) hc_12 (by kernel_rfl) (by kernel_rfl))) <| Rc 4 [⟨.d (Row.d r_12.1), []⟩, ⟨.d (.bool r_12.2), []⟩, ⟨.tup [], [([2], some (.cells [.d (.int .i64 r_12.1.Name), .d (.int .i64 r_12.1.A), .d (.int .i64 r_12.1.B), .d (.bool r_12.1.Mod)] 0))]⟩, ⟨.d (.bool r_12.2), []⟩] <| Rd <| kS_nrm <| Runs.ret <| kB_ret <| kS_ret ?_
      obtain rfl := Option.some.inj h
      exact ⟨Out.ret_ne, (by kernel_rfl)⟩
     | false =>
      replace h := ite_f hb_14 h
      refine Cf <| Runs.skip <| kB_nrm <| kS_nrm <| Sq <| Ro ?_
      obtain ⟨r_13, hr_13, h⟩ := bind_s h
      have hc_13 := isa_bad_L r_13 hr_13
      refine Rt (some 83) (.callf 56) [] none [] (.tup [.d (Row.d r_13.1), .d (.bool r_13.2)]) [] (cut_call (call_of (ws := []) (us := []) (by kernel_rfl) (by kernel_rfl) hc_13 (by kernel_rfl) (by kernel_rfl))) <| Rc 4 [⟨.d (Row.d r_13.1), []⟩, ⟨.d (.bool r_13.2), []⟩, ⟨.tup [], [([2], some (.cells [.d (.int .i64 r_13.1.Name), .d (.int .i64 r_13.1.A), .d (.int .i64 r_13.1.B), .d (.bool r_13.1.Mod)] 0))]⟩, ⟨.d (.bool r_13.2), []⟩] <| Rd <| kS_nrm <| Runs.ret ?_
      obtain rfl := Option.some.inj h
      exact ⟨Out.ret_ne, (by kernel_rfl)⟩
theorem isa_sums_j63_ok (op_ : Int) (b_2 : Row) (t47 : Int) (t48 : Bool) (r : (Row × Bool)) (h : isa_sums_j63 b_2 t47 t48 = some r) : Runs L F54b63 (isa_sums_h63 b_2 t47 t48) (kB 1 (kS L F54c106 (isa_sums_Q op_ r))) := by
 unfold isa_sums_j63 at h
 cases hb_8 : (t48 : Bool) with
 | true =>
  replace h := ite_t hb_8 h
  refine Ct <| Sq <| Ro ?_
  obtain ⟨r_7, hr_7, h⟩ := bind_s h
  have hc_7 := isa_row_L 9 23 0 r_7 hr_7
  refine Rt (some 53) (.callf 55) [] none [.d (.int .i64 9), .d (.int .i64 23), .d (.int .i64 0)] (.tup [.d (Row.d r_7.1), .d (.bool r_7.2)]) [] (cut_call (call_of (ws := []) (us := []) (by kernel_rfl) (by kernel_rfl) hc_7 (by kernel_rfl) (by kernel_rfl))) <| Rc 4 [⟨.d (Row.d r_7.1), []⟩, ⟨.d (.bool r_7.2), []⟩, ⟨.tup [], [([2], some (.cells [.d (.int .i64 r_7.1.Name), .d (.int .i64 r_7.1.A), .d (.int .i64 r_7.1.B), .d (.bool r_7.1.Mod)] 0))]⟩, ⟨.d (.bool r_7.2), []⟩] <| Rd <| kS_nrm <| Runs.ret <| kB_ret <| kS_ret ?_
  obtain rfl := Option.some.inj h
  exact ⟨Out.ret_ne, (by kernel_rfl)⟩
 | false =>
  replace h := ite_f hb_8 h
  refine Cf <| Sq <| Sq <| Ro <| Rc 2 [⟨.d (.bool (t47 == 7)), []⟩, ⟨.d (.bool (t47 == 7)), []⟩] <| Rd <| kS_nrm ?_
  cases hb_9 : ((t47 == 7) : Bool) with
  | true =>
   replace h := ite_t hb_9 h
   refine Ct <| Runs.skip <| kS_nrm <| Runs.canon (isa_sums_h77 b_2 t47 true) (Canon.nil (by kernel_rfl)) ?_
   exact isa_sums_j77_ok op_ b_2 t47 true r h
  | false =>
   replace h := ite_f hb_9 h
   refine Cf <| Sq <| Ro <| Rc 2 [⟨.d (.bool (t47 == 23)), []⟩, ⟨.d (.bool (t47 == 23)), []⟩] <| Rd <| kS_nrm ?_
   cases hb_15 : ((t47 == 23) : Bool) with
   | true =>
    replace h := ite_t hb_15 h
    refine Ct <| Runs.skip <| kS_nrm <| Runs.canon (isa_sums_h77 b_2 t47 true) (Canon.nil (by kernel_rfl)) ?_
    exact isa_sums_j77_ok op_ b_2 t47 true r h
   | false =>
    replace h := ite_f hb_15 h
    refine Cf <| Ro <| Rc 2 [⟨.d (.bool (t47 == 31)), []⟩, ⟨.d (.bool (t47 == 31)), []⟩] <| Rd <| kS_nrm <| Runs.canon (isa_sums_h77 b_2 t47 (t47 == 31)) (Canon.nil (by kernel_rfl)) ?_
    exact isa_sums_j77_ok op_ b_2 t47 (t47 == 31) r h
theorem isa_sums_ok (op_ : Int) (r : (Row × Bool)) (h : isa_sums op_ = some r) : Runs L F54.body ⟨tmOf [.d (.int .u8 op_)] 0, updW (fun _ => none) []⟩ (isa_sums_Q op_ r) := by
 unfold isa_sums at h
 refine Sq <| Ro <| Rc 2 [⟨.ptr [2] 0 0, [([2], some (.cells [.d (.int .i64 0), .d (.int .i64 0), .d (.int .i64 0), .d (.bool false)] 0))]⟩, ⟨.d (.bool false), []⟩] <| Rd <| kS_nrm <| Sq <| Ro <| Rc 5 [⟨.d (.int .u8 op_), []⟩, ⟨.d (.int .u8 (shrI .u8 op_ 3)), []⟩, ⟨.d (.int .i64 (IntKind.wrap .i64 (shrI .u8 op_ 3))), []⟩, ⟨.d (.int .i64 (IntKind.wrap .i64 (1 + (IntKind.wrap .i64 (shrI .u8 op_ 3))))), []⟩, ⟨.d (.int .i64 (IntKind.wrap .i64 (1 + (IntKind.wrap .i64 (shrI .u8 op_ 3))))), []⟩] <| Rd <| kS_nrm <| Sq <| Sq <| Ro <| Rc 2 [⟨.d (.int .u8 op_), []⟩, ⟨.d (.int .u8 (bitsOp .and .u8 op_ 7)), []⟩] <| Rd <| kS_nrm <| Runs.block <| Sq <| Ro <| Rc 2 [⟨.d (.bool ((bitsOp .and .u8 op_ 7) == 0)), []⟩, ⟨.d (.bool ((bitsOp .and .u8 op_ 7) == 0)), []⟩] <| Rd <| kS_nrm ?_
 cases hb_1 : (((bitsOp .and .u8 op_ 7) == 0) : Bool) with
 | true =>
  replace h := ite_t hb_1 h
  refine Ct <| Sq <| Ro <| Rc 1 [⟨.d (.int .i64 (IntKind.wrap .i64 (1 + (IntKind.wrap .i64 (shrI .u8 op_ 3))))), []⟩] ?_
  obtain ⟨r_1, hr_1, h⟩ := bind_s h
  have hc_1 := isa_mod_L (IntKind.wrap .i64 (1 + (IntKind.wrap .i64 (shrI .u8 op_ 3)))) 1 3 r_1 hr_1
  refine Rt (some 14) (.callf 65) [] none [.d (.int .i64 (IntKind.wrap .i64 (1 + (IntKind.wrap .i64 (shrI .u8 op_ 3))))), .d (.int .i64 1), .d (.int .i64 3)] (.tup [.d (Row.d r_1.1), .d (.bool r_1.2)]) [] (cut_call (call_of (ws := []) (us := []) (by kernel_rfl) (by kernel_rfl) hc_1 (by kernel_rfl) (by kernel_rfl))) <| Rc 4 [⟨.d (Row.d r_1.1), []⟩, ⟨.d (.bool r_1.2), []⟩, ⟨.tup [], [([2], some (.cells [.d (.int .i64 r_1.1.Name), .d (.int .i64 r_1.1.A), .d (.int .i64 r_1.1.B), .d (.bool r_1.1.Mod)] 0))]⟩, ⟨.d (.bool r_1.2), []⟩] <| Rd <| kS_nrm <| Runs.ret <| kB_ret <| kS_ret ?_
  obtain rfl := Option.some.inj h
  exact ⟨Out.ret_ne, (by kernel_rfl)⟩
 | false =>
  replace h := ite_f hb_1 h
  refine Cf <| Sq <| Ro <| Rc 2 [⟨.d (.bool ((bitsOp .and .u8 op_ 7) == 1)), []⟩, ⟨.d (.bool ((bitsOp .and .u8 op_ 7) == 1)), []⟩] <| Rd <| kS_nrm ?_
  cases hb_2 : (((bitsOp .and .u8 op_ 7) == 1) : Bool) with
  | true =>
   replace h := ite_t hb_2 h
   refine Ct <| Sq <| Ro <| Rc 1 [⟨.d (.int .i64 (IntKind.wrap .i64 (1 + (IntKind.wrap .i64 (shrI .u8 op_ 3))))), []⟩] ?_
   obtain ⟨r_2, hr_2, h⟩ := bind_s h
   have hc_2 := isa_mod_L (IntKind.wrap .i64 (1 + (IntKind.wrap .i64 (shrI .u8 op_ 3)))) 2 4 r_2 hr_2
   refine Rt (some 20) (.callf 65) [] none [.d (.int .i64 (IntKind.wrap .i64 (1 + (IntKind.wrap .i64 (shrI .u8 op_ 3))))), .d (.int .i64 2), .d (.int .i64 4)] (.tup [.d (Row.d r_2.1), .d (.bool r_2.2)]) [] (cut_call (call_of (ws := []) (us := []) (by kernel_rfl) (by kernel_rfl) hc_2 (by kernel_rfl) (by kernel_rfl))) <| Rc 4 [⟨.d (Row.d r_2.1), []⟩, ⟨.d (.bool r_2.2), []⟩, ⟨.tup [], [([2], some (.cells [.d (.int .i64 r_2.1.Name), .d (.int .i64 r_2.1.A), .d (.int .i64 r_2.1.B), .d (.bool r_2.1.Mod)] 0))]⟩, ⟨.d (.bool r_2.2), []⟩] <| Rd <| kS_nrm <| Runs.ret <| kB_ret <| kS_ret ?_
   obtain rfl := Option.some.inj h
   exact ⟨Out.ret_ne, (by kernel_rfl)⟩
  | false =>
   replace h := ite_f hb_2 h
   refine Cf <| Sq <| Ro <| Rc 2 [⟨.d (.bool ((bitsOp .and .u8 op_ 7) == 2)), []⟩, ⟨.d (.bool ((bitsOp .and .u8 op_ 7) == 2)), []⟩] <| Rd <| kS_nrm ?_
   cases hb_3 : (((bitsOp .and .u8 op_ 7) == 2) : Bool) with
   | true =>
    replace h := ite_t hb_3 h
    refine Ct <| Sq <| Ro <| Rc 1 [⟨.d (.int .i64 (IntKind.wrap .i64 (1 + (IntKind.wrap .i64 (shrI .u8 op_ 3))))), []⟩] ?_
    obtain ⟨r_3, hr_3, h⟩ := bind_s h
    have hc_3 := isa_mod_L (IntKind.wrap .i64 (1 + (IntKind.wrap .i64 (shrI .u8 op_ 3)))) 3 1 r_3 hr_3
    refine Rt (some 26) (.callf 65) [] none [.d (.int .i64 (IntKind.wrap .i64 (1 + (IntKind.wrap .i64 (shrI .u8 op_ 3))))), .d (.int .i64 3), .d (.int .i64 1)] (.tup [.d (Row.d r_3.1), .d (.bool r_3.2)]) [] (cut_call (call_of (ws := []) (us := []) (by kernel_rfl) (by kernel_rfl) hc_3 (by kernel_rfl) (by kernel_rfl))) <| Rc 4 [⟨.d (Row.d r_3.1), []⟩, ⟨.d (.bool r_3.2), []⟩, ⟨.tup [], [([2], some (.cells [.d (.int .i64 r_3.1.Name), .d (.int .i64 r_3.1.A), .d (.int .i64 r_3.1.B), .d (.bool r_3.1.Mod)] 0))]⟩, ⟨.d (.bool r_3.2), []⟩] <| Rd <| kS_nrm <| Runs.ret <| kB_ret <| kS_ret ?_
    obtain rfl := Option.some.inj h
    exact ⟨Out.ret_ne, (by kernel_rfl)⟩
   | false =>
    replace h := ite_f hb_3 h
    refine Cf <| Sq <| Ro <| Rc 2 [⟨.d (.bool ((bitsOp .and .u8 op_ 7) == 3)), []⟩, ⟨.d (.bool ((bitsOp .and .u8 op_ 7) == 3)), []⟩] <| Rd <| kS_nrm ?_
    cases hb_4 : (((bitsOp .and .u8 op_ 7) == 3) : Bool) with
    | true =>
     replace h := ite_t hb_4 h
     refine Ct <| Sq <| Ro <| Rc 1 [⟨.d (.int .i64 (IntKind.wrap .i64 (1 + (IntKind.wrap .i64 (shrI .u8 op_ 3))))), []⟩] ?_
     obtain ⟨r_4, hr_4, h⟩ := bind_s h
     have hc_4 := isa_mod_L (IntKind.wrap .i64 (1 + (IntKind.wrap .i64 (shrI .u8 op_ 3)))) 4 2 r_4 hr_4
     refine Rt (some 32) (.callf 65) [] none [.d (.int .i64 (IntKind.wrap .i64 (1 + (IntKind.wrap .i64 (shrI .u8 op_ 3))))), .d (.int .i64 4), .d (.int .i64 2)] (.tup [.d (Row.d r_4.1), .d (.bool r_4.2)]) [] (cut_call (call_of (ws := []) (us := []) (by kernel_rfl) (by kernel_rfl) hc_4 (by kernel_rfl) (by kernel_rfl))) <| Rc 4 [⟨.d (Row.d r_4.1), []⟩, ⟨.d (.bool r_4.2), []⟩, ⟨.tup [], [([2], some (.cells [.d (.int .i64 r_4.1.Name), .d (.int .i64 r_4.1.A), .d (.int .i64 r_4.1.B), .d (.bool r_4.1.Mod)] 0))]⟩, ⟨.d (.bool r_4.2), []⟩] <| Rd <| kS_nrm <| Runs.ret <| kB_ret <| kS_ret ?_
     obtain rfl := Option.some.inj h
     exact ⟨Out.ret_ne, (by kernel_rfl)⟩
    | false =>
     replace h := ite_f hb_4 h
     refine Cf <| Sq <| Ro <| Rc 2 [⟨.d (.bool ((bitsOp .and .u8 op_ 7) == 4)), []⟩, ⟨.d (.bool ((bitsOp .and .u8 op_ 7) == 4)), []⟩] <| Rd <| kS_nrm ?_
     cases hb_5 : (((bitsOp .and .u8 op_ 7) == 4) : Bool) with
     | true =>
      replace h := ite_t hb_5 h
      refine Ct <| Sq <| Ro <| Rc 1 [⟨.d (.int .i64 (IntKind.wrap .i64 (1 + (IntKind.wrap .i64 (shrI .u8 op_ 3))))), []⟩] ?_
      obtain ⟨r_5, hr_5, h⟩ := bind_s h
      have hc_5 := isa_row_L (IntKind.wrap .i64 (1 + (IntKind.wrap .i64 (shrI .u8 op_ 3)))) 14 6 r_5 hr_5
      refine Rt (some 38) (.callf 55) [] none [.d (.int .i64 (IntKind.wrap .i64 (1 + (IntKind.wrap .i64 (shrI .u8 op_ 3))))), .d (.int .i64 14), .d (.int .i64 6)] (.tup [.d (Row.d r_5.1), .d (.bool r_5.2)]) [] (cut_call (call_of (ws := []) (us := []) (by kernel_rfl) (by kernel_rfl) hc_5 (by kernel_rfl) (by kernel_rfl))) <| Rc 4 [⟨.d (Row.d r_5.1), []⟩, ⟨.d (.bool r_5.2), []⟩, ⟨.tup [], [([2], some (.cells [.d (.int .i64 r_5.1.Name), .d (.int .i64 r_5.1.A), .d (.int .i64 r_5.1.B), .d (.bool r_5.1.Mod)] 0))]⟩, ⟨.d (.bool r_5.2), []⟩] <| Rd <| kS_nrm <| Runs.ret <| kB_ret <| kS_ret ?_
      obtain rfl := Option.some.inj h
      exact ⟨Out.ret_ne, (by kernel_rfl)⟩
     | false =>
      replace h := ite_f hb_5 h
      refine Cf <| Sq <| Ro <| Rc 2 [⟨.d (.bool ((bitsOp .and .u8 op_ 7) == 5)), []⟩, ⟨.d (.bool ((bitsOp .and .u8 op_ 7) == 5)), []⟩] <| Rd <| kS_nrm ?_
      cases hb_6 : (((bitsOp .and .u8 op_ 7) == 5) : Bool) with
      | true =>
       replace h := ite_t hb_6 h
       refine Ct <| Sq <| Ro <| Rc 1 [⟨.d (.int .i64 (IntKind.wrap .i64 (1 + (IntKind.wrap .i64 (shrI .u8 op_ 3))))), []⟩] ?_
       obtain ⟨r_6, hr_6, h⟩ := bind_s h
       have hc_6 := isa_row_L (IntKind.wrap .i64 (1 + (IntKind.wrap .i64 (shrI .u8 op_ 3)))) 16 7 r_6 hr_6
       refine Rt (some 44) (.callf 55) [] none [.d (.int .i64 (IntKind.wrap .i64 (1 + (IntKind.wrap .i64 (shrI .u8 op_ 3))))), .d (.int .i64 16), .d (.int .i64 7)] (.tup [.d (Row.d r_6.1), .d (.bool r_6.2)]) [] (cut_call (call_of (ws := []) (us := []) (by kernel_rfl) (by kernel_rfl) hc_6 (by kernel_rfl) (by kernel_rfl))) <| Rc 4 [⟨.d (Row.d r_6.1), []⟩, ⟨.d (.bool r_6.2), []⟩, ⟨.tup [], [([2], some (.cells [.d (.int .i64 r_6.1.Name), .d (.int .i64 r_6.1.A), .d (.int .i64 r_6.1.B), .d (.bool r_6.1.Mod)] 0))]⟩, ⟨.d (.bool r_6.2), []⟩] <| Rd <| kS_nrm <| Runs.ret <| kB_ret <| kS_ret ?_
       obtain rfl := Option.some.inj h
       exact ⟨Out.ret_ne, (by kernel_rfl)⟩
      | false =>
       replace h := ite_f hb_6 h
       refine Cf <| Runs.skip <| kB_nrm <| kS_nrm <| Sq <| Sq <| Ro <| Rc 1 [⟨.d (.int .u8 op_), []⟩] <| Rd <| kS_nrm <| Runs.block <| Sq <| Sq <| Ro <| Rc 2 [⟨.d (.bool (op_ == 6)), []⟩, ⟨.d (.bool (op_ == 6)), []⟩] <| Rd <| kS_nrm ?_
       cases hb_7 : ((op_ == 6) : Bool) with
       | true =>
        replace h := ite_t hb_7 h
        refine Ct <| Runs.skip <| kS_nrm <| Runs.canon (isa_sums_h63 ({ Name := 0, A := 0, B := 0, Mod := false } : Row) op_ true) (Canon.nil (by kernel_rfl)) ?_
        exact isa_sums_j63_ok op_ ({ Name := 0, A := 0, B := 0, Mod := false } : Row) op_ true r h
       | false =>
        replace h := ite_f hb_7 h
        refine Cf <| Sq <| Ro <| Rc 2 [⟨.d (.bool (op_ == 14)), []⟩, ⟨.d (.bool (op_ == 14)), []⟩] <| Rd <| kS_nrm ?_
        cases hb_16 : ((op_ == 14) : Bool) with
        | true =>
         replace h := ite_t hb_16 h
         refine Ct <| Runs.skip <| kS_nrm <| Runs.canon (isa_sums_h63 ({ Name := 0, A := 0, B := 0, Mod := false } : Row) op_ true) (Canon.nil (by kernel_rfl)) ?_
         exact isa_sums_j63_ok op_ ({ Name := 0, A := 0, B := 0, Mod := false } : Row) op_ true r h
        | false =>
         replace h := ite_f hb_16 h
         refine Cf <| Sq <| Ro <| Rc 2 [⟨.d (.bool (op_ == 22)), []⟩, ⟨.d (.bool (op_ == 22)), []⟩] <| Rd <| kS_nrm ?_
         cases hb_17 : ((op_ == 22) : Bool) with
         | true =>
          replace h := ite_t hb_17 h
          refine Ct <| Runs.skip <| kS_nrm <| Runs.canon (isa_sums_h63 ({ Name := 0, A := 0, B := 0, Mod := false } : Row) op_ true) (Canon.nil (by kernel_rfl)) ?_
          exact isa_sums_j63_ok op_ ({ Name := 0, A := 0, B := 0, Mod := false } : Row) op_ true r h
         | false =>
          replace h := ite_f hb_17 h
          refine Cf <| Ro <| Rc 2 [⟨.d (.bool (op_ == 30)), []⟩, ⟨.d (.bool (op_ == 30)), []⟩] <| Rd <| kS_nrm <| Runs.canon (isa_sums_h63 ({ Name := 0, A := 0, B := 0, Mod := false } : Row) op_ (op_ == 30)) (Canon.nil (by kernel_rfl)) ?_
          exact isa_sums_j63_ok op_ ({ Name := 0, A := 0, B := 0, Mod := false } : Row) op_ (op_ == 30) r h
theorem isa_sums_L (op_ : Int) (r : (Row × Bool)) (h : isa_sums op_ = some r) : L 54 [.d (.int .u8 op_)] = some (.tup [.d (Row.d r.1), .d (.bool r.2)], [.d (.int .u8 op_)]) := by
 obtain ⟨p, ⟨hne, hf⟩, hr⟩ := isa_sums_ok op_ r h
 obtain ⟨k, hk⟩ := run_of (F := F54) (args := [.d (.int .u8 op_)]) (ap := [.d (.int .u8 op_)]) (bx0 := updW (fun _ => none) []) rfl rfl (by kernel_rfl) ⟨p, ⟨hne, hf⟩, hr⟩
 exact lim_run (k := k) rfl hk
def isa_moves_Q (op_ : Int) (reg_ : Int) (r : (Row × Bool)) (p : Out × St) : Prop := (∀ i, p.1 ≠ .exit i) ∧ finF F57 [.d (.int .u8 op_), .d (.int .i64 reg_)] p.2 = some (.tup [.d (Row.d r.1), .d (.bool r.2)], [.d (.int .u8 op_), .d (.int .i64 reg_)])
theorem isa_moves_ok (op_ : Int) (reg_ : Int) (r : (Row × Bool)) (h : isa_moves op_ reg_ = some r) : Runs L F57.body ⟨tmOf [.d (.int .u8 op_), .d (.int .i64 reg_)] 0, updW (fun _ => none) []⟩ (isa_moves_Q op_ reg_ r) := by
 unfold isa_moves at h
 refine Sq <| Ro <| Rc 2 [⟨.ptr [4] 0 0, [([4], some (.cells [.d (.int .i64 0), .d (.int .i64 0), .d (.int .i64 0), .d (.bool false)] 0))]⟩, ⟨.d (.bool false), []⟩] <| Rd <| kS_nrm <| Sq <| Sq <| Ro <| Rc 1 [⟨.d (.int .u8 op_), []⟩] <| Rd <| kS_nrm <| Runs.block <| Sq <| Ro <| Rc 2 [⟨.d (.bool (op_ == 128)), []⟩, ⟨.d (.bool (op_ == 128)), []⟩] <| Rd <| kS_nrm ?_
 cases hb_1 : ((op_ == 128) : Bool) with
 | true =>
  replace h := ite_t hb_1 h
  refine Ct <| Sq <| Ro <| Rc 2 [⟨.d (.int .i64 reg_), []⟩, ⟨.d (.int .i64 (IntKind.wrap .i64 (1 + reg_))), []⟩] ?_
  obtain ⟨r_1, hr_1, h⟩ := bind_s h
  have hc_1 := isa_mod_L (IntKind.wrap .i64 (1 + reg_)) 1 6 r_1 hr_1
  refine Rt (some 11) (.callf 65) [] none [.d (.int .i64 (IntKind.wrap .i64 (1 + reg_))), .d (.int .i64 1), .d (.int .i64 6)] (.tup [.d (Row.d r_1.1), .d (.bool r_1.2)]) [] (cut_call (call_of (ws := []) (us := []) (by kernel_rfl) (by kernel_rfl) hc_1 (by kernel_rfl) (by kernel_rfl))) <| Rc 4 [⟨.d (Row.d r_1.1), []⟩, ⟨.d (.bool r_1.2), []⟩, ⟨.tup [], [([4], some (.cells [.d (.int .i64 r_1.1.Name), .d (.int .i64 r_1.1.A), .d (.int .i64 r_1.1.B), .d (.bool r_1.1.Mod)] 0))]⟩, ⟨.d (.bool r_1.2), []⟩] <| Rd <| kS_nrm <| Runs.ret <| kB_ret <| kS_ret ?_
  obtain rfl := Option.some.inj h
  exact ⟨Out.ret_ne, (by kernel_rfl)⟩
 | false =>
  replace h := ite_f hb_1 h
  refine Cf <| Sq <| Ro <| Rc 2 [⟨.d (.bool (op_ == 129)), []⟩, ⟨.d (.bool (op_ == 129)), []⟩] <| Rd <| kS_nrm ?_
  cases hb_2 : ((op_ == 129) : Bool) with
  | true =>
   replace h := ite_t hb_2 h
   refine Ct <| Sq <| Ro <| Rc 2 [⟨.d (.int .i64 reg_), []⟩, ⟨.d (.int .i64 (IntKind.wrap .i64 (1 + reg_))), []⟩] ?_
   obtain ⟨r_2, hr_2, h⟩ := bind_s h
   have hc_2 := isa_mod_L (IntKind.wrap .i64 (1 + reg_)) 2 7 r_2 hr_2
   refine Rt (some 18) (.callf 65) [] none [.d (.int .i64 (IntKind.wrap .i64 (1 + reg_))), .d (.int .i64 2), .d (.int .i64 7)] (.tup [.d (Row.d r_2.1), .d (.bool r_2.2)]) [] (cut_call (call_of (ws := []) (us := []) (by kernel_rfl) (by kernel_rfl) hc_2 (by kernel_rfl) (by kernel_rfl))) <| Rc 4 [⟨.d (Row.d r_2.1), []⟩, ⟨.d (.bool r_2.2), []⟩, ⟨.tup [], [([4], some (.cells [.d (.int .i64 r_2.1.Name), .d (.int .i64 r_2.1.A), .d (.int .i64 r_2.1.B), .d (.bool r_2.1.Mod)] 0))]⟩, ⟨.d (.bool r_2.2), []⟩] <| Rd <| kS_nrm <| Runs.ret <| kB_ret <| kS_ret ?_
   obtain rfl := Option.some.inj h
   exact ⟨Out.ret_ne, (by kernel_rfl)⟩
  | false =>
   replace h := ite_f hb_2 h
   refine Cf <| Sq <| Ro <| Rc 2 [⟨.d (.bool (op_ == 131)), []⟩, ⟨.d (.bool (op_ == 131)), []⟩] <| Rd <| kS_nrm ?_
   cases hb_3 : ((op_ == 131) : Bool) with
   | true =>
    replace h := ite_t hb_3 h
    refine Ct <| Sq <| Sq <| Ro <| Rc 3 [⟨.d (.int .i64 reg_), []⟩, ⟨.d (.bool (reg_ == 1)), []⟩, ⟨.d (.bool (reg_ == 1)), []⟩] ?_
    cases hb_4 : ((reg_ == 1) : Bool) with
    | true =>
     replace h := ite_t hb_4 h
     refine Rc 7 [⟨.tup [], []⟩, ⟨.tup [], []⟩, ⟨.d (.bool true), []⟩, ⟨.d (.bool true), []⟩, ⟨.tup [], []⟩, ⟨.tup [], []⟩, ⟨.d (.bool true), []⟩] <| Rd <| kS_nrm <| Ct <| Sq <| Ro ?_
     obtain ⟨r_3, hr_3, h⟩ := bind_s h
     have hc_3 := isa_bad_L r_3 hr_3
     refine Rt (some 33) (.callf 56) [] none [] (.tup [.d (Row.d r_3.1), .d (.bool r_3.2)]) [] (cut_call (call_of (ws := []) (us := []) (by kernel_rfl) (by kernel_rfl) hc_3 (by kernel_rfl) (by kernel_rfl))) <| Rc 4 [⟨.d (Row.d r_3.1), []⟩, ⟨.d (.bool r_3.2), []⟩, ⟨.tup [], [([4], some (.cells [.d (.int .i64 r_3.1.Name), .d (.int .i64 r_3.1.A), .d (.int .i64 r_3.1.B), .d (.bool r_3.1.Mod)] 0))]⟩, ⟨.d (.bool r_3.2), []⟩] <| Rd <| kS_nrm <| Runs.ret <| kS_ret <| kB_ret <| kS_ret ?_
     obtain rfl := Option.some.inj h
     exact ⟨Out.ret_ne, (by kernel_rfl)⟩
    | false =>
     replace h := ite_f hb_4 h
     refine Rc 4 [⟨.d (.int .i64 reg_), []⟩, ⟨.d (.bool (reg_ == 4)), []⟩, ⟨.d (.bool (reg_ == 4)), []⟩, ⟨.d (.bool (reg_ == 4)), []⟩] ?_
     cases hb_5 : ((reg_ == 4) : Bool) with
     | true =>
      replace h := ite_t hb_5 h
      refine Rc 3 [⟨.tup [], []⟩, ⟨.tup [], []⟩, ⟨.d (.bool true), []⟩] <| Rd <| kS_nrm <| Ct <| Sq <| Ro ?_
      obtain ⟨r_4, hr_4, h⟩ := bind_s h
      have hc_4 := isa_bad_L r_4 hr_4
      refine Rt (some 33) (.callf 56) [] none [] (.tup [.d (Row.d r_4.1), .d (.bool r_4.2)]) [] (cut_call (call_of (ws := []) (us := []) (by kernel_rfl) (by kernel_rfl) hc_4 (by kernel_rfl) (by kernel_rfl))) <| Rc 4 [⟨.d (Row.d r_4.1), []⟩, ⟨.d (.bool r_4.2), []⟩, ⟨.tup [], [([4], some (.cells [.d (.int .i64 r_4.1.Name), .d (.int .i64 r_4.1.A), .d (.int .i64 r_4.1.B), .d (.bool r_4.1.Mod)] 0))]⟩, ⟨.d (.bool r_4.2), []⟩] <| Rd <| kS_nrm <| Runs.ret <| kS_ret <| kB_ret <| kS_ret ?_
      obtain rfl := Option.some.inj h
      exact ⟨Out.ret_ne, (by kernel_rfl)⟩
     | false =>
      replace h := ite_f hb_5 h
      refine Rc 3 [⟨.d (.int .i64 reg_), []⟩, ⟨.d (.bool (reg_ == 6)), []⟩, ⟨.d (.bool (reg_ == 6)), []⟩] <| Rd <| kS_nrm ?_
      cases hb_6 : ((reg_ == 6) : Bool) with
      | true =>
       replace h := ite_t hb_6 h
       refine Ct <| Sq <| Ro ?_
       obtain ⟨r_5, hr_5, h⟩ := bind_s h
       have hc_5 := isa_bad_L r_5 hr_5
       refine Rt (some 33) (.callf 56) [] none [] (.tup [.d (Row.d r_5.1), .d (.bool r_5.2)]) [] (cut_call (call_of (ws := []) (us := []) (by kernel_rfl) (by kernel_rfl) hc_5 (by kernel_rfl) (by kernel_rfl))) <| Rc 4 [⟨.d (Row.d r_5.1), []⟩, ⟨.d (.bool r_5.2), []⟩, ⟨.tup [], [([4], some (.cells [.d (.int .i64 r_5.1.Name), .d (.int .i64 r_5.1.A), .d (.int .i64 r_5.1.B), .d (.bool r_5.1.Mod)] 0))]⟩, ⟨.d (.bool r_5.2), []⟩] <| Rd <| kS_nrm <| Runs.ret <| kS_ret <| kB_ret <| kS_ret ?_
       obtain rfl := Option.some.inj h
       exact ⟨Out.ret_ne, (by kernel_rfl)⟩
      | false =>
       replace h := ite_f hb_6 h
       refine Cf <| Runs.skip <| kS_nrm <| Sq <| Ro <| Rc 2 [⟨.d (.int .i64 reg_), []⟩, ⟨.d (.int .i64 (IntKind.wrap .i64 (1 + reg_))), []⟩] ?_
       obtain ⟨r_6, hr_6, h⟩ := bind_s h
       have hc_6 := isa_mod_L (IntKind.wrap .i64 (1 + reg_)) 2 8 r_6 hr_6
       refine Rt (some 38) (.callf 65) [] none [.d (.int .i64 (IntKind.wrap .i64 (1 + reg_))), .d (.int .i64 2), .d (.int .i64 8)] (.tup [.d (Row.d r_6.1), .d (.bool r_6.2)]) [] (cut_call (call_of (ws := []) (us := []) (by kernel_rfl) (by kernel_rfl) hc_6 (by kernel_rfl) (by kernel_rfl))) <| Rc 4 [⟨.d (Row.d r_6.1), []⟩, ⟨.d (.bool r_6.2), []⟩, ⟨.tup [], [([4], some (.cells [.d (.int .i64 r_6.1.Name), .d (.int .i64 r_6.1.A), .d (.int .i64 r_6.1.B), .d (.bool r_6.1.Mod)] 0))]⟩, ⟨.d (.bool r_6.2), []⟩] <| Rd <| kS_nrm <| Runs.ret <| kB_ret <| kS_ret ?_
       obtain rfl := Option.some.inj h
       exact ⟨Out.ret_ne, (by kernel_rfl)⟩
   | false =>
    replace h := ite_f hb_3 h
    refine Cf <| Sq <| Ro <| Rc 2 [⟨.d (.bool (op_ == 132)), []⟩, ⟨.d (.bool (op_ == 132)), []⟩] <| Rd <| kS_nrm ?_
    cases hb_7 : ((op_ == 132) : Bool) with
    | true =>
     replace h := ite_t hb_7 h
     refine Ct <| Sq <| Ro ?_
     obtain ⟨r_7, hr_7, h⟩ := bind_s h
     have hc_7 := isa_mod_L 33 1 3 r_7 hr_7
     refine Rt (some 43) (.callf 65) [] none [.d (.int .i64 33), .d (.int .i64 1), .d (.int .i64 3)] (.tup [.d (Row.d r_7.1), .d (.bool r_7.2)]) [] (cut_call (call_of (ws := []) (us := []) (by kernel_rfl) (by kernel_rfl) hc_7 (by kernel_rfl) (by kernel_rfl))) <| Rc 4 [⟨.d (Row.d r_7.1), []⟩, ⟨.d (.bool r_7.2), []⟩, ⟨.tup [], [([4], some (.cells [.d (.int .i64 r_7.1.Name), .d (.int .i64 r_7.1.A), .d (.int .i64 r_7.1.B), .d (.bool r_7.1.Mod)] 0))]⟩, ⟨.d (.bool r_7.2), []⟩] <| Rd <| kS_nrm <| Runs.ret <| kB_ret <| kS_ret ?_
     obtain rfl := Option.some.inj h
     exact ⟨Out.ret_ne, (by kernel_rfl)⟩
    | false =>
     replace h := ite_f hb_7 h
     refine Cf <| Sq <| Ro <| Rc 2 [⟨.d (.bool (op_ == 133)), []⟩, ⟨.d (.bool (op_ == 133)), []⟩] <| Rd <| kS_nrm ?_
     cases hb_8 : ((op_ == 133) : Bool) with
     | true =>
      replace h := ite_t hb_8 h
      refine Ct <| Sq <| Ro ?_
      obtain ⟨r_8, hr_8, h⟩ := bind_s h
      have hc_8 := isa_mod_L 33 2 4 r_8 hr_8
      refine Rt (some 48) (.callf 65) [] none [.d (.int .i64 33), .d (.int .i64 2), .d (.int .i64 4)] (.tup [.d (Row.d r_8.1), .d (.bool r_8.2)]) [] (cut_call (call_of (ws := []) (us := []) (by kernel_rfl) (by kernel_rfl) hc_8 (by kernel_rfl) (by kernel_rfl))) <| Rc 4 [⟨.d (Row.d r_8.1), []⟩, ⟨.d (.bool r_8.2), []⟩, ⟨.tup [], [([4], some (.cells [.d (.int .i64 r_8.1.Name), .d (.int .i64 r_8.1.A), .d (.int .i64 r_8.1.B), .d (.bool r_8.1.Mod)] 0))]⟩, ⟨.d (.bool r_8.2), []⟩] <| Rd <| kS_nrm <| Runs.ret <| kB_ret <| kS_ret ?_
      obtain rfl := Option.some.inj h
      exact ⟨Out.ret_ne, (by kernel_rfl)⟩
     | false =>
      replace h := ite_f hb_8 h
      refine Cf <| Sq <| Ro <| Rc 2 [⟨.d (.bool (op_ == 134)), []⟩, ⟨.d (.bool (op_ == 134)), []⟩] <| Rd <| kS_nrm ?_
      cases hb_9 : ((op_ == 134) : Bool) with
      | true =>
       replace h := ite_t hb_9 h
       refine Ct <| Sq <| Ro ?_
       obtain ⟨r_9, hr_9, h⟩ := bind_s h
       have hc_9 := isa_mod_L 34 1 3 r_9 hr_9
       refine Rt (some 53) (.callf 65) [] none [.d (.int .i64 34), .d (.int .i64 1), .d (.int .i64 3)] (.tup [.d (Row.d r_9.1), .d (.bool r_9.2)]) [] (cut_call (call_of (ws := []) (us := []) (by kernel_rfl) (by kernel_rfl) hc_9 (by kernel_rfl) (by kernel_rfl))) <| Rc 4 [⟨.d (Row.d r_9.1), []⟩, ⟨.d (.bool r_9.2), []⟩, ⟨.tup [], [([4], some (.cells [.d (.int .i64 r_9.1.Name), .d (.int .i64 r_9.1.A), .d (.int .i64 r_9.1.B), .d (.bool r_9.1.Mod)] 0))]⟩, ⟨.d (.bool r_9.2), []⟩] <| Rd <| kS_nrm <| Runs.ret <| kB_ret <| kS_ret ?_
       obtain rfl := Option.some.inj h
       exact ⟨Out.ret_ne, (by kernel_rfl)⟩
      | false =>
       replace h := ite_f hb_9 h
       refine Cf <| Sq <| Ro <| Rc 2 [⟨.d (.bool (op_ == 135)), []⟩, ⟨.d (.bool (op_ == 135)), []⟩] <| Rd <| kS_nrm ?_
       cases hb_10 : ((op_ == 135) : Bool) with
       | true =>
        replace h := ite_t hb_10 h
        refine Ct <| Sq <| Ro ?_
        obtain ⟨r_10, hr_10, h⟩ := bind_s h
        have hc_10 := isa_mod_L 34 2 4 r_10 hr_10
        refine Rt (some 58) (.callf 65) [] none [.d (.int .i64 34), .d (.int .i64 2), .d (.int .i64 4)] (.tup [.d (Row.d r_10.1), .d (.bool r_10.2)]) [] (cut_call (call_of (ws := []) (us := []) (by kernel_rfl) (by kernel_rfl) hc_10 (by kernel_rfl) (by kernel_rfl))) <| Rc 4 [⟨.d (Row.d r_10.1), []⟩, ⟨.d (.bool r_10.2), []⟩, ⟨.tup [], [([4], some (.cells [.d (.int .i64 r_10.1.Name), .d (.int .i64 r_10.1.A), .d (.int .i64 r_10.1.B), .d (.bool r_10.1.Mod)] 0))]⟩, ⟨.d (.bool r_10.2), []⟩] <| Rd <| kS_nrm <| Runs.ret <| kB_ret <| kS_ret ?_
        obtain rfl := Option.some.inj h
        exact ⟨Out.ret_ne, (by kernel_rfl)⟩
       | false =>
        replace h := ite_f hb_10 h
        refine Cf <| Sq <| Ro <| Rc 2 [⟨.d (.bool (op_ == 136)), []⟩, ⟨.d (.bool (op_ == 136)), []⟩] <| Rd <| kS_nrm ?_
        cases hb_11 : ((op_ == 136) : Bool) with
        | true =>
         replace h := ite_t hb_11 h
         refine Ct <| Sq <| Ro ?_
         obtain ⟨r_11, hr_11, h⟩ := bind_s h
         have hc_11 := isa_mod_L 35 1 3 r_11 hr_11
         refine Rt (some 63) (.callf 65) [] none [.d (.int .i64 35), .d (.int .i64 1), .d (.int .i64 3)] (.tup [.d (Row.d r_11.1), .d (.bool r_11.2)]) [] (cut_call (call_of (ws := []) (us := []) (by kernel_rfl) (by kernel_rfl) hc_11 (by kernel_rfl) (by kernel_rfl))) <| Rc 4 [⟨.d (Row.d r_11.1), []⟩, ⟨.d (.bool r_11.2), []⟩, ⟨.tup [], [([4], some (.cells [.d (.int .i64 r_11.1.Name), .d (.int .i64 r_11.1.A), .d (.int .i64 r_11.1.B), .d (.bool r_11.1.Mod)] 0))]⟩, ⟨.d (.bool r_11.2), []⟩] <| Rd <| kS_nrm <| Runs.ret <| kB_ret <| kS_ret ?_
         obtain rfl := Option.some.inj h
         exact ⟨Out.ret_ne, (by kernel_rfl)⟩
        | false =>
         replace h := ite_f hb_11 h
         refine Cf <| Sq <| Ro <| Rc 2 [⟨.d (.bool (op_ == 137)), []⟩, ⟨.d (.bool (op_ == 137)), []⟩] <| Rd <| kS_nrm ?_
         cases hb_12 : ((op_ == 137) : Bool) with
         | true =>
          replace h := ite_t hb_12 h
          refine Ct <| Sq <| Ro ?_
          obtain ⟨r_12, hr_12, h⟩ := bind_s h
          have hc_12 := isa_mod_L 35 2 4 r_12 hr_12
          refine Rt (some 68) (.callf 65) [] none [.d (.int .i64 35), .d (.int .i64 2), .d (.int .i64 4)] (.tup [.d (Row.d r_12.1), .d (.bool r_12.2)]) [] (cut_call (call_of (ws := []) (us := []) (by kernel_rfl) (by kernel_rfl) hc_12 (by kernel_rfl) (by kernel_rfl))) <| Rc 4 [⟨.d (Row.d r_12.1), []⟩, ⟨.d (.bool r_12.2), []⟩, ⟨.tup [], [([4], some (.cells [.d (.int .i64 r_12.1.Name), .d (.int .i64 r_12.1.A), .d (.int .i64 r_12.1.B), .d (.bool r_12.1.Mod)] 0))]⟩, ⟨.d (.bool r_12.2), []⟩] <| Rd <| kS_nrm <| Runs.ret <| kB_ret <| kS_ret ?_
          obtain rfl := Option.some.inj h
          exact ⟨Out.ret_ne, (by kernel_rfl)⟩
         | false =>
          replace h := ite_f hb_12 h
          refine Cf <| Sq <| Ro <| Rc 2 [⟨.d (.bool (op_ == 138)), []⟩, ⟨.d (.bool (op_ == 138)), []⟩] <| Rd <| kS_nrm ?_
          cases hb_13 : ((op_ == 138) : Bool) with
          | true =>
           replace h := ite_t hb_13 h
           refine Ct <| Sq <| Ro ?_
           obtain ⟨r_13, hr_13, h⟩ := bind_s h
           have hc_13 := isa_mod_L 35 3 1 r_13 hr_13
           refine Rt (some 73) (.callf 65) [] none [.d (.int .i64 35), .d (.int .i64 3), .d (.int .i64 1)] (.tup [.d (Row.d r_13.1), .d (.bool r_13.2)]) [] (cut_call (call_of (ws := []) (us := []) (by kernel_rfl) (by kernel_rfl) hc_13 (by kernel_rfl) (by kernel_rfl))) <| Rc 4 [⟨.d (Row.d r_13.1), []⟩, ⟨.d (.bool r_13.2), []⟩, ⟨.tup [], [([4], some (.cells [.d (.int .i64 r_13.1.Name), .d (.int .i64 r_13.1.A), .d (.int .i64 r_13.1.B), .d (.bool r_13.1.Mod)] 0))]⟩, ⟨.d (.bool r_13.2), []⟩] <| Rd <| kS_nrm <| Runs.ret <| kB_ret <| kS_ret ?_
           obtain rfl := Option.some.inj h
           exact ⟨Out.ret_ne, (by kernel_rfl)⟩
          | false =>
           replace h := ite_f hb_13 h
           refine Cf <| Sq <| Ro <| Rc 2 [⟨.d (.bool (op_ == 139)), []⟩, ⟨.d (.bool (op_ == 139)), []⟩] <| Rd <| kS_nrm ?_
           cases hb_14 : ((op_ == 139) : Bool) with
           | true =>
            replace h := ite_t hb_14 h
            refine Ct <| Sq <| Ro ?_
            obtain ⟨r_14, hr_14, h⟩ := bind_s h
            have hc_14 := isa_mod_L 35 4 2 r_14 hr_14
            refine Rt (some 78) (.callf 65) [] none [.d (.int .i64 35), .d (.int .i64 4), .d (.int .i64 2)] (.tup [.d (Row.d r_14.1), .d (.bool r_14.2)]) [] (cut_call (call_of (ws := []) (us := []) (by kernel_rfl) (by kernel_rfl) hc_14 (by kernel_rfl) (by kernel_rfl))) <| Rc 4 [⟨.d (Row.d r_14.1), []⟩, ⟨.d (.bool r_14.2), []⟩, ⟨.tup [], [([4], some (.cells [.d (.int .i64 r_14.1.Name), .d (.int .i64 r_14.1.A), .d (.int .i64 r_14.1.B), .d (.bool r_14.1.Mod)] 0))]⟩, ⟨.d (.bool r_14.2), []⟩] <| Rd <| kS_nrm <| Runs.ret <| kB_ret <| kS_ret ?_
            obtain rfl := Option.some.inj h
            exact ⟨Out.ret_ne, (by kernel_rfl)⟩
           | false =>
            replace h := ite_f hb_14 h
            refine Cf <| Sq <| Ro <| Rc 2 [⟨.d (.bool (op_ == 140)), []⟩, ⟨.d (.bool (op_ == 140)), []⟩] <| Rd <| kS_nrm ?_
            cases hb_15 : ((op_ == 140) : Bool) with
            | true =>
             replace h := ite_t hb_15 h
             refine Ct <| Sq <| Ro <| Rc 2 [⟨.d (.int .i64 reg_), []⟩, ⟨.d (.bool (decide (reg_ < 4))), []⟩] <| Rd <| kS_nrm ?_
             cases hb_16 : ((decide (reg_ < 4)) : Bool) with
             | true =>
              replace h := ite_t hb_16 h
              refine Ct <| Sq <| Ro ?_
              obtain ⟨r_15, hr_15, h⟩ := bind_s h
              have hc_15 := isa_mod_L 35 2 5 r_15 hr_15
              refine Rt (some 85) (.callf 65) [] none [.d (.int .i64 35), .d (.int .i64 2), .d (.int .i64 5)] (.tup [.d (Row.d r_15.1), .d (.bool r_15.2)]) [] (cut_call (call_of (ws := []) (us := []) (by kernel_rfl) (by kernel_rfl) hc_15 (by kernel_rfl) (by kernel_rfl))) <| Rc 4 [⟨.d (Row.d r_15.1), []⟩, ⟨.d (.bool r_15.2), []⟩, ⟨.tup [], [([4], some (.cells [.d (.int .i64 r_15.1.Name), .d (.int .i64 r_15.1.A), .d (.int .i64 r_15.1.B), .d (.bool r_15.1.Mod)] 0))]⟩, ⟨.d (.bool r_15.2), []⟩] <| Rd <| kS_nrm <| Runs.ret <| kB_ret <| kS_ret ?_
              obtain rfl := Option.some.inj h
              exact ⟨Out.ret_ne, (by kernel_rfl)⟩
             | false =>
              replace h := ite_f hb_16 h
              refine Cf <| Runs.skip <| kB_nrm <| kS_nrm <| Sq <| Ro ?_
              obtain ⟨r_16, hr_16, h⟩ := bind_s h
              have hc_16 := isa_bad_L r_16 hr_16
              refine Rt (some 111) (.callf 56) [] none [] (.tup [.d (Row.d r_16.1), .d (.bool r_16.2)]) [] (cut_call (call_of (ws := []) (us := []) (by kernel_rfl) (by kernel_rfl) hc_16 (by kernel_rfl) (by kernel_rfl))) <| Rc 4 [⟨.d (Row.d r_16.1), []⟩, ⟨.d (.bool r_16.2), []⟩, ⟨.tup [], [([4], some (.cells [.d (.int .i64 r_16.1.Name), .d (.int .i64 r_16.1.A), .d (.int .i64 r_16.1.B), .d (.bool r_16.1.Mod)] 0))]⟩, ⟨.d (.bool r_16.2), []⟩] <| Rd <| kS_nrm <| Runs.ret ?_
              obtain rfl := Option.some.inj h
              exact ⟨Out.ret_ne, (by kernel_rfl)⟩
            | false =>
             replace h := ite_f hb_15 h
             refine Cf <| Sq <| Ro <| Rc 2 [⟨.d (.bool (op_ == 141)), []⟩, ⟨.d (.bool (op_ == 141)), []⟩] <| Rd <| kS_nrm ?_
             cases hb_17 : ((op_ == 141) : Bool) with
             | true =>
              replace h := ite_t hb_17 h
              refine Ct <| Sq <| Ro ?_
              obtain ⟨r_17, hr_17, h⟩ := bind_s h
              have hc_17 := isa_mod_L 36 4 20 r_17 hr_17
              refine Rt (some 90) (.callf 65) [] none [.d (.int .i64 36), .d (.int .i64 4), .d (.int .i64 20)] (.tup [.d (Row.d r_17.1), .d (.bool r_17.2)]) [] (cut_call (call_of (ws := []) (us := []) (by kernel_rfl) (by kernel_rfl) hc_17 (by kernel_rfl) (by kernel_rfl))) <| Rc 4 [⟨.d (Row.d r_17.1), []⟩, ⟨.d (.bool r_17.2), []⟩, ⟨.tup [], [([4], some (.cells [.d (.int .i64 r_17.1.Name), .d (.int .i64 r_17.1.A), .d (.int .i64 r_17.1.B), .d (.bool r_17.1.Mod)] 0))]⟩, ⟨.d (.bool r_17.2), []⟩] <| Rd <| kS_nrm <| Runs.ret <| kB_ret <| kS_ret ?_
              obtain rfl := Option.some.inj h
              exact ⟨Out.ret_ne, (by kernel_rfl)⟩
             | false =>
              replace h := ite_f hb_17 h
              refine Cf <| Sq <| Ro <| Rc 2 [⟨.d (.bool (op_ == 142)), []⟩, ⟨.d (.bool (op_ == 142)), []⟩] <| Rd <| kS_nrm ?_
              cases hb_18 : ((op_ == 142) : Bool) with
              | true =>
               replace h := ite_t hb_18 h
               refine Ct <| Sq <| Ro <| Rc 3 [⟨.d (.int .i64 reg_), []⟩, ⟨.d (.bool (decide (reg_ < 4))), []⟩, ⟨.d (.bool (decide (reg_ < 4))), []⟩] ?_
               cases hb_19 : ((decide (reg_ < 4)) : Bool) with
               | true =>
                replace h := ite_t hb_19 h
                refine Rc 3 [⟨.d (.int .i64 reg_), []⟩, ⟨.d (.bool (reg_ != 1)), []⟩, ⟨.d (.bool (reg_ != 1)), []⟩] <| Rd <| kS_nrm ?_
                cases hb_20 : ((reg_ != 1) : Bool) with
                | true =>
                 replace h := ite_t hb_20 h
                 refine Ct <| Sq <| Ro ?_
                 obtain ⟨r_18, hr_18, h⟩ := bind_s h
                 have hc_18 := isa_mod_L 35 5 2 r_18 hr_18
                 refine Rt (some 101) (.callf 65) [] none [.d (.int .i64 35), .d (.int .i64 5), .d (.int .i64 2)] (.tup [.d (Row.d r_18.1), .d (.bool r_18.2)]) [] (cut_call (call_of (ws := []) (us := []) (by kernel_rfl) (by kernel_rfl) hc_18 (by kernel_rfl) (by kernel_rfl))) <| Rc 4 [⟨.d (Row.d r_18.1), []⟩, ⟨.d (.bool r_18.2), []⟩, ⟨.tup [], [([4], some (.cells [.d (.int .i64 r_18.1.Name), .d (.int .i64 r_18.1.A), .d (.int .i64 r_18.1.B), .d (.bool r_18.1.Mod)] 0))]⟩, ⟨.d (.bool r_18.2), []⟩] <| Rd <| kS_nrm <| Runs.ret <| kB_ret <| kS_ret ?_
                 obtain rfl := Option.some.inj h
                 exact ⟨Out.ret_ne, (by kernel_rfl)⟩
                | false =>
                 replace h := ite_f hb_20 h
                 refine Cf <| Runs.skip <| kB_nrm <| kS_nrm <| Sq <| Ro ?_
                 obtain ⟨r_19, hr_19, h⟩ := bind_s h
                 have hc_19 := isa_bad_L r_19 hr_19
                 refine Rt (some 111) (.callf 56) [] none [] (.tup [.d (Row.d r_19.1), .d (.bool r_19.2)]) [] (cut_call (call_of (ws := []) (us := []) (by kernel_rfl) (by kernel_rfl) hc_19 (by kernel_rfl) (by kernel_rfl))) <| Rc 4 [⟨.d (Row.d r_19.1), []⟩, ⟨.d (.bool r_19.2), []⟩, ⟨.tup [], [([4], some (.cells [.d (.int .i64 r_19.1.Name), .d (.int .i64 r_19.1.A), .d (.int .i64 r_19.1.B), .d (.bool r_19.1.Mod)] 0))]⟩, ⟨.d (.bool r_19.2), []⟩] <| Rd <| kS_nrm <| Runs.ret ?_
                 obtain rfl := Option.some.inj h
                 exact ⟨Out.ret_ne, (by kernel_rfl)⟩
               | false =>
                replace h := ite_f hb_19 h
                refine Rc 3 [⟨.tup [], []⟩, ⟨.tup [], []⟩, ⟨.d (.bool false), []⟩] <| Rd <| kS_nrm <| Cf <| Runs.skip <| kB_nrm <| kS_nrm <| Sq <| Ro ?_
                obtain ⟨r_20, hr_20, h⟩ := bind_s h
                have hc_20 := isa_bad_L r_20 hr_20
                refine Rt (some 111) (.callf 56) [] none [] (.tup [.d (Row.d r_20.1), .d (.bool r_20.2)]) [] (cut_call (call_of (ws := []) (us := []) (by kernel_rfl) (by kernel_rfl) hc_20 (by kernel_rfl) (by kernel_rfl))) <| Rc 4 [⟨.d (Row.d r_20.1), []⟩, ⟨.d (.bool r_20.2), []⟩, ⟨.tup [], [([4], some (.cells [.d (.int .i64 r_20.1.Name), .d (.int .i64 r_20.1.A), .d (.int .i64 r_20.1.B), .d (.bool r_20.1.Mod)] 0))]⟩, ⟨.d (.bool r_20.2), []⟩] <| Rd <| kS_nrm <| Runs.ret ?_
                obtain rfl := Option.some.inj h
                exact ⟨Out.ret_ne, (by kernel_rfl)⟩
              | false =>
               replace h := ite_f hb_18 h
               refine Cf <| Sq <| Ro <| Rc 2 [⟨.d (.bool (op_ == 143)), []⟩, ⟨.d (.bool (op_ == 143)), []⟩] <| Rd <| kS_nrm ?_
               cases hb_21 : ((op_ == 143) : Bool) with
               | true =>
                replace h := ite_t hb_21 h
                refine Ct <| Sq <| Ro <| Rc 2 [⟨.d (.int .i64 reg_), []⟩, ⟨.d (.bool (reg_ == 0)), []⟩] <| Rd <| kS_nrm ?_
                cases hb_22 : ((reg_ == 0) : Bool) with
                | true =>
                 replace h := ite_t hb_22 h
                 refine Ct <| Sq <| Ro ?_
                 obtain ⟨r_21, hr_21, h⟩ := bind_s h
                 have hc_21 := isa_mod_L 10 2 0 r_21 hr_21
                 refine Rt (some 108) (.callf 65) [] none [.d (.int .i64 10), .d (.int .i64 2), .d (.int .i64 0)] (.tup [.d (Row.d r_21.1), .d (.bool r_21.2)]) [] (cut_call (call_of (ws := []) (us := []) (by kernel_rfl) (by kernel_rfl) hc_21 (by kernel_rfl) (by kernel_rfl))) <| Rc 4 [⟨.d (Row.d r_21.1), []⟩, ⟨.d (.bool r_21.2), []⟩, ⟨.tup [], [([4], some (.cells [.d (.int .i64 r_21.1.Name), .d (.int .i64 r_21.1.A), .d (.int .i64 r_21.1.B), .d (.bool r_21.1.Mod)] 0))]⟩, ⟨.d (.bool r_21.2), []⟩] <| Rd <| kS_nrm <| Runs.ret <| kB_ret <| kS_ret ?_
                 obtain rfl := Option.some.inj h
                 exact ⟨Out.ret_ne, (by kernel_rfl)⟩
                | false =>
                 replace h := ite_f hb_22 h
                 refine Cf <| Runs.skip <| kB_nrm <| kS_nrm <| Sq <| Ro ?_
                 obtain ⟨r_22, hr_22, h⟩ := bind_s h
                 have hc_22 := isa_bad_L r_22 hr_22
                 refine Rt (some 111) (.callf 56) [] none [] (.tup [.d (Row.d r_22.1), .d (.bool r_22.2)]) [] (cut_call (call_of (ws := []) (us := []) (by kernel_rfl) (by kernel_rfl) hc_22 (by kernel_rfl) (by kernel_rfl))) <| Rc 4 [⟨.d (Row.d r_22.1), []⟩, ⟨.d (.bool r_22.2), []⟩, ⟨.tup [], [([4], some (.cells [.d (.int .i64 r_22.1.Name), .d (.int .i64 r_22.1.A), .d (.int .i64 r_22.1.B), .d (.bool r_22.1.Mod)] 0))]⟩, ⟨.d (.bool r_22.2), []⟩] <| Rd <| kS_nrm <| Runs.ret ?_
                 obtain rfl := Option.some.inj h
                 exact ⟨Out.ret_ne, (by kernel_rfl)⟩
               | false =>
                replace h := ite_f hb_21 h
                refine Cf <| Runs.skip <| kB_nrm <| kS_nrm <| Sq <| Ro ?_
                obtain ⟨r_23, hr_23, h⟩ := bind_s h
                have hc_23 := isa_bad_L r_23 hr_23
                refine Rt (some 111) (.callf 56) [] none [] (.tup [.d (Row.d r_23.1), .d (.bool r_23.2)]) [] (cut_call (call_of (ws := []) (us := []) (by kernel_rfl) (by kernel_rfl) hc_23 (by kernel_rfl) (by kernel_rfl))) <| Rc 4 [⟨.d (Row.d r_23.1), []⟩, ⟨.d (.bool r_23.2), []⟩, ⟨.tup [], [([4], some (.cells [.d (.int .i64 r_23.1.Name), .d (.int .i64 r_23.1.A), .d (.int .i64 r_23.1.B), .d (.bool r_23.1.Mod)] 0))]⟩, ⟨.d (.bool r_23.2), []⟩] <| Rd <| kS_nrm <| Runs.ret ?_
                obtain rfl := Option.some.inj h
                exact ⟨Out.ret_ne, (by kernel_rfl)⟩
theorem isa_moves_L (op_ : Int) (reg_ : Int) (r : (Row × Bool)) (h : isa_moves op_ reg_ = some r) : L 57 [.d (.int .u8 op_), .d (.int .i64 reg_)] = some (.tup [.d (Row.d r.1), .d (.bool r.2)], [.d (.int .u8 op_), .d (.int .i64 reg_)]) := by
 obtain ⟨p, ⟨hne, hf⟩, hr⟩ := isa_moves_ok op_ reg_ r h
 obtain ⟨k, hk⟩ := run_of (F := F57) (args := [.d (.int .u8 op_), .d (.int .i64 reg_)]) (ap := [.d (.int .u8 op_), .d (.int .i64 reg_)]) (bx0 := updW (fun _ => none) []) rfl rfl (by kernel_rfl) ⟨p, ⟨hne, hf⟩, hr⟩
 exact lim_run (k := k) rfl hk
def isa_words_Q (op_ : Int) (r : (Row × Bool)) (p : Out × St) : Prop := (∀ i, p.1 ≠ .exit i) ∧ finF F58 [.d (.int .u8 op_)] p.2 = some (.tup [.d (Row.d r.1), .d (.bool r.2)], [.d (.int .u8 op_)])
theorem isa_words_ok (op_ : Int) (r : (Row × Bool)) (h : isa_words op_ = some r) : Runs L F58.body ⟨tmOf [.d (.int .u8 op_)] 0, updW (fun _ => none) []⟩ (isa_words_Q op_ r) := by
 unfold isa_words at h
 refine Sq <| Ro <| Rc 2 [⟨.ptr [2] 0 0, [([2], some (.cells [.d (.int .i64 0), .d (.int .i64 0), .d (.int .i64 0), .d (.bool false)] 0))]⟩, ⟨.d (.bool false), []⟩] <| Rd <| kS_nrm <| Sq <| Sq <| Ro <| Rc 2 [⟨.d (.int .u8 op_), []⟩, ⟨.d (.bool (decide (op_ < 152))), []⟩] <| Rd <| kS_nrm ?_
 cases hb_1 : ((decide (op_ < 152)) : Bool) with
 | true =>
  replace h := ite_t hb_1 h
  refine Ct <| Sq <| Ro ?_
  obtain ⟨r_1, hr_1, h⟩ := bind_s h
  have hc_1 := isa_row_L 34 16 22 r_1 hr_1
  refine Rt (some 7) (.callf 55) [] none [.d (.int .i64 34), .d (.int .i64 16), .d (.int .i64 22)] (.tup [.d (Row.d r_1.1), .d (.bool r_1.2)]) [] (cut_call (call_of (ws := []) (us := []) (by kernel_rfl) (by kernel_rfl) hc_1 (by kernel_rfl) (by kernel_rfl))) <| Rc 4 [⟨.d (Row.d r_1.1), []⟩, ⟨.d (.bool r_1.2), []⟩, ⟨.tup [], [([2], some (.cells [.d (.int .i64 r_1.1.Name), .d (.int .i64 r_1.1.A), .d (.int .i64 r_1.1.B), .d (.bool r_1.1.Mod)] 0))]⟩, ⟨.d (.bool r_1.2), []⟩] <| Rd <| kS_nrm <| Runs.ret <| kS_ret ?_
  obtain rfl := Option.some.inj h
  exact ⟨Out.ret_ne, (by kernel_rfl)⟩
 | false =>
  replace h := ite_f hb_1 h
  refine Cf <| Runs.skip <| kS_nrm <| Sq <| Sq <| Ro <| Rc 2 [⟨.d (.int .u8 op_), []⟩, ⟨.d (.bool (op_ == 154)), []⟩] <| Rd <| kS_nrm ?_
  cases hb_2 : ((op_ == 154) : Bool) with
  | true =>
   replace h := ite_t hb_2 h
   refine Ct <| Sq <| Ro ?_
   obtain ⟨r_2, hr_2, h⟩ := bind_s h
   have hc_2 := isa_row_L 40 11 0 r_2 hr_2
   refine Rt (some 12) (.callf 55) [] none [.d (.int .i64 40), .d (.int .i64 11), .d (.int .i64 0)] (.tup [.d (Row.d r_2.1), .d (.bool r_2.2)]) [] (cut_call (call_of (ws := []) (us := []) (by kernel_rfl) (by kernel_rfl) hc_2 (by kernel_rfl) (by kernel_rfl))) <| Rc 4 [⟨.d (Row.d r_2.1), []⟩, ⟨.d (.bool r_2.2), []⟩, ⟨.tup [], [([2], some (.cells [.d (.int .i64 r_2.1.Name), .d (.int .i64 r_2.1.A), .d (.int .i64 r_2.1.B), .d (.bool r_2.1.Mod)] 0))]⟩, ⟨.d (.bool r_2.2), []⟩] <| Rd <| kS_nrm <| Runs.ret <| kS_ret ?_
   obtain rfl := Option.some.inj h
   exact ⟨Out.ret_ne, (by kernel_rfl)⟩
  | false =>
   replace h := ite_f hb_2 h
   refine Cf <| Runs.skip <| kS_nrm <| Sq <| Ro <| Rc 3 [⟨.ref [15] 0 0 (List.map (D.int .i64) ([37, 38, 0, 41, 42, 43, 44, 45] : List Int)).length 1, [([15], some (.arr (List.map (D.int .i64) ([37, 38, 0, 41, 42, 43, 44, 45] : List Int)) 0 false))]⟩, ⟨.d (.int .u8 op_), []⟩, ⟨.d (.int .u8 (IntKind.wrap .u8 (op_ - 152))), []⟩] ?_
   obtain ⟨z_1, hz_1, h⟩ := bind_s h
   refine Rt (some 18) (.iaddrS 1) [] none [.ref [15] 0 0 (List.map (D.int .i64) ([37, 38, 0, 41, 42, 43, 44, 45] : List Int)).length 1, .d (.int .u8 (IntKind.wrap .u8 (op_ - 152)))] (.eref [15] 0 (0 + ((IntKind.wrap .u8 (op_ - 152))).toNat) 0) [] (cut_atR (e := (D.int .i64)) (l := ([37, 38, 0, 41, 42, 43, 44, 45] : List Int)) hz_1 rfl) <| Rt (some 19) (.load none) [] none [.eref [15] 0 (0 + ((IntKind.wrap .u8 (op_ - 152))).toNat) 0] (.d (.int .i64 z_1)) [] (cut_loadR (e := (D.int .i64)) (l := ([37, 38, 0, 41, 42, 43, 44, 45] : List Int)) (fz := false) (y := z_1) (by kernel_rfl) hz_1 (by kernel_rfl) (by kernel_rfl)) <| Rc 1 [⟨.d (.int .i64 z_1), []⟩] <| Rd <| kS_nrm <| Sq <| Ro <| Rc 1 [⟨.d (.int .i64 z_1), []⟩] ?_
   obtain ⟨r_3, hr_3, h⟩ := bind_s h
   have hc_3 := isa_row_L z_1 0 0 r_3 hr_3
   refine Rt (some 21) (.callf 55) [] none [.d (.int .i64 z_1), .d (.int .i64 0), .d (.int .i64 0)] (.tup [.d (Row.d r_3.1), .d (.bool r_3.2)]) [] (cut_call (call_of (ws := []) (us := []) (by kernel_rfl) (by kernel_rfl) hc_3 (by kernel_rfl) (by kernel_rfl))) <| Rc 4 [⟨.d (Row.d r_3.1), []⟩, ⟨.d (.bool r_3.2), []⟩, ⟨.tup [], [([2], some (.cells [.d (.int .i64 r_3.1.Name), .d (.int .i64 r_3.1.A), .d (.int .i64 r_3.1.B), .d (.bool r_3.1.Mod)] 0))]⟩, ⟨.d (.bool r_3.2), []⟩] <| Rd <| kS_nrm <| Runs.ret ?_
   obtain rfl := Option.some.inj h
   exact ⟨Out.ret_ne, (by kernel_rfl)⟩
theorem isa_words_L (op_ : Int) (r : (Row × Bool)) (h : isa_words op_ = some r) : L 58 [.d (.int .u8 op_)] = some (.tup [.d (Row.d r.1), .d (.bool r.2)], [.d (.int .u8 op_)]) := by
 obtain ⟨p, ⟨hne, hf⟩, hr⟩ := isa_words_ok op_ r h
 obtain ⟨k, hk⟩ := run_of (F := F58) (args := [.d (.int .u8 op_)]) (ap := [.d (.int .u8 op_)]) (bx0 := updW (fun _ => none) []) rfl rfl (by kernel_rfl) ⟨p, ⟨hne, hf⟩, hr⟩
 exact lim_run (k := k) rfl hk
def isa_texts_Q (op_ : Int) (r : (Row × Bool)) (p : Out × St) : Prop := (∀ i, p.1 ≠ .exit i) ∧ finF F59 [.d (.int .u8 op_)] p.2 = some (.tup [.d (Row.d r.1), .d (.bool r.2)], [.d (.int .u8 op_)])
theorem isa_texts_ok (op_ : Int) (r : (Row × Bool)) (h : isa_texts op_ = some r) : Runs L F59.body ⟨tmOf [.d (.int .u8 op_)] 0, updW (fun _ => none) []⟩ (isa_texts_Q op_ r) := by
 unfold isa_texts at h
 refine Sq <| Ro <| Rc 2 [⟨.ptr [2] 0 0, [([2], some (.cells [.d (.int .i64 0), .d (.int .i64 0), .d (.int .i64 0), .d (.bool false)] 0))]⟩, ⟨.d (.bool false), []⟩] <| Rd <| kS_nrm <| Sq <| Sq <| Ro <| Rc 1 [⟨.d (.int .u8 op_), []⟩] <| Rd <| kS_nrm <| Runs.block <| Sq <| Ro <| Rc 2 [⟨.d (.bool (op_ == 160)), []⟩, ⟨.d (.bool (op_ == 160)), []⟩] <| Rd <| kS_nrm ?_
 cases hb_1 : ((op_ == 160) : Bool) with
 | true =>
  replace h := ite_t hb_1 h
  refine Ct <| Sq <| Ro ?_
  obtain ⟨r_1, hr_1, h⟩ := bind_s h
  have hc_1 := isa_row_L 35 14 12 r_1 hr_1
  refine Rt (some 7) (.callf 55) [] none [.d (.int .i64 35), .d (.int .i64 14), .d (.int .i64 12)] (.tup [.d (Row.d r_1.1), .d (.bool r_1.2)]) [] (cut_call (call_of (ws := []) (us := []) (by kernel_rfl) (by kernel_rfl) hc_1 (by kernel_rfl) (by kernel_rfl))) <| Rc 4 [⟨.d (Row.d r_1.1), []⟩, ⟨.d (.bool r_1.2), []⟩, ⟨.tup [], [([2], some (.cells [.d (.int .i64 r_1.1.Name), .d (.int .i64 r_1.1.A), .d (.int .i64 r_1.1.B), .d (.bool r_1.1.Mod)] 0))]⟩, ⟨.d (.bool r_1.2), []⟩] <| Rd <| kS_nrm <| Runs.ret <| kB_ret <| kS_ret ?_
  obtain rfl := Option.some.inj h
  exact ⟨Out.ret_ne, (by kernel_rfl)⟩
 | false =>
  replace h := ite_f hb_1 h
  refine Cf <| Sq <| Ro <| Rc 2 [⟨.d (.bool (op_ == 161)), []⟩, ⟨.d (.bool (op_ == 161)), []⟩] <| Rd <| kS_nrm ?_
  cases hb_2 : ((op_ == 161) : Bool) with
  | true =>
   replace h := ite_t hb_2 h
   refine Ct <| Sq <| Ro ?_
   obtain ⟨r_2, hr_2, h⟩ := bind_s h
   have hc_2 := isa_row_L 35 16 13 r_2 hr_2
   refine Rt (some 12) (.callf 55) [] none [.d (.int .i64 35), .d (.int .i64 16), .d (.int .i64 13)] (.tup [.d (Row.d r_2.1), .d (.bool r_2.2)]) [] (cut_call (call_of (ws := []) (us := []) (by kernel_rfl) (by kernel_rfl) hc_2 (by kernel_rfl) (by kernel_rfl))) <| Rc 4 [⟨.d (Row.d r_2.1), []⟩, ⟨.d (.bool r_2.2), []⟩, ⟨.tup [], [([2], some (.cells [.d (.int .i64 r_2.1.Name), .d (.int .i64 r_2.1.A), .d (.int .i64 r_2.1.B), .d (.bool r_2.1.Mod)] 0))]⟩, ⟨.d (.bool r_2.2), []⟩] <| Rd <| kS_nrm <| Runs.ret <| kB_ret <| kS_ret ?_
   obtain rfl := Option.some.inj h
   exact ⟨Out.ret_ne, (by kernel_rfl)⟩
  | false =>
   replace h := ite_f hb_2 h
   refine Cf <| Sq <| Ro <| Rc 2 [⟨.d (.bool (op_ == 162)), []⟩, ⟨.d (.bool (op_ == 162)), []⟩] <| Rd <| kS_nrm ?_
   cases hb_3 : ((op_ == 162) : Bool) with
   | true =>
    replace h := ite_t hb_3 h
    refine Ct <| Sq <| Ro ?_
    obtain ⟨r_3, hr_3, h⟩ := bind_s h
    have hc_3 := isa_row_L 35 12 14 r_3 hr_3
    refine Rt (some 17) (.callf 55) [] none [.d (.int .i64 35), .d (.int .i64 12), .d (.int .i64 14)] (.tup [.d (Row.d r_3.1), .d (.bool r_3.2)]) [] (cut_call (call_of (ws := []) (us := []) (by kernel_rfl) (by kernel_rfl) hc_3 (by kernel_rfl) (by kernel_rfl))) <| Rc 4 [⟨.d (Row.d r_3.1), []⟩, ⟨.d (.bool r_3.2), []⟩, ⟨.tup [], [([2], some (.cells [.d (.int .i64 r_3.1.Name), .d (.int .i64 r_3.1.A), .d (.int .i64 r_3.1.B), .d (.bool r_3.1.Mod)] 0))]⟩, ⟨.d (.bool r_3.2), []⟩] <| Rd <| kS_nrm <| Runs.ret <| kB_ret <| kS_ret ?_
    obtain rfl := Option.some.inj h
    exact ⟨Out.ret_ne, (by kernel_rfl)⟩
   | false =>
    replace h := ite_f hb_3 h
    refine Cf <| Sq <| Ro <| Rc 2 [⟨.d (.bool (op_ == 163)), []⟩, ⟨.d (.bool (op_ == 163)), []⟩] <| Rd <| kS_nrm ?_
    cases hb_4 : ((op_ == 163) : Bool) with
    | true =>
     replace h := ite_t hb_4 h
     refine Ct <| Sq <| Ro ?_
     obtain ⟨r_4, hr_4, h⟩ := bind_s h
     have hc_4 := isa_row_L 35 13 16 r_4 hr_4
     refine Rt (some 22) (.callf 55) [] none [.d (.int .i64 35), .d (.int .i64 13), .d (.int .i64 16)] (.tup [.d (Row.d r_4.1), .d (.bool r_4.2)]) [] (cut_call (call_of (ws := []) (us := []) (by kernel_rfl) (by kernel_rfl) hc_4 (by kernel_rfl) (by kernel_rfl))) <| Rc 4 [⟨.d (Row.d r_4.1), []⟩, ⟨.d (.bool r_4.2), []⟩, ⟨.tup [], [([2], some (.cells [.d (.int .i64 r_4.1.Name), .d (.int .i64 r_4.1.A), .d (.int .i64 r_4.1.B), .d (.bool r_4.1.Mod)] 0))]⟩, ⟨.d (.bool r_4.2), []⟩] <| Rd <| kS_nrm <| Runs.ret <| kB_ret <| kS_ret ?_
     obtain rfl := Option.some.inj h
     exact ⟨Out.ret_ne, (by kernel_rfl)⟩
    | false =>
     replace h := ite_f hb_4 h
     refine Cf <| Sq <| Ro <| Rc 2 [⟨.d (.bool (op_ == 168)), []⟩, ⟨.d (.bool (op_ == 168)), []⟩] <| Rd <| kS_nrm ?_
     cases hb_5 : ((op_ == 168) : Bool) with
     | true =>
      replace h := ite_t hb_5 h
      refine Ct <| Sq <| Ro ?_
      obtain ⟨r_5, hr_5, h⟩ := bind_s h
      have hc_5 := isa_row_L 33 14 6 r_5 hr_5
      refine Rt (some 27) (.callf 55) [] none [.d (.int .i64 33), .d (.int .i64 14), .d (.int .i64 6)] (.tup [.d (Row.d r_5.1), .d (.bool r_5.2)]) [] (cut_call (call_of (ws := []) (us := []) (by kernel_rfl) (by kernel_rfl) hc_5 (by kernel_rfl) (by kernel_rfl))) <| Rc 4 [⟨.d (Row.d r_5.1), []⟩, ⟨.d (.bool r_5.2), []⟩, ⟨.tup [], [([2], some (.cells [.d (.int .i64 r_5.1.Name), .d (.int .i64 r_5.1.A), .d (.int .i64 r_5.1.B), .d (.bool r_5.1.Mod)] 0))]⟩, ⟨.d (.bool r_5.2), []⟩] <| Rd <| kS_nrm <| Runs.ret <| kB_ret <| kS_ret ?_
      obtain rfl := Option.some.inj h
      exact ⟨Out.ret_ne, (by kernel_rfl)⟩
     | false =>
      replace h := ite_f hb_5 h
      refine Cf <| Sq <| Ro <| Rc 2 [⟨.d (.bool (op_ == 169)), []⟩, ⟨.d (.bool (op_ == 169)), []⟩] <| Rd <| kS_nrm ?_
      cases hb_6 : ((op_ == 169) : Bool) with
      | true =>
       replace h := ite_t hb_6 h
       refine Ct <| Sq <| Ro ?_
       obtain ⟨r_6, hr_6, h⟩ := bind_s h
       have hc_6 := isa_row_L 33 16 7 r_6 hr_6
       refine Rt (some 32) (.callf 55) [] none [.d (.int .i64 33), .d (.int .i64 16), .d (.int .i64 7)] (.tup [.d (Row.d r_6.1), .d (.bool r_6.2)]) [] (cut_call (call_of (ws := []) (us := []) (by kernel_rfl) (by kernel_rfl) hc_6 (by kernel_rfl) (by kernel_rfl))) <| Rc 4 [⟨.d (Row.d r_6.1), []⟩, ⟨.d (.bool r_6.2), []⟩, ⟨.tup [], [([2], some (.cells [.d (.int .i64 r_6.1.Name), .d (.int .i64 r_6.1.A), .d (.int .i64 r_6.1.B), .d (.bool r_6.1.Mod)] 0))]⟩, ⟨.d (.bool r_6.2), []⟩] <| Rd <| kS_nrm <| Runs.ret <| kB_ret <| kS_ret ?_
       obtain rfl := Option.some.inj h
       exact ⟨Out.ret_ne, (by kernel_rfl)⟩
      | false =>
       replace h := ite_f hb_6 h
       refine Cf <| Runs.skip <| kB_nrm <| kS_nrm <| Sq <| Sq <| Ro <| Rc 2 [⟨.d (.int .u8 op_), []⟩, ⟨.d (.bool (decide (op_ < 168))), []⟩] <| Rd <| kS_nrm ?_
       cases hb_7 : ((decide (op_ < 168)) : Bool) with
       | true =>
        replace h := ite_t hb_7 h
        refine Ct <| Sq <| Ro <| Rc 4 [⟨.d (.int .u8 op_), []⟩, ⟨.d (.int .u8 (IntKind.wrap .u8 (op_ - 164))), []⟩, ⟨.d (.int .i64 (IntKind.wrap .i64 (IntKind.wrap .u8 (op_ - 164)))), []⟩, ⟨.d (.int .i64 (IntKind.wrap .i64 (46 + (IntKind.wrap .i64 (IntKind.wrap .u8 (op_ - 164)))))), []⟩] ?_
        obtain ⟨r_7, hr_7, h⟩ := bind_s h
        have hc_7 := isa_row_L (IntKind.wrap .i64 (46 + (IntKind.wrap .i64 (IntKind.wrap .u8 (op_ - 164))))) 0 0 r_7 hr_7
        refine Rt (some 41) (.callf 55) [] none [.d (.int .i64 (IntKind.wrap .i64 (46 + (IntKind.wrap .i64 (IntKind.wrap .u8 (op_ - 164)))))), .d (.int .i64 0), .d (.int .i64 0)] (.tup [.d (Row.d r_7.1), .d (.bool r_7.2)]) [] (cut_call (call_of (ws := []) (us := []) (by kernel_rfl) (by kernel_rfl) hc_7 (by kernel_rfl) (by kernel_rfl))) <| Rc 4 [⟨.d (Row.d r_7.1), []⟩, ⟨.d (.bool r_7.2), []⟩, ⟨.tup [], [([2], some (.cells [.d (.int .i64 r_7.1.Name), .d (.int .i64 r_7.1.A), .d (.int .i64 r_7.1.B), .d (.bool r_7.1.Mod)] 0))]⟩, ⟨.d (.bool r_7.2), []⟩] <| Rd <| kS_nrm <| Runs.ret <| kS_ret ?_
        obtain rfl := Option.some.inj h
        exact ⟨Out.ret_ne, (by kernel_rfl)⟩
       | false =>
        replace h := ite_f hb_7 h
        refine Cf <| Runs.skip <| kS_nrm <| Sq <| Ro <| Rc 4 [⟨.d (.int .u8 op_), []⟩, ⟨.d (.int .u8 (IntKind.wrap .u8 (op_ - 170))), []⟩, ⟨.d (.int .i64 (IntKind.wrap .i64 (IntKind.wrap .u8 (op_ - 170)))), []⟩, ⟨.d (.int .i64 (IntKind.wrap .i64 (50 + (IntKind.wrap .i64 (IntKind.wrap .u8 (op_ - 170)))))), []⟩] ?_
        obtain ⟨r_8, hr_8, h⟩ := bind_s h
        have hc_8 := isa_row_L (IntKind.wrap .i64 (50 + (IntKind.wrap .i64 (IntKind.wrap .u8 (op_ - 170))))) 0 0 r_8 hr_8
        refine Rt (some 48) (.callf 55) [] none [.d (.int .i64 (IntKind.wrap .i64 (50 + (IntKind.wrap .i64 (IntKind.wrap .u8 (op_ - 170)))))), .d (.int .i64 0), .d (.int .i64 0)] (.tup [.d (Row.d r_8.1), .d (.bool r_8.2)]) [] (cut_call (call_of (ws := []) (us := []) (by kernel_rfl) (by kernel_rfl) hc_8 (by kernel_rfl) (by kernel_rfl))) <| Rc 4 [⟨.d (Row.d r_8.1), []⟩, ⟨.d (.bool r_8.2), []⟩, ⟨.tup [], [([2], some (.cells [.d (.int .i64 r_8.1.Name), .d (.int .i64 r_8.1.A), .d (.int .i64 r_8.1.B), .d (.bool r_8.1.Mod)] 0))]⟩, ⟨.d (.bool r_8.2), []⟩] <| Rd <| kS_nrm <| Runs.ret ?_
        obtain rfl := Option.some.inj h
        exact ⟨Out.ret_ne, (by kernel_rfl)⟩
theorem isa_texts_L (op_ : Int) (r : (Row × Bool)) (h : isa_texts op_ = some r) : L 59 [.d (.int .u8 op_)] = some (.tup [.d (Row.d r.1), .d (.bool r.2)], [.d (.int .u8 op_)]) := by
 obtain ⟨p, ⟨hne, hf⟩, hr⟩ := isa_texts_ok op_ r h
 obtain ⟨k, hk⟩ := run_of (F := F59) (args := [.d (.int .u8 op_)]) (ap := [.d (.int .u8 op_)]) (bx0 := updW (fun _ => none) []) rfl rfl (by kernel_rfl) ⟨p, ⟨hne, hf⟩, hr⟩
 exact lim_run (k := k) rfl hk
def isa_backs_Q (op_ : Int) (reg_ : Int) (r : (Row × Bool)) (p : Out × St) : Prop := (∀ i, p.1 ≠ .exit i) ∧ finF F60 [.d (.int .u8 op_), .d (.int .i64 reg_)] p.2 = some (.tup [.d (Row.d r.1), .d (.bool r.2)], [.d (.int .u8 op_), .d (.int .i64 reg_)])
theorem isa_backs_ok (op_ : Int) (reg_ : Int) (r : (Row × Bool)) (h : isa_backs op_ reg_ = some r) : Runs L F60.body ⟨tmOf [.d (.int .u8 op_), .d (.int .i64 reg_)] 0, updW (fun _ => none) []⟩ (isa_backs_Q op_ reg_ r) := by
 unfold isa_backs at h
 refine Sq <| Ro <| Rc 2 [⟨.ptr [4] 0 0, [([4], some (.cells [.d (.int .i64 0), .d (.int .i64 0), .d (.int .i64 0), .d (.bool false)] 0))]⟩, ⟨.d (.bool false), []⟩] <| Rd <| kS_nrm <| Sq <| Sq <| Ro <| Rc 1 [⟨.d (.int .u8 op_), []⟩] <| Rd <| kS_nrm <| Runs.block <| Sq <| Ro <| Rc 2 [⟨.d (.bool (op_ == 194)), []⟩, ⟨.d (.bool (op_ == 194)), []⟩] <| Rd <| kS_nrm ?_
 cases hb_1 : ((op_ == 194) : Bool) with
 | true =>
  replace h := ite_t hb_1 h
  refine Ct <| Sq <| Ro ?_
  obtain ⟨r_1, hr_1, h⟩ := bind_s h
  have hc_1 := isa_row_L 56 7 0 r_1 hr_1
  refine Rt (some 9) (.callf 55) [] none [.d (.int .i64 56), .d (.int .i64 7), .d (.int .i64 0)] (.tup [.d (Row.d r_1.1), .d (.bool r_1.2)]) [] (cut_call (call_of (ws := []) (us := []) (by kernel_rfl) (by kernel_rfl) hc_1 (by kernel_rfl) (by kernel_rfl))) <| Rc 4 [⟨.d (Row.d r_1.1), []⟩, ⟨.d (.bool r_1.2), []⟩, ⟨.tup [], [([4], some (.cells [.d (.int .i64 r_1.1.Name), .d (.int .i64 r_1.1.A), .d (.int .i64 r_1.1.B), .d (.bool r_1.1.Mod)] 0))]⟩, ⟨.d (.bool r_1.2), []⟩] <| Rd <| kS_nrm <| Runs.ret <| kB_ret <| kS_ret ?_
  obtain rfl := Option.some.inj h
  exact ⟨Out.ret_ne, (by kernel_rfl)⟩
 | false =>
  replace h := ite_f hb_1 h
  refine Cf <| Sq <| Ro <| Rc 2 [⟨.d (.bool (op_ == 195)), []⟩, ⟨.d (.bool (op_ == 195)), []⟩] <| Rd <| kS_nrm ?_
  cases hb_2 : ((op_ == 195) : Bool) with
  | true =>
   replace h := ite_t hb_2 h
   refine Ct <| Sq <| Ro ?_
   obtain ⟨r_2, hr_2, h⟩ := bind_s h
   have hc_2 := isa_row_L 56 0 0 r_2 hr_2
   refine Rt (some 14) (.callf 55) [] none [.d (.int .i64 56), .d (.int .i64 0), .d (.int .i64 0)] (.tup [.d (Row.d r_2.1), .d (.bool r_2.2)]) [] (cut_call (call_of (ws := []) (us := []) (by kernel_rfl) (by kernel_rfl) hc_2 (by kernel_rfl) (by kernel_rfl))) <| Rc 4 [⟨.d (Row.d r_2.1), []⟩, ⟨.d (.bool r_2.2), []⟩, ⟨.tup [], [([4], some (.cells [.d (.int .i64 r_2.1.Name), .d (.int .i64 r_2.1.A), .d (.int .i64 r_2.1.B), .d (.bool r_2.1.Mod)] 0))]⟩, ⟨.d (.bool r_2.2), []⟩] <| Rd <| kS_nrm <| Runs.ret <| kB_ret <| kS_ret ?_
   obtain rfl := Option.some.inj h
   exact ⟨Out.ret_ne, (by kernel_rfl)⟩
  | false =>
   replace h := ite_f hb_2 h
   refine Cf <| Sq <| Ro <| Rc 2 [⟨.d (.bool (op_ == 196)), []⟩, ⟨.d (.bool (op_ == 196)), []⟩] <| Rd <| kS_nrm ?_
   cases hb_3 : ((op_ == 196) : Bool) with
   | true =>
    replace h := ite_t hb_3 h
    refine Ct <| Sq <| Ro ?_
    obtain ⟨r_3, hr_3, h⟩ := bind_s h
    have hc_3 := isa_mod_L 58 4 19 r_3 hr_3
    refine Rt (some 19) (.callf 65) [] none [.d (.int .i64 58), .d (.int .i64 4), .d (.int .i64 19)] (.tup [.d (Row.d r_3.1), .d (.bool r_3.2)]) [] (cut_call (call_of (ws := []) (us := []) (by kernel_rfl) (by kernel_rfl) hc_3 (by kernel_rfl) (by kernel_rfl))) <| Rc 4 [⟨.d (Row.d r_3.1), []⟩, ⟨.d (.bool r_3.2), []⟩, ⟨.tup [], [([4], some (.cells [.d (.int .i64 r_3.1.Name), .d (.int .i64 r_3.1.A), .d (.int .i64 r_3.1.B), .d (.bool r_3.1.Mod)] 0))]⟩, ⟨.d (.bool r_3.2), []⟩] <| Rd <| kS_nrm <| Runs.ret <| kB_ret <| kS_ret ?_
    obtain rfl := Option.some.inj h
    exact ⟨Out.ret_ne, (by kernel_rfl)⟩
   | false =>
    replace h := ite_f hb_3 h
    refine Cf <| Sq <| Ro <| Rc 2 [⟨.d (.bool (op_ == 197)), []⟩, ⟨.d (.bool (op_ == 197)), []⟩] <| Rd <| kS_nrm ?_
    cases hb_4 : ((op_ == 197) : Bool) with
    | true =>
     replace h := ite_t hb_4 h
     refine Ct <| Sq <| Ro ?_
     obtain ⟨r_4, hr_4, h⟩ := bind_s h
     have hc_4 := isa_mod_L 59 4 19 r_4 hr_4
     refine Rt (some 24) (.callf 65) [] none [.d (.int .i64 59), .d (.int .i64 4), .d (.int .i64 19)] (.tup [.d (Row.d r_4.1), .d (.bool r_4.2)]) [] (cut_call (call_of (ws := []) (us := []) (by kernel_rfl) (by kernel_rfl) hc_4 (by kernel_rfl) (by kernel_rfl))) <| Rc 4 [⟨.d (Row.d r_4.1), []⟩, ⟨.d (.bool r_4.2), []⟩, ⟨.tup [], [([4], some (.cells [.d (.int .i64 r_4.1.Name), .d (.int .i64 r_4.1.A), .d (.int .i64 r_4.1.B), .d (.bool r_4.1.Mod)] 0))]⟩, ⟨.d (.bool r_4.2), []⟩] <| Rd <| kS_nrm <| Runs.ret <| kB_ret <| kS_ret ?_
     obtain rfl := Option.some.inj h
     exact ⟨Out.ret_ne, (by kernel_rfl)⟩
    | false =>
     replace h := ite_f hb_4 h
     refine Cf <| Sq <| Ro <| Rc 2 [⟨.d (.bool (op_ == 198)), []⟩, ⟨.d (.bool (op_ == 198)), []⟩] <| Rd <| kS_nrm ?_
     cases hb_5 : ((op_ == 198) : Bool) with
     | true =>
      replace h := ite_t hb_5 h
      refine Ct <| Sq <| Ro <| Rc 2 [⟨.d (.int .i64 reg_), []⟩, ⟨.d (.bool (reg_ == 0)), []⟩] <| Rd <| kS_nrm ?_
      cases hb_6 : ((reg_ == 0) : Bool) with
      | true =>
       replace h := ite_t hb_6 h
       refine Ct <| Sq <| Ro ?_
       obtain ⟨r_5, hr_5, h⟩ := bind_s h
       have hc_5 := isa_mod_L 35 1 6 r_5 hr_5
       refine Rt (some 31) (.callf 65) [] none [.d (.int .i64 35), .d (.int .i64 1), .d (.int .i64 6)] (.tup [.d (Row.d r_5.1), .d (.bool r_5.2)]) [] (cut_call (call_of (ws := []) (us := []) (by kernel_rfl) (by kernel_rfl) hc_5 (by kernel_rfl) (by kernel_rfl))) <| Rc 4 [⟨.d (Row.d r_5.1), []⟩, ⟨.d (.bool r_5.2), []⟩, ⟨.tup [], [([4], some (.cells [.d (.int .i64 r_5.1.Name), .d (.int .i64 r_5.1.A), .d (.int .i64 r_5.1.B), .d (.bool r_5.1.Mod)] 0))]⟩, ⟨.d (.bool r_5.2), []⟩] <| Rd <| kS_nrm <| Runs.ret <| kB_ret <| kS_ret ?_
       obtain rfl := Option.some.inj h
       exact ⟨Out.ret_ne, (by kernel_rfl)⟩
      | false =>
       replace h := ite_f hb_6 h
       refine Cf <| Runs.skip <| kB_nrm <| kS_nrm <| Sq <| Ro ?_
       obtain ⟨r_6, hr_6, h⟩ := bind_s h
       have hc_6 := isa_bad_L r_6 hr_6
       refine Rt (some 71) (.callf 56) [] none [] (.tup [.d (Row.d r_6.1), .d (.bool r_6.2)]) [] (cut_call (call_of (ws := []) (us := []) (by kernel_rfl) (by kernel_rfl) hc_6 (by kernel_rfl) (by kernel_rfl))) <| Rc 4 [⟨.d (Row.d r_6.1), []⟩, ⟨.d (.bool r_6.2), []⟩, ⟨.tup [], [([4], some (.cells [.d (.int .i64 r_6.1.Name), .d (.int .i64 r_6.1.A), .d (.int .i64 r_6.1.B), .d (.bool r_6.1.Mod)] 0))]⟩, ⟨.d (.bool r_6.2), []⟩] <| Rd <| kS_nrm <| Runs.ret ?_
       obtain rfl := Option.some.inj h
       exact ⟨Out.ret_ne, (by kernel_rfl)⟩
     | false =>
      replace h := ite_f hb_5 h
      refine Cf <| Sq <| Ro <| Rc 2 [⟨.d (.bool (op_ == 199)), []⟩, ⟨.d (.bool (op_ == 199)), []⟩] <| Rd <| kS_nrm ?_
      cases hb_7 : ((op_ == 199) : Bool) with
      | true =>
       replace h := ite_t hb_7 h
       refine Ct <| Sq <| Ro <| Rc 2 [⟨.d (.int .i64 reg_), []⟩, ⟨.d (.bool (reg_ == 0)), []⟩] <| Rd <| kS_nrm ?_
       cases hb_8 : ((reg_ == 0) : Bool) with
       | true =>
        replace h := ite_t hb_8 h
        refine Ct <| Sq <| Ro ?_
        obtain ⟨r_7, hr_7, h⟩ := bind_s h
        have hc_7 := isa_mod_L 35 2 7 r_7 hr_7
        refine Rt (some 38) (.callf 65) [] none [.d (.int .i64 35), .d (.int .i64 2), .d (.int .i64 7)] (.tup [.d (Row.d r_7.1), .d (.bool r_7.2)]) [] (cut_call (call_of (ws := []) (us := []) (by kernel_rfl) (by kernel_rfl) hc_7 (by kernel_rfl) (by kernel_rfl))) <| Rc 4 [⟨.d (Row.d r_7.1), []⟩, ⟨.d (.bool r_7.2), []⟩, ⟨.tup [], [([4], some (.cells [.d (.int .i64 r_7.1.Name), .d (.int .i64 r_7.1.A), .d (.int .i64 r_7.1.B), .d (.bool r_7.1.Mod)] 0))]⟩, ⟨.d (.bool r_7.2), []⟩] <| Rd <| kS_nrm <| Runs.ret <| kB_ret <| kS_ret ?_
        obtain rfl := Option.some.inj h
        exact ⟨Out.ret_ne, (by kernel_rfl)⟩
       | false =>
        replace h := ite_f hb_8 h
        refine Cf <| Runs.skip <| kB_nrm <| kS_nrm <| Sq <| Ro ?_
        obtain ⟨r_8, hr_8, h⟩ := bind_s h
        have hc_8 := isa_bad_L r_8 hr_8
        refine Rt (some 71) (.callf 56) [] none [] (.tup [.d (Row.d r_8.1), .d (.bool r_8.2)]) [] (cut_call (call_of (ws := []) (us := []) (by kernel_rfl) (by kernel_rfl) hc_8 (by kernel_rfl) (by kernel_rfl))) <| Rc 4 [⟨.d (Row.d r_8.1), []⟩, ⟨.d (.bool r_8.2), []⟩, ⟨.tup [], [([4], some (.cells [.d (.int .i64 r_8.1.Name), .d (.int .i64 r_8.1.A), .d (.int .i64 r_8.1.B), .d (.bool r_8.1.Mod)] 0))]⟩, ⟨.d (.bool r_8.2), []⟩] <| Rd <| kS_nrm <| Runs.ret ?_
        obtain rfl := Option.some.inj h
        exact ⟨Out.ret_ne, (by kernel_rfl)⟩
      | false =>
       replace h := ite_f hb_7 h
       refine Cf <| Sq <| Ro <| Rc 2 [⟨.d (.bool (op_ == 202)), []⟩, ⟨.d (.bool (op_ == 202)), []⟩] <| Rd <| kS_nrm ?_
       cases hb_9 : ((op_ == 202) : Bool) with
       | true =>
        replace h := ite_t hb_9 h
        refine Ct <| Sq <| Ro ?_
        obtain ⟨r_9, hr_9, h⟩ := bind_s h
        have hc_9 := isa_row_L 57 7 0 r_9 hr_9
        refine Rt (some 43) (.callf 55) [] none [.d (.int .i64 57), .d (.int .i64 7), .d (.int .i64 0)] (.tup [.d (Row.d r_9.1), .d (.bool r_9.2)]) [] (cut_call (call_of (ws := []) (us := []) (by kernel_rfl) (by kernel_rfl) hc_9 (by kernel_rfl) (by kernel_rfl))) <| Rc 4 [⟨.d (Row.d r_9.1), []⟩, ⟨.d (.bool r_9.2), []⟩, ⟨.tup [], [([4], some (.cells [.d (.int .i64 r_9.1.Name), .d (.int .i64 r_9.1.A), .d (.int .i64 r_9.1.B), .d (.bool r_9.1.Mod)] 0))]⟩, ⟨.d (.bool r_9.2), []⟩] <| Rd <| kS_nrm <| Runs.ret <| kB_ret <| kS_ret ?_
        obtain rfl := Option.some.inj h
        exact ⟨Out.ret_ne, (by kernel_rfl)⟩
       | false =>
        replace h := ite_f hb_9 h
        refine Cf <| Sq <| Ro <| Rc 2 [⟨.d (.bool (op_ == 203)), []⟩, ⟨.d (.bool (op_ == 203)), []⟩] <| Rd <| kS_nrm ?_
        cases hb_10 : ((op_ == 203) : Bool) with
        | true =>
         replace h := ite_t hb_10 h
         refine Ct <| Sq <| Ro ?_
         obtain ⟨r_10, hr_10, h⟩ := bind_s h
         have hc_10 := isa_row_L 57 0 0 r_10 hr_10
         refine Rt (some 48) (.callf 55) [] none [.d (.int .i64 57), .d (.int .i64 0), .d (.int .i64 0)] (.tup [.d (Row.d r_10.1), .d (.bool r_10.2)]) [] (cut_call (call_of (ws := []) (us := []) (by kernel_rfl) (by kernel_rfl) hc_10 (by kernel_rfl) (by kernel_rfl))) <| Rc 4 [⟨.d (Row.d r_10.1), []⟩, ⟨.d (.bool r_10.2), []⟩, ⟨.tup [], [([4], some (.cells [.d (.int .i64 r_10.1.Name), .d (.int .i64 r_10.1.A), .d (.int .i64 r_10.1.B), .d (.bool r_10.1.Mod)] 0))]⟩, ⟨.d (.bool r_10.2), []⟩] <| Rd <| kS_nrm <| Runs.ret <| kB_ret <| kS_ret ?_
         obtain rfl := Option.some.inj h
         exact ⟨Out.ret_ne, (by kernel_rfl)⟩
        | false =>
         replace h := ite_f hb_10 h
         refine Cf <| Sq <| Ro <| Rc 2 [⟨.d (.bool (op_ == 204)), []⟩, ⟨.d (.bool (op_ == 204)), []⟩] <| Rd <| kS_nrm ?_
         cases hb_11 : ((op_ == 204) : Bool) with
         | true =>
          replace h := ite_t hb_11 h
          refine Ct <| Sq <| Ro ?_
          obtain ⟨r_11, hr_11, h⟩ := bind_s h
          have hc_11 := isa_row_L 60 24 0 r_11 hr_11
          refine Rt (some 53) (.callf 55) [] none [.d (.int .i64 60), .d (.int .i64 24), .d (.int .i64 0)] (.tup [.d (Row.d r_11.1), .d (.bool r_11.2)]) [] (cut_call (call_of (ws := []) (us := []) (by kernel_rfl) (by kernel_rfl) hc_11 (by kernel_rfl) (by kernel_rfl))) <| Rc 4 [⟨.d (Row.d r_11.1), []⟩, ⟨.d (.bool r_11.2), []⟩, ⟨.tup [], [([4], some (.cells [.d (.int .i64 r_11.1.Name), .d (.int .i64 r_11.1.A), .d (.int .i64 r_11.1.B), .d (.bool r_11.1.Mod)] 0))]⟩, ⟨.d (.bool r_11.2), []⟩] <| Rd <| kS_nrm <| Runs.ret <| kB_ret <| kS_ret ?_
          obtain rfl := Option.some.inj h
          exact ⟨Out.ret_ne, (by kernel_rfl)⟩
         | false =>
          replace h := ite_f hb_11 h
          refine Cf <| Sq <| Ro <| Rc 2 [⟨.d (.bool (op_ == 205)), []⟩, ⟨.d (.bool (op_ == 205)), []⟩] <| Rd <| kS_nrm ?_
          cases hb_12 : ((op_ == 205) : Bool) with
          | true =>
           replace h := ite_t hb_12 h
           refine Ct <| Sq <| Ro ?_
           obtain ⟨r_12, hr_12, h⟩ := bind_s h
           have hc_12 := isa_row_L 60 6 0 r_12 hr_12
           refine Rt (some 58) (.callf 55) [] none [.d (.int .i64 60), .d (.int .i64 6), .d (.int .i64 0)] (.tup [.d (Row.d r_12.1), .d (.bool r_12.2)]) [] (cut_call (call_of (ws := []) (us := []) (by kernel_rfl) (by kernel_rfl) hc_12 (by kernel_rfl) (by kernel_rfl))) <| Rc 4 [⟨.d (Row.d r_12.1), []⟩, ⟨.d (.bool r_12.2), []⟩, ⟨.tup [], [([4], some (.cells [.d (.int .i64 r_12.1.Name), .d (.int .i64 r_12.1.A), .d (.int .i64 r_12.1.B), .d (.bool r_12.1.Mod)] 0))]⟩, ⟨.d (.bool r_12.2), []⟩] <| Rd <| kS_nrm <| Runs.ret <| kB_ret <| kS_ret ?_
           obtain rfl := Option.some.inj h
           exact ⟨Out.ret_ne, (by kernel_rfl)⟩
          | false =>
           replace h := ite_f hb_12 h
           refine Cf <| Sq <| Ro <| Rc 2 [⟨.d (.bool (op_ == 206)), []⟩, ⟨.d (.bool (op_ == 206)), []⟩] <| Rd <| kS_nrm ?_
           cases hb_13 : ((op_ == 206) : Bool) with
           | true =>
            replace h := ite_t hb_13 h
            refine Ct <| Sq <| Ro ?_
            obtain ⟨r_13, hr_13, h⟩ := bind_s h
            have hc_13 := isa_row_L 61 0 0 r_13 hr_13
            refine Rt (some 63) (.callf 55) [] none [.d (.int .i64 61), .d (.int .i64 0), .d (.int .i64 0)] (.tup [.d (Row.d r_13.1), .d (.bool r_13.2)]) [] (cut_call (call_of (ws := []) (us := []) (by kernel_rfl) (by kernel_rfl) hc_13 (by kernel_rfl) (by kernel_rfl))) <| Rc 4 [⟨.d (Row.d r_13.1), []⟩, ⟨.d (.bool r_13.2), []⟩, ⟨.tup [], [([4], some (.cells [.d (.int .i64 r_13.1.Name), .d (.int .i64 r_13.1.A), .d (.int .i64 r_13.1.B), .d (.bool r_13.1.Mod)] 0))]⟩, ⟨.d (.bool r_13.2), []⟩] <| Rd <| kS_nrm <| Runs.ret <| kB_ret <| kS_ret ?_
            obtain rfl := Option.some.inj h
            exact ⟨Out.ret_ne, (by kernel_rfl)⟩
           | false =>
            replace h := ite_f hb_13 h
            refine Cf <| Sq <| Ro <| Rc 2 [⟨.d (.bool (op_ == 207)), []⟩, ⟨.d (.bool (op_ == 207)), []⟩] <| Rd <| kS_nrm ?_
            cases hb_14 : ((op_ == 207) : Bool) with
            | true =>
             replace h := ite_t hb_14 h
             refine Ct <| Sq <| Ro ?_
             obtain ⟨r_14, hr_14, h⟩ := bind_s h
             have hc_14 := isa_row_L 62 0 0 r_14 hr_14
             refine Rt (some 68) (.callf 55) [] none [.d (.int .i64 62), .d (.int .i64 0), .d (.int .i64 0)] (.tup [.d (Row.d r_14.1), .d (.bool r_14.2)]) [] (cut_call (call_of (ws := []) (us := []) (by kernel_rfl) (by kernel_rfl) hc_14 (by kernel_rfl) (by kernel_rfl))) <| Rc 4 [⟨.d (Row.d r_14.1), []⟩, ⟨.d (.bool r_14.2), []⟩, ⟨.tup [], [([4], some (.cells [.d (.int .i64 r_14.1.Name), .d (.int .i64 r_14.1.A), .d (.int .i64 r_14.1.B), .d (.bool r_14.1.Mod)] 0))]⟩, ⟨.d (.bool r_14.2), []⟩] <| Rd <| kS_nrm <| Runs.ret <| kB_ret <| kS_ret ?_
             obtain rfl := Option.some.inj h
             exact ⟨Out.ret_ne, (by kernel_rfl)⟩
            | false =>
             replace h := ite_f hb_14 h
             refine Cf <| Runs.skip <| kB_nrm <| kS_nrm <| Sq <| Ro ?_
             obtain ⟨r_15, hr_15, h⟩ := bind_s h
             have hc_15 := isa_bad_L r_15 hr_15
             refine Rt (some 71) (.callf 56) [] none [] (.tup [.d (Row.d r_15.1), .d (.bool r_15.2)]) [] (cut_call (call_of (ws := []) (us := []) (by kernel_rfl) (by kernel_rfl) hc_15 (by kernel_rfl) (by kernel_rfl))) <| Rc 4 [⟨.d (Row.d r_15.1), []⟩, ⟨.d (.bool r_15.2), []⟩, ⟨.tup [], [([4], some (.cells [.d (.int .i64 r_15.1.Name), .d (.int .i64 r_15.1.A), .d (.int .i64 r_15.1.B), .d (.bool r_15.1.Mod)] 0))]⟩, ⟨.d (.bool r_15.2), []⟩] <| Rd <| kS_nrm <| Runs.ret ?_
             obtain rfl := Option.some.inj h
             exact ⟨Out.ret_ne, (by kernel_rfl)⟩
theorem isa_backs_L (op_ : Int) (reg_ : Int) (r : (Row × Bool)) (h : isa_backs op_ reg_ = some r) : L 60 [.d (.int .u8 op_), .d (.int .i64 reg_)] = some (.tup [.d (Row.d r.1), .d (.bool r.2)], [.d (.int .u8 op_), .d (.int .i64 reg_)]) := by
 obtain ⟨p, ⟨hne, hf⟩, hr⟩ := isa_backs_ok op_ reg_ r h
 obtain ⟨k, hk⟩ := run_of (F := F60) (args := [.d (.int .u8 op_), .d (.int .i64 reg_)]) (ap := [.d (.int .u8 op_), .d (.int .i64 reg_)]) (bx0 := updW (fun _ => none) []) rfl rfl (by kernel_rfl) ⟨p, ⟨hne, hf⟩, hr⟩
 exact lim_run (k := k) rfl hk
def isa_turns_Q (op_ : Int) (reg_ : Int) (r : (Row × Bool)) (p : Out × St) : Prop := (∀ i, p.1 ≠ .exit i) ∧ finF F61 [.d (.int .u8 op_), .d (.int .i64 reg_)] p.2 = some (.tup [.d (Row.d r.1), .d (.bool r.2)], [.d (.int .u8 op_), .d (.int .i64 reg_)])
theorem isa_turns_ok (op_ : Int) (reg_ : Int) (r : (Row × Bool)) (h : isa_turns op_ reg_ = some r) : Runs L F61.body ⟨tmOf [.d (.int .u8 op_), .d (.int .i64 reg_)] 0, updW (fun _ => none) []⟩ (isa_turns_Q op_ reg_ r) := by
 unfold isa_turns at h
 refine Sq <| Ro <| Rc 2 [⟨.ptr [4] 0 0, [([4], some (.cells [.d (.int .i64 0), .d (.int .i64 0), .d (.int .i64 0), .d (.bool false)] 0))]⟩, ⟨.d (.bool false), []⟩] <| Rd <| kS_nrm <| Sq <| Sq <| Ro <| Rc 2 [⟨.d (.int .u8 op_), []⟩, ⟨.d (.bool (decide (op_ < 212))), []⟩] <| Rd <| kS_nrm ?_
 cases hb_1 : ((decide (op_ < 212)) : Bool) with
 | true =>
  replace h := ite_t hb_1 h
  refine Ct <| Sq <| Sq <| Ro <| Rc 2 [⟨.d (.int .i64 reg_), []⟩, ⟨.d (.bool (reg_ == 6)), []⟩] <| Rd <| kS_nrm ?_
  cases hb_2 : ((reg_ == 6) : Bool) with
  | true =>
   replace h := ite_t hb_2 h
   refine Ct <| Sq <| Ro ?_
   obtain ⟨r_1, hr_1, h⟩ := bind_s h
   have hc_1 := isa_bad_L r_1 hr_1
   refine Rt (some 13) (.callf 56) [] none [] (.tup [.d (Row.d r_1.1), .d (.bool r_1.2)]) [] (cut_call (call_of (ws := []) (us := []) (by kernel_rfl) (by kernel_rfl) hc_1 (by kernel_rfl) (by kernel_rfl))) <| Rc 4 [⟨.d (Row.d r_1.1), []⟩, ⟨.d (.bool r_1.2), []⟩, ⟨.tup [], [([4], some (.cells [.d (.int .i64 r_1.1.Name), .d (.int .i64 r_1.1.A), .d (.int .i64 r_1.1.B), .d (.bool r_1.1.Mod)] 0))]⟩, ⟨.d (.bool r_1.2), []⟩] <| Rd <| kS_nrm <| Runs.ret <| kS_ret <| kS_ret ?_
   obtain rfl := Option.some.inj h
   exact ⟨Out.ret_ne, (by kernel_rfl)⟩
  | false =>
   replace h := ite_f hb_2 h
   refine Cf <| Runs.skip <| kS_nrm <| Sq <| Ro <| Rc 2 [⟨.ref [16] 0 0 (List.map (D.int .i64) ([63, 64, 65, 66, 67, 68, 0, 69] : List Int)).length 1, [([16], some (.arr (List.map (D.int .i64) ([63, 64, 65, 66, 67, 68, 0, 69] : List Int)) 0 false))]⟩, ⟨.d (.int .i64 reg_), []⟩] ?_
   obtain ⟨z_1, hz_1, h⟩ := bind_s h
   refine Rt (some 18) (.iaddrS 1) [] none [.ref [16] 0 0 (List.map (D.int .i64) ([63, 64, 65, 66, 67, 68, 0, 69] : List Int)).length 1, .d (.int .i64 reg_)] (.eref [16] 0 (0 + (reg_).toNat) 0) [] (cut_atR (e := (D.int .i64)) (l := ([63, 64, 65, 66, 67, 68, 0, 69] : List Int)) hz_1 rfl) <| Rt (some 19) (.load none) [] none [.eref [16] 0 (0 + (reg_).toNat) 0] (.d (.int .i64 z_1)) [] (cut_loadR (e := (D.int .i64)) (l := ([63, 64, 65, 66, 67, 68, 0, 69] : List Int)) (fz := false) (y := z_1) (by kernel_rfl) hz_1 (by kernel_rfl) (by kernel_rfl)) <| Rc 1 [⟨.d (.int .i64 z_1), []⟩] <| Rd <| kS_nrm <| Sq <| Ro <| Rc 2 [⟨.d (.int .i64 1), []⟩, ⟨.d (.int .i64 18), []⟩] <| Rd <| kS_nrm <| Sq <| Sq <| Ro <| Rc 3 [⟨.d (.int .u8 op_), []⟩, ⟨.d (.int .u8 (bitsOp .and .u8 op_ 1)), []⟩, ⟨.d (.bool ((bitsOp .and .u8 op_ 1) == 1)), []⟩] <| Rd <| kS_nrm ?_
   cases hb_3 : (((bitsOp .and .u8 op_ 1) == 1) : Bool) with
   | true =>
    replace h := ite_t hb_3 h
    refine Ct <| Ro <| Rc 1 [⟨.d (.int .i64 2), []⟩] <| Rd <| kS_nrm <| Sq <| Sq <| Ro <| Rc 3 [⟨.d (.int .u8 op_), []⟩, ⟨.d (.int .u8 (bitsOp .and .u8 op_ 2)), []⟩, ⟨.d (.bool ((bitsOp .and .u8 op_ 2) != 0)), []⟩] <| Rd <| kS_nrm ?_
    cases hb_4 : (((bitsOp .and .u8 op_ 2) != 0) : Bool) with
    | true =>
     replace h := ite_t hb_4 h
     refine Ct <| Ro <| Rc 1 [⟨.d (.int .i64 15), []⟩] <| Rd <| kS_nrm <| Sq <| Ro <| Rc 3 [⟨.d (.int .i64 z_1), []⟩, ⟨.d (.int .i64 2), []⟩, ⟨.d (.int .i64 15), []⟩] ?_
     obtain ⟨r_2, hr_2, h⟩ := bind_s h
     have hc_2 := isa_mod_L z_1 2 15 r_2 hr_2
     refine Rt (some 29) (.callf 65) [] none [.d (.int .i64 z_1), .d (.int .i64 2), .d (.int .i64 15)] (.tup [.d (Row.d r_2.1), .d (.bool r_2.2)]) [] (cut_call (call_of (ws := []) (us := []) (by kernel_rfl) (by kernel_rfl) hc_2 (by kernel_rfl) (by kernel_rfl))) <| Rc 4 [⟨.d (Row.d r_2.1), []⟩, ⟨.d (.bool r_2.2), []⟩, ⟨.tup [], [([4], some (.cells [.d (.int .i64 r_2.1.Name), .d (.int .i64 r_2.1.A), .d (.int .i64 r_2.1.B), .d (.bool r_2.1.Mod)] 0))]⟩, ⟨.d (.bool r_2.2), []⟩] <| Rd <| kS_nrm <| Runs.ret <| kS_ret ?_
     obtain rfl := Option.some.inj h
     exact ⟨Out.ret_ne, (by kernel_rfl)⟩
    | false =>
     replace h := ite_f hb_4 h
     refine Cf <| Runs.skip <| kS_nrm <| Sq <| Ro <| Rc 3 [⟨.d (.int .i64 z_1), []⟩, ⟨.d (.int .i64 2), []⟩, ⟨.d (.int .i64 18), []⟩] ?_
     obtain ⟨r_3, hr_3, h⟩ := bind_s h
     have hc_3 := isa_mod_L z_1 2 18 r_3 hr_3
     refine Rt (some 29) (.callf 65) [] none [.d (.int .i64 z_1), .d (.int .i64 2), .d (.int .i64 18)] (.tup [.d (Row.d r_3.1), .d (.bool r_3.2)]) [] (cut_call (call_of (ws := []) (us := []) (by kernel_rfl) (by kernel_rfl) hc_3 (by kernel_rfl) (by kernel_rfl))) <| Rc 4 [⟨.d (Row.d r_3.1), []⟩, ⟨.d (.bool r_3.2), []⟩, ⟨.tup [], [([4], some (.cells [.d (.int .i64 r_3.1.Name), .d (.int .i64 r_3.1.A), .d (.int .i64 r_3.1.B), .d (.bool r_3.1.Mod)] 0))]⟩, ⟨.d (.bool r_3.2), []⟩] <| Rd <| kS_nrm <| Runs.ret <| kS_ret ?_
     obtain rfl := Option.some.inj h
     exact ⟨Out.ret_ne, (by kernel_rfl)⟩
   | false =>
    replace h := ite_f hb_3 h
    refine Cf <| Runs.skip <| kS_nrm <| Sq <| Sq <| Ro <| Rc 3 [⟨.d (.int .u8 op_), []⟩, ⟨.d (.int .u8 (bitsOp .and .u8 op_ 2)), []⟩, ⟨.d (.bool ((bitsOp .and .u8 op_ 2) != 0)), []⟩] <| Rd <| kS_nrm ?_
    cases hb_5 : (((bitsOp .and .u8 op_ 2) != 0) : Bool) with
    | true =>
     replace h := ite_t hb_5 h
     refine Ct <| Ro <| Rc 1 [⟨.d (.int .i64 15), []⟩] <| Rd <| kS_nrm <| Sq <| Ro <| Rc 3 [⟨.d (.int .i64 z_1), []⟩, ⟨.d (.int .i64 1), []⟩, ⟨.d (.int .i64 15), []⟩] ?_
     obtain ⟨r_4, hr_4, h⟩ := bind_s h
     have hc_4 := isa_mod_L z_1 1 15 r_4 hr_4
     refine Rt (some 29) (.callf 65) [] none [.d (.int .i64 z_1), .d (.int .i64 1), .d (.int .i64 15)] (.tup [.d (Row.d r_4.1), .d (.bool r_4.2)]) [] (cut_call (call_of (ws := []) (us := []) (by kernel_rfl) (by kernel_rfl) hc_4 (by kernel_rfl) (by kernel_rfl))) <| Rc 4 [⟨.d (Row.d r_4.1), []⟩, ⟨.d (.bool r_4.2), []⟩, ⟨.tup [], [([4], some (.cells [.d (.int .i64 r_4.1.Name), .d (.int .i64 r_4.1.A), .d (.int .i64 r_4.1.B), .d (.bool r_4.1.Mod)] 0))]⟩, ⟨.d (.bool r_4.2), []⟩] <| Rd <| kS_nrm <| Runs.ret <| kS_ret ?_
     obtain rfl := Option.some.inj h
     exact ⟨Out.ret_ne, (by kernel_rfl)⟩
    | false =>
     replace h := ite_f hb_5 h
     refine Cf <| Runs.skip <| kS_nrm <| Sq <| Ro <| Rc 3 [⟨.d (.int .i64 z_1), []⟩, ⟨.d (.int .i64 1), []⟩, ⟨.d (.int .i64 18), []⟩] ?_
     obtain ⟨r_5, hr_5, h⟩ := bind_s h
     have hc_5 := isa_mod_L z_1 1 18 r_5 hr_5
     refine Rt (some 29) (.callf 65) [] none [.d (.int .i64 z_1), .d (.int .i64 1), .d (.int .i64 18)] (.tup [.d (Row.d r_5.1), .d (.bool r_5.2)]) [] (cut_call (call_of (ws := []) (us := []) (by kernel_rfl) (by kernel_rfl) hc_5 (by kernel_rfl) (by kernel_rfl))) <| Rc 4 [⟨.d (Row.d r_5.1), []⟩, ⟨.d (.bool r_5.2), []⟩, ⟨.tup [], [([4], some (.cells [.d (.int .i64 r_5.1.Name), .d (.int .i64 r_5.1.A), .d (.int .i64 r_5.1.B), .d (.bool r_5.1.Mod)] 0))]⟩, ⟨.d (.bool r_5.2), []⟩] <| Rd <| kS_nrm <| Runs.ret <| kS_ret ?_
     obtain rfl := Option.some.inj h
     exact ⟨Out.ret_ne, (by kernel_rfl)⟩
 | false =>
  replace h := ite_f hb_1 h
  refine Cf <| Runs.skip <| kS_nrm <| Sq <| Runs.block <| Sq <| Ro <| Rc 3 [⟨.d (.int .u8 op_), []⟩, ⟨.d (.bool (op_ == 212)), []⟩, ⟨.d (.bool (op_ == 212)), []⟩] <| Rd <| kS_nrm ?_
  cases hb_6 : ((op_ == 212) : Bool) with
  | true =>
   replace h := ite_t hb_6 h
   refine Ct <| Sq <| Ro ?_
   obtain ⟨r_6, hr_6, h⟩ := bind_s h
   have hc_6 := isa_row_L 70 6 0 r_6 hr_6
   refine Rt (some 35) (.callf 55) [] none [.d (.int .i64 70), .d (.int .i64 6), .d (.int .i64 0)] (.tup [.d (Row.d r_6.1), .d (.bool r_6.2)]) [] (cut_call (call_of (ws := []) (us := []) (by kernel_rfl) (by kernel_rfl) hc_6 (by kernel_rfl) (by kernel_rfl))) <| Rc 4 [⟨.d (Row.d r_6.1), []⟩, ⟨.d (.bool r_6.2), []⟩, ⟨.tup [], [([4], some (.cells [.d (.int .i64 r_6.1.Name), .d (.int .i64 r_6.1.A), .d (.int .i64 r_6.1.B), .d (.bool r_6.1.Mod)] 0))]⟩, ⟨.d (.bool r_6.2), []⟩] <| Rd <| kS_nrm <| Runs.ret <| kB_ret <| kS_ret ?_
   obtain rfl := Option.some.inj h
   exact ⟨Out.ret_ne, (by kernel_rfl)⟩
  | false =>
   replace h := ite_f hb_6 h
   refine Cf <| Sq <| Ro <| Rc 3 [⟨.d (.int .u8 op_), []⟩, ⟨.d (.bool (op_ == 213)), []⟩, ⟨.d (.bool (op_ == 213)), []⟩] <| Rd <| kS_nrm ?_
   cases hb_7 : ((op_ == 213) : Bool) with
   | true =>
    replace h := ite_t hb_7 h
    refine Ct <| Sq <| Ro ?_
    obtain ⟨r_7, hr_7, h⟩ := bind_s h
    have hc_7 := isa_row_L 71 6 0 r_7 hr_7
    refine Rt (some 41) (.callf 55) [] none [.d (.int .i64 71), .d (.int .i64 6), .d (.int .i64 0)] (.tup [.d (Row.d r_7.1), .d (.bool r_7.2)]) [] (cut_call (call_of (ws := []) (us := []) (by kernel_rfl) (by kernel_rfl) hc_7 (by kernel_rfl) (by kernel_rfl))) <| Rc 4 [⟨.d (Row.d r_7.1), []⟩, ⟨.d (.bool r_7.2), []⟩, ⟨.tup [], [([4], some (.cells [.d (.int .i64 r_7.1.Name), .d (.int .i64 r_7.1.A), .d (.int .i64 r_7.1.B), .d (.bool r_7.1.Mod)] 0))]⟩, ⟨.d (.bool r_7.2), []⟩] <| Rd <| kS_nrm <| Runs.ret <| kB_ret <| kS_ret ?_
    obtain rfl := Option.some.inj h
    exact ⟨Out.ret_ne, (by kernel_rfl)⟩
   | false =>
    replace h := ite_f hb_7 h
    refine Cf <| Sq <| Ro <| Rc 3 [⟨.d (.int .u8 op_), []⟩, ⟨.d (.bool (op_ == 215)), []⟩, ⟨.d (.bool (op_ == 215)), []⟩] <| Rd <| kS_nrm ?_
    cases hb_8 : ((op_ == 215) : Bool) with
    | true =>
     replace h := ite_t hb_8 h
     refine Ct <| Sq <| Ro ?_
     obtain ⟨r_8, hr_8, h⟩ := bind_s h
     have hc_8 := isa_row_L 72 0 0 r_8 hr_8
     refine Rt (some 47) (.callf 55) [] none [.d (.int .i64 72), .d (.int .i64 0), .d (.int .i64 0)] (.tup [.d (Row.d r_8.1), .d (.bool r_8.2)]) [] (cut_call (call_of (ws := []) (us := []) (by kernel_rfl) (by kernel_rfl) hc_8 (by kernel_rfl) (by kernel_rfl))) <| Rc 4 [⟨.d (Row.d r_8.1), []⟩, ⟨.d (.bool r_8.2), []⟩, ⟨.tup [], [([4], some (.cells [.d (.int .i64 r_8.1.Name), .d (.int .i64 r_8.1.A), .d (.int .i64 r_8.1.B), .d (.bool r_8.1.Mod)] 0))]⟩, ⟨.d (.bool r_8.2), []⟩] <| Rd <| kS_nrm <| Runs.ret <| kB_ret <| kS_ret ?_
     obtain rfl := Option.some.inj h
     exact ⟨Out.ret_ne, (by kernel_rfl)⟩
    | false =>
     replace h := ite_f hb_8 h
     refine Cf <| Sq <| Ro <| Rc 3 [⟨.d (.int .u8 op_), []⟩, ⟨.d (.bool (decide (op_ ≥ 216))), []⟩, ⟨.d (.bool (decide (op_ ≥ 216))), []⟩] <| Rd <| kS_nrm ?_
     cases hb_9 : ((decide (op_ ≥ 216)) : Bool) with
     | true =>
      replace h := ite_t hb_9 h
      refine Ct <| Sq <| Ro ?_
      obtain ⟨r_9, hr_9, h⟩ := bind_s h
      have hc_9 := isa_mod_L 73 2 0 r_9 hr_9
      refine Rt (some 53) (.callf 65) [] none [.d (.int .i64 73), .d (.int .i64 2), .d (.int .i64 0)] (.tup [.d (Row.d r_9.1), .d (.bool r_9.2)]) [] (cut_call (call_of (ws := []) (us := []) (by kernel_rfl) (by kernel_rfl) hc_9 (by kernel_rfl) (by kernel_rfl))) <| Rc 4 [⟨.d (Row.d r_9.1), []⟩, ⟨.d (.bool r_9.2), []⟩, ⟨.tup [], [([4], some (.cells [.d (.int .i64 r_9.1.Name), .d (.int .i64 r_9.1.A), .d (.int .i64 r_9.1.B), .d (.bool r_9.1.Mod)] 0))]⟩, ⟨.d (.bool r_9.2), []⟩] <| Rd <| kS_nrm <| Runs.ret <| kB_ret <| kS_ret ?_
      obtain rfl := Option.some.inj h
      exact ⟨Out.ret_ne, (by kernel_rfl)⟩
     | false =>
      replace h := ite_f hb_9 h
      refine Cf <| Runs.skip <| kB_nrm <| kS_nrm <| Sq <| Ro ?_
      obtain ⟨r_10, hr_10, h⟩ := bind_s h
      have hc_10 := isa_bad_L r_10 hr_10
      refine Rt (some 56) (.callf 56) [] none [] (.tup [.d (Row.d r_10.1), .d (.bool r_10.2)]) [] (cut_call (call_of (ws := []) (us := []) (by kernel_rfl) (by kernel_rfl) hc_10 (by kernel_rfl) (by kernel_rfl))) <| Rc 4 [⟨.d (Row.d r_10.1), []⟩, ⟨.d (.bool r_10.2), []⟩, ⟨.tup [], [([4], some (.cells [.d (.int .i64 r_10.1.Name), .d (.int .i64 r_10.1.A), .d (.int .i64 r_10.1.B), .d (.bool r_10.1.Mod)] 0))]⟩, ⟨.d (.bool r_10.2), []⟩] <| Rd <| kS_nrm <| Runs.ret ?_
      obtain rfl := Option.some.inj h
      exact ⟨Out.ret_ne, (by kernel_rfl)⟩
theorem isa_turns_L (op_ : Int) (reg_ : Int) (r : (Row × Bool)) (h : isa_turns op_ reg_ = some r) : L 61 [.d (.int .u8 op_), .d (.int .i64 reg_)] = some (.tup [.d (Row.d r.1), .d (.bool r.2)], [.d (.int .u8 op_), .d (.int .i64 reg_)]) := by
 obtain ⟨p, ⟨hne, hf⟩, hr⟩ := isa_turns_ok op_ reg_ r h
 obtain ⟨k, hk⟩ := run_of (F := F61) (args := [.d (.int .u8 op_), .d (.int .i64 reg_)]) (ap := [.d (.int .u8 op_), .d (.int .i64 reg_)]) (bx0 := updW (fun _ => none) []) rfl rfl (by kernel_rfl) ⟨p, ⟨hne, hf⟩, hr⟩
 exact lim_run (k := k) rfl hk
def isa_goes_h20 (b_2 : Row) (op0 : Int) (t4 : Int) (t5 : Bool) : St := ⟨tab [(0, .d (.int .u8 op0)), (2, .ptr [2] 0 0), (4, .d (.int .u8 t4)), (5, .d (.bool t5))], tabB [([2], some (.cells [.d (.int .i64 b_2.Name), .d (.int .i64 b_2.A), .d (.int .i64 b_2.B), .d (.bool b_2.Mod)] 0))]⟩
end Go.Es.Cow
