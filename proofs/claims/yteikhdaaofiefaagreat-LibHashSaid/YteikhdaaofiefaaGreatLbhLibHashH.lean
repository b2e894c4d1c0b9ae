/- The law LibHash in plain Lean. No condition. -/
import Derived.Test.YteikhdaaofiefaaGreatLbhP
set_option linter.unusedVariables false
set_option linter.unusedSimpArgs false
set_option maxHeartbeats 4000000
set_option maxRecDepth 100000
namespace Go.Es.Lbh
theorem loop_up {τ β : Type} (T : Nat → τ) (n : Nat) {f : τ → Option (Lp τ β)} (o : β) (h1 : ∀ i, i < n → f (T i) = some (.next (T (i + 1)))) (h2 : f (T n) = some (.out o)) : loopO f (T 0) = some o := by
  have key : ∀ k i, i + k = n → loopO f (T i) = some o := by
    intro k
    induction k with
    | zero => intro i h; rw [Nat.add_zero] at h; subst h; rw [loopO_eq, h2]; rfl
    | succ k ih => intro i h; rw [loopO_eq, h1 i (by omega)]; exact ih (i + 1) (by omega)
  exact key n 0 (by omega)

theorem xor_u16 {a b : Nat} (ha : a < 65536) (hb : b < 65536) : bitsOp .xor .u16 (a : Int) (b : Int) = ((a ^^^ b : Nat) : Int) := by
  have e : bitsOp .xor .u16 (a : Int) (b : Int) = IntKind.wrap .u16 (((BitVec.ofInt 16 (a : Int) ^^^ BitVec.ofInt 16 (b : Int)).toNat : Nat) : Int) := rfl
  have e1 : (BitVec.ofInt 16 (a : Int)).toNat = a := by have := ofInt_toNat 16 (a : Int); omega
  have e2 : (BitVec.ofInt 16 (b : Int)).toNat = b := by have := ofInt_toNat 16 (b : Int); omega
  have h : a ^^^ b < 2 ^ 16 := Nat.xor_lt_two_pow (by omega) (by omega)
  rw [e, BitVec.toNat_xor, e1, e2, wrapu16 (by omega) (by omega)]
theorem xor_i64 {a b : Nat} (ha : a < 65536) (hb : b < 65536) : bitsOp .xor .i64 (a : Int) (b : Int) = ((a ^^^ b : Nat) : Int) := by
  have e : bitsOp .xor .i64 (a : Int) (b : Int) = IntKind.wrap .i64 (((BitVec.ofInt 64 (a : Int) ^^^ BitVec.ofInt 64 (b : Int)).toNat : Nat) : Int) := rfl
  have e1 : (BitVec.ofInt 64 (a : Int)).toNat = a := by have := ofInt_toNat 64 (a : Int); omega
  have e2 : (BitVec.ofInt 64 (b : Int)).toNat = b := by have := ofInt_toNat 64 (b : Int); omega
  have h : a ^^^ b < 2 ^ 16 := Nat.xor_lt_two_pow (by omega) (by omega)
  rw [e, BitVec.toNat_xor, e1, e2, wrap64 (by omega) (by omega)]
def up (c : Nat) : Nat := if c / 32 % 2 = 0 then c + 32 else c
theorem up_lt {c : Nat} (h : c < 256) : up c < 65536 := by unfold up; split <;> omega
theorem up_le {c : Nat} (h : c < 256) : up c < 256 := by
  have : ∀ n : Fin 256, up n.val < 256 := by decide
  exact this ⟨c, h⟩
theorem or32 {c : Nat} (h : c < 256) : bitsOp .or .u8 (c : Int) 32 = ((up c : Nat) : Int) := by
  have : ∀ n : Fin 256, bitsOp .or .u8 (n.val : Int) 32 = ((up n.val : Nat) : Int) := by decide
  exact this ⟨c, h⟩
def rl (x : Nat) : Nat := x * 4 % 65536 + x / 16384
def rr (x : Nat) : Nat := x / 4 + x % 4 * 16384
theorem rl_lt {x : Nat} (h : x < 65536) : rl x < 65536 := by unfold rl; omega
theorem rr_lt {x : Nat} (h : x < 65536) : rr x < 65536 := by unfold rr; omega
theorem or_low {hi lo j : Nat} (h1 : lo < 2 ^ j) (h2 : 2 ^ j * hi + lo < 65536) : bitsOp .or .u16 ((2 ^ j * hi : Nat) : Int) (lo : Int) = ((2 ^ j * hi + lo : Nat) : Int) := by
  have e : bitsOp .or .u16 ((2 ^ j * hi : Nat) : Int) (lo : Int) = IntKind.wrap .u16 (((BitVec.ofInt 16 ((2 ^ j * hi : Nat) : Int) ||| BitVec.ofInt 16 (lo : Int)).toNat : Nat) : Int) := rfl
  have e1 : (BitVec.ofInt 16 ((2 ^ j * hi : Nat) : Int)).toNat = 2 ^ j * hi := by
    have := ofInt_toNat 16 ((2 ^ j * hi : Nat) : Int)
    generalize 2 ^ j * hi = q at *
    omega
  have e2 : (BitVec.ofInt 16 (lo : Int)).toNat = lo := by
    have := ofInt_toNat 16 (lo : Int)
    generalize 2 ^ j * hi = q at *
    omega
  rw [e, BitVec.toNat_or, e1, e2, ← Nat.two_pow_add_eq_or_of_lt h1]
  generalize 2 ^ j * hi = q at *
  rw [wrapu16 (by omega) (by omega)]
theorem rot_l {x : Nat} (h : x < 65536) : math_bits_RotateLeft16 (x : Int) 2 = some ((rl x : Nat) : Int) := by
  unfold math_bits_RotateLeft16
  have e1 : bitsOp .and .u64 (IntKind.wrap .u64 2) 15 = 2 := by decide
  have e2 : IntKind.wrap .u64 (16 - 2) = 14 := by decide
  rw [e1, e2]
  have e3 : shlO .u16 (x : Int) 2 = some ((4 * (x % 16384) : Nat) : Int) := by
    unfold shlO
    rw [if_neg (by omega)]
    have : shlI .u16 (x : Int) 2 = IntKind.wrap .u16 ((x : Int) * 4) := rfl
    rw [this, wrap_u16']; congr 1; omega
  have e4 : shrO .u16 (x : Int) 14 = some ((x / 16384 : Nat) : Int) := by
    unfold shrO
    rw [if_neg (by omega)]
    have := shr_eq (k := .u16) (x := (x : Int)) (j := 14) (by decide)
    rw [show ((14 : Nat) : Int) = 14 from rfl] at this
    rw [this]; rfl
  rw [e3, e4]
  have := or_low (hi := x % 16384) (lo := x / 16384) (j := 2) (by omega) (by omega)
  simp only [Option.bind_some]
  rw [show (4 * (x % 16384) : Nat) = 2 ^ 2 * (x % 16384) from rfl, this]
  unfold rl; congr 2; omega
theorem rot_r {x : Nat} (h : x < 65536) : math_bits_RotateLeft16 (x : Int) (-2) = some ((rr x : Nat) : Int) := by
  unfold math_bits_RotateLeft16
  have e1 : bitsOp .and .u64 (IntKind.wrap .u64 (-2)) 15 = 14 := by decide
  have e2 : IntKind.wrap .u64 (16 - 14) = 2 := by decide
  rw [e1, e2]
  have e3 : shlO .u16 (x : Int) 14 = some ((16384 * (x % 4) : Nat) : Int) := by
    unfold shlO
    rw [if_neg (by omega)]
    have : shlI .u16 (x : Int) 14 = IntKind.wrap .u16 ((x : Int) * 16384) := rfl
    rw [this, wrap_u16']; congr 1; omega
  have e4 : shrO .u16 (x : Int) 2 = some ((x / 4 : Nat) : Int) := by
    unfold shrO
    rw [if_neg (by omega)]
    have := shr_eq (k := .u16) (x := (x : Int)) (j := 2) (by decide)
    rw [show ((2 : Nat) : Int) = 2 from rfl] at this
    rw [this]; rfl
  rw [e3, e4]
  have := or_low (hi := x % 4) (lo := x / 4) (j := 14) (by omega) (by omega)
  simp only [Option.bind_some]
  rw [show (16384 * (x % 4) : Nat) = 2 ^ 14 * (x % 4) from rfl, this]
  unfold rr; congr 2; omega

structure Q where
  a : Nat
  b : Nat
  c : Nat
  d : Nat
def Q.ok (q : Q) : Prop := q.a < 65536 ∧ q.b < 65536 ∧ q.c < 65536 ∧ q.d < 65536
def Q.next (q : Q) (f g : Nat) : Q := ⟨rl q.a ^^^ up f, rr q.b ^^^ up g, rl q.c ^^^ up g, rr q.d ^^^ up f⟩
theorem Q.next_ok {q : Q} (h : q.ok) {f g : Nat} (hf : f < 256) (hg : g < 256) : (q.next f g).ok := by
  obtain ⟨h1, h2, h3, h4⟩ := h
  have x : ∀ a b, a < 65536 → b < 65536 → a ^^^ b < 65536 := fun a b ha hb => Nat.xor_lt_two_pow (n := 16) (by omega) (by omega)
  exact ⟨x _ _ (rl_lt h1) (up_lt hf), x _ _ (rr_lt h2) (up_lt hg), x _ _ (rl_lt h3) (up_lt hg), x _ _ (rr_lt h4) (up_lt hf)⟩
def by_ (B : List UInt8) (i : Nat) : Nat := (B.getD i 0).toNat
theorem by_lt (B : List UInt8) (i : Nat) : by_ B i < 256 := UInt8.toNat_lt _
def run_ (B : List UInt8) : Nat → Q
  | 0 => ⟨0, 0, 0, 0⟩
  | i + 1 => (run_ B i).next (by_ B i) (by_ B (B.length - 1 - i))
theorem run_ok (B : List UInt8) : ∀ i, (run_ B i).ok
  | 0 => by unfold run_ Q.ok; simp
  | i + 1 => Q.next_ok (run_ok B i) (by_lt _ _) (by_lt _ _)
theorem at_ {B : List UInt8} {i : Nat} (h : i < B.length) : idx B (i : Int) = some (B.getD i 0) := by
  rw [idx_nat h, List.getD_eq_getElem?_getD, List.getElem?_eq_getElem h]; rfl
theorem at_s {B : List UInt8} {i : Nat} (h : i < B.length) : idx (s2b B) (i : Int) = some ((by_ B i : Nat) : Int) := by
  rw [idx_nat (by simpa [s2b] using h)]
  unfold by_ s2b
  rw [List.getD_eq_getElem?_getD, List.getElem?_eq_getElem h]; simp
/-- lib.Hash's loop -/
theorem hash_loop (W : Where) (n : Int) (B : List UInt8) (h0 : 0 < B.length) (h1 : B.length ≤ 1000) :
    loopO (fun x : (Int × Int × Int × Int × Int) => lib_Hash_l12 W n (s2b B) x.1 x.2.1 x.2.2.1 x.2.2.2.1 (IntKind.wrap .i64 (((s2b B).length : Int) - 1)) x.2.2.2.2) (0, 0, 0, 0, 0) =
      some (((run_ B (B.length - 1)).a : Int), ((run_ B (B.length - 1)).c : Int), ((run_ B (B.length - 1)).b : Int), ((run_ B (B.length - 1)).d : Int)) := by
  have hl : (s2b B).length = B.length := by simp [s2b]
  have hw : IntKind.wrap .i64 (((s2b B).length : Int) - 1) = ((B.length - 1 : Nat) : Int) := by rw [hl, wrap64 (by omega) (by omega)]; omega
  refine loop_up (fun i => (((run_ B i).a : Int), ((run_ B i).c : Int), ((run_ B i).b : Int), ((run_ B i).d : Int), (i : Int))) (B.length - 1) _ (fun i hi => ?_) ?_
  · obtain ⟨k1, k2, k3, k4⟩ := run_ok B i
    simp only
    unfold lib_Hash_l12
    rw [hw, if_pos (by simp; omega), at_s (by omega), show IntKind.wrap .i64 (((B.length - 1 : Nat) : Int) - (i : Int)) = ((B.length - 1 - i : Nat) : Int) from by rw [wrap64 (by omega) (by omega)]; omega, at_s (by omega)]
    simp only [Option.bind_some, rot_l k1, rot_l k3, rot_r k2, rot_r k4, or32 (by_lt B i), or32 (by_lt B (B.length - 1 - i))]
    have f1 := up_lt (by_lt B i)
    have f2 := up_lt (by_lt B (B.length - 1 - i))
    rw [wrapu16 (n := ((up (by_ B i) : Nat) : Int)) (by omega) (by omega), wrapu16 (n := ((up (by_ B (B.length - 1 - i)) : Nat) : Int)) (by omega) (by omega),
      xor_u16 (rl_lt k1) f1, xor_u16 (rl_lt k3) f2, xor_u16 (rr_lt k2) f2, xor_u16 (rr_lt k4) f1, wrap64 (by omega) (by omega)]
    rfl
  · simp only
    unfold lib_Hash_l12
    rw [hw, if_neg (by simp)]
/-- the law's loop -/
theorem law_loop (t : List UInt8) (n : Int) (B : List UInt8) (h0 : B.length = t.length + 1) (h1 : B.length ≤ 1000) :
    loopO (fun x : ((A4 Int) × Int) => hansomlaw27_LibHash_l14 x.1 t n B x.2) (({ a0 := 0, a1 := 0, a2 := 0, a3 := 0 } : (A4 Int)), 0) =
      some ({ a0 := ((run_ B (B.length - 1)).a : Int), a1 := ((run_ B (B.length - 1)).b : Int), a2 := ((run_ B (B.length - 1)).c : Int), a3 := ((run_ B (B.length - 1)).d : Int) } : A4 Int) := by
  refine loop_up (fun i => (({ a0 := ((run_ B i).a : Int), a1 := ((run_ B i).b : Int), a2 := ((run_ B i).c : Int), a3 := ((run_ B i).d : Int) } : A4 Int), (i : Int))) (B.length - 1) _ (fun i hi => ?_) ?_
  · obtain ⟨k1, k2, k3, k4⟩ := run_ok B i
    simp only
    unfold hansomlaw27_LibHash_l14
    rw [if_pos (by simp; omega), at_ (by omega), show IntKind.wrap .i64 (IntKind.wrap .i64 ((B.length : Int) - 1) - (i : Int)) = ((B.length - 1 - i : Nat) : Int) from by
      rw [wrap64 (n := (B.length : Int) - 1) (by omega) (by omega), wrap64 (by omega) (by omega)]; omega, at_ (by omega)]
    simp only [Option.bind_some]
    have g1 := by_lt B i
    have g2 := by_lt B (B.length - 1 - i)
    have f1 := up_lt (by_lt B i)
    have f2 := up_lt (by_lt B (B.length - 1 - i))
    have e1 : (B.getD i 0).toNat = by_ B i := rfl
    have e2 : (B.getD (B.length - 1 - i) 0).toNat = by_ B (B.length - 1 - i) := rfl
    rw [e1, e2]
    have w : ∀ c : Nat, c < 256 → IntKind.wrap .i64 (c : Int) = (c : Int) := fun c hc => wrap64 (by omega) (by omega)
    rw [w _ g1, w _ g2]
    have tst : ∀ c : Nat, c < 256 → ((Int.tmod (IntKind.wrap .i64 (Int.tdiv (c : Int) 32)) 2) == 0) = decide (c / 32 % 2 = 0) := fun c hc => by
      rw [show Int.tdiv (c : Int) 32 = ((c / 32 : Nat) : Int) from rfl, wrap64 (by omega) (by omega), show Int.tmod ((c / 32 : Nat) : Int) 2 = ((c / 32 % 2 : Nat) : Int) from rfl]
      by_cases e : c / 32 % 2 = 0
      · rw [e]; rfl
      · simp [e]; omega
    have upI : ∀ c : Nat, c < 256 → c / 32 % 2 = 0 → IntKind.wrap .i64 ((c : Int) + 32) = ((up c : Nat) : Int) := fun c hc e => by
      unfold up; rw [if_pos e, wrap64 (by omega) (by omega)]; rfl
    have upN : ∀ c : Nat, ¬ c / 32 % 2 = 0 → (c : Int) = ((up c : Nat) : Int) := fun c e => by
      unfold up; rw [if_neg e]
    have fin : hansomlaw27_LibHash_j37 ({ a0 := ((run_ B i).a : Int), a1 := ((run_ B i).b : Int), a2 := ((run_ B i).c : Int), a3 := ((run_ B i).d : Int) } : A4 Int) t n B (i : Int) ((up (by_ B i) : Nat) : Int) ((up (by_ B (B.length - 1 - i)) : Nat) : Int) =
        some (.next (({ a0 := ((run_ B (i + 1)).a : Int), a1 := ((run_ B (i + 1)).b : Int), a2 := ((run_ B (i + 1)).c : Int), a3 := ((run_ B (i + 1)).d : Int) } : A4 Int), ((i + 1 : Nat) : Int))) := by
      unfold hansomlaw27_LibHash_j37
      have rl_ : ∀ x : Nat, x < 65536 → IntKind.wrap .i64 ((Int.tmod (IntKind.wrap .i64 ((x : Int) * 4)) 65536) + (IntKind.wrap .i64 (Int.tdiv (x : Int) 16384))) = ((rl x : Nat) : Int) := fun x hx => by
        rw [wrap64 (n := (x : Int) * 4) (by omega) (by omega), show Int.tdiv (x : Int) 16384 = ((x / 16384 : Nat) : Int) from rfl, wrap64 (n := ((x / 16384 : Nat) : Int)) (by omega) (by omega),
          show (x : Int) * 4 = ((x * 4 : Nat) : Int) from rfl, show Int.tmod ((x * 4 : Nat) : Int) 65536 = ((x * 4 % 65536 : Nat) : Int) from rfl, wrap64 (by omega) (by omega)]
        rfl
      have rr_ : ∀ x : Nat, x < 65536 → IntKind.wrap .i64 ((IntKind.wrap .i64 (Int.tdiv (x : Int) 4)) + (IntKind.wrap .i64 ((Int.tmod (x : Int) 4) * 16384))) = ((rr x : Nat) : Int) := fun x hx => by
        rw [show Int.tdiv (x : Int) 4 = ((x / 4 : Nat) : Int) from rfl, wrap64 (n := ((x / 4 : Nat) : Int)) (by omega) (by omega), show Int.tmod (x : Int) 4 = ((x % 4 : Nat) : Int) from rfl,
          wrap64 (n := ((x % 4 : Nat) : Int) * 16384) (by omega) (by omega), wrap64 (by omega) (by omega)]
        rfl
      simp only
      rw [rl_ _ k1, rr_ _ k2, rl_ _ k3, rr_ _ k4, xor_i64 (rl_lt k1) f1, xor_i64 (rl_lt k3) f2, xor_i64 (rr_lt k2) f2, xor_i64 (rr_lt k4) f1, wrap64 (by omega) (by omega)]
      rfl
    have j31 : ∀ F : Int, F = ((up (by_ B i) : Nat) : Int) → hansomlaw27_LibHash_j31 ({ a0 := ((run_ B i).a : Int), a1 := ((run_ B i).b : Int), a2 := ((run_ B i).c : Int), a3 := ((run_ B i).d : Int) } : A4 Int) t n B (i : Int) F ((by_ B (B.length - 1 - i) : Nat) : Int) =
        some (.next (({ a0 := ((run_ B (i + 1)).a : Int), a1 := ((run_ B (i + 1)).b : Int), a2 := ((run_ B (i + 1)).c : Int), a3 := ((run_ B (i + 1)).d : Int) } : A4 Int), ((i + 1 : Nat) : Int))) := fun F hF => by
      subst hF
      unfold hansomlaw27_LibHash_j31
      rw [tst _ g2]
      by_cases e : by_ B (B.length - 1 - i) / 32 % 2 = 0
      · rw [if_pos (by simp [e]), upI _ g2 e]; exact fin
      · rw [if_neg (by simp [e])]
        rw [upN _ e]; exact fin
    rw [tst _ g1]
    by_cases e : by_ B i / 32 % 2 = 0
    · rw [if_pos (by simp [e])]; exact j31 _ (upI _ g1 e)
    · rw [if_neg (by simp [e])]; exact j31 _ (upN _ e)
  · simp only
    unfold hansomlaw27_LibHash_l14
    rw [if_neg (by simp; omega)]
theorem name_t {t : List UInt8} (h : t.length ≤ 255) : hansomref18_Name t = some (UInt8.ofNat t.length :: t) := by
  unfold hansomref18_Name
  rw [if_neg (by simp; omega), wrapu8 (by omega) (by omega), show b2s [(t.length : Int)] = [UInt8.ofNat t.length] from rfl, catS_eq (by simp; omega)]
  rfl
theorem iname_t {t : List UInt8} (h : t.length ≤ 255) : index_Name t = some (s2b (UInt8.ofNat t.length :: t)) := by
  unfold index_Name
  have e : mnI (t.length : Int) 255 = (t.length : Int) := by unfold mnI; rw [if_neg (by omega)]
  rw [e, cutL_eq (by omega) (by omega) (by omega)]
  have e2 : (t.drop (0 : Int).toNat).take ((t.length : Int).toNat - (0 : Int).toNat) = t := by simp
  rw [e2, Option.bind_some, wrapu8 (by omega) (by omega), grow_eq (by simp [s2b]; omega) (by simp [s2b]; omega)]
  have e3 : (UInt8.ofNat t.length).toNat = t.length := by simp; omega
  simp only [Option.bind_some, s2b, List.map_cons, e3]
  rfl
theorem hash_t {t : List UInt8} (h : t.length ≤ 255) {n : Int} (B : List UInt8) (hB : B = UInt8.ofNat t.length :: t) :
    lib_Hash t n = (remI .i64 ((run_ B (B.length - 1)).a : Int) (mxI n 1)).bind fun z_1 => (remI .i64 ((run_ B (B.length - 1)).c : Int) (mxI n 1)).bind fun z_2 =>
      some ({ Block := z_1, Bucket := (Int.tmod ((run_ B (B.length - 1)).b : Int) 37), BlockD := (mxI z_2 1), BuckD := (mxI (Int.tmod ((run_ B (B.length - 1)).d : Int) 37) 1) } : Where) := by
  have hl : B.length = t.length + 1 := by rw [hB]; rfl
  unfold lib_Hash
  rw [iname_t h, Option.bind_some, ← hB, hash_loop _ _ B (by omega) (by omega), Option.bind_some]
  obtain ⟨k1, k2, k3, k4⟩ := run_ok B (B.length - 1)
  rw [wrap64 (n := ((run_ B (B.length - 1)).a : Int)) (by omega) (by omega), wrap64 (n := ((run_ B (B.length - 1)).b : Int)) (by omega) (by omega), wrap64 (n := ((run_ B (B.length - 1)).c : Int)) (by omega) (by omega), wrap64 (n := ((run_ B (B.length - 1)).d : Int)) (by omega) (by omega)]
theorem libHash_true (s : List UInt8) (b : Int) (w0 : wfS s) (w1 : wfI .i64 b) : hansomlaw27_LibHash s b = some true := by
  unfold hansomlaw27_LibHash
  have hm : 0 ≤ mnI (s.length : Int) 255 ∧ mnI (s.length : Int) 255 ≤ (s.length : Int) ∧ mnI (s.length : Int) 255 ≤ 255 := by unfold mnI; split <;> omega
  rw [cutL_eq (by omega) hm.1 hm.2.1, Option.bind_some]
  generalize ht : (s.drop (0 : Int).toNat).take ((mnI (s.length : Int) 255).toNat - (0 : Int).toNat) = t
  have hl : t.length ≤ 255 := by rw [← ht, List.length_take]; omega
  rw [name_t hl, Option.bind_some]
  generalize hB : UInt8.ofNat t.length :: t = B
  have hBl : B.length = t.length + 1 := by rw [← hB]; rfl
  rw [law_loop t _ B (by omega) (by omega), Option.bind_some]
  have hn : IntKind.wrap .i64 ((bitsOp .and .i64 b 1023) + 1) = b % 1024 + 1 := by
    have := and_mask b 10 (by omega)
    rw [show (((2 ^ 10 - 1 : Nat) : Nat) : Int) = 1023 from rfl] at this
    rw [this, wrap64 (by omega) (by omega)]; rfl
  rw [hn]
  have hn1 : 1 ≤ b % 1024 + 1 ∧ b % 1024 + 1 ≤ 1024 := by omega
  generalize b % 1024 + 1 = n at hn1
  have m1 : mxI n 1 = n := by unfold mxI; rw [if_neg (by omega)]
  have m2 : mxI (IntKind.wrap .i64 (0 - n)) 1 = 1 := by rw [wrap64 (by omega) (by omega)]; unfold mxI; rw [if_pos (by omega)]
  have m3 : mxI 1 1 = 1 := rfl
  have hr : ∀ x : Int, remI .i64 x n = some (x.tmod n) := fun x => by unfold remI; rw [if_neg (by omega)]
  have hr1 : ∀ x : Int, remI .i64 x 1 = some (x.tmod 1) := fun x => by unfold remI; rw [if_neg (by omega)]
  unfold hansomlaw27_awake
  simp only [Option.bind_some, if_true]
  rw [hash_t hl B hB.symm, hash_t hl B hB.symm, hash_t hl B hB.symm, m1, m2, m3]
  simp only [hr, hr1, Option.bind_some, beq_self_eq_true, Bool.and_self, if_true]
end Go.Es.Lbh
