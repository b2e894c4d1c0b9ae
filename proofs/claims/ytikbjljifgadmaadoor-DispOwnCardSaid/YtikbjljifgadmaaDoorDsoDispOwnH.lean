/- The law DispOwn in plain Lean. No condition. -/
import Derived.Test.YtikbjljifgadmaaDoorDsoH
import Derived.KernelRfl
set_option linter.unusedVariables false
set_option linter.unusedSimpArgs false
set_option maxHeartbeats 4000000
set_option maxRecDepth 100000
namespace Go.Es.Dso
/-! ### digits -/
def D16 : List UInt8 := [48, 49, 50, 51, 52, 53, 54, 55, 56, 57, 65, 66, 67, 68, 69, 70]
def dg (m : Int) : UInt8 := (D16[m.toNat]?).getD 0
def hx (n : Int) : Nat → List UInt8
  | 0 => []
  | k + 1 => hx (n / 16) k ++ [dg (n % 16)]
theorem hx_len (n : Int) (k : Nat) : (hx n k).length = k := by
  induction k generalizing n with
  | zero => rfl
  | succ k ih => simp [hx, ih]
theorem m16 {m : Int} (h : 0 ≤ m ∧ m < 16) : m = 0 ∨ m = 1 ∨ m = 2 ∨ m = 3 ∨ m = 4 ∨ m = 5 ∨ m = 6 ∨ m = 7 ∨ m = 8 ∨ m = 9 ∨ m = 10 ∨ m = 11 ∨ m = 12 ∨ m = 13 ∨ m = 14 ∨ m = 15 := by omega
theorem hexStep {n many i : Int} {s : List UInt8} (h0 : 0 ≤ n) (h1 : n < 4294967296) (hi : 0 ≤ i ∧ i < many) (hm : many ≤ 8) (hs : s.length ≤ 8) : hansomref01_Hex_l8 n many s i = some (.next (n / 16, dg (n % 16) :: s, i + 1)) := by
  unfold hansomref01_Hex_l8
  rw [if_pos (by simpa using hi.2), Int.tmod_eq_emod_of_nonneg h0, Int.tdiv_eq_ediv_of_nonneg h0, show IntKind.wrap .u32 (n / 16) = n / 16 from by rw [IntKind.wrap_u32]; omega, wrap64 (n := i + 1) (by omega) (by omega)]
  have e : ∀ b : Int, catS (b2s [b]) s = some (b2s [b] ++ s) := fun b => catS_eq (by simp [b2s]; omega)
  have hm16 := m16 (m := n % 16) (by omega)
  by_cases c : n % 16 < 10
  · rw [if_pos (by simpa using c), e, Option.bind_some]
    rcases hm16 with h | h | h | h | h | h | h | h | h | h | h | h | h | h | h | h <;> rw [h] at c ⊢ <;> first | rfl | omega
  · rw [if_neg (by simpa using c), e, Option.bind_some]
    rcases hm16 with h | h | h | h | h | h | h | h | h | h | h | h | h | h | h | h <;> rw [h] at c ⊢ <;> first | rfl | omega
theorem hexEnd {n many i : Int} {s : List UInt8} (hi : many ≤ i) : hansomref01_Hex_l8 n many s i = some (.out s) := by
  unfold hansomref01_Hex_l8
  rw [if_neg (by simpa using hi)]
theorem hex2 {n : Int} (h0 : 0 ≤ n) (h1 : n < 4294967296) : hansomref01_Hex n 2 = some (hx n 2) := by
  unfold hansomref01_Hex
  rw [loopO_eq]
  dsimp only
  rw [hexStep h0 h1 (by omega) (by omega) (by simp)]
  simp only [Option.bind_some]
  rw [loopO_eq]
  dsimp only
  rw [hexStep (by omega) (by omega) (by omega) (by omega) (by simp)]
  simp only [Option.bind_some]
  rw [loopO_eq]
  dsimp only
  rw [hexEnd (by omega)]
  rfl
theorem hex4 {n : Int} (h0 : 0 ≤ n) (h1 : n < 4294967296) : hansomref01_Hex n 4 = some (hx n 4) := by
  unfold hansomref01_Hex
  rw [loopO_eq]
  dsimp only
  rw [hexStep h0 h1 (by omega) (by omega) (by simp)]
  simp only [Option.bind_some]
  rw [loopO_eq]
  dsimp only
  rw [hexStep (by omega) (by omega) (by omega) (by omega) (by simp)]
  simp only [Option.bind_some]
  rw [loopO_eq]
  dsimp only
  rw [hexStep (by omega) (by omega) (by omega) (by omega) (by simp)]
  simp only [Option.bind_some]
  rw [loopO_eq]
  dsimp only
  rw [hexStep (by omega) (by omega) (by omega) (by omega) (by simp)]
  simp only [Option.bind_some]
  rw [loopO_eq]
  dsimp only
  rw [hexEnd (by omega)]
  rfl
theorem and15 {n : Int} (h0 : 0 ≤ n) (h1 : n < 4294967296) : bitsOp .and .u32 n 15 = n % 16 := by
  have e : bitsOp .and .u32 n 15 = IntKind.wrap .u32 (((BitVec.ofInt 32 n &&& BitVec.ofInt 32 15).toNat : Nat) : Int) := rfl
  have e1 : (BitVec.ofInt 32 15).toNat = 2 ^ 4 - 1 := by decide
  have e2 : (BitVec.ofInt 32 n).toNat = n.toNat := by rw [BitVec.toNat_ofInt]; omega
  rw [e, BitVec.toNat_and, e1, e2, Nat.and_two_pow_sub_one_eq_mod, IntKind.wrap_u32]
  omega
theorem digStep {b : List Int} {n many i : Int} {k : Nat} (h0 : 0 ≤ n) (h1 : n < 4294967296) (hi : 0 ≤ i ∧ i < many) (hm : many ≤ 8) (hb : (b.length : Int) = many) (hk : (k : Int) = many - 1 - i) :
    bits_Digits_l10 b n many many i = some (.next (b.set k ((dg (n % 16)).toNat : Int), n / 16, i + 1)) := by
  unfold bits_Digits_l10
  have e1 : idx ([48, 49, 50, 51, 52, 53, 54, 55, 56, 57, 65, 66, 67, 68, 69, 70] : List UInt8) (n % 16) = some (dg (n % 16)) := by
    have hm16 := m16 (m := n % 16) (by omega)
    rcases hm16 with h | h | h | h | h | h | h | h | h | h | h | h | h | h | h | h <;> rw [h] <;> rfl
  have e2 : shrI .u32 n 4 = n / 16 := shr_eq (j := 4) (by decide)
  rw [if_pos (by simpa using hi.2), and15 h0 h1, e1, Option.bind_some, e2, wrap64 (n := many - 1) (by omega) (by omega), wrap64 (n := many - 1 - i) (by omega) (by omega), wrap64 (n := i + 1) (by omega) (by omega), ← hk, idx_nat (by omega), Option.bind_some, Int.toNat_natCast]
theorem digEnd {b : List Int} {n many i : Int} (hi : many ≤ i) : bits_Digits_l10 b n many many i = some (.out b) := by
  unfold bits_Digits_l10
  rw [if_neg (by simpa using hi)]
theorem b2s_u (l : List UInt8) : b2s (l.map fun u => (u.toNat : Int)) = l := by
  induction l with
  | nil => rfl
  | cons a l ih =>
    have : b2s ((a :: l).map fun u => (u.toNat : Int)) = UInt8.ofNat a.toNat :: b2s (l.map fun u => (u.toNat : Int)) := by simp [b2s]
    rw [this, ih, UInt8.ofNat_toNat]
theorem dig2 {n : Int} (h0 : 0 ≤ n) (h1 : n < 4294967296) : bits_Digits n 2 = some (hx n 2) := by
  unfold bits_Digits
  rw [show mnI (mxI 2 1) 8 = 2 from rfl, show mk 1 (0 : Int) 2 = some [0, 0] from by rw [mk_eq (by omega) (by omega) (by omega)]; rfl, Option.bind_some, show ((([0, 0] : List Int)).length : Int) = 2 from rfl]
  rw [loopO_eq]
  dsimp only
  rw [digStep (many := 2) (k := 1) h0 h1 (by omega) (by omega) rfl (by omega)]
  simp only [Option.bind_some]
  rw [loopO_eq]
  dsimp only
  rw [digStep (many := 2) (k := 0) (by omega) (by omega) (by omega) (by omega) rfl (by omega)]
  simp only [Option.bind_some]
  rw [loopO_eq]
  dsimp only
  rw [digEnd (by omega)]
  simp only [Option.bind_some]
  exact congrArg some (b2s_u [dg (n / 16 % 16), dg (n % 16)])
theorem dig4 {n : Int} (h0 : 0 ≤ n) (h1 : n < 4294967296) : bits_Digits n 4 = some (hx n 4) := by
  unfold bits_Digits
  rw [show mnI (mxI 4 1) 8 = 4 from rfl, show mk 1 (0 : Int) 4 = some [0, 0, 0, 0] from by rw [mk_eq (by omega) (by omega) (by omega)]; rfl, Option.bind_some, show ((([0, 0, 0, 0] : List Int)).length : Int) = 4 from rfl]
  rw [loopO_eq]
  dsimp only
  rw [digStep (many := 4) (k := 3) h0 h1 (by omega) (by omega) rfl (by omega)]
  simp only [Option.bind_some]
  rw [loopO_eq]
  dsimp only
  rw [digStep (many := 4) (k := 2) (by omega) (by omega) (by omega) (by omega) rfl (by omega)]
  simp only [Option.bind_some]
  rw [loopO_eq]
  dsimp only
  rw [digStep (many := 4) (k := 1) (by omega) (by omega) (by omega) (by omega) rfl (by omega)]
  simp only [Option.bind_some]
  rw [loopO_eq]
  dsimp only
  rw [digStep (many := 4) (k := 0) (by omega) (by omega) (by omega) (by omega) rfl (by omega)]
  simp only [Option.bind_some]
  rw [loopO_eq]
  dsimp only
  rw [digEnd (by omega)]
  simp only [Option.bind_some]
  exact congrArg some (b2s_u [dg (n / 16 / 16 / 16 % 16), dg (n / 16 / 16 % 16), dg (n / 16 % 16), dg (n % 16)])
/-! ### operands -/
def nthv (L : List (List UInt8)) (n : Int) : List UInt8 := if n < 0 ∨ n ≥ (L.length : Int) then [63] else (L[n.toNat]?).getD []
def REGS : List (List UInt8) := [[65, 88], [67, 88], [68, 88], [66, 88], [83, 80], [66, 80], [83, 73], [68, 73]]
def BYTES : List (List UInt8) := [[65, 76], [67, 76], [68, 76], [66, 76], [65, 72], [67, 72], [68, 72], [66, 72]]
def SEGS : List (List UInt8) := [[69, 83], [67, 83], [83, 83], [68, 83]]
def BASES : List (List UInt8) := [[66, 88, 43, 83, 73], [66, 88, 43, 68, 73], [66, 80, 43, 83, 73], [66, 80, 43, 68, 73], [83, 73], [68, 73], [66, 80], [66, 88]]
theorem fields_base : strings_Fields ([66, 88, 43, 83, 73, 32, 66, 88, 43, 68, 73, 32, 66, 80, 43, 83, 73, 32, 66, 80, 43, 68, 73, 32, 83, 73, 32, 68, 73, 32, 66, 80, 32, 66, 88] : List UInt8) = some BASES := by kernel_rfl
theorem nthv_len (L : List (List UInt8)) (h : (L.all fun x => decide (1 ≤ x.length ∧ x.length ≤ 5)) = true) (n : Int) : 1 ≤ (nthv L n).length ∧ (nthv L n).length ≤ 5 := by
  unfold nthv
  split
  · simp
  · have hlt : n.toNat < L.length := by omega
    rw [List.getElem?_eq_getElem hlt, Option.getD_some]
    have := List.all_eq_true.1 h _ (List.getElem_mem hlt)
    simpa using this
theorem lr (n : Int) : 1 ≤ (nthv REGS n).length ∧ (nthv REGS n).length ≤ 5 := nthv_len REGS (by decide) n
theorem lb (n : Int) : 1 ≤ (nthv BYTES n).length ∧ (nthv BYTES n).length ≤ 5 := nthv_len BYTES (by decide) n
theorem ls (n : Int) : 1 ≤ (nthv SEGS n).length ∧ (nthv SEGS n).length ≤ 5 := nthv_len SEGS (by decide) n
theorem lba (n : Int) : 1 ≤ (nthv BASES n).length ∧ (nthv BASES n).length ≤ 5 := nthv_len BASES (by decide) n
theorem dReg (n : Int) : disp_Reg n = some (nthv REGS n) := by unfold disp_Reg; rw [nth_eq fields_r, Option.bind_some]; rfl
theorem dByte (n : Int) : disp_Byte n = some (nthv BYTES n) := by unfold disp_Byte; rw [nth_eq fields_b, Option.bind_some]; rfl
theorem dSeg (n : Int) : disp_Seg n = some (nthv SEGS n) := by unfold disp_Seg; rw [nth_eq fields_s, Option.bind_some]; rfl
theorem dBase (n : Int) : disp_base n = some (nthv BASES n) := by unfold disp_base; rw [nth_eq fields_base, Option.bind_some]; rfl
theorem rBase (n : Int) : hansomref17_of ([([66, 88, 43, 83, 73] : List UInt8), ([66, 88, 43, 68, 73] : List UInt8), ([66, 80, 43, 83, 73] : List UInt8), ([66, 80, 43, 68, 73] : List UInt8), ([83, 73] : List UInt8), ([68, 73] : List UInt8), ([66, 80] : List UInt8), ([66, 88] : List UInt8)] : List (List UInt8)) n = some (nthv BASES n) := of_eq _ n
theorem rof (L : List (List UInt8)) (n : Int) : hansomref17_of L n = some (nthv L n) := of_eq L n
theorem rReg (n : Int) : hansomref17_Reg n = some (nthv REGS n) := by unfold hansomref17_Reg; rw [rof, Option.bind_some]; rfl
theorem rByte (n : Int) : hansomref17_Byte n = some (nthv BYTES n) := by unfold hansomref17_Byte; rw [rof, Option.bind_some]; rfl
theorem rSeg (n : Int) : hansomref17_Seg n = some (nthv SEGS n) := by unfold hansomref17_Seg; rw [rof, Option.bind_some]; rfl
def pl (i : Inst) : List UInt8 :=
  if dispI i.Mod i.RM = 0 then [91] ++ nthv BASES i.RM ++ [93]
  else if dispI i.Mod i.RM = 1 then (if i.Disp ≥ 32768 then [91] ++ nthv BASES i.RM ++ [45] ++ hx (65536 - i.Disp) 2 ++ [93] else [91] ++ nthv BASES i.RM ++ [43] ++ hx i.Disp 2 ++ [93])
  else if i.Mod = 0 then [91] ++ hx i.Disp 4 ++ [93] else [91] ++ nthv BASES i.RM ++ [43] ++ hx i.Disp 4 ++ [93]
theorem pl_len (i : Inst) : 1 ≤ (pl i).length ∧ (pl i).length ≤ 20 := by
  have := lba i.RM
  unfold pl
  repeat' split
  all_goals (simp only [List.length_append, List.length_cons, List.length_nil, hx_len]; omega)
theorem wu32 {n : Int} (h0 : 0 ≤ n) (h1 : n ≤ 65536) : IntKind.wrap .u32 n = n := by rw [IntKind.wrap_u32]; omega
theorem neg16 {n : Int} (h0 : 32768 ≤ n) (h1 : n ≤ 65535) : IntKind.wrap .u16 (0 - n) = 65536 - n := by rw [wrap_u16']; omega
theorem ct {a b : List UInt8} (h : a.length + b.length ≤ 1000) : catS a b = some (a ++ b) := catS_eq (by omega)
theorem dPlace (i : Inst) (h : okI i) (hs : i.Seg ≤ 0) : disp_place i = some (pl i) := by
  obtain ⟨_, ⟨d0, d1⟩, _⟩ := h
  have hb := lba i.RM
  unfold disp_place
  rw [if_neg (by simp; omega)]
  unfold disp_place_j10 pl
  rw [instDisps, Option.bind_some, dBase, wu32 d0 (by omega)]
  simp only [Option.bind_some]
  by_cases c0 : dispI i.Mod i.RM = 0
  · rw [if_pos (by simpa using c0), if_pos c0, ct (by simp), Option.bind_some, ct (by simp; omega), Option.bind_some, ct (by simp; omega)]; rfl
  · rw [if_neg (by simpa using c0), if_neg c0]
    by_cases c1 : dispI i.Mod i.RM = 1
    · rw [if_pos (by simpa using c1), if_pos c1]
      by_cases c2 : i.Disp ≥ 32768
      · rw [if_pos (by simpa using c2), if_pos c2, neg16 c2 d1, wu32 (n := 65536 - i.Disp) (by omega) (by omega), dig2 (by omega) (by omega), ct (by simp), Option.bind_some, ct (by simp; omega), Option.bind_some, ct (by simp; omega), Option.bind_some, Option.bind_some, ct (by simp [hx_len]; omega), Option.bind_some, ct (by simp [hx_len]; omega)]; rfl
      · rw [if_neg (by simpa using c2), if_neg c2, dig2 (by omega) (by omega), ct (by simp), Option.bind_some, ct (by simp; omega), Option.bind_some, ct (by simp; omega), Option.bind_some, Option.bind_some, ct (by simp [hx_len]; omega), Option.bind_some, ct (by simp [hx_len]; omega)]; rfl
    · rw [if_neg (by simpa using c1), if_neg c1, dig4 (by omega) (by omega)]
      by_cases c3 : i.Mod = 0
      · rw [if_pos (by simpa using c3), if_pos c3, ct (by simp), Option.bind_some, Option.bind_some, ct (by simp [hx_len]), Option.bind_some, ct (by simp [hx_len])]; rfl
      · rw [if_neg (by simpa using c3), if_neg c3, ct (by simp), Option.bind_some, ct (by simp; omega), Option.bind_some, ct (by simp; omega), Option.bind_some, Option.bind_some, ct (by simp [hx_len]; omega), Option.bind_some, ct (by simp [hx_len]; omega)]; rfl
theorem rPlace (i : Inst) (h : okI i) (hs : i.Seg ≤ 0) : hansomref17_place i = some (pl i) := by
  obtain ⟨_, ⟨d0, d1⟩, _⟩ := h
  have hb := lba i.RM
  unfold hansomref17_place
  rw [if_neg (by simp; omega)]
  unfold hansomref17_place_j10 pl
  rw [rBase, Option.bind_some, refDisps, Option.bind_some, wu32 d0 (by omega)]
  by_cases c0 : dispI i.Mod i.RM = 0
  · rw [if_pos (by simpa using c0), if_pos c0, ct (by simp), Option.bind_some, ct (by simp; omega), Option.bind_some, ct (by simp; omega)]; rfl
  · rw [if_neg (by simpa using c0), if_neg c0]
    by_cases c1 : dispI i.Mod i.RM = 1
    · rw [if_pos (by simpa using c1), if_pos c1]
      by_cases c2 : i.Disp ≥ 32768
      · rw [if_pos (by simp; omega), if_pos c2, wu32 (n := 65536 - i.Disp) (by omega) (by omega), hex2 (by omega) (by omega), ct (by simp), Option.bind_some, ct (by simp; omega), Option.bind_some, ct (by simp; omega), Option.bind_some, Option.bind_some, ct (by simp [hx_len]; omega), Option.bind_some, ct (by simp [hx_len]; omega)]; rfl
      · rw [if_neg (by simp; omega), if_neg c2, hex2 (by omega) (by omega), ct (by simp), Option.bind_some, ct (by simp; omega), Option.bind_some, ct (by simp; omega), Option.bind_some, Option.bind_some, ct (by simp [hx_len]; omega), Option.bind_some, ct (by simp [hx_len]; omega)]; rfl
    · rw [if_neg (by simpa using c1), if_neg c1, hex4 (by omega) (by omega)]
      by_cases c3 : i.Mod = 0
      · rw [if_pos (by simpa using c3), if_pos c3, ct (by simp), Option.bind_some, Option.bind_some, ct (by simp [hx_len]), Option.bind_some, ct (by simp [hx_len])]; rfl
      · rw [if_neg (by simpa using c3), if_neg c3, ct (by simp), Option.bind_some, ct (by simp; omega), Option.bind_some, ct (by simp; omega), Option.bind_some, Option.bind_some, ct (by simp [hx_len]; omega), Option.bind_some, ct (by simp [hx_len]; omega)]; rfl
def opI (i : Inst) (k : Int) : List UInt8 :=
  if k = 1 then (if i.Mod = 3 then nthv BYTES i.RM else [66, 89, 84, 69, 32] ++ pl i)
  else if k = 2 then (if i.Mod = 3 then nthv REGS i.RM else [87, 79, 82, 68, 32] ++ pl i)
  else if k = 3 then nthv BYTES i.Reg else if k = 4 then nthv REGS i.Reg else if k = 5 then nthv SEGS i.Reg
  else if k = 6 then hx i.Imm 2 else if k = 7 then hx i.Imm 4 else if k = 8 then hx i.Imm 4
  else if k = 9 ∨ k = 10 then (if i.Imm ≥ 32768 then [45] ++ hx (65536 - i.Imm) 4 else [43] ++ hx i.Imm 4)
  else if k = 11 then hx i.Sel 4 ++ [58] ++ hx i.Imm 4
  else if k = 12 then [66, 89, 84, 69, 32] ++ [] ++ [91] ++ hx i.Imm 4 ++ [93] else if k = 13 then [87, 79, 82, 68, 32] ++ [] ++ [91] ++ hx i.Imm 4 ++ [93]
  else if k = 14 then [65, 76] else if k = 15 then [67, 76] else if k = 16 then [65, 88] else if k = 17 then [68, 88] else if k = 18 then [49]
  else if k = 19 then [70, 65, 82, 32] ++ pl i else if k = 20 then pl i
  else if k = 21 then nthv BYTES (i.Op % 8) else if k = 22 then nthv REGS (i.Op % 8) else if k = 23 then nthv SEGS (i.Op / 8 % 4)
  else if k = 24 then [51] else []
theorem k25 {k : Int} (h : 0 ≤ k ∧ k ≤ 24) : k = 0 ∨ k = 1 ∨ k = 2 ∨ k = 3 ∨ k = 4 ∨ k = 5 ∨ k = 6 ∨ k = 7 ∨ k = 8 ∨ k = 9 ∨ k = 10 ∨ k = 11 ∨ k = 12 ∨ k = 13 ∨ k = 14 ∨ k = 15 ∨ k = 16 ∨ k = 17 ∨ k = 18 ∨ k = 19 ∨ k = 20 ∨ k = 21 ∨ k = 22 ∨ k = 23 ∨ k = 24 := by omega
theorem and_u8 {n : Int} (j : Nat) (hj : j ≤ 7) {m : Int} (hm : m = ((2 ^ j - 1 : Nat) : Int)) (h0 : 0 ≤ n) (h1 : n ≤ 255) : bitsOp .and .u8 n m = n % (2 ^ j : Nat) := by
  subst hm
  have hp : 2 ^ j ≤ 2 ^ 7 := Nat.pow_le_pow_right (by omega) hj
  have hq : 0 < 2 ^ j := Nat.two_pow_pos j
  have e : bitsOp .and .u8 n ((2 ^ j - 1 : Nat) : Int) = IntKind.wrap .u8 (((BitVec.ofInt 8 n &&& BitVec.ofInt 8 ((2 ^ j - 1 : Nat) : Int)).toNat : Nat) : Int) := rfl
  have e1 : (BitVec.ofInt 8 ((2 ^ j - 1 : Nat) : Int)).toNat = 2 ^ j - 1 := by rw [BitVec.toNat_ofInt]; omega
  have e2 : (BitVec.ofInt 8 n).toNat = n.toNat := by rw [BitVec.toNat_ofInt]; omega
  have hm := Nat.mod_lt n.toNat hq
  have h3 : ((n.toNat % 2 ^ j : Nat) : Int) = n % (2 ^ j : Nat) := by rw [Int.natCast_emod, Int.toNat_of_nonneg h0]
  rw [e, BitVec.toNat_and, e1, e2, Nat.and_two_pow_sub_one_eq_mod, wrapu8 (by omega) (by omega), h3]
theorem dOp (i : Inst) (h : okI i) (hs : i.Seg ≤ 0) (k : Int) (hk : 0 ≤ k ∧ k ≤ 24) : disp_operand i k = some (opI i k) := by
  have hP := dPlace i h hs
  have hpl := pl_len i
  obtain ⟨⟨o0, o1⟩, _, ⟨m0, m1⟩, ⟨s0, s1⟩⟩ := h
  have a7 : IntKind.wrap .i64 (bitsOp .and .u8 i.Op 7) = i.Op % 8 := by rw [show bitsOp .and .u8 i.Op 7 = i.Op % 8 from and_u8 3 (by omega) rfl o0 o1, wrap64 (by omega) (by omega)]
  have a3 : IntKind.wrap .i64 (bitsOp .and .u8 (shrI .u8 i.Op 3) 3) = i.Op / 8 % 4 := by
    rw [show shrI .u8 i.Op 3 = i.Op / 8 from shr_eq (j := 3) (by decide), show bitsOp .and .u8 (i.Op / 8) 3 = i.Op / 8 % 4 from and_u8 2 (by omega) rfl (by omega) (by omega), wrap64 (by omega) (by omega)]
  have oth : ∀ k : Int, disp_other i k = disp_other_j10 i k [] := fun k => by unfold disp_other; rw [if_neg (by simp; omega)]
  have wI : IntKind.wrap .u32 i.Imm = i.Imm := wu32 m0 (by omega)
  have wS : IntKind.wrap .u32 i.Sel = i.Sel := wu32 s0 (by omega)
  have d2 := dig2 (n := i.Imm) m0 (by omega)
  have d4 := dig4 (n := i.Imm) m0 (by omega)
  have dS := dig4 (n := i.Sel) s0 (by omega)
  have jmp : ∀ k : Int, disp_other_j20 i [] k true = some (if i.Imm ≥ 32768 then [45] ++ hx (65536 - i.Imm) 4 else [43] ++ hx i.Imm 4) := by
    intro k
    unfold disp_other_j20
    rw [if_pos rfl]
    by_cases c : i.Imm ≥ 32768
    · rw [if_pos (by simpa using c), if_pos c, neg16 c m1, wu32 (by omega) (by omega), dig4 (by omega) (by omega), Option.bind_some, ct (by simp [hx_len])]; rfl
    · rw [if_neg (by simpa using c), if_neg c, wI, d4, Option.bind_some, ct (by simp [hx_len])]; rfl
  rcases k25 hk with rfl | rfl | rfl | rfl | rfl | rfl | rfl | rfl | rfl | rfl | rfl | rfl | rfl | rfl | rfl | rfl | rfl | rfl | rfl | rfl | rfl | rfl | rfl | rfl | rfl
  all_goals (unfold disp_operand opI; simp only [oth, disp_other_j10, Int.reduceBEq, Int.reduceEq, Bool.false_eq_true, reduceIte, or_self, or_true, true_or, or_false, false_or])
  · simp only [disp_other_j20, Int.reduceBEq, Int.reduceEq, Bool.false_eq_true, reduceIte, or_self, or_true, true_or, or_false, false_or]
    rfl
  · by_cases c : i.Mod = 3
    · rw [if_pos (by simpa using c), if_pos c, dByte]; rfl
    · rw [if_neg (by simpa using c), if_neg c, hP, Option.bind_some, ct (by simp; omega)]; rfl
  · by_cases c : i.Mod = 3
    · rw [if_pos (by simpa using c), if_pos c, dReg]; rfl
    · rw [if_neg (by simpa using c), if_neg c, hP, Option.bind_some, ct (by simp; omega)]; rfl
  · rw [dByte]; rfl
  · rw [dReg]; rfl
  · rw [dSeg]; rfl
  · rw [wI, d2]; rfl
  · rw [wI, d4]; rfl
  · rw [wI, d4]; rfl
  · rw [jmp]; rfl
  · rw [jmp]; rfl
  · simp only [disp_other_j20, Int.reduceBEq, Int.reduceEq, Bool.false_eq_true, reduceIte, or_self, or_true, true_or, or_false, false_or]
    rw [wS, dS, Option.bind_some, ct (by simp [hx_len]), Option.bind_some, wI, d4, Option.bind_some, ct (by simp [hx_len])]; rfl
  · simp only [disp_other_j20, Int.reduceBEq, Int.reduceEq, Bool.false_eq_true, reduceIte, or_self, or_true, true_or, or_false, false_or]
    rw [ct (by simp), Option.bind_some, ct (by simp), Option.bind_some, wI, d4, Option.bind_some, ct (by simp [hx_len]), Option.bind_some, ct (by simp [hx_len])]; rfl
  · simp only [disp_other_j20, Int.reduceBEq, Int.reduceEq, Bool.false_eq_true, reduceIte, or_self, or_true, true_or, or_false, false_or]
    rw [ct (by simp), Option.bind_some, ct (by simp), Option.bind_some, wI, d4, Option.bind_some, ct (by simp [hx_len]), Option.bind_some, ct (by simp [hx_len])]; rfl
  · simp only [disp_other_j20, Int.reduceBEq, Int.reduceEq, Bool.false_eq_true, reduceIte, or_self, or_true, true_or, or_false, false_or]
    rfl
  · simp only [disp_other_j20, Int.reduceBEq, Int.reduceEq, Bool.false_eq_true, reduceIte, or_self, or_true, true_or, or_false, false_or]
    rfl
  · simp only [disp_other_j20, Int.reduceBEq, Int.reduceEq, Bool.false_eq_true, reduceIte, or_self, or_true, true_or, or_false, false_or]
    rfl
  · simp only [disp_other_j20, Int.reduceBEq, Int.reduceEq, Bool.false_eq_true, reduceIte, or_self, or_true, true_or, or_false, false_or]
    rfl
  · simp only [disp_other_j20, Int.reduceBEq, Int.reduceEq, Bool.false_eq_true, reduceIte, or_self, or_true, true_or, or_false, false_or]
    rfl
  · rw [hP, Option.bind_some, ct (by simp; omega)]; rfl
  · rw [hP]; rfl
  · simp only [disp_other_j20, Int.reduceBEq, Int.reduceEq, Bool.false_eq_true, reduceIte, or_self, or_true, true_or, or_false, false_or]
    rw [a7, dByte]; rfl
  · simp only [disp_other_j20, Int.reduceBEq, Int.reduceEq, Bool.false_eq_true, reduceIte, or_self, or_true, true_or, or_false, false_or]
    rw [a7, dReg]; rfl
  · simp only [disp_other_j20, Int.reduceBEq, Int.reduceEq, Bool.false_eq_true, reduceIte, or_self, or_true, true_or, or_false, false_or]
    rw [a3, dSeg]; rfl
  · simp only [disp_other_j20, Int.reduceBEq, Int.reduceEq, Bool.false_eq_true, reduceIte, or_self, or_true, true_or, or_false, false_or]
    rfl
theorem rOp (i : Inst) (h : okI i) (hs : i.Seg ≤ 0) (k : Int) (hk : 1 ≤ k ∧ k ≤ 24) : ∃ t, hansomref17_operand i k = some t ∧ (k ≠ 24 → t = opI i k) := by
  have hP := rPlace i h hs
  have hpl := pl_len i
  obtain ⟨⟨o0, o1⟩, _, ⟨m0, m1⟩, ⟨s0, s1⟩⟩ := h
  have a7 : IntKind.wrap .i64 (Int.tmod i.Op 8) = i.Op % 8 := by rw [Int.tmod_eq_emod_of_nonneg o0, wrap64 (by omega) (by omega)]
  have a3 : IntKind.wrap .i64 (Int.tmod (IntKind.wrap .u8 (Int.tdiv i.Op 8)) 4) = i.Op / 8 % 4 := by
    rw [Int.tdiv_eq_ediv_of_nonneg o0, wrapu8 (n := i.Op / 8) (by omega) (by omega), Int.tmod_eq_emod_of_nonneg (by omega), wrap64 (by omega) (by omega)]
  have wI : IntKind.wrap .u32 i.Imm = i.Imm := wu32 m0 (by omega)
  have wS : IntKind.wrap .u32 i.Sel = i.Sel := wu32 s0 (by omega)
  have d2 := hex2 (n := i.Imm) m0 (by omega)
  have d4 := hex4 (n := i.Imm) m0 (by omega)
  have dS := hex4 (n := i.Sel) s0 (by omega)
  have e0 : hansomref17_operand i k = hansomref17_operand_j10 i k [] i.Imm := by
    unfold hansomref17_operand; rw [if_neg (by simp; omega), wI]
  rw [e0]
  have jmp : ∀ k : Int, hansomref17_operand_j82 i k [] i.Imm k true = some (if i.Imm ≥ 32768 then [45] ++ hx (65536 - i.Imm) 4 else [43] ++ hx i.Imm 4) := by
    intro k
    unfold hansomref17_operand_j82
    rw [if_pos rfl]
    by_cases c : i.Imm ≥ 32768
    · rw [if_pos (by simp; omega), if_pos c, wu32 (n := 65536 - i.Imm) (by omega) (by omega), hex4 (by omega) (by omega), Option.bind_some, ct (by simp [hx_len])]; rfl
    · rw [if_neg (by simp; omega), if_neg c, d4, Option.bind_some, ct (by simp [hx_len])]; rfl
  rcases k25 (show 0 ≤ k ∧ k ≤ 24 by omega) with rfl | rfl | rfl | rfl | rfl | rfl | rfl | rfl | rfl | rfl | rfl | rfl | rfl | rfl | rfl | rfl | rfl | rfl | rfl | rfl | rfl | rfl | rfl | rfl | rfl
  · omega
  · refine ⟨opI i 1, ?_, fun _ => rfl⟩
    unfold hansomref17_operand_j10 opI; simp only [hansomref17_operand_j72, Int.reduceBEq, Int.reduceEq, Bool.false_eq_true, reduceIte, or_self, or_true, true_or, or_false, false_or]
    by_cases c : i.Mod = 3
    · rw [if_pos (by simpa using c), if_pos c, rByte]; rfl
    · rw [if_neg (by simpa using c), if_neg c, hP, Option.bind_some, ct (by simp; omega)]; rfl
  · refine ⟨opI i 2, ?_, fun _ => rfl⟩
    unfold hansomref17_operand_j10 opI; simp only [hansomref17_operand_j72, Int.reduceBEq, Int.reduceEq, Bool.false_eq_true, reduceIte, or_self, or_true, true_or, or_false, false_or]
    by_cases c : i.Mod = 3
    · rw [if_pos (by simpa using c), if_pos c, rReg]; rfl
    · rw [if_neg (by simpa using c), if_neg c, hP, Option.bind_some, ct (by simp; omega)]; rfl
  · refine ⟨opI i 3, ?_, fun _ => rfl⟩
    unfold hansomref17_operand_j10 opI; simp only [hansomref17_operand_j72, Int.reduceBEq, Int.reduceEq, Bool.false_eq_true, reduceIte, or_self, or_true, true_or, or_false, false_or]
    rw [rByte]; rfl
  · refine ⟨opI i 4, ?_, fun _ => rfl⟩
    unfold hansomref17_operand_j10 opI; simp only [hansomref17_operand_j72, Int.reduceBEq, Int.reduceEq, Bool.false_eq_true, reduceIte, or_self, or_true, true_or, or_false, false_or]
    rw [rReg]; rfl
  · refine ⟨opI i 5, ?_, fun _ => rfl⟩
    unfold hansomref17_operand_j10 opI; simp only [hansomref17_operand_j72, Int.reduceBEq, Int.reduceEq, Bool.false_eq_true, reduceIte, or_self, or_true, true_or, or_false, false_or]
    rw [rSeg]; rfl
  · refine ⟨opI i 6, ?_, fun _ => rfl⟩
    unfold hansomref17_operand_j10 opI; simp only [hansomref17_operand_j72, Int.reduceBEq, Int.reduceEq, Bool.false_eq_true, reduceIte, or_self, or_true, true_or, or_false, false_or]
    rw [d2]; rfl
  · refine ⟨opI i 7, ?_, fun _ => rfl⟩
    unfold hansomref17_operand_j10 opI; simp only [hansomref17_operand_j72, Int.reduceBEq, Int.reduceEq, Bool.false_eq_true, reduceIte, or_self, or_true, true_or, or_false, false_or]
    rw [d4]; rfl
  · refine ⟨opI i 8, ?_, fun _ => rfl⟩
    unfold hansomref17_operand_j10 opI; simp only [hansomref17_operand_j72, Int.reduceBEq, Int.reduceEq, Bool.false_eq_true, reduceIte, or_self, or_true, true_or, or_false, false_or]
    rw [d4]; rfl
  · refine ⟨opI i 9, ?_, fun _ => rfl⟩
    unfold hansomref17_operand_j10 opI; simp only [hansomref17_operand_j72, Int.reduceBEq, Int.reduceEq, Bool.false_eq_true, reduceIte, or_self, or_true, true_or, or_false, false_or]
    rw [jmp]
  · refine ⟨opI i 10, ?_, fun _ => rfl⟩
    unfold hansomref17_operand_j10 opI; simp only [hansomref17_operand_j72, Int.reduceBEq, Int.reduceEq, Bool.false_eq_true, reduceIte, or_self, or_true, true_or, or_false, false_or]
    rw [jmp]
  · refine ⟨opI i 11, ?_, fun _ => rfl⟩
    unfold hansomref17_operand_j10 opI; simp only [hansomref17_operand_j72, Int.reduceBEq, Int.reduceEq, Bool.false_eq_true, reduceIte, or_self, or_true, true_or, or_false, false_or]
    simp only [hansomref17_operand_j82, Int.reduceBEq, Int.reduceEq, Bool.false_eq_true, reduceIte, or_self, or_true, true_or, or_false, false_or]
    rw [wS, dS, Option.bind_some, ct (by simp [hx_len]), Option.bind_some, d4, Option.bind_some, ct (by simp [hx_len])]; rfl
  · refine ⟨opI i 12, ?_, fun _ => rfl⟩
    unfold hansomref17_operand_j10 opI; simp only [hansomref17_operand_j72, Int.reduceBEq, Int.reduceEq, Bool.false_eq_true, reduceIte, or_self, or_true, true_or, or_false, false_or]
    simp only [hansomref17_operand_j82, Int.reduceBEq, Int.reduceEq, Bool.false_eq_true, reduceIte, or_self, or_true, true_or, or_false, false_or]
    rw [ct (by simp), Option.bind_some, ct (by simp), Option.bind_some, d4, Option.bind_some, ct (by simp [hx_len]), Option.bind_some, ct (by simp [hx_len])]; rfl
  · refine ⟨opI i 13, ?_, fun _ => rfl⟩
    unfold hansomref17_operand_j10 opI; simp only [hansomref17_operand_j72, Int.reduceBEq, Int.reduceEq, Bool.false_eq_true, reduceIte, or_self, or_true, true_or, or_false, false_or]
    simp only [hansomref17_operand_j82, Int.reduceBEq, Int.reduceEq, Bool.false_eq_true, reduceIte, or_self, or_true, true_or, or_false, false_or]
    rw [ct (by simp), Option.bind_some, ct (by simp), Option.bind_some, d4, Option.bind_some, ct (by simp [hx_len]), Option.bind_some, ct (by simp [hx_len])]; rfl
  · refine ⟨opI i 14, ?_, fun _ => rfl⟩
    unfold hansomref17_operand_j10 opI; simp only [hansomref17_operand_j72, Int.reduceBEq, Int.reduceEq, Bool.false_eq_true, reduceIte, or_self, or_true, true_or, or_false, false_or]
    simp only [hansomref17_operand_j82, Int.reduceBEq, Int.reduceEq, Bool.false_eq_true, reduceIte, or_self, or_true, true_or, or_false, false_or]
    rw [rof]; rfl
  · refine ⟨opI i 15, ?_, fun _ => rfl⟩
    unfold hansomref17_operand_j10 opI; simp only [hansomref17_operand_j72, Int.reduceBEq, Int.reduceEq, Bool.false_eq_true, reduceIte, or_self, or_true, true_or, or_false, false_or]
    simp only [hansomref17_operand_j82, Int.reduceBEq, Int.reduceEq, Bool.false_eq_true, reduceIte, or_self, or_true, true_or, or_false, false_or]
    rw [rof]; rfl
  · refine ⟨opI i 16, ?_, fun _ => rfl⟩
    unfold hansomref17_operand_j10 opI; simp only [hansomref17_operand_j72, Int.reduceBEq, Int.reduceEq, Bool.false_eq_true, reduceIte, or_self, or_true, true_or, or_false, false_or]
    simp only [hansomref17_operand_j82, Int.reduceBEq, Int.reduceEq, Bool.false_eq_true, reduceIte, or_self, or_true, true_or, or_false, false_or]
    rw [rof]; rfl
  · refine ⟨opI i 17, ?_, fun _ => rfl⟩
    unfold hansomref17_operand_j10 opI; simp only [hansomref17_operand_j72, Int.reduceBEq, Int.reduceEq, Bool.false_eq_true, reduceIte, or_self, or_true, true_or, or_false, false_or]
    simp only [hansomref17_operand_j82, Int.reduceBEq, Int.reduceEq, Bool.false_eq_true, reduceIte, or_self, or_true, true_or, or_false, false_or]
    rw [rof]; rfl
  · refine ⟨opI i 18, ?_, fun _ => rfl⟩
    unfold hansomref17_operand_j10 opI; simp only [hansomref17_operand_j72, Int.reduceBEq, Int.reduceEq, Bool.false_eq_true, reduceIte, or_self, or_true, true_or, or_false, false_or]
    simp only [hansomref17_operand_j82, Int.reduceBEq, Int.reduceEq, Bool.false_eq_true, reduceIte, or_self, or_true, true_or, or_false, false_or]
    rw [rof]; rfl
  · refine ⟨opI i 19, ?_, fun _ => rfl⟩
    unfold hansomref17_operand_j10 opI; simp only [hansomref17_operand_j72, Int.reduceBEq, Int.reduceEq, Bool.false_eq_true, reduceIte, or_self, or_true, true_or, or_false, false_or]
    simp only [hansomref17_operand_j82, Int.reduceBEq, Int.reduceEq, Bool.false_eq_true, reduceIte, or_self, or_true, true_or, or_false, false_or]
    rw [hP, Option.bind_some, ct (by simp; omega)]; rfl
  · refine ⟨opI i 20, ?_, fun _ => rfl⟩
    unfold hansomref17_operand_j10 opI; simp only [hansomref17_operand_j72, Int.reduceBEq, Int.reduceEq, Bool.false_eq_true, reduceIte, or_self, or_true, true_or, or_false, false_or]
    simp only [hansomref17_operand_j82, Int.reduceBEq, Int.reduceEq, Bool.false_eq_true, reduceIte, or_self, or_true, true_or, or_false, false_or]
    rw [hP]; rfl
  · refine ⟨opI i 21, ?_, fun _ => rfl⟩
    unfold hansomref17_operand_j10 opI; simp only [hansomref17_operand_j72, Int.reduceBEq, Int.reduceEq, Bool.false_eq_true, reduceIte, or_self, or_true, true_or, or_false, false_or]
    simp only [hansomref17_operand_j82, Int.reduceBEq, Int.reduceEq, Bool.false_eq_true, reduceIte, or_self, or_true, true_or, or_false, false_or]
    rw [a7, rByte]; rfl
  · refine ⟨opI i 22, ?_, fun _ => rfl⟩
    unfold hansomref17_operand_j10 opI; simp only [hansomref17_operand_j72, Int.reduceBEq, Int.reduceEq, Bool.false_eq_true, reduceIte, or_self, or_true, true_or, or_false, false_or]
    simp only [hansomref17_operand_j82, Int.reduceBEq, Int.reduceEq, Bool.false_eq_true, reduceIte, or_self, or_true, true_or, or_false, false_or]
    rw [a7, rReg]; rfl
  · refine ⟨opI i 23, ?_, fun _ => rfl⟩
    unfold hansomref17_operand_j10 opI; simp only [hansomref17_operand_j72, Int.reduceBEq, Int.reduceEq, Bool.false_eq_true, reduceIte, or_self, or_true, true_or, or_false, false_or]
    simp only [hansomref17_operand_j82, Int.reduceBEq, Int.reduceEq, Bool.false_eq_true, reduceIte, or_self, or_true, true_or, or_false, false_or]
    rw [a3, rSeg]; rfl
  · refine ⟨[63], ?_, fun h => absurd rfl h⟩
    unfold hansomref17_operand_j10; simp only [hansomref17_operand_j72, hansomref17_operand_j82, Int.reduceBEq, Int.reduceEq, Bool.false_eq_true, reduceIte, or_self, or_true, true_or, or_false, false_or]
    rw [rof]; rfl
theorem opI_len (i : Inst) (k : Int) (hk : 0 ≤ k ∧ k ≤ 24) : (opI i k).length ≤ 40 ∧ (k ≠ 0 → opI i k ≠ []) ∧ (k = 0 → opI i k = []) := by
  have h1 := pl_len i; have b1 := lb i.RM; have b2 := lr i.RM; have b3 := lb i.Reg; have b4 := lr i.Reg; have b5 := ls i.Reg
  have b6 := lb (i.Op % 8); have b7 := lr (i.Op % 8); have b8 := ls (i.Op / 8 % 4)
  have ne : ∀ l : List UInt8, 1 ≤ l.length → l ≠ [] := fun l h e => by subst e; simp at h
  have key : k ≠ 0 → 1 ≤ (opI i k).length ∧ (opI i k).length ≤ 40 := by
    intro h0
    rcases k25 hk with rfl | rfl | rfl | rfl | rfl | rfl | rfl | rfl | rfl | rfl | rfl | rfl | rfl | rfl | rfl | rfl | rfl | rfl | rfl | rfl | rfl | rfl | rfl | rfl | rfl
    · exact absurd rfl h0
    all_goals simp only [opI, Int.reduceEq, reduceIte, or_self, or_true, true_or, or_false, false_or]
    all_goals first
      | omega
      | (simp only [List.length_append, List.length_cons, List.length_nil, hx_len]; omega)
      | (split <;> (try simp only [List.length_append, List.length_cons, List.length_nil, hx_len]) <;> omega)
  by_cases h0 : k = 0
  · subst h0
    exact ⟨by simp [opI], fun h => absurd rfl h, fun _ => rfl⟩
  · exact ⟨(key h0).2, fun h => ne _ (key h).1, fun h => absurd h h0⟩
def tbl24 (x : Nat × Nat × Nat) : Bool := decide (x.1 ≤ 95) && (decide (x.2.1 ≤ 24) && decide (x.2.2 ≤ 24))
theorem tbl24_ok : LIT.all (fun l => l.all tbl24) = true := by decide +kernel
theorem look24 (op k : Nat) : tbl24 (look op k) = true := by
  have h := tbl24_ok
  rw [List.all_eq_true] at h
  unfold look
  cases hl : LIT[op]? with
  | none => rfl
  | some l =>
    have h1 := h l (List.mem_of_getElem? hl)
    rw [List.all_eq_true] at h1
    have g : ∀ j, tbl24 (l.getD j (0, 0, 0)) = true := fun j => by
      rw [List.getD_eq_getElem?_getD]
      cases hj : l[j]? with
      | none => rfl
      | some x => exact h1 x (List.mem_of_getElem? hj)
    simp only
    split
    · exact g 0
    · exact g k
theorem row24 (op reg : Int) : (0 ≤ (rowI op reg).1.Name ∧ (rowI op reg).1.Name ≤ 95) ∧ (0 ≤ (rowI op reg).1.A ∧ (rowI op reg).1.A ≤ 24) ∧ (0 ≤ (rowI op reg).1.B ∧ (rowI op reg).1.B ≤ 24) := by
  unfold rowI
  split
  · simp
  · have h := look24 op.toNat (reg % 8).toNat
    simp only [tbl24, Bool.and_eq_true, decide_eq_true_eq] at h
    unfold rw'
    split
    · simp
    · simp only; omega
theorem WW10 : (WW.all fun x => decide (x.length ≤ 10)) = true := by kernel_rfl
theorem nameW_len (n : Int) : (nameW n).length ≤ 10 := by
  unfold nameW
  split
  · simp
  · cases h : WW[(n - 1).toNat]? with
    | none => simp
    | some x =>
      have := List.all_eq_true.1 WW10 x (List.mem_of_getElem? h)
      simpa using this
def repT (n : Int) : List UInt8 := if n = 1 then [82, 69, 80, 78, 69, 32] else if n = 2 then [82, 69, 80, 32] else []
def part (m : UInt8) (i : Inst) (k : Int) : List UInt8 := if k = 0 then [] else [m] ++ opI i k
/-- an instruction's text -/
def textI (i : Inst) : List UInt8 := (if i.Lock then [76, 79, 67, 75, 32] else []) ++ (repT i.Rep ++ nameW (rowI i.Op i.Reg).1.Name) ++ part 32 i (rowI i.Op i.Reg).1.A ++ part 44 i (rowI i.Op i.Reg).1.B
theorem part_len (m : UInt8) (i : Inst) (k : Int) (hk : 0 ≤ k ∧ k ≤ 24) : (part m i k).length ≤ 41 := by
  have := (opI_len i k hk).1
  unfold part
  split <;> simp <;> omega
theorem d28 (i : Inst) (h : okI i) (hs : i.Seg ≤ 0) (r : Row) (hB : 0 ≤ r.B ∧ r.B ≤ 24) (s : List UInt8) (hl : s.length ≤ 100) : disp_Text_j28 i r s = some (s ++ part 44 i r.B) := by
  unfold disp_Text_j28 part
  obtain ⟨a, b, c⟩ := opI_len i r.B hB
  rw [dOp i h hs _ hB, Option.bind_some]
  by_cases e : r.B = 0
  · rw [if_pos e, c e, if_neg (by simp), List.append_nil]
  · rw [if_neg e, if_pos (by simpa using b e), ct (by simp; omega), Option.bind_some, ct (by simp; omega)]; rfl
theorem d20 (i : Inst) (h : okI i) (hs : i.Seg ≤ 0) (r : Row) (hA : 0 ≤ r.A ∧ r.A ≤ 24) (hB : 0 ≤ r.B ∧ r.B ≤ 24) (s : List UInt8) (hl : s.length ≤ 50) : disp_Text_j20 i r s = some (s ++ part 32 i r.A ++ part 44 i r.B) := by
  unfold disp_Text_j20
  obtain ⟨a, b, c⟩ := opI_len i r.A hA
  have hp : part 32 i r.A = if r.A = 0 then [] else [32] ++ opI i r.A := rfl
  rw [dOp i h hs _ hA, Option.bind_some, hp]
  by_cases e : r.A = 0
  · rw [if_pos e, c e, if_neg (by simp), List.append_nil, d28 i h hs r hB s (by omega)]
  · rw [if_neg e, if_pos (by simpa using b e), ct (by simp; omega), Option.bind_some, ct (by simp; omega), Option.bind_some, d28 i h hs r hB _ (by simp; omega)]
theorem dText (i : Inst) (h : okI i) (hm : mayB i = true) (hs : i.Seg ≤ 0) : disp_Text i = some (textI i) := by
  obtain ⟨f1, f2, f3, _⟩ := mayB_facts i hm
  obtain ⟨g1, g2, g3⟩ := row24 i.Op i.Reg
  have hn := nameW_len (rowI i.Op i.Reg).1.Name
  unfold disp_Text
  rw [instMay i h, Option.bind_some, hm, if_neg (by simp), instRow i h.1, Option.bind_some]
  have hr : idx ({ a0 := ([] : List UInt8), a1 := ([82, 69, 80, 78, 69, 32] : List UInt8), a2 := ([82, 69, 80, 32] : List UInt8) } : (A3 (List UInt8))).l i.Rep = some (repT i.Rep) := by
    have : i.Rep = 0 ∨ i.Rep = 1 ∨ i.Rep = 2 := by omega
    rcases this with e | e | e <;> rw [e] <;> rfl
  have hrl : (repT i.Rep).length ≤ 6 := by
    unfold repT
    repeat' split
    all_goals simp
  rw [hr, Option.bind_some, dname _ (wfI_i64.2 ⟨by omega, by omega⟩), Option.bind_some, ct (by omega), Option.bind_some]
  unfold textI
  cases hL : i.Lock with
  | true =>
    rw [if_pos rfl, ct (by simp; omega), Option.bind_some, d20 _ (show okI { i with Lock := true } from h) hs _ g2 g3 _ (by simp; omega)]
    rfl
  | false =>
    rw [if_neg (by simp), d20 _ (show okI { i with Lock := false } from h) hs _ g2 g3 _ (by simp; omega)]
    rfl
theorem r30 (i : Inst) (h : okI i) (hs : i.Seg ≤ 0) (a b : Int) (s : List UInt8) (hl : s.length ≤ 100) (k n : Int) (hn : n = 0 ∨ n = 1) (hk : 0 ≤ k ∧ k ≤ 24) (hi : idx ([a, b] : List Int) n = some k) :
    hansomref17_Text_l30 i s [a, b] 2 n = some (.next (s ++ part (if n = 0 then 32 else 44) i k, n + 1)) := by
  unfold hansomref17_Text_l30
  rw [if_pos (by simp; omega), hi, Option.bind_some, wrap64 (n := n + 1) (by omega) (by omega)]
  unfold part
  by_cases e : k = 0
  · rw [if_pos (by simpa using e), if_pos e, List.append_nil]
  · obtain ⟨t, h1, h2⟩ := rOp i h hs k (by omega)
    obtain ⟨l1, _, _⟩ := opI_len i k hk
    rw [if_neg (by simpa using e), if_neg e, h1, Option.bind_some]
    by_cases c : k = 24
    · rw [if_pos (by simpa using c)]
      have : opI i k = [51] := by rw [c]; rfl
      rw [this]
      rcases hn with rfl | rfl
      · rw [if_pos (by decide), ct (by simp), Option.bind_some, ct (by simp; omega)]; rfl
      · rw [if_neg (by decide), ct (by simp), Option.bind_some, ct (by simp; omega)]; rfl
    · rw [if_neg (by simpa using c), h2 c]
      rcases hn with rfl | rfl
      · rw [if_pos (by decide), ct (by simp; omega), Option.bind_some, ct (by simp; omega)]; rfl
      · rw [if_neg (by decide), ct (by simp; omega), Option.bind_some, ct (by simp; omega)]; rfl
theorem r24 (i : Inst) (h : okI i) (hs : i.Seg ≤ 0) (r : Row) (hN : 0 ≤ r.Name ∧ r.Name ≤ 95) (hA : 0 ≤ r.A ∧ r.A ≤ 24) (hB : 0 ≤ r.B ∧ r.B ≤ 24) (s : List UInt8) (hl : s.length ≤ 20) : hansomref17_Text_j24 i r s = some (s ++ nameW r.Name ++ part 32 i r.A ++ part 44 i r.B) := by
  have hn := nameW_len r.Name
  have hp := part_len 32 i r.A hA
  unfold hansomref17_Text_j24
  rw [rname, Option.bind_some, ct (by omega), Option.bind_some, show ((([r.A, r.B] : List Int)).length : Int) = 2 from rfl]
  rw [loopO_eq]
  dsimp only
  rw [r30 i h hs r.A r.B _ (by simp; omega) r.A 0 (.inl rfl) hA rfl]
  simp only [Option.bind_some]
  rw [loopO_eq]
  dsimp only
  rw [if_pos trivial, show (0 + 1 : Int) = 1 from rfl, r30 i h hs r.A r.B _ (by simp; omega) r.B 1 (.inr rfl) hB rfl]
  simp only [Option.bind_some]
  rw [loopO_eq]
  unfold hansomref17_Text_l30
  rw [if_neg (by simp)]
  rfl
theorem r12 (i : Inst) (h : okI i) (hs : i.Seg ≤ 0) (hr : 0 ≤ i.Rep ∧ i.Rep ≤ 2) (r : Row) (hN : 0 ≤ r.Name ∧ r.Name ≤ 95) (hA : 0 ≤ r.A ∧ r.A ≤ 24) (hB : 0 ≤ r.B ∧ r.B ≤ 24) (s : List UInt8) (hl : s.length ≤ 10) : hansomref17_Text_j12 i r s = some (s ++ (repT i.Rep ++ nameW r.Name) ++ part 32 i r.A ++ part 44 i r.B) := by
  unfold hansomref17_Text_j12 hansomref17_Text_j18 repT
  have : i.Rep = 0 ∨ i.Rep = 1 ∨ i.Rep = 2 := by omega
  rcases this with e | e | e
  · rw [e, if_neg (by decide), if_neg (by decide), r24 i h hs r hN hA hB s (by omega)]; simp
  · rw [e, if_pos (by decide), ct (by simp; omega), Option.bind_some, if_neg (by decide), r24 i h hs r hN hA hB _ (by simp; omega)]; simp
  · rw [e, if_neg (by decide), if_pos (by decide), ct (by simp; omega), Option.bind_some, r24 i h hs r hN hA hB _ (by simp; omega)]; simp
theorem rText (i : Inst) (h : okI i) (hm : mayB i = true) (hs : i.Seg ≤ 0) : hansomref17_Text i = some (textI i) := by
  obtain ⟨f1, f2, f3, _⟩ := mayB_facts i hm
  obtain ⟨g1, g2, g3⟩ := row24 i.Op i.Reg
  unfold hansomref17_Text
  rw [refRow i h.1, Option.bind_some]
  unfold textI
  cases hL : i.Lock with
  | true => rw [if_pos rfl, r12 _ (show okI { i with Lock := true } from h) hs f3 _ g1 g2 g3 _ (by simp)]; rfl
  | false => rw [if_neg (by simp), r12 _ (show okI { i with Lock := false } from h) hs f3 _ g1 g2 g3 _ (by simp)]; rfl
theorem awk : hansomlaw17_awake = some true := by
  unfold hansomlaw17_awake
  have h1 : disp_Text ({ Lock := false, Rep := 0, Seg := 0, Op := 144, Mod := 0, Reg := 0, RM := 0, Disp := 0, Imm := 0, Sel := 0 } : Inst) = some [88, 67, 72, 71, 32, 65, 88, 44, 65, 88] := by
    rw [dText _ i144.1 i144.2 (by decide)]
    exact congrArg some (by kernel_rfl)
  have h2 : fiN (· == ([83, 84, 68] : List UInt8)) WW 1 = 95 := by kernel_rfl
  have h3 : nameW 32 = [74, 71] := by kernel_rfl
  rw [h1, Option.bind_some, dfind, h2, Option.bind_some, dname 32 (wfI_i64.2 ⟨by omega, by omega⟩), h3]
  rfl
theorem dispOwn_true (x y : Inst) (w0 : x.wf) (w1 : y.wf) : hansomlaw17_DispOwn x y = some true := by
  unfold hansomlaw17_DispOwn
  obtain ⟨i, h1, h2, h3⟩ := near_spec x (okI_wf w0)
  obtain ⟨k, h4, h5, h6⟩ := near_spec y (okI_wf w1)
  have hk : okI { k with Op := i.Op } := ⟨h2.1, h5.2⟩
  obtain ⟨m, h7, h8, h9⟩ := near_spec _ hk
  rw [h1, Option.bind_some, h4, Option.bind_some, h7, Option.bind_some, awk]
  simp only [Option.bind_some, if_true]
  split
  · rfl
  · split
    · rfl
    · rename_i c1
      split
      · rfl
      · rename_i c2
        have s1 : i.Seg ≤ 0 := by simpa using c1
        have s2 : m.Seg ≤ 0 := by simpa using c2
        rw [dText i h2 h3 s1, dText m h8 h9 s2, rText i h2 h3 s1, rText m h8 h9 s2]
        simp
end Go.Es.Dso
