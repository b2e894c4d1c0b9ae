/- The law IsaRows in plain Lean. No condition. -/
import Derived.Test.YtncfbghdnnhfiaaIsrH
set_option linter.unusedVariables false
set_option linter.unusedSimpArgs false
set_option maxHeartbeats 4000000
set_option maxRecDepth 100000
namespace Go.Es.Isr
theorem awake_true : hansomlaw04_awake = some true := by
  unfold hansomlaw04_awake
  have h1 : isa_Of 144 0 = some (rw' (look 144 0)) := of_spec 144 (by omega) 0
  have h2 : isa_Of 15 0 = some (rw' (look 15 0)) := of_spec 15 (by omega) 0
  rw [h1, h2]
  decide +kernel
def grp (op : Nat) : Bool := (match LIT[op]? with | some l => l.length == 8 | none => false) && op != 140 && op != 142
def two (op : Nat) : Bool := (List.range 8).any fun n => (rw' (look op n)).2 && (rw' (look op n)).1.Mod
theorem isaGrouped : ∀ op : Fin 256, isa_Grouped (op.val : Int) = some (grp op.val) := by decide +kernel
theorem refGrouped (op : Nat) (h : op < 256) : hansomref04_Grouped (op : Int) = some (grp op) := by
  have w0 : IntKind.wrap .i64 (op : Int) = (op : Int) := wrap64 (by omega) (by omega)
  have hw := word_spec TBL op tbl_len (by omega)
  have hla := lit_at op h
  unfold hansomref04_Grouped grp
  show ((hansomref04_word TBL (IntKind.wrap .i64 (op : Int))).bind _) = _
  rw [w0, hw, Option.bind_some, hla]
  generalize wordU TBL op = w at *
  cases w with
  | nil => simp [rowsN, nat]
  | cons c r =>
    have hlen : (((c :: r).length : Nat) : Int) > 0 := by simp
    simp only [hlen, decide_true, if_true]
    rw [show idx (c :: r) 0 = some c from rfl, Option.bind_some]
    by_cases hc : c.toNat = 47
    · have hc' : (((c.toNat : Nat) : Int) == 47) = true := by simp [hc]
      have hn : (nat (c :: r)).head? = some 47 := by rw [nat_head]; simp [hc]
      simp only [hc', if_true, rowsN, hn]
      by_cases e1 : op = 140
      · subst e1; simp
      · have : ((op : Int) != 140) = true := by simp; omega
        have e1' : (op != 140) = true := by simp [e1]
        simp only [this, if_true, e1', Bool.and_true, List.length_map, List.length_range, beq_self_eq_true, Bool.true_and]
        congr 1
        rw [Bool.eq_iff_iff]; simp; omega
    · have hc' : (((c.toNat : Nat) : Int) == 47) = false := by simp; omega
      have hn : ¬ (nat (c :: r)).head? = some 47 := by rw [nat_head]; simp [hc]
      simp [hc', rowsN, hn]
theorem isaTwo (op : Nat) (h : op < 256) : isa_Two (op : Int) = some (two op) := by
  have key : ∀ op : Fin 256, iterO (fun x : Int => if decide (x < 8) then (some (rw' (look op.val (x % 8).toNat)) : Option (Row × Bool)).bind fun r => if r.2 then (if r.1.Mod then some (Lp.out (.inl true)) else some (Lp.next (IntKind.wrap .i64 (x + 1)))) else some (Lp.next (IntKind.wrap .i64 (x + 1))) else some (Lp.out (.inr ()))) 9 0 = some (if two op.val then (.inl true : Bool ⊕ Unit) else .inr ()) := by decide +kernel
  have e : (fun x : Int => isa_Two_l6 (op : Int) x) = fun x : Int => if decide (x < 8) then (some (rw' (look op (x % 8).toNat)) : Option (Row × Bool)).bind fun r => if r.2 then (if r.1.Mod then some (Lp.out (.inl true)) else some (Lp.next (IntKind.wrap .i64 (x + 1)))) else some (Lp.next (IntKind.wrap .i64 (x + 1))) else some (Lp.out (.inr ())) := by
    funext x
    unfold isa_Two_l6
    rw [of_spec op h]
  unfold isa_Two
  rw [e, loopO_iter (key ⟨op, h⟩), Option.bind_some]
  simp only
  cases two op <;> rfl
theorem refTwo (op : Nat) (h : op < 256) (r x : Row) (a b : Bool) : loopO (fun y : Bool × Int => hansomlaw04_IsaRows_l12 r x (op : Int) a b y.1 y.2) (false, 0) = some (two op) := by
  have key : ∀ op : Fin 256, iterO (fun y : Bool × Int => if decide (y.2 < 8) then (some (rw' (look op.val (y.2 % 8).toNat)) : Option (Row × Bool)).bind fun r => if y.1 then some (Lp.next (true, IntKind.wrap .i64 (y.2 + 1))) else (if r.2 then some (Lp.next (r.1.Mod, IntKind.wrap .i64 (y.2 + 1))) else some (Lp.next (false, IntKind.wrap .i64 (y.2 + 1)))) else some (Lp.out y.1)) 9 (false, 0) = some (two op.val) := by decide +kernel
  have e : (fun y : Bool × Int => hansomlaw04_IsaRows_l12 r x (op : Int) a b y.1 y.2) = fun y : Bool × Int => if decide (y.2 < 8) then (some (rw' (look op (y.2 % 8).toNat)) : Option (Row × Bool)).bind fun r => if y.1 then some (Lp.next (true, IntKind.wrap .i64 (y.2 + 1))) else (if r.2 then some (Lp.next (r.1.Mod, IntKind.wrap .i64 (y.2 + 1))) else some (Lp.next (false, IntKind.wrap .i64 (y.2 + 1)))) else some (Lp.out y.1) := by
    funext y
    unfold hansomlaw04_IsaRows_l12
    rw [row_spec op h]
  rw [e]
  exact loopO_iter (key ⟨op, h⟩)
theorem isaRows_true (op reg : Int) (wo : wfI .u8 op) (wr : wfI .i64 reg) : hansomlaw04_IsaRows op reg = some true := by
  obtain ⟨o0, o1⟩ := wfI_u8.1 wo
  obtain ⟨n, rfl⟩ : ∃ n : Nat, op = n := ⟨op.toNat, by omega⟩
  have hn : n < 256 := by omega
  unfold hansomlaw04_IsaRows
  rw [of_spec n hn, Option.bind_some, row_spec n hn, Option.bind_some, refTwo n hn, Option.bind_some, awake_true, Option.bind_some]
  simp only [if_true, beq_self_eq_true, Bool.true_and]
  have hg := isaGrouped ⟨n, hn⟩
  simp only at hg
  rw [hg, Option.bind_some, refGrouped n hn, Option.bind_some]
  simp only [beq_self_eq_true, if_true]
  rw [isaTwo n hn, Option.bind_some]
  simp
end Go.Es.Isr
