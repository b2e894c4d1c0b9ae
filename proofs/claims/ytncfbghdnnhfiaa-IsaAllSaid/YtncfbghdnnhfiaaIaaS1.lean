/- The interpreter answers as plain Lean does: part 2. No condition. -/
import Derived.Test.YtncfbghdnnhfiaaIaaF
import Derived.Test.YtncfbghdnnhfiaaIaaP
import Derived.KernelRfl
import Derived.Test.YtncfbghdnnhfiaaIaaS0
set_option linter.unusedVariables false
set_option linter.unusedSimpArgs false
set_option maxRecDepth 100000
set_option maxHeartbeats 4000000
namespace Go.Es.Iaa
def hansomlaw04_IsaAll_h22 (seen4 : (A96 Bool)) (from0 : Int) (n3 : Int) (i5 : Int) (op6 : Int) (k7 : Int) : St := ⟨tab [(0, .d (.int .u8 from0)), (3, .d (.int .i64 n3)), (4, .ptr [4] 0 0), (5, .d (.int .i64 i5)), (6, .d (.int .u8 op6)), (7, .d (.int .i64 k7))], tabB [([4], some (.cells [.d (.bool seen4.a0), .d (.bool seen4.a1), .d (.bool seen4.a2), .d (.bool seen4.a3), .d (.bool seen4.a4), .d (.bool seen4.a5), .d (.bool seen4.a6), .d (.bool seen4.a7), .d (.bool seen4.a8), .d (.bool seen4.a9), .d (.bool seen4.a10), .d (.bool seen4.a11), .d (.bool seen4.a12), .d (.bool seen4.a13), .d (.bool seen4.a14), .d (.bool seen4.a15), .d (.bool seen4.a16), .d (.bool seen4.a17), .d (.bool seen4.a18), .d (.bool seen4.a19), .d (.bool seen4.a20), .d (.bool seen4.a21), .d (.bool seen4.a22), .d (.bool seen4.a23), .d (.bool seen4.a24), .d (.bool seen4.a25), .d (.bool seen4.a26), .d (.bool seen4.a27), .d (.bool seen4.a28), .d (.bool seen4.a29), .d (.bool seen4.a30), .d (.bool seen4.a31), .d (.bool seen4.a32), .d (.bool seen4.a33), .d (.bool seen4.a34), .d (.bool seen4.a35), .d (.bool seen4.a36), .d (.bool seen4.a37), .d (.bool seen4.a38), .d (.bool seen4.a39), .d (.bool seen4.a40), .d (.bool seen4.a41), .d (.bool seen4.a42), .d (.bool seen4.a43), .d (.bool seen4.a44), .d (.bool seen4.a45), .d (.bool seen4.a46), .d (.bool seen4.a47), .d (.bool seen4.a48), .d (.bool seen4.a49), .d (.bool seen4.a50), .d (.bool seen4.a51), .d (.bool seen4.a52), .d (.bool seen4.a53), .d (.bool seen4.a54), .d (.bool seen4.a55), .d (.bool seen4.a56), .d (.bool seen4.a57), .d (.bool seen4.a58), .d (.bool seen4.a59), .d (.bool seen4.a60), .d (.bool seen4.a61), .d (.bool seen4.a62), .d (.bool seen4.a63), .d (.bool seen4.a64), .d (.bool seen4.a65), .d (.bool seen4.a66), .d (.bool seen4.a67), .d (.bool seen4.a68), .d (.bool seen4.a69), .d (.bool seen4.a70), .d (.bool seen4.a71), .d (.bool seen4.a72), .d (.bool seen4.a73), .d (.bool seen4.a74), .d (.bool seen4.a75), .d (.bool seen4.a76), .d (.bool seen4.a77), .d (.bool seen4.a78), .d (.bool seen4.a79), .d (.bool seen4.a80), .d (.bool seen4.a81), .d (.bool seen4.a82), .d (.bool seen4.a83), .d (.bool seen4.a84), .d (.bool seen4.a85), .d (.bool seen4.a86), .d (.bool seen4.a87), .d (.bool seen4.a88), .d (.bool seen4.a89), .d (.bool seen4.a90), .d (.bool seen4.a91), .d (.bool seen4.a92), .d (.bool seen4.a93), .d (.bool seen4.a94), .d (.bool seen4.a95)] 0))]⟩
def hansomlaw04_IsaAll_h35 (seen4 : (A96 Bool)) (r8 : Row) (from0 : Int) (n3 : Int) (i5 : Int) (op6 : Int) (k7 : Int) (t38 : Bool) : St := ⟨tab [(0, .d (.int .u8 from0)), (3, .d (.int .i64 n3)), (4, .ptr [4] 0 0), (5, .d (.int .i64 i5)), (6, .d (.int .u8 op6)), (7, .d (.int .i64 k7)), (8, .ptr [8] 0 0), (38, .d (.bool t38))], tabB [([4], some (.cells [.d (.bool seen4.a0), .d (.bool seen4.a1), .d (.bool seen4.a2), .d (.bool seen4.a3), .d (.bool seen4.a4), .d (.bool seen4.a5), .d (.bool seen4.a6), .d (.bool seen4.a7), .d (.bool seen4.a8), .d (.bool seen4.a9), .d (.bool seen4.a10), .d (.bool seen4.a11), .d (.bool seen4.a12), .d (.bool seen4.a13), .d (.bool seen4.a14), .d (.bool seen4.a15), .d (.bool seen4.a16), .d (.bool seen4.a17), .d (.bool seen4.a18), .d (.bool seen4.a19), .d (.bool seen4.a20), .d (.bool seen4.a21), .d (.bool seen4.a22), .d (.bool seen4.a23), .d (.bool seen4.a24), .d (.bool seen4.a25), .d (.bool seen4.a26), .d (.bool seen4.a27), .d (.bool seen4.a28), .d (.bool seen4.a29), .d (.bool seen4.a30), .d (.bool seen4.a31), .d (.bool seen4.a32), .d (.bool seen4.a33), .d (.bool seen4.a34), .d (.bool seen4.a35), .d (.bool seen4.a36), .d (.bool seen4.a37), .d (.bool seen4.a38), .d (.bool seen4.a39), .d (.bool seen4.a40), .d (.bool seen4.a41), .d (.bool seen4.a42), .d (.bool seen4.a43), .d (.bool seen4.a44), .d (.bool seen4.a45), .d (.bool seen4.a46), .d (.bool seen4.a47), .d (.bool seen4.a48), .d (.bool seen4.a49), .d (.bool seen4.a50), .d (.bool seen4.a51), .d (.bool seen4.a52), .d (.bool seen4.a53), .d (.bool seen4.a54), .d (.bool seen4.a55), .d (.bool seen4.a56), .d (.bool seen4.a57), .d (.bool seen4.a58), .d (.bool seen4.a59), .d (.bool seen4.a60), .d (.bool seen4.a61), .d (.bool seen4.a62), .d (.bool seen4.a63), .d (.bool seen4.a64), .d (.bool seen4.a65), .d (.bool seen4.a66), .d (.bool seen4.a67), .d (.bool seen4.a68), .d (.bool seen4.a69), .d (.bool seen4.a70), .d (.bool seen4.a71), .d (.bool seen4.a72), .d (.bool seen4.a73), .d (.bool seen4.a74), .d (.bool seen4.a75), .d (.bool seen4.a76), .d (.bool seen4.a77), .d (.bool seen4.a78), .d (.bool seen4.a79), .d (.bool seen4.a80), .d (.bool seen4.a81), .d (.bool seen4.a82), .d (.bool seen4.a83), .d (.bool seen4.a84), .d (.bool seen4.a85), .d (.bool seen4.a86), .d (.bool seen4.a87), .d (.bool seen4.a88), .d (.bool seen4.a89), .d (.bool seen4.a90), .d (.bool seen4.a91), .d (.bool seen4.a92), .d (.bool seen4.a93), .d (.bool seen4.a94), .d (.bool seen4.a95)] 0)), ([8], some (.cells [.d (.int .i64 r8.Name), .d (.int .i64 r8.A), .d (.int .i64 r8.B), .d (.bool r8.Mod)] 0))]⟩
def hansomlaw04_IsaAll_h49 (seen4 : (A96 Bool)) (from0 : Int) (n3 : Int) (i5 : Int) : St := ⟨tab [(0, .d (.int .u8 from0)), (3, .d (.int .i64 n3)), (4, .ptr [4] 0 0), (5, .d (.int .i64 i5))], tabB [([4], some (.cells [.d (.bool seen4.a0), .d (.bool seen4.a1), .d (.bool seen4.a2), .d (.bool seen4.a3), .d (.bool seen4.a4), .d (.bool seen4.a5), .d (.bool seen4.a6), .d (.bool seen4.a7), .d (.bool seen4.a8), .d (.bool seen4.a9), .d (.bool seen4.a10), .d (.bool seen4.a11), .d (.bool seen4.a12), .d (.bool seen4.a13), .d (.bool seen4.a14), .d (.bool seen4.a15), .d (.bool seen4.a16), .d (.bool seen4.a17), .d (.bool seen4.a18), .d (.bool seen4.a19), .d (.bool seen4.a20), .d (.bool seen4.a21), .d (.bool seen4.a22), .d (.bool seen4.a23), .d (.bool seen4.a24), .d (.bool seen4.a25), .d (.bool seen4.a26), .d (.bool seen4.a27), .d (.bool seen4.a28), .d (.bool seen4.a29), .d (.bool seen4.a30), .d (.bool seen4.a31), .d (.bool seen4.a32), .d (.bool seen4.a33), .d (.bool seen4.a34), .d (.bool seen4.a35), .d (.bool seen4.a36), .d (.bool seen4.a37), .d (.bool seen4.a38), .d (.bool seen4.a39), .d (.bool seen4.a40), .d (.bool seen4.a41), .d (.bool seen4.a42), .d (.bool seen4.a43), .d (.bool seen4.a44), .d (.bool seen4.a45), .d (.bool seen4.a46), .d (.bool seen4.a47), .d (.bool seen4.a48), .d (.bool seen4.a49), .d (.bool seen4.a50), .d (.bool seen4.a51), .d (.bool seen4.a52), .d (.bool seen4.a53), .d (.bool seen4.a54), .d (.bool seen4.a55), .d (.bool seen4.a56), .d (.bool seen4.a57), .d (.bool seen4.a58), .d (.bool seen4.a59), .d (.bool seen4.a60), .d (.bool seen4.a61), .d (.bool seen4.a62), .d (.bool seen4.a63), .d (.bool seen4.a64), .d (.bool seen4.a65), .d (.bool seen4.a66), .d (.bool seen4.a67), .d (.bool seen4.a68), .d (.bool seen4.a69), .d (.bool seen4.a70), .d (.bool seen4.a71), .d (.bool seen4.a72), .d (.bool seen4.a73), .d (.bool seen4.a74), .d (.bool seen4.a75), .d (.bool seen4.a76), .d (.bool seen4.a77), .d (.bool seen4.a78), .d (.bool seen4.a79), .d (.bool seen4.a80), .d (.bool seen4.a81), .d (.bool seen4.a82), .d (.bool seen4.a83), .d (.bool seen4.a84), .d (.bool seen4.a85), .d (.bool seen4.a86), .d (.bool seen4.a87), .d (.bool seen4.a88), .d (.bool seen4.a89), .d (.bool seen4.a90), .d (.bool seen4.a91), .d (.bool seen4.a92), .d (.bool seen4.a93), .d (.bool seen4.a94), .d (.bool seen4.a95)] 0))]⟩
def hansomlaw04_IsaAll_h50 (seen4 : (A96 Bool)) (n3 : Int) : St := ⟨tab [(3, .d (.int .i64 n3)), (4, .ptr [4] 0 0)], tabB [([4], some (.cells [.d (.bool seen4.a0), .d (.bool seen4.a1), .d (.bool seen4.a2), .d (.bool seen4.a3), .d (.bool seen4.a4), .d (.bool seen4.a5), .d (.bool seen4.a6), .d (.bool seen4.a7), .d (.bool seen4.a8), .d (.bool seen4.a9), .d (.bool seen4.a10), .d (.bool seen4.a11), .d (.bool seen4.a12), .d (.bool seen4.a13), .d (.bool seen4.a14), .d (.bool seen4.a15), .d (.bool seen4.a16), .d (.bool seen4.a17), .d (.bool seen4.a18), .d (.bool seen4.a19), .d (.bool seen4.a20), .d (.bool seen4.a21), .d (.bool seen4.a22), .d (.bool seen4.a23), .d (.bool seen4.a24), .d (.bool seen4.a25), .d (.bool seen4.a26), .d (.bool seen4.a27), .d (.bool seen4.a28), .d (.bool seen4.a29), .d (.bool seen4.a30), .d (.bool seen4.a31), .d (.bool seen4.a32), .d (.bool seen4.a33), .d (.bool seen4.a34), .d (.bool seen4.a35), .d (.bool seen4.a36), .d (.bool seen4.a37), .d (.bool seen4.a38), .d (.bool seen4.a39), .d (.bool seen4.a40), .d (.bool seen4.a41), .d (.bool seen4.a42), .d (.bool seen4.a43), .d (.bool seen4.a44), .d (.bool seen4.a45), .d (.bool seen4.a46), .d (.bool seen4.a47), .d (.bool seen4.a48), .d (.bool seen4.a49), .d (.bool seen4.a50), .d (.bool seen4.a51), .d (.bool seen4.a52), .d (.bool seen4.a53), .d (.bool seen4.a54), .d (.bool seen4.a55), .d (.bool seen4.a56), .d (.bool seen4.a57), .d (.bool seen4.a58), .d (.bool seen4.a59), .d (.bool seen4.a60), .d (.bool seen4.a61), .d (.bool seen4.a62), .d (.bool seen4.a63), .d (.bool seen4.a64), .d (.bool seen4.a65), .d (.bool seen4.a66), .d (.bool seen4.a67), .d (.bool seen4.a68), .d (.bool seen4.a69), .d (.bool seen4.a70), .d (.bool seen4.a71), .d (.bool seen4.a72), .d (.bool seen4.a73), .d (.bool seen4.a74), .d (.bool seen4.a75), .d (.bool seen4.a76), .d (.bool seen4.a77), .d (.bool seen4.a78), .d (.bool seen4.a79), .d (.bool seen4.a80), .d (.bool seen4.a81), .d (.bool seen4.a82), .d (.bool seen4.a83), .d (.bool seen4.a84), .d (.bool seen4.a85), .d (.bool seen4.a86), .d (.bool seen4.a87), .d (.bool seen4.a88), .d (.bool seen4.a89), .d (.bool seen4.a90), .d (.bool seen4.a91), .d (.bool seen4.a92), .d (.bool seen4.a93), .d (.bool seen4.a94), .d (.bool seen4.a95)] 0))]⟩
def hansomlaw04_IsaAll_h54 (seen4 : (A96 Bool)) (n3 : Int) (i10 : Int) : St := ⟨tab [(3, .d (.int .i64 n3)), (4, .ptr [4] 0 0), (10, .d (.int .i64 i10))], tabB [([4], some (.cells [.d (.bool seen4.a0), .d (.bool seen4.a1), .d (.bool seen4.a2), .d (.bool seen4.a3), .d (.bool seen4.a4), .d (.bool seen4.a5), .d (.bool seen4.a6), .d (.bool seen4.a7), .d (.bool seen4.a8), .d (.bool seen4.a9), .d (.bool seen4.a10), .d (.bool seen4.a11), .d (.bool seen4.a12), .d (.bool seen4.a13), .d (.bool seen4.a14), .d (.bool seen4.a15), .d (.bool seen4.a16), .d (.bool seen4.a17), .d (.bool seen4.a18), .d (.bool seen4.a19), .d (.bool seen4.a20), .d (.bool seen4.a21), .d (.bool seen4.a22), .d (.bool seen4.a23), .d (.bool seen4.a24), .d (.bool seen4.a25), .d (.bool seen4.a26), .d (.bool seen4.a27), .d (.bool seen4.a28), .d (.bool seen4.a29), .d (.bool seen4.a30), .d (.bool seen4.a31), .d (.bool seen4.a32), .d (.bool seen4.a33), .d (.bool seen4.a34), .d (.bool seen4.a35), .d (.bool seen4.a36), .d (.bool seen4.a37), .d (.bool seen4.a38), .d (.bool seen4.a39), .d (.bool seen4.a40), .d (.bool seen4.a41), .d (.bool seen4.a42), .d (.bool seen4.a43), .d (.bool seen4.a44), .d (.bool seen4.a45), .d (.bool seen4.a46), .d (.bool seen4.a47), .d (.bool seen4.a48), .d (.bool seen4.a49), .d (.bool seen4.a50), .d (.bool seen4.a51), .d (.bool seen4.a52), .d (.bool seen4.a53), .d (.bool seen4.a54), .d (.bool seen4.a55), .d (.bool seen4.a56), .d (.bool seen4.a57), .d (.bool seen4.a58), .d (.bool seen4.a59), .d (.bool seen4.a60), .d (.bool seen4.a61), .d (.bool seen4.a62), .d (.bool seen4.a63), .d (.bool seen4.a64), .d (.bool seen4.a65), .d (.bool seen4.a66), .d (.bool seen4.a67), .d (.bool seen4.a68), .d (.bool seen4.a69), .d (.bool seen4.a70), .d (.bool seen4.a71), .d (.bool seen4.a72), .d (.bool seen4.a73), .d (.bool seen4.a74), .d (.bool seen4.a75), .d (.bool seen4.a76), .d (.bool seen4.a77), .d (.bool seen4.a78), .d (.bool seen4.a79), .d (.bool seen4.a80), .d (.bool seen4.a81), .d (.bool seen4.a82), .d (.bool seen4.a83), .d (.bool seen4.a84), .d (.bool seen4.a85), .d (.bool seen4.a86), .d (.bool seen4.a87), .d (.bool seen4.a88), .d (.bool seen4.a89), .d (.bool seen4.a90), .d (.bool seen4.a91), .d (.bool seen4.a92), .d (.bool seen4.a93), .d (.bool seen4.a94), .d (.bool seen4.a95)] 0))]⟩
def hansomlaw04_IsaAll_h71 (n3 : Int) : St := ⟨tab [(3, .d (.int .i64 n3))], tabB []⟩
def hansomlaw04_IsaAll_Q (from_ : Int) (r : Bool) (p : Out × St) : Prop := (∀ i, p.1 ≠ .exit i) ∧ finF F3 [.d (.int .u8 from_)] p.2 = some (.d (.bool r), [.d (.int .u8 from_)])
def hansomlaw04_IsaAll_P22 (from_ : Int) (from0 : Int) (i5 : Int) (op6 : Int) (e : (Bool ⊕ ((A96 Bool) × Int))) (p : Out × St) : Prop := match e with
 | .inl x => p.1 = .ret ∧ finF F3 [.d (.int .u8 from_)] p.2 = some (.d (.bool x), [.d (.int .u8 from_)])
 | .inr x => p.1 = .exit 2 ∧ ∃ g : Unit, Canon [] [0, 3, 4, 5] [[4]] p.2 (hansomlaw04_IsaAll_h49 x.1 from0 x.2 i5)
def hansomlaw04_IsaAll_P8 (from_ : Int) (from0 : Int) (e : (Bool ⊕ ((A96 Bool) × Int))) (p : Out × St) : Prop := match e with
 | .inl x => p.1 = .ret ∧ finF F3 [.d (.int .u8 from_)] p.2 = some (.d (.bool x), [.d (.int .u8 from_)])
 | .inr x => p.1 = .exit 0 ∧ ∃ g : Unit, Canon [] [3, 4] [[4]] p.2 (hansomlaw04_IsaAll_h50 x.1 x.2)
def hansomlaw04_IsaAll_P54 (from_ : Int) (seen4 : (A96 Bool)) (n3 : Int) (e : (Bool ⊕ Unit)) (p : Out × St) : Prop := match e with
 | .inl x => p.1 = .ret ∧ finF F3 [.d (.int .u8 from_)] p.2 = some (.d (.bool x), [.d (.int .u8 from_)])
 | .inr x => p.1 = .exit 4 ∧ ∃ g : Unit, Canon [] [3] [] p.2 (hansomlaw04_IsaAll_h71 n3)
theorem hansomlaw04_IsaAll_j35_ok (from_ : Int) (seen4 : (A96 Bool)) (r8 : Row) (from0 : Int) (n3 : Int) (i5 : Int) (op6 : Int) (k7 : Int) (t38 : Bool) (r : (Lp ((A96 Bool) × Int × Int) (Bool ⊕ ((A96 Bool) × Int)))) (h : hansomlaw04_IsaAll_j35 seen4 r8 from0 n3 i5 op6 k7 t38 = some r) : Runs L F3b35 (hansomlaw04_IsaAll_h35 seen4 r8 from0 n3 i5 op6 k7 t38) (kB 3 (kS L F3c48 (LQ [] [0, 3, 4, 5, 6, 7] [[4]] (fun (x : ((A96 Bool) × Int × Int)) (g : Unit) => hansomlaw04_IsaAll_h22 x.1 from0 x.2.1 i5 op6 x.2.2) (hansomlaw04_IsaAll_P22 from_ from0 i5 op6) r))) := by
 unfold hansomlaw04_IsaAll_j35 at h
 cases hb_5 : (t38 : Bool) with
 | true =>
  replace h := ite_t hb_5 h
  refine Ct <| Sq <| Ro <| Rc 3 [⟨.d (.int .i64 n3), []⟩, ⟨.d (.int .i64 (IntKind.wrap .i64 (n3 + 1))), []⟩, ⟨.d (.int .i64 (IntKind.wrap .i64 (n3 + 1))), []⟩] <| Rd <| kS_nrm <| Sq <| Sq <| Ro <| Rc 4 [⟨.ptr [8] 0 0, []⟩, ⟨.d (.int .i64 r8.Name), []⟩, ⟨.d (.bool (decide (r8.Name < 1))), []⟩, ⟨.d (.bool (decide (r8.Name < 1))), []⟩] ?_
  cases hb_6 : ((decide (r8.Name < 1)) : Bool) with
  | true =>
   replace h := ite_t hb_6 h
   refine Rc 4 [⟨.tup [], []⟩, ⟨.tup [], []⟩, ⟨.tup [], []⟩, ⟨.d (.bool true), []⟩] <| Rd <| kS_nrm <| Ct <| Sq <| Ro <| Rc 1 [⟨.d (.bool false), []⟩] <| Rd <| kS_nrm <| Runs.ret <| kS_ret <| kB_ret <| kS_ret ?_
   obtain rfl := Option.some.inj h
   exact ⟨nofun, rfl, (by kernel_rfl)⟩
  | false =>
   replace h := ite_f hb_6 h
   refine Rc 4 [⟨.ptr [8] 0 0, []⟩, ⟨.d (.int .i64 r8.Name), []⟩, ⟨.d (.bool (decide (r8.Name > 95))), []⟩, ⟨.d (.bool (decide (r8.Name > 95))), []⟩] <| Rd <| kS_nrm ?_
   cases hb_7 : ((decide (r8.Name > 95)) : Bool) with
   | true =>
    replace h := ite_t hb_7 h
    refine Ct <| Sq <| Ro <| Rc 1 [⟨.d (.bool false), []⟩] <| Rd <| kS_nrm <| Runs.ret <| kS_ret <| kB_ret <| kS_ret ?_
    obtain rfl := Option.some.inj h
    exact ⟨nofun, rfl, (by kernel_rfl)⟩
   | false =>
    replace h := ite_f hb_7 h
    refine Cf <| Runs.skip <| kS_nrm <| Ro <| Rc 2 [⟨.ptr [8] 0 0, []⟩, ⟨.d (.int .i64 r8.Name), []⟩] ?_
    obtain ⟨z_1, hz_1, h⟩ := bind_s h
    refine Rt (some 51) (.iaddrA 96 1) [] none [.ptr [4] 0 0, .d (.int .i64 r8.Name)] (.ptr [4] 0 (0 + (r8.Name).toNat * 1)) [] (cut_iaA (l := seen4.l) hz_1 rfl) <| Rt none (.store 1) [] none [.ptr [4] 0 (0 + (r8.Name).toNat * 1), .d (.bool true)] (.tup []) [([4], some (.cells [.d (.bool ((A96.set seen4 r8.Name true).a0)), .d (.bool ((A96.set seen4 r8.Name true).a1)), .d (.bool ((A96.set seen4 r8.Name true).a2)), .d (.bool ((A96.set seen4 r8.Name true).a3)), .d (.bool ((A96.set seen4 r8.Name true).a4)), .d (.bool ((A96.set seen4 r8.Name true).a5)), .d (.bool ((A96.set seen4 r8.Name true).a6)), .d (.bool ((A96.set seen4 r8.Name true).a7)), .d (.bool ((A96.set seen4 r8.Name true).a8)), .d (.bool ((A96.set seen4 r8.Name true).a9)), .d (.bool ((A96.set seen4 r8.Name true).a10)), .d (.bool ((A96.set seen4 r8.Name true).a11)), .d (.bool ((A96.set seen4 r8.Name true).a12)), .d (.bool ((A96.set seen4 r8.Name true).a13)), .d (.bool ((A96.set seen4 r8.Name true).a14)), .d (.bool ((A96.set seen4 r8.Name true).a15)), .d (.bool ((A96.set seen4 r8.Name true).a16)), .d (.bool ((A96.set seen4 r8.Name true).a17)), .d (.bool ((A96.set seen4 r8.Name true).a18)), .d (.bool ((A96.set seen4 r8.Name true).a19)), .d (.bool ((A96.set seen4 r8.Name true).a20)), .d (.bool ((A96.set seen4 r8.Name true).a21)), .d (.bool ((A96.set seen4 r8.Name true).a22)), .d (.bool ((A96.set seen4 r8.Name true).a23)), .d (.bool ((A96.set seen4 r8.Name true).a24)), .d (.bool ((A96.set seen4 r8.Name true).a25)), .d (.bool ((A96.set seen4 r8.Name true).a26)), .d (.bool ((A96.set seen4 r8.Name true).a27)), .d (.bool ((A96.set seen4 r8.Name true).a28)), .d (.bool ((A96.set seen4 r8.Name true).a29)), .d (.bool ((A96.set seen4 r8.Name true).a30)), .d (.bool ((A96.set seen4 r8.Name true).a31)), .d (.bool ((A96.set seen4 r8.Name true).a32)), .d (.bool ((A96.set seen4 r8.Name true).a33)), .d (.bool ((A96.set seen4 r8.Name true).a34)), .d (.bool ((A96.set seen4 r8.Name true).a35)), .d (.bool ((A96.set seen4 r8.Name true).a36)), .d (.bool ((A96.set seen4 r8.Name true).a37)), .d (.bool ((A96.set seen4 r8.Name true).a38)), .d (.bool ((A96.set seen4 r8.Name true).a39)), .d (.bool ((A96.set seen4 r8.Name true).a40)), .d (.bool ((A96.set seen4 r8.Name true).a41)), .d (.bool ((A96.set seen4 r8.Name true).a42)), .d (.bool ((A96.set seen4 r8.Name true).a43)), .d (.bool ((A96.set seen4 r8.Name true).a44)), .d (.bool ((A96.set seen4 r8.Name true).a45)), .d (.bool ((A96.set seen4 r8.Name true).a46)), .d (.bool ((A96.set seen4 r8.Name true).a47)), .d (.bool ((A96.set seen4 r8.Name true).a48)), .d (.bool ((A96.set seen4 r8.Name true).a49)), .d (.bool ((A96.set seen4 r8.Name true).a50)), .d (.bool ((A96.set seen4 r8.Name true).a51)), .d (.bool ((A96.set seen4 r8.Name true).a52)), .d (.bool ((A96.set seen4 r8.Name true).a53)), .d (.bool ((A96.set seen4 r8.Name true).a54)), .d (.bool ((A96.set seen4 r8.Name true).a55)), .d (.bool ((A96.set seen4 r8.Name true).a56)), .d (.bool ((A96.set seen4 r8.Name true).a57)), .d (.bool ((A96.set seen4 r8.Name true).a58)), .d (.bool ((A96.set seen4 r8.Name true).a59)), .d (.bool ((A96.set seen4 r8.Name true).a60)), .d (.bool ((A96.set seen4 r8.Name true).a61)), .d (.bool ((A96.set seen4 r8.Name true).a62)), .d (.bool ((A96.set seen4 r8.Name true).a63)), .d (.bool ((A96.set seen4 r8.Name true).a64)), .d (.bool ((A96.set seen4 r8.Name true).a65)), .d (.bool ((A96.set seen4 r8.Name true).a66)), .d (.bool ((A96.set seen4 r8.Name true).a67)), .d (.bool ((A96.set seen4 r8.Name true).a68)), .d (.bool ((A96.set seen4 r8.Name true).a69)), .d (.bool ((A96.set seen4 r8.Name true).a70)), .d (.bool ((A96.set seen4 r8.Name true).a71)), .d (.bool ((A96.set seen4 r8.Name true).a72)), .d (.bool ((A96.set seen4 r8.Name true).a73)), .d (.bool ((A96.set seen4 r8.Name true).a74)), .d (.bool ((A96.set seen4 r8.Name true).a75)), .d (.bool ((A96.set seen4 r8.Name true).a76)), .d (.bool ((A96.set seen4 r8.Name true).a77)), .d (.bool ((A96.set seen4 r8.Name true).a78)), .d (.bool ((A96.set seen4 r8.Name true).a79)), .d (.bool ((A96.set seen4 r8.Name true).a80)), .d (.bool ((A96.set seen4 r8.Name true).a81)), .d (.bool ((A96.set seen4 r8.Name true).a82)), .d (.bool ((A96.set seen4 r8.Name true).a83)), .d (.bool ((A96.set seen4 r8.Name true).a84)), .d (.bool ((A96.set seen4 r8.Name true).a85)), .d (.bool ((A96.set seen4 r8.Name true).a86)), .d (.bool ((A96.set seen4 r8.Name true).a87)), .d (.bool ((A96.set seen4 r8.Name true).a88)), .d (.bool ((A96.set seen4 r8.Name true).a89)), .d (.bool ((A96.set seen4 r8.Name true).a90)), .d (.bool ((A96.set seen4 r8.Name true).a91)), .d (.bool ((A96.set seen4 r8.Name true).a92)), .d (.bool ((A96.set seen4 r8.Name true).a93)), .d (.bool ((A96.set seen4 r8.Name true).a94)), .d (.bool ((A96.set seen4 r8.Name true).a95))] 0))] (cut_stA (e := D.bool) (l := seen4.l) (l' := (A96.set seen4 r8.Name true).l) (y := z_1) (y' := true) hz_1 (by kernel_rfl) (by kernel_rfl) (A96.setl hz_1) rfl) ?_
    refine Rd <| kB_nrm <| kS_nrm <| Ro <| Rc 3 [⟨.d (.int .i64 k7), []⟩, ⟨.d (.int .i64 (IntKind.wrap .i64 (k7 + 1))), []⟩, ⟨.d (.int .i64 (IntKind.wrap .i64 (k7 + 1))), []⟩] <| Rd ?_
    obtain rfl := Option.some.inj h
    exact ⟨rfl, (), (Canon.nil (by kernel_rfl))⟩
 | false =>
  replace h := ite_f hb_5 h
  refine Cf <| Runs.skip <| kB_nrm <| kS_nrm <| Ro <| Rc 3 [⟨.d (.int .i64 k7), []⟩, ⟨.d (.int .i64 (IntKind.wrap .i64 (k7 + 1))), []⟩, ⟨.d (.int .i64 (IntKind.wrap .i64 (k7 + 1))), []⟩] <| Rd ?_
  obtain rfl := Option.some.inj h
  exact ⟨rfl, (), (Canon.nil (by kernel_rfl))⟩
theorem hansomlaw04_IsaAll_l22_ok (from_ : Int) (seen4 : (A96 Bool)) (from0 : Int) (n3 : Int) (i5 : Int) (op6 : Int) (k7 : Int) (r : (Lp ((A96 Bool) × Int × Int) (Bool ⊕ ((A96 Bool) × Int)))) (h : hansomlaw04_IsaAll_l22 seen4 from0 n3 i5 op6 k7 = some r) : Runs L F3l22 (hansomlaw04_IsaAll_h22 seen4 from0 n3 i5 op6 k7) (LQ [] [0, 3, 4, 5, 6, 7] [[4]] (fun (x : ((A96 Bool) × Int × Int)) (g : Unit) => hansomlaw04_IsaAll_h22 x.1 from0 x.2.1 i5 op6 x.2.2) (hansomlaw04_IsaAll_P22 from_ from0 i5 op6) r) := by
 unfold hansomlaw04_IsaAll_l22 at h
 refine Sq <| Sq <| Ro <| Rc 2 [⟨.d (.int .i64 k7), []⟩, ⟨.d (.bool (decide (k7 < 8))), []⟩] <| Rd <| kS_nrm ?_
 cases hb_2 : ((decide (k7 < 8)) : Bool) with
 | true =>
  replace h := ite_t hb_2 h
  refine Ct <| Runs.skip <| kS_nrm <| Sq <| Runs.block <| Sq <| Ro <| Rc 2 [⟨.d (.int .u8 op6), []⟩, ⟨.d (.int .i64 k7), []⟩] ?_
  obtain ⟨r_1, hr_1, h⟩ := bind_s h
  have hc_1 := isa_Of_L op6 k7 r_1 hr_1
  refine Rt (some 27) (.callf 11) [] none [.d (.int .u8 op6), .d (.int .i64 k7)] (.tup [.d (Row.d r_1.1), .d (.bool r_1.2)]) [] (cut_call (call_of (ws := []) (us := []) (by kernel_rfl) (by kernel_rfl) hc_1 (by kernel_rfl) (by kernel_rfl))) <| Rc 6 [⟨.tup [.d (Row.d r_1.1), .d (.bool r_1.2)], []⟩, ⟨.d (Row.d r_1.1), []⟩, ⟨.d (.bool r_1.2), []⟩, ⟨.ptr [8] 0 0, [([8], some (.cells [.d (.int .i64 0), .d (.int .i64 0), .d (.int .i64 0), .d (.bool false)] 0))]⟩, ⟨.tup [], [([8], some (.cells [.d (.int .i64 r_1.1.Name), .d (.int .i64 r_1.1.A), .d (.int .i64 r_1.1.B), .d (.bool r_1.1.Mod)] 0))]⟩, ⟨.d (.bool r_1.2), []⟩] <| Rd <| kS_nrm <| Sq <| Ro <| Rc 2 [⟨.d (.bool r_1.2), []⟩, ⟨.d (.bool r_1.2), []⟩] ?_
  cases hb_3 : (r_1.2 : Bool) with
  | true =>
   replace h := ite_t hb_3 h
   refine Rc 3 [⟨.d (.int .i64 k7), []⟩, ⟨.d (.bool (k7 == 0)), []⟩, ⟨.d (.bool (k7 == 0)), []⟩] ?_
   cases hb_4 : ((k7 == 0) : Bool) with
   | true =>
    replace h := ite_t hb_4 h
    refine Rc 4 [⟨.tup [], []⟩, ⟨.tup [], []⟩, ⟨.d (.bool true), []⟩, ⟨.d (.bool true), []⟩] <| Rd <| kS_nrm <| Runs.canon (hansomlaw04_IsaAll_h35 seen4 r_1.1 from0 n3 i5 op6 k7 true) (Canon.nil (by kernel_rfl)) ?_
    exact hansomlaw04_IsaAll_j35_ok from_ seen4 r_1.1 from0 n3 i5 op6 k7 true r h
   | false =>
    replace h := ite_f hb_4 h
    refine Rc 1 [⟨.d (.int .u8 op6), []⟩] ?_
    obtain ⟨r_2, hr_2, h⟩ := bind_s h
    have hc_2 := isa_Grouped_L op6 r_2 hr_2
    refine Rt (some 36) (.callf 12) [] none [.d (.int .u8 op6)] (.d (.bool r_2)) [] (cut_call (call_of (ws := []) (us := []) (by kernel_rfl) (by kernel_rfl) hc_2 (by kernel_rfl) (by kernel_rfl))) <| Rc 2 [⟨.d (.bool r_2), []⟩, ⟨.d (.bool r_2), []⟩] <| Rd <| kS_nrm <| Runs.canon (hansomlaw04_IsaAll_h35 seen4 r_1.1 from0 n3 i5 op6 k7 r_2) (Canon.nil (by kernel_rfl)) ?_
    exact hansomlaw04_IsaAll_j35_ok from_ seen4 r_1.1 from0 n3 i5 op6 k7 r_2 r h
  | false =>
   replace h := ite_f hb_3 h
   refine Rc 7 [⟨.tup [], []⟩, ⟨.tup [], []⟩, ⟨.tup [], []⟩, ⟨.tup [], []⟩, ⟨.tup [], []⟩, ⟨.tup [], []⟩, ⟨.d (.bool false), []⟩] <| Rd <| kS_nrm <| Runs.canon (hansomlaw04_IsaAll_h35 seen4 r_1.1 from0 n3 i5 op6 k7 false) (Canon.nil (by kernel_rfl)) ?_
   exact hansomlaw04_IsaAll_j35_ok from_ seen4 r_1.1 from0 n3 i5 op6 k7 false r h
 | false =>
  replace h := ite_f hb_2 h
  refine Cf <| Runs.exit <| kS_exit ?_
  obtain rfl := Option.some.inj h
  exact ⟨nofun, rfl, (), (Canon.nil (by kernel_rfl))⟩
theorem hansomlaw04_IsaAll_l8_ok (from_ : Int) (seen4 : (A96 Bool)) (from0 : Int) (n3 : Int) (i5 : Int) (r : (Lp ((A96 Bool) × Int × Int) (Bool ⊕ ((A96 Bool) × Int)))) (h : hansomlaw04_IsaAll_l8 seen4 from0 n3 i5 = some r) : Runs L F3l8 (hansomlaw04_IsaAll_h8 seen4 from0 n3 i5) (LQ [] [0, 3, 4, 5] [[4]] (fun (x : ((A96 Bool) × Int × Int)) (g : Unit) => hansomlaw04_IsaAll_h8 x.1 from0 x.2.1 x.2.2) (hansomlaw04_IsaAll_P8 from_ from0) r) := by
 unfold hansomlaw04_IsaAll_l8 at h
 refine Sq <| Sq <| Ro <| Rc 2 [⟨.d (.int .i64 i5), []⟩, ⟨.d (.bool (decide (i5 < 256))), []⟩] <| Rd <| kS_nrm ?_
 cases hb_1 : ((decide (i5 < 256)) : Bool) with
 | true =>
  replace h := ite_t hb_1 h
  refine Ct <| Runs.skip <| kS_nrm <| Sq <| Runs.block <| Sq <| Ro <| Rc 5 [⟨.d (.int .i64 i5), []⟩, ⟨.d (.int .u8 (IntKind.wrap .u8 i5)), []⟩, ⟨.d (.int .u8 from0), []⟩, ⟨.d (.int .u8 (IntKind.wrap .u8 ((IntKind.wrap .u8 i5) + from0))), []⟩, ⟨.d (.int .u8 (IntKind.wrap .u8 ((IntKind.wrap .u8 i5) + from0))), []⟩] <| Rd <| kS_nrm <| Sq <| Ro <| Rc 1 [⟨.d (.int .i64 0), []⟩] <| Rd <| kS_nrm <| Runs.block ?_
  obtain ⟨e_1, he_1, h⟩ := bind_s h
  refine Runs.loop (fun x : ((A96 Bool) × Int × Int) => hansomlaw04_IsaAll_l22 x.1 from0 x.2.1 i5 (IntKind.wrap .u8 ((IntKind.wrap .u8 i5) + from0)) x.2.2) (fun (x : ((A96 Bool) × Int × Int)) (g : Unit) => hansomlaw04_IsaAll_h22 x.1 from0 x.2.1 i5 (IntKind.wrap .u8 ((IntKind.wrap .u8 i5) + from0)) x.2.2) (hansomlaw04_IsaAll_P22 from_ from0 i5 (IntKind.wrap .u8 ((IntKind.wrap .u8 i5) + from0))) (fun x g r hr => hansomlaw04_IsaAll_l22_ok from_ x.1 from0 x.2.1 i5 (IntKind.wrap .u8 ((IntKind.wrap .u8 i5) + from0)) x.2.2  r hr) () he_1 (Canon.nil (by kernel_rfl)) ?_
  rintro ⟨o, s⟩ hp
  cases e_1 with
  | inl e_2 =>
   obtain ⟨ho, hf⟩ := hp
   have ho' : o = .ret := ho
   subst ho'
   refine kB_ret <| kB_ret <| kS_ret ?_
   obtain rfl := Option.some.inj h
   exact ⟨nofun, rfl, hf⟩
  | inr e_3 =>
   obtain ⟨ho, g_1, hk_1⟩ := hp
   have ho' : o = .exit 2 := ho
   subst ho'
   refine kB_hit <| kB_nrm <| kS_nrm <| Runs.canon _ hk_1 <| Ro <| Rc 3 [⟨.d (.int .i64 i5), []⟩, ⟨.d (.int .i64 (IntKind.wrap .i64 (i5 + 1))), []⟩, ⟨.d (.int .i64 (IntKind.wrap .i64 (i5 + 1))), []⟩] <| Rd ?_
   obtain rfl := Option.some.inj h
   exact ⟨rfl, (), (Canon.nil (by kernel_rfl))⟩
 | false =>
  replace h := ite_f hb_1 h
  refine Cf <| Runs.exit <| kS_exit ?_
  obtain rfl := Option.some.inj h
  exact ⟨nofun, rfl, (), (Canon.nil (by kernel_rfl))⟩
theorem hansomlaw04_IsaAll_l54_ok (from_ : Int) (seen4 : (A96 Bool)) (n3 : Int) (i10 : Int) (r : (Lp Int (Bool ⊕ Unit))) (h : hansomlaw04_IsaAll_l54 seen4 n3 i10 = some r) : Runs L F3l54 (hansomlaw04_IsaAll_h54 seen4 n3 i10) (LQ [] [3, 4, 10] [[4]] (fun (x : Int) (g : Unit) => hansomlaw04_IsaAll_h54 seen4 n3 x) (hansomlaw04_IsaAll_P54 from_ seen4 n3) r) := by
 unfold hansomlaw04_IsaAll_l54 at h
 refine Sq <| Sq <| Ro <| Rc 2 [⟨.d (.int .i64 i10), []⟩, ⟨.d (.bool (decide (i10 ≤ 95))), []⟩] <| Rd <| kS_nrm ?_
 cases hb_1 : ((decide (i10 ≤ 95)) : Bool) with
 | true =>
  replace h := ite_t hb_1 h
  refine Ct <| Runs.skip <| kS_nrm <| Sq <| Runs.block <| Sq <| Ro <| Rc 1 [⟨.d (.int .i64 i10), []⟩] ?_
  obtain ⟨z_1, hz_1, h⟩ := bind_s h
  refine Rt (some 57) (.iaddrA 96 1) [] none [.ptr [4] 0 0, .d (.int .i64 i10)] (.ptr [4] 0 (0 + (i10).toNat * 1)) [] (cut_iaA (l := seen4.l) hz_1 rfl) <| Rt (some 58) (.load none) [] none [.ptr [4] 0 (0 + (i10).toNat * 1)] (.d (.bool z_1)) [] (cut_ldA (e := D.bool) (l := seen4.l) (y := z_1) hz_1 (by kernel_rfl) (by kernel_rfl)) <| Rc 1 [⟨.d (.bool (!z_1)), []⟩] <| Rd <| kS_nrm ?_
  cases hb_2 : ((!z_1) : Bool) with
  | true =>
   replace h := ite_t hb_2 h
   refine Ct <| Sq <| Ro <| Rc 1 [⟨.d (.bool false), []⟩] <| Rd <| kS_nrm <| Runs.ret <| kB_ret <| kS_ret ?_
   obtain rfl := Option.some.inj h
   exact ⟨nofun, rfl, (by kernel_rfl)⟩
  | false =>
   replace h := ite_f hb_2 h
   refine Cf <| Runs.skip <| kB_nrm <| kS_nrm <| Ro <| Rc 3 [⟨.d (.int .i64 i10), []⟩, ⟨.d (.int .i64 (IntKind.wrap .i64 (i10 + 1))), []⟩, ⟨.d (.int .i64 (IntKind.wrap .i64 (i10 + 1))), []⟩] <| Rd ?_
   obtain rfl := Option.some.inj h
   exact ⟨rfl, (), (Canon.nil (by kernel_rfl))⟩
 | false =>
  replace h := ite_f hb_1 h
  refine Cf <| Runs.exit <| kS_exit ?_
  obtain rfl := Option.some.inj h
  exact ⟨nofun, rfl, (), (Canon.nil (by kernel_rfl))⟩
theorem hansomlaw04_IsaAll_ok (from_ : Int) (r : Bool) (h : hansomlaw04_IsaAll from_ = some r) : Runs L F3.body ⟨tmOf [.d (.int .u8 from_)] 0, updW (fun _ => none) []⟩ (hansomlaw04_IsaAll_Q from_ r) := by
 unfold hansomlaw04_IsaAll at h
 refine Sq <| Ro <| Rc 1 [⟨.d (.bool false), []⟩] <| Rd <| kS_nrm <| Sq <| Ro <| Rc 4 [⟨.d (.agg [.bool false, .bool false, .bool false, .bool false, .bool false, .bool false, .bool false, .bool false, .bool false, .bool false, .bool false, .bool false, .bool false, .bool false, .bool false, .bool false, .bool false, .bool false, .bool false, .bool false, .bool false, .bool false, .bool false, .bool false, .bool false, .bool false, .bool false, .bool false, .bool false, .bool false, .bool false, .bool false, .bool false, .bool false, .bool false, .bool false, .bool false, .bool false, .bool false, .bool false, .bool false, .bool false, .bool false, .bool false, .bool false, .bool false, .bool false, .bool false, .bool false, .bool false, .bool false, .bool false, .bool false, .bool false, .bool false, .bool false, .bool false, .bool false, .bool false, .bool false, .bool false, .bool false, .bool false, .bool false, .bool false, .bool false, .bool false, .bool false, .bool false, .bool false, .bool false, .bool false, .bool false, .bool false, .bool false, .bool false, .bool false, .bool false, .bool false, .bool false, .bool false, .bool false, .bool false, .bool false, .bool false, .bool false, .bool false, .bool false, .bool false, .bool false, .bool false, .bool false, .bool false, .bool false, .bool false, .bool false]), []⟩, ⟨.ptr [4] 0 0, [([4], some (.cells [.d (.bool false), .d (.bool false), .d (.bool false), .d (.bool false), .d (.bool false), .d (.bool false), .d (.bool false), .d (.bool false), .d (.bool false), .d (.bool false), .d (.bool false), .d (.bool false), .d (.bool false), .d (.bool false), .d (.bool false), .d (.bool false), .d (.bool false), .d (.bool false), .d (.bool false), .d (.bool false), .d (.bool false), .d (.bool false), .d (.bool false), .d (.bool false), .d (.bool false), .d (.bool false), .d (.bool false), .d (.bool false), .d (.bool false), .d (.bool false), .d (.bool false), .d (.bool false), .d (.bool false), .d (.bool false), .d (.bool false), .d (.bool false), .d (.bool false), .d (.bool false), .d (.bool false), .d (.bool false), .d (.bool false), .d (.bool false), .d (.bool false), .d (.bool false), .d (.bool false), .d (.bool false), .d (.bool false), .d (.bool false), .d (.bool false), .d (.bool false), .d (.bool false), .d (.bool false), .d (.bool false), .d (.bool false), .d (.bool false), .d (.bool false), .d (.bool false), .d (.bool false), .d (.bool false), .d (.bool false), .d (.bool false), .d (.bool false), .d (.bool false), .d (.bool false), .d (.bool false), .d (.bool false), .d (.bool false), .d (.bool false), .d (.bool false), .d (.bool false), .d (.bool false), .d (.bool false), .d (.bool false), .d (.bool false), .d (.bool false), .d (.bool false), .d (.bool false), .d (.bool false), .d (.bool false), .d (.bool false), .d (.bool false), .d (.bool false), .d (.bool false), .d (.bool false), .d (.bool false), .d (.bool false), .d (.bool false), .d (.bool false), .d (.bool false), .d (.bool false), .d (.bool false), .d (.bool false), .d (.bool false), .d (.bool false), .d (.bool false), .d (.bool false)] 0))]⟩, ⟨.d (.int .i64 0), []⟩, ⟨.tup [], [([4], some (.cells [.d (.bool false), .d (.bool false), .d (.bool false), .d (.bool false), .d (.bool false), .d (.bool false), .d (.bool false), .d (.bool false), .d (.bool false), .d (.bool false), .d (.bool false), .d (.bool false), .d (.bool false), .d (.bool false), .d (.bool false), .d (.bool false), .d (.bool false), .d (.bool false), .d (.bool false), .d (.bool false), .d (.bool false), .d (.bool false), .d (.bool false), .d (.bool false), .d (.bool false), .d (.bool false), .d (.bool false), .d (.bool false), .d (.bool false), .d (.bool false), .d (.bool false), .d (.bool false), .d (.bool false), .d (.bool false), .d (.bool false), .d (.bool false), .d (.bool false), .d (.bool false), .d (.bool false), .d (.bool false), .d (.bool false), .d (.bool false), .d (.bool false), .d (.bool false), .d (.bool false), .d (.bool false), .d (.bool false), .d (.bool false), .d (.bool false), .d (.bool false), .d (.bool false), .d (.bool false), .d (.bool false), .d (.bool false), .d (.bool false), .d (.bool false), .d (.bool false), .d (.bool false), .d (.bool false), .d (.bool false), .d (.bool false), .d (.bool false), .d (.bool false), .d (.bool false), .d (.bool false), .d (.bool false), .d (.bool false), .d (.bool false), .d (.bool false), .d (.bool false), .d (.bool false), .d (.bool false), .d (.bool false), .d (.bool false), .d (.bool false), .d (.bool false), .d (.bool false), .d (.bool false), .d (.bool false), .d (.bool false), .d (.bool false), .d (.bool false), .d (.bool false), .d (.bool false), .d (.bool false), .d (.bool false), .d (.bool false), .d (.bool false), .d (.bool false), .d (.bool false), .d (.bool false), .d (.bool false), .d (.bool false), .d (.bool false), .d (.bool false), .d (.bool false)] 0))]⟩] ?_
 refine Rd <| kS_nrm <| Sq <| Sq <| Ro <| Rc 1 [⟨.d (.int .i64 0), []⟩] <| Rd <| kS_nrm <| Runs.block ?_
 obtain ⟨e_1, he_1, h⟩ := bind_s h
 refine Runs.loop (fun x : ((A96 Bool) × Int × Int) => hansomlaw04_IsaAll_l8 x.1 from_ x.2.1 x.2.2) (fun (x : ((A96 Bool) × Int × Int)) (g : Unit) => hansomlaw04_IsaAll_h8 x.1 from_ x.2.1 x.2.2) (hansomlaw04_IsaAll_P8 from_ from_) (fun x g r hr => hansomlaw04_IsaAll_l8_ok from_ x.1 from_ x.2.1 x.2.2  r hr) () he_1 (Canon.nil (by kernel_rfl)) ?_
 rintro ⟨o, s⟩ hp
 cases e_1 with
 | inl e_2 =>
  obtain ⟨ho, hf⟩ := hp
  have ho' : o = .ret := ho
  subst ho'
  refine kB_ret <| kS_ret ?_
  obtain rfl := Option.some.inj h
  exact ⟨Out.ret_ne, hf⟩
 | inr e_3 =>
  obtain ⟨ho, g_1, hk_1⟩ := hp
  have ho' : o = .exit 0 := ho
  subst ho'
  refine kB_hit <| kS_nrm <| Runs.canon _ hk_1 <| Sq <| Sq <| Ro <| Rc 1 [⟨.d (.int .i64 1), []⟩] <| Rd <| kS_nrm <| Runs.block ?_
  obtain ⟨e_4, he_2, h⟩ := bind_s h
  refine Runs.loop (fun x : Int => hansomlaw04_IsaAll_l54 e_3.1 e_3.2 x) (fun (x : Int) (g : Unit) => hansomlaw04_IsaAll_h54 e_3.1 e_3.2 x) (hansomlaw04_IsaAll_P54 from_ e_3.1 e_3.2) (fun x g r hr => hansomlaw04_IsaAll_l54_ok from_ e_3.1 e_3.2 x  r hr) () he_2 (Canon.nil (by kernel_rfl)) ?_
  rintro ⟨o, s⟩ hp
  cases e_4 with
  | inl e_5 =>
   obtain ⟨ho, hf⟩ := hp
   have ho' : o = .ret := ho
   subst ho'
   refine kB_ret <| kS_ret ?_
   obtain rfl := Option.some.inj h
   exact ⟨Out.ret_ne, hf⟩
  | inr e_6 =>
   obtain ⟨ho, g_2, hk_2⟩ := hp
   have ho' : o = .exit 4 := ho
   subst ho'
   refine kB_hit <| kS_nrm <| Runs.canon _ hk_2 <| Sq <| Ro ?_
   obtain ⟨r_1, hr_1, h⟩ := bind_s h
   have hc_1 := hansomlaw04_awake_L r_1 hr_1
   refine Rt (some 60) (.callf 13) [] none [] (.d (.bool r_1)) [] (cut_call (call_of (ws := []) (us := []) (by kernel_rfl) (by kernel_rfl) hc_1 (by kernel_rfl) (by kernel_rfl))) <| Rc 1 [⟨.d (.bool r_1), []⟩] ?_
   cases hb_1 : (r_1 : Bool) with
   | true =>
    replace h := ite_t hb_1 h
    refine Rc 1 [⟨.d (.int .i64 e_3.2), []⟩] ?_
    obtain ⟨r_2, hr_2, h⟩ := bind_s h
    have hc_2 := hansomlaw04_count_L r_2 hr_2
    refine Rt (some 63) (.callf 14) [] none [] (.d (.int .i64 r_2)) [] (cut_call (call_of (ws := []) (us := []) (by kernel_rfl) (by kernel_rfl) hc_2 (by kernel_rfl) (by kernel_rfl))) <| Rc 3 [⟨.d (.bool (e_3.2 == r_2)), []⟩, ⟨.d (.bool (e_3.2 == r_2)), []⟩, ⟨.d (.bool (e_3.2 == r_2)), []⟩] <| Rd <| kS_nrm <| Runs.ret ?_
    obtain rfl := Option.some.inj h
    exact ⟨Out.ret_ne, (by kernel_rfl)⟩
   | false =>
    replace h := ite_f hb_1 h
    refine Rc 5 [⟨.tup [], []⟩, ⟨.tup [], []⟩, ⟨.tup [], []⟩, ⟨.d (.bool false), []⟩, ⟨.d (.bool false), []⟩] <| Rd <| kS_nrm <| Runs.ret ?_
    obtain rfl := Option.some.inj h
    exact ⟨Out.ret_ne, (by kernel_rfl)⟩
theorem hansomlaw04_IsaAll_L (from_ : Int) (r : Bool) (h : hansomlaw04_IsaAll from_ = some r) : L 3 [.d (.int .u8 from_)] = some (.d (.bool r), [.d (.int .u8 from_)]) := by
 obtain ⟨p, ⟨hne, hf⟩, hr⟩ := hansomlaw04_IsaAll_ok from_ r h
 obtain ⟨k, hk⟩ := run_of (F := F3) (args := [.d (.int .u8 from_)]) (ap := [.d (.int .u8 from_)]) (bx0 := updW (fun _ => none) []) rfl rfl (by kernel_rfl) ⟨p, ⟨hne, hf⟩, hr⟩
 exact lim_run (k := k) rfl hk
end Go.Es.Iaa
