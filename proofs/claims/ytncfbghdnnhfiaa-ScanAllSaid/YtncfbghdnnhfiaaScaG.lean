/- scan.Get: what a panic leaves is taken back; the interpreter's answer is the machine's. No condition. -/
import Derived.Test.YtncfbghdnnhfiaaScaS0
import Derived.Recover
import Derived.WalkKit
set_option linter.unusedVariables false
set_option linter.unusedSimpArgs false
set_option maxRecDepth 100000
set_option maxHeartbeats 4000000
namespace Go.Es
section
variable {mg m0 : Mm} {w0 : World} {OO : Nat → Prop} {g : Gh} {bx : Bx} {w : World} {P : Program} {pa : List A} {pv : List Value}
theorem stOk_enter {m : Mm} {bs : List Nat} {bx0 : Bx} {aa : List A} {vs : List Value} {N : Nat} (hi : Inv m w (· ∈ bs) g bx0 w) (hmg : mg.le m) (hv : RAl g bx0 aa vs) (hn : vs.length ≤ N) :
  StOk [] mg m w (· ∈ bs) N aa vs ⟨tmOf aa 0, bx0⟩ { tmps := vs.toArray ++ Array.replicate (N - vs.toArray.size) undef, defers := [] } w := by
 refine ⟨g, hi, ⟨fun b o v h => hi.mle _ _ _ (hmg _ _ _ h), fun t => ?_⟩, by simp; omega, rfl, hv⟩
 have := tmOf_spec (j := 0) (n := t) hv (Nat.zero_le _)
 have e : (vs.toArray ++ Array.replicate (N - vs.toArray.size) undef).getD t undef = vs.getD (t - 0) undef := by
  rw [Array.getD_eq_getD_getElem?, Array.getElem?_append, List.getD_eq_getElem?_getD]
  simp only [List.size_toArray, Nat.sub_zero, List.getElem?_toArray]
  split
  ·rfl
  ·rename_i hlt
   rw [List.getElem?_eq_none (by omega)]
   by_cases h : t - vs.length < N - vs.length
   ·simp [h]
   ·simp [h]
 rw [e]; exact this
theorem dieCall_keep {U : Nat} {av : List Id} {al : Option (List Id)} {f : Nat} {args : List A} {vs : List Value} {e : Int} {ts : List T} (h : Inv m0 w0 OO g bx w) (hmg : mg.le m0) (hv : RAl g bx args vs) (hi : lids args = [])
  (hap : apartIds (ptrIds args) = true) (h1 : gives av al bx args = some (ts, bx)) (hK : DiesOn mg P U f ts e) :
  (∃ fn, P.funcs[f]? = some fn ∧ fn.body.isSome = true ∧ (fn.name == "runtime.NumGoroutine") = false) ∧
  Calls P f vs.toArray w fun en w' => ∃ m', en = .panicked (chain U e) ∧ Dead m0 w0 OO m' w' ∧ g.m.le m' ∧
   ∀ id cs ver p, bx id = some (.cells cs ver) → id ∉ ptrIds args → g.β id = some p → w'.heap[p.b]? = w.heap[p.b]? ∧ ∀ o, m' p.b o = none := by
 have hap := apartIds_spec hap
 have g0 : Gave (lids args ++ av) m0 w0 OO [] [] g bx w := ⟨h, List.nodup_nil, (fun b hb => by cases hb), (fun b hb => by cases hb), (fun i hi => by cases hi)⟩
 obtain ⟨E', g1, bs, hE, k, rts⟩ := gives_spec g0 hv (by rw [hi, List.nil_append]; exact h1) hap (fun i _ hi => by cases hi) (lids_av args av)
 have kg := k.gave
 simp only [List.nil_append] at kg
 obtain ⟨hfn, hc⟩ := hK g1.m w vs bs (fun b o v hb => kg.inv.mle _ _ _ (hmg _ _ _ hb)) kg.inv.sim.cons rts kg.nodup (fun b hb => (kg.own b hb).2)
 refine ⟨hfn, hc.mono ?_⟩
 rintro en w' ⟨m', rfl, a⟩
 refine ⟨m', rfl, ⟨?_, a.cons, ?_, kg.inv.size.trans a.size, a.os.trans kg.inv.os, a.tape.trans kg.inv.tape, a.output.trans kg.inv.output⟩, fun b o v hb => a.mle _ _ _ (k.le.m _ _ _ hb), ?_⟩
 ·exact fun b o v hb => a.mle _ _ _ (kg.inv.mle _ _ _ hb)
 ·intro b hb hO
  have hnb : b ∉ bs := fun hm => by
   rcases (kg.own b hm).1 with h | h
   ·omega
   ·exact hO h
  obtain ⟨h1, h2⟩ := a.keep b (Nat.lt_of_lt_of_le hb kg.inv.size.1) hnb
  obtain ⟨h3, h4⟩ := kg.inv.keep b hb hO
  exact ⟨h1.trans h3, fun o => (h2 o).trans (h4 o)⟩
 ·intro id cs ver p hb hid hp
  have hβ : g1.β id = some p := by
   rw [(k.le.cells id cs ver hb _ hb rfl).2]; exact hp
  have hne : id ∉ E' := by
   intro hm
   rw [hE] at hm
   exact hid (by simpa using hm)
  have hnb : p.b ∉ bs := fun hm => kg.apart _ hm ⟨id, p, hne, by rw [hb]; simp, hβ, rfl⟩
  obtain ⟨_, hlt, _⟩ := kg.inv.sim.block (id := id) (by rw [hb]; simp) hβ
  obtain ⟨h1, h2⟩ := a.keep p.b hlt hnb
  refine ⟨h1, fun o => (h2 o).trans ?_⟩
  cases kg.inv.sim.box id _ hb with
  | cells _ _ q vals ty fr hq hh hn hbare hf hr hM ho =>
   rw [hβ] at hq; cases hq
   exact hM o
theorem After.of_dead {m m' m'' : Mm} {w w' w'' : World} {bs : List Nat} {r : T} {v : Value} {args : List T} {vs : List Value} {rbs abs : List Nat} (h : Dead m w (· ∈ ([] : List Nat)) m' w') (a : After m' w' bs m'' w'' r v args vs rbs abs)
  (hb : ∀ b ∈ bs, w.heap.size ≤ b) : After m w [] m'' w'' r v args vs rbs abs where
 mle := fun b o v e => a.mle _ _ _ (h.mle _ _ _ e)
 cons := a.cons
 res := a.res
 args := a.args
 nodup := a.nodup
 own := fun b hm => by
  obtain ⟨h1, h2⟩ := a.own b hm
  refine ⟨.inl ?_, h2⟩
  rcases h1 with h1 | h1
  ·exact Nat.le_trans h.size.1 h1
  ·exact hb b h1
 keep := fun b hlt _ => by
  have hnb : b ∉ bs := fun hm => by have := hb b hm; omega
  obtain ⟨h1, h2⟩ := a.keep b (Nat.lt_of_lt_of_le hlt h.size.1) hnb
  obtain ⟨h3, h4⟩ := h.keep b hlt (by simp)
  exact ⟨h1.trans h3, fun o => (h2 o).trans (h4 o)⟩
 size := h.size.trans a.size
 os := a.os.trans h.os
 tape := a.tape.trans h.tape
 output := a.output.trans h.output
theorem ends_spec {fn : Func} {rss : List Rv} {m : Mm} {bs : List Nat} {s' : St} {a : Act} {w' : World} {df : List Deferred} {N : Nat} (h6 : ResOk P fn.results.toList rss) {rs : List A} {ts ps : List T} {b1 b2 : Bx} {np : Nat}
  (hrs : ress s' rss = some rs) (ho1 : outs1 np s'.bx rs = some (ts, b1)) (hap : apartIds (ptrIds (pa.map (lendP b1))) = true) (hp : gives (lids (pa.map (lendP b1))) none b1 (pa.map (lendP b1)) = some (ps, b2))
  (h : StOk df mg m w (· ∈ bs) N pa pv s' a w') : ∃ v, (results fn a.tmps).run P w' = .ok v w' ∧ ∃ m' rbs abs, After m w bs m' w' (one ts) v ps pv rbs abs := by
 obtain ⟨g', hi', ht', hN', hd', hpa'⟩ := h
 obtain ⟨us, hu, hrun⟩ := results_spec hi' ht' h6 hrs
 obtain ⟨m', rbs, abs, haf⟩ := leave_spec hi' hu (lendP_ral hpa') ho1 hap hp
 refine ⟨_, ?_, m', rbs, abs, haf⟩
 have e : (fn.results.mapM (resOne a.tmps)).run P w' = .ok us.toArray w' := by
  have : fn.results.mapM (resOne a.tmps) = List.toArray <$> fn.results.toList.mapM (resOne a.tmps) := by
   rw [← List.mapM_toArray, Array.toArray_toList]
  rw [this, map_eq_pure_bind, Sem.run_bind, hrun]
  simp
 have er : results fn a.tmps = (do let vs ← fn.results.mapM (resOne a.tmps); pure (if h : vs.size = 1 then vs[0] else .tuple vs)) := by
  unfold results resOne
  congr 2
 rw [er, Sem.run_bind, e]
 simp only [Result.andThen_ok, Sem.run_pure]
end
end Go.Es
namespace Go.Es.Sca
open Go.Proofs
def l34a : List Ao := [o3 2 (.alloc [.d (.bool false), .d (.int .i64 0), .d (.int .i64 0), .d (.int .u8 0), .d (.int .i64 0), .d (.int .i64 0), .d (.int .i64 0), .d (.int .u16 0), .d (.int .u16 0), .d (.int .u16 0)]) [],
   o3 3 (.alloc [.d (.int .i64 0)]) [],
   o3 4 (.alloc [.d (.int .i64 0)]) []]
def o34b : Ao := o3 6 (.mkfn 65) [.t 2, .t 3, .t 4]
def l34c : List Ao := [o3 7 .mv [.t 0],
   o3 8 (.build [.nils, .d (.int .i64 0)] [(0, 1)]) [.t 7],
   o3 9 (.box 2) [.t 8],
   o3 5 .mv [.t 9]]
def l34d : List Ao := [o3 10 .mv [.t 5],
   o3 11 (.callf 66) [.t 10],
   { dst := none, k := (.store 10), xs := [.t 2, .t 11] }]
def l34e : List Ao := [o3 12 (.load (some 10)) [.t 2],
   o3 13 .mv [.t 5],
   o3 14 .nilchk [.t 13],
   o3 15 (.faddr 1) [.t 14],
   { dst := some 16, k := (.load none), xs := [.t 15], av := [[2]] },
   { dst := none, k := (.store 10), xs := [.t 2, .t 12], al := some [[2]] },
   { dst := none, k := (.store 1), xs := [.t 3, .t 16] },
   { dst := none, k := (.store 1), xs := [.t 4, .c (.d (.int .i64 0))] }]
def mg0 : Mm := fun _ _ => none
def z36 : List A := (Inst.cs inst0).map A.d
def s34a (es : List D) : St := ⟨tmOf [.d (.sl es)] 0, fun _ => none⟩
def s34b (es : List D) : St := adv l34a [⟨.ptr [2] 0 0, [([2], some (.cells z36 0))]⟩, ⟨.ptr [3] 0 0, [([3], some (.cells [.d (.int .i64 0)] 0))]⟩, ⟨.ptr [4] 0 0, [([4], some (.cells [.d (.int .i64 0)] 0))]⟩] (s34a es)
def fn65 : A := .fn 65 [.ptr [2] 0 0, .ptr [3] 0 0, .ptr [4] 0 0]
def s34c (es : List D) : St := put' (s34b es) (some 6) fn65 (s34b es).bx
def s34d (es : List D) : St := adv l34c [⟨.d (.sl es), []⟩, ⟨.d (.agg [.sl es, .int .i64 0]), []⟩, ⟨.ptr [9] 0 0, [([9], some (.cells [.d (.sl es), .d (.int .i64 0)] 0))]⟩, ⟨.ptr [9] 0 0, []⟩] (s34c es)
def s34e (es : List D) : St := put' (s34d es) (some 10) (.ptr [9] 0 0) (s34d es).bx
def rs34 : List Rv := [.c 2 (some 10), .c 3 none, .c 4 none]
def res34 (r : Inst × Int × Int) : T := .tup [.d (Inst.d r.1), .d (.int .i64 r.2.1), .d (.int .i64 r.2.2)]
def Fin34 (r : Inst × Int × Int) (s : St) : Prop := ress s rs34 = some [.d (Inst.d r.1), .d (.int .i64 r.2.1), .d (.int .i64 r.2.2)]
theorem results_ok34 : ResOk Try.prog Try.f34.results.toList rs34 := compR_spec (by kernel_rfl)
theorem fin34 {fn : Func} (hfn : fn.results = Try.f34.results) {r : Inst × Int × Int} {s' : St} {df : List Deferred} {m : Mm} {w : World} {bs : List Nat} {N : Nat} {es : List D} {v : Value} {a : Act} {w' : World} (h : Fin34 r s')
  (hst : StOk df mg0 m w (· ∈ bs) N [.d (.sl es)] [v] s' a w') :
  ∃ v', (results fn a.tmps).run Try.prog w' = .ok v' w' ∧ ∃ m' rbs abs, After m w bs m' w' (res34 r) v' [.d (.sl es)] [v] rbs abs :=
 ends_spec (np := 1) (rs := [.d (Inst.d r.1), .d (.int .i64 r.2.1), .d (.int .i64 r.2.2)]) (ts := [.d (Inst.d r.1), .d (.int .i64 r.2.1), .d (.int .i64 r.2.2)]) (b1 := s'.bx) (b2 := s'.bx) (by rw [hfn]; exact results_ok34) h rfl rfl rfl hst
theorem get_runs (b : List Int) (r : Inst × Source) (h : scan_source_take { b := b, at_ := 0 } = some r) :
  Runs L0 (.seq (.ops l34c) (.seq (.ops l34d) (.seq (.ops l34e) .ret))) (s34c (List.map (D.int .u8) b)) (fun p => p.1 = .ret ∧ Fin34 (r.1, r.2.at_, 0) p.2) := by
 have hc := scan_source_take_L _ r h
 refine Sq <| Ro <| Rc 4 [⟨.d (.sl (List.map (D.int .u8) b)), []⟩, ⟨.d (.agg [.sl (List.map (D.int .u8) b), .int .i64 0]), []⟩, ⟨.ptr [9] 0 0, [([9], some (.cells [.d (.sl (List.map (D.int .u8) b)), .d (.int .i64 0)] 0))]⟩, ⟨.ptr [9] 0 0, []⟩] <| Rd <| kS_nrm <| Sq <| Ro <| Rc 1 [⟨.ptr [9] 0 0, []⟩] ?_
 refine Rt (some 11) (.callf 66) [] none [.ptr [9] 0 0] (.d (Inst.d r.1)) [([9], some (.cells [.d (.sl (List.map (D.int .u8) r.2.b)), .d (.int .i64 r.2.at_)] 0))] (cut_call (call_of (ws := []) (us := [([9], some (.cells [.d (.sl (List.map (D.int .u8) r.2.b)), .d (.int .i64 r.2.at_)] 0))]) (by kernel_rfl) (by kernel_rfl) hc (by kernel_rfl) (by kernel_rfl))) ?_
 refine Rc 1 [⟨.tup [], [([2], some (.cells ((Inst.cs r.1).map A.d) 0))]⟩] <| Rd <| kS_nrm <| Sq <| Ro <| Rc 8 [⟨.d (Inst.d r.1), []⟩, ⟨.ptr [9] 0 0, []⟩, ⟨.ptr [9] 0 0, []⟩, ⟨.ptr [9] 0 1, []⟩, ⟨.d (.int .i64 r.2.at_), []⟩, ⟨.tup [], [([2], some (.cells ((Inst.cs r.1).map A.d) 0))]⟩, ⟨.tup [], [([3], some (.cells [.d (.int .i64 r.2.at_)] 0))]⟩, ⟨.tup [], [([4], some (.cells [.d (.int .i64 0)] 0))]⟩] <| Rd <| kS_nrm <| Runs.ret ?_
 exact ⟨rfl, show ress _ _ = some _ by kernel_rfl⟩
theorem catch_idle (p2 p3 p4 : Value) (w : World) : CallsD Try.prog 65 #[p2, p3, p4] .returning w fun e u' w' => e = .returned (.tuple #[]) ∧ u' = .returning ∧ w' = w := by
 refine callsD_of_wpS Try.func65 rfl fun c₀ cs hu => ?_
 apply wpS_seq
 apply wpS_region
 simp [wpOpsS, go_sem, recoverD, hu, Try.ntmps65, Exit.thenS]
 apply wpS_seq
 apply wpS_region
 simp [wpOpsS, go_sem, Try.ntmps65, Exit.thenS, Act.eval, Array.replicate]
 refine wpS_cond (t := false) (by simp [Act.eval, Array.replicate]) ?_
 simp only [Bool.false_eq_true, if_false]
 refine wpS_of_wp (wp_skip ?_)
 cases c₀
 simp_all [bodyPostS, results, Try.results65]
end Go.Es.Sca
namespace Go.Es
section
variable {mg m0 : Mm} {w0 : World} {OO : Nat → Prop} {g : Gh} {bx : Bx} {w : World} {P : Program} {N : Nat} {pa : List A} {pv : List Value} {df : List Deferred}
theorem StOk.less {s : St} {a : Act} {x : A} {v : Value} {pa2 : List A} {pv2 : List Value} (h : StOk df mg m0 w0 OO N (x :: pa2) (v :: pv2) s a w) : StOk df mg m0 w0 OO N [x] [v] s a w := by
 obtain ⟨g, h1, h2, h3, h4, h5⟩ := h
 cases h5 with | cons h5 _ => exact ⟨g, h1, h2, h3, h4, .cons h5 .nil⟩
theorem step_keep {C : Cs} {ops : Array Oper} {i : Nat} {o : Oper} {ao : Ao} (hi : ops[i]? = some o) (hf : FitsO mg P N ops o ao) (hk : ∀ f, ao.k ≠ .callf f) (hk2 : ao.k ≠ .callv) (hg : o.guard = none) {s s' : St} (hs : step C ao s = some s')
  {a : Act} {w : World} (h : StOk df mg m0 w0 OO N pa pv s a w) {K : Act → World → Prop} (hK : ∀ a' w', StOk df mg m0 w0 OO N pa pv s' a' w' → (∀ t, o.dst ≠ some t → a'.tmps.getD t undef = a.tmps.getD t undef) → K a' w') {Q : Exit → Act → World → Prop} : wpOp P ops Q i K a w := by
 obtain ⟨g, hinv, ht, hN, hd, hpa⟩ := h
 have hr : ∀ t, RA g s.bx (s.tm t) (a.tmps.getD t undef) := ht.2
 simp only [step, Option.bind_eq_some_iff] at hs
 obtain ⟨c, hw, hs⟩ := hs
 have hwant := wanted_spec (o := o) hf.g ht rfl hw hr
 have hc : c = true := by rw [← hwant]; unfold Region.wanted; rw [hg]
 subst hc
 unfold wpOp
 simp only [hi, hwant]
 simp only [if_true, Option.bind_eq_some_iff] at hs ⊢
 obtain ⟨⟨r, bx'⟩, hsem, he⟩ := hs
 cases he
 refine .inl ?_
 rw [← hf.dst] at hK
 have hop := hf.op
 obtain ⟨d, k, xs, gg, av, al⟩ := ao
 obtain ⟨dst, op, ty, pos, after, gd⟩ := o
 simp only at hop hK hsem hk hk2 ⊢
 have same : ∀ v t, dst ≠ some t → (a.put dst v).tmps.getD t undef = a.tmps.getD t undef := fun v t hne => by
  cases dst with
  | none => rfl
  | some d =>
   have : d ≠ t := fun e => hne (by rw [e])
   simp [Act.put, Array.getD_eq_getD_getElem?, Array.getElem?_setIfInBounds_ne this]
 cases hop with
 | op _ _ _ _ hk =>
  obtain ⟨v, w', g', h1, h2, h3, h4⟩ := op_good (C := C) (dst := dst) (pos := pos) (after := after) (gd := gd) hk hinv ht hsem
  unfold Oper.wp
  rcases h1 with h1 | ⟨h1, rfl⟩
  ·rw [h1]; exact hK _ _ (StOk.put ht hr hN hd hpa hf.lt h2 h3 h4) (same v)
  ·rw [h1]; exact hK _ _ (StOk.put ht hr hN hd hpa hf.lt h2 h3 h4) (same _)
 | callf _ f args ats _ hx => exact absurd rfl (hk f)
 | callv _ x o args ats os hx hxs => exact absurd rfl hk2
theorem each_data {m : Mm} : ∀ {ds : List D} {vs : List Value}, ds.length = vs.length → (∀ j (h : j < ds.length) (h' : j < vs.length), RD m ds[j] vs[j]) → Each (RC m w) (ds.map T.d) vs []
 | [], [], _, _ => .nil
 | d :: ds, v :: vs, hl, h => by
  have := Each.cons (R := RC m w) (.d (h 0 (by simp) (by simp))) (each_data (ds := ds) (vs := vs) (by simpa using hl) (fun j h1 h2 => h (j + 1) (by simpa using h1) (by simpa using h2)))
  simpa using this
 | [], _ :: _, hl, _ => by simp at hl
 | _ :: _, [], hl, _ => by simp at hl
theorem ptr_of_box {w1 w' : World} {m' : Mm} {own : Nat → Prop} {id : Id} {ds : List D} {ver : Nat} {q : Value} (hs : Sim g bx w1 own) (hb : bx id = some (.cells (ds.map A.d) ver)) (hq : RA g bx (.ptr id ver 0) q)
  (hfl : ∀ d ∈ ds, d.flat = true) (hle : g.m.le m') (hk : ∀ p, g.β id = some p → w'.heap[p.b]? = w1.heap[p.b]? ∧ ∀ o, m' p.b o = none) :
  ∃ p, g.β id = some p ∧ q = .pointer (some ⟨p.b, 0, none⟩) ∧ own p.b ∧ p.b < w'.heap.size ∧ RT m' w' (.ptr (ds.map T.d)) q [p.b] := by
 cases hq with
 | ptrOld _ _ _ b x hb' hlt => rw [hb] at hb'; cases hb'; simp only [Box.ver_cells] at hlt; omega
 | ptr _ _ _ cs p hb' hp =>
  refine ⟨p, hp, rfl, ?_⟩
  cases hs.box id _ hb with
  | cells _ _ p' vals ty fr hp' hh hn hbare hf hr hM ho =>
   rw [hp] at hp'; cases hp'
   obtain ⟨h1, h2⟩ := hk p hp
   refine ⟨ho, ?_, ?_⟩
   ·have := h1.trans hh
    rw [Array.getElem?_eq_some_iff] at this; exact this.1
   ·have hl : ds.length = vals.toList.length := by simpa using hn.symm
    have e := each_data (m := m') (w := w') hl fun j h h' => by
     have := hr j (by simpa using h)
     simp only [List.getElem_map] at this
     cases this with | d h => simpa using h.mono hle
    exact .one (.ptr (ds.map T.d) p.b vals ty fr [] (h1.trans hh) hbare h2 e (fun t ht => by
     rw [List.mem_map] at ht
     obtain ⟨d, hd, rfl⟩ := ht
     exact hfl d hd))
end
end Go.Es
namespace Go.Es.Sca
open Go.Proofs
def T65 : List T := [.ptr ((Inst.cs inst0).map T.d), .ptr [.d (.int .i64 0)], .ptr [.d (.int .i64 0)]]
def p65 : List A := [.ptr [0] 0 0, .ptr [1] 0 0, .ptr [2] 0 0]
def b65 : Bx := updW (fun _ => none) [([0], some (.cells z36 0)), ([1], some (.cells [.d (.int .i64 0)] 0)), ([2], some (.cells [.d (.int .i64 0)] 0))]
theorem take65 : takesP (fun _ => none) 0 T65 = some (p65, b65) := by kernel_rfl
def s65a : St := ⟨tmOf p65 0, b65⟩
def s65b : St := put' (put' s65a (some 6) .top b65) (some 3) .top b65
def s65c : St := put' (put' s65b (some 7) .top b65) (some 8) (.d (.bool true)) b65
def l65c : List Ao := [o3 9 (.build [.d (.bool false), .d (.int .i64 0), .d (.int .i64 0), .d (.int .u8 0), .d (.int .i64 0), .d (.int .i64 0), .d (.int .i64 0), .d (.int .u16 0), .d (.int .u16 0), .d (.int .u16 0)] []) [],
 { dst := none, k := (.store 10), xs := [.t 0, .t 9] }, { dst := none, k := (.store 1), xs := [.t 1, .c (.d (.int .i64 0))] }]
def s65d1 : St := put' s65c (some 9) (.d (Inst.d inst0)) b65
def s65d2 : St := put' s65d1 none (.tup []) (updW b65 [([0], some (.cells z36 0))])
def s65d : St := put' s65d2 none (.tup []) (updW s65d2.bx [([1], some (.cells [.d (.int .i64 0)] 0))])
def l65d : List Ao := [{ dst := none, k := (.store 1), xs := [.t 2, .c (.d (.int .i64 3))] }]
def s65e : St := put' s65d none (.tup []) (updW s65d.bx [([2], some (.cells [.d (.int .i64 3)] 0))])
def s65f (e : Int) : St := put' (put' s65e (some 11) .top s65e.bx) (some 12) (.tup [.d (.int .i64 e), .d (.bool true)]) s65e.bx
def l65f : List Ao := [o3 10 .mv [.t 12], o3 13 (.extract 0) [.t 10], o3 14 (.extract 1) [.t 10], o3 4 .mv [.t 13], o3 5 .mv [.t 14]]
def s65g (e : Int) : St := adv l65f [⟨.tup [.d (.int .i64 e), .d (.bool true)], []⟩, ⟨.d (.int .i64 e), []⟩, ⟨.d (.bool true), []⟩, ⟨.d (.int .i64 e), []⟩, ⟨.d (.bool true), []⟩] (s65f e)
def A65g : Ac := .seq (.ops [o3 15 .mv [.t 5]]) (.cond (.t 15) (.ops [o3 16 .mv [.t 4], { dst := none, k := (.store 1), xs := [.t 2, .t 16] }]) .skip)
theorem StOk.put1 {df : List Deferred} {m : Mm} {w : World} {bs : List Nat} {N : Nat} {pa : List A} {pv : List Value} {s : St} {a : Act} {w' : World} (h : StOk df mg0 m w (· ∈ bs) N pa pv s a w') {d : Nat} (hd : d < N) {x : A} {v : Value} {b : Bx} (hb : b = s.bx)
  (hv : ∀ g, RA g s.bx x v) : StOk df mg0 m w (· ∈ bs) N pa pv (put' s (some d) x b) (a.put (some d) v) w' := by
 subst hb
 obtain ⟨g, hi, ht, hN, hdf, hpa⟩ := h
 exact Es.StOk.put (dst := some d) ht ht.2 hN hdf hpa (fun e he => by cases he; exact hd) hi (Le.refl _ _) (hv g)
theorem put_same {a : Act} {d : Nat} {v : Value} (h : d < a.tmps.size) : (a.put (some d) v).tmps.getD d undef = v := by simp [Act.put, Array.getD_eq_getD_getElem?, h]
theorem put_other {a : Act} {d t : Nat} {v : Value} (h : d ≠ t) : (a.put (some d) v).tmps.getD t undef = a.tmps.getD t undef := by simp [Act.put, Array.getD_eq_getD_getElem?, Array.getElem?_setIfInBounds_ne h]
theorem run_neq {f : Operand → Value} {e : Int} {w : World} {ty pos aft} (h : f (.tmp 7) = .iface 45 (.int .i64 e)) (hn : f (.const .nilIface) = .nilIface) :
  (execOp f ⟨some 8, .binOp .neq 20 (.tmp 7) (.const .nilIface) 20, ty, pos, aft, none⟩).run Try.prog w = .ok (.value (.bool true)) w := by
 simp [execOp, h, hn, go_sem]
theorem run_assert {f : Operand → Value} {e : Int} {w : World} {ty pos aft} (h : f (.tmp 11) = .iface 45 (.int .i64 e)) :
  (execOp f ⟨some 12, .typeAssert (.tmp 11) 20 45 true, ty, pos, aft, none⟩).run Try.prog w = .ok (.value (.tuple #[.int .i64 e, .bool true])) w := by
 have hu : Try.prog.underlying 45 = some (.int .i64) := by kernel_rfl
 simp [execOp, h, Instr.typeAssert, run_under hu, go_sem, Sem.run_bind]
theorem catch_panic {m : Mm} {w : World} {q2 q3 q4 : Value} {bs : List Nat} {e : Int} (hc : Cons m w) (hr : Each (RT m w) T65 [q2, q3, q4] bs) (hn : bs.Nodup) (ho : ∀ b ∈ bs, b < w.heap.size) :
  CallsD Try.prog 65 #[q2, q3, q4] (.panicking (chain 45 e)) w fun en u' w' => en = .returned (.tuple #[]) ∧ u' = .panicking [{ v := .iface 45 (.int .i64 e), recovered := true }] ∧
   ∃ g bx', Inv m w (· ∈ bs) g bx' w' ∧ RAl g bx' p65 [q2, q3, q4] ∧ bx' [0] = some (.cells z36 0) ∧ bx' [1] = some (.cells [.d (.int .i64 0)] 0) ∧ bx' [2] = some (.cells [.d (.int .i64 e)] 0) := by
 refine callsD_of_wpS Try.func65 rfl fun c₀ cs hu => ?_
 obtain ⟨g, hi, hv⟩ := enter_spec hc hr hn ho take65
 have hst := stOk_enter (mg := mg0) (N := Try.f65.ntmps) hi (fun _ _ _ h => by cases h) hv (by rw [Try.ntmps65]; simp)
 rw [Try.ntmps65] at hst
 rw [show Try.f65.ntmps = 17 from Try.ntmps65]
 have hv0 : ([q2, q3, q4].toArray : Array Value) = #[q2, q3, q4] := rfl
 rw [hv0] at hst
 generalize ({ tmps := #[q2, q3, q4] ++ Array.replicate (17 - (#[q2, q3, q4] : Array Value).size) undef, defers := [] } : Act) = a0 at hst ⊢
 have hN0 : a0.tmps.size = 17 := by obtain ⟨_, _, _, h, _⟩ := hst; exact h
 let x : Value := .iface 45 (.int .i64 e)
 apply wpS_seq; apply wpS_region
 have hrec : recoverD (c₀ :: cs) = some (x, { c₀ with mode := .panicking [{ v := x, recovered := true }] } :: cs) := by
  simp [recoverD, hu, chain, x]
 have k1 : (a0.put (some 6) x).eval (.tmp 6) = x := put_same (by omega)
 show wpOpsS _ _ _ [0, 1] _ _ _
 simp only [wpOpsS, List.getElem?_toArray, List.getElem?_cons_zero, List.getElem?_cons_succ, Region.wanted, if_true]
 have r0 : ∀ (f : Operand → Value) ty pos aft, (execOp f ⟨some 6, .call { callee := .builtin .recover, args := #[], argTypes := #[] }, ty, pos, aft, none⟩).run Try.prog w = .ok .recover w := fun _ _ _ _ => by simp [go_sem]
 simp only [r0, hrec]
 have r1 : ∀ ty pos aft, (execOp (a0.put (some 6) x).eval ⟨some 3, .assign (.tmp 6), ty, pos, aft, none⟩).run Try.prog w = .ok (.value x) w := fun _ _ _ => by simp only [execOp, k1, Sem.run_pure]
 simp only [r1, Oper.upon_value]
 have hst1 : StOk [] mg0 m w (· ∈ bs) 17 p65 [q2, q3, q4] s65b ((a0.put (some 6) x).put (some 3) x) w :=
  StOk.put1 (StOk.put1 hst (d := 6) (by omega) (b := b65) rfl (fun g => .top _)) (d := 3) (by omega) rfl (fun g => .top _)
 have h3 : ((a0.put (some 6) x).put (some 3) x).tmps.getD 3 undef = x := put_same (by simp [Act.put, hN0])
 generalize (a0.put (some 6) x).put (some 3) x = a2 at hst1 h3 ⊢
 have hN2 : a2.tmps.size = 17 := by obtain ⟨_, _, _, h, _⟩ := hst1; exact h
 refine wpS_of_wp ?_
 refine wp_seq (wp_region ?_)
 show wpOps _ _ _ [0, 1] _ _
 have e3 : a2.eval (.tmp 3) = x := h3
 refine wpOps_value rfl (by simp only [execOp, e3, Sem.run_pure]; rfl) ?_
 have e7 : (a2.put (some 7) x).eval (.tmp 7) = x := put_same (by omega)
 refine wpOps_value rfl (v := .bool true) (w' := w) (run_neq (e := e) e7 rfl) ?_
 have hst2 : StOk [] mg0 m w (· ∈ bs) 17 p65 [q2, q3, q4] s65c ((a2.put (some 7) x).put (some 8) (.bool true)) w :=
  StOk.put1 (StOk.put1 hst1 (d := 7) (by omega) (b := b65) rfl (fun g => .top _)) (d := 8) (by omega) rfl (fun g => .d (.bool true))
 have h3' : ((a2.put (some 7) x).put (some 8) (.bool true)).tmps.getD 3 undef = x := by rw [put_other (by decide), put_other (by decide)]; exact h3
 have h8 : ((a2.put (some 7) x).put (some 8) (.bool true)).eval (.tmp 8) = .bool true := put_same (by simp [Act.put, hN2])
 generalize (a2.put (some 7) x).put (some 8) (.bool true) = a3 at hst2 h3' h8 ⊢
 show Code.wp _ _ _ a3 w
 refine wp_cond (t := true) h8 ?_
 simp only [if_true]
 refine wp_seq (wp_region ?_)
 show wpOps _ _ _ [0, 1, 2] _ _
 rw [wpOps_cons]
 refine step_keep (C := L0) (ao := l65c[0]) (s' := s65d1) rfl (compAo_spec no_globals (g := l65c[0]) (by kernel_rfl)) nofun nofun rfl (by kernel_rfl) hst2 fun a4 w4 hst4 hs4 => ?_
 have k4 := (hs4 3 (by decide)).trans h3'
 rw [wpOps_cons]
 refine step_keep (C := L0) (ao := l65c[1]) (s' := s65d2) rfl (compAo_spec no_globals (g := l65c[1]) (by kernel_rfl)) nofun nofun rfl (by kernel_rfl) hst4 fun a5 w5 hst5 hs5 => ?_
 have k5 := (hs5 3 (by decide)).trans k4
 rw [wpOps_cons]
 refine step_keep (C := L0) (ao := l65c[2]) (s' := s65d) rfl (compAo_spec no_globals (g := l65c[2]) (by kernel_rfl)) nofun nofun rfl (by kernel_rfl) hst5 fun a6 w6 hst6 hs6 => ?_
 have k6 := (hs6 3 (by decide)).trans k5
 show Code.wp _ _ _ a6 w6
 refine wp_seq (wp_region ?_)
 show wpOps _ _ _ [0] _ _
 rw [wpOps_cons]
 refine step_keep (C := L0) (ao := l65d[0]) (s' := s65e) rfl (compAo_spec no_globals (g := l65d[0]) (by kernel_rfl)) nofun nofun rfl (by kernel_rfl) hst6 fun a7 w7 hst7 hs7 => ?_
 have k7 := (hs7 3 (by decide)).trans k6
 have hN7 : a7.tmps.size = 17 := by obtain ⟨_, _, _, h, _⟩ := hst7; exact h
 show Code.wp _ _ _ a7 w7
 refine wp_seq (wp_region ?_)
 show wpOps _ _ _ [0, 1, 2, 3, 4, 5, 6] _ _
 have e3 : a7.eval (.tmp 3) = x := k7
 refine wpOps_value rfl (by simp only [execOp, e3, Sem.run_pure]; rfl) ?_
 have e11 : (a7.put (some 11) x).eval (.tmp 11) = x := put_same (by omega)
 refine wpOps_value rfl (v := .tuple #[.int .i64 e, .bool true]) (w' := w7) (run_assert e11) ?_
 have hst8 : StOk [] mg0 m w (· ∈ bs) 17 p65 [q2, q3, q4] (s65f e) ((a7.put (some 11) x).put (some 12) (.tuple #[.int .i64 e, .bool true])) w7 :=
  StOk.put1 (StOk.put1 hst7 (d := 11) (by omega) (b := s65e.bx) rfl (fun g => .top _)) (d := 12) (by omega) rfl (fun g => .tup _ _ rfl (fun j hj => match j, hj with | 0, _ => .d (.int .i64 e) | 1, _ => .d (.bool true)))
 refine wpOps_tail meets0 (m0 := m) (fun _ _ _ h => by cases h) l65f 2 (s65f e) (s65g e) _ w7 rfl (fun i o ao h1 h2 => ?_) hst8 (by kernel_rfl) fun a9 w9 hst9 => ?_
 ·match i, h1, h2 with
  | 0, h1, h2 => cases h1; cases h2; exact compAo_spec no_globals (g := l65f[0]) (by kernel_rfl)
  | 1, h1, h2 => cases h1; cases h2; exact compAo_spec no_globals (g := l65f[1]) (by kernel_rfl)
  | 2, h1, h2 => cases h1; cases h2; exact compAo_spec no_globals (g := l65f[2]) (by kernel_rfl)
  | 3, h1, h2 => cases h1; cases h2; exact compAo_spec no_globals (g := l65f[3]) (by kernel_rfl)
  | 4, h1, h2 => cases h1; cases h2; exact compAo_spec no_globals (g := l65f[4]) (by kernel_rfl)
  | n + 5, h1, h2 => cases h1
 show Code.wp _ _ _ a9 w9
 let s65h : St := put' (put' (put' (s65g e) (some 15) (.d (.bool true)) (s65g e).bx) (some 16) (.d (.int .i64 e)) (s65g e).bx) none (.tup []) (updW (s65g e).bx [([2], some (.cells [.d (.int .i64 e)] 0))])
 refine exec_sound (m0 := m) meets0 (fun _ _ _ h => by cases h) (pb := [[0], [1], [2]]) (by kernel_rfl) (compA_spec no_globals A65g _ (by kernel_rfl)) (show exec L0 0 A65g (s65g e) = some (.nrm, s65h) from by kernel_rfl) (fun a10 w10 hst10 => ?_) a9 w9 hst9
 obtain ⟨g2, h1, h2, h3, h4, h5⟩ := hst10
 refine ⟨h4, _, rfl, .tuple #[], ?_, rfl, rfl, g2, s65h.bx, h1, h5, by kernel_rfl, by kernel_rfl, by kernel_rfl⟩
 simp [results, Try.results65]
end Go.Es.Sca
namespace Go.Es.Sca
open Go.Proofs
theorem ra_ptr0 {g : Gh} {bx : Bx} {id : Id} {cs : List A} {q : Value} (hb : bx id = some (.cells cs 0)) (hq : RA g bx (.ptr id 0 0) q) : ∃ p, g.β id = some p ∧ q = .pointer (some ⟨p.b, 0, none⟩) := by
 cases hq with
 | ptrOld _ _ _ b x hb' hlt => rw [hb] at hb'; cases hb'; simp only [Box.ver_cells] at hlt; omega
 | ptr _ _ _ cs p hb' hp => exact ⟨p, hp, rfl⟩
def pa34 (es : List D) : List A := [.d (.sl es), .ptr [2] 0 0, .ptr [3] 0 0, .ptr [4] 0 0]
def pb34 : List Id := [[2], [3], [4]]
theorem get_calls (b : List Int) (r : Inst × Int × Int) (h : scan_Get b = some r) (m : Mm) (w : World) (v : Value) (hc : Cons m w) (hv : RD m (.sl (List.map (D.int .u8) b)) v) :
  Calls Try.prog 34 #[v] w fun e w' => ∃ v' m' rbs abs, e = .returned v' ∧ After m w [] m' w' (res34 r) v' [.d (.sl (List.map (D.int .u8) b))] [v] rbs abs := by
 refine calls_of_wp_defers Try.func34 rfl ?_
 generalize hes : List.map (D.int .u8) b = es at hv
 obtain ⟨g, hi, hrv⟩ := enter_spec (m := m) (w := w) (args := [.d (.sl es)]) (vs := [v]) (bs := []) hc (Each.cons (RT.one (R1.cell (RC.d hv))) Each.nil) List.nodup_nil (fun b hb => by cases hb) (show takesP (fun _ => none) 0 [.d (.sl es)] = some ([.d (.sl es)], fun _ => none) from rfl)
 have hst := stOk_enter (mg := mg0) (N := Try.f34.ntmps) hi (fun _ _ _ h => by cases h) hrv (by rw [Try.ntmps34]; simp)
 rw [Try.ntmps34] at hst
 rw [show Try.f34.ntmps = 17 from Try.ntmps34]
 have hv0 : ([v].toArray : Array Value) = #[v] := rfl
 rw [hv0] at hst
 generalize ({ tmps := #[v] ++ Array.replicate (17 - (#[v] : Array Value).size) undef, defers := [] } : Act) = a0 at hst ⊢
 refine wp_seq (exec_sound meets0 (fun _ _ _ h => by cases h) (pb := []) (by kernel_rfl) (compA_spec no_globals (.ops l34a) _ (by kernel_rfl)) (show exec L0 0 (.ops l34a) (s34a es) = some (.nrm, s34b es) from by kernel_rfl) (fun a1 w1 hst1 => ?_) a0 w hst)
 show Code.wp _ _ _ a1 w1
 refine wp_seq (wp_region ?_)
 show wpOps _ _ _ [0, 1] _ _
 rw [wpOps_cons]
 refine step_keep (C := L0) (ao := o34b) (s' := s34c es) rfl (compAo_spec no_globals (g := o34b) (by kernel_rfl)) nofun nofun rfl (by kernel_rfl) hst1 fun a2 w2 hst2 _ => ?_
 -- the deferred call
 obtain ⟨g2, hi2, ht2, hN2, hd2, hpa2⟩ := hst2
 have hfn : RA g2 (s34c es).bx fn65 (a2.tmps.getD 6 undef) := ht2.2 6
 obtain ⟨q2, q3, q4, hq, r2, r3, r4⟩ : ∃ q2 q3 q4, a2.tmps.getD 6 undef = .func (.func 65) #[] #[q2, q3, q4] ∧ RA g2 (s34c es).bx (.ptr [2] 0 0) q2 ∧ RA g2 (s34c es).bx (.ptr [3] 0 0) q3 ∧ RA g2 (s34c es).bx (.ptr [4] 0 0) q4 := by
  generalize a2.tmps.getD 6 undef = fv at hfn
  cases hfn with
  | fn _ _ vs hl hr =>
   obtain ⟨l⟩ := vs
   match l, hl, hr with
   | [q2, q3, q4], hl, hr => exact ⟨q2, q3, q4, rfl, hr 0 (by simp), hr 1 (by simp), hr 2 (by simp)⟩
 let d : Deferred := { target := .fn (.func 65) #[q2, q3, q4], args := #[] }
 rw [wpOps_cons]
 unfold wpOp
 simp only [List.getElem?_toArray, List.getElem?_cons_succ, List.getElem?_cons_zero, Region.wanted, if_true]
 refine .inl ?_
 have rd : ∀ ty pos aft, (execOp a2.eval ⟨none, .defer { callee := .value (.tmp 6), args := #[], argTypes := #[] }, ty, pos, aft, none⟩).run Try.prog w2 = .ok (.defer d) w2 := fun ty pos aft => by
  have e : a2.eval (.tmp 6) = .func (.func 65) #[] #[q2, q3, q4] := hq
  simp [execOp, resolve, e, Deferred.ofValue, d]
 unfold Oper.wp
 rw [rd]
 simp only [Oper.upon_defer]
 have hst3 : StOk [d] mg0 m w (· ∈ ([] : List Nat)) 17 (pa34 es) [v, q2, q3, q4] (s34c es) ({ a2 with defers := d :: a2.defers }.put none undef) w2 := by
  refine ⟨g2, hi2, ht2, hN2, by simp [Act.put, hd2], ?_⟩
  cases hpa2 with | cons h5 _ => exact .cons h5 (.cons r2 (.cons r3 (.cons r4 .nil)))
 generalize ({ a2 with defers := d :: a2.defers } : Act).put none undef = a3 at hst3 ⊢
 show Code.wp _ _ _ a3 w2
 have fnm : mg0.le m := fun _ _ _ h => by cases h
 -- behind the deferred call
 have leave : ∀ {u : FrameMode} {a : Act} {w' : World} {R : Ending → World → Prop}, u ≠ .run → a.defers = [d] → CallsD Try.prog 65 #[q2, q3, q4] u w' (fun
       | .returned _, u', w' => Leaves Try.prog Try.f34 a.tmps R [] (settle u') w'
       | .panicked chain, u', w' => Leaves Try.prog Try.f34 a.tmps R [] (raised u' chain) w'
       | .outgrown, _, w' => R .outgrown w') → Leaves Try.prog Try.f34 a.tmps R a.defers u w' := by
  intro u a w' R hu hd hcd
  rw [hd]
  exact leaves_cons hu (by simp [invoke, go_sem]) hcd
 simp only [scan_Get] at h
 cases ht : scan_source_take { b := b, at_ := 0 } with
 | some rt =>
  rw [ht] at h
  cases h
  obtain ⟨⟨o, sf⟩, ⟨ho, hf⟩, k, hk⟩ := get_runs b rt ht
  simp only at ho hf
  subst ho
  have hk := hk k (Nat.le_refl _)
  rw [hes] at hk
  refine exec_sound meets0 fnm (pb := pb34) (by kernel_rfl) (compA_spec no_globals (.seq (.ops l34c) (.seq (.ops l34d) (.seq (.ops l34e) .ret))) _ (by kernel_rfl)) hk (fun a4 w4 hst4 => ?_) a3 w2 hst3
  obtain ⟨g4, i4, t4, n4, d4, p4⟩ := id hst4
  show Leaves _ _ _ _ a4.defers _ _
  refine leave (by simp) d4 ((catch_idle q2 q3 q4 w4).mono ?_)
  rintro en u' w5 ⟨rfl, rfl, rfl⟩
  obtain ⟨v', hrun, m', rbs, abs, haf⟩ := fin34 rfl hf hst4.less
  exact ⟨v', hrun, v', m', rbs, abs, rfl, haf⟩
 | none =>
  rw [ht] at h
  simp only [Option.bind_eq_some_iff] at h
  obtain ⟨e, he, h⟩ := h
  cases h
  have hK : K1 66 [.ptr [.d (.sl es), .d (.int .i64 0)]] e := by rw [← hes]; exact scan_source_take_D_L _ e he
  refine wp_seq (exec_sound meets0 fnm (pb := pb34) (by kernel_rfl) (compA_spec no_globals (.ops l34c) _ (by kernel_rfl)) (show exec L0 0 (.ops l34c) (s34c es) = some (.nrm, s34d es) from by kernel_rfl) (fun a4 w4 hst4 => ?_) a3 w2 hst3)
  show Code.wp _ _ _ a4 w4
  refine wp_seq (wp_region ?_)
  show wpOps _ _ _ [0, 1, 2] _ _
  rw [wpOps_cons]
  refine step_keep (C := L0) (ao := l34d[0]) (s' := s34e es) rfl (compAo_spec no_globals (g := l34d[0]) (by kernel_rfl)) nofun nofun rfl (by kernel_rfl) hst4 fun a5 w5 hst5 _ => ?_
  obtain ⟨g5, i5, t5, n5, d5, p5⟩ := hst5
  have h10 : RA g5 (s34e es).bx (.ptr [9] 0 0) (a5.tmps.getD 10 undef) := t5.2 10
  obtain ⟨hfn, hcall⟩ := dieCall_keep (av := []) (al := none) (ts := [.ptr [.d (.sl es), .d (.int .i64 0)]]) i5 fnm (.cons h10 .nil) rfl (by kernel_rfl) (by kernel_rfl) hK
  obtain ⟨fn, hf, hb, hn⟩ := hfn
  rw [wpOps_cons]
  unfold wpOp
  simp only [List.getElem?_toArray, List.getElem?_cons_succ, List.getElem?_cons_zero, Region.wanted, if_true]
  refine .inl ?_
  have rc : ∀ ty pos aft, execOp a5.eval ⟨some 11, .call { callee := .value (.func 66), args := #[.tmp 10], argTypes := #[71] }, ty, pos, aft, none⟩ = callFunc 66 #[a5.eval (.tmp 10)] := fun ty pos aft => by
   simp [execOp, resolve, Act.eval, Deferred.ofValue, pure_bind, invoke]
  unfold Oper.wp
  rw [rc, run_callFunc_enter hf hb hn]
  simp only [Oper.upon]
  refine hcall.mono fun en w6 hh => ?_
  obtain ⟨m6, rfl, hdead, hle6, hkeep⟩ := hh
  show Leaves _ _ _ _ a5.defers _ _
  have p5' : RAl g5 (s34e es).bx (pa34 es) [v, q2, q3, q4] := p5
  cases p5' with | cons rv p5' =>
  cases p5' with | cons r2 p5' =>
  cases p5' with | cons r3 p5' =>
  cases p5' with | cons r4 p5' =>
  obtain ⟨p2, e2, rfl, o2, l2, t2⟩ := ptr_of_box (m' := m6) (w' := w6) (ds := Inst.cs inst0) i5.sim (show (s34e es).bx [2] = _ by kernel_rfl) r2 (by decide) hle6 (fun p hp => hkeep [2] z36 0 p (by kernel_rfl) (by decide) hp)
  obtain ⟨p3, e3, rfl, o3, l3, t3⟩ := ptr_of_box (m' := m6) (w' := w6) (ds := [.int .i64 0]) i5.sim (show (s34e es).bx [3] = _ by kernel_rfl) r3 (by decide) hle6 (fun p hp => hkeep [3] [.d (.int .i64 0)] 0 p (by kernel_rfl) (by decide) hp)
  obtain ⟨p4, e4, rfl, o4, l4, t4⟩ := ptr_of_box (m' := m6) (w' := w6) (ds := [.int .i64 0]) i5.sim (show (s34e es).bx [4] = _ by kernel_rfl) r4 (by decide) hle6 (fun p hp => hkeep [4] [.d (.int .i64 0)] 0 p (by kernel_rfl) (by decide) hp)
  have n23 : p2.b ≠ p3.b := fun hx => by have := i5.sim.apart [2] [3] p2 p3 (by rw [show (s34e es).bx [2] = some (.cells z36 0) by kernel_rfl]; simp) (by rw [show (s34e es).bx [3] = some (.cells [.d (.int .i64 0)] 0) by kernel_rfl]; simp) e2 e3 hx; cases this
  have n24 : p2.b ≠ p4.b := fun hx => by have := i5.sim.apart [2] [4] p2 p4 (by rw [show (s34e es).bx [2] = some (.cells z36 0) by kernel_rfl]; simp) (by rw [show (s34e es).bx [4] = some (.cells [.d (.int .i64 0)] 0) by kernel_rfl]; simp) e2 e4 hx; cases this
  have n34 : p3.b ≠ p4.b := fun hx => by have := i5.sim.apart [3] [4] p3 p4 (by rw [show (s34e es).bx [3] = some (.cells [.d (.int .i64 0)] 0) by kernel_rfl]; simp) (by rw [show (s34e es).bx [4] = some (.cells [.d (.int .i64 0)] 0) by kernel_rfl]; simp) e3 e4 hx; cases this
  have fresh : ∀ {p : Pl}, ((w.heap.size ≤ p.b ∨ p.b ∈ ([] : List Nat)) ∧ p.b < w5.heap.size) → w.heap.size ≤ p.b := fun hx => hx.1.resolve_right (by simp)
  have hcd := catch_panic (m := m6) (w := w6) (bs := [p2.b, p3.b, p4.b]) (e := e) hdead.cons (.cons t2 (.cons t3 (.cons t4 .nil))) (by simp [n23, n24, n34]) (by
   intro x hx
   simp only [List.mem_cons, List.not_mem_nil, or_false] at hx
   rcases hx with rfl | rfl | rfl <;> assumption)
  refine leave (by simp [chain]) d5 (hcd.mono ?_)
  rintro en u' w7 ⟨rfl, rfl, g7, bx7, i7, ra7, b0, b1, b2⟩
  have hset : settle (.panicking [{ v := .iface 45 (.int .i64 e), recovered := true }]) = .returning := rfl
  simp only [hset]
  cases ra7 with | cons rr2 ra7 =>
  cases ra7 with | cons rr3 ra7 =>
  cases ra7 with | cons rr4 ra7 =>
  let s7 : St := ⟨tab [(2, .ptr [0] 0 0), (3, .ptr [1] 0 0), (4, .ptr [2] 0 0)], bx7⟩
  have at_ : ∀ {t : Nat} {id : Id} {cs : List A} {p : Pl}, (s34e es).tm t = .ptr id 0 0 → (s34e es).bx id = some (.cells cs 0) → g5.β id = some p → a5.tmps.getD t undef = .pointer (some ⟨p.b, 0, none⟩) := by
   intro t id cs p h1 h2 h3
   have := t5.2 t
   rw [h1] at this
   obtain ⟨p', h4, h5⟩ := ra_ptr0 h2 this
   rw [h3] at h4; cases h4
   exact h5
  have a2v := at_ (t := 2) (by kernel_rfl) (show (s34e es).bx [2] = some (.cells z36 0) by kernel_rfl) e2
  have a3v := at_ (t := 3) (by kernel_rfl) (show (s34e es).bx [3] = some (.cells [.d (.int .i64 0)] 0) by kernel_rfl) e3
  have a4v := at_ (t := 4) (by kernel_rfl) (show (s34e es).bx [4] = some (.cells [.d (.int .i64 0)] 0) by kernel_rfl) e4
  have hs7 : StOk [d] mg0 m6 w6 (· ∈ [p2.b, p3.b, p4.b]) 17 [.d (.sl es)] [v] s7 a5 w7 := by
   refine ⟨g7, i7, ⟨(fun _ _ _ h => by cases h), fun t => ?_⟩, n5, d5, .cons ?_ .nil⟩
   ·show RA g7 bx7 (tab [(2, .ptr [0] 0 0), (3, .ptr [1] 0 0), (4, .ptr [2] 0 0)] t) _
    simp only [tab]
    split
    ·rename_i ht; subst ht; rw [a2v]; exact rr2
    ·split
     ·rename_i ht; subst ht; rw [a3v]; exact rr3
     ·split
      ·rename_i ht; subst ht; rw [a4v]; exact rr4
      ·exact .top _
   ·cases rv with | d hd => exact .d ((hd.mono hle6).mono i7.mle)
  have hf7 : Fin34 (inst0, 0, e) s7 := by
   simp [Fin34, ress, rs34, resA, s7, tab, loadA, okId, b0, b1, b2, sub, z36, Inst.cs, Inst.d, mkAgg, allD, inst0]
  obtain ⟨v', hrun, m', rbs, abs, haf⟩ := fin34 (fn := Try.f34) rfl hf7 hs7
  refine ⟨v', hrun, v', m', rbs, abs, rfl, After.of_dead hdead haf fun x hx => ?_⟩
  simp only [List.mem_cons, List.not_mem_nil, or_false] at hx
  rcases hx with rfl | rfl | rfl
  ·exact fresh o2
  ·exact fresh o3
  ·exact fresh o4
def byteL : List D → Option (List Int)
 | [] => some []
 | .int .u8 n :: r => (byteL r).bind fun l => some (n :: l)
 | _ => none
theorem byteL_map : ∀ b : List Int, byteL (List.map (D.int .u8) b) = some b
 | [] => rfl
 | n :: b => by simp only [List.map_cons, byteL, byteL_map b, Option.bind_some]
theorem byteL_spec : ∀ {es : List D} {b : List Int}, byteL es = some b → es = List.map (D.int .u8) b
 | [], b, h => by simp only [byteL, Option.some.injEq] at h; subst h; rfl
 | x :: r, b, h => by
  match x, h with
  | .int .u8 n, h =>
   simp only [byteL, Option.bind_eq_some_iff] at h
   obtain ⟨l, h1, h2⟩ := h
   cases h2
   rw [List.map_cons, ← byteL_spec h1]
noncomputable def X1 : Cs := fun f args => if f = 34 then match args with
 | [.d (.sl es)] => (byteL es).bind fun b => (scan_Get b).bind fun r => some (res34 r, [.d (.sl es)])
 | _ => none else none
theorem X1_meets (f : Nat) : Meets mg0 Try.prog f (X1 f) := by
 intro m w args vs bs hmg hc hr hn ho r args' hs
 unfold X1 at hs
 split at hs
 ·rename_i hf
  subst hf
  split at hs
  ·rename_i es
   simp only [Option.bind_eq_some_iff, Option.some.injEq, Prod.mk.injEq] at hs
   obtain ⟨b, h1, r', h2, rfl, rfl⟩ := hs
   obtain rfl := byteL_spec h1
   cases hr with | cons h k =>
   cases k
   cases h with | one h =>
   cases h with | cell h =>
   cases h with | d h =>
   exact .inl ⟨⟨Try.f34, Try.func34, rfl, by decide⟩, get_calls b r' h2 m w _ hc h⟩
  ·cases hs
 ·cases hs
noncomputable def L : Cs := lim tab1 X1
theorem meets1 (f : Nat) : Meets mg0 Try.prog f (L f) := lim_meets tab1_ok (fun f _ => X1_meets f) f
theorem scan_Get_L (b_ : List Int) (r : Inst × Int × Int) (h : scan_Get b_ = some r) : L 34 [.d (.sl (mY b_))] = some (.tup [.d (Inst.d r.1), .d (.int .i64 r.2.1), .d (.int .i64 r.2.2)], [.d (.sl (mY b_))]) :=
 lim_ext rfl (by show (byteL (List.map (D.int .u8) b_)).bind _ = _; rw [byteL_map, Option.bind_some, h]; rfl)
end Go.Es.Sca
