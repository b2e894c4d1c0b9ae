/- EsB: part of an interpreter of the program's code whose answers are the machine's. No condition. -/
import Derived.Test.YteikhdaaofiefaaGreatEsA
import Derived.Lib.SliceRun
import Derived.WalkSpells
import Derived.Orders
set_option linter.unusedSimpArgs false
set_option linter.unusedVariables false
namespace Go.Es

variable {mg m0 : Mm} {w0 : World} {OO : Nat → Prop} {g : Gh} {bx : Bx} {w : World} {P : Program}

/-- An operation of the machine, and the interpreter's (calls apart). -/
inductive FitsK (mg : Mm) (P : Program) : Op → TypeId → K → List O → Prop where
  | move (ty) (x o) (h : FO mg x o) : FitsK mg P (.move x) ty .mv [o]
  | assign (ty) (x o) (h : FO mg x o) : FitsK mg P (.assign x) ty .mv [o]
  | pick (ty) (c a b c' a' b') (h1 : FO mg c c') (h2 : FO mg a a') (h3 : FO mg b b') : FitsK mg P (.pick c a b) ty .pick [c', a', b']
  | alloc (ty t z) (hz : ZeroOk P t z) : FitsK mg P (.alloc t) ty (.alloc z) []
  | box (ty t x o n) (h : FO mg x o) (hn : n ≠ 0) : FitsK mg P (.box t x) ty (.box n) [o]
  | build (ty t z) (parts : Array (Nat × Operand)) (idx : List Nat) (xs : List Operand) (ps os) (he : parts = (idx.zip xs).toArray) (hz : ZeroOk P t z) (hp : PartsOk P t idx ps) (h : FOs mg xs os) :
      FitsK mg P (.build t parts) ty (.build z ps) os
  | bslice (ty t e z n) (parts : Array (Nat × Operand)) (at_ : List Nat) (xs : List Operand) (os) (he : parts = (at_.zip xs).toArray) (hu : P.underlying t = some (.slice e)) (hz : ElemOk P e z)
      (hlim : ∀ i, P.info? e = some i → n * i.size ≤ 2 ^ 24) (h : FOs mg xs os) : FitsK mg P (.buildSlice t n parts) ty (.bslice z n at_) os
  | load (ty t x o agg) (ha : AggOk P t agg) (h : FO mg x o) : FitsK mg P (.load t x) ty (.load agg) [o]
  | store (ty t x v o o' n i) (hi : P.info? t = some i) (hn : n = i.size) (hpos : 0 < n) (h : FO mg x o) (h' : FO mg v o') : FitsK mg P (.store t x v) ty (.store n) [o, o']
  | nilchk (ty x o) (h : FO mg x o) : FitsK mg P (.nilCheck x) ty .nilchk [o]
  | nilS (ty op t e x y o o' yt) (ne : Bool) (hne : op = if ne then .neq else .eql) (hu : P.underlying t = some (.slice e)) (h : FO mg x o) (h' : FO mg y o') : FitsK mg P (.binOp op t x y yt) ty (.nilS ne) [o, o']
  | bin (ty op t x y o o' yt) (h : FO mg x o) (h' : FO mg y o') : FitsK mg P (.binOp op t x y yt) ty (.bin op) [o, o']
  | eqb (ty t x y o o' yt ne) (hu : P.underlying t = some .bool) (h : FO mg x o) (h' : FO mg y o') : FitsK mg P (.binOp (if ne then .neq else .eql) t x y yt) ty (.eqb ne) [o, o']
  | eqp (ty t x y o o' yt ne e) (hu : P.underlying t = some (.pointer e)) (h : FO mg x o) (h' : FO mg y o') : FitsK mg P (.binOp (if ne then .neq else .eql) t x y yt) ty (.eqp ne) [o, o']
  | eqa (ty t x y o o' yt ne ks) (he : EqT P 10000 t ks) (hst : ∃ fs, P.underlying t = some (.struct fs)) (hg : P.eqGuardType P.depth t = false) (h : FO mg x o) (h' : FO mg y o') :
      FitsK mg P (.binOp (if ne then .neq else .eql) t x y yt) ty (.eqa ne ks) [o, o']
  | un (ty op t x o) (h : FO mg x o) : FitsK mg P (.unOp op t x) ty (.un op) [o]
  | toInt (ty src dst x o k d0) (hs : P.underlying src = some d0) (hd : P.underlying dst = some (.int k)) (h : FO mg x o) : FitsK mg P (.convert src dst x) ty (.toInt k) [o]
  | sameS (ty src dst x o) (hs : P.underlying src = some .string) (hd : P.underlying dst = some .string) (h : FO mg x o) : FitsK mg P (.convert src dst x) ty .sameS [o]
  | strBytes (ty src dst e x o) (hs : P.underlying src = some .string) (hd : P.underlying dst = some (.slice e)) (he : P.underlying e = some (.int .u8)) (h : FO mg x o) : FitsK mg P (.convert src dst x) ty .strBytes [o]
  | bytesStr (ty src dst e x o) (hs : P.underlying src = some (.slice e)) (hd : P.underlying dst = some .string) (he : P.underlying e = some (.int .u8)) (h : FO mg x o) : FitsK mg P (.convert src dst x) ty .bytesStr [o]
  | mkslice (ty t e z b x y o o') (hu : P.underlying t = some (.slice e)) (hz : ElemOk P e z) (hb : ∀ i, P.info? e = some i → i.bytes = b) (h : FO mg x o) (h' : FO mg y o') :
      FitsK mg P (.makeSlice t x y) ty (.mkslice z b) [o, o']
  | substr (ty t x) (l hh : Option Operand) (os lo hi) (hu : P.underlying t = some .string) (hlo : lo = l.isSome) (hhi : hi = hh.isSome) (h : FOs mg ([x] ++ l.toList ++ hh.toList) os) :
      FitsK mg P (.slice t x l hh none) ty (.substr lo hi) os
  | subsl (ty t e x) (l hh m : Option Operand) (os n lo hi mx i) (hu : P.underlying t = some (.slice e)) (hei : P.info? e = some i) (hn : i.size = n) (hlo : lo = l.isSome) (hhi : hi = hh.isSome) (hmx : mx = m.isSome)
      (h : FOs mg ([x] ++ l.toList ++ hh.toList ++ m.toList) os) : FitsK mg P (.slice t x l hh m) ty (.subsl n lo hi mx) os
  | faddr (ty t x f o off) (fs : Array Field) (fl i) (hu : P.underlying t = some (.struct fs)) (hf : fs[f]? = some fl) (hi : P.info? fl.type = some i) (hs : i.size ≠ 0) (ho : fl.offset = off) (h : FO mg x o) :
      FitsK mg P (.fieldAddr t x f) ty (.faddr off) [o]
  | field (ty t x f o off agg) (fs : Array Field) (fl) (hu : P.underlying t = some (.struct fs)) (hf : fs[f]? = some fl) (ha : AggOk P fl.type agg) (ho : fl.offset = off) (h : FO mg x o) :
      FitsK mg P (.field t x f) ty (.field off agg) [o]
  | iaddrA (ty t e len size x y o o' i) (hu : P.underlying t = some (.array len e)) (hi : P.info? e = some i) (hs : i.size = size) (h : FO mg x o) (h' : FO mg y o') :
      FitsK mg P (.indexAddr t x y) ty (.iaddrA len size) [o, o']
  | iaddrS (ty t e size x y o o' i) (hu : P.underlying t = some (.slice e)) (hi : P.info? e = some i) (hs : i.size = size) (h : FO mg x o) (h' : FO mg y o') :
      FitsK mg P (.indexAddr t x y) ty (.iaddrS size) [o, o']
  | indexS (ty t x y o o') (hu : P.underlying t = some .string) (h : FO mg x o) (h' : FO mg y o') : FitsK mg P (.index t x y) ty .indexS [o, o']
  | indexA (ty t e len size x y o o' agg i) (hu : P.underlying t = some (.array len e)) (hi : P.info? e = some i) (hs : i.size = size) (ha : AggOk P e agg) (h : FO mg x o) (h' : FO mg y o') :
      FitsK mg P (.index t x y) ty (.indexA len size agg) [o, o']
  | extract (ty x o i) (h : FO mg x o) : FitsK mg P (.extract x i) ty (.extract i) [o]
  | mkfn (ty f) (caps : Array Operand) (os) (h : FOs mg caps.toList os) : FitsK mg P (.makeFunc (.func f) #[] caps) ty (.mkfn f) os
  | lenS (ty x o t) (hu : P.underlying t = some .string) (h : FO mg x o) : FitsK mg P (.call { callee := .builtin .len, args := #[x], argTypes := #[t] }) ty .lenS [o]
  | lenL (ty x o t e) (hu : P.underlying t = some (.slice e)) (h : FO mg x o) : FitsK mg P (.call { callee := .builtin .len, args := #[x], argTypes := #[t] }) ty .lenL [o]
  | append (ty x y o o' ts tx e n bytes str) (hok : AppOk P ts tx e n bytes) (hstr : str = true → n = 1) (h : FO mg x o) (h' : FO mg y o') :
      FitsK mg P (.call { callee := .builtin .append, args := #[x, y], argTypes := #[ts, tx] }) ty (.append n bytes str) [o, o']
  | appmk (ty x y o o' ts tx e z bytes kt) (hu : P.underlying ts = some (.slice e)) (hd : P.underlying tx = some (.int kt)) (hz : ElemOk P e z) (hb : ∀ i, P.info? e = some i → i.bytes = bytes) (hb0 : 0 < bytes) (hb1 : bytes ≤ 2 ^ 30) (h : FO mg x o) (h' : FO mg y o') :
      FitsK mg P (.call { callee := .builtin .append, args := #[x, y], argTypes := #[ts, tx] }) ty (.appmk z bytes) [o, o']
  | copy (ty x y o o' td ts e n str i) (hu : P.underlying td = some (.slice e)) (hi : P.info? e = some i) (hn : i.size = n) (hstr : str = true → n = 1) (h : FO mg x o) (h' : FO mg y o') :
      FitsK mg P (.call { callee := .builtin .copy, args := #[x, y], argTypes := #[td, ts] }) ty (.copy n str) [o, o']
  | mn (ty x y o o' ats) (h : FO mg x o) (h' : FO mg y o') : FitsK mg P (.call { callee := .builtin .min, args := #[x, y], argTypes := ats }) ty .mn [o, o']
  | mx (ty x y o o' ats) (h : FO mg x o) (h' : FO mg y o') : FitsK mg P (.call { callee := .builtin .max, args := #[x, y], argTypes := ats }) ty .mx [o, o']

theorem run_builtin (ρ : Operand → Value) (b : Builtin) (args : Array Operand) (ats : Array TypeId) (dst : Option Tmp) (ty : TypeId) (pos : String) (after : Array Edge) (gd : Option (Nat × Bool)) :
    ∃ cs, (execOp ρ { dst, op := .call { callee := .builtin b, args, argTypes := ats }, type := ty, pos, after, guard := gd }).run P w =
      (builtin b ats ty cs (args.map ρ)).run P w := by
  refine ⟨args.map (fun | .const _ => true | _ => false), ?_⟩
  simp only [execOp, resolve, Sem.run_bind, Sem.run_pure, Result.andThen_ok, invoke]
  rfl

theorem fops_map {tm : Nat → A} {ac : Act} (ht : TmOk mg g bx tm ac) {idx : List Nat} {xs : List Operand} : ((idx.zip xs).toArray.map fun (p : Nat × Operand) => (p.1, ac.eval p.2)) = (idx.zip (xs.map ac.eval)).toArray := by
  simp only [List.map_toArray]
  congr 1
  induction idx generalizing xs with
  | nil => simp
  | cons i r ih => cases xs with
    | nil => simp
    | cons x s => simp [ih]

theorem RD.szAll {m : Mm} {es : List D} {v : Value} {n : Nat} (h : RD m (.sl es) v) (hs : szOk es n = true) : ∀ i (hi : i < es.length), es[i].cells.length = n := by
  cases h with
  | sl0 => intro i hi; simp at hi
  | sl _ b o cap sz u hcap hsz =>
    intro i hi
    have h0 : es[0]'(by omega) = es[0]'(by omega) := rfl
    rw [hsz i hi, ← hsz 0 (by omega)]
    cases es with
    | nil => simp at hi
    | cons e r => simpa [szOk] using hs

theorem bytes_extract (s : List UInt8) (l h : Nat) : (⟨s.toArray⟩ : ByteArray).extract l h = ⟨((s.drop l).take (h - l)).toArray⟩ := by
  apply ByteArray.ext
  simp [ByteArray.data_extract, List.extract_eq_take_drop]

theorem aggC_spec {a : A} {v : Value} {cs : List A} (h : RA g bx a v) (hc : aggC a = some cs) : ∃ vs, v = .agg vs ∧ RAs g bx cs vs.toList := by
  cases h with
  | d h => cases h <;> simp only [aggC] at hc <;> first | (cases hc; done) | skip
           rename_i l vs hl hf hr
           cases hc
           exact ⟨vs, rfl, by simpa using hl.symm, fun j hj => ⟨by simpa [A.flat] using hf j (by simpa using hj), by simpa using RA.d (hr j (by simpa using hj))⟩⟩
  | mix cs' vs hl hf hr => simp only [aggC] at hc; cases hc; exact ⟨vs, rfl, by simpa using hl.symm, fun j hj => ⟨hf j hj, by simpa using hr j hj⟩⟩
  | _ => cases hc

theorem partA_spec {cs : List A} {vs : Array Value} {agg : Option Nat} {off : Nat} {y : A} {t : TypeId} (h : RAs g bx cs vs.toList) (hp : partA cs agg off = some y) (ha : AggOk P t agg) :
    ∃ v, (part t vs off).run P w = .ok v w ∧ RA g bx y v := by
  obtain ⟨d, i, hu, hi, hagg⟩ := ha
  simp only [partA] at hp
  cases agg with
  | some n =>
    simp only [Option.bind_eq_some_iff] at hp
    obtain ⟨l, hl, he⟩ := hp; cases he
    split at hagg
    · rename_i hd
      cases hagg
      obtain ⟨hle, hsub⟩ := h.sub hl
      refine ⟨.agg (vs.extract off (off + i.size)), ?_, ?_⟩
      · simp only [part, Sem.run_bind, run_agg hu, Result.andThen_ok, hd, if_true, run_size hi, Sem.run_pure]
      · have := RA.mkAgg hsub
        have e : ((vs.toList.drop off).take i.size).toArray = vs.extract off (off + i.size) := by
          apply Array.ext'
          simp [List.extract_eq_take_drop]
        rw [e] at this
        exact this
    · cases hagg
  | none =>
    split at hagg
    · cases hagg
    · rename_i hd
      obtain ⟨y', hy, _, hry⟩ := h.get hp
      refine ⟨y', ?_, hry⟩
      have hy' : vs[off]? = some y' := by simpa using hy
      simp only [part, Sem.run_bind, run_agg hu, Result.andThen_ok, hd, Bool.false_eq_true, if_false, hy', Sem.run_pure]

theorem eqp_run (d : Nat) {t e : TypeId} {p q : Option Addr} (hu : P.underlying t = some (.pointer e)) (hab : (p.isNone || q.isNone) = true) :
    (Op.equalIn (d + 1) t (.pointer p) (.pointer q)).run P w = .ok (p.isNone == q.isNone) w := by
  cases p <;> cases q <;> simp [Op.equalIn, run_under hu] at hab ⊢

theorem op_good {C : Cs} {dst : Option Tmp} {op : Op} {ty : TypeId} {pos : String} {after : Array Edge} {gd : Option (Nat × Bool)} {k : K} {xs : List O} {d : Option Nat} {gg : Option (Nat × Bool)} {av : List Id} {al : Option (List Id)}
    (hf : FitsK mg P op ty k xs) (h : Inv m0 w0 OO g bx w) {tm : Nat → A} {ac : Act} (ht : TmOk mg g bx tm ac) {r : A} {bx' : Bx}
    (hs : sem C ⟨d, k, xs, gg, av, al⟩ (xs.map (O.ev tm)) bx = some (r, bx')) :
    Good m0 w0 OO g bx ((execOp ac.eval { dst, op, type := ty, pos, after, guard := gd }).run P w) r bx' := by
  have runv : ∀ (s : Sem Value), (do pure (Next.value (← s)) : Sem Next).run P w = (s.run P w).andThen fun v w' => .ok (.value v) w' := fun s => by simp only [Sem.run_bind, Sem.run_pure]
  cases hf with
  | move ty x o hx =>
    simp only [List.map_cons, List.map_nil, sem] at hs; cases hs
    exact .same h (hx.ra ht) rfl
  | assign ty x o hx =>
    simp only [List.map_cons, List.map_nil, sem] at hs; cases hs
    exact .same h (hx.ra ht) rfl
  | pick ty c a b c' a' b' h1 h2 h3 =>
    simp only [List.map_cons, List.map_nil, sem, Option.bind_eq_some_iff] at hs
    obtain ⟨t, ht', he⟩ := hs; cases he
    have hc := h1.ra ht
    rw [asB_spec ht'] at hc
    have hv := hc.bool_inv
    refine .same h (v := if t then ac.eval a else ac.eval b) ?_ ?_
    · cases t
      · exact h3.ra ht
      · exact h2.ra ht
    · simp only [execOp, Sem.run_bind, hv, asBool, Sem.run_pure, Result.andThen_ok]
  | alloc ty t z hz =>
    simp only [List.map_nil, sem] at hs; cases hs
    obtain ⟨v, w', g', h1, h2, h3, h4⟩ := alloc_good (P := P) h hz [d.getD 0]
    exact ⟨v, w', g', .inl (by simp only [execOp, runv, h1, Result.andThen_ok]), h2, h3, h4⟩
  | box ty t x o n hx hn =>
    simp only [List.map_cons, List.map_nil, sem] at hs
    split at hs
    · rename_i hl; cases hs
      obtain ⟨v, w', g', h1, h2, h3, h4⟩ := box_good (P := P) (t := t) h (hx.ra ht) (by intro e; rw [e] at hl; simp at hl; omega) [d.getD 0]
      exact ⟨v, w', g', .inl (by simp only [execOp, runv, h1, Result.andThen_ok]), h2, h3, h4⟩
    · cases hs
  | build ty t z parts idx xs ps os he hz hp hx =>
    subst he
    rw [show sem C ⟨d, .build z ps, _, gg, av, al⟩ (List.map (O.ev tm) _) bx = (fillA ps (List.map (O.ev tm) _) z).bind fun l => some (mkAgg l, bx) from by
      generalize List.map (O.ev tm) _ = l; cases l <;> rfl, Option.bind_eq_some_iff] at hs
    obtain ⟨l, hl, he⟩ := hs; cases he
    obtain ⟨v, h1, h2⟩ := build_good (w := w) hz hp (hx.ral ht) hl
    refine .same h h2 ?_
    simp only [execOp, fops_map ht, runv, h1, Result.andThen_ok]
  | bslice ty t e z n parts at_ xs os he hu hz hlim hx =>
    subst he
    rw [show sem C ⟨d, .bslice z n at_, _, gg, av, al⟩ (List.map (O.ev tm) _) bx = (snapsM av bx (List.map (O.ev tm) _)).bind fun p => (fillD z.cells.length at_ p.1 (List.replicate n z)).bind fun es =>
      some (.ref [d.getD 0] (nextVer p.2 [d.getD 0]) 0 es.length z.cells.length, upd p.2 [d.getD 0] (some (.arr es (nextVer p.2 [d.getD 0]) false))) from by
      generalize List.map (O.ev tm) _ = l; cases l <;> rfl, Option.bind_eq_some_iff] at hs
    obtain ⟨p, hp, hs⟩ := hs
    rw [Option.bind_eq_some_iff] at hs
    obtain ⟨es, hes, he⟩ := hs; cases he
    obtain ⟨v, w', g', h1, h2, h3, h4⟩ := bslice_good (P := P) h hu hz (hx.ral ht) hp hes [d.getD 0] hlim
    refine ⟨v, w', g', .inl ?_, h2, h3, h4⟩
    simp only [execOp, fops_map ht, runv, h1, Result.andThen_ok]
  | load ty t x o agg ha hx =>
    simp only [List.map_cons, List.map_nil, sem, Option.bind_eq_some_iff] at hs
    obtain ⟨v, hv, he⟩ := hs; cases he
    obtain ⟨y, h1, h2⟩ := load_spec (P := P) h (hx.ra ht) hv ha
    exact .same h h2 (by simp only [execOp, runv, h1, Result.andThen_ok])
  | store ty t x v o o' n i hi hn hpos hx hx' =>
    simp only [List.map_cons, List.map_nil, sem, Option.bind_eq_some_iff] at hs
    obtain ⟨b, hb, he⟩ := hs; cases he
    obtain ⟨w', g', h1, h2, h3⟩ := store_spec (P := P) h hi hn hpos (hx.ra ht) (hx'.ra ht) hb
    exact ⟨undef, w', g', .inr ⟨by simp only [execOp, Sem.run_bind, h1, Result.andThen_ok, Sem.run_pure], rfl⟩, h2, h3, .tup [] #[] rfl (fun j hj => by simp at hj)⟩
  | nilchk ty x o hx =>
    have hr := hx.ra ht
    generalize hx1 : O.ev tm o = a at hs hr
    cases a <;> simp only [List.map_cons, List.map_nil, hx1, sem] at hs <;> first | (cases hs; done) | skip
    all_goals cases hs
    · obtain ⟨b, o', hv, _⟩ := ptr_move (n := 0) hr (.inl ⟨_, _, _, rfl, rfl⟩)
      exact .same h hr (by simp only [execOp, hv]; rfl)
    · obtain ⟨b, o', hv, _⟩ := ptr_move (n := 0) hr (.inr (.inl ⟨_, _, rfl, rfl⟩))
      exact .same h hr (by simp only [execOp, hv]; rfl)
    · obtain ⟨b, o', hv, _⟩ := ptr_move (n := 0) hr (.inr (.inr ⟨_, _, _, _, rfl, rfl⟩))
      exact .same h hr (by simp only [execOp, hv]; rfl)
    · refine .same h hr ?_
      cases hv : ac.eval x <;> rw [hv] at hr <;> cases hr
      simp only [execOp, hv]; rfl
  | nilS ty op t e x y o o' yt ne hne hu hx hy =>
    have hr := hx.ra ht; have hr' := hy.ra ht
    generalize hx1 : O.ev tm o = a at hs hr
    generalize hy1 : O.ev tm o' = b at hs hr'
    cases b <;> simp only [List.map_cons, List.map_nil, hx1, hy1, sem, Option.bind_eq_some_iff] at hs <;> first | (cases hs; done) | skip
    obtain ⟨z, hz, he⟩ := hs; cases he
    generalize hvy : ac.eval y = vy at hr'
    cases hr'
    have key : ∃ ad n c, ac.eval x = .slice ad n c ∧ z = ad.isNone := by
      generalize ac.eval x = vx at hr
      cases a with
      | nils => cases hr; simp only [nilOf, Option.some.injEq] at hz; subst hz; exact ⟨_, _, _, rfl, rfl⟩
      | empt => cases hr; simp only [nilOf, Option.some.injEq] at hz; subst hz; exact ⟨_, _, _, rfl, rfl⟩
      | d q =>
        cases hr with | d hr =>
        cases hr with
        | sl0 ad c => simp [nilOf] at hz
        | sl es b o cap sz u hcap hsz hm hf hr =>
          cases es with
          | nil => simp [nilOf] at hz
          | cons q r => simp only [nilOf, Option.some.injEq] at hz; subst hz; exact ⟨_, _, _, rfl, rfl⟩
        | _ => simp [nilOf] at hz
      | ref id ver off len sz =>
        cases len with
        | zero => simp [nilOf] at hz
        | succ len =>
          simp only [nilOf, Option.some.injEq] at hz; subst hz
          cases hr with
          | ref => exact ⟨_, _, _, rfl, rfl⟩
          | refOld _ _ _ _ _ cap ad x hb hv hcap ha =>
            obtain ⟨b, o, rfl⟩ := ha (by omega)
            exact ⟨_, _, _, rfl, rfl⟩
      | _ => simp [nilOf] at hz
    obtain ⟨ad, n, c, hvx, rfl⟩ := key
    have hg : ∀ op, eqGuard op t x y (.slice ad n c) (.slice none 0 0) = pure () := fun op => by cases op <;> rfl
    refine .same h (.d (.bool _)) ?_
    cases ne with
    | false =>
      simp only [Bool.false_eq_true, if_false] at hne ⊢
      subst hne
      simp only [execOp, hvx, hvy, Sem.run_bind, hg, Sem.run_pure, Result.andThen_ok, Lib.run_eql_slice_nil w t e ad n c 0 0 hu]
    | true =>
      simp only [if_true] at hne ⊢
      subst hne
      simp only [execOp, hvx, hvy, Sem.run_bind, hg, Sem.run_pure, Result.andThen_ok, run_neq_slice_nil_any w t e ad n c 0 0 hu]
  | bin ty op t x y o o' yt hx hy =>
    have hr := hx.ra ht; have hr' := hy.ra ht
    generalize hx1 : O.ev tm o = a at hs hr
    generalize hy1 : O.ev tm o' = b at hs hr'
    cases a <;> cases b <;> simp only [List.map_cons, List.map_nil, hx1, hy1, sem, Option.bind_eq_some_iff] at hs <;> first | (cases hs; done) | skip
    obtain ⟨z, hz, he⟩ := hs; cases he
    cases hr with | d hr =>
    cases hr' with | d hr' =>
    obtain ⟨v, h1, h2⟩ := binD_spec (w := w) (P := P) hz hr hr' t
    refine .same h (.d h2) ?_
    have hg : ∀ {x1 y1 : D} {vx vy : Value}, RD g.m x1 vx → binD op x1 y1 = some z → eqGuard op t x y vx vy = pure () := by
      intro x1 y1 vx vy hr hz
      cases hr with
      | int k n => cases op <;> rfl
      | str s => cases op <;> rfl
      | bool b => cases op <;> simp [binD] at hz
      | agg => cases op <;> simp [binD] at hz
      | sl0 => cases op <;> simp [binD] at hz
      | sl => cases op <;> simp [binD] at hz
    have hg := hg (vy := ac.eval y) hr hz
    simp only [execOp, runv, Sem.run_bind, hg, Sem.run_pure, Result.andThen_ok, h1]
  | un ty op t x o hx =>
    have hr := hx.ra ht
    generalize hx1 : O.ev tm o = a at hs hr
    cases a <;> simp only [List.map_cons, List.map_nil, hx1, sem, Option.bind_eq_some_iff] at hs <;> first | (cases hs; done) | skip
    obtain ⟨z, hz, he⟩ := hs; cases he
    cases hr with | d hr =>
    obtain ⟨v, h1, h2⟩ := unD_spec (w := w) (P := P) hz hr
    exact .same h (.d h2) (by simp only [execOp, runv, h1, Result.andThen_ok])
  | eqb ty t x y o o' yt ne hu hx hy =>
    simp only [List.map_cons, List.map_nil, sem, Option.bind_eq_some_iff] at hs
    obtain ⟨a, ha, b, hb, he⟩ := hs; cases he
    have hr := hx.ra ht; have hr' := hy.ra ht
    rw [asB_spec ha] at hr; rw [asB_spec hb] at hr'
    have hv := hr.bool_inv; have hv' := hr'.bool_inv
    refine .same h (v := .bool (if ne then a != b else a == b)) (.d (.bool _)) ?_
    have hg : ∀ op, eqGuard op t x y (.bool a) (.bool b) = pure () := fun op => by cases op <;> rfl
    cases ne
    · simp only [Bool.false_eq_true, if_false, execOp, runv, hv, hv', hg, Sem.run_bind, Sem.run_pure, Result.andThen_ok, binOp, run_equal (run_equalIn_bool' w 9999 t a b hu)]
    · simp only [if_true, execOp, runv, hv, hv', hg, Sem.run_bind, Sem.run_pure, Result.andThen_ok, binOp, run_equal (run_equalIn_bool' w 9999 t a b hu)]; rfl
  | eqp ty t x y o o' yt ne e hu hx hy =>
    simp only [List.map_cons, List.map_nil, sem, Option.bind_eq_some_iff] at hs
    obtain ⟨a, ha, b, hb, he⟩ := hs
    split at he
    · rename_i hab
      cases he
      have nil : ∀ {z : A} {v : Value} {c : Bool}, RA g bx z v → isNil z = some c → ∃ p : Option Addr, v = .pointer p ∧ c = p.isNone := by
        intro z v c hz hc
        cases z <;> simp only [isNil] at hc <;> first | (cases hc; done) | skip
        · cases hc; cases hz; exact ⟨none, rfl, rfl⟩
        · cases hc; obtain ⟨b, o, hv, _⟩ := ptr_move (n := 0) hz (.inl ⟨_, _, _, rfl, rfl⟩); exact ⟨_, hv, rfl⟩
        · cases hc; obtain ⟨b, o, hv, _⟩ := ptr_move (n := 0) hz (.inr (.inl ⟨_, _, rfl, rfl⟩)); exact ⟨_, hv, rfl⟩
        · cases hc; obtain ⟨b, o, hv, _⟩ := ptr_move (n := 0) hz (.inr (.inr ⟨_, _, _, _, rfl, rfl⟩)); exact ⟨_, hv, rfl⟩
      obtain ⟨p, hv, rfl⟩ := nil (hx.ra ht) ha
      obtain ⟨q, hv', rfl⟩ := nil (hy.ra ht) hb
      refine .same h (v := .bool (if ne then p.isNone != q.isNone else p.isNone == q.isNone)) (.d (.bool _)) ?_
      have hg : ∀ op, eqGuard op t x y (.pointer p) (.pointer q) = pure () := fun op => by cases op <;> rfl
      have heq : (Op.equalIn (9999 + 1) t (.pointer p) (.pointer q)).run P w = .ok (p.isNone == q.isNone) w := eqp_run 9999 hu hab
      cases ne
      · simp only [Bool.false_eq_true, if_false, execOp, runv, hv, hv', hg, Sem.run_bind, Sem.run_pure, Result.andThen_ok, binOp, run_equal heq]
      · simp only [if_true, execOp, runv, hv, hv', hg, Sem.run_bind, Sem.run_pure, Result.andThen_ok, binOp, run_equal heq]; rfl
    · cases he
  | eqa ty t x y o o' yt ne ks he hst hgt hx hy =>
    have hr := hx.ra ht; have hr' := hy.ra ht
    generalize hx1 : O.ev tm o = a at hs hr
    generalize hy1 : O.ev tm o' = b at hs hr'
    cases a <;> cases b <;> simp only [List.map_cons, List.map_nil, hx1, hy1, sem] at hs <;> first | (cases hs; done) | skip
    rename_i x1 y1
    cases x1 <;> cases y1 <;> simp only [Option.bind_eq_some_iff] at hs <;> first | (cases hs; done) | skip
    rename_i xs ys
    obtain ⟨c, hc, hre⟩ := hs; cases hre
    cases hr with | d hr =>
    cases hr' with | d hr' =>
    generalize hv : ac.eval x = vx at hr
    generalize hv' : ac.eval y = vy at hr'
    cases hr with | agg _ vs hl hf hrr =>
    cases hr' with | agg _ us hl' hf' hrr' =>
    obtain ⟨fs, hfs⟩ := hst
    have heq : (Op.equalIn (9999 + 1) t (.agg vs) (.agg us)).run P w = .ok c w :=
      eqT_run (m := g.m) 10000 t ks he xs ys _ _ c ⟨by simpa [Value.cells] using hl.symm, fun j hj => ⟨hf j hj, by simpa [Value.cells] using hrr j hj⟩⟩
        ⟨by simpa [Value.cells] using hl'.symm, fun j hj => ⟨hf' j hj, by simpa [Value.cells] using hrr' j hj⟩⟩ ⟨_, hfs, by simp [isAggD, Value.cells]⟩ ⟨_, hfs, by simp [isAggD, Value.cells]⟩ hc
    refine .same h (v := .bool (if ne then !c else c)) (.d (.bool _)) ?_
    have hg : ∀ op, (eqGuard op t x y (.agg vs) (.agg us)).run P w = .ok () w := fun op => run_eqGuard_agg w op t x y vs us hgt
    cases ne
    · simp only [Bool.false_eq_true, if_false, execOp, runv, hv, hv', Sem.run_bind, hg, Sem.run_pure, Result.andThen_ok, binOp, run_equal heq]
    · simp only [if_true, execOp, runv, hv, hv', Sem.run_bind, hg, Sem.run_pure, Result.andThen_ok, binOp, run_equal heq]
  | toInt ty src dst x o k d0 hs' hd hx =>
    simp only [List.map_cons, List.map_nil, sem, Option.bind_eq_some_iff] at hs
    obtain ⟨⟨k0, n⟩, hn, he⟩ := hs; cases he
    have hr := hx.ra ht
    rw [asI_spec hn] at hr
    have hv := hr.int_inv
    refine .same h (v := .int k (k.wrap n)) (.d (.int _ _)) ?_
    simp only [execOp, runv, hv, convert, Sem.run_bind, run_under hs', run_under hd, Result.andThen_ok, Conv.intToInt, Sem.run_pure]
  | sameS ty src dst x o hs' hd hx =>
    simp only [List.map_cons, List.map_nil, sem, Option.bind_eq_some_iff] at hs
    obtain ⟨s, hn, he⟩ := hs; cases he
    have hr := hx.ra ht
    rw [asS_spec hn] at hr
    have hv := hr.str_inv
    refine .same h (v := .string ⟨s.toArray⟩) (.d (.str _)) ?_
    simp only [execOp, runv, hv, convert, Sem.run_bind, run_under hs', run_under hd, Result.andThen_ok, Sem.run_pure]
  | strBytes ty src dst e x o hs' hd hee hx =>
    simp only [List.map_cons, List.map_nil, sem, Option.bind_eq_some_iff] at hs
    obtain ⟨s, hn, he⟩ := hs; cases he
    have hr := hx.ra ht
    rw [asS_spec hn] at hr
    have hv := hr.str_inv
    obtain ⟨v, w', g', h1, h2, h3, h4⟩ := strBytes_good (P := P) h e s [d.getD 0]
    refine ⟨v, w', g', .inl ?_, h2, h3, h4⟩
    simp only [execOp, runv, hv, convert, Sem.run_bind, run_under hs', run_under hd, run_under hee, Result.andThen_ok, h1]
  | bytesStr ty src dst e x o hs' hd hee hx =>
    simp only [List.map_cons, List.map_nil, sem, Option.bind_eq_some_iff] at hs
    obtain ⟨es, hes, s, hsm, he⟩ := hs; cases he
    have hsl := read_spec h (hx.ra ht) hes
    have h1 := bytesStr_run (P := P) hsl hsm
    obtain ⟨a, cap, hv, _⟩ := hsl
    refine .same h (v := .string ⟨s.toArray⟩) (.d (.str _)) ?_
    rw [hv] at h1
    simp only [execOp, runv, hv, convert, Sem.run_bind, run_under hs', run_under hd, run_under hee, Result.andThen_ok, h1]
  | mkslice ty t e z b x y o o' hu hz hb hx hy =>
    simp only [List.map_cons, List.map_nil, sem, Option.bind_eq_some_iff] at hs
    obtain ⟨⟨k1, n1⟩, hn1, ⟨k2, n2⟩, hn2, he⟩ := hs
    split at he
    · rename_i hc
      obtain ⟨h12, h0, hl1, hl2⟩ := hc
      simp only at h12 h0 hl1 hl2
      subst h12
      cases he
      have hr := hx.ra ht; have hr' := hy.ra ht
      rw [asI_spec hn1] at hr; rw [asI_spec hn2] at hr'
      have hv := hr.int_inv; have hv' := hr'.int_inv
      obtain ⟨v, w', g', h1, h2, h3, h4⟩ := mkslice_good (P := P) (k := k1) (k' := k2) h hu hz hb h0 hl1 hl2 [d.getD 0]
      exact ⟨v, w', g', .inl (by simp only [execOp, runv, hv, hv', h1, Result.andThen_ok]), h2, h3, h4⟩
    · cases he
  | substr ty t x l hh os lo hi hu hlo hhi hx =>
    have hral := hx.ral ht
    generalize List.map (O.ev tm) _ = ys at hs hral
    simp only [List.cons_append, List.nil_append, List.map_cons, List.map_append] at hral
    cases hral with
    | cons h1 hr =>
      simp only [sem, Option.bind_eq_some_iff] at hs
      obtain ⟨s, hst, p, hp, he⟩ := hs; cases he
      rw [asS_spec hst] at h1
      have hv := h1.str_inv
      obtain ⟨b1, b2, q, b3, b4, b5, b6⟩ := bounds_spec (P := P) (w := w) (l := (l.map ac.eval).getD undef) (hh := (hh.map ac.eval).getD undef) (m := undef) hp hr (by
        subst hlo hhi; cases l <;> cases hh <;> rfl) false (Nat.le_refl _)
      have e1 : optV lo ((l.map ac.eval).getD undef) = l.map ac.eval := by subst hlo; cases l <;> rfl
      have e2 : optV hi ((hh.map ac.eval).getD undef) = hh.map ac.eval := by subst hhi; cases hh <;> rfl
      rw [e1, e2, show optV false undef = none from rfl] at b6
      refine .same h (v := .string ⟨((s.drop p.1).take (p.2 - p.1)).toArray⟩) (.d (.str _)) ?_
      have hsz : (⟨s.toArray⟩ : ByteArray).size = s.length := by simp [ByteArray.size]
      simp only [execOp, runv, hv, Instr.sliceAt, Instr.slice, Sem.run_bind, run_under hu, Result.andThen_ok, Option.map_none, Option.isSome_none, Bool.false_eq_true, if_false, Sem.run_pure, hsz, b6, bytes_extract]
  | subsl ty t e x l hh m os n lo hi mx i hu hei hn hlo hhi hmx hx =>
    have hral := hx.ral ht
    generalize List.map (O.ev tm) _ = ys at hs hral
    simp only [List.cons_append, List.nil_append, List.map_cons, List.map_append] at hral
    have e1 : optV lo ((l.map ac.eval).getD undef) = l.map ac.eval := by subst hlo; cases l <;> rfl
    have e2 : optV hi ((hh.map ac.eval).getD undef) = hh.map ac.eval := by subst hhi; cases hh <;> rfl
    have e3 : optV mx ((m.map ac.eval).getD undef) = m.map ac.eval := by subst hmx; cases m <;> rfl
    have hws : ((l.toList.map ac.eval ++ hh.toList.map ac.eval) ++ m.toList.map ac.eval) = (if lo then [(l.map ac.eval).getD undef] else []) ++ (if hi then [(hh.map ac.eval).getD undef] else []) ++ (if mx then [(m.map ac.eval).getD undef] else []) := by
      subst hlo hhi hmx; cases l <;> cases hh <;> cases m <;> rfl
    have run : ∀ {a : Option Addr} {len cap : Nat} {p1 p2 q : Nat}, ac.eval x = .slice a len cap → (Instr.sliceBounds true len cap (optV lo ((l.map ac.eval).getD undef)) (optV hi ((hh.map ac.eval).getD undef)) (optV mx ((m.map ac.eval).getD undef))).run P w = .ok (p1, p2, q) w →
        (execOp ac.eval { dst, op := .slice t x l hh m, type := ty, pos, after, guard := gd }).run P w = .ok (.value (.slice (if q = p1 then a else a.map (·.add (p1 * n))) (p2 - p1) (q - p1))) w := by
      intro a len cap p1 p2 q hv hb
      rw [e1, e2, e3] at hb
      simp only [execOp, runv, hv, Instr.sliceAt, Instr.slice, Sem.run_bind, run_under hu, Result.andThen_ok, hb, run_size hei, hn, Sem.run_pure]
    cases hral with
    | cons h1 hr =>
      rename_i a as
      cases a with
      | d y =>
        cases y with
        | sl es =>
          simp only [sem] at hs
          split at hs
          · rename_i hsz
            simp only [Option.bind_eq_some_iff] at hs
            obtain ⟨p, hp, he⟩ := hs; cases he
            cases h1 with | d h1 =>
            obtain ⟨a0, cap, hv, hcap⟩ : ∃ a cap, ac.eval x = .slice a es.length cap ∧ es.length ≤ cap := by
              generalize ac.eval x = vx at h1
              cases h1 with
              | sl0 a cap => exact ⟨a, cap, rfl, Nat.zero_le _⟩
              | sl _ b o cap sz u hcap => exact ⟨_, cap, rfl, hcap⟩
            obtain ⟨b1, b2, q, b3, b4, _, b6⟩ := bounds_spec (P := P) (w := w) hp hr hws true hcap
            rw [hv] at h1
            exact .same h (.d (h1.piece b1 b2 b3 b4 (h1.szAll hsz))) (run hv b6)
          · cases hs
        | _ => cases hs
      | nils =>
        simp only [sem, Option.bind_eq_some_iff] at hs
        obtain ⟨p, hp, he⟩ := hs; cases he
        have hv : ac.eval x = .slice none 0 0 := by generalize ac.eval x = vx at h1; cases h1; rfl
        obtain ⟨b1, b2, q, b3, b4, _, b6⟩ := bounds_spec (P := P) (w := w) hp hr hws true (Nat.le_refl _)
        have hrun := run hv b6
        have q0 : q = 0 := by omega
        have p0 : p.2 = 0 := by omega
        have p1 : p.1 = 0 := by omega
        rw [q0, p0, p1] at hrun
        exact .same h .nils hrun
      | ref id ver off len sz =>
        simp only [sem] at hs
        split at hs
        · rename_i hsz
          subst hsz
          simp only [Option.bind_eq_some_iff] at hs
          obtain ⟨p, hp, he⟩ := hs; cases he
          generalize hv : ac.eval x = vx at h1
          cases h1 with
          | ref _ _ _ _ _ a cap es fz p' hb hp' hpsz hlen hcap ha hn' =>
            obtain ⟨b1, b2, q, b3, b4, _, b6⟩ := bounds_spec (P := P) (w := w) hp hr hws true hcap
            have hrun := run hv b6
            subst hpsz
            have hmul : (off + p.1 + (q - p.1)) * p'.sz ≤ (off + cap) * p'.sz := Nat.mul_le_mul_right _ (by omega)
            have hra : ∀ a', (q - p.1 = 0 ∨ a' = p'.base + (off + p.1) * p'.sz) → RA g bx (.ref id ver (off + p.1) (p.2 - p.1) p'.sz) (.slice (some ⟨p'.b, a', none⟩) (p.2 - p.1) (q - p.1)) :=
              fun a' ha' => .ref _ _ _ _ _ a' (q - p.1) es fz p' hb hp' rfl (by omega) (by omega) ha' (by omega)
            refine .same h (hra (if q = p.1 then a else a + p.1 * p'.sz) ?_) ?_
            · by_cases hq : q = p.1
              · left; omega
              · right
                rcases ha with ha | ha
                · omega
                · rw [if_neg hq, ha, Nat.add_mul]; omega
            · rw [hrun]
              by_cases hq : q = p.1
              · simp only [if_pos hq]
              · simp only [if_neg hq, Option.map_some, addr_add]
          | refNil _ _ _ fz hb hp' =>
            obtain ⟨b1, b2, q, b3, b4, _, b6⟩ := bounds_spec (P := P) (w := w) hp hr hws true (Nat.le_refl _)
            have hrun := run hv b6
            have q0 : q = 0 := by omega
            have p0 : p.2 = 0 := by omega
            have p1 : p.1 = 0 := by omega
            rw [q0, p0, p1] at hrun
            rw [p0, p1]
            exact .same h (.refNil _ _ _ fz hb hp') hrun
          | refOld _ _ _ _ _ cap a y hb hlt hcap ha =>
            obtain ⟨b1, b2, q, b3, b4, _, b6⟩ := bounds_spec (P := P) (w := w) hp hr hws true hcap
            refine .same h (.refOld _ _ _ _ _ _ _ y hb hlt (by omega) ?_) (run hv b6)
            intro hq
            obtain ⟨b, o, rfl⟩ := ha (by omega)
            refine ⟨b, o + p.1 * sz, ?_⟩
            rw [if_neg (by omega), Option.map_some, addr_add]
        · cases hs
      | _ => cases hs
  | faddr ty t x f o off fs fl i hu hf hi hsz ho hx =>
    have hr := hx.ra ht
    generalize hx1 : O.ev tm o = a at hs hr
    have run : ∀ b o', ac.eval x = .pointer (some ⟨b, o', none⟩) → (execOp ac.eval { dst, op := .fieldAddr t x f, type := ty, pos, after, guard := gd }).run P w = .ok (.value (.pointer (some ⟨b, o' + off, none⟩))) w := by
      intro b o' hv
      simp only [execOp, runv, hv, Instr.fieldAt, Sem.run_bind, run_under hu, Result.andThen_ok, hf, Instr.sureAddr, Sem.run_pure, fieldPlace, run_size hi, if_neg hsz, addr_add, ho]
    cases a <;> simp only [List.map_cons, List.map_nil, hx1, sem] at hs <;> first | (cases hs; done) | skip
    all_goals cases hs
    · obtain ⟨b, o', hv, h2⟩ := ptr_move (n := off) hr (.inl ⟨_, _, _, rfl, rfl⟩)
      exact .same h h2 (run _ _ hv)
    · obtain ⟨b, o', hv, h2⟩ := ptr_move (n := off) hr (.inr (.inl ⟨_, _, rfl, rfl⟩))
      exact .same h h2 (run _ _ hv)
    · obtain ⟨b, o', hv, h2⟩ := ptr_move (n := off) hr (.inr (.inr ⟨_, _, _, _, rfl, rfl⟩))
      exact .same h h2 (run _ _ hv)
  | field ty t x f o off agg fs fl hu hf ha ho hx =>
    have hr := hx.ra ht
    simp only [List.map_cons, List.map_nil, sem, Option.bind_eq_some_iff] at hs
    obtain ⟨cs, hcs, y, hy, he⟩ := hs; cases he
    obtain ⟨vs, hv, hvs⟩ := aggC_spec hr hcs
    obtain ⟨v, h1, h2⟩ := partA_spec (P := P) (w := w) hvs hy ha
    refine .same h h2 ?_
    simp only [execOp, runv, hv, Instr.field, Sem.run_bind, run_under hu, Result.andThen_ok, hf, asAgg, Sem.run_pure, ho, h1]
  | iaddrA ty t e len size x y o o' i hu hi hsz hx hy =>
    have hr := hx.ra ht; have hr' := hy.ra ht
    subst hsz
    generalize hx1 : O.ev tm o = a at hs hr
    generalize hy1 : O.ev tm o' = c at hs hr'
    cases a <;> simp only [List.map_cons, List.map_nil, hx1, hy1, sem, Option.bind_eq_some_iff] at hs <;> first | (cases hs; done) | skip
    all_goals
      obtain ⟨⟨k, z⟩, hz, hs⟩ := hs
      split at hs
      · rename_i hb
        cases hs
        rw [asI_spec hz] at hr'
        have hv' := hr'.int_inv
        first
        | (obtain ⟨b, o1, hv, h2⟩ := ptr_move (n := z.toNat * i.size) hr (.inl ⟨_, _, _, rfl, rfl⟩)
           exact .same h h2 (by simp only [execOp, runv, hv, hv', run_indexAt_arr hu hi b o1 k hb, Result.andThen_ok]))
        | (obtain ⟨b, o1, hv, h2⟩ := ptr_move (n := z.toNat * i.size) hr (.inr (.inl ⟨_, _, rfl, rfl⟩))
           exact .same h h2 (by simp only [execOp, runv, hv, hv', run_indexAt_arr hu hi b o1 k hb, Result.andThen_ok]))
      · cases hs
  | iaddrS ty t e size x y o o' i hu hi hsz hx hy =>
    have hr := hx.ra ht; have hr' := hy.ra ht
    generalize hx1 : O.ev tm o = a at hs hr
    generalize hy1 : O.ev tm o' = c at hs hr'
    cases a with
    | d x1 =>
      cases x1 with
      | sl es =>
        simp only [List.map_cons, List.map_nil, hx1, hy1, sem, Option.bind_eq_some_iff] at hs
        obtain ⟨⟨k, z⟩, hz, hs⟩ := hs
        rw [asI_spec hz] at hr'
        have hv' := hr'.int_inv
        split at hs
        · rename_i h0
          simp only [Option.bind_eq_some_iff] at hs
          obtain ⟨x2, hx2, hs⟩ := hs
          split at hs
          · rename_i hl
            cases hs
            cases hr with | d hr =>
            obtain ⟨u, h1, h2⟩ := iaddr_elt (P := P) (w := w) hr h0 hx2 hl hu hi hsz k
            exact .same h (h2 g bx rfl) (by simp only [execOp, runv, hv', h1, Result.andThen_ok])
          · cases hs
        · cases hs
      | _ => simp only [List.map_cons, List.map_nil, hx1, hy1] at hs; cases hs
    | ref id ver off len sz =>
      simp only [List.map_cons, List.map_nil, hx1, hy1, sem, Option.bind_eq_some_iff] at hs
      obtain ⟨⟨k, z⟩, hz, hs⟩ := hs
      rw [asI_spec hz] at hr'
      have hv' := hr'.int_inv
      split at hs
      · rename_i hb
        obtain ⟨h0, hlt, rfl⟩ := hb
        cases hs
        obtain ⟨u, h1, h2⟩ := iaddr_ref (P := P) (w := w) hr h0 hlt hu hi hsz k
        exact .same h h2 (by simp only [execOp, runv, hv', h1, Result.andThen_ok])
      · cases hs
    | _ => simp only [List.map_cons, List.map_nil, hx1, hy1] at hs; cases hs
  | indexS ty t x y o o' hu hx hy =>
    simp only [List.map_cons, List.map_nil, sem, Option.bind_eq_some_iff] at hs
    obtain ⟨s, hst, ⟨k, z⟩, hz, hs⟩ := hs
    have hr := hx.ra ht; have hr' := hy.ra ht
    rw [asS_spec hst] at hr; rw [asI_spec hz] at hr'
    have hv := hr.str_inv; have hv' := hr'.int_inv
    split at hs
    · rename_i h0
      simp only [Option.bind_eq_some_iff] at hs
      obtain ⟨c, hc, he⟩ := hs; cases he
      refine .same h (v := .int .u8 c.toNat) (.d (.int _ _)) ?_
      have hg : (⟨s.toArray⟩ : ByteArray)[z.toNat]? = some c := by
        rw [List.getElem?_eq_some_iff] at hc
        obtain ⟨hlt, rfl⟩ := hc
        have hsz : z.toNat < (⟨s.toArray⟩ : ByteArray).size := by simpa [ByteArray.size] using hlt
        rw [getElem?_pos (⟨s.toArray⟩ : ByteArray) z.toNat hsz]
        rfl
      simp only [execOp, runv, hv, hv', Instr.index, asIntOf, pure_bind, Sem.run_bind, run_under hu, Result.andThen_ok, if_pos h0, hg, Sem.run_pure]
    · cases hs
  | indexA ty t e len size x y o o' agg i hu hi hsz ha hx hy =>
    simp only [List.map_cons, List.map_nil, sem, Option.bind_eq_some_iff] at hs
    obtain ⟨⟨k, z⟩, hz, hs⟩ := hs
    split at hs
    · rename_i hb
      simp only [Option.bind_eq_some_iff] at hs
      obtain ⟨cs, hcs, u, hu', he⟩ := hs; cases he
      have hr' := hy.ra ht
      rw [asI_spec hz] at hr'
      have hv' := hr'.int_inv
      obtain ⟨vs, hv, hvs⟩ := aggC_spec (hx.ra ht) hcs
      obtain ⟨v, h1, h2⟩ := partA_spec (P := P) (w := w) hvs hu' ha
      refine .same h h2 ?_
      subst hsz
      simp only [execOp, runv, hv, hv', Instr.index, asIntOf, pure_bind, Sem.run_bind, run_under hu, Result.andThen_ok]
      rw [if_pos hb]
      simp only [Sem.run_bind, run_size hi, Result.andThen_ok, h1]
    · cases hs
  | extract ty x o i hx =>
    have hr := hx.ra ht
    generalize hx1 : O.ev tm o = a at hs hr
    cases a <;> simp only [List.map_cons, List.map_nil, hx1, sem, Option.bind_eq_some_iff] at hs <;> first | (cases hs; done) | skip
    obtain ⟨v, hv, he⟩ := hs; cases he
    generalize hv1 : ac.eval x = vx at hr
    cases hr with
    | tup cs vs hl hr =>
      rw [List.getElem?_eq_some_iff] at hv
      obtain ⟨hlt, rfl⟩ := hv
      refine .same h (hr i hlt) ?_
      have : vs[i]? = some (vs[i]'(by omega)) := by simp
      simp only [execOp, runv, hv1, Instr.extract, this, Sem.run_pure, Result.andThen_ok]
  | mkfn ty f caps os hx =>
    have hral := hx.ral ht
    have e : sem C ⟨d, .mkfn f, xs, gg, av, al⟩ (List.map (O.ev tm) xs) bx = some (.fn f (List.map (O.ev tm) xs), bx) := by
      generalize List.map (O.ev tm) xs = l; cases l <;> rfl
    rw [e] at hs; cases hs
    have hl := hral.length; have hg := hral.get
    refine .same h (.fn f _ (caps.map ac.eval) (by simpa using hl.symm) (fun j hj => by simpa using hg j hj)) ?_
    simp only [execOp, runv, Instr.makeFunc, Sem.run_pure, Result.andThen_ok, Array.map_empty]
  | lenS ty x o t hu hx =>
    obtain ⟨cs, hb⟩ := run_builtin (P := P) (w := w) ac.eval .len #[x] #[t] dst ty pos after gd
    simp only [List.map_cons, List.map_nil, sem, Option.bind_eq_some_iff] at hs
    obtain ⟨s, hst, he⟩ := hs; cases he
    have hr := hx.ra ht
    rw [asS_spec hst] at hr
    have hv := hr.str_inv
    refine .same h (v := goInt s.length) (.d (.int _ _)) ?_
    rw [hb]
    simp only [builtin, runv, Builtin.len_, List.map_toArray, List.map_cons, List.map_nil, hv, List.getElem?_toArray, List.getElem?_cons_zero, Sem.run_bind, run_under hu, Result.andThen_ok, Sem.run_pure]
    rfl
  | lenL ty x o t e hu hx =>
    obtain ⟨cs, hb⟩ := run_builtin (P := P) (w := w) ac.eval .len #[x] #[t] dst ty pos after gd
    have hr := hx.ra ht
    generalize hx1 : O.ev tm o = a at hs hr
    have run : ∀ {b : Option Addr} {len cap : Nat}, ac.eval x = .slice b len cap → (execOp ac.eval { dst, op := .call { callee := .builtin .len, args := #[x], argTypes := #[t] }, type := ty, pos, after, guard := gd }).run P w = .ok (.value (goInt len)) w := by
      intro b len cap hv
      rw [hb]
      simp only [builtin, runv, Builtin.len_, List.map_toArray, List.map_cons, List.map_nil, hv, List.getElem?_toArray, List.getElem?_cons_zero, Sem.run_bind, run_under hu, Result.andThen_ok, Sem.run_pure]
    generalize hv : ac.eval x = vx at hr
    cases a with
    | d x1 =>
      cases x1 with
      | sl es =>
        simp only [List.map_cons, List.map_nil, hx1, sem] at hs; cases hs
        cases hr with | d hr =>
        cases hr with
        | sl0 a cap => exact .same h (.d (.int _ _)) (run hv)
        | sl _ b o cap sz u hcap => exact .same h (.d (.int _ _)) (run hv)
      | _ => simp only [List.map_cons, List.map_nil, hx1] at hs; cases hs
    | nils =>
      simp only [List.map_cons, List.map_nil, hx1, sem] at hs; cases hs
      cases hr
      exact .same h (.d (.int _ _)) (run hv)
    | empt =>
      simp only [List.map_cons, List.map_nil, hx1, sem] at hs; cases hs
      cases hr
      exact .same h (.d (.int _ _)) (run hv)
    | ref id ver off len sz =>
      simp only [List.map_cons, List.map_nil, hx1, sem] at hs; cases hs
      cases hr with
      | ref => exact .same h (.d (.int _ _)) (run hv)
      | refNil => exact .same h (.d (.int _ _)) (run hv)
      | refOld => exact .same h (.d (.int _ _)) (run hv)
    | _ => simp only [List.map_cons, List.map_nil, hx1] at hs; cases hs
  | append ty x y o o' ts tx e n bytes str hok hstr hx hy =>
    obtain ⟨cs, hb⟩ := run_builtin (P := P) (w := w) ac.eval .append #[x, y] #[ts, tx] dst ty pos after gd
    have hr := hx.ra ht; have hr' := hy.ra ht
    simp only [List.map_cons, List.map_nil, sem, Option.bind_eq_some_iff] at hs
    obtain ⟨p, hp, hs⟩ := hs
    split at hs
    · rename_i hsz
      obtain ⟨g1, i1, le1, gv⟩ := appended_spec (P := P) h hr' hp hsz hstr
      have hr1 := hr.mono le1
      have run : ∀ {u : Value} {w' : World}, (Builtin.append_ #[ts, tx] ty #[ac.eval x, ac.eval y]).run P w = .ok u w' →
          (execOp ac.eval { dst, op := .call { callee := .builtin .append, args := #[x, y], argTypes := #[ts, tx] }, type := ty, pos, after, guard := gd }).run P w = .ok (.value u) w' := by
        intro u w' hu
        rw [hb]
        simp only [builtin, runv, List.map_toArray, List.map_cons, List.map_nil, hu, Result.andThen_ok]
      generalize hx1 : O.ev tm o = a at hs hr1
      split at hs
      · split at hs
        · rename_i hl
          cases hs
          have hv : ac.eval x = .slice none 0 0 := by generalize ac.eval x = vx at hr1; cases hr1; rfl
          obtain ⟨u, w', g', h1, h2, h3, h4⟩ := append_good_nils i1 (.gives hok ty gv) hl.1 hl.2 [d.getD 0]
          rw [← hv] at h1
          exact ⟨u, w', g', .inl (run h1), h2, le1.trans h3, h4⟩
        · cases hs
      · split at hs
        · split at hs
          · rename_i es ver' fz hbx
            split at hs
            · rename_i hc
              obtain ⟨rfl, rfl, hll, rfl, hl1, hl2⟩ := hc
              cases hs
              obtain ⟨u, w', g', h1, h2, h3, h4⟩ := append_good_ref i1 (.gives hok ty gv) hbx hll hr1 hl1 hl2
              exact ⟨u, w', g', .inl (run h1), h2, le1.trans h3, h4⟩
            · cases hs
          · cases hs
        · cases hs
      · cases hs
    · cases hs
  | appmk ty x y o o' ts tx e z bytes kt hu hd hz hbt hb0 hb1 hx hy =>
    obtain ⟨cs, hb⟩ := run_builtin (P := P) (w := w) ac.eval .append #[x, y] #[ts, tx] dst ty pos after gd
    have hr := hx.ra ht; have hr' := hy.ra ht
    simp only [List.map_cons, List.map_nil, sem, Option.bind_eq_some_iff] at hs
    obtain ⟨⟨k, c⟩, hc, hs⟩ := hs
    rw [asI_spec hc] at hr'
    have hv' := hr'.int_inv
    split at hs
    · rename_i hlim
      have gv : AppRun P w g.m ts tx e z.cells.length bytes ty (List.replicate c.toNat z) (ac.eval y) := by
        rw [hv']; exact AppRun.zeros hu hd hz hbt hb0 hb1 ty hlim.1 hlim.2.1 hlim.2.2
      have run : ∀ {u : Value} {w' : World}, (Builtin.append_ #[ts, tx] ty #[ac.eval x, ac.eval y]).run P w = .ok u w' →
          (execOp ac.eval { dst, op := .call { callee := .builtin .append, args := #[x, y], argTypes := #[ts, tx] }, type := ty, pos, after, guard := gd }).run P w = .ok (.value u) w' := by
        intro u w' hu
        rw [hb]
        simp only [builtin, runv, List.map_toArray, List.map_cons, List.map_nil, hu, Result.andThen_ok]
      simp only at hs
      generalize List.replicate c.toNat z = ys at gv hs
      generalize hx1 : O.ev tm o = a at hs hr
      unfold appTo at hs
      split at hs
      · split at hs
        · rename_i hl
          cases hs
          have hv : ac.eval x = .slice none 0 0 := by generalize ac.eval x = vx at hr; cases hr; rfl
          obtain ⟨u, w', g', h1, h2, h3, h4⟩ := append_good_nils h gv hl.1 hl.2 [d.getD 0]
          rw [← hv] at h1
          exact ⟨u, w', g', .inl (run h1), h2, h3, h4⟩
        · cases hs
      · split at hs
        · split at hs
          · rename_i es ver' fz hbx
            split at hs
            · rename_i hcc
              obtain ⟨rfl, rfl, hll, rfl, hl1, hl2⟩ := hcc
              cases hs
              obtain ⟨u, w', g', h1, h2, h3, h4⟩ := append_good_ref h gv hbx hll hr hl1 hl2
              exact ⟨u, w', g', .inl (run h1), h2, h3, h4⟩
            · cases hs
          · cases hs
        · cases hs
      · cases hs
    · cases hs
  | copy ty x y o o' td ts e n str i hu hi hn hstr hx hy =>
    obtain ⟨cs, hb⟩ := run_builtin (P := P) (w := w) ac.eval .copy #[x, y] #[td, ts] dst ty pos after gd
    have hr := hx.ra ht; have hr' := hy.ra ht
    generalize hx1 : O.ev tm o = a at hs hr
    cases a with
    | ref id ver off len sz =>
      simp only [List.map_cons, List.map_nil, hx1, sem, Option.bind_eq_some_iff] at hs
      obtain ⟨ys, hys, hs⟩ := hs
      split at hs
      · rename_i hc
        rw [Bool.and_eq_true] at hc
        have gv := copied_spec (P := P) h hr' hys hc.2 hstr
        split at hs
        · rename_i es ver' hbx
          split at hs
          · rename_i hc2
            obtain ⟨rfl, hle, rfl⟩ := hc2
            cases hs
            obtain ⟨w', g', h1, h2, h3⟩ := copy_good (ts := ts) hu hi hn ty h gv hbx hr hle
            refine ⟨_, w', g', .inl ?_, h2, h3, .d (.int _ _)⟩
            rw [hb]
            simp only [builtin, runv, List.map_toArray, List.map_cons, List.map_nil, h1, Result.andThen_ok]
          · cases hs
        · cases hs
      · cases hs
    | _ => simp only [List.map_cons, List.map_nil, hx1] at hs; cases hs
  | mn ty x y o o' ats hx hy =>
    obtain ⟨cs, hb⟩ := run_builtin (P := P) (w := w) ac.eval .min #[x, y] ats dst ty pos after gd
    simp only [List.map_cons, List.map_nil, sem, Option.bind_eq_some_iff] at hs
    obtain ⟨⟨k1, n1⟩, hn1, ⟨k2, n2⟩, hn2, he⟩ := hs; cases he
    have hr := hx.ra ht; have hr' := hy.ra ht
    rw [asI_spec hn1] at hr; rw [asI_spec hn2] at hr'
    have hv := hr.int_inv; have hv' := hr'.int_inv
    refine .same h (.d (.int _ _)) ?_
    rw [hb]
    simp only [builtin, runv, List.map_toArray, List.map_cons, List.map_nil, hv, hv', Builtin.min_, List.foldlM_cons, List.foldlM_nil, Builtin.min2, bind_pure, Sem.run_pure, Result.andThen_ok]
  | mx ty x y o o' ats hx hy =>
    obtain ⟨cs, hb⟩ := run_builtin (P := P) (w := w) ac.eval .max #[x, y] ats dst ty pos after gd
    simp only [List.map_cons, List.map_nil, sem, Option.bind_eq_some_iff] at hs
    obtain ⟨⟨k1, n1⟩, hn1, ⟨k2, n2⟩, hn2, he⟩ := hs; cases he
    have hr := hx.ra ht; have hr' := hy.ra ht
    rw [asI_spec hn1] at hr; rw [asI_spec hn2] at hr'
    have hv := hr.int_inv; have hv' := hr'.int_inv
    refine .same h (.d (.int _ _)) ?_
    rw [hb]
    simp only [builtin, runv, List.map_toArray, List.map_cons, List.map_nil, hv, hv', Builtin.max_, List.foldlM_cons, List.foldlM_nil, Builtin.max2, bind_pure, Sem.run_pure, Result.andThen_ok]

end Go.Es

namespace Go.Es

variable {mg m0 : Mm} {w0 : World} {OO : Nat → Prop} {g : Gh} {bx : Bx} {w : World} {P : Program}

/-! ### what is handed over, in memory -/
/-- A cell that is handed over, the machine's, and the blocks that go along. -/
inductive RC (m : Mm) (w : World) : T → Value → List Nat → Prop where
  | d {x : D} {v : Value} (h : RD m x v) : RC m w (.d x) v []
  | nilp : RC m w .nilp (.pointer none) []
  | gone (v : Value) : RC m w .gone v []
  | nil (fz : Bool) (sz : Nat) : RC m w (.arr fz sz []) (.slice none 0 0) []
  | arr (es : List D) (fz : Bool) (sz b a base cap : Nat) (vals : Array Value) (ty : TypeId) (fr : Nat × Nat) (hh : w.heap[b]? = some (.cells vals ty fr)) (hbare : Bare vals.size fr)
      (hfit : base + es.length * sz ≤ vals.size) (hs : ∀ i (h : i < es.length), es[i].cells.length = sz)
      (hf : ∀ i j (h : i < es.length) (hj : j < es[i].cells.length), es[i].cells[j].flat = true)
      (hr : ∀ i j (h : i < es.length) (hj : j < es[i].cells.length), RD m (es[i].cells[j]) (vals.getD (base + i * sz + j) undef))
      (hm : ∀ o, base + es.length * sz ≤ o → m b o = none) (hz : fz = false → ∀ o, m b o = none)
      (hcap : es.length ≤ cap) (hn : base + cap * sz ≤ vals.size) (ha : cap = 0 ∨ a = base) (h0 : sz ≠ 0) : RC m w (.arr fz sz es) (.slice (some ⟨b, a, none⟩) es.length cap) [b]

/-- One by one, each with blocks of its own. -/
inductive Each (R : T → Value → List Nat → Prop) : List T → List Value → List Nat → Prop where
  | nil : Each R [] [] []
  | cons {t : T} {v : Value} {b : List Nat} {ts : List T} {vs : List Value} {bs : List Nat} (h : R t v b) (k : Each R ts vs bs) : Each R (t :: ts) (v :: vs) (b ++ bs)

theorem Each.length {R : T → Value → List Nat → Prop} {ts : List T} {vs : List Value} {bs : List Nat} (h : Each R ts vs bs) : ts.length = vs.length := by
  induction h with
  | nil => rfl
  | cons _ _ ih => simp [ih]

theorem Each.map {R R' : T → Value → List Nat → Prop} {ts : List T} {vs : List Value} {bs : List Nat} (h : Each R ts vs bs) (f : ∀ t v b, (∀ x ∈ b, x ∈ bs) → R t v b → R' t v b) : Each R' ts vs bs := by
  induction h with
  | nil => exact .nil
  | cons h _ ih => exact .cons (f _ _ _ (fun x hx => List.mem_append_left _ hx) h) (ih fun t v b hb => f t v b fun x hx => List.mem_append_right _ (hb x hx))

inductive R1 (m : Mm) (w : World) : T → Value → List Nat → Prop where
  | cell {t : T} {v : Value} {bs : List Nat} (h : RC m w t v bs) : R1 m w t v bs
  | ptr (ts : List T) (b : Nat) (vals : Array Value) (ty : TypeId) (fr : Nat × Nat) (bs : List Nat) (hh : w.heap[b]? = some (.cells vals ty fr)) (hbare : Bare vals.size fr)
      (hm : ∀ o, m b o = none) (hr : Each (RC m w) ts vals.toList bs) (hf : ∀ t ∈ ts, t.flat = true) : R1 m w (.ptr ts) (.pointer (some ⟨b, 0, none⟩)) (bs ++ [b])
  | mix (ts : List T) (vs : Array Value) (bs : List Nat) (hr : Each (RC m w) ts vs.toList bs) : R1 m w (.mix ts) (.agg vs) bs

inductive RT (m : Mm) (w : World) : T → Value → List Nat → Prop where
  | one {t : T} {v : Value} {bs : List Nat} (h : R1 m w t v bs) : RT m w t v bs
  | tup (ts : List T) (vs : Array Value) (bs : List Nat) (hr : Each (R1 m w) ts vs.toList bs) : RT m w (.tup ts) (.tuple vs) bs
  | fn (f : Nat) (ts : List T) (vs : Array Value) (bs : List Nat) (hr : Each (R1 m w) ts vs.toList bs) : RT m w (.fn f ts) (.func (.func f) #[] vs) bs

theorem RC.turn {m m' : Mm} {w w' : World} {t : T} {v : Value} {bs : List Nat} (h : RC m w t v bs) (hm : m.le m') (hb : ∀ b ∈ bs, (∀ o, m' b o = m b o) ∧ w'.heap[b]? = w.heap[b]?) :
    RC m' w' t v bs := by
  cases h with
  | d h => exact .d (h.mono hm)
  | nilp => exact .nilp
  | gone => exact .gone _
  | nil => exact .nil _ _
  | arr es fz sz b a base cap vals ty fr hh hbare hfit hs hf hr hm' hz hcap hn ha h0 =>
    obtain ⟨h1, h2⟩ := hb b (by simp)
    exact .arr es fz sz b a base cap vals ty fr (h2.trans hh) hbare hfit hs hf (fun i j hi hj => (hr i j hi hj).mono hm) (fun o ho => (h1 o).trans (hm' o ho)) (fun e o => (h1 o).trans (hz e o)) hcap hn ha h0

theorem R1.turn {m m' : Mm} {w w' : World} {t : T} {v : Value} {bs : List Nat} (h : R1 m w t v bs) (hm : m.le m') (hb : ∀ b ∈ bs, (∀ o, m' b o = m b o) ∧ w'.heap[b]? = w.heap[b]?) :
    R1 m' w' t v bs := by
  cases h with
  | cell h => exact .cell (h.turn hm hb)
  | ptr ts b vals ty fr bs hh hbare hm' hr hf =>
    obtain ⟨h1, h2⟩ := hb b (by simp)
    exact .ptr ts b vals ty fr bs (h2.trans hh) hbare (fun o => (h1 o).trans (hm' o)) (hr.map fun t v bs' hs h => h.turn hm fun x hx => hb x (List.mem_append_left _ (hs x hx))) hf
  | mix ts vs bs hr => exact .mix ts vs bs (hr.map fun t v bs' hs h => h.turn hm fun x hx => hb x (hs x hx))

theorem RT.turn {m m' : Mm} {w w' : World} {t : T} {v : Value} {bs : List Nat} (h : RT m w t v bs) (hm : m.le m') (hb : ∀ b ∈ bs, (∀ o, m' b o = m b o) ∧ w'.heap[b]? = w.heap[b]?) :
    RT m' w' t v bs := by
  cases h with
  | one h => exact .one (h.turn hm hb)
  | tup ts vs bs hr => exact .tup ts vs bs (hr.map fun t v bs' hs h => h.turn hm fun x hx => hb x (hs x hx))
  | fn f ts vs bs hr => exact .fn f ts vs bs (hr.map fun t v bs' hs h => h.turn hm fun x hx => hb x (hs x hx))

/-! ### giving -/
def UsedE (E : List Id) (g : Gh) (bx : Bx) (b : Nat) : Prop := ∃ i p, i ∉ E ∧ bx i ≠ none ∧ g.β i = some p ∧ p.b = b

/-- The boxes E and the blocks bs have been given. -/
structure Gave (av : List Id) (m0 : Mm) (w0 : World) (O : Nat → Prop) (E : List Id) (bs : List Nat) (g : Gh) (bx : Bx) (w : World) : Prop where
  inv : Inv m0 w0 O g bx w
  nodup : bs.Nodup
  apart : ∀ b ∈ bs, ¬ UsedE E g bx b
  own : ∀ b ∈ bs, (w0.heap.size ≤ b ∨ O b) ∧ b < w.heap.size
  cells : ∀ i ∈ E, (∃ cs ver, bx i = some (.cells cs ver)) ∨ ∃ es ver fz, bx i = some (.arr es ver fz) ∧ okId av i = false

theorem Gave.notArr {av : List Id} {E : List Id} {bs : List Nat} (h : Gave av m0 w0 OO E bs g bx w) {b : Nat} (hb : b ∈ bs) :
    ¬ ∃ i p es ver fz, bx i = some (.arr es ver fz) ∧ g.β i = some p ∧ p.b = b ∧ okId av i = true := by
  rintro ⟨i, p, es, ver, fz, h1, h2, h3, hok⟩
  refine h.apart b hb ⟨i, p, fun hi => ?_, by rw [h1]; simp, h2, h3⟩
  rcases h.cells i hi with ⟨cs, v, hc⟩ | ⟨_, _, _, _, hno⟩
  · rw [h1] at hc; cases hc
  · rw [hok] at hno; cases hno

theorem UsedE.back {av : List Id} {E : List Id} {g' : Gh} {bx' : Bx} (hf : Fz av g bx g' bx') {b : Nat} (h : UsedE E g' bx' b) : UsedE E g bx b := by
  obtain ⟨i, p, h1, h2, h3, h4⟩ := h
  obtain ⟨h5, h6⟩ := hf.used i p h2 h3
  exact ⟨i, p, h1, h5, h6, h4⟩

/-- Arrays have been frozen. -/
theorem Gave.fz {av : List Id} {E : List Id} {bs : List Nat} (h : Gave av m0 w0 OO E bs g bx w) {g' : Gh} {bx' : Bx} (hi : Inv m0 w0 OO g' bx' w) (hf : Fz av g bx g' bx') : Gave av m0 w0 OO E bs g' bx' w where
  inv := hi
  nodup := h.nodup
  apart := fun b hb hu => h.apart b hb (hu.back hf)
  own := h.own
  cells := fun i hi' => by
    rcases h.cells i hi' with ⟨cs, ver, hc⟩ | ⟨es, ver, fz, hc, hno⟩
    · exact .inl ⟨cs, ver, (hf.cells i cs ver).2 hc⟩
    · exact .inr ⟨es, ver, fz, (hf.same i hno).trans hc, hno⟩

/-- One more block has been given. -/
theorem Gave.add {av : List Id} {E : List Id} {bs : List Nat} (h : Gave av m0 w0 OO E bs g bx w) {b : Nat} (hb : ¬ UsedE E g bx b) (hn : b ∉ bs) (ho : (w0.heap.size ≤ b ∨ OO b) ∧ b < w.heap.size) :
    Gave av m0 w0 OO E (bs ++ [b]) g bx w where
  inv := h.inv
  nodup := by
    rw [List.nodup_append]
    exact ⟨h.nodup, by simp, by intro x hx y hy; rw [List.mem_singleton] at hy; subst hy; rintro rfl; exact hn hx⟩
  apart := fun c hc => by
    rcases List.mem_append.1 hc with hc | hc
    · exact h.apart c hc
    · rw [List.mem_singleton] at hc; subst hc; exact hb
  own := fun c hc => by
    rcases List.mem_append.1 hc with hc | hc
    · exact h.own c hc
    · rw [List.mem_singleton] at hc; subst hc; exact ho
  cells := h.cells

/-- What a step of giving comes to. -/
structure Gives1 (av : List Id) (m0 : Mm) (w0 : World) (O : Nat → Prop) (E E' : List Id) (bs bs1 : List Nat) (g : Gh) (bx : Bx) (g' : Gh) (bx' : Bx) (w : World) : Prop where
  gave : Gave av m0 w0 O E' (bs ++ bs1) g' bx' w
  le : Le g bx g' bx'
  fz : Fz av g bx g' bx'

theorem Gave.mfix {av : List Id} {E : List Id} {bs : List Nat} (h : Gave av m0 w0 OO E bs g bx w) {g' : Gh} {bx' : Bx} (hf : Fz av g bx g' bx') : ∀ b ∈ bs, ∀ o, g'.m b o = g.m b o :=
  fun b hb o => hf.m b (h.notArr hb) o

/-- An array of its own goes along. -/
theorem give_arr {av : List Id} {E : List Id} {bs : List Nat} (h : Gave av m0 w0 OO E bs g bx w) {id : Id} {ver len sz : Nat} {es : List D} {fz : Bool} {v : Value} (hb : bx id = some (.arr es ver fz))
    (hv : RA g bx (.ref id ver 0 len sz) v) (hl : len = es.length) (h0 : sz ≠ 0) (hok : okId av id = true) :
    ∃ g' bs1, Gives1 av m0 w0 OO E E bs bs1 g bx g' (husk bx id ver) w ∧ RC g'.m w (.arr fz sz es) v bs1 := by
  have hnv : nextVer bx id ≤ ver + 1 := by simp [nextVer, hb, Box.ver]
  obtain ⟨hi, hle⟩ := h.inv.husk id (ver + 1) false hnv
  have hfz := Fz.husk g bx id hb (ver + 1) false hok
  have hg := h.fz hi hfz
  cases hv with
  | refOld _ _ _ _ _ _ _ y hb' hlt => rw [hb] at hb'; cases hb'; simp only [Box.ver_arr] at hlt; omega
  | refNil _ _ _ fz' hb' hp =>
    rw [hb] at hb'; cases hb'
    exact ⟨_, [], ⟨by rw [List.append_nil]; exact hg, hle, hfz⟩, .nil _ _⟩
  | ref _ _ _ _ _ a cap es' fz' p hb' hp hsz hlen hcap ha hn =>
    rw [hb] at hb'; cases hb'
    subst hl
    cases h.inv.sim.box id _ hb with
    | nil _ _ hq => rw [hp] at hq; cases hq
    | arr _ _ _ q vals ty fr hq hh hvs hbare hfit hes hf hr hm hz ho =>
      rw [hp] at hq; cases hq
      have hid : id ∉ E := fun hi => by
        rcases h.cells id hi with ⟨cs, v, hc⟩ | ⟨_, _, _, _, hno⟩
        · rw [hb] at hc; cases hc
        · rw [hok] at hno; cases hno
      have hnot : p.b ∉ bs := fun hm => h.apart _ hm ⟨id, p, hid, by rw [hb]; simp, hp, rfl⟩
      refine ⟨_, [p.b], ⟨hg.add ?_ hnot ho, hle, hfz⟩, ?_⟩
      · rintro ⟨i, q, h1, h2, h3, h4⟩
        by_cases e : i = id
        · subst e
          replace h3 : upd g.β i none i = some q := h3
          rw [upd_self] at h3; cases h3
        · obtain ⟨h5, h6⟩ := hfz.used i q h2 h3
          exact e (h.inv.sim.apart i id q p h5 (by rw [hb]; simp) h6 hp h4)
      · subst hsz
        refine .arr es fz p.sz p.b a p.base cap vals ty fr hh hbare (by omega) hes hf hr hm hz hcap (by rw [hvs]; simpa using hn) ?_ h0
        rcases ha with h | h
        · exact .inl h
        · exact .inr (by simpa using h)

theorem snap_give {av : List Id} {E : List Id} {bs : List Nat} (h : Gave av m0 w0 OO E bs g bx w) {a : A} {x : D} {bx' : Bx} {v : Value} (hv : RA g bx a v) (hs : snap av bx a = some (x, bx')) :
    ∃ g' bs1, Gives1 av m0 w0 OO E E bs bs1 g bx g' bx' w ∧ RC g'.m w (.d x) v bs1 := by
  obtain ⟨g', i, le, rd, fz⟩ := snap_spec h.inv hv hs
  exact ⟨g', [], ⟨by rw [List.append_nil]; exact h.fz i fz, le, fz⟩, .d rd⟩

theorem giveCell_spec {av : List Id} {E : List Id} {bs : List Nat} (h : Gave av m0 w0 OO E bs g bx w) {al : Option (List Id)} {a : A} {t : T} {bx' : Bx} {v : Value} (hv : RA g bx a v)
    (hs : giveCell av al bx a = some (t, bx')) : ∃ g' bs1, Gives1 av m0 w0 OO E E bs bs1 g bx g' bx' w ∧ RC g'.m w t v bs1 ∧ (a.flat = true → t.flat = true) := by
  have same : ∀ {t : T}, RC g.m w t v [] → (a.flat = true → t.flat = true) → ∃ g' bs1, Gives1 av m0 w0 OO E E bs bs1 g bx g' bx w ∧ RC g'.m w t v bs1 ∧ (a.flat = true → t.flat = true) :=
    fun hr hf => ⟨g, [], ⟨by rw [List.append_nil]; exact h, Le.refl _ _, Fz.refl _ _ _⟩, hr, hf⟩
  cases a with
  | d x =>
    simp only [giveCell] at hs; cases hs
    cases hv with | d hr => exact same (.d hr) id
  | nilp =>
    simp only [giveCell] at hs; cases hs
    cases hv; exact same .nilp id
  | nils =>
    simp only [giveCell] at hs; cases hs
    cases hv; exact same (.nil _ _) (fun _ => rfl)
  | empt =>
    simp only [giveCell] at hs; cases hs
    cases hv; exact same (.d (.sl0 _ _ (fun h => by cases h))) (fun _ => rfl)
  | ref id ver off len sz =>
    simp only [giveCell] at hs
    split at hs
    · rename_i hok
      split at hs
      · rename_i es ver' fz hb
        split at hs
        · rename_i hver
          subst hver
          split at hs
          · rename_i hc
            obtain ⟨rfl, hl, _, h0⟩ := hc
            cases hs
            obtain ⟨g', bs1, h1, h2⟩ := give_arr h hb hv hl h0 hok
            exact ⟨g', bs1, h1, h2, fun _ => rfl⟩
          · rw [Option.bind_eq_some_iff] at hs
            obtain ⟨l, hl, he⟩ := hs
            cases he
            obtain ⟨g', bs1, h1, h2⟩ := snap_give (x := .sl l) (bx' := frz bx id) h hv (by simp [snap, snap1, snapRef, hok, hb, hl])
            exact ⟨g', bs1, h1, h2, fun _ => rfl⟩
        · cases hs
      · cases hs
    · cases hs
  | _ => simp [giveCell] at hs

theorem outCell_spec {E : List Id} {bs : List Nat} (h : Gave [] m0 w0 OO E bs g bx w) {np : Nat} {a : A} {t : T} {bx' : Bx} {v : Value} (hv : RA g bx a v)
    (hs : outCell np bx a = some (t, bx')) : ∃ g' bs1, Gives1 [] m0 w0 OO E E bs bs1 g bx g' bx' w ∧ RC g'.m w t v bs1 ∧ (a.flat = true → t.flat = true) := by
  cases a with
  | ref id ver off len sz =>
    simp only [outCell] at hs
    split at hs
    · rename_i es ver' fz hb
      split at hs
      · rename_i hver
        subst hver
        split at hs
        · rename_i hc
          obtain ⟨rfl, hl, _, h0⟩ := hc
          cases hs
          obtain ⟨g', bs1, h1, h2⟩ := give_arr h hb hv hl h0 rfl
          exact ⟨g', bs1, h1, h2, fun _ => rfl⟩
        · rw [Option.bind_eq_some_iff] at hs
          obtain ⟨l, hl, he⟩ := hs
          cases he
          obtain ⟨g', bs1, h1, h2⟩ := snap_give (x := .sl l) (bx' := frz bx id) h hv (by simp [snap, snap1, snapRef, okId, hb, hl])
          exact ⟨g', bs1, h1, h2, fun _ => rfl⟩
      · cases hs
    · cases hs
  | _ => exact giveCell_spec (al := none) h hv hs

theorem Gives1.nil {av : List Id} {E : List Id} {bs : List Nat} (h : Gave av m0 w0 OO E bs g bx w) : Gives1 av m0 w0 OO E E bs [] g bx g bx w :=
  ⟨by rw [List.append_nil]; exact h, Le.refl _ _, Fz.refl _ _ _⟩

theorem Gives1.trans {av : List Id} {E E' E'' : List Id} {bs bs1 bs2 : List Nat} {g' g'' : Gh} {bx' bx'' : Bx} (h : Gives1 av m0 w0 OO E E' bs bs1 g bx g' bx' w) (k : Gives1 av m0 w0 OO E' E'' (bs ++ bs1) bs2 g' bx' g'' bx'' w) :
    Gives1 av m0 w0 OO E E'' bs (bs1 ++ bs2) g bx g'' bx'' w :=
  ⟨by rw [← List.append_assoc]; exact k.gave, h.le.trans k.le, h.fz.trans k.fz⟩

/-- What was given stays what it is, when more is given. -/
theorem Gives1.hold {av : List Id} {E E' E'' : List Id} {bs bs1 bs2 : List Nat} {g' g'' : Gh} {bx' bx'' : Bx} (h : Gives1 av m0 w0 OO E E' bs bs1 g bx g' bx' w) (k : Gives1 av m0 w0 OO E' E'' (bs ++ bs1) bs2 g' bx' g'' bx'' w) :
    ∀ b ∈ bs1, (∀ o, g''.m b o = g'.m b o) ∧ w.heap[b]? = w.heap[b]? :=
  fun b hb => ⟨h.gave.mfix k.fz b (List.mem_append_right _ hb), rfl⟩

/-- One by one. -/
theorem giveMany {av : List Id} {E : List Id} {R : Mm → T → Value → List Nat → Prop} {f : Bx → A → Option (T × Bx)} {fs : Bx → List A → Option (List T × Bx)}
    (hnil : ∀ bx, fs bx [] = some ([], bx)) (hcons : ∀ bx x r, fs bx (x :: r) = (f bx x).bind fun p => (fs p.2 r).bind fun q => some (p.1 :: q.1, q.2))
    (hturn : ∀ {m m' : Mm} {t : T} {v : Value} {b : List Nat}, R m t v b → m.le m' → (∀ x ∈ b, (∀ o, m' x o = m x o) ∧ w.heap[x]? = w.heap[x]?) → R m' t v b)
    (hone : ∀ {bs : List Nat} {g : Gh} {bx : Bx} {a : A} {t : T} {bx' : Bx} {v : Value}, Gave av m0 w0 OO E bs g bx w → RA g bx a v → f bx a = some (t, bx') →
      ∃ g' bs1, Gives1 av m0 w0 OO E E bs bs1 g bx g' bx' w ∧ R g'.m t v bs1 ∧ (a.flat = true → t.flat = true)) :
    ∀ {as : List A} {vs : List Value} {ts : List T} {bs : List Nat} {g : Gh} {bx bx' : Bx}, Gave av m0 w0 OO E bs g bx w → RAl g bx as vs → fs bx as = some (ts, bx') →
      ∃ g' bs1, Gives1 av m0 w0 OO E E bs bs1 g bx g' bx' w ∧ Each (R g'.m) ts vs bs1 ∧ ((∀ a ∈ as, a.flat = true) → ∀ t ∈ ts, t.flat = true) := by
  intro as
  induction as with
  | nil =>
    intro vs ts bs g bx bx' h hv hs
    cases hv
    rw [hnil] at hs; cases hs
    exact ⟨g, [], .nil h, .nil, fun _ t ht => by cases ht⟩
  | cons a r ih =>
    intro vs ts bs g bx bx' h hv hs
    cases hv with
    | cons hv hr =>
      rw [hcons] at hs
      simp only [Option.bind_eq_some_iff] at hs
      obtain ⟨⟨t, b1⟩, h1, ⟨tr, b2⟩, h2, he⟩ := hs
      cases he
      obtain ⟨g1, bs1, gv1, r1, f1⟩ := hone h hv h1
      obtain ⟨g2, bs2, gv2, r2, f2⟩ := ih gv1.gave (hr.mono gv1.le) h2
      refine ⟨g2, bs1 ++ bs2, gv1.trans gv2, .cons (hturn r1 gv2.le.m (gv1.hold gv2)) r2, fun hf x hx => ?_⟩
      rcases List.mem_cons.1 hx with rfl | hx
      · exact f1 (hf _ (by simp))
      · exact f2 (fun y hy => hf y (by simp [hy])) x hx

theorem giveCells_spec {av : List Id} {E : List Id} {al : Option (List Id)} {as : List A} {vs : List Value} {ts : List T} {bs : List Nat} {bx' : Bx} (h : Gave av m0 w0 OO E bs g bx w) (hv : RAl g bx as vs) (hs : giveCells av al bx as = some (ts, bx')) :
    ∃ g' bs1, Gives1 av m0 w0 OO E E bs bs1 g bx g' bx' w ∧ Each (RC g'.m w) ts vs bs1 ∧ ((∀ a ∈ as, a.flat = true) → ∀ t ∈ ts, t.flat = true) :=
  giveMany (f := giveCell av al) (fs := giveCells av al) (R := fun m => RC m w) (fun _ => rfl) (fun _ _ _ => rfl) (fun h hm hb => h.turn hm hb) (fun h hv hs => giveCell_spec h hv hs) h hv hs

theorem outCells_spec {E : List Id} {np : Nat} {as : List A} {vs : List Value} {ts : List T} {bs : List Nat} {bx' : Bx} (h : Gave [] m0 w0 OO E bs g bx w) (hv : RAl g bx as vs) (hs : outCells np bx as = some (ts, bx')) :
    ∃ g' bs1, Gives1 [] m0 w0 OO E E bs bs1 g bx g' bx' w ∧ Each (RC g'.m w) ts vs bs1 ∧ ((∀ a ∈ as, a.flat = true) → ∀ t ∈ ts, t.flat = true) :=
  giveMany (f := outCell np) (fs := outCells np) (R := fun m => RC m w) (fun _ => rfl) (fun _ _ _ => rfl) (fun h hm hb => h.turn hm hb) (fun h hv hs => outCell_spec h hv hs) h hv hs

theorem RAl.of {cs : List A} {vs : Array Value} (hl : vs.size = cs.length) (hr : ∀ j (h : j < cs.length), RA g bx cs[j] (vs[j]'(by omega))) : RAl g bx cs vs.toList := by
  obtain ⟨vs⟩ := vs
  simp only at hl hr ⊢
  induction cs generalizing vs with
  | nil => cases vs with
    | nil => exact .nil
    | cons _ _ => simp at hl
  | cons c r ih => cases vs with
    | nil => simp at hl
    | cons v s => exact .cons (hr 0 (by simp)) (ih s (by simpa using hl) fun j hj => hr (j + 1) (Nat.succ_lt_succ hj))

/-- A box of cells goes along: its cells, first. -/
theorem give_cells {av : List Id} {E : List Id} {bs bs1 : List Nat} {id : Id} {ver : Nat} {cs : List A} {ts : List T} {g' : Gh} {bx' : Bx} {v : Value} (hb : bx id = some (.cells cs ver))
    (hv : RA g bx (.ptr id ver 0) v) (h0 : Gave av m0 w0 OO E bs g bx w) (hid : id ∉ E) (k : Gives1 av m0 w0 OO E E bs bs1 g bx g' bx' w)
    (hc : ∀ vals : Array Value, (∃ p ty fr, g.β id = some p ∧ w.heap[p.b]? = some (.cells vals ty fr)) → Each (RC g'.m w) ts vals.toList bs1 ∧ ∀ t ∈ ts, t.flat = true) :
    ∃ p, g'.β id = some p ∧ v = .pointer (some ⟨p.b, 0, none⟩) ∧ p.b ∉ bs ++ bs1 ∧ ((w0.heap.size ≤ p.b ∨ OO p.b) ∧ p.b < w.heap.size) ∧ R1 g'.m w (.ptr ts) v (bs1 ++ [p.b]) := by
  cases hv with
  | ptrOld _ _ _ _ y hb' hlt => rw [hb] at hb'; cases hb'; simp only [Box.ver_cells] at hlt; omega
  | ptr _ _ _ cs' p hb' hp =>
    have hb2 : bx' id = some (.cells cs ver) := (k.fz.cells id cs ver).2 hb
    have hβ : g'.β id = some p := by rw [(k.le.cells id cs ver hb _ hb2 rfl).2, hp]
    cases h0.inv.sim.box id _ hb with
    | cells _ _ q vals ty fr hq hh hn hbare hf hr hm ho =>
      rw [hp] at hq; cases hq
      obtain ⟨e, ef⟩ := hc vals ⟨p, ty, fr, hp, hh⟩
      refine ⟨p, hβ, rfl, fun hm => k.gave.apart _ hm ⟨id, p, hid, by rw [hb2]; simp, hβ, rfl⟩, ho, ?_⟩
      refine .ptr ts p.b vals ty fr bs1 hh hbare (fun o => ?_) e ef
      rw [k.fz.m _ _ o, hm]
      rintro ⟨i, q, es, v', fz, h1, h2, h3, _⟩
      have := h0.inv.sim.apart i id q p (by rw [h1]; simp) (by rw [hb]; simp) h2 hp h3
      subst this
      rw [hb] at h1; cases h1

theorem box_cells (h : Inv m0 w0 OO g bx w) {id : Id} {cs : List A} {ver : Nat} (hb : bx id = some (.cells cs ver)) {vals : Array Value} (hv : ∃ p ty fr, g.β id = some p ∧ w.heap[p.b]? = some (.cells vals ty fr)) :
    RAl g bx cs vals.toList ∧ ∀ a ∈ cs, a.flat = true := by
  obtain ⟨p, ty, fr, hp, hh⟩ := hv
  cases h.sim.box id _ hb with
  | cells _ _ q vals' ty' fr' hq hh' hn hbare hf hr hm ho =>
    rw [hp] at hq; cases hq
    rw [hh] at hh'; cases hh'
    refine ⟨.of hn hr, fun a ha => ?_⟩
    obtain ⟨j, hj, rfl⟩ := List.mem_iff_getElem.1 ha
    exact hf j hj

theorem apartIds_spec : ∀ {l : List Id}, apartIds l = true → l.Nodup
  | [], _ => List.nodup_nil
  | i :: r, h => by
    simp only [apartIds, Bool.and_eq_true, Bool.not_eq_true', List.contains_eq_mem, decide_eq_false_iff_not] at h
    exact List.nodup_cons.2 ⟨h.1, apartIds_spec h.2⟩

theorem ptrIds1_cons (a : A) (r : List A) : ptrIds1 (a :: r) = ptrIds1 [a] ++ ptrIds1 r := by
  cases a <;> simp [ptrIds1]
theorem lids0_cons (a : A) (r : List A) : lids0 (a :: r) = lids0 [a] ++ lids0 r := by
  cases a <;> rfl

theorem ptrIds_cons (a : A) (r : List A) : ptrIds (a :: r) = ptrIds [a] ++ ptrIds r := by
  cases a <;> simp [ptrIds]

theorem lids1_cons (a : A) (r : List A) : lids1 (a :: r) = lids1 [a] ++ lids1 r := by
  cases a <;> simp [lids1]
theorem lids_cons (a : A) (r : List A) : lids (a :: r) = lids [a] ++ lids r := by
  cases a <;> simp [lids]

theorem Gave.lend {av : List Id} {E : List Id} {bs : List Nat} (h : Gave av m0 w0 OO E bs g bx w) {id : Id} {es : List D} {ver : Nat} {fz : Bool} (hb : bx id = some (.arr es ver fz)) (hno : okId av id = false) :
    Gave av m0 w0 OO ([id] ++ E) bs g bx w :=
  ⟨h.inv, h.nodup, fun c hc hu => h.apart c hc (by
    obtain ⟨i, q, h1, h2⟩ := hu
    exact ⟨i, q, fun hi => h1 (by simp [hi]), h2⟩), h.own, fun i hi => by
      rcases List.mem_append.1 hi with hi | hi
      · rw [List.mem_singleton] at hi; subst hi; exact .inr ⟨es, ver, fz, hb, hno⟩
      · exact h.cells i hi⟩

/-- An array is lent. -/
theorem giveL_spec {av : List Id} {E : List Id} {bs : List Nat} (h : Gave av m0 w0 OO E bs g bx w) {id : Id} {ver len sz : Nat} {es : List D} {fz : Bool} {v : Value} (hb : bx id = some (.arr es ver fz))
    (hv : RA g bx (.lref id ver 0 len sz) v) (hl : len = es.length) (h0 : sz ≠ 0) (hid : id ∉ E) (hno : okId av id = false) :
    ∃ bs1, Gives1 av m0 w0 OO E ([id] ++ E) bs bs1 g bx g bx w ∧ RC g.m w (.arr fz sz es) v bs1 := by
  have kg := h.lend hb hno
  cases hv with | lref _ _ _ _ _ _ hv =>
  cases hv with
  | refOld _ _ _ _ _ _ _ y hb' hlt => rw [hb] at hb'; cases hb'; simp only [Box.ver_arr] at hlt; omega
  | refNil _ _ _ fz' hb' hp =>
    rw [hb] at hb'; cases hb'
    exact ⟨[], ⟨by rw [List.append_nil]; exact kg, Le.refl _ _, Fz.refl _ _ _⟩, .nil _ _⟩
  | ref _ _ _ _ _ a cap es' fz' p hb' hp hsz hlen hcap ha hn =>
    rw [hb] at hb'; cases hb'
    cases h.inv.sim.box id _ hb with
    | nil _ _ hq => rw [hp] at hq; cases hq
    | arr _ _ _ q vals ty fr hq hh hvs hbare hfit hes hf hr hm hz ho =>
      rw [hp] at hq; cases hq
      refine ⟨[p.b], ⟨kg.add ?_ (fun hm => h.apart _ hm ⟨id, p, hid, by rw [hb]; simp, hp, rfl⟩) ho, Le.refl _ _, Fz.refl _ _ _⟩, ?_⟩
      · rintro ⟨i, q, h1, h2, h3, h4⟩
        have := h.inv.sim.apart i id q p h2 (by rw [hb]; simp) h3 hp h4
        subst this
        exact h1 (by simp)
      · subst hsz hl
        refine .arr es fz p.sz p.b a p.base cap vals ty fr hh hbare (by omega) hes hf hr hm hz hcap (by rw [hvs]; simpa using hn) ?_ h0
        rcases ha with h | h
        · exact .inl h
        · exact .inr (by simpa using h)

theorem Gave.congr {av : List Id} {E E' : List Id} {bs : List Nat} (h : Gave av m0 w0 OO E bs g bx w) (he : ∀ i, i ∈ E ↔ i ∈ E') : Gave av m0 w0 OO E' bs g bx w :=
  ⟨h.inv, h.nodup, fun c hc hu => h.apart c hc (by
    obtain ⟨i, q, h1, h2⟩ := hu
    exact ⟨i, q, fun hi => h1 ((he i).1 hi), h2⟩), h.own, fun i hi => h.cells i ((he i).2 hi)⟩

theorem giveM1_spec {av : List Id} {E : List Id} {bs : List Nat} (h : Gave av m0 w0 OO E bs g bx w) {al : Option (List Id)} {a : A} {t : T} {bx' : Bx} {v : Value} (hv : RA g bx a v)
    (hs : giveM1 av al bx a = some (t, bx')) (hE : ∀ i ∈ lids0 [a], i ∉ E) (hL : ∀ i ∈ lids0 [a], okId av i = false) : ∃ g' bs1, Gives1 av m0 w0 OO E (lids0 [a] ++ E) bs bs1 g bx g' bx' w ∧ RC g'.m w t v bs1 := by
  have other : lids0 [a] = [] → (snap1 av bx a).bind (fun p => some (T.d p.1, p.2)) = some (t, bx') → (∀ cs, a ≠ .mix cs) → ∃ g' bs1, Gives1 av m0 w0 OO E (lids0 [a] ++ E) bs bs1 g bx g' bx' w ∧ RC g'.m w t v bs1 := by
    intro he hs hm
    rw [he]
    simp only [Option.bind_eq_some_iff] at hs
    obtain ⟨⟨x, b⟩, h1, h2⟩ := hs
    cases h2
    have h1' : snap av bx a = some (x, b) := by
      cases a with
      | mix cs => exact absurd rfl (hm cs)
      | _ => exact h1
    obtain ⟨g', bs1, g1, r1⟩ := snap_give h hv h1'
    exact ⟨g', bs1, g1, r1⟩
  cases a with
  | nilp =>
    simp only [giveM1] at hs; cases hs
    cases hv
    exact ⟨g, [], .nil h, .nilp⟩
  | nils =>
    simp only [giveM1] at hs; cases hs
    cases hv
    exact ⟨g, [], .nil h, .nil _ _⟩
  | lref id ver off len sz =>
    simp only [giveM1] at hs
    split at hs
    · split at hs
      · rename_i es ver' fz hb
        have hid : id ∉ E := hE id (by simp [lids0])
        have hno : okId av id = false := hL id (by simp [lids0])
        split at hs
        · rename_i hc
          obtain ⟨rfl, rfl, hl, h0⟩ := hc
          cases hs
          obtain ⟨bs1, k, r⟩ := giveL_spec h hb hv hl h0 hid hno
          exact ⟨g, bs1, k, r⟩
        · cases hs
          exact ⟨g, [], ⟨by rw [List.append_nil]; exact h.lend hb hno, Le.refl _ _, Fz.refl _ _ _⟩, .gone _⟩
      · cases hs
    · cases hs
  | mix cs => simp [giveM1, snap1] at hs
  | _ => exact other rfl hs (fun _ h => by cases h)

theorem giveMs_spec {av : List Id} {al : Option (List Id)} : ∀ {as : List A} {vs : List Value} {ts : List T} {E : List Id} {bs : List Nat} {g : Gh} {bx bx' : Bx}, Gave av m0 w0 OO E bs g bx w → RAl g bx as vs → giveMs av al bx as = some (ts, bx') →
    (lids0 as).Nodup → (∀ i ∈ lids0 as, i ∉ E) → (∀ i ∈ lids0 as, okId av i = false) → ∃ E' g' bs1, (∀ i, i ∈ E' ↔ i ∈ lids0 as ∨ i ∈ E) ∧ Gives1 av m0 w0 OO E E' bs bs1 g bx g' bx' w ∧ Each (RC g'.m w) ts vs bs1
  | [], _, ts, E, bs, g, bx, bx', h, hv, hs, hn, hE, hL => by
    cases hv
    simp only [giveMs] at hs; cases hs
    exact ⟨E, g, [], fun i => by simp [lids0], .nil h, .nil⟩
  | a :: r, _, ts, E, bs, g, bx, bx', h, hv, hs, hn, hE, hL => by
    cases hv with
    | cons hv hr =>
      simp only [giveMs, Option.bind_eq_some_iff] at hs
      obtain ⟨⟨t, b1⟩, h1, ⟨tr, b2⟩, h2, he⟩ := hs
      cases he
      rw [lids0_cons a r] at hn hE hL
      rw [List.nodup_append] at hn
      obtain ⟨g1, bs1, k1, r1⟩ := giveM1_spec h hv h1 (fun i hi => hE i (List.mem_append_left _ hi)) (fun i hi => hL i (List.mem_append_left _ hi))
      obtain ⟨E', g2, bs2, hE', k2, r2⟩ := giveMs_spec k1.gave (hr.mono k1.le) h2 hn.2.1 (fun i hi => by
        rw [List.mem_append]; rintro (h | h)
        · exact hn.2.2 i h i hi rfl
        · exact hE i (List.mem_append_right _ hi) h) (fun i hi => hL i (List.mem_append_right _ hi))
      refine ⟨E', g2, bs1 ++ bs2, fun i => ?_, k1.trans k2, .cons (r1.turn k2.le.m (k1.hold k2)) r2⟩
      rw [hE', lids0_cons a r, List.mem_append, List.mem_append]
      constructor
      · rintro (h | h | h)
        · exact .inl (.inr h)
        · exact .inl (.inl h)
        · exact .inr h
      · rintro ((h | h) | h)
        · exact .inr (.inl h)
        · exact .inl h
        · exact .inr (.inr h)

/-- An argument is given. -/
theorem give1_spec {av : List Id} {E : List Id} {bs : List Nat} (h : Gave av m0 w0 OO E bs g bx w) {al : Option (List Id)} {a : A} {t : T} {bx' : Bx} {v : Value} (hv : RA g bx a v)
    (hs : give1 av al bx a = some (t, bx')) (hn : (ptrIds1 [a]).Nodup) (hE : ∀ i ∈ ptrIds1 [a], i ∉ E) (hL : ∀ i ∈ lids1 [a], okId av i = false) : ∃ g' bs1, Gives1 av m0 w0 OO E (ptrIds1 [a] ++ E) bs bs1 g bx g' bx' w ∧ R1 g'.m w t v bs1 := by
  have other : ptrIds1 [a] = [] → (snap av bx a).bind (fun p => some (T.d p.1, p.2)) = some (t, bx') → ∃ g' bs1, Gives1 av m0 w0 OO E (ptrIds1 [a] ++ E) bs bs1 g bx g' bx' w ∧ R1 g'.m w t v bs1 := by
    intro he hs
    rw [he]
    simp only [Option.bind_eq_some_iff] at hs
    obtain ⟨⟨x, b⟩, h1, h2⟩ := hs
    cases h2
    obtain ⟨g', bs1, g1, r1⟩ := snap_give h hv h1
    exact ⟨g', bs1, g1, .cell r1⟩
  cases a with
  | nilp =>
    simp only [give1] at hs; cases hs
    cases hv
    exact ⟨g, [], .nil h, .cell .nilp⟩
  | top =>
    simp only [give1] at hs; cases hs
    exact ⟨g, [], .nil h, .cell (.gone _)⟩
  | lref id ver off len sz =>
    simp only [give1] at hs
    split at hs
    · split at hs
      · rename_i es ver' fz hb
        split at hs
        · rename_i hc
          obtain ⟨rfl, rfl, hl, h0⟩ := hc
          cases hs
          exact (fun ⟨bs1, k, r⟩ => ⟨g, bs1, k, .cell r⟩) (giveL_spec h hb hv hl h0 (hE id (by simp [ptrIds1])) (hL id (by simp [lids1])))
        · cases hs
      · cases hs
    · cases hs
  | ptr id ver off =>
    cases off with
    | succ n => simp [give1, snap, snap1] at hs
    | zero =>
      simp only [give1] at hs
      split at hs
      · split at hs
        · rename_i cs ver' hb
          split at hs
          · rename_i hver
            subst hver
            simp only [Option.bind_eq_some_iff] at hs
            obtain ⟨⟨ts, b⟩, h1, he⟩ := hs
            cases he
            have hid : id ∉ E := hE id (by simp [ptrIds1])
            have hvals : ∃ vals p ty fr, g.β id = some p ∧ w.heap[p.b]? = some (.cells vals ty fr) := by
              cases h.inv.sim.box id _ hb with
              | cells _ _ q vals' ty' fr' hq hh' => exact ⟨vals', q, ty', fr', hq, hh'⟩
            obtain ⟨vals, hvals⟩ := hvals
            obtain ⟨ra, fl⟩ := box_cells h.inv hb hvals
            obtain ⟨g', bs1, k, e, ef⟩ := giveCells_spec h ra h1
            obtain ⟨p, hβ, hpv, hnot, ho, r1⟩ := give_cells (ts := ts) hb hv h hid k (fun vals' hv' => by
              obtain ⟨p, ty, fr, h1, h2⟩ := hvals
              obtain ⟨p', ty', fr', h1', h2'⟩ := hv'
              rw [h1] at h1'; cases h1'
              rw [h2] at h2'; cases h2'
              exact ⟨e, ef fl⟩)
            have hb2 : b id = some (.cells cs ver) := (k.fz.cells id cs ver).2 hb
            refine ⟨g', bs1 ++ [p.b], ⟨?_, k.le, k.fz⟩, r1⟩
            have kg : Gave av m0 w0 OO ([id] ++ E) (bs ++ bs1) g' b w := ⟨k.gave.inv, k.gave.nodup, fun c hc hu => k.gave.apart c hc (by
              obtain ⟨i, q, h1, h2⟩ := hu
              exact ⟨i, q, fun hi => h1 (by simp [hi]), h2⟩), k.gave.own, fun i hi => by
                rcases List.mem_append.1 hi with hi | hi
                · rw [List.mem_singleton] at hi; subst hi; exact .inl ⟨cs, ver, hb2⟩
                · exact k.gave.cells i hi⟩
            rw [← List.append_assoc]
            refine kg.add ?_ hnot ho
            rintro ⟨i, q, h1, h2, h3, h4⟩
            have := kg.inv.sim.apart i id q p h2 (by rw [hb2]; simp) h3 hβ h4
            subst this
            exact h1 (by simp)
          · cases hs
        · cases hs
      · cases hs
  | mix cs =>
    have e1 : ptrIds1 [.mix cs] = lids0 cs := by simp [ptrIds1]
    have e2 : lids1 [.mix cs] = lids0 cs := by simp [lids1]
    simp only [give1] at hs
    split at hs
    · rename_i he
      exact other (by rw [e1]; exact List.isEmpty_iff.1 he) hs
    · simp only [Option.bind_eq_some_iff] at hs
      obtain ⟨⟨ts, b⟩, h1, he⟩ := hs
      cases he
      rw [e1] at hn hE ⊢
      rw [e2] at hL
      cases hv with
      | mix _ vs hl hf hr =>
        obtain ⟨E', g', bs1, hE', k, r⟩ := giveMs_spec h (.of hl hr) h1 hn hE hL
        exact ⟨g', bs1, ⟨k.gave.congr fun i => by rw [hE', List.mem_append], k.le, k.fz⟩, .mix ts vs bs1 r⟩
  | _ => exact other rfl hs

theorem gives1_spec {av : List Id} {al : Option (List Id)} : ∀ {as : List A} {vs : List Value} {ts : List T} {E : List Id} {bs : List Nat} {g : Gh} {bx bx' : Bx}, Gave av m0 w0 OO E bs g bx w → RAl g bx as vs → gives1 av al bx as = some (ts, bx') →
    (ptrIds1 as).Nodup → (∀ i ∈ ptrIds1 as, i ∉ E) → (∀ i ∈ lids1 as, okId av i = false) → ∃ E' g' bs1, (∀ i, i ∈ E' ↔ i ∈ ptrIds1 as ∨ i ∈ E) ∧ Gives1 av m0 w0 OO E E' bs bs1 g bx g' bx' w ∧ Each (R1 g'.m w) ts vs bs1
  | [], _, ts, E, bs, g, bx, bx', h, hv, hs, hn, hE, hL => by
    cases hv
    simp only [gives1] at hs; cases hs
    exact ⟨E, g, [], fun i => by simp [ptrIds1], .nil h, .nil⟩
  | a :: r, _, ts, E, bs, g, bx, bx', h, hv, hs, hn, hE, hL => by
    cases hv with
    | cons hv hr =>
      simp only [gives1, Option.bind_eq_some_iff] at hs
      obtain ⟨⟨t, b1⟩, h1, ⟨tr, b2⟩, h2, he⟩ := hs
      cases he
      rw [ptrIds1_cons a r] at hn hE
      rw [lids1_cons a r] at hL
      rw [List.nodup_append] at hn
      obtain ⟨g1, bs1, k1, r1⟩ := give1_spec h hv h1 hn.1 (fun i hi => hE i (List.mem_append_left _ hi)) (fun i hi => hL i (List.mem_append_left _ hi))
      obtain ⟨E', g2, bs2, hE', k2, r2⟩ := gives1_spec k1.gave (hr.mono k1.le) h2 hn.2.1 (fun i hi => by
        rw [List.mem_append]; rintro (h | h)
        · exact hn.2.2 i h i hi rfl
        · exact hE i (List.mem_append_right _ hi) h) (fun i hi => hL i (List.mem_append_right _ hi))
      refine ⟨E', g2, bs1 ++ bs2, fun i => ?_, k1.trans k2, .cons (r1.turn k2.le.m (k1.hold k2)) r2⟩
      rw [hE', ptrIds1_cons a r, List.mem_append, List.mem_append]
      constructor
      · rintro (h | h | h)
        · exact .inl (.inr h)
        · exact .inl (.inl h)
        · exact .inr h
      · rintro ((h | h) | h)
        · exact .inr (.inl h)
        · exact .inl h
        · exact .inr (.inr h)

theorem give_spec {av : List Id} {E : List Id} {bs : List Nat} (h : Gave av m0 w0 OO E bs g bx w) {al : Option (List Id)} {a : A} {t : T} {bx' : Bx} {v : Value} (hv : RA g bx a v)
    (hs : give av al bx a = some (t, bx')) (hn : (ptrIds [a]).Nodup) (hE : ∀ i ∈ ptrIds [a], i ∉ E) (hL : ∀ i ∈ lids [a], okId av i = false) :
    ∃ E' g' bs1, (∀ i, i ∈ E' ↔ i ∈ ptrIds [a] ∨ i ∈ E) ∧ Gives1 av m0 w0 OO E E' bs bs1 g bx g' bx' w ∧ RT g'.m w t v bs1 := by
  have one : ptrIds [a] = ptrIds1 [a] → lids [a] = lids1 [a] → give1 av al bx a = some (t, bx') → ∃ E' g' bs1, (∀ i, i ∈ E' ↔ i ∈ ptrIds [a] ∨ i ∈ E) ∧ Gives1 av m0 w0 OO E E' bs bs1 g bx g' bx' w ∧ RT g'.m w t v bs1 := by
    intro he hel hs
    rw [he] at hn hE ⊢
    rw [hel] at hL
    obtain ⟨g', bs1, k, r⟩ := give1_spec h hv hs hn hE hL
    exact ⟨_, g', bs1, fun i => List.mem_append, k, .one r⟩
  cases a with
  | fn f caps =>
    simp only [give, Option.bind_eq_some_iff] at hs
    obtain ⟨⟨ts, b⟩, h1, he⟩ := hs
    cases he
    cases hv with
    | fn _ _ vs hl hr =>
      have e : ptrIds [.fn f caps] = ptrIds1 caps := by simp [ptrIds]
      rw [e] at hn hE ⊢
      have el : lids [.fn f caps] = lids1 caps := by simp [lids]
      rw [el] at hL
      obtain ⟨E', g', bs1, hE', k, r⟩ := gives1_spec h (.of hl hr) h1 hn hE hL
      exact ⟨E', g', bs1, hE', k, .fn f ts vs bs1 r⟩
  | _ => exact one rfl rfl hs

theorem gives_spec {av : List Id} {al : Option (List Id)} : ∀ {as : List A} {vs : List Value} {ts : List T} {E : List Id} {bs : List Nat} {g : Gh} {bx bx' : Bx}, Gave av m0 w0 OO E bs g bx w → RAl g bx as vs → gives av al bx as = some (ts, bx') →
    (ptrIds as).Nodup → (∀ i ∈ ptrIds as, i ∉ E) → (∀ i ∈ lids as, okId av i = false) → ∃ E' g' bs1, (∀ i, i ∈ E' ↔ i ∈ ptrIds as ∨ i ∈ E) ∧ Gives1 av m0 w0 OO E E' bs bs1 g bx g' bx' w ∧ Each (RT g'.m w) ts vs bs1
  | [], _, ts, E, bs, g, bx, bx', h, hv, hs, hn, hE, hL => by
    cases hv
    simp only [gives] at hs; cases hs
    exact ⟨E, g, [], fun i => by simp [ptrIds], .nil h, .nil⟩
  | a :: r, _, ts, E, bs, g, bx, bx', h, hv, hs, hn, hE, hL => by
    cases hv with
    | cons hv hr =>
      simp only [gives, Option.bind_eq_some_iff] at hs
      obtain ⟨⟨t, b1⟩, h1, ⟨tr, b2⟩, h2, he⟩ := hs
      cases he
      rw [ptrIds_cons a r] at hn hE
      rw [lids_cons a r] at hL
      rw [List.nodup_append] at hn
      obtain ⟨E1, g1, bs1, hE1, k1, r1⟩ := give_spec h hv h1 hn.1 (fun i hi => hE i (List.mem_append_left _ hi)) (fun i hi => hL i (List.mem_append_left _ hi))
      obtain ⟨E', g2, bs2, hE', k2, r2⟩ := gives_spec k1.gave (hr.mono k1.le) h2 hn.2.1 (fun i hi => by
        rw [hE1]; rintro (h | h)
        · exact hn.2.2 i h i hi rfl
        · exact hE i (List.mem_append_right _ hi) h) (fun i hi => hL i (List.mem_append_right _ hi))
      refine ⟨E', g2, bs1 ++ bs2, fun i => ?_, k1.trans k2, .cons (r1.turn k2.le.m (k1.hold k2)) r2⟩
      rw [hE', hE1, ptrIds_cons a r, List.mem_append]
      constructor
      · rintro (h | h | h)
        · exact .inl (.inr h)
        · exact .inl (.inl h)
        · exact .inr h
      · rintro ((h | h) | h)
        · exact .inr (.inl h)
        · exact .inl h
        · exact .inr (.inr h)

structure Gives2 (m0 : Mm) (w0 : World) (O : Nat → Prop) (bs bs1 : List Nat) (g : Gh) (bx : Bx) (g' : Gh) (bx' : Bx) (w : World) : Prop where
  gave : Gave [] m0 w0 O [] (bs ++ bs1) g' bx' w
  le : Le g bx g' bx'
  hold : ∀ b ∈ bs, ∀ o, g'.m b o = g.m b o

theorem Gives1.two {bs bs1 : List Nat} {g' : Gh} {bx' : Bx} (h : Gave [] m0 w0 OO [] bs g bx w) (k : Gives1 [] m0 w0 OO [] [] bs bs1 g bx g' bx' w) : Gives2 m0 w0 OO bs bs1 g bx g' bx' w :=
  ⟨k.gave, k.le, h.mfix k.fz⟩

/-- A result is given. -/
theorem out1_spec {bs : List Nat} (h : Gave [] m0 w0 OO [] bs g bx w) {np : Nat} {a : A} {t : T} {bx' : Bx} {v : Value} (hv : RA g bx a v)
    (hs : out1 np bx a = some (t, bx')) : ∃ g' bs1, Gives2 m0 w0 OO bs bs1 g bx g' bx' w ∧ R1 g'.m w t v bs1 ∧ (a.flat = true → t.flat = true) := by
  have cell : outCell np bx a = some (t, bx') → ∃ g' bs1, Gives2 m0 w0 OO bs bs1 g bx g' bx' w ∧ R1 g'.m w t v bs1 ∧ (a.flat = true → t.flat = true) := fun hs =>
    let ⟨g', bs1, k, r, f⟩ := outCell_spec h hv hs
    ⟨g', bs1, k.two h, .cell r, f⟩
  cases a with
  | mix cs =>
    simp only [out1, Option.bind_eq_some_iff] at hs
    obtain ⟨⟨ts, b⟩, h1, he⟩ := hs
    cases he
    cases hv with
    | mix _ vs hl hf hr =>
      obtain ⟨g', bs1, k, e, ef⟩ := outCells_spec h (.of hl hr) h1
      exact ⟨g', bs1, k.two h, .mix ts vs bs1 e, fun h => by cases h⟩
  | ptr id ver off =>
    cases off with
    | succ n => exact cell (by simpa [out1] using hs)
    | zero =>
      simp only [out1] at hs
      split at hs
      · split at hs
        · rename_i cs ver' hb
          split at hs
          · rename_i hver
            subst hver
            simp only [Option.bind_eq_some_iff] at hs
            obtain ⟨⟨ts, b⟩, h1, he⟩ := hs
            cases he
            have hvals : ∃ vals p ty fr, g.β id = some p ∧ w.heap[p.b]? = some (.cells vals ty fr) := by
              cases h.inv.sim.box id _ hb with
              | cells _ _ q vals' ty' fr' hq hh' => exact ⟨vals', q, ty', fr', hq, hh'⟩
            obtain ⟨vals, hvals⟩ := hvals
            obtain ⟨ra, fl⟩ := box_cells h.inv hb hvals
            obtain ⟨g', bs1, k, e, ef⟩ := giveCells_spec h ra h1
            obtain ⟨p, hβ, hpv, hnot, ho, r1⟩ := give_cells (ts := ts) hb hv h (by simp) k (fun vals' hv' => by
              obtain ⟨p, ty, fr, h1, h2⟩ := hvals
              obtain ⟨p', ty', fr', h1', h2'⟩ := hv'
              rw [h1] at h1'; cases h1'
              rw [h2] at h2'; cases h2'
              exact ⟨e, ef fl⟩)
            have hb2 : b id = some (.cells cs ver) := (k.fz.cells id cs ver).2 hb
            obtain ⟨hi, hle⟩ := k.gave.inv.husk id (ver + 1) false (by simp [nextVer, hb2, Box.ver])
            have kg := k.gave.inv
            refine ⟨⟨g'.m, upd g'.β id none⟩, bs1 ++ [p.b], ⟨?_, k.le.trans hle, fun c hc o => h.mfix k.fz c hc o⟩, r1.turn (fun _ _ _ h => h) (fun _ _ => ⟨fun _ => rfl, rfl⟩), fun _ => rfl⟩
            have back : ∀ {c}, UsedE [] ⟨g'.m, upd g'.β id none⟩ (upd b id (some (.arr [] (ver + 1) false))) c → ∃ i q, i ≠ id ∧ b i ≠ none ∧ g'.β i = some q ∧ q.b = c := by
              rintro c ⟨i, q, h1, h2, h3, h4⟩
              by_cases e : i = id
              · subst e
                replace h3 : upd g'.β i none i = some q := h3
                rw [upd_self] at h3; cases h3
              · replace h3 : upd g'.β id none i = some q := h3
                rw [upd_ne _ _ _ _ e] at h2 h3
                exact ⟨i, q, e, h2, h3, h4⟩
            have kg2 : Gave [] m0 w0 OO [] (bs ++ bs1) ⟨g'.m, upd g'.β id none⟩ (upd b id (some (.arr [] (ver + 1) false))) w :=
              ⟨hi, k.gave.nodup, fun c hc hu => by
                obtain ⟨i, q, _, h2, h3, h4⟩ := back hu
                exact k.gave.apart c hc ⟨i, q, by simp, h2, h3, h4⟩, k.gave.own, fun i hi => by cases hi⟩
            rw [← List.append_assoc]
            refine kg2.add (fun hu => ?_) hnot ho
            obtain ⟨i, q, e, h2, h3, h4⟩ := back hu
            exact e (kg.sim.apart i id q p h2 (by rw [hb2]; simp) h3 hβ h4)
          · cases hs
        · cases hs
      · cases hs
  | _ => exact cell hs

theorem outs1_spec {np : Nat} : ∀ {as : List A} {vs : List Value} {ts : List T} {bs : List Nat} {g : Gh} {bx bx' : Bx}, Gave [] m0 w0 OO [] bs g bx w → RAl g bx as vs → outs1 np bx as = some (ts, bx') →
    ∃ g' bs1, Gives2 m0 w0 OO bs bs1 g bx g' bx' w ∧ Each (R1 g'.m w) ts vs bs1
  | [], _, ts, bs, g, bx, bx', h, hv, hs => by
    cases hv
    simp only [outs1] at hs; cases hs
    exact ⟨g, [], ⟨by rw [List.append_nil]; exact h, Le.refl _ _, fun _ _ _ => rfl⟩, .nil⟩
  | a :: r, _, ts, bs, g, bx, bx', h, hv, hs => by
    cases hv with
    | cons hv hr =>
      simp only [outs1, Option.bind_eq_some_iff] at hs
      obtain ⟨⟨t, b1⟩, h1, ⟨tr, b2⟩, h2, he⟩ := hs
      cases he
      obtain ⟨g1, bs1, k1, r1, _⟩ := out1_spec h hv h1
      obtain ⟨g2, bs2, k2, r2⟩ := outs1_spec k1.gave (hr.mono k1.le) h2
      exact ⟨g2, bs1 ++ bs2, ⟨by rw [← List.append_assoc]; exact k2.gave, k1.le.trans k2.le, fun b hb o => by rw [k2.hold b (List.mem_append_left _ hb) o, k1.hold b hb o]⟩,
        .cons (r1.turn k2.le.m (fun b hb => ⟨fun o => k2.hold b (List.mem_append_right _ hb) o, rfl⟩)) r2⟩

/-! ### taking -/
/-- As Inv, but for the boxes E. -/
structure InvE (m0 : Mm) (w0 : World) (O : Nat → Prop) (E : List Id) (g : Gh) (bx : Bx) (w : World) : Prop where
  cons : ∀ b o v, g.m b o = some v → w.cell? ⟨b, o, none⟩ = some v
  box : ∀ id x, id ∉ E → bx id = some x → BoxAt g bx w (fun b => (w0.heap.size ≤ b ∨ O b) ∧ b < w.heap.size) id x
  apart : ∀ i j p q, i ∉ E → j ∉ E → bx i ≠ none → bx j ≠ none → g.β i = some p → g.β j = some q → p.b = q.b → i = j
  mle : m0.le g.m
  keep : ∀ b, b < w0.heap.size → ¬ O b → w.heap[b]? = w0.heap[b]? ∧ ∀ o, g.m b o = m0 b o
  size : Grown w0 w
  os : w.os = w0.os
  tape : w.tape = w0.tape
  output : w.output = w0.output

theorem InvE.inv (h : InvE m0 w0 OO [] g bx w) : Inv m0 w0 OO g bx w where
  sim := ⟨h.cons, fun id x hx => h.box id x (by simp) hx, fun i j p q => h.apart i j p q (by simp) (by simp)⟩
  mle := h.mle
  keep := h.keep
  size := h.size
  os := h.os
  tape := h.tape
  output := h.output

structure Took (m0 : Mm) (w0 : World) (O : Nat → Prop) (E : List Id) (bs : List Nat) (g : Gh) (bx : Bx) (w : World) : Prop where
  inv : InvE m0 w0 O E g bx w
  nodup : bs.Nodup
  apart : ∀ b ∈ bs, ¬ UsedE E g bx b
  own : ∀ b ∈ bs, (w0.heap.size ≤ b ∨ O b) ∧ b < w.heap.size
  lent : ∀ i ∈ E, ∀ es ver fz p, bx i = some (.arr es ver fz) → g.β i = some p → osz w p.b = some p.n ∧ p.base ≤ p.n

theorem Took.drop {E : List Id} {bs rest : List Nat} (h : Took m0 w0 OO E (bs ++ rest) g bx w) : Took m0 w0 OO E rest g bx w :=
  ⟨h.inv, (List.nodup_append.1 h.nodup).2.1, fun b hb => h.apart b (List.mem_append_right _ hb), fun b hb => h.own b (List.mem_append_right _ hb), h.lent⟩

theorem Took.install {E : List Id} {bs : List Nat} (h : Took m0 w0 OO E bs g bx w) (id : Id) (x : Box) (β' : Option Pl)
    (hle : Le g bx ⟨g.m, upd g.β id β'⟩ (upd bx id (some x))) (hβ : ∀ p, β' = some p → p.b ∈ bs)
    (hbox : BoxAt ⟨g.m, upd g.β id β'⟩ (upd bx id (some x)) w (fun b => (w0.heap.size ≤ b ∨ OO b) ∧ b < w.heap.size) id x)
    (E' : List Id) (hE2 : ∀ i ∈ E', i ∈ E) (hx : ∀ es ver fz p, x = .arr es ver fz → β' = some p → osz w p.b = some p.n ∧ p.base ≤ p.n) (hE : ∀ i, i ∉ E' → i ≠ id → i ∉ E) (rest : List Nat) (hr : ∀ c ∈ rest, c ∈ bs ∧ ∀ p, β' = some p → c ≠ p.b) (hnd : rest.Nodup) :
    Took m0 w0 OO E' rest ⟨g.m, upd g.β id β'⟩ (upd bx id (some x)) w where
  inv := {
    cons := h.inv.cons
    box := fun i y hi hy => by
      by_cases e : i = id
      · subst e
        rw [upd_self] at hy; cases hy
        exact hbox
      · rw [upd_ne _ _ _ _ e] at hy
        exact (h.inv.box i y (hE i hi e) hy).keep hle (upd_ne _ _ _ _ e) (fun _ _ => rfl) (fun _ _ _ => rfl)
    apart := fun i j p q hi hj hbi hbj hp hq hpq => by
      replace hp : upd g.β id β' i = some p := hp
      replace hq : upd g.β id β' j = some q := hq
      by_cases ei : i = id
      · by_cases ej : j = id
        · rw [ei, ej]
        · subst ei
          rw [upd_self] at hp
          rw [upd_ne _ _ _ _ ej] at hq hbj
          exact absurd ⟨j, q, hE j hj ej, hbj, hq, hpq.symm⟩ (h.apart _ (hβ p hp))
      · rw [upd_ne _ _ _ _ ei] at hp hbi
        by_cases ej : j = id
        · subst ej
          rw [upd_self] at hq
          exact absurd ⟨i, p, hE i hi ei, hbi, hp, hpq⟩ (h.apart _ (hβ q hq))
        · rw [upd_ne _ _ _ _ ej] at hq hbj
          exact h.inv.apart i j p q (hE i hi ei) (hE j hj ej) hbi hbj hp hq hpq
    mle := h.inv.mle
    keep := h.inv.keep
    size := h.inv.size
    os := h.inv.os
    tape := h.inv.tape
    output := h.inv.output }
  nodup := hnd
  apart := fun c hc => by
    rintro ⟨i, p, h1, h2, h3, h4⟩
    replace h3 : upd g.β id β' i = some p := h3
    by_cases e : i = id
    · subst e
      rw [upd_self] at h3
      exact (hr c hc).2 p h3 h4.symm
    · rw [upd_ne _ _ _ _ e] at h2 h3
      exact h.apart c (hr c hc).1 ⟨i, p, hE i h1 e, h2, h3, h4⟩
  own := fun c hc => h.own c (hr c hc).1
  lent := fun i hi es ver fz p hb hp => by
    replace hp : upd g.β id β' i = some p := hp
    by_cases e : i = id
    · subst e
      rw [upd_self] at hb hp; cases hb
      exact hx es ver fz p rfl hp
    · rw [upd_ne _ _ _ _ e] at hb hp
      exact h.lent i (hE2 i hi) es ver fz p hb hp

structure Takes1 (m0 : Mm) (w0 : World) (O : Nat → Prop) (E : List Id) (rest : List Nat) (g : Gh) (bx : Bx) (g' : Gh) (bx' : Bx) (w : World) : Prop where
  took : Took m0 w0 O E rest g' bx' w
  le : Le g bx g' bx'
  m : g'.m = g.m

theorem takeCell_spec {E : List Id} {bs1 rest : List Nat} (h : Took m0 w0 OO E (bs1 ++ rest) g bx w) {id : Id} {t : T} {a : A} {bx' : Bx} {v : Value} (hr : RC g.m w t v bs1)
    (hs : takeCell id bx t = some (a, bx')) : ∃ g', Takes1 m0 w0 OO E rest g bx g' bx' w ∧ RA g' bx' a v ∧ (t.flat = true → a.flat = true) := by
  cases hr with
  | d hr => simp only [takeCell] at hs; cases hs; exact ⟨g, ⟨h.drop, Le.refl _ _, rfl⟩, .d hr, fun h => h⟩
  | nilp => simp only [takeCell] at hs; cases hs; exact ⟨g, ⟨h.drop, Le.refl _ _, rfl⟩, .nilp, fun h => h⟩
  | gone v => simp only [takeCell] at hs; cases hs; exact ⟨g, ⟨h.drop, Le.refl _ _, rfl⟩, .top _, fun h => by cases h⟩
  | nil fz sz =>
    cases sz with
    | zero => simp only [takeCell] at hs; cases hs; exact ⟨g, ⟨h.drop, Le.refl _ _, rfl⟩, .nils, fun _ => rfl⟩
    | succ sz =>
    simp only [takeCell] at hs; cases hs
    have hle := Le.fresh (g := g) (bx := bx) (id := id) (x := .arr [] (nextVer bx id) fz) g.m (fun _ _ _ h => h) none (Nat.le_refl _)
    exact ⟨_, ⟨h.install id _ none hle (fun p hp => by cases hp) (.nil _ _ (upd_self _ _ _)) E (fun _ h => h) (fun _ _ _ _ _ h => by cases h) (fun i hi _ => hi) rest (fun c hc => ⟨hc, fun p hp => by cases hp⟩) h.drop.nodup, hle, rfl⟩,
      .refNil _ _ _ fz (upd_self _ _ _) (upd_self _ _ _), fun _ => rfl⟩
  | arr es fz sz b a base cap vals ty fr hh hbare hfit hes hf hr hm hz hcap hn ha h0 =>
    cases sz with
    | zero => exact absurd rfl h0
    | succ sz =>
    simp only [takeCell] at hs; cases hs
    have hle := Le.fresh (g := g) (bx := bx) (id := id) (x := .arr es (nextVer bx id) fz) g.m (fun _ _ _ h => h) (some ⟨b, base, sz + 1, vals.size⟩) (Nat.le_refl _)
    refine ⟨_, ⟨h.install id _ (some ⟨b, base, sz + 1, vals.size⟩) hle (fun p hp => by cases hp; simp) ?_ E (fun _ h => h) (fun _ _ _ p _ h => by cases h; exact ⟨osz_of hh, by simp only; omega⟩) (fun i hi _ => hi) rest (fun c hc => ⟨by simp [hc], fun p hp => ?_⟩) h.drop.nodup, hle, rfl⟩, ?_, fun _ => rfl⟩
    · exact .arr es _ fz ⟨b, base, sz + 1, vals.size⟩ vals ty fr (upd_self _ _ _) hh rfl hbare hfit hes hf hr hm hz (h.own b (by simp))
    · cases hp
      rintro rfl
      exact (List.nodup_cons.1 h.nodup).1 hc
    · exact .ref _ _ _ _ _ a cap es fz ⟨b, base, sz + 1, vals.size⟩ (upd_self _ _ _) (upd_self _ _ _) rfl (by omega) hcap (by rcases ha with h | h; exact .inl h; exact .inr (by simpa using h)) (by simpa using hn)

theorem takeMany {E : List Id} {R : Mm → T → Value → List Nat → Prop} {f : Id → Bx → T → Option (A × Bx)} {fs : Bx → Nat → List T → Option (List A × Bx)} {id : Id}
    (hnil : ∀ bx j, fs bx j [] = some ([], bx)) (hcons : ∀ bx j x r, fs bx j (x :: r) = (f (j :: id) bx x).bind fun p => (fs p.2 (j + 1) r).bind fun q => some (p.1 :: q.1, q.2))
    (hone : ∀ {bs1 rest : List Nat} {g : Gh} {bx : Bx} {id : Id} {t : T} {a : A} {bx' : Bx} {v : Value}, Took m0 w0 OO E (bs1 ++ rest) g bx w → R g.m t v bs1 → f id bx t = some (a, bx') →
      ∃ g', Takes1 m0 w0 OO E rest g bx g' bx' w ∧ RA g' bx' a v ∧ (t.flat = true → a.flat = true)) :
    ∀ {ts : List T} {as : List A} {vs : List Value} {j : Nat} {bs1 rest : List Nat} {g : Gh} {bx bx' : Bx}, Took m0 w0 OO E (bs1 ++ rest) g bx w → Each (R g.m) ts vs bs1 → fs bx j ts = some (as, bx') →
      ∃ g', Takes1 m0 w0 OO E rest g bx g' bx' w ∧ RAl g' bx' as vs ∧ ((∀ t ∈ ts, t.flat = true) → ∀ a ∈ as, a.flat = true) := by
  intro ts
  induction ts with
  | nil =>
    intro as vs j bs1 rest g bx bx' h hr hs
    cases hr
    rw [hnil] at hs; cases hs
    exact ⟨g, ⟨h, Le.refl _ _, rfl⟩, .nil, fun _ a ha => by cases ha⟩
  | cons t r ih =>
    intro as vs j bs1 rest g bx bx' h hr hs
    cases hr with
    | cons hr hrs =>
      rw [hcons] at hs
      simp only [Option.bind_eq_some_iff] at hs
      obtain ⟨⟨a, b1⟩, h1, ⟨ar, b2⟩, h2, he⟩ := hs
      cases he
      rw [List.append_assoc] at h
      obtain ⟨g1, k1, r1, f1⟩ := hone h hr h1
      obtain ⟨g2, k2, r2, f2⟩ := ih k1.took (by rw [k1.m]; exact hrs) h2
      refine ⟨g2, ⟨k2.took, k1.le.trans k2.le, k2.m.trans k1.m⟩, .cons (r1.mono k2.le) r2, fun hf x hx => ?_⟩
      rcases List.mem_cons.1 hx with rfl | hx
      · exact f1 (hf _ (by simp))
      · exact f2 (fun y hy => hf y (by simp [hy])) x hx

theorem takeCells_spec {E : List Id} {id : Id} {ts : List T} {as : List A} {vs : List Value} {j : Nat} {bs1 rest : List Nat} {bx' : Bx} (h : Took m0 w0 OO E (bs1 ++ rest) g bx w) (hr : Each (RC g.m w) ts vs bs1)
    (hs : takeCells id bx j ts = some (as, bx')) : ∃ g', Takes1 m0 w0 OO E rest g bx g' bx' w ∧ RAl g' bx' as vs ∧ ((∀ t ∈ ts, t.flat = true) → ∀ a ∈ as, a.flat = true) :=
  takeMany (R := fun m => RC m w) (f := takeCell) (fs := takeCells id) (fun _ _ => rfl) (fun _ _ _ _ => rfl) (fun h hr hs => takeCell_spec h hr hs) h hr hs

theorem RAl.arr {as : List A} {vs : Array Value} (h : RAl g bx as vs.toList) : ∃ hl : vs.size = as.length, ∀ j (h : j < as.length), RA g bx as[j] (vs[j]'(by omega)) := by
  have hl := h.length
  have hg := h.get
  exact ⟨by simpa using hl.symm, fun j hj => by simpa using hg j hj⟩

theorem take1_spec {E : List Id} {bs1 rest : List Nat} (h : Took m0 w0 OO E (bs1 ++ rest) g bx w) {id : Id} {t : T} {a : A} {bx' : Bx} {v : Value} (hr : R1 g.m w t v bs1)
    (hs : take1 id bx t = some (a, bx')) : ∃ g', Takes1 m0 w0 OO E rest g bx g' bx' w ∧ RA g' bx' a v := by
  cases hr with
  | cell hr =>
    have e : take1 id bx t = takeCell id bx t := by cases hr <;> rfl
    rw [e] at hs
    obtain ⟨g', k, r, _⟩ := takeCell_spec h hr hs
    exact ⟨g', k, r⟩
  | mix ts vs bs hr =>
    simp only [take1] at hs
    split at hs
    · rename_i hf
      rw [List.all_eq_true] at hf
      simp only [Option.bind_eq_some_iff] at hs
      obtain ⟨⟨as, b⟩, h1, he⟩ := hs
      cases he
      obtain ⟨g', k, r, f⟩ := takeCells_spec h hr h1
      obtain ⟨hl, hra⟩ := r.arr
      exact ⟨g', k, .mix as vs hl (fun j hj => f hf _ (List.getElem_mem _)) hra⟩
    · cases hs
  | ptr ts b vals ty fr bs hh hbare hm hr hf =>
    simp only [take1, Option.bind_eq_some_iff] at hs
    obtain ⟨⟨as, b1⟩, h1, he⟩ := hs
    cases he
    rw [List.append_assoc] at h
    obtain ⟨g1, k, r, f⟩ := takeCells_spec h hr h1
    have hle := Le.fresh (g := g1) (bx := b1) (id := id) (x := .cells as (nextVer b1 id)) g1.m (fun _ _ _ h => h) (some ⟨b, 0, 0, 0⟩) (Nat.le_refl _)
    obtain ⟨hl, hra⟩ := (r.mono hle).arr
    have hnd := k.took.nodup
    refine ⟨_, ⟨k.took.install id _ (some ⟨b, 0, 0, 0⟩) hle (fun p hp => by cases hp; simp) ?_ E (fun _ h => h) (fun _ _ _ _ h _ => by cases h) (fun i hi _ => hi) rest (fun c hc => ⟨by simp [hc], fun p hp => ?_⟩) (k.took.drop (bs := [b])).nodup, k.le.trans hle, k.m⟩, ?_⟩
    · exact .cells as _ ⟨b, 0, 0, 0⟩ vals ty fr (upd_self _ _ _) hh hl hbare (fun j hj => f hf _ (List.getElem_mem _)) hra (fun o => by rw [k.m]; exact hm o) (k.took.own b (by simp))
    · cases hp
      rintro rfl
      exact (List.nodup_cons.1 hnd).1 hc
    · exact .ptr id _ 0 as ⟨b, 0, 0, 0⟩ (upd_self _ _ _) (upd_self _ _ _)

theorem takes1_spec {E : List Id} {id : Id} {ts : List T} {as : List A} {vs : List Value} {j : Nat} {bs1 rest : List Nat} {bx' : Bx} (h : Took m0 w0 OO E (bs1 ++ rest) g bx w) (hr : Each (R1 g.m w) ts vs bs1)
    (hs : takes1 id bx j ts = some (as, bx')) : ∃ g', Takes1 m0 w0 OO E rest g bx g' bx' w ∧ RAl g' bx' as vs := by
  induction ts generalizing as vs j bs1 rest g bx bx' with
  | nil =>
    cases hr
    simp only [takes1] at hs; cases hs
    exact ⟨g, ⟨h, Le.refl _ _, rfl⟩, .nil⟩
  | cons t r ih =>
    cases hr with
    | cons hr hrs =>
      simp only [takes1, Option.bind_eq_some_iff] at hs
      obtain ⟨⟨a, b1⟩, h1, ⟨ar, b2⟩, h2, he⟩ := hs
      cases he
      rw [List.append_assoc] at h
      obtain ⟨g1, k1, r1⟩ := take1_spec h hr h1
      obtain ⟨g2, k2, r2⟩ := ih k1.took (by rw [k1.m]; exact hrs) h2
      exact ⟨g2, ⟨k2.took, k1.le.trans k2.le, k2.m.trans k1.m⟩, .cons (r1.mono k2.le) r2⟩

theorem take_spec {E : List Id} {bs1 rest : List Nat} (h : Took m0 w0 OO E (bs1 ++ rest) g bx w) {id : Id} {t : T} {a : A} {bx' : Bx} {v : Value} (hr : RT g.m w t v bs1)
    (hs : take id bx t = some (a, bx')) : ∃ g', Takes1 m0 w0 OO E rest g bx g' bx' w ∧ RA g' bx' a v := by
  cases hr with
  | one hr =>
    have e : take id bx t = take1 id bx t := by
      cases hr with
      | cell hr => cases hr <;> rfl
      | _ => rfl
    rw [e] at hs
    exact take1_spec h hr hs
  | tup ts vs bs hr =>
    simp only [take, Option.bind_eq_some_iff] at hs
    obtain ⟨⟨as, b⟩, h1, he⟩ := hs
    cases he
    obtain ⟨g', k, r⟩ := takes1_spec h hr h1
    obtain ⟨hl, hra⟩ := r.arr
    exact ⟨g', k, .tup as vs hl hra⟩
  | fn f ts vs bs hr =>
    simp only [take, Option.bind_eq_some_iff] at hs
    obtain ⟨⟨as, b⟩, h1, he⟩ := hs
    cases he
    obtain ⟨g', k, r⟩ := takes1_spec h hr h1
    obtain ⟨hl, hra⟩ := r.arr
    exact ⟨g', k, .fn f as vs hl hra⟩

theorem takesP_spec {ts : List T} {as : List A} {vs : List Value} {j : Nat} {bs1 rest : List Nat} {bx' : Bx} (h : Took m0 w0 OO [] (bs1 ++ rest) g bx w) (hr : Each (RT g.m w) ts vs bs1)
    (hs : takesP bx j ts = some (as, bx')) : ∃ g', Takes1 m0 w0 OO [] rest g bx g' bx' w ∧ RAl g' bx' as vs := by
  induction ts generalizing as vs j bs1 rest g bx bx' with
  | nil =>
    cases hr
    simp only [takesP] at hs; cases hs
    exact ⟨g, ⟨h, Le.refl _ _, rfl⟩, .nil⟩
  | cons t r ih =>
    cases hr with
    | cons hr hrs =>
      simp only [takesP, Option.bind_eq_some_iff] at hs
      obtain ⟨⟨a, b1⟩, h1, ⟨ar, b2⟩, h2, he⟩ := hs
      cases he
      rw [List.append_assoc] at h
      obtain ⟨g1, k1, r1⟩ := take_spec h hr h1
      obtain ⟨g2, k2, r2⟩ := ih k1.took (by rw [k1.m]; exact hrs) h2
      exact ⟨g2, ⟨k2.took, k1.le.trans k2.le, k2.m.trans k1.m⟩, .cons (r1.mono k2.le) r2⟩

/-! ### behind a call -/
theorem upd_eq {α β : Type} [DecidableEq α] (f : α → β) (i : α) (v : β) (h : f i = v) : upd f i v = f := by
  funext j
  simp only [upd]; split
  · rename_i e; subst e; exact h.symm
  · rfl

theorem backL_spec {E : List Id} {bs1 rest : List Nat} {id : Id} {ver off len sz : Nat} {t : T} {bx' : Bx} {v : Value} (h : Took m0 w0 OO ([id] ++ E) (bs1 ++ rest) g bx w) (hv : RA g bx (.lref id ver off len sz) v) (hr : RC g.m w t v bs1)
    (hs : backL bx id ver off sz t = some bx') : ∃ g', Takes1 m0 w0 OO E rest g bx g' bx' w := by
  have hE' : ∀ i, i ∉ E → i ≠ id → i ∉ [id] ++ E := fun i hi hne => by
    rw [List.mem_append]; rintro (h | h)
    · simp only [List.mem_singleton] at h; exact hne h
    · exact hi h
  cases hv with | lref _ _ _ _ _ _ hv =>
  cases t with
  | gone =>
    simp only [backL] at hs; cases hs
    have hle := Le.fresh (g := g) (bx := bx) (id := id) (x := .arr [] (nextVer bx id) false) g.m (fun _ _ _ h => h) none (Nat.le_refl _)
    exact ⟨_, ⟨h.install id _ none hle (fun p hp => by cases hp) (.nil _ _ (upd_self _ _ _)) E (fun i hi => List.mem_append_right _ hi) (fun _ _ _ _ _ h => by cases h) hE' rest (fun c hc => ⟨List.mem_append_right _ hc, fun p hp => by cases hp⟩) (Took.drop h).nodup, hle, rfl⟩⟩
  | arr fz sz' es =>
    simp only [backL] at hs
    split at hs
    · rename_i es0 ver' fz0 hb
      split at hs
      · rename_i hc
        obtain ⟨rfl, rfl, hel, rfl, hfe⟩ := hc
        cases hs
        have hle1 := Le.one (g := g) (bx := bx) (id := id) hb (.arr es0 es ver fz0 fz hel) g.m (fun _ _ _ h => h)
        cases hv with
        | refOld _ _ _ _ _ _ _ y hb' hlt => rw [hb] at hb'; cases hb'; simp only [Box.ver_arr] at hlt; omega
        | refNil _ _ _ fz' hb' hp =>
          rw [hb] at hb'; cases hb'
          have hes : es = [] := by simpa using hel
          subst hes
          rw [show g.β = upd g.β id none from (upd_eq _ _ _ hp).symm] at hle1
          exact ⟨_, ⟨h.install id _ none hle1 (fun p hp => by cases hp) (.nil _ _ (upd_self _ _ _)) E (fun i hi => List.mem_append_right _ hi) (fun _ _ _ _ _ h => by cases h) hE' rest (fun c hc => ⟨List.mem_append_right _ hc, fun p hp => by cases hp⟩) (Took.drop h).nodup, hle1, rfl⟩⟩
        | ref _ _ _ _ _ a cap es' fz' p hb' hp hsz hlen hcap ha hn =>
          rw [hb] at hb'; cases hb'
          obtain ⟨hos, hbase⟩ := h.lent id (by simp) es0 ver fz0 p hb hp
          rw [show g.β = upd g.β id (some p) from (upd_eq _ _ _ hp).symm] at hle1
          cases hr with
          | arr _ _ _ b a' base cap' vals ty fr hh hbare hfit hes hf hrd hm hz hcap' hn' ha' h0 =>
            have hvs : vals.size = p.n := by
              rw [osz_of hh] at hos; exact Option.some.inj hos
            have key : cap = 0 ∧ es = [] ∨ base = p.base := by
              by_cases hc0 : cap = 0
              · left
                refine ⟨hc0, List.eq_nil_of_length_eq_zero ?_⟩
                omega
              · right
                rcases ha' with h1 | h1
                · exact absurd h1 hc0
                · rcases ha with h2 | h2
                  · exact absurd h2 hc0
                  · rw [Nat.zero_mul, Nat.add_zero] at h2; omega
            have hnd := h.nodup
            refine ⟨_, ⟨h.install id (.arr es ver fz) (some p) hle1 (fun p' hp' => by cases hp'; simp) ?_ E (fun i hi => List.mem_append_right _ hi) (fun _ _ _ p' _ hp' => by cases hp'; exact ⟨hos, hbase⟩) hE' rest (fun c hc => ⟨by simp [hc], fun p' hp' => ?_⟩) (Took.drop h).nodup, hle1, rfl⟩⟩
            · subst hsz
              rcases key with ⟨hc0, rfl⟩ | rfl
              · have hzf : fz = false := by
                  rcases hfe with h | h
                  · exact h
                  · exact absurd rfl h
                exact .arr [] ver fz p vals ty fr (upd_self _ _ _) hh hvs hbare (by simpa using hbase) (fun i hi => by simp at hi) (fun i j hi => by simp at hi) (fun i j hi => by simp at hi) (fun o _ => hz hzf o) hz (h.own p.b (by simp))
              · exact .arr es ver fz p vals ty fr (upd_self _ _ _) hh hvs hbare (by omega) hes hf hrd hm hz (h.own p.b (by simp))
            · cases hp'
              rintro rfl
              exact (List.nodup_cons.1 hnd).1 hc
      · cases hs
    · cases hs
  | _ => simp [backL] at hs

theorem backM1_spec {E : List Id} {bs1 rest : List Nat} {a : A} {t : T} {bx' : Bx} {v : Value} (h : Took m0 w0 OO (lids0 [a] ++ E) (bs1 ++ rest) g bx w) (hv : RA g bx a v) (hr : RC g.m w t v bs1)
    (hs : backM1 bx a t = some bx') : ∃ g', Takes1 m0 w0 OO E rest g bx g' bx' w := by
  have other : lids0 [a] = [] → bx = bx' → ∃ g', Takes1 m0 w0 OO E rest g bx g' bx' w := by
    rintro he rfl
    rw [he] at h
    exact ⟨g, ⟨h.drop, Le.refl _ _, rfl⟩⟩
  cases a with
  | lref id ver off len sz => exact backL_spec h hv hr hs
  | _ => exact other rfl (Option.some.inj hs)

theorem backMs_spec : ∀ {as : List A} {ts : List T} {vs : List Value} {E : List Id} {bs1 rest : List Nat} {g : Gh} {bx bx' : Bx}, Took m0 w0 OO (lids0 as ++ E) (bs1 ++ rest) g bx w → RAl g bx as vs →
    Each (RC g.m w) ts vs bs1 → backMs bx as ts = some bx' → ∃ g', Takes1 m0 w0 OO E rest g bx g' bx' w
  | [], ts, _, E, bs1, rest, g, bx, bx', h, hv, hr, hs => by
    cases hv; cases hr
    simp only [backMs] at hs; cases hs
    exact ⟨g, ⟨h, Le.refl _ _, rfl⟩⟩
  | a :: r, ts, _, E, bs1, rest, g, bx, bx', h, hv, hr, hs => by
    cases hv with
    | cons hv hvs =>
      cases hr with
      | cons hr hrs =>
        simp only [backMs, Option.bind_eq_some_iff] at hs
        obtain ⟨b1, h1, h2⟩ := hs
        rw [lids0_cons a r, List.append_assoc, List.append_assoc] at h
        obtain ⟨g1, k1⟩ := backM1_spec h hv hr h1
        obtain ⟨g2, k2⟩ := backMs_spec k1.took (hvs.mono k1.le) (by rw [k1.m]; exact hrs) h2
        exact ⟨g2, ⟨k2.took, k1.le.trans k2.le, k2.m.trans k1.m⟩⟩

theorem back1_spec {E : List Id} {bs1 rest : List Nat} {a : A} {t : T} {bx' : Bx} {v : Value} (h : Took m0 w0 OO (ptrIds1 [a] ++ E) (bs1 ++ rest) g bx w) (hv : RA g bx a v) (hr : R1 g.m w t v bs1)
    (hs : back1 bx a t = some bx') : ∃ g', Takes1 m0 w0 OO E rest g bx g' bx' w := by
  have other : ptrIds1 [a] = [] → bx = bx' → ∃ g', Takes1 m0 w0 OO E rest g bx g' bx' w := by
    rintro he rfl
    rw [he] at h
    exact ⟨g, ⟨h.drop, Le.refl _ _, rfl⟩⟩
  cases a with
  | ptr id ver off =>
    cases t with
    | ptr ts =>
      simp only [back1, Option.bind_eq_some_iff] at hs
      obtain ⟨⟨as, b1⟩, h1, hs⟩ := hs
      simp only at hs
      split at hs
      · rename_i cs ver' hb
        split at hs
        · rename_i hver
          subst hver
          cases hs
          cases hr with
          | cell hr => cases hr
          | ptr _ b vals ty fr bs hh hbare hm hr hf =>
            rw [List.append_assoc] at h
            obtain ⟨g1, k, r, f⟩ := takeCells_spec h hr h1
            have hv1 := hv.mono k.le
            cases hv1 with
            | ptrOld _ _ _ _ y hb' hlt => rw [hb] at hb'; cases hb'; simp only [Box.ver_cells] at hlt; omega
            | ptr _ _ _ cs' p hb' hp =>
              have hle := Le.one (g := g1) (bx := b1) (id := id) hb (.cells cs as ver) g1.m (fun _ _ _ h => h)
              rw [show g1.β = upd g1.β id (some p) from (upd_eq _ _ _ hp).symm] at hle
              obtain ⟨hl, hra⟩ := (r.mono hle).arr
              have hnd := k.took.nodup
              refine ⟨_, ⟨k.took.install id (.cells as ver) (some p) hle (fun p' hp' => by cases hp'; simp) ?_ E (fun i hi => List.mem_append_right _ hi) (fun _ _ _ _ h _ => by cases h) (fun i hi hne => by
                rw [List.mem_append]; rintro (h | h)
                · simp only [ptrIds1, List.mem_singleton] at h; exact hne h
                · exact hi h) rest (fun c hc => ⟨by simp [hc], fun p' hp' => ?_⟩) (k.took.drop (bs := [p.b])).nodup, k.le.trans hle, k.m⟩⟩
              · exact .cells as _ p vals ty fr (upd_self _ _ _) hh hl hbare (fun j hj => f hf _ (List.getElem_mem _)) hra (fun o => by rw [k.m]; exact hm o) (k.took.own p.b (by simp))
              · cases hp'
                rintro rfl
                exact (List.nodup_cons.1 hnd).1 hc
        · cases hs
      · cases hs
    | _ => simp [back1] at hs
  | lref id ver off len sz =>
    cases hr with
    | cell hr => exact backL_spec (by simpa [ptrIds1] using h) hv hr (by simpa [back1] using hs)
    | _ => simp [back1, backL] at hs
  | mix cs =>
    have e1 : ptrIds1 [.mix cs] = lids0 cs := by simp [ptrIds1]
    by_cases hm : ∃ ts, t = .mix ts
    · obtain ⟨ts, rfl⟩ := hm
      simp only [back1] at hs
      cases hv with
      | mix _ vs hl hf hra =>
        cases hr with
        | cell hr => cases hr
        | mix _ _ _ hr =>
          rw [e1] at h
          exact backMs_spec h (.of hl hra) hr hs
    · have : (if (lids0 cs).isEmpty then some bx else none) = some bx' := by
        rw [← hs]
        cases t <;> first | rfl | exact absurd ⟨_, rfl⟩ hm
      split at this
      · rename_i he
        exact other (by rw [e1]; exact List.isEmpty_iff.1 he) (Option.some.inj this)
      · cases this
  | _ => exact other rfl (by simpa [back1] using hs)

theorem backs1_spec : ∀ {as : List A} {ts : List T} {vs : List Value} {E : List Id} {bs1 rest : List Nat} {g : Gh} {bx bx' : Bx}, Took m0 w0 OO (ptrIds1 as ++ E) (bs1 ++ rest) g bx w → RAl g bx as vs →
    Each (R1 g.m w) ts vs bs1 → backs1 bx as ts = some bx' → ∃ g', Takes1 m0 w0 OO E rest g bx g' bx' w
  | [], ts, _, E, bs1, rest, g, bx, bx', h, hv, hr, hs => by
    cases hv; cases hr
    simp only [backs1] at hs; cases hs
    exact ⟨g, ⟨h, Le.refl _ _, rfl⟩⟩
  | a :: r, ts, _, E, bs1, rest, g, bx, bx', h, hv, hr, hs => by
    cases hv with
    | cons hv hvs =>
      cases hr with
      | cons hr hrs =>
        simp only [backs1, Option.bind_eq_some_iff] at hs
        obtain ⟨b1, h1, h2⟩ := hs
        rw [ptrIds1_cons a r, List.append_assoc, List.append_assoc] at h
        obtain ⟨g1, k1⟩ := back1_spec h hv hr h1
        obtain ⟨g2, k2⟩ := backs1_spec k1.took (hvs.mono k1.le) (by rw [k1.m]; exact hrs) h2
        exact ⟨g2, ⟨k2.took, k1.le.trans k2.le, k2.m.trans k1.m⟩⟩

theorem back_spec {E : List Id} {bs1 rest : List Nat} {a : A} {t : T} {bx' : Bx} {v : Value} (h : Took m0 w0 OO (ptrIds [a] ++ E) (bs1 ++ rest) g bx w) (hv : RA g bx a v) (hr : RT g.m w t v bs1)
    (hs : back bx a t = some bx') : ∃ g', Takes1 m0 w0 OO E rest g bx g' bx' w := by
  have one : ptrIds [a] = ptrIds1 [a] → (∀ f caps, a ≠ .fn f caps) → back1 bx a t = some bx' → ∃ g', Takes1 m0 w0 OO E rest g bx g' bx' w := by
    intro he hne hs
    rw [he] at h
    cases hr with
    | one hr => exact back1_spec h hv hr hs
    | tup ts vs bs hr =>
      cases hv with
      | tup => simp only [back1] at hs; cases hs; exact ⟨g, ⟨Took.drop (by simpa [ptrIds1] using h), Le.refl _ _, rfl⟩⟩
      | top => simp only [back1] at hs; cases hs; exact ⟨g, ⟨Took.drop (by simpa [ptrIds1] using h), Le.refl _ _, rfl⟩⟩
      | d h => cases h
      | lref _ _ _ _ _ _ h => cases h
    | fn f ts vs bs hr =>
      cases hv with
      | fn f cs => exact absurd rfl (hne f cs)
      | top => simp only [back1] at hs; cases hs; exact ⟨g, ⟨Took.drop (by simpa [ptrIds1] using h), Le.refl _ _, rfl⟩⟩
      | d h => cases h
      | lref _ _ _ _ _ _ h => cases h
  cases a with
  | fn f caps =>
    cases t with
    | fn f' ts =>
      simp only [back] at hs
      cases hr with
      | one hr => cases hr with | cell hr => cases hr
      | fn _ _ vs bs hr =>
        cases hv with
        | fn _ _ _ hl hra =>
          have e : ptrIds [.fn f caps] = ptrIds1 caps := by simp [ptrIds]
          rw [e] at h
          exact backs1_spec h (.of hl hra) hr hs
    | _ => simp [back] at hs
  | _ => exact one rfl (fun _ _ h => by cases h) hs

theorem backs_spec : ∀ {as : List A} {ts : List T} {vs : List Value} {E : List Id} {bs1 rest : List Nat} {g : Gh} {bx bx' : Bx}, Took m0 w0 OO (ptrIds as ++ E) (bs1 ++ rest) g bx w → RAl g bx as vs →
    Each (RT g.m w) ts vs bs1 → backs bx as ts = some bx' → ∃ g', Takes1 m0 w0 OO E rest g bx g' bx' w
  | [], ts, _, E, bs1, rest, g, bx, bx', h, hv, hr, hs => by
    cases hv; cases hr
    simp only [backs] at hs; cases hs
    exact ⟨g, ⟨h, Le.refl _ _, rfl⟩⟩
  | a :: r, ts, _, E, bs1, rest, g, bx, bx', h, hv, hr, hs => by
    cases hv with
    | cons hv hvs =>
      cases hr with
      | cons hr hrs =>
        simp only [backs, Option.bind_eq_some_iff] at hs
        obtain ⟨b1, h1, h2⟩ := hs
        rw [ptrIds_cons a r, List.append_assoc, List.append_assoc] at h
        obtain ⟨g1, k1⟩ := back_spec h hv hr h1
        obtain ⟨g2, k2⟩ := backs_spec k1.took (hvs.mono k1.le) (by rw [k1.m]; exact hrs) h2
        exact ⟨g2, ⟨k2.took, k1.le.trans k2.le, k2.m.trans k1.m⟩⟩

/-! ### what a function promises -/
def Cons (m : Mm) (w : World) : Prop := ∀ b o v, m b o = some v → w.cell? ⟨b, o, none⟩ = some v

structure After (m : Mm) (w : World) (bs : List Nat) (m' : Mm) (w' : World) (r : T) (v : Value) (args : List T) (vs : List Value) (rbs abs : List Nat) : Prop where
  mle : m.le m'
  cons : Cons m' w'
  res : RT m' w' r v rbs
  args : Each (RT m' w') args vs abs
  nodup : (rbs ++ abs).Nodup
  own : ∀ b ∈ rbs ++ abs, (w.heap.size ≤ b ∨ b ∈ bs) ∧ b < w'.heap.size
  keep : ∀ b, b < w.heap.size → b ∉ bs → w'.heap[b]? = w.heap[b]? ∧ ∀ o, m' b o = m b o
  size : Grown w w'
  os : w'.os = w.os
  tape : w'.tape = w.tape
  output : w'.output = w.output

/-- A call of f: of a function with a body, or of one that the machine has. -/
def Does (P : Program) (f : FuncId) (args : Array Value) (w : World) (R : Ending → World → Prop) : Prop :=
  ((∃ fn, P.funcs[f]? = some fn ∧ fn.body.isSome = true ∧ (fn.name == "runtime.NumGoroutine") = false) ∧ Calls P f args w R) ∨
    ∃ v w', (callFunc f args).run P w = .ok (.value v) w' ∧ R (.returned v) w'

theorem Does.mono {f : FuncId} {args : Array Value} {R R' : Ending → World → Prop} (h : Does P f args w R) (hr : ∀ e w', R e w' → R' e w') : Does P f args w R' :=
  h.imp (fun h => ⟨h.1, h.2.mono hr⟩) fun ⟨v, w', h1, h2⟩ => ⟨v, w', h1, hr _ _ h2⟩

/-- Function f answers as S says. -/
def Meets (mg : Mm) (P : Program) (f : Nat) (S : List T → Option (T × List T)) : Prop :=
  ∀ m w args vs bs, mg.le m → Cons m w → Each (RT m w) args vs bs → bs.Nodup → (∀ b ∈ bs, b < w.heap.size) → ∀ r args', S args = some (r, args') →
    Does P f vs.toArray w fun e w' => ∃ v m' rbs abs, e = .returned v ∧ After m w bs m' w' r v args' vs rbs abs

theorem Le.mem {m' : Mm} (hm : g.m.le m') : Le g bx ⟨m', g.β⟩ bx where
  m := hm
  old := fun id x h => ⟨x, h, Nat.le_refl _⟩
  cells := fun id cs ver h x' h' _ => by rw [h] at h'; cases h'; exact ⟨⟨cs, rfl⟩, rfl⟩
  arr := fun id es ver fz h x' h' _ => by rw [h] at h'; cases h'; exact ⟨⟨es, fz, rfl, rfl⟩, rfl⟩

theorem lendX0_ra {av : List Id} {b : Bx} {a : A} {v : Value} (h : RA g bx a v) : RA g bx (lendX0 av b a) v := by
  cases a with
  | lref id ver off len sz =>
    simp only [lendX0]
    split
    · exact h
    · cases h with | lref _ _ _ _ _ _ h => exact h
  | _ => exact h
theorem lendX0_flat {av : List Id} {b : Bx} (a : A) (h : a.flat = true) : (lendX0 av b a).flat = true := by
  cases a with
  | lref id ver off len sz =>
    simp only [lendX0]
    split <;> rfl
  | _ => exact h
theorem lendX_ra {av : List Id} {a : A} {v : Value} (h : RA g bx a v) : RA g bx (lendX av bx a) v := by
  cases a with
  | mix cs => exact h.mixMap lendX0_ra lendX0_flat
  | _ => exact lendX0_ra (av := av) (b := bx) h
theorem lendX_ral {av : List Id} {as : List A} {vs : List Value} (h : RAl g bx as vs) : RAl g bx (as.map (lendX av bx)) vs := by
  induction h with
  | nil => exact .nil
  | cons h _ ih => exact .cons (lendX_ra h) ih
theorem lids_av (as : List A) (av : List Id) : ∀ i ∈ lids as, okId (lids as ++ av) i = false := fun i hi => by
  simp only [okId, List.all_eq_false]
  refine ⟨i, List.mem_append_left _ hi, ?_⟩
  have : i.isSuffixOf i = true := by rw [List.isSuffixOf_iff_suffix]; exact List.suffix_refl i
  simp [this]

theorem callB_spec {C : Cs} {av : List Id} {al : Option (List Id)} {id : Id} {f : Nat} {args : List A} {vs : List Value} {r : A} {bx' : Bx} (h : Inv m0 w0 OO g bx w) (hmg : mg.le m0) (hv : RAl g bx args vs) (hM : Meets mg P f (C f))
    (hs : callB C av al bx id f args = some (r, bx')) :
    Does P f vs.toArray w fun e w' => ∃ v g', e = .returned v ∧ Inv m0 w0 OO g' bx' w' ∧ Le g bx g' bx' ∧ RA g' bx' r v := by
  simp only [callB] at hs
  split at hs
  · cases hs
  rename_i hap
  have hap := apartIds_spec (by
    simp only [Bool.not_eq_true', Bool.not_eq_false, Bool.and_eq_true] at hap
    exact hap.1)
  simp only [Option.bind_eq_some_iff] at hs
  obtain ⟨⟨ts, bx1⟩, h1, ⟨rt, ts'⟩, h2, b2, h3, h4⟩ := hs
  have g0 : Gave (lids args ++ av) m0 w0 OO [] [] g bx w := ⟨h, List.nodup_nil, (fun b hb => by cases hb), (fun b hb => by cases hb), (fun i hi => by cases hi)⟩
  obtain ⟨E', g1, bs, hE, k, rts⟩ := gives_spec g0 hv h1 hap (fun i _ hi => by cases hi) (lids_av args av)
  have kg := k.gave
  simp only [List.nil_append] at kg
  refine (hM g1.m w ts vs bs (fun b o v hb => kg.inv.mle _ _ _ (hmg _ _ _ hb)) kg.inv.sim.cons rts kg.nodup (fun b hb => (kg.own b hb).2) rt ts' h2).mono ?_
  rintro e w' ⟨v, m', rbs, abs, rfl, a⟩
  have hle : Le g1 bx1 ⟨m', g1.β⟩ bx1 := .mem a.mle
  have hmemE : ∀ i, i ∈ ptrIds args ++ ([] : List Id) ↔ i ∈ E' := fun i => by rw [hE, List.append_nil]; simp
  have hown : ∀ b, b ∈ bs → (w0.heap.size ≤ b ∨ OO b) := fun b hb => (kg.own b hb).1
  have hnu : ∀ {i : Id} {p : Pl}, i ∉ E' → bx1 i ≠ none → g1.β i = some p → p.b ∉ bs := fun hi hb hp hm => kg.apart _ hm ⟨_, _, hi, hb, hp, rfl⟩
  have tk : Took m0 w0 OO (ptrIds args ++ []) (abs ++ (rbs ++ [])) ⟨m', g1.β⟩ bx1 w' := {
    inv := {
      cons := a.cons
      box := fun i x hi hx => by
        rw [hmemE] at hi
        have hb := kg.inv.sim.box i x hx
        have hne : bx1 i ≠ none := by rw [hx]; simp
        have hb' := hb.keep (g' := ⟨m', g1.β⟩) (bx' := bx1) (w' := w') hle rfl
          (fun p hp => by
            obtain ⟨_, hlt, _⟩ := kg.inv.sim.block hne hp
            exact (a.keep p.b hlt (hnu hi hne hp)).1)
          (fun p hp => by
            obtain ⟨_, hlt, _⟩ := kg.inv.sim.block hne hp
            exact (a.keep p.b hlt (hnu hi hne hp)).2)
        cases hb' with
        | cells cs ver p vals ty fr hp hh hn hbare hf hr hm ho => exact .cells cs ver p vals ty fr hp hh hn hbare hf hr hm ⟨ho.1, Nat.lt_of_lt_of_le ho.2 a.size.1⟩
        | arr es ver fz p vals ty fr hp hh hn hbare hfit hsz hf hr hm hz ho => exact .arr es ver fz p vals ty fr hp hh hn hbare hfit hsz hf hr hm hz ⟨ho.1, Nat.lt_of_lt_of_le ho.2 a.size.1⟩
        | nil ver fz hp => exact .nil ver fz hp
      apart := fun i j p q _ _ => kg.inv.sim.apart i j p q
      mle := fun b o v hb => a.mle _ _ _ (kg.inv.mle _ _ _ hb)
      keep := fun b hb hO => by
        have hnb : b ∉ bs := fun hm => by
          rcases hown b hm with h | h
          · omega
          · exact hO h
        obtain ⟨h1, h2⟩ := a.keep b (Nat.lt_of_lt_of_le hb kg.inv.size.1) hnb
        obtain ⟨h3, h4⟩ := kg.inv.keep b hb hO
        exact ⟨h1.trans h3, fun o => (h2 o).trans (h4 o)⟩
      size := kg.inv.size.trans a.size
      os := a.os.trans kg.inv.os
      tape := a.tape.trans kg.inv.tape
      output := a.output.trans kg.inv.output }
    nodup := by rw [List.append_nil]; exact List.perm_append_comm.nodup_iff.1 a.nodup
    apart := fun b hb => by
      rintro ⟨i, p, h1, h2, h3, rfl⟩
      rw [hmemE] at h1
      obtain ⟨_, hlt, _⟩ := kg.inv.sim.block h2 h3
      rcases (a.own p.b (by simp only [List.append_nil, List.mem_append] at hb ⊢; exact hb.symm)).1 with h | h
      · omega
      · exact hnu h1 h2 h3 h
    own := fun b hb => by
      obtain ⟨h1, h2⟩ := a.own b (by simp only [List.append_nil, List.mem_append] at hb ⊢; exact hb.symm)
      refine ⟨?_, h2⟩
      rcases h1 with h | h
      · exact .inl (Nat.le_trans kg.inv.size.1 h)
      · exact hown b h
    lent := fun i _ es ver fz p hb hp => by
      cases kg.inv.sim.box i _ hb with
      | nil _ _ hq => rw [hp] at hq; cases hq
      | arr _ _ _ q vals ty fr hq hh hn hbare hfit =>
        rw [hp] at hq; cases hq
        exact ⟨a.size.2 _ _ (by rw [osz_of hh, hn]), by omega⟩ }
  obtain ⟨g2, k2⟩ := backs_spec tk ((hv.mono k.le).mono hle) a.args h3
  obtain ⟨g3, k3, r3⟩ := take_spec k2.took (by rw [k2.m]; exact a.res) h4
  exact ⟨v, g3, rfl, k3.took.inv.inv, ((k.le.trans hle).trans k2.le).trans k3.le, r3⟩

theorem callA_spec {C : Cs} {av : List Id} {al : Option (List Id)} {id : Id} {f : Nat} {args : List A} {vs : List Value} {r : A} {bx' : Bx} (h : Inv m0 w0 OO g bx w) (hmg : mg.le m0) (hv : RAl g bx args vs) (hM : Meets mg P f (C f))
    (hs : callA C av al bx id f args = some (r, bx')) :
    Does P f vs.toArray w fun e w' => ∃ v g', e = .returned v ∧ Inv m0 w0 OO g' bx' w' ∧ Le g bx g' bx' ∧ RA g' bx' r v :=
  callB_spec h hmg (lendX_ral hv) hM hs

/-! ### from the inside -/
theorem enter_spec {m : Mm} {args : List T} {vs : List Value} {bs : List Nat} (hc : Cons m w) (hr : Each (RT m w) args vs bs) (hn : bs.Nodup) (ho : ∀ b ∈ bs, b < w.heap.size) {as : List A} {bx0 : Bx}
    (hs : takesP (fun _ => none) 0 args = some (as, bx0)) : ∃ g, Inv m w (· ∈ bs) g bx0 w ∧ RAl g bx0 as vs := by
  have tk : Took m w (· ∈ bs) [] (bs ++ []) ⟨m, fun _ => none⟩ (fun _ => none) w := {
    inv := {
      cons := hc
      box := fun _ _ _ h => by cases h
      apart := fun _ _ _ _ _ _ h => absurd rfl h
      mle := fun _ _ _ h => h
      keep := fun _ _ _ => ⟨rfl, fun _ => rfl⟩
      size := Grown.refl _
      os := rfl
      tape := rfl
      output := rfl }
    nodup := by rw [List.append_nil]; exact hn
    apart := fun b _ => by rintro ⟨i, p, _, h, _⟩; exact h rfl
    own := fun b hb => by rw [List.append_nil] at hb; exact ⟨.inr hb, ho b hb⟩
    lent := fun i hi => by cases hi }
  obtain ⟨g, k, r⟩ := takesP_spec tk hr hs
  exact ⟨g, k.took.inv.inv, r⟩

theorem lendP_ra {b : Bx} {a : A} {v : Value} (h : RA g bx a v) : RA g bx (lendP b a) v := by
  cases a with
  | ref id ver off len sz =>
    simp only [lendP]
    split
    · exact .lref _ _ _ _ _ _ h
    · exact .top _
  | mix cs => exact h.mixMap RA.lend0 lendA0_flat
  | _ => exact h
theorem lendP_ral {b : Bx} {as : List A} {vs : List Value} (h : RAl g bx as vs) : RAl g bx (as.map (lendP b)) vs := by
  induction h with
  | nil => exact .nil
  | cons h _ ih => exact .cons (lendP_ra h) ih

theorem leave_spec {m : Mm} {w' : World} {bs : List Nat} (h : Inv m w (· ∈ bs) g bx w') {rs : List A} {us : List Value} (hu : RAl g bx rs us) {as : List A} {vs : List Value} (hv : RAl g bx as vs)
    {np : Nat} {ts : List T} {b1 : Bx} (ho : outs1 np bx rs = some (ts, b1)) (hap : apartIds (ptrIds as) = true) {ps : List T} {b2 : Bx} (hp : gives (lids as) none b1 as = some (ps, b2)) :
    ∃ m' rbs abs, After m w bs m' w' (one ts) (if h : us.toArray.size = 1 then us.toArray[0] else .tuple us.toArray) ps vs rbs abs := by
  have g0 : Gave [] m w (· ∈ bs) [] [] g bx w' := ⟨h, List.nodup_nil, (fun b hb => by cases hb), (fun b hb => by cases hb), (fun i hi => by cases hi)⟩
  obtain ⟨g1, rbs, k1, r1⟩ := outs1_spec g0 hu ho
  have kg := k1.gave
  simp only [List.nil_append] at kg
  have kg' : Gave (lids as) m w (· ∈ bs) [] rbs g1 b1 w' := ⟨kg.inv, kg.nodup, kg.apart, kg.own, fun i hi => by cases hi⟩
  have hL := lids_av as []
  rw [List.append_nil] at hL
  obtain ⟨E', g2, abs, hE, k2, r2⟩ := gives_spec kg' (hv.mono k1.le) hp (apartIds_spec hap) (fun i _ hi => by cases hi) hL
  have hfix := kg'.mfix k2.fz
  refine ⟨g2.m, rbs, abs, ?_⟩
  exact {
    mle := k2.gave.inv.mle
    cons := k2.gave.inv.sim.cons
    res := by
      have r1' : Each (R1 g2.m w') ts us rbs := r1.map fun t v b hb h => h.turn k2.le.m fun x hx => ⟨fun o => hfix x (hb x hx) o, rfl⟩
      have hl := r1'.length
      match ts, us, r1', hl with
      | [t], [u], .cons (b := b) h .nil, _ => simpa [one] using RT.one h
      | [], [], h, _ => simpa [one] using RT.tup [] #[] rbs (by simpa using h)
      | t :: t' :: ts, u :: u' :: us, h, _ =>
        have e : ¬ (u :: u' :: us).toArray.size = 1 := by simp
        rw [dif_neg e]
        exact RT.tup _ _ rbs (by simpa using h)
    args := r2
    nodup := k2.gave.nodup
    own := fun b hb => by
      obtain ⟨h1, h2⟩ := k2.gave.own b hb
      exact ⟨h1, h2⟩
    keep := k2.gave.inv.keep
    size := k2.gave.inv.size
    os := k2.gave.inv.os
    tape := k2.gave.inv.tape
    output := k2.gave.inv.output }

end Go.Es

namespace Go.Es

variable {df : List Deferred} {mg m0 : Mm} {w0 : World} {OO : Nat → Prop} {g : Gh} {bx : Bx} {w : World} {P : Program} {N : Nat} {pa : List A} {pv : List Value}

/-- The interpreter's state is behind the machine's. -/
def StOk (df : List Deferred) (mg m0 : Mm) (w0 : World) (O : Nat → Prop) (N : Nat) (pa : List A) (pv : List Value) (s : St) (a : Act) (w : World) : Prop :=
  ∃ g, Inv m0 w0 O g s.bx w ∧ TmOk mg g s.bx s.tm a ∧ a.tmps.size = N ∧ a.defers = df ∧ RAl g s.bx pa pv

inductive FitsG (ops : Array Oper) : Option (Nat × Bool) → Option (Nat × Bool) → Prop where
  | none : FitsG ops none none
  | some (j t : Nat) (b : Bool) (h : (ops[j]?).bind (·.dst) = some t) : FitsG ops (some (j, b)) (some (t, b))

inductive FitsC (mg : Mm) (P : Program) : Op → TypeId → K → List O → Prop where
  | op (o : Op) (ty : TypeId) (k : K) (xs : List O) (h : FitsK mg P o ty k xs) : FitsC mg P o ty k xs
  | callf (ty f) (args : Array Operand) (ats os) (h : FOs mg args.toList os) : FitsC mg P (.call { callee := .value (.func f), args, argTypes := ats }) ty (.callf f) os
  | callv (ty x o) (args : Array Operand) (ats os) (hx : FO mg x o) (h : FOs mg args.toList os) : FitsC mg P (.call { callee := .value x, args, argTypes := ats }) ty .callv (o :: os)

structure FitsO (mg : Mm) (P : Program) (N : Nat) (ops : Array Oper) (o : Oper) (ao : Ao) : Prop where
  dst : o.dst = ao.dst
  lt : ∀ d, o.dst = some d → d < N
  g : FitsG ops o.guard ao.g
  op : FitsC mg P o.op o.type ao.k ao.xs

theorem wanted_spec {ops : Array Oper} {o : Oper} {ao : Ao} (hg : FitsG ops o.guard ao.g) {s : St} {a : Act} (ht : TmOk mg g s.bx s.tm a) {bb : Bx} (hb : bb = s.bx) {c : Bool} (hw : wanted s ao.g = some c)
    (hr : ∀ t, RA g s.bx (s.tm t) (a.tmps.getD t undef)) : Region.wanted o (yielded ops a.tmps) = c := by
  unfold Region.wanted
  generalize o.guard = og at hg
  generalize ao.g = ag at hg hw
  cases hg with
  | none => simp only [wanted] at hw; cases hw; rfl
  | some j t b h =>
    simp only [wanted] at hw
    have hr := hr t
    simp only [yielded, h, Option.bind_some]
    split at hw
    · rename_i c' hc
      cases hw
      rw [hc] at hr
      have hv : a.tmps.getD t undef = .bool c' := by
        generalize a.tmps.getD t undef = v at hr
        cases hr with | d h => cases h; rfl
      have hs : a.tmps[t]? = some (.bool c') := by
        rw [Array.getD_eq_getD_getElem?] at hv
        cases he : a.tmps[t]? with
        | none => rw [he] at hv; simp [undef] at hv
        | some x => rw [he] at hv; simpa using hv
      rw [hs]
      cases c' <;> cases b <;> rfl
    · rename_i hc
      cases hw
      rw [hc] at hr
      have hv : a.tmps.getD t undef = .tuple #[] := by
        generalize a.tmps.getD t undef = v at hr
        cases hr with | tup _ vs hl => 
          have : vs = #[] := by simpa using hl
          rw [this]
      have hs : ∀ c, a.tmps[t]? ≠ some (.bool c) := by
        intro c he
        rw [Array.getD_eq_getD_getElem?, he] at hv
        simp at hv
      split
      · rename_i c he; exact absurd he (hs c)
      · rfl
    · cases hw

theorem StOk.put {s : St} {a : Act} {w' : World} {g' : Gh} {bx' : Bx} {dst : Option Nat} {r : A} {v : Value} (ht : TmOk mg g s.bx s.tm a) (hr : ∀ t, RA g s.bx (s.tm t) (a.tmps.getD t undef))
    (hN : a.tmps.size = N) (hd : a.defers = df) (hpa : RAl g s.bx pa pv) (hlt : ∀ d, dst = some d → d < N) (hi : Inv m0 w0 OO g' bx' w') (hle : Le g s.bx g' bx') (hv : RA g' bx' r v) :
    StOk df mg m0 w0 OO N pa pv (put' s dst r bx') (a.put dst v) w' := by
  have hmg : mg.le g'.m := fun b o v h => hle.m _ _ _ (ht.1 _ _ _ h)
  cases dst with
  | none => exact ⟨g', hi, ⟨hmg, fun t => (hr t).mono hle⟩, hN, hd, hpa.mono hle⟩
  | some d =>
    have hdlt := hlt d rfl
    refine ⟨g', hi, ⟨hmg, fun t => ?_⟩, by simp [Act.put, hN], hd, hpa.mono hle⟩
    simp only [put', Act.put]
    by_cases e : t = d
    · subst e
      rw [upd_self]
      have : (a.tmps.setIfInBounds t v).getD t undef = v := by simp [Array.getD_eq_getD_getElem?, hN, hdlt]
      rw [this]; exact hv
    · rw [upd_ne _ _ _ _ e]
      have : (a.tmps.setIfInBounds d v).getD t undef = a.tmps.getD t undef := by
        simp [Array.getD_eq_getD_getElem?, Array.getElem?_setIfInBounds_ne (Ne.symm e)]
      rw [this]; exact (hr t).mono hle

theorem run_callFunc_enter {f : Nat} {fn : Func} (hf : P.funcs[f]? = some fn) (hb : fn.body.isSome = true) (hn : (fn.name == "runtime.NumGoroutine") = false) (args : Array Value) (w : World) :
    (callFunc f args).run P w = .ok (.enter f args) w := by
  have h1 : ¬ fn.name = "runtime.NumGoroutine" := by simpa using hn
  have h2 : ¬ fn.body = none := by cases h : fn.body <;> simp [h] at hb ⊢
  simp [callFunc, hf, h1, h2]

theorem RAl.append {xs ys : List A} {vs us : List Value} (h : RAl g bx xs vs) (k : RAl g bx ys us) : RAl g bx (xs ++ ys) (vs ++ us) := by
  induction h with
  | nil => exact k
  | cons h _ ih => exact .cons h ih

theorem FOs.map_eval {ac : Act} (args : Array Operand) : (args.map ac.eval).toList = args.toList.map ac.eval := by simp

/-- A call, of which callA answers. -/
theorem call_wp {C : Cs} (hC : ∀ f, Meets mg P f (C f)) {s : St} {a : Act} {w : World} {o : Oper} {f : Nat} {vs : Array Value} {args : List A} (hi : Inv m0 w0 OO g s.bx w) (ht : TmOk mg g s.bx s.tm a)
    (hr : ∀ t, RA g s.bx (s.tm t) (a.tmps.getD t undef)) (hmg : mg.le m0) (hN : a.tmps.size = N) (hd : a.defers = df) (hpa : RAl g s.bx pa pv) (hlt : ∀ d, o.dst = some d → d < N)
    (he : execOp a.eval o = callFunc f vs) (hv : RAl g s.bx args vs.toList) {av : List Id} {al : Option (List Id)} {id : Id} {r : A} {bx' : Bx} (hs : callA C av al s.bx id f args = some (r, bx'))
    {K : Act → World → Prop} (hK : ∀ a w, StOk df mg m0 w0 OO N pa pv (put' s o.dst r bx') a w → K a w) {Q : Exit → Act → World → Prop} : o.wp P a w K Q := by
  have h := callA_spec hi hmg hv (hC f) hs
  simp only [Array.toArray_toList] at h
  have fin : ∀ w' v, (∃ u g', Ending.returned v = .returned u ∧ Inv m0 w0 OO g' bx' w' ∧ Le g s.bx g' bx' ∧ RA g' bx' r u) → K (a.put o.dst v) w' := by
    rintro w' v ⟨u, g', h1, h2, h3, h4⟩
    cases h1
    exact hK _ _ (StOk.put ht hr hN hd hpa hlt h2 h3 h4)
  unfold Oper.wp
  rw [he]
  rcases h with ⟨⟨fn, hf, hb, hn⟩, hc⟩ | ⟨v, w', hrun, h2⟩
  · rw [run_callFunc_enter hf hb hn]
    simp only [Oper.upon]
    refine hc.mono fun e w' h => ?_
    cases e with
    | returned v => exact fin w' v h
    | panicked c => obtain ⟨_, _, h, _⟩ := h; cases h
    | outgrown => obtain ⟨_, _, h, _⟩ := h; cases h
  · rw [hrun]
    exact fin w' v h2

theorem step_wp {C : Cs} (hC : ∀ f, Meets mg P f (C f)) {ops : Array Oper} {i : Nat} {o : Oper} {ao : Ao} (hi : ops[i]? = some o) (hf : FitsO mg P N ops o ao) (hmg : mg.le m0) {s s' : St} (hs : step C ao s = some s')
    {a : Act} {w : World} (h : StOk df mg m0 w0 OO N pa pv s a w) {K : Act → World → Prop} (hK : ∀ a w, StOk df mg m0 w0 OO N pa pv s' a w → K a w) {Q : Exit → Act → World → Prop} : wpOp P ops Q i K a w := by
  obtain ⟨g, hinv, ht, hN, hd, hpa⟩ := h
  have hr : ∀ t, RA g s.bx (s.tm t) (a.tmps.getD t undef) := ht.2
  simp only [step, Option.bind_eq_some_iff] at hs
  obtain ⟨c, hw, hs⟩ := hs
  have hwant := wanted_spec (o := o) hf.g ht rfl hw hr
  unfold wpOp
  simp only [hi, hwant]
  cases c with
  | false =>
    simp only [Bool.false_eq_true, if_false, Option.some.injEq] at hs ⊢
    subst hs
    rw [← hf.dst] at hK
    exact hK _ _ (StOk.put ht hr hN hd hpa hf.lt hinv (Le.refl _ _) (.tup [] #[] rfl (fun j hj => by simp at hj)))
  | true =>
    simp only [if_true, Option.bind_eq_some_iff] at hs ⊢
    obtain ⟨⟨r, bx'⟩, hsem, he⟩ := hs
    cases he
    refine .inl ?_
    rw [← hf.dst] at hK
    have hop := hf.op
    obtain ⟨d, k, xs, gg, av, al⟩ := ao
    obtain ⟨dst, op, ty, pos, after, gd⟩ := o
    simp only at hop hK hsem ⊢
    cases hop with
    | op _ _ _ _ hk =>
      obtain ⟨v, w', g', h1, h2, h3, h4⟩ := op_good (C := C) (dst := dst) (pos := pos) (after := after) (gd := gd) hk hinv ht hsem
      unfold Oper.wp
      rcases h1 with h1 | ⟨h1, rfl⟩
      · rw [h1]; exact hK _ _ (StOk.put ht hr hN hd hpa hf.lt h2 h3 h4)
      · rw [h1]; exact hK _ _ (StOk.put ht hr hN hd hpa hf.lt h2 h3 h4)
    | callf _ f args ats _ hx =>
      have e : sem C ⟨d, .callf f, xs, gg, av, al⟩ (xs.map (O.ev s.tm)) s.bx = callA C av al s.bx [d.getD 0] f (xs.map (O.ev s.tm)) := by
        generalize xs.map (O.ev s.tm) = l; cases l <;> rfl
      rw [e] at hsem
      refine call_wp (C := C) (o := ⟨dst, .call { callee := .value (.func f), args, argTypes := ats }, ty, pos, after, gd⟩) (vs := args.map a.eval) hC hinv ht hr hmg hN hd hpa hf.lt ?_ (by simpa using hx.ral ht) (al := al) hsem hK
      simp only [execOp, resolve, Act.eval, Deferred.ofValue, pure_bind, invoke]
      simp
    | callv _ x o args ats os hx hxs =>
      have hrx := hx.ra ht
      simp only [List.map_cons] at hsem
      generalize hx1 : O.ev s.tm o = ax at hsem hrx
      cases ax with
      | fn f caps =>
        simp only [sem] at hsem
        generalize hv1 : a.eval x = vx at hrx
        cases hrx with
        | fn _ _ cvs hl hcr =>
          refine call_wp (C := C) (o := ⟨dst, .call { callee := .value x, args, argTypes := ats }, ty, pos, after, gd⟩) (vs := args.map a.eval ++ cvs) hC hinv ht hr hmg hN hd hpa hf.lt ?_
            (by simpa using (hxs.ral ht).append (.of hl hcr)) (al := al) hsem hK
          simp only [execOp, resolve, hv1, Deferred.ofValue, pure_bind, invoke]
          simp
      | _ => cases hsem

end Go.Es

namespace Go.Es

/-! ### operations that stand in no order -/
def fzBox : Box → Box
  | .arr es v _ => .arr es v true
  | b => b

def fzIf (c : Bool) (b : Option Box) : Option Box := if c then b.map fzBox else b

theorem fzBox_idem (b : Box) : fzBox (fzBox b) = fzBox b := by cases b <;> rfl
theorem fzIf_or (c d : Bool) (b : Option Box) : fzIf d (fzIf c b) = fzIf (c || d) b := by
  cases c <;> cases d <;> cases b <;> simp [fzIf, fzBox_idem]
theorem fzIf_comm (c d : Bool) (b : Option Box) : fzIf d (fzIf c b) = fzIf c (fzIf d b) := by
  rw [fzIf_or, fzIf_or, Bool.or_comm]
theorem fzIf_map (c : Bool) (b : Option Box) : (fzIf c b).map fzBox = b.map fzBox := by
  cases c <;> cases b <;> simp [fzIf, fzBox_idem]

section
variable (X Y : Id → Prop) {α β : Type}

/-- Alike where it may be written; alike but for frost where it may be looked at. -/
def Agree (b1 b2 : Bx) : Prop := ∀ i, (X i → b1 i = b2 i) ∧ (Y i → (b1 i).map fzBox = (b2 i).map fzBox)

/-- It looks at Y, writes X, and freezes. -/
def Loc (op : Bx → Option (α × Bx)) : Prop :=
  ∀ b1 b2 r b1', Agree X Y b1 b2 → op b1 = some (r, b1') → ∃ (b2' : Bx) (f : Id → Bool), op b2 = some (r, b2') ∧ (∀ i, X i → b1' i = b2' i) ∧
    (∀ i, ¬ X i → b1' i = fzIf (f i) (b1 i) ∧ b2' i = fzIf (f i) (b2 i)) ∧ ∀ i, f i = true → Y i

variable {X Y}

theorem Agree.next {b1 b2 b1' b2' : Bx} {f : Id → Bool} (h : Agree X Y b1 b2) (hx : ∀ i, X i → b1' i = b2' i) (hf : ∀ i, ¬ X i → b1' i = fzIf (f i) (b1 i) ∧ b2' i = fzIf (f i) (b2 i)) : Agree X Y b1' b2' := by
  intro i
  refine ⟨hx i, fun hy => ?_⟩
  by_cases e : X i
  · rw [hx i e]
  · rw [(hf i e).1, (hf i e).2, fzIf_map, fzIf_map]
    exact (h i).2 hy

theorem Loc.pure (r : α) : Loc X Y (fun b => some (r, b)) := by
  intro b1 b2 r' b1' h hs
  cases hs
  exact ⟨b2, fun _ => false, rfl, fun i hi => (h i).1 hi, fun i _ => ⟨rfl, rfl⟩, fun i hi => by cases hi⟩

theorem Loc.none : Loc X Y (fun _ => (none : Option (α × Bx))) := by
  intro b1 b2 r' b1' h hs
  cases hs

theorem Loc.bind {op : Bx → Option (α × Bx)} {k : α → Bx → Option (β × Bx)} (h : Loc X Y op) (hk : ∀ r, Loc X Y (k r)) : Loc X Y (fun b => (op b).bind fun p => k p.1 p.2) := by
  intro b1 b2 r b1' ha hs
  simp only [Option.bind_eq_some_iff] at hs
  obtain ⟨⟨q, c1⟩, h1, h2⟩ := hs
  obtain ⟨c2, f, e1, hx, hf, hfy⟩ := h b1 b2 q c1 ha h1
  obtain ⟨b2', f', e2, hx', hf', hfy'⟩ := hk q c1 c2 r b1' (ha.next hx hf) h2
  refine ⟨b2', fun i => f i || f' i, by simp only [e1, Option.bind_some, e2], hx', fun i hi => ?_, fun i hi => ?_⟩
  · rw [(hf' i hi).1, (hf' i hi).2, (hf i hi).1, (hf i hi).2, fzIf_or, fzIf_or]
    exact ⟨rfl, rfl⟩
  · simp only [Bool.or_eq_true] at hi
    exact hi.elim (hfy i) (hfy' i)

theorem Loc.opt {o : Option β} {k : β → Bx → Option (α × Bx)} (hk : ∀ x, Loc X Y (k x)) : Loc X Y (fun b => o.bind fun x => k x b) := by
  cases o with
  | none => exact Loc.none
  | some x => exact hk x

theorem Loc.ite {c : Prop} [Decidable c] {p q : Bx → Option (α × Bx)} (hp : Loc X Y p) (hq : Loc X Y q) : Loc X Y (fun b => if c then p b else q b) := by
  by_cases h : c
  · simp only [if_pos h]; exact hp
  · simp only [if_neg h]; exact hq

theorem Loc.dite {c : Prop} [Decidable c] {p q : Bx → Option (α × Bx)} (hp : c → Loc X Y p) (hq : ¬ c → Loc X Y q) : Loc X Y (fun b => if c then p b else q b) := by
  by_cases h : c
  · simp only [if_pos h]; exact hp h
  · simp only [if_neg h]; exact hq h

theorem Loc.congr {p q : Bx → Option (α × Bx)} (h : Loc X Y p) (e : ∀ b, q b = p b) : Loc X Y q := by
  rw [show q = p from funext e]; exact h

/-- It looks at a box. -/
theorem Loc.look (id : Id) (hY : Y id) (F : Option Box → Option (Bx → Option (α × Bx))) (hF : ∀ b, F (b.map fzBox) = F b) (hk : ∀ b k, F b = some k → Loc X Y k) :
    Loc X Y (fun b => (F (b id)).bind fun k => k b) := by
  intro b1 b2 r b1' ha hs
  simp only [Option.bind_eq_some_iff] at hs
  obtain ⟨k, h1, h2⟩ := hs
  have e : F (b2 id) = some k := by rw [← hF, ← (ha id).2 hY, hF, h1]
  obtain ⟨b2', f, e2, hx, hf, hfy⟩ := hk _ _ h1 b1 b2 r b1' ha h2
  exact ⟨b2', f, by simp only [e, Option.bind_some, e2], hx, hf, hfy⟩

/-- It writes a box. -/
theorem Loc.at (id : Id) (hX : X id) (F : Option Box → Option (α × Option Box)) : Loc X Y (fun b => (F (b id)).bind fun p => some (p.1, upd b id p.2)) := by
  intro b1 b2 r b1' ha hs
  simp only [Option.bind_eq_some_iff] at hs
  obtain ⟨p, h1, h2⟩ := hs
  cases h2
  have e : F (b2 id) = some p := by rw [← (ha id).1 hX, h1]
  refine ⟨upd b2 id p.2, fun _ => false, by simp only [e, Option.bind_some], fun i hi => ?_, fun i hi => ?_, fun i hi => by cases hi⟩
  · by_cases ei : i = id
    · subst ei; rw [upd_self, upd_self]
    · rw [upd_ne _ _ _ _ ei, upd_ne _ _ _ _ ei]; exact (ha i).1 hi
  · have ei : i ≠ id := fun e => hi (e ▸ hX)
    rw [upd_ne _ _ _ _ ei, upd_ne _ _ _ _ ei]
    exact ⟨rfl, rfl⟩

theorem frz_at (b : Bx) (id i : Id) : frz b id i = fzIf (i == id) (b i) := by
  simp only [frz]
  by_cases e : i = id
  · subst e
    cases h : b i with
    | none => simp [fzIf, h]
    | some x => cases x <;> simp [fzIf, fzBox, h, upd]
  · cases h : b id with
    | none => simp [fzIf, e]
    | some x => cases x <;> simp [fzIf, e, upd]

theorem Loc.frz (id : Id) (hY : Y id) (r : α) : Loc X Y (fun b => some (r, frz b id)) := by
  intro b1 b2 r' b1' ha hs
  cases hs
  refine ⟨_, fun i => i == id, rfl, fun i hi => ?_, fun i _ => ⟨frz_at _ _ _, frz_at _ _ _⟩, fun i hi => ?_⟩
  · rw [frz_at, frz_at, (ha i).1 hi]
  · simp only [beq_iff_eq] at hi; subst hi; exact hY

/-- Two that keep out of each other's way may change places. -/
theorem Loc.swap {Xx Yx Xy Yy : Id → Prop} {p : Bx → Option (α × Bx)} {q : Bx → Option (β × Bx)} (hp : Loc Xx Yx p) (hq : Loc Xy Yy q) (hxy : ∀ i, Xx i → ¬ Xy i ∧ ¬ Yy i) (hyx : ∀ i, Xy i → ¬ Xx i ∧ ¬ Yx i)
    {b b1 b2 : Bx} {r1 : α} {r2 : β} (h1 : p b = some (r1, b1)) (h2 : q b1 = some (r2, b2)) : ∃ b1', q b = some (r2, b1') ∧ p b1' = some (r1, b2) := by
  obtain ⟨b1c, fx, e1, _, hf, hfy⟩ := hp b b r1 b1 (fun i => ⟨fun _ => rfl, fun _ => rfl⟩) h1
  have ag : Agree Xy Yy b1 b := fun i => ⟨fun hi => by
    have := hyx i hi
    rw [(hf i this.1).1]
    cases hfx : fx i with
    | false => rfl
    | true => exact absurd (hfy i hfx) this.2, fun hi => by
    have : ¬ Xx i := fun h => (hxy i h).2 hi
    rw [(hf i this).1, fzIf_map]⟩
  obtain ⟨b1', fy, e2, hX2, hf2, hfy2⟩ := hq b1 b r2 b2 ag h2
  have nfy : ∀ i, Xx i → fy i = false := fun i hi => by
    cases h : fy i with
    | false => rfl
    | true => exact absurd (hfy2 i h) (hxy i hi).2
  have ag2 : Agree Xx Yx b b1' := fun i => ⟨fun hi => by
    rw [(hf2 i (hxy i hi).1).2, nfy i hi]; rfl, fun hi => by
    have : ¬ Xy i := fun h => (hyx i h).2 hi
    rw [(hf2 i this).2, fzIf_map]⟩
  obtain ⟨b2', fx', e3, hX3, hf3, hfy3⟩ := hp b b1' r1 b1 ag2 h1
  have nfx : ∀ i, Xy i → fx' i = false := fun i hi => by
    cases h : fx' i with
    | false => rfl
    | true => exact absurd (hfy3 i h) (hyx i hi).2
  refine ⟨b1', e2, ?_⟩
  rw [e3]
  congr 2
  funext i
  by_cases hx : Xx i
  · rw [← hX3 i hx, (hf2 i (hxy i hx).1).1, nfy i hx]; rfl
  · by_cases hy : Xy i
    · rw [(hf3 i hx).2, nfx i hy, hX2 i hy]; rfl
    · rw [(hf3 i hx).2, (hf2 i hy).1, (hf2 i hy).2, (hf3 i hx).1, fzIf_comm]

end

section
variable {X Y : Id → Prop} {α β : Type}

theorem Loc.read {rd : Bx → Option β} {k : β → Bx → Option (α × Bx)} (h : Loc X Y (fun b => (rd b).bind fun l => some (l, b))) (hk : ∀ l, Loc X Y (k l)) : Loc X Y (fun b => (rd b).bind fun l => k l b) :=
  (h.bind hk).congr fun b => by cases rd b <;> rfl

variable {av : List Id} {al : Option (List Id)} (hY : ∀ i, okId av i = true → Y i)

include hY in
theorem snapRef_loc (id : Id) (ver off len : Nat) : Loc X Y (fun b => snapRef av b id ver off len) := by
  by_cases hok : okId av id = true
  · refine (Loc.look (Y := Y) (X := X) id (hY id hok) (fun ob => match ob with
      | some (.arr es ver' _) => if ver = ver' then (sub es off len).bind fun l => some (fun b => some (D.sl l, frz b id)) else none
      | _ => none) (fun b => by cases b with
        | none => rfl
        | some x => cases x <;> rfl) (fun b k hk => ?_)).congr fun b => ?_
    · cases b with
      | none => cases hk
      | some x => cases x with
        | cells => cases hk
        | arr es v fz =>
          simp only at hk
          split at hk
          · simp only [Option.bind_eq_some_iff] at hk
            obtain ⟨l, _, he⟩ := hk
            cases he
            exact Loc.frz id (hY id hok) _
          · cases hk
    · simp only [snapRef, hok, if_true]
      cases b id with
      | none => rfl
      | some x => cases x with
        | cells => rfl
        | arr es v fz =>
          simp only
          split
          · cases sub es off len <;> rfl
          · rfl
  · refine Loc.none.congr fun b => ?_
    simp [snapRef, hok]

include hY in
theorem snap1_loc (a : A) : Loc X Y (fun b => snap1 av b a) := by
  cases a with
  | d x => exact Loc.pure _
  | nils => exact Loc.pure _
  | empt => exact Loc.pure _
  | ref id ver off len sz => exact snapRef_loc hY id ver off len
  | _ => exact Loc.none

include hY in
theorem snaps_loc : ∀ as : List A, Loc X Y (fun b => snaps av b as)
  | [] => Loc.pure _
  | a :: r => (snap1_loc hY a).bind fun x => (snaps_loc r).bind fun l => Loc.pure (x :: l)

include hY in
theorem snap_loc (a : A) : Loc X Y (fun b => snap av b a) := by
  have o := snap1_loc (X := X) hY a
  cases a with
  | mix cs => exact (snaps_loc hY cs).bind fun l => Loc.pure (D.agg l)
  | _ => exact o.congr fun b => rfl

include hY in
theorem snapsM_loc : ∀ as : List A, Loc X Y (fun b => snapsM av b as)
  | [] => Loc.pure _
  | a :: r => (snap_loc hY a).bind fun x => (snapsM_loc r).bind fun l => Loc.pure (x :: l)

include hY in
theorem readSl_loc (a : A) : Loc X Y (fun b => (readSl av b a).bind fun l => some (l, b)) := by
  cases a with
  | d x => cases x with
    | sl es => exact Loc.pure _
    | _ => exact Loc.none
  | nils => exact Loc.pure _
  | ref id ver off len sz =>
    by_cases hok : okId av id = true
    · refine (Loc.look (Y := Y) (X := X) id (hY id hok) (fun ob => match ob with
        | some (.arr es ver' _) => if ver = ver' then (sub es off len).bind fun l => some (fun b => some (l, b)) else none
        | _ => none) (fun b => by cases b with
          | none => rfl
          | some x => cases x <;> rfl) (fun b k hk => ?_)).congr fun b => ?_
      · cases b with
        | none => cases hk
        | some x => cases x with
          | cells => cases hk
          | arr es v fz =>
            simp only at hk
            split at hk
            · simp only [Option.bind_eq_some_iff] at hk
              obtain ⟨l, _, he⟩ := hk
              cases he
              exact Loc.pure _
            · cases hk
      · simp only [readSl, hok, if_true]
        cases b id with
        | none => rfl
        | some x => cases x with
          | cells => rfl
          | arr es v fz =>
            simp only
            split
            · cases sub es off len <;> rfl
            · rfl
    · refine Loc.none.congr fun b => ?_
      simp [readSl, hok]
  | _ => exact Loc.none

include hY in
theorem loadA_loc (agg : Option Nat) (a : A) : Loc X Y (fun b => (loadA av b agg a).bind fun l => some (l, b)) := by
  cases a with
  | ptr id ver off =>
    by_cases hok : okId av id = true
    · refine (Loc.look (Y := Y) (X := X) id (hY id hok) (fun ob => (match ob with
        | some (.cells cs ver') => if ver = ver' then (match agg with
          | some n => (sub cs off n).bind fun l => some (mkAgg l)
          | none => cs[off]?) else none
        | _ => none).bind fun x => some (fun b => some (x, b))) (fun b => by cases b with
          | none => rfl
          | some x => cases x <;> rfl) (fun b k hk => ?_)).congr fun b => ?_
      · simp only [Option.bind_eq_some_iff] at hk
        obtain ⟨l, _, he⟩ := hk
        cases he
        exact Loc.pure _
      · simp only [loadA, hok, if_true]
        cases b id with
        | none => rfl
        | some x => cases x with
          | arr => rfl
          | cells cs v =>
            simp only
            split
            · cases agg with
              | none => simp only; cases cs[off]? <;> rfl
              | some n => simp only; cases sub cs off n <;> rfl
            · rfl
    · refine Loc.none.congr fun b => ?_
      simp [loadA, hok]
  | elt x off => exact (Loc.opt (o := (partD x agg off).bind fun y => some (A.d y)) fun y => Loc.pure y).congr fun b => rfl
  | eref id ver idx off =>
    by_cases hok : okId av id = true
    · refine (Loc.look (Y := Y) (X := X) id (hY id hok) (fun ob => (match ob with
        | some (.arr es ver' _) => if ver = ver' then (es[idx]?).bind fun x => (partD x agg off).bind fun y => some (A.d y) else none
        | _ => none).bind fun x => some (fun b => some (x, b))) (fun b => by cases b with
          | none => rfl
          | some x => cases x <;> rfl) (fun b k hk => ?_)).congr fun b => ?_
      · simp only [Option.bind_eq_some_iff] at hk
        obtain ⟨l, _, he⟩ := hk
        cases he
        exact Loc.pure _
      · simp only [loadA, hok, if_true]
        cases b id with
        | none => rfl
        | some x => cases x with
          | cells => rfl
          | arr es v fz =>
            simp only
            split
            · cases es[idx]? with
              | none => rfl
              | some x => simp only [Option.bind_some]; cases partD x agg off <;> rfl
            · rfl
    · refine Loc.none.congr fun b => ?_
      simp [loadA, hok]
  | _ => exact Loc.none

variable (hX : ∀ i, alOk al i = true → X i) (hXc : ∀ j i, X i → X (j :: i))

include hY hX in
theorem storeA_loc (n : Nat) (a v : A) : Loc X Y (fun b => (storeA av al b n a v).bind fun b' => some (A.tup [], b')) := by
  cases a with
  | ptr id ver off =>
    by_cases hok : (okId av id && alOk al id) = true
    · rw [Bool.and_eq_true] at hok
      refine (Loc.at (Y := Y) (X := X) id (hX id hok.2) (fun ob => match ob with
        | some (.cells cs ver') => if ver = ver' ∧ v.cells.length = n then (put cs off v.cells).bind fun l => some (A.tup [], some (.cells l ver)) else none
        | _ => none)).congr fun b => ?_
      simp only [storeA, hok, Bool.and_self, if_true]
      cases b id with
      | none => rfl
      | some x => cases x with
        | arr => rfl
        | cells cs v' =>
          simp only
          split
          · cases put cs off v.cells <;> rfl
          · rfl
    · refine Loc.none.congr fun b => ?_
      simp only [storeA, hok, if_false, Bool.false_eq_true]; rfl
  | eref id ver idx off =>
    by_cases hok : (okId av id && alOk al id) = true
    · rw [Bool.and_eq_true] at hok
      refine ((snaps_loc hY v.cells).bind (k := fun ds b => (match b id with
        | some (.arr es ver' false) => if ver = ver' ∧ ds.length = n then (es[idx]?).bind fun x => (setD x off ds).bind fun y => some (A.tup [], some (Box.arr (es.set idx y) ver false)) else none
        | _ => none).bind fun p => some (p.1, upd b id p.2)) fun ds => Loc.at id (hX id hok.2) (fun ob => match ob with
        | some (.arr es ver' false) => if ver = ver' ∧ ds.length = n then (es[idx]?).bind fun x => (setD x off ds).bind fun y => some (A.tup [], some (Box.arr (es.set idx y) ver false)) else none
        | _ => none)).congr fun b => ?_
      simp only [storeA, hok, Bool.and_self, if_true]
      cases snaps av b v.cells with
      | none => rfl
      | some p =>
        simp only [Option.bind_some]
        cases p.2 id with
        | none => rfl
        | some x => cases x with
          | cells => rfl
          | arr es v' fz => cases fz with
            | true => rfl
            | false =>
              simp only
              split
              · cases es[idx]? with
                | none => rfl
                | some x => simp only [Option.bind_some]; cases setD x off p.1 <;> rfl
              · rfl
    · refine Loc.none.congr fun b => ?_
      simp only [storeA, hok, if_false, Bool.false_eq_true]; rfl
  | _ => exact Loc.none

include hY hX in
theorem giveCell_loc (a : A) : Loc X Y (fun b => giveCell av al b a) := by
  cases a with
  | d x => exact Loc.pure _
  | nilp => exact Loc.pure _
  | nils => exact Loc.pure _
  | empt => exact Loc.pure _
  | ref id ver off len sz =>
    by_cases hok : okId av id = true
    · by_cases ha : alOk al id = true
      · refine (Loc.at (Y := Y) (X := X) id (hX id ha) (fun ob => match ob with
          | some (.arr es ver' fz) => if ver = ver' then if off = 0 ∧ len = es.length ∧ sz ≠ 0 then some (T.arr fz sz es, some (.arr [] (ver + 1) false)) else
              (sub es off len).bind fun l => some (T.d (.sl l), some (.arr es ver' true)) else none
          | _ => none)).congr fun b => ?_
        simp only [giveCell, hok, ha, if_true, true_and]
        cases hb : b id with
        | none => rfl
        | some x => cases x with
          | cells => rfl
          | arr es v fz =>
            simp only
            split
            · split
              · rfl
              · cases sub es off len with
                | none => rfl
                | some l => simp only [Option.bind_some, frz, hb]
            · rfl
      · refine ((snapRef_loc (X := X) hY id ver off len).bind fun x => Loc.pure (T.d x)).congr fun b => ?_
        simp only [giveCell, snapRef, hok, ha, if_true, and_false, false_and, if_false, Bool.false_eq_true]
        cases hb : b id with
        | none => rfl
        | some x => cases x with
          | cells => rfl
          | arr es v fz =>
            simp only
            split
            · cases sub es off len <;> rfl
            · rfl
    · refine Loc.none.congr fun b => ?_
      simp [giveCell, hok]
  | _ => exact Loc.none

include hY hX in
theorem giveCells_loc : ∀ as : List A, Loc X Y (fun b => giveCells av al b as)
  | [] => Loc.pure _
  | a :: r => (giveCell_loc hY hX a).bind fun x => (giveCells_loc r).bind fun l => Loc.pure (x :: l)

include hY hX in
theorem giveM1_loc (a : A) : Loc X Y (fun b => giveM1 av al b a) := by
  have o := (snap1_loc (X := X) hY a).bind fun x => Loc.pure (T.d x)
  cases a with
  | nilp => exact Loc.pure _
  | nils => exact Loc.pure _
  | lref id ver off len sz =>
    by_cases ha : alOk al id = true
    · refine (Loc.at (Y := Y) (X := X) id (hX id ha) (fun ob => match ob with
        | some (.arr es ver' fz) => if ver = ver' ∧ off = 0 ∧ len = es.length ∧ sz ≠ 0 then some (T.arr fz sz es, some (.arr es ver' fz)) else some (T.gone, some (.arr es ver' fz))
        | _ => none)).congr fun b => ?_
      simp only [giveM1, ha, if_true]
      cases hb : b id with
      | none => rfl
      | some x => cases x with
        | cells => rfl
        | arr es v fz =>
          simp only
          split
          · simp only [Option.bind_some]; rw [upd_eq b id _ hb]
          · simp only [Option.bind_some]; rw [upd_eq b id _ hb]
    · refine Loc.none.congr fun b => ?_
      simp [giveM1, ha]
  | _ => exact o.congr fun b => rfl

include hY hX in
theorem giveMs_loc : ∀ as : List A, Loc X Y (fun b => giveMs av al b as)
  | [] => Loc.pure _
  | a :: r => (giveM1_loc hY hX a).bind fun x => (giveMs_loc r).bind fun l => Loc.pure (x :: l)

include hY hX in
theorem give1_loc (a : A) : Loc X Y (fun b => give1 av al b a) := by
  have o := (snap_loc (X := X) hY a).bind fun x => Loc.pure (T.d x)
  cases a with
  | nilp => exact Loc.pure _
  | ptr id ver off =>
    cases off with
    | succ n => exact Loc.none.congr fun b => rfl
    | zero =>
      by_cases hok : okId av id = true
      · refine (Loc.look (Y := Y) (X := X) id (hY id hok) (fun ob => match ob with
          | some (.cells cs ver') => if ver = ver' then some (fun b => (giveCells av al b cs).bind fun p => some (T.ptr p.1, p.2)) else none
          | _ => none) (fun b => by cases b with
            | none => rfl
            | some x => cases x <;> rfl) (fun b k hk => ?_)).congr fun b => ?_
        · cases b with
          | none => cases hk
          | some x => cases x with
            | arr => cases hk
            | cells cs v =>
              simp only at hk
              split at hk
              · cases hk
                exact (giveCells_loc hY hX cs).bind fun l => Loc.pure (T.ptr l)
              · cases hk
        · simp only [give1, hok, if_true]
          cases b id with
          | none => rfl
          | some x => cases x with
            | arr => rfl
            | cells cs v =>
              simp only
              split <;> rfl
      · refine Loc.none.congr fun b => ?_
        simp [give1, hok]
  | top => exact (Loc.pure T.gone).congr fun b => rfl
  | mix cs =>
    refine (Loc.ite (c := (lids0 cs).isEmpty = true) o ((giveMs_loc hY hX cs).bind fun l => Loc.pure (T.mix l))).congr fun b => ?_
    simp only [give1]
  | lref id ver off len sz =>
    by_cases ha : alOk al id = true
    · refine (Loc.at (Y := Y) (X := X) id (hX id ha) (fun ob => match ob with
        | some (.arr es ver' fz) => if ver = ver' ∧ off = 0 ∧ len = es.length ∧ sz ≠ 0 then some (T.arr fz sz es, some (.arr es ver' fz)) else none
        | _ => none)).congr fun b => ?_
      simp only [give1, ha, if_true]
      cases hb : b id with
      | none => rfl
      | some x => cases x with
        | cells => rfl
        | arr es v fz =>
          simp only
          split
          · simp only [Option.bind_some]; rw [upd_eq b id _ hb]
          · rfl
    · refine Loc.none.congr fun b => ?_
      simp [give1, ha]
  | _ => exact o.congr fun b => rfl

include hY hX in
theorem gives1_loc : ∀ as : List A, Loc X Y (fun b => gives1 av al b as)
  | [] => Loc.pure _
  | a :: r => (give1_loc hY hX a).bind fun x => (gives1_loc r).bind fun l => Loc.pure (x :: l)

include hY hX in
theorem give_loc (a : A) : Loc X Y (fun b => give av al b a) := by
  have o := give1_loc hY hX a
  cases a with
  | fn f caps => exact (gives1_loc hY hX caps).bind fun l => Loc.pure (T.fn f l)
  | _ => exact o.congr fun b => rfl

include hY hX in
theorem gives_loc : ∀ as : List A, Loc X Y (fun b => gives av al b as)
  | [] => Loc.pure _
  | a :: r => (give_loc hY hX a).bind fun x => (gives_loc r).bind fun l => Loc.pure (x :: l)

theorem takeCell_loc (id : Id) (hid : X id) (t : T) : Loc X Y (fun b => takeCell id b t) := by
  cases t with
  | d x => exact Loc.pure _
  | nilp => exact Loc.pure _
  | gone => exact Loc.pure A.top
  | arr fz sz es =>
    by_cases h0 : sz = 0 ∧ es = []
    · obtain ⟨rfl, rfl⟩ := h0; exact Loc.pure A.nils
    refine (Loc.at (Y := Y) (X := X) id hid (fun ob => some (A.ref id (match ob with | some x => x.ver + 1 | none => 0) 0 es.length sz, some (.arr es (match ob with | some x => x.ver + 1 | none => 0) fz)))).congr fun b => ?_
    have e : takeCell id b (.arr fz sz es) = some (.ref id (nextVer b id) 0 es.length sz, upd b id (some (.arr es (nextVer b id) fz))) := by
      cases sz with
      | succ n => rfl
      | zero => cases es with
        | nil => exact absurd ⟨rfl, rfl⟩ h0
        | cons => rfl
    simp only [e, nextVer, Option.bind_some]
    cases b id <;> rfl
  | _ => exact Loc.none

include hXc in
theorem takeCells_loc (id : Id) (hid : X id) : ∀ (j : Nat) (ts : List T), Loc X Y (fun b => takeCells id b j ts)
  | _, [] => Loc.pure _
  | j, t :: r => (takeCell_loc (j :: id) (hXc j id hid) t).bind fun x => (takeCells_loc id hid (j + 1) r).bind fun l => Loc.pure (x :: l)

include hXc in
theorem take1_loc (id : Id) (hid : X id) (t : T) : Loc X Y (fun b => take1 id b t) := by
  have o := takeCell_loc (Y := Y) id hid t
  cases t with
  | ptr ts =>
    refine ((takeCells_loc hXc id hid 0 ts).bind (k := fun l b => some (A.ptr id (nextVer b id) 0, upd b id (some (.cells l (nextVer b id))))) fun l => ?_).congr fun b => rfl
    refine (Loc.at (Y := Y) (X := X) id hid (fun ob => some (A.ptr id (match ob with | some x => x.ver + 1 | none => 0) 0, some (.cells l (match ob with | some x => x.ver + 1 | none => 0))))).congr fun b => ?_
    simp only [nextVer, Option.bind_some]
    cases b id <;> rfl
  | mix ts => exact (Loc.ite (c := ts.all T.flat = true) ((takeCells_loc hXc id hid 0 ts).bind fun l => Loc.pure (A.mix l)) Loc.none).congr fun b => rfl
  | _ => exact o.congr fun b => rfl

include hXc in
theorem takes1_loc (id : Id) (hid : X id) : ∀ (j : Nat) (ts : List T), Loc X Y (fun b => takes1 id b j ts)
  | _, [] => Loc.pure _
  | j, t :: r => (take1_loc hXc (j :: id) (hXc j id hid) t).bind fun x => (takes1_loc id hid (j + 1) r).bind fun l => Loc.pure (x :: l)

include hXc in
theorem take_loc (id : Id) (hid : X id) (t : T) : Loc X Y (fun b => take id b t) := by
  have o := take1_loc (Y := Y) hXc id hid t
  cases t with
  | tup ts => exact (takes1_loc hXc id hid 0 ts).bind fun l => Loc.pure (A.tup l)
  | fn f ts => exact (takes1_loc hXc id hid 0 ts).bind fun l => Loc.pure (A.fn f l)
  | _ => exact o.congr fun b => rfl

theorem backL_loc (id : Id) (hid : X id) (ver off sz : Nat) (t : T) : Loc X Y (fun b => (backL b id ver off sz t).bind fun b' => some ((), b')) := by
  cases t with
  | arr fz sz' es =>
    refine (Loc.at (Y := Y) (X := X) id hid (fun ob => match ob with
      | some (.arr es0 ver' _) => if ver = ver' ∧ off = 0 ∧ es.length = es0.length ∧ sz' = sz ∧ (fz = false ∨ es ≠ []) then some ((), some (.arr es ver fz)) else none
      | _ => none)).congr fun b => ?_
    simp only [backL]
    cases b id with
    | none => rfl
    | some x => cases x with
      | cells => rfl
      | arr es0 v f0 => simp only; split <;> rfl
  | gone =>
    refine (Loc.at (Y := Y) (X := X) id hid (fun ob => some ((), some (.arr [] (match ob with | some x => x.ver + 1 | none => 0) false)))).congr fun b => ?_
    simp only [backL, nextVer, Option.bind_some]
    cases b id <;> rfl
  | _ => exact Loc.none.congr fun b => rfl

theorem backM1_loc (a : A) (t : T) (ha : ∀ i ∈ lids0 [a], X i) : Loc X Y (fun b => (backM1 b a t).bind fun b' => some ((), b')) := by
  cases a with
  | lref id ver off len sz => exact backL_loc id (ha id (by simp [lids0])) ver off sz t
  | _ => exact (Loc.pure ()).congr fun b => by cases t <;> rfl
theorem backMs_loc : ∀ (as : List A) (ts : List T), (∀ i ∈ lids0 as, X i) → Loc X Y (fun b => (backMs b as ts).bind fun b' => some ((), b'))
  | [], [], _ => Loc.pure ()
  | [], _ :: _, _ => Loc.none.congr fun _ => rfl
  | _ :: _, [], _ => Loc.none.congr fun _ => rfl
  | a :: r, t :: s, h => by
    rw [lids0_cons a r] at h
    refine ((backM1_loc a t fun i hi => h i (List.mem_append_left _ hi)).bind fun _ => backMs_loc r s fun i hi => h i (List.mem_append_right _ hi)).congr fun b => ?_
    simp only [backMs]
    cases backM1 b a t <;> rfl

include hXc in
theorem back1_loc (a : A) (t : T) (ha : ∀ i ∈ ptrIds1 [a], X i) : Loc X Y (fun b => (back1 b a t).bind fun b' => some ((), b')) := by
  cases a with
  | ptr id ver off =>
    have hid : X id := ha id (by simp [ptrIds1])
    cases t with
    | ptr ts =>
      refine ((takeCells_loc hXc id hid 0 ts).bind (k := fun l b => (match b id with
        | some (.cells _ ver') => if ver = ver' then some ((), some (Box.cells l ver)) else none
        | _ => none).bind fun p => some (p.1, upd b id p.2)) fun l => Loc.at id hid (fun ob => match ob with
        | some (.cells _ ver') => if ver = ver' then some ((), some (Box.cells l ver)) else none
        | _ => none)).congr fun b => ?_
      simp only [back1]
      cases takeCells id b 0 ts with
      | none => rfl
      | some p =>
        simp only [Option.bind_some]
        cases p.2 id with
        | none => rfl
        | some x => cases x with
          | arr => rfl
          | cells cs v => simp only; split <;> rfl
    | _ => exact Loc.none.congr fun b => rfl
  | lref id ver off len sz => exact (backL_loc id (ha id (by simp [ptrIds1])) ver off sz t).congr fun b => by cases t <;> rfl
  | mix cs =>
    by_cases hm : ∃ ts, t = .mix ts
    · obtain ⟨ts, rfl⟩ := hm
      exact (backMs_loc cs ts fun i hi => ha i (by simpa [ptrIds1] using hi)).congr fun b => rfl
    · refine (Loc.ite (c := (lids0 cs).isEmpty = true) (Loc.pure ()) Loc.none).congr fun b => ?_
      have : back1 b (.mix cs) t = if (lids0 cs).isEmpty = true then some b else none := by
        cases t <;> first | rfl | exact absurd ⟨_, rfl⟩ hm
      rw [this]
      split <;> rfl
  | _ => exact (Loc.pure ()).congr fun b => by cases t <;> rfl

include hXc in
theorem backs1_loc : ∀ (as : List A) (ts : List T), (∀ i ∈ ptrIds1 as, X i) → Loc X Y (fun b => (backs1 b as ts).bind fun b' => some ((), b'))
  | [], [], _ => Loc.pure ()
  | [], _ :: _, _ => Loc.none.congr fun _ => rfl
  | _ :: _, [], _ => Loc.none.congr fun _ => rfl
  | a :: r, t :: s, h => by
    rw [ptrIds1_cons a r] at h
    refine ((back1_loc hXc a t fun i hi => h i (List.mem_append_left _ hi)).bind fun _ => backs1_loc r s fun i hi => h i (List.mem_append_right _ hi)).congr fun b => ?_
    simp only [backs1]
    cases back1 b a t <;> rfl

include hXc in
theorem back_loc (a : A) (t : T) (ha : ∀ i ∈ ptrIds [a], X i) : Loc X Y (fun b => (back b a t).bind fun b' => some ((), b')) := by
  have o := fun h => back1_loc (Y := Y) hXc a t h
  cases a with
  | fn f caps =>
    cases t with
    | fn f' ts => exact backs1_loc hXc caps ts (by simpa [ptrIds] using ha)
    | _ => exact Loc.none.congr fun b => rfl
  | _ => exact (o (by first | exact ha | simpa [ptrIds, ptrIds1] using ha)).congr fun b => rfl

include hXc in
theorem backs_loc : ∀ (as : List A) (ts : List T), (∀ i ∈ ptrIds as, X i) → Loc X Y (fun b => (backs b as ts).bind fun b' => some ((), b'))
  | [], [], _ => Loc.pure ()
  | [], _ :: _, _ => Loc.none.congr fun _ => rfl
  | _ :: _, [], _ => Loc.none.congr fun _ => rfl
  | a :: r, t :: s, h => by
    rw [ptrIds_cons a r] at h
    refine ((back_loc hXc a t fun i hi => h i (List.mem_append_left _ hi)).bind fun _ => backs_loc r s fun i hi => h i (List.mem_append_right _ hi)).congr fun b => ?_
    simp only [backs]
    cases back b a t <;> rfl

theorem okId_app {l av : List Id} {i : Id} (h : okId (l ++ av) i = true) : okId av i = true := by
  simp only [okId, List.all_append, Bool.and_eq_true] at h
  exact h.2

include hY hX hXc in
theorem callB_loc (C : Cs) (id : Id) (hid : X id) (f : Nat) (args : List A) : Loc X Y (fun b => callB C av al b id f args) := by
  by_cases h : (apartIds (ptrIds args) && (ptrIds args).all (alOk al)) = true
  · have hp : ∀ i ∈ ptrIds args, X i := fun i hi => by
      rw [Bool.and_eq_true, List.all_eq_true] at h
      exact hX i (h.2 i hi)
    refine ((gives_loc (av := lids args ++ av) (fun i hi => hY i (okId_app (l := lids args) hi)) hX args).bind (k := fun ts b => (C f ts).bind fun r => ((backs b args r.2).bind fun b' => some ((), b')).bind fun p => take id p.2 r.1) fun ts =>
      Loc.opt fun r => (backs_loc hXc args r.2 hp).bind fun _ => take_loc hXc id hid r.1).congr fun b => ?_
    simp only [callB, h, Bool.not_true, Bool.false_eq_true, if_false]
    cases gives (lids args ++ av) al b args with
    | none => rfl
    | some p =>
      simp only [Option.bind_some]
      cases C f p.1 with
      | none => rfl
      | some r =>
        simp only [Option.bind_some]
        cases backs p.2 args r.2 <;> rfl
  · refine Loc.none.congr fun b => ?_
    simp only [callB, h, Bool.not_false, if_true]

include hY in
theorem lendX0_loc (a : A) : Loc X Y (fun b => some (lendX0 av b a, b)) := by
  cases a with
  | lref id ver off len sz =>
    by_cases hok : okId av id = true
    · refine (Loc.look (Y := Y) (X := X) id (hY id hok) (fun ob => some (fun b => some (if (match ob with
          | some (.arr es ver' _) => decide (ver = ver' ∧ off = 0 ∧ len = es.length ∧ sz ≠ 0)
          | _ => false) then A.lref id ver off len sz else A.ref id ver off len sz, b))) (fun b => by cases b with
          | none => rfl
          | some x => cases x <;> rfl) (fun b k hk => by cases hk; exact Loc.pure _)).congr fun b => ?_
      simp only [lendX0, hok, Bool.true_and, wholeB, Option.bind_some]
      cases b id with
      | none => rfl
      | some x => cases x <;> rfl
    · exact (Loc.pure (A.ref id ver off len sz)).congr fun b => by simp [lendX0, hok]
  | _ => exact Loc.pure _
include hY in
theorem lends0_loc : ∀ as : List A, Loc X Y (fun b => some (as.map (lendX0 av b), b))
  | [] => Loc.pure _
  | a :: r => ((lendX0_loc hY a).bind (k := fun x b => (some (r.map (lendX0 av b), b) : Option (List A × Bx)).bind fun p => some (x :: p.1, p.2)) fun x => (lends0_loc r).bind fun l => Loc.pure (x :: l)).congr fun b => rfl
include hY in
theorem lendX_loc (a : A) : Loc X Y (fun b => some (lendX av b a, b)) := by
  cases a with
  | mix cs => exact ((lends0_loc hY cs).bind fun l => Loc.pure (A.mix l)).congr fun b => rfl
  | lref id ver off len sz => exact (lendX0_loc hY (.lref id ver off len sz)).congr fun b => rfl
  | _ => exact Loc.pure _
include hY in
theorem lends_loc : ∀ as : List A, Loc X Y (fun b => some (as.map (lendX av b), b))
  | [] => Loc.pure _
  | a :: r => ((lendX_loc hY a).bind (k := fun x b => (some (r.map (lendX av b), b) : Option (List A × Bx)).bind fun p => some (x :: p.1, p.2)) fun x => (lends_loc r).bind fun l => Loc.pure (x :: l)).congr fun b => rfl

include hY hX hXc in
theorem callA_loc (C : Cs) (id : Id) (hid : X id) (f : Nat) (args : List A) : Loc X Y (fun b => callA C av al b id f args) :=
  (Loc.read (rd := fun b => some (args.map (lendX av b))) (k := fun l b => callB C av al b id f l) (lends_loc hY args) fun l => callB_loc hY hX hXc C id hid f l).congr fun b => rfl

end

end Go.Es


namespace Go.Es

def pureK : K → Bool
  | .load _ | .store _ | .alloc _ | .box _ | .bslice .. | .strBytes | .bytesStr | .mkslice .. | .callf _ | .callv | .append .. | .appmk .. | .copy .. | .snap => false
  | _ => true

theorem sem_pure (C : Cs) (d : Option Nat) (k : K) (os : List O) (gg : Option (Nat × Bool)) (av : List Id) (al : Option (List Id)) (hk : pureK k = true) (xs : List A) (b : Bx) :
    sem C ⟨d, k, os, gg, av, al⟩ xs b = (sem C ⟨d, k, os, gg, av, al⟩ xs (fun _ => none)).bind fun p => some (p.1, b) := by
  unfold sem
  dsimp only
  split <;> first
    | (exact Bool.noConfusion hk)
    | rfl
    | (simp only [Option.bind_assoc, Option.bind_some]; done)
    | (simp only [Option.bind_assoc, Option.bind_some]
       repeat' first
        | rfl
        | (refine congrArg _ (funext fun p => ?_))
        | split
        | simp only [Option.bind_assoc, Option.bind_some])
    | (repeat' first
        | rfl
        | (refine congrArg _ (funext fun p => ?_))
        | split
        | simp only [Option.bind_assoc, Option.bind_some])

/-- The boxes that an operation may write: those of these names, and what hangs on them. -/
def roots (o : Ao) : List Id :=
  match o.k with
  | .alloc _ | .box _ | .bslice .. | .strBytes | .mkslice .. => [[o.dst.getD 0]]
  | .store _ | .copy .. => o.al.getD []
  | .append .. | .appmk .. | .callf _ | .callv => [o.dst.getD 0] :: o.al.getD []
  | _ => []

def writerOk (o : Ao) : Bool :=
  match o.k with
  | .store _ | .copy .. | .append .. | .appmk .. | .callf _ | .callv => o.al.isSome
  | _ => true

def rootOf (ws : List Id) (i : Id) : Prop := ∃ a ∈ ws, a.isSuffixOf i = true

theorem suffix_self (i : Id) : i.isSuffixOf i = true := by
  rw [List.isSuffixOf_iff_suffix]; exact List.suffix_refl i

theorem rootOf.cons {ws : List Id} (j : Nat) (i : Id) (h : rootOf ws i) : rootOf ws (j :: i) := by
  obtain ⟨a, ha, hs⟩ := h
  rw [List.isSuffixOf_iff_suffix] at hs
  exact ⟨a, ha, by rw [List.isSuffixOf_iff_suffix]; exact hs.trans (List.suffix_cons j i)⟩

theorem rootOf.mem {ws : List Id} {i : Id} (h : i ∈ ws) : rootOf ws i := ⟨i, h, suffix_self i⟩

section
variable {X Y : Id → Prop} {α β : Type}

theorem new_loc (id : Id) (hid : X id) (r : Nat → A) (x : Nat → Box) : Loc X Y (fun b => some (r (nextVer b id), upd b id (some (x (nextVer b id))))) := by
  refine (Loc.at (Y := Y) (X := X) id hid (fun ob => some (r (match ob with | some x => x.ver + 1 | none => 0), some (x (match ob with | some x => x.ver + 1 | none => 0))))).congr fun b => ?_
  simp only [nextVer, Option.bind_some]
  cases b id <;> rfl

theorem appended_loc {av : List Id} (hY : ∀ i, okId av i = true → Y i) (str : Bool) (x : A) : Loc X Y (fun b => appended av b str x) := by
  cases str with
  | true => exact (Loc.opt (o := asS x) fun s => Loc.pure (s.map dByte)).congr fun b => rfl
  | false =>
    have o := readSl_loc (X := X) hY x
    cases x with
    | empt => exact Loc.pure _
    | _ => exact o.congr fun b => rfl

theorem copied_loc {av : List Id} (hY : ∀ i, okId av i = true → Y i) (str : Bool) (x : A) : Loc X Y (fun b => (copied av b str x).bind fun l => some (l, b)) := by
  cases str with
  | true => exact (Loc.opt (o := (asS x).bind fun s => some (s.map dByte)) fun s => Loc.pure s).congr fun b => rfl
  | false => exact readSl_loc hY x
end

theorem sem_loc (C : Cs) (o : Ao) (xs : List A) (hw : writerOk o = true) :
    Loc (fun i => rootOf (roots o) i) (fun i => pureK o.k = false ∧ okId o.av i = true) (fun b => sem C o xs b) := by
  obtain ⟨d, k, os, gg, av, al⟩ := o
  by_cases hk : pureK k = true
  · refine (Loc.opt (o := sem C ⟨d, k, os, gg, av, al⟩ xs (fun _ => none)) (k := fun p b => some (p.1, b)) fun p => Loc.pure p.1).congr fun b => ?_
    exact sem_pure C d k os gg av al hk xs b
  have hk' : pureK k = false := by simpa using hk
  have hY : ∀ i, okId av i = true → pureK k = false ∧ okId av i = true := fun i h => ⟨hk', h⟩
  have hXc : ∀ ws, ∀ j i, rootOf ws i → rootOf ws (j :: i) := fun ws j i h => h.cons j i
  cases k <;> first | (exact absurd rfl hk) | skip
  case alloc z =>
    cases xs with
    | nil => exact new_loc [d.getD 0] (.mem (by simp [roots])) (fun v => .ptr [d.getD 0] v 0) (fun v => .cells z v)
    | cons => exact Loc.none
  case box n =>
    cases xs with
    | nil => exact Loc.none
    | cons x r => cases r with
      | nil => exact Loc.ite (new_loc [d.getD 0] (.mem (by simp [roots])) (fun v => .ptr [d.getD 0] v 0) (fun v => .cells x.cells v)) Loc.none
      | cons => exact Loc.none
  case bslice z n at_ =>
    refine ((snapsM_loc hY xs).bind (k := fun l b => (fillD z.cells.length at_ l (List.replicate n z)).bind fun es =>
      some (.ref [d.getD 0] (nextVer b [d.getD 0]) 0 es.length z.cells.length, upd b [d.getD 0] (some (.arr es (nextVer b [d.getD 0]) false)))) fun l => Loc.opt fun es =>
      new_loc [d.getD 0] (.mem (by simp [roots])) (fun v => .ref [d.getD 0] v 0 es.length z.cells.length) (fun v => .arr es v false)).congr fun b => ?_
    cases xs <;> rfl
  case load agg =>
    cases xs with
    | nil => exact Loc.none
    | cons x r => cases r with
      | nil => exact loadA_loc hY agg x
      | cons => exact Loc.none
  case store n =>
    cases al with
    | none => cases hw
    | some l =>
      cases xs with
      | nil => exact Loc.none
      | cons x r => cases r with
        | nil => exact Loc.none
        | cons y r => cases r with
          | nil => exact storeA_loc (av := av) (al := some l) hY (fun i hi => .mem (by simpa [alOk, roots] using hi)) n x y
          | cons => exact Loc.none
  case strBytes =>
    cases xs with
    | nil => exact Loc.none
    | cons x r => cases r with
      | nil => exact Loc.opt (o := asS x) fun s => new_loc [d.getD 0] (.mem (by simp [roots])) (fun v => .ref [d.getD 0] v 0 s.length 1) (fun v => .arr (s.map dByte) v false)
      | cons => exact Loc.none
  case bytesStr =>
    cases xs with
    | nil => exact Loc.none
    | cons x r => cases r with
      | nil => exact (readSl_loc hY x).read (k := fun es b => (es.mapM byteD).bind fun s => some (A.d (.str s), b)) fun es => Loc.opt fun s => Loc.pure _
      | cons => exact Loc.none
  case mkslice z n =>
    cases xs with
    | nil => exact Loc.none
    | cons x r => cases r with
      | nil => exact Loc.none
      | cons y r => cases r with
        | nil => exact Loc.opt (o := asI x) fun p => Loc.opt (o := asI y) fun q => Loc.ite (new_loc [d.getD 0] (.mem (by simp [roots])) (fun v => .ref [d.getD 0] v 0 p.2.toNat z.cells.length) (fun v => .arr (List.replicate p.2.toNat z) v false)) Loc.none
        | cons => exact Loc.none
  case callf f =>
    cases al with
    | none => cases hw
    | some l =>
      exact (callA_loc hY (fun i hi => .mem (by simp only [alOk, List.contains_iff_mem] at hi; simp [roots, hi])) (hXc _) C [d.getD 0] (.mem (by simp [roots])) f xs).congr fun b => by cases xs <;> rfl
  case callv =>
    cases al with
    | none => cases hw
    | some l =>
      cases xs with
      | nil => exact Loc.none
      | cons x r =>
        cases x with
        | fn f caps => exact callA_loc hY (fun i hi => .mem (by simp only [alOk, List.contains_iff_mem] at hi; simp [roots, hi])) (hXc _) C [d.getD 0] (.mem (by simp [roots])) f (r ++ caps)
        | _ => exact Loc.none
  case append n bytes str =>
    cases al with
    | none => cases hw
    | some l =>
      cases xs with
      | nil => exact Loc.none
      | cons s r => cases r with
        | nil => exact Loc.none
        | cons x r => cases r with
          | cons => exact Loc.none
          | nil =>
            refine (appended_loc hY str x).bind (k := fun p b => if szOk p n then
                match s with
                | .nils => if p.length * bytes ≤ 2 ^ 40 ∧ p.length ≤ 2 ^ 40 then some (A.ref [d.getD 0] (nextVer b [d.getD 0]) 0 p.length n, upd b [d.getD 0] (some (.arr p (nextVer b [d.getD 0]) false))) else none
                | .ref i ver off len sz =>
                  if okId av i && alOk (some l) i then
                    match b i with
                    | some (.arr es ver' fz) =>
                      if ver = ver' ∧ off = 0 ∧ len = es.length ∧ sz = n ∧ (es.length + p.length) * bytes ≤ 2 ^ 40 ∧ es.length + p.length ≤ 2 ^ 40 then
                        some (A.ref i (ver + 1) 0 (es.length + p.length) n, upd b i (some (.arr (es ++ p) (ver + 1) fz)))
                      else none
                    | _ => none
                  else none
                | _ => none
              else none) fun p => Loc.ite ?_ Loc.none
            cases s with
            | nils => exact Loc.ite (new_loc [d.getD 0] (.mem (by simp [roots])) (fun v => .ref [d.getD 0] v 0 p.length n) (fun v => .arr p v false)) Loc.none
            | ref i ver off len sz =>
              refine Loc.dite (fun hc => ?_) (fun _ => Loc.none)
              rw [Bool.and_eq_true] at hc
              refine (Loc.at i (.mem (by have := hc.2; simp only [alOk, List.contains_iff_mem] at this; simp [roots, this])) (fun ob => match ob with
                | some (.arr es ver' fz) =>
                  if ver = ver' ∧ off = 0 ∧ len = es.length ∧ sz = n ∧ (es.length + p.length) * bytes ≤ 2 ^ 40 ∧ es.length + p.length ≤ 2 ^ 40 then
                    some (A.ref i (ver + 1) 0 (es.length + p.length) n, some (.arr (es ++ p) (ver + 1) fz))
                  else none
                | _ => none)).congr fun b => ?_
              cases b i with
              | none => rfl
              | some x => cases x with
                | cells => rfl
                | arr es v fz => simp only; split <;> rfl
            | _ => exact Loc.none
  case appmk z bytes =>
    cases al with
    | none => cases hw
    | some l =>
      cases xs with
      | nil => exact Loc.none
      | cons s r => cases r with
        | nil => exact Loc.none
        | cons x r => cases r with
          | cons => exact Loc.none
          | nil =>
            refine Loc.opt (o := asI x) fun q => Loc.ite ?_ Loc.none
            generalize List.replicate q.2.toNat z = p
            cases s with
            | nils => exact Loc.ite (new_loc [d.getD 0] (.mem (by simp [roots])) (fun v => .ref [d.getD 0] v 0 p.length z.cells.length) (fun v => .arr p v false)) Loc.none
            | ref i ver off len sz =>
              refine Loc.dite (fun hc => ?_) (fun _ => Loc.none)
              rw [Bool.and_eq_true] at hc
              refine (Loc.at i (.mem (by have := hc.2; simp only [alOk, List.contains_iff_mem] at this; simp [roots, this])) (fun ob => match ob with
                | some (.arr es ver' fz) =>
                  if ver = ver' ∧ off = 0 ∧ len = es.length ∧ sz = z.cells.length ∧ (es.length + p.length) * bytes ≤ 2 ^ 40 ∧ es.length + p.length ≤ 2 ^ 40 then
                    some (A.ref i (ver + 1) 0 (es.length + p.length) z.cells.length, some (.arr (es ++ p) (ver + 1) fz))
                  else none
                | _ => none)).congr fun b => ?_
              cases b i with
              | none => rfl
              | some x => cases x with
                | cells => rfl
                | arr es v fz => simp only; split <;> rfl
            | _ => exact Loc.none
  case copy n str =>
    cases al with
    | none => cases hw
    | some l =>
      cases xs with
      | nil => exact Loc.none
      | cons s r => cases r with
        | nil => cases s <;> exact Loc.none
        | cons x r => cases r with
          | cons => cases s <;> exact Loc.none
          | nil =>
            cases s with
            | ref i ver off len sz =>
              refine (copied_loc hY str x).read (k := fun ys b => if okId av i && alOk (some l) i && szOk ys n then
                  match b i with
                  | some (.arr es ver' false) =>
                    if ver = ver' ∧ off + len ≤ es.length ∧ sz = n then
                      some (goI (min ys.length len : Nat), upd b i (some (.arr (es.take off ++ ys.take (min ys.length len) ++ es.drop (off + min ys.length len)) ver false)))
                    else none
                  | _ => none
                else none) fun ys => Loc.dite (fun hc => ?_) (fun _ => Loc.none)
              rw [Bool.and_eq_true, Bool.and_eq_true] at hc
              refine (Loc.at i (.mem (by have := hc.1.2; simp only [alOk, List.contains_iff_mem] at this; simp [roots, this])) (fun ob => match ob with
                | some (.arr es ver' false) =>
                  if ver = ver' ∧ off + len ≤ es.length ∧ sz = n then
                    some (goI (min ys.length len : Nat), some (.arr (es.take off ++ ys.take (min ys.length len) ++ es.drop (off + min ys.length len)) ver false))
                  else none
                | _ => none)).congr fun b => ?_
              cases b i with
              | none => rfl
              | some x => cases x with
                | cells => rfl
                | arr es v fz => cases fz with
                  | true => rfl
                  | false => simp only; split <;> rfl
            | _ => exact Loc.none
  case snap =>
    cases xs with
    | nil => exact Loc.none
    | cons x r => cases r with
      | nil => exact (snap_loc hY x).bind fun l => Loc.pure (A.d l)
      | cons => exact Loc.none

end Go.Es

