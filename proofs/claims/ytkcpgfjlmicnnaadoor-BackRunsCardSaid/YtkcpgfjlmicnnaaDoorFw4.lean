/- More operations: a slice against nil, make, maps. -/
/- One operation, symbolically, whole. -/
import Derived.Test.YtkcpgfjlmicnnaaDoorFw3
import Derived.MapKept
import Derived.Lib.SlicesCompact
set_option linter.unusedSimpArgs false
set_option linter.unusedVariables false
namespace Go.Lb
open Go.RowKit

variable {P : Program} {G : Glob} {ro : Option Nat} {n0 : Nat} {w0 : Base} {c : Cx} {ρ : Nat → AV} {O : Lk} {nenv : Nat} {o : Oper} {a : Act} {w : World}

/-! ### A slice against nil -/
theorem run_eqs {t el : TypeId} {x y : Operand} {va vb : Value} (neg : Bool) (h : P.underlying t = some (.slice el)) {b : Option Addr} {n m : Nat} (hb : va = .slice b n m) (hv : vb = .slice none 0 0) :
    (do eqGuard (if neg then .neq else .eql) t x y va vb; binOp (if neg then .neq else .eql) t va vb).run P w = .ok (.bool (b.isNone != neg)) w := by
  subst hb hv
  have e : (Op.equal t (.slice b n m) (.slice none 0 0)).run P w = .ok b.isNone w := by
    unfold Op.equal Op.maxDepth Op.equalIn
    simp only [Sem.run_bind, run_underlying h, Result.andThen_ok]
    cases b <;> rfl
  cases neg <;> simp [eqGuard, binOp, e]

/-- What is known of a slice that is nil. -/
def nilOk (O : Lk) (ρ : Nat → AV) (e : SE) (b : Bool) : Prop :=
  b = true → (∃ i, e = .row i ∧ ∃ sz ec, O i = some (.row sz ec) ∧ den ρ ec = .sl []) ∨ den ρ e = .sl []

theorem slice_of {e : SE} {v : Value} (hm : Mem n0 w0 c ρ O nenv w) (he : Rv c (den ρ e) v) (hs : (∃ i, e = .row i ∧ ∃ sz ec, O i = some (.row sz ec)) ∨ ∃ xs, den ρ e = .sl xs) :
    ∃ b n m, v = .slice b n m ∧ nilOk O ρ e b.isNone := by
  rcases hs with ⟨i, rfl, sz, ec, hl⟩ | ⟨xs, hx⟩
  · obtain ⟨xs, h1, h2⟩ := hm.ok i _ hl
    simp only [den] at he
    cases he with
    | row _ aa n cap hh =>
      refine ⟨aa, n, cap, rfl, fun hb => .inl ⟨i, rfl, sz, ec, hl, ?_⟩⟩
      rw [hh] at h2
      cases h2 with
      | nil => exact h1
      | zero => simp at hb
      | row => simp at hb
  · rw [hx] at he
    cases he with
    | slnil => exact ⟨none, 0, 0, rfl, fun _ => .inr hx⟩
    | sl0 ad => exact ⟨some ad, 0, 0, rfl, fun h => by simp at h⟩
    | sl _ sz b o cap => exact ⟨some ⟨b, o, none⟩, _, _, rfl, fun h => by simp at h⟩

/-! ### make -/
def makeSliceSE (P : Program) (t : TypeId) (n : SE) : Option (Nat × SE × List Chk) :=
  match P.underlying t with
  | some (.slice e) => match tsz P e, (zeroSE P e).map SE.weaks, P.info? e with
    | some (sz, g), some z, some i =>
      if z.length = sz ∧ (g = false → sz = 1) ∧ sz ≠ 0 ∧ i.bytes ≤ 16384 then
        match g, z with
        | true, z => some (sz, .app .rep [n, .agg z], [(.rep, [n, .agg z])])
        | false, [z] => if z.sure1 then some (sz, .app .rep [n, z], [(.rep, [n, z])]) else none
        | _, _ => none
      else none
    | _, _, _ => none
  | _ => none

theorem flat_replicate (n : Nat) (v : AV) : AV.flat (List.replicate n v) = (List.replicate n v.cells).flatten := by
  induction n with
  | zero => rfl
  | succ n ih => rw [List.replicate_succ, List.replicate_succ, List.flatten_cons, flat_cons, ih]

theorem wrap_small {n : Int} (h0 : 0 ≤ n) (h1 : n ≤ 4294967296) : IntKind.i64.wrap n = n := by
  unfold IntKind.wrap
  simp only [IntKind.signed, IntKind.bits]
  have h64 : (2 : Int) ^ 64 = 18446744073709551616 := by decide
  have h63 : (2 : Int) ^ (64 - 1) = 9223372036854775808 := by decide
  have : n % 2 ^ 64 = n := by rw [h64]; exact Int.emod_eq_of_lt h0 (by omega)
  simp only [this]
  first
    | (split <;> omega)
    | (simp [h63]; omega)

theorem op_makeSlice (hm : Mem n0 w0 c ρ O nenv w) (hn0 : n0 ≤ w.heap.size) {t sz : Nat} {l m : Operand} {n e : SE} {ck : List Chk} (ho : o.op = .makeSlice t l m)
    (hb : makeSliceSE P t n = some (sz, e, ck)) (hl : Rv c (den ρ n) (a.eval l)) (hm' : Rv c (den ρ n) (a.eval m)) (hck : Chks ρ ck) (hwf : e.wf nenv O.dom = true) {nid : Nat} (hid : O nid = none) :
    OpGo P ro n0 w0 c ρ O (.row nid) (O.upd nid (.row sz e)) nenv o a w := by
  intro k next Q hn
  unfold makeSliceSE at hb
  split at hb
  case h_2 => cases hb
  rename_i el hu
  split at hb
  case h_2 => cases hb
  rename_i sz' g z i ht hz hi
  split at hb
  case isFalse => cases hb
  rename_i hc
  obtain ⟨c1, c2, c3, c4⟩ := hc
  obtain ⟨zz, hzz, rfl⟩ := Option.map_eq_some_iff.1 hz
  obtain ⟨zv, z1, z2⟩ := zeroSE_sound (w := w) (c := c) (ρ := ρ) hzz
  replace z2 := weaks_sound zz z2
  have hzl : zv.cells.size = sz' := by have := z2.length; rw [dens_length, c1] at this; simpa using this
  -- one value of an element
  obtain ⟨ze, hze, hcells⟩ : ∃ ze, (sz, e, ck) = (sz', .app .rep [n, ze], [(.rep, [n, ze])]) ∧ (den ρ ze).cells = dens ρ (SE.weaks zz) := by
    split at hb
    · simp only [Option.some.injEq] at hb
      exact ⟨.agg (SE.weaks zz), hb.symm, by simp⟩
    · rename_i _ z1 hzz1
      split at hb
      · rename_i h1
        simp only [Option.some.injEq] at hb
        refine ⟨z1, hb.symm, ?_⟩
        rw [hzz1]
        have := SE.sure1_one (ρ := ρ) h1
        simp only [dens]
        cases hd : den ρ z1 <;> simp_all
      · cases hb
    · cases hb
  simp only [Prod.mk.injEq] at hze
  obtain ⟨rfl, rfl, rfl⟩ := hze
  have hk := hck.one
  simp only [dens] at hk
  cases hdn : den ρ n with
  | int kk num =>
    rw [hdn] at hk hl hm'
    simp only [pok] at hk
    obtain ⟨k0, k1, k2⟩ := hk
    obtain ⟨q, rfl⟩ : ∃ q : Nat, num = q := ⟨num.toNat, by omega⟩
    have hden : den ρ (.app .rep [n, ze]) = .sl (List.replicate q (den ρ ze)) := by simp only [den, dens, hdn, pv, Int.toNat_natCast]
    have hlc : (den ρ ze).cells.length = sz := by rw [hcells, dens_length, c1]
    have hflat : Rvs c (AV.flat (List.replicate q (den ρ ze))) ((Array.range (q * sz)).map (fun x => zv.cells[x % zv.cells.size]!)).toList := by
      rw [flat_replicate, hcells, ← hzl, range_mod_toList]; exact Rvs_replicate z2 q
    have hfl : ((Array.range (q * sz)).map (fun x => zv.cells[x % zv.cells.size]!)).toList.length = q * sz := by simp
    have hnew := hm.newRow hn0 hid (.app .rep [n, ze]) _ q sz ((Array.range (q * sz)).map (fun x => zv.cells[x % zv.cells.size]!)).toList el hden hwf (by simp) (by rw [hfl]; exact Nat.le_refl _)
      (by intro x hx; rw [List.eq_of_mem_replicate hx]; exact hlc) (by rw [List.length_replicate, List.take_of_length_le (by rw [hfl]; exact Nat.le_refl _)]; exact hflat)
    rw [List.length_replicate] at hnew
    have hvl : a.eval l = .int kk q := by generalize a.eval l = v at hl; cases hl; rfl
    have hvm : a.eval m = .int kk q := by generalize a.eval m = v at hm'; cases hm'; rfl
    refine wpIn_value (by rw [ho]; intro c h; cases h) (v := .slice (some ⟨w.heap.size, 0, none⟩) q q) (w' := w.alloc (.cells ((Array.range (q * sz)).map (fun x => zv.cells[x % zv.cells.size]!)) el)) ?_ (hn _ _ _ (c.seth_keeps hid) ?_ hnew)
    · have hw := wrap_small k0 k1
      have hb48 : ¬ (i.bytes : Int) * q > 2 ^ 48 := by
        have h1 : i.bytes * q ≤ 16384 * 4294967296 := Nat.mul_le_mul c4 (by omega)
        have h2 : ((i.bytes * q : Nat) : Int) = (i.bytes : Int) * q := Int.natCast_mul _ _
        have h3 : (2 : Int) ^ 48 = 281474976710656 := by decide
        rw [h3, ← h2]; omega
      clear hnew
      have hcond : ((decide ((q : Int) < 0) || decide ((i.bytes : Int) * q > 2 ^ 48)) || decide ((q : Int) < 0) || decide ((q : Int) > q)) = false := by
        rw [decide_eq_false hb48, decide_eq_false (show ¬ (q : Int) < 0 by omega), decide_eq_false (show ¬ (q : Int) > q by omega)]; rfl
      have hrange : ∀ Z : Array Value, (q * sz = 0 ∨ Z = zv.cells) → (Array.range (q * sz)).map (fun x => Z[x % Z.size]!) = (Array.range (q * sz)).map (fun x => zv.cells[x % zv.cells.size]!) := by
        intro Z hZ
        rcases hZ with h0 | h0
        · rw [h0]
          have : Array.range 0 = #[] := by simp [Array.range]
          rw [this, Array.map_empty, Array.map_empty]
        · rw [h0]
      simp only [execOp, ho, hvl, hvm, Instr.makeSlice, Sem.run_bind, run_underlying hu, Result.andThen_ok, asInt, asIntOf, Sem.run_pure, run_typeInfo hi, hw]
      generalize (decide ((q : Int) < 0) || decide ((i.bytes : Int) * q > 2 ^ 48) || decide ((q : Int) < 0) || decide ((q : Int) > q)) = bb at hcond
      subst hcond
      simp only [Bool.false_eq_true, if_false, Sem.run_bind, run_askRoom, Result.andThen_ok, (tsz_spec ht w).1, Int.toNat_natCast]
      by_cases h0 : q * sz = 0
      · rw [if_pos h0]
        simp only [Sem.run_bind, Sem.run_pure, Result.andThen_ok]
        rw [hrange #[] (.inl h0)]
        rfl
      · rw [if_neg h0]
        simp only [Sem.run_bind, z1, Sem.run_pure, Result.andThen_ok]
        rfl
    · simp only [den]; exact .row nid _ _ _ (by simp [Cx.seth])
  | _ => rw [hdn] at hk; simp [pok] at hk

/-! ### Maps of numbers -/
theorem op_makeMap (hm : Mem n0 w0 c ρ O nenv w) (hn0 : n0 ≤ w.heap.size) {t : TypeId} (k : IntKind) (ho : o.op = .makeMap t none) {nid : Nat} (hid : O nid = none) :
    OpGo P ro n0 w0 c ρ O (.mref nid) (O.upd nid (.mapo k [] [])) nenv o a w := by
  intro n next Q hn
  have hk : c.Keeps O.dom (c.setβ nid w.heap.size) := c.setβ_keeps hid
  have hnew := hm.new (.map #[] 0) nid hid (.mapo k [] []) hk rfl rfl rfl ⟨[], 0, by simp only [Cx.setβ, if_true]; exact World.alloc_heap_new w _, rfl, .nil⟩ (by intro b hb; simp [bl, Cx.setβ] at hb; exact hb.symm) hn0
  refine wpIn_value (by rw [ho]; intro c h; cases h) (v := .map (some w.heap.size)) (w' := w.alloc (.map #[] 0)) ?_ (hn _ _ _ hk ?_ hnew)
  · simp only [execOp, ho, Option.map_none, Instr.makeMap]; rfl
  · have := Rv.mref (c := c.setβ nid w.heap.size) nid
    simpa [Cx.setβ, den] using this

theorem Rvs.set {c : Cx} {as : List AV} {vs : List Value} (h : Rvs c as vs) (j : Nat) {x : AV} {v : Value} (hx : Rv c x v) : Rvs c (as.set j x) (vs.set j v) := by
  induction as generalizing vs j with
  | nil => cases h; exact .nil
  | cons a as ih =>
    cases h with
    | cons _ u _ vs h1 h2 =>
      cases j with
      | zero => exact .cons _ _ _ _ hx h2
      | succ j => exact .cons _ _ _ _ h1 (ih h2 j)

/-- The values of a map with one put in. -/
def mapPut (n : Int) (v : SE) : List Int → List SE → List Int × List SE
  | k :: ks, u :: us => if k = n then (k :: ks, v :: us) else (k :: (mapPut n v ks us).1, u :: (mapPut n v ks us).2)
  | ks, us => (ks ++ [n], us ++ [v])

theorem findNow_ints {kk k : IntKind} {n : Int} : ∀ (es : List MapEntry) (ks : List Int) (j : Nat), es.map (·.key) = ks.map (Value.int k) →
    (n ∉ ks ∧ Instr.findNow (.int kk) (.int k n) es j = some none) ∨ (∃ i e, es[i]? = some e ∧ ks[i]? = some n ∧ n ∉ ks.take i ∧ Instr.findNow (.int kk) (.int k n) es j = some (some (j + i, e.val))) := by
  intro es
  induction es with
  | nil => intro ks j h; cases ks with
    | nil => exact .inl ⟨by simp, rfl⟩
    | cons => simp at h
  | cons e es ih =>
    intro ks j h
    cases ks with
    | nil => simp at h
    | cons m ks =>
      simp only [List.map_cons, List.cons.injEq] at h
      by_cases hmn : n = m
      · subst hmn
        refine .inr ⟨0, e, rfl, rfl, by simp, ?_⟩
        simp [Instr.findNow, Instr.sameNow, h.1]
      · rcases ih ks (j + 1) h.2 with ⟨h1, h2⟩ | ⟨i, e', h1, h2, h3, h4⟩
        · refine .inl ⟨by simp [hmn, h1], ?_⟩
          have hb : (n == m) = false := by simpa using hmn
          simp [Instr.findNow, Instr.sameNow, h.1, hb, h2]
        · refine .inr ⟨i + 1, e', by simpa using h1, by simpa using h2, by simp [hmn, h3], ?_⟩
          have hb : (n == m) = false := by simpa using hmn
          simp [Instr.findNow, Instr.sameNow, h.1, hb, h4]
          omega

theorem mapPut_new {n : Int} {v : SE} : ∀ (ks : List Int) (us : List SE), ks.length = us.length → n ∉ ks → mapPut n v ks us = (ks ++ [n], us ++ [v]) := by
  intro ks
  induction ks with
  | nil => intro us h _; cases us with
    | nil => rfl
    | cons => simp at h
  | cons k ks ih =>
    intro us h hn
    cases us with
    | nil => simp at h
    | cons u us =>
      simp only [List.mem_cons, not_or] at hn
      simp only [List.length_cons, Nat.add_right_cancel_iff] at h
      simp only [mapPut, if_neg (Ne.symm hn.1), ih us h hn.2, List.cons_append]

theorem mapPut_old {n : Int} {v : SE} : ∀ (ks : List Int) (us : List SE) (i : Nat), ks.length = us.length → ks[i]? = some n → n ∉ ks.take i → mapPut n v ks us = (ks, us.set i v) := by
  intro ks
  induction ks with
  | nil => intro us i _ h; simp at h
  | cons k ks ih =>
    intro us i h hi hn
    cases us with
    | nil => simp at h
    | cons u us =>
      simp only [List.length_cons, Nat.add_right_cancel_iff] at h
      cases i with
      | zero => simp at hi; simp [mapPut, hi]
      | succ i =>
        simp only [List.take_succ_cons, List.mem_cons, not_or] at hn
        simp only [List.getElem?_cons_succ] at hi
        simp only [mapPut, if_neg (Ne.symm hn.1), ih us i h hi hn.2, List.set_cons_succ]

theorem op_insert (hm : Mem n0 w0 c ρ O nenv w) {t kt vt : TypeId} {x k v : Operand} {e : SE} {i : Nat} {kk : IntKind} {n : Int} {ks : List Int} {us : List SE} (ho : o.op = .insert t x k v)
    (ht : P.underlying t = some (.map kt vt)) (hkt : P.underlying kt = some (.int kk)) (hx : Rv c (.mref i) (a.eval x)) (hk : a.eval k = .int kk n) (hv : Rv c (den ρ e) (a.eval v)) (hl : O i = some (.mapo kk ks us))
    (hwf : SE.wfs nenv O.dom (mapPut n e ks us).2 = true) :
    OpGo P ro n0 w0 c ρ O .undef (O.upd i (.mapo kk (mapPut n e ks us).1 (mapPut n e ks us).2)) nenv o a w := by
  intro nn next Q hn
  obtain ⟨es, clk, hb, hks, hvs⟩ := hm.ok i _ hl
  have hve : a.eval x = .map (some (c.β i)) := by generalize a.eval x = vx at hx; cases hx; rfl
  have hlk : ks.length = es.length := by have := congrArg List.length hks; simpa using this.symm
  have hlu : ks.length = us.length := by have := hvs.length; rw [dens_length] at this; simp at this; omega
  have hfr := hm.fresh i _ (c.β i) hl rfl
  have hck : ∀ (b : Bool), (Instr.checkKey b 10000 kt (.int kk n)).run P w = .ok () w := fun b => MapKept.run_checkKey hkt (by simp [MapKept.IsKey]) b 9999
  have hother : ∀ (ob : Obj) k, k ≠ c.β i → ({ w with heap := w.heap.setIfInBounds (c.β i) ob } : World).heap[k]? = w.heap[k]? := by
    intro ob k hk
    simp only
    rw [Array.getElem?_setIfInBounds]
    rw [if_neg (Ne.symm hk)]
  have hself : ∀ (ob : Obj), ({ w with heap := w.heap.setIfInBounds (c.β i) ob } : World).heap[c.β i]? = some ob := by
    intro ob
    simp only
    rw [Array.getElem?_setIfInBounds, if_pos rfl, if_pos hfr.2]
  have hmem : ∀ (es' : List MapEntry) (clk' : Nat), es'.map (·.key) = (mapPut n e ks us).1.map (Value.int kk) → Rvs c (dens ρ (mapPut n e ks us).2) (es'.map (·.val)) →
      Mem n0 w0 c ρ (O.upd i (.mapo kk (mapPut n e ks us).1 (mapPut n e ks us).2)) nenv { w with heap := w.heap.setIfInBounds (c.β i) (.map ⟨es'⟩ clk') } := by
    intro es' clk' h1 h2
    exact hm.turn hl rfl rfl hwf ⟨es', clk', hself _, h1, h2⟩ (hother _) (by simp) rfl rfl rfl
  refine wpIn_run (by rw [ho]; intro c h; cases h) ?_
  rcases findNow_ints (kk := kk) (k := kk) (n := n) es ks 0 hks with ⟨h1, h2⟩ | ⟨j, m, h1, h2, h3, h4⟩
  · have hput := mapPut_new (v := e) ks us hlu h1
    have hrun : (execOp a.eval o).run P w = .ok .skip { w with heap := w.heap.setIfInBounds (c.β i) (.map ⟨es ++ [{ key := .int kk n, val := a.eval v, born := clk }]⟩ (clk + 1)) } := by
      simp only [execOp, ho, Sem.run_bind, Instr.mapUpdate, run_underlying ht, Result.andThen_ok, hve, MapKept.run_getObj_map hb, hk, hck, MapKept.run_findKey hkt h2, MapKept.run_setObj_map _ hb, Sem.run_pure]
      simp
    rw [hrun]
    refine hn _ _ _ (Cx.Keeps.refl _ _) (.undef _ (fun _ h => by cases h)) (hmem _ _ ?_ ?_)
    · rw [hput]; simp [hks]
    · rw [hput]; simp only [dens_append, List.map_append]; exact hvs.append (.cons _ _ _ _ hv .nil)
  · have hput := mapPut_old (v := e) ks us j hlu h2 h3
    have hmk : m.key = .int kk n := by
      have := congrArg (fun l => l[j]?) hks
      simp only [List.getElem?_map, h1, h2, Option.map_some, Option.some.injEq] at this
      exact this
    rw [Nat.zero_add] at h4
    have hjl : j < es.length := (List.getElem?_eq_some_iff.1 h1).1
    have hrun : (execOp a.eval o).run P w = .ok .skip { w with heap := w.heap.setIfInBounds (c.β i) (.map ⟨es.modify j fun m => { m with key := .int kk n, val := a.eval v }⟩ clk) } := by
      simp only [execOp, ho, Sem.run_bind, Instr.mapUpdate, run_underlying ht, Result.andThen_ok, hve, MapKept.run_getObj_map hb, hk, hck, MapKept.run_findKey hkt h4, Sem.run_pure]
      have hkeep : (Instr.keyThatStays (((⟨es⟩ : Array MapEntry)[j]?.map (·.key)).getD (.int kk n)) (.int kk n)).run P w = .ok (.int kk n) w := by
        simp only [List.getElem?_toArray, h1, Option.map_some, Option.getD_some, hmk]
        simp [Instr.keyThatStays, Instr.sameBits]
      simp only [hkeep, Result.andThen_ok, MapKept.run_setObj_map _ hb]
      simp
    rw [hrun]
    refine hn _ _ _ (Cx.Keeps.refl _ _) (.undef _ (fun _ h => by cases h)) (hmem _ _ ?_ ?_)
    · rw [hput]
      apply List.ext_getElem?
      intro q
      have hq := congrArg (fun l => l[q]?) hks
      simp only [List.getElem?_map] at hq
      simp only [List.getElem?_map, List.getElem?_modify]
      by_cases hqj : j = q
      · subst hqj
        simp [h1, h2]
      · simp [hqj]; exact hq
    · rw [hput]
      have e1 : (es.modify j fun m => { m with key := .int kk n, val := a.eval v }).map (·.val) = (es.map (·.val)).set j (a.eval v) := by
        apply List.ext_getElem?
        intro q
        simp only [List.getElem?_map, List.getElem?_modify, List.getElem?_set]
        by_cases hqj : j = q
        · subst hqj; simp [h1, hjl]
        · simp [hqj]
      have e2 : dens ρ (us.set j e) = (dens ρ us).set j (den ρ e) := by simp [dens_map]
      rw [e1, e2]
      exact hvs.set j hv

theorem den_lookChain (key : SE) {k : IntKind} {n : Int} (hk : den ρ key = .int k n) (z : SE) : ∀ (ks : List Int) (us : List SE), ks.length = us.length →
    (n ∉ ks ∧ den ρ (lookChain key k ks us z) = den ρ z) ∨ (∃ i u, us[i]? = some u ∧ ks[i]? = some n ∧ n ∉ ks.take i ∧ den ρ (lookChain key k ks us z) = den ρ u) := by
  intro ks
  induction ks with
  | nil => intro us h; cases us with
    | nil => exact .inl ⟨by simp, rfl⟩
    | cons => simp at h
  | cons m ks ih =>
    intro us h
    cases us with
    | nil => simp at h
    | cons u us =>
      simp only [List.length_cons, Nat.add_right_cancel_iff] at h
      by_cases hmn : n = m
      · subst hmn
        refine .inr ⟨0, u, rfl, rfl, by simp, ?_⟩
        simp [lookChain, hk, pv]
      · have hb : (n == m) = false := by simpa using hmn
        rcases ih us h with ⟨h1, h2⟩ | ⟨i, u', h1, h2, h3, h4⟩
        · refine .inl ⟨by simp [hmn, h1], ?_⟩
          simp [lookChain, hk, pv, hb, h2]
        · refine .inr ⟨i + 1, u', by simpa using h1, by simpa using h2, by simp [hmn, h3], ?_⟩
          simp [lookChain, hk, pv, hb, h4]

/-- The zero value of a type of one cell. -/
def zero1 (P : Program) (t : TypeId) : Option SE :=
  match P.info? t with
  | some i => match i.zero with
    | some v => seOf v
    | none => none
  | none => none
theorem zero1_sound {t : TypeId} {e : SE} (h : zero1 P t = some e) : ∃ v, (zeroValue t).run P w = .ok v w ∧ Rv c (den ρ e) v := by
  unfold zero1 at h
  split at h
  · rename_i i hi
    split at h
    · rename_i v hv
      exact ⟨v, by simp [zeroValue, run_typeInfo hi, hv], seOf_sound c ρ v e h⟩
    · cases h
  · cases h

theorem run_lookup0 {t kt vt : TypeId} {key z : SE} {b : Nat} {kk : IntKind} {ks : List Int} {us : List SE} {es : List MapEntry} {clk : Nat} {vk : Value}
    (ht : P.underlying t = some (.map kt vt)) (hkt : P.underlying kt = some (.int kk)) (hb : w.heap[b]? = some (.map ⟨es⟩ clk)) (hks : es.map (·.key) = ks.map (Value.int kk)) (hvs : Rvs c (dens ρ us) (es.map (·.val))) (hk : Rv c (den ρ key) vk)
    (hz : zero1 P vt = some z) (hkey : ∃ n, den ρ key = .int kk n) : Runs P w c (den ρ (lookChain key kk ks us z)) (Instr.lookup t (.map (some b)) vk false) := by
  obtain ⟨n, hkn⟩ := hkey
  have hlu : ks.length = us.length := by have := hvs.length; rw [dens_length] at this; have h2 := congrArg List.length hks; simp at this h2; omega
  rw [hkn] at hk
  cases hk
  have hck : ∀ (b : Bool), (Instr.checkKey b 10000 kt (.int kk n)).run P w = .ok () w := fun b => MapKept.run_checkKey hkt (by simp [MapKept.IsKey]) b 9999
  obtain ⟨zv, z1, hzr⟩ := zero1_sound (w := w) (c := c) (ρ := ρ) hz
  have hfn := findNow_ints (kk := kk) (k := kk) (n := n) es ks 0 hks
  have hlc := den_lookChain key hkn z ks us hlu
  rcases hfn with ⟨h1, h2⟩ | ⟨j, m, h1, h2, h3, h4⟩
  · rcases hlc with ⟨_, h5⟩ | ⟨i', u, _, h6, _⟩
    · refine ⟨zv, ?_, by rw [h5]; exact hzr⟩
      simp only [Instr.lookup, Sem.run_bind, run_underlying ht, Result.andThen_ok, MapKept.run_getObj_map hb, Sem.run_pure, hck, MapKept.run_findKey hkt h2, z1]
      rfl
    · exact absurd (List.mem_of_getElem? h6) h1
  · rcases hlc with ⟨h5, _⟩ | ⟨i', u, h5, h6, h7, h8⟩
    · exact absurd (List.mem_of_getElem? h2) h5
    · have hij : i' = j := by
        rcases Nat.lt_trichotomy i' j with hlt | he | hlt
        · exfalso; apply h3; exact List.mem_of_getElem? (i := i') (by rw [List.getElem?_take, if_pos hlt]; exact h6)
        · exact he
        · exfalso; apply h7; exact List.mem_of_getElem? (i := j) (by rw [List.getElem?_take, if_pos hlt]; exact h2)
      subst hij
      obtain ⟨v, hv, hr⟩ := hvs.get (i := i') (a := den ρ u) (by rw [dens_getElem?, h5]; rfl)
      simp only [List.getElem?_map, h1, Option.map_some, Option.some.injEq] at hv
      subst hv
      refine ⟨m.val, ?_, by rw [h8]; exact hr⟩
      simp only [Instr.lookup, Sem.run_bind, run_underlying ht, Result.andThen_ok, MapKept.run_getObj_map hb, Sem.run_pure, hck, MapKept.run_findKey hkt h4]
      rfl

theorem run_lookup (hm : Mem n0 w0 c ρ O nenv w) {t kt vt : TypeId} {key z : SE} {i : Nat} {kk : IntKind} {ks : List Int} {us : List SE} {vx vk : Value}
    (ht : P.underlying t = some (.map kt vt)) (hkt : P.underlying kt = some (.int kk)) (hx : Rv c (.mref i) vx) (hk : Rv c (den ρ key) vk) (hl : O i = some (.mapo kk ks us))
    (hz : zero1 P vt = some z) (hkey : ∃ n, den ρ key = .int kk n) : Runs P w c (den ρ (lookChain key kk ks us z)) (Instr.lookup t vx vk false) := by
  obtain ⟨es, clk, hb, hks, hvs⟩ := hm.ok i _ hl
  cases hx
  exact run_lookup0 ht hkt hb hks hvs hk hz hkey

/-- Of an immutable map. -/
theorem run_lookup_mp (hm : Mem n0 w0 c ρ O nenv w) {t kt vt : TypeId} {key z : SE} {kk : IntKind} {ks : List Int} {us : List SE} {vx vk : Value}
    (ht : P.underlying t = some (.map kt vt)) (hkt : P.underlying kt = some (.int kk)) (hx : Rv c (.mp kk ks (dens ρ us)) vx) (hk : Rv c (den ρ key) vk)
    (hz : zero1 P vt = some z) (hkey : ∃ n, den ρ key = .int kk n) : Runs P w c (den ρ (lookChain key kk ks us z)) (Instr.lookup t vx vk false) := by
  cases hx with
  | mp _ _ _ b clk es h1 h2 h3 => exact run_lookup0 ht hkt (hm.imm.M _ _ h1) h2 h3 hk hz hkey


end Go.Lb

namespace Go.Lb
open Go.RowKit

/-! ### What is asked ahead of an operation -/
def setEnv (ρ : Nat → AV) (n : Nat) (v : AV) : Nat → AV := fun i => if i = n then v else ρ i
theorem setEnv_agree (ρ : Nat → AV) (n : Nat) (v : AV) : Agree n ρ (setEnv ρ n v) := fun i hi => by simp [setEnv, show i ≠ n from by omega]
theorem setEnv_pure {ρ : Nat → AV} (h : ∀ i, (ρ i).pure = true) (n : Nat) {v : AV} (hv : v.pure = true) : ∀ i, (setEnv ρ n v i).pure = true := by
  intro i; unfold setEnv; split
  · exact hv
  · exact h i
theorem setEnv_same (ρ : Nat → AV) (n : Nat) (v : AV) : setEnv ρ n v n = v := by simp [setEnv]

inductive Nd where
  | chk (pcs : List (SE × Bool)) (o : PF) (args : List SE)
  | call (n : Nat) (pcs : List (SE × Bool)) (f : Nat) (args : List SE) (borrow : Bool)
  | isNil (n : Nat) (pcs : List (SE × Bool)) (e : SE)
  | same (n : Nat) (pcs : List (SE × Bool)) (e : SE)
  /-- A row of integers is sorted. -/
  | srt (n : Nat) (e : SE)
  /-- Of a row of integers what differs from the one before it. -/
  | cmp (n : Nat) (e : SE)
  /-- A name for what a thing comes to. -/
  | bind (n : Nat) (e : SE)
  deriving Inhabited, Repr

/-- In order. -/
def sortI (l : List Int) : List Int := l.mergeSort fun x y => decide (x ≤ y)
/-- What differs from the one before it. -/
def compactI (l : List Int) : List Int := Go.Lib.compact l
theorem compactI_le (l : List Int) : (compactI l).length ≤ l.length := by
  unfold compactI Go.Lib.compact Go.Lib.compactUpTo
  rw [List.length_map]
  exact Nat.le_trans (List.length_filter_le _ _) (by simp)

/-- What a run of questions comes to. -/
def SegWp (P : Program) (G : Glob) (ρ : Nat → AV) : List Nd → ((Nat → AV) → Prop) → Prop
  | [], K => K ρ
  | .chk pcs o args :: ns, K => (Holds ρ pcs → pok o (dens ρ args)) ∧ SegWp P G ρ ns K
  | .call n pcs f args b :: ns, K => ∃ r, r.pure = true ∧ (Holds ρ pcs → Contract P G f (dens ρ args) r ∧ (b = true → r.scalar = true)) ∧ SegWp P G (setEnv ρ n r) ns K
  | .same n pcs e :: ns, K => (Holds ρ pcs → ρ n = den ρ e) ∧ SegWp P G ρ ns K
  | .srt n e :: ns, K => ∃ l : List Int, l.length ≤ 4294967296 ∧ den ρ e = .sl (l.map (AV.int .i64)) ∧ SegWp P G (setEnv ρ n (.sl ((sortI l).map (AV.int .i64)))) ns K
  | .cmp n e :: ns, K => ∃ l : List Int, l.length ≤ 4294967296 ∧ den ρ e = .sl (l.map (AV.int .i64)) ∧ SegWp P G (setEnv ρ n (.sl ((compactI l).map (AV.int .i64)))) ns K
  | .bind n e :: ns, K => SegWp P G (setEnv ρ n (den ρ e)) ns K
  | .isNil n pcs e :: ns, K => ∀ b, (Holds ρ pcs → b = true → den ρ e = .sl []) → SegWp P G (setEnv ρ n (.bool b)) ns K

def chkNds (pcs : List (SE × Bool)) (ck : List Chk) : List Nd := ck.map fun x => .chk pcs x.1 x.2

theorem SegWp.chks {P : Program} {G : Glob} {ρ : Nat → AV} {pcs : List (SE × Bool)} {K : (Nat → AV) → Prop} : ∀ {ck : List Chk} {ns : List Nd}, SegWp P G ρ (chkNds pcs ck ++ ns) K →
    (Holds ρ pcs → Chks ρ ck) ∧ SegWp P G ρ ns K := by
  intro ck
  induction ck with
  | nil => intro ns h; exact ⟨fun _ x hx => (by cases hx), h⟩
  | cons x ck ih =>
    intro ns h
    obtain ⟨h1, h2⟩ := h
    obtain ⟨h3, h4⟩ := ih h2
    refine ⟨fun hp y hy => ?_, h4⟩
    rcases List.mem_cons.1 hy with rfl | hy
    · exact h1 hp
    · exact h3 hp y hy

structure Step where
  val : SE
  dl : List (Nat × OS)
  ck : List Chk
  /-- A call by contract. -/
  call : Option (Nat × List SE × Bool)
  /-- A slice against nil. -/
  nil : Option SE
  deriving Inhabited, Repr

def Step.nenv (s : Step) (n : Nat) : Nat := if s.call.isSome || s.nil.isSome then n + 1 else n
def Step.nodes (s : Step) (n : Nat) (pcs : List (SE × Bool)) : List Nd :=
  chkNds pcs s.ck ++ match s.call, s.nil with
    | some (f, args, b), _ => [.call n pcs f args b]
    | none, some e => [.isNil n pcs e]
    | none, none => []

def upds (L : Lk) (dl : List (Nat × OS)) : Lk := dl.foldl (fun L x => L.upd x.1 x.2) L

def sStore (P : Program) (L : Lk) (nenv : Nat) (T : TypeId) (ax e : SE) : Option (List (Nat × OS) × List Chk) :=
  match tsz P T with
  | none => none
  | some (k, g) =>
    if g = false → k = 1 then
      match ax with
      | .ptr i off => match L i with
        | some (.box cs) => if off + k ≤ cs.length ∧ SE.wfs nenv L.dom (cellsN k g e).1 = true then some ([(i, .box (putL cs off (cellsN k g e).1))], (cellsN k g e).2) else none
        | _ => none
      | .ptrx i base idx len sz off => match L i with
        | some (.box cs) =>
          if base + len * sz ≤ cs.length ∧ off + k ≤ sz ∧ SE.wfs nenv L.dom (cs.zipIdx.map fun (u, j) => if base ≤ j ∧ j < base + len * sz then .app (.cellset base len sz off k j) [idx, u, .agg (cellsN k g e).1] else u) = true then
            some ([(i, .box (cs.zipIdx.map fun (u, j) => if base ≤ j ∧ j < base + len * sz then .app (.cellset base len sz off k j) [idx, u, .agg (cellsN k g e).1] else u))], (.inr len, [idx]) :: (cellsN k g e).2)
          else none
        | _ => none
      | .rptr i idx sz off => match L i with
        | some (.row sz' ec) =>
          if sz' = sz ∧ (SE.app (.rowset sz off k) [ec, idx, .agg (cellsN k g e).1]).wf nenv L.dom = true then
            some ([(i, .row sz (.app (.rowset sz off k) [ec, idx, .agg (cellsN k g e).1]))], (.rowset sz off k, [ec, idx, .agg (cellsN k g e).1]) :: (cellsN k g e).2)
          else none
        | _ => none
      | _ => none
    else none

/-- A row's content. -/
def rowSE (L : Lk) (sz : Nat) : SE → Option SE
  | .row j => match L j with
    | some (.row sz' e) => if sz' = sz then some e else none
    | _ => none
  | e => some e

def sAppend (P : Program) (L : Lk) (nenv nid : Nat) (sT xT : TypeId) (x1 x2 : SE) : Option (SE × List (Nat × OS) × List Chk) :=
  match P.underlying sT, P.underlying xT with
  | some (.slice elem), some (.slice _) => match tsz P elem, P.info? elem with
    | some (sz, _), some i => match i.zero, rowSE L sz x2 with
      | some z, some ey =>
        if i.bytes ≤ 16384 ∧ z.cells.size = sz then
          match x1 with
          | .row j => match L j with
            | some (.row sz' ec) => if sz' = sz ∧ (SE.app .app [ec, ey]).wf nenv L.dom = true then
                some (.row nid, [(j, .gone), (nid, .row sz (.app .app [ec, ey]))], [(.szs sz, [ey]), (.app, [ec, ey])]) else none
            | _ => none
          | .enil => if (SE.app .app [.nils, ey]).wf nenv L.dom = true then
              some (.row nid, [(nid + 1, .row sz .nils), (nid + 1, .gone), (nid, .row sz (.app .app [.nils, ey]))], [(.szs sz, [ey]), (.app, [.nils, ey])]) else none
          | _ => none
        else none
      | _, _ => none
    | _, _ => none
  | _, _ => none

/-- As many zeros appended to nothing. -/
def sAppendMake (P : Program) (L : Lk) (nenv nid : Nat) (sT xT : TypeId) (x1 n : SE) : Option (SE × List (Nat × OS) × List Chk) :=
  match P.underlying xT, x1 with
  | some (.int _), .enil => match makeSliceSE P sT n with
    | some (sz, e, ck) => if e.wf nenv L.dom = true then some (.row nid, [(nid, .row sz e)], ck) else none
    | none => none
  | _, _ => none

/-- Cells behind a copy into them, from the first one on. -/
def copyCells (e : SE) : Nat → List SE → List SE
  | _, [] => []
  | j, u :: us => .app .pick [.app (.bin .lss) [.int .i64 j, .app .len [e]], .app (.rowget 1 0 1 false) [e, .int .i64 j], u] :: copyCells e (j + 1) us

/-- One operation: what it comes to. -/
def sOp (P : Program) (L : Lk) (xv : Ev) (nenv nid : Nat) (op : Op) : Option Step :=
  match sPure P L xv op with
  | some (e, ck) => some ⟨e, [], ck, none, none⟩
  | none =>
    match op with
    | .nilCheck x => match xv x with
      | some (.ptr i k) => some ⟨.ptr i k, [], [], none, none⟩
      | some (.ref cs k) => some ⟨.ref cs k, [], [], none, none⟩
      | some (.clo f x y) => some ⟨.clo f x y, [], [], none, none⟩
      | _ => none
    | .box T x => match xv x, tsz P T with
      | some e, some (k, g) => if (g = false → k = 1) ∧ SE.wfs nenv L.dom (cellsN k g e).1 = true then some ⟨.ptr nid 0, [(nid, .box (cellsN k g e).1)], (cellsN k g e).2, none, none⟩ else none
      | _, _ => none
    | .alloc T => match zeroSE P T with
      | some cs => some ⟨.ptr nid 0, [(nid, .box cs)], [], none, none⟩
      | none => none
    | .store T x y => match xv x, xv y with
      | some ax, some e => (sStore P L nenv T ax e).map fun r => ⟨.undef, r.1, r.2, none, none⟩
      | _, _ => none
    | .buildSlice t len parts => match evAll (wk xv) (parts.toList.map (·.2)) with
      | some es => match buildSliceSE P t len ((parts.toList.map (·.1)).zip es) with
        | some (sz, e, ck) => if e.wf nenv L.dom = true then some ⟨.row nid, [(nid, .row sz e)], ck, none, none⟩ else none
        | none => none
      | none => none
    | .makeSlice t l m => match wk xv l, wk xv m with
      | some n, some n' => if SE.beq n n' = true then match makeSliceSE P t n with
        | some (sz, e, ck) => if e.wf nenv L.dom = true then some ⟨.row nid, [(nid, .row sz e)], ck, none, none⟩ else none
        | none => none else none
      | _, _ => none
    | .makeMap t none => match P.underlying t with
      | some (.map kt _) => match P.underlying kt with
        | some (.int k) => some ⟨.mref nid, [(nid, .mapo k [] [])], [], none, none⟩
        | _ => none
      | _ => none
    | .insert t x k v => match xv x, k, wk xv v, P.underlying t with
      | some (.mref i), .const (.int kk n), some e, some (.map kt _) => match L i, P.underlying kt with
        | some (.mapo kk' ks us), some (.int kk'') =>
          if kk' = kk ∧ kk'' = kk ∧ SE.wfs nenv L.dom (mapPut n e ks us).2 = true then some ⟨.undef, [(i, .mapo kk (mapPut n e ks us).1 (mapPut n e ks us).2)], [], none, none⟩ else none
        | _, _ => none
      | _, _, _, _ => none
    | .lookup t x k false => match xv x, wk xv k, P.underlying t with
      | some (.mref i), some key, some (.map kt vt) => match L i, P.underlying kt, zero1 P vt with
        | some (.mapo kk ks us), some (.int kk'), some z =>
          if kk' = kk then some ⟨lookChain key kk ks us z, [], [(.bin .eql, [key, .int kk 0])], none, none⟩ else none
        | _, _, _ => none
      | some (.mp kk ks us), some key, some (.map kt vt) => match P.underlying kt, zero1 P vt with
        | some (.int kk'), some z =>
          if kk' = kk then some ⟨lookChain key kk ks us z, [], [(.bin .eql, [key, .int kk 0])], none, none⟩ else none
        | _, _ => none
      | _, _, _ => none
    | .call { callee := .builtin .append, args := ⟨[x1, x2]⟩, argTypes := ⟨[sT, xT]⟩ } => match xv x1, wk xv x2 with
      | some e1, some e2 => match sAppendMake P L nenv nid sT xT e1 e2 with
        | some r => some ⟨r.1, r.2.1, r.2.2, none, none⟩
        | none => (sAppend P L nenv nid sT xT e1 e2).map fun r => ⟨r.1, r.2.1, r.2.2, none, none⟩
      | _, _ => none
    | .call { callee := .value f, args := xs, argTypes := _ } => match wk xv f, evAll (wk xv) xs.toList with
      | some (.clo fid fs cs), some es =>
        if callOk P fid = true then
          match viewSEs L 200 (fs ++ es ++ cs) with
          | some vs => if SE.wfs nenv L.dom vs = true then some ⟨.inp nenv, [], [], some (fid, vs, !SE.noOwns (fs ++ es ++ cs)), none⟩ else none
          | none => none
        else none
      | _, _ => none
    | .binOp op t x y _ => match xv x, y, P.underlying t with
      | some e, .const (.slice none 0 0), some (.slice _) =>
        match op with
        | .eql => match e with
          | .enil => some ⟨.bool true, [], [], none, none⟩
          | .row i => match L i with
            | some (.row _ ec) => some ⟨.inp nenv, [], [], none, some ec⟩
            | _ => none
          | e => some ⟨.inp nenv, [], [(.len, [e])], none, some e⟩
        | _ => none
      | _, _, _ => none
    | .slice T x none (some hi) none => match xv x, wk xv hi, P.underlying T with
      | some (.row i), some h, some (.slice e) => match L i, tsz P e with
        | some (.row sz ec), some (sz', _) => if sz' = sz ∧ (SE.app (.slice false true) [ec, h]).wf nenv L.dom = true then
            some ⟨.row nid, [(i, .gone), (nid, .row sz (.app (.slice false true) [ec, h]))], [(.slice false true, [ec, h])], none, none⟩ else none
        | _, _ => none
      | _, _, _ => none
    | .slice T x none (some h) (some m) => match wk xv x, wk xv h, wk xv m, P.underlying T with
      | some e, some (.int _ 0), some (.int _ 0), some (.slice el) => match tsz P el with
        | some (sz, _) => some ⟨.row nid, [(nid, .row sz .nils)], [(.len, [e])], none, none⟩
        | none => none
      | _, _, _, _ => none
    | .slice T x none none none => match xv x, P.underlying T with
      | some (.ptr i 0), some (.array len el) => match L i, tsz P el with
        | some (.box cs), some (1, _) => if cs.length = len ∧ 0 < len ∧ L.dom i = true then some ⟨.row i, [], [], none, none⟩ else none
        | _, _ => none
      | _, _ => none
    | .call { callee := .builtin .copy, args := ⟨[x1, x2]⟩, argTypes := ⟨[sT, _]⟩ } => match xv x1, wk xv x2, P.underlying sT with
      | some (.row i), some e, some (.slice el) => match L i, tsz P el with
        | some (.box cs), some (1, _) => if SE.wfs nenv L.dom (copyCells e 0 cs) = true then some ⟨.undef, [(i, .box (copyCells e 0 cs))], [(.szs 1, [e])], none, none⟩ else none
        | _, _ => none
      | _, _, _ => none
    | _ => none

variable {P : Program} {G : Glob} {ro : Option Nat} {n0 : Nat} {w0 : Base} {c : Cx} {ρ : Nat → AV} {L : Lk} {nenv : Nat} {o : Oper} {a : Act} {w : World}

theorem Mem.env (hm : Mem n0 w0 c ρ L nenv w) (hn0 : n0 ≤ w.heap.size) {ρ' : Nat → AV} (ha : Agree nenv ρ ρ') (hρ : ∀ i, (ρ' i).pure = true) : Mem n0 w0 c ρ' L nenv w :=
  hm.later (Nat.le_refl _) (Below.refl _ _) hn0 (Cx.Keeps.refl _ _) hm.imm (fun _ _ => ⟨fun _ _ h => h, fun _ h => h⟩) hm.immlt ha hρ

theorem OpGo.mono_nenv {e : SE} {L' : Lk} {n n' : Nat} (h : OpGo P ro n0 w0 c ρ L e L' n o a w) (hn : n ≤ n') : OpGo P ro n0 w0 c ρ L e L' n' o a w := by
  intro k next Q hk
  refine h k next Q (fun v w' c' h1 h2 h3 => hk v w' c' h1 h2 ?_)
  exact ⟨h3.imm, h3.pure, fun i o hl => OS.wf_mono hn (fun _ h => h) (h3.wf i o hl), h3.ok, h3.dist, h3.fresh, h3.disj, h3.immlt, h3.below, h3.old⟩

/-- A store goes through. -/
theorem sStore_sound (hm : Mem n0 w0 c ρ L nenv w) {T : TypeId} {x y : Operand} {ax e : SE} {dl : List (Nat × OS)} {ck : List Chk} (ho : o.op = .store T x y) (hx : Rv c (den ρ ax) (a.eval x)) (hy : Rv c (den ρ e) (a.eval y))
    (h : sStore P L nenv T ax e = some (dl, ck)) (hck : Chks ρ ck) : OpGo P ro n0 w0 c ρ L .undef (upds L dl) nenv o a w := by
  unfold sStore at h
  split at h
  · cases h
  · rename_i k g ht
    split at h
    case isFalse => cases h
    rename_i hg
    split at h
    · rename_i i off
      split at h
      · rename_i cs hl
        split at h
        · rename_i hc
          simp only [Option.some.injEq, Prod.mk.injEq] at h
          obtain ⟨rfl, rfl⟩ := h
          exact op_store_box hm ho hx hy ht hg hck hl hc.1 hc.2
        · cases h
      · cases h
    · rename_i i base idx len sz off
      split at h
      · rename_i cs hl
        split at h
        · rename_i hc
          simp only [Option.some.injEq, Prod.mk.injEq] at h
          obtain ⟨rfl, rfl⟩ := h
          rw [Chks.cons] at hck
          exact op_store_ptrx hm ho hx hy ht hg hck.2 hl hc.1 (by simpa using hck.1) hc.2.1 hc.2.2
        · cases h
      · cases h
    · rename_i i idx sz off
      split at h
      · rename_i sz' ec hl
        split at h
        · rename_i hc
          obtain ⟨rfl, hwf⟩ := hc
          simp only [Option.some.injEq, Prod.mk.injEq] at h
          obtain ⟨rfl, rfl⟩ := h
          rw [Chks.cons] at hck
          exact op_store_rptr hm ho hx hy ht hg hck.2 hl (by simpa using hck.1) hwf
        · cases h
      · cases h
    · cases h

theorem sAppend_sound (hm : Mem n0 w0 c ρ L nenv w) (hn0 : n0 ≤ w.heap.size) {x1 x2 : Operand} {sT xT nid : Nat} {e1 e2 : SE} {r : SE × List (Nat × OS) × List Chk} (hid : L nid = none) (hid1 : L (nid + 1) = none)
    (ho : o.op = .call { callee := .builtin .append, args := ⟨[x1, x2]⟩, argTypes := ⟨[sT, xT]⟩ }) (h1 : Rv c (den ρ e1) (a.eval x1)) (h2 : Rv c (den ρ e2) (a.eval x2))
    (h : sAppend P L nenv nid sT xT e1 e2 = some r) (hck : Chks ρ r.2.2) : OpGo P ro n0 w0 c ρ L r.1 (upds L r.2.1) nenv o a w := by
  unfold sAppend at h
  split at h
  case h_2 => cases h
  rename_i elem elem2 hu1 hu2
  split at h
  case h_2 => cases h
  rename_i sz g i ht hi
  split at h
  case h_2 => cases h
  rename_i z ey hz hey
  split at h
  case isFalse => cases h
  rename_i hc
  have he : ElemOk P sT elem sz := ⟨hu1, ⟨g, ht⟩, i, z, hi, hc.1, hz, hc.2⟩
  have hread : ∀ (ys : List AV), den ρ ey = .sl ys → pok (.szs sz) [den ρ ey] → ∃ us, Readable P c w sz (a.eval x2) ys us := by
    intro ys hys hsz
    rw [hys] at hsz
    simp only [pok] at hsz
    unfold rowSE at hey
    split at hey
    · rename_i j
      split at hey
      · rename_i sz' e' hl
        split at hey
        · rename_i hs
          subst hs
          simp only [Option.some.injEq] at hey; subst hey
          obtain ⟨xs, hx, hrow⟩ := hm.ok j _ hl
          rw [hx] at hys; cases hys
          simp only [den] at h2
          generalize a.eval x2 = v2 at h2
          cases h2 with
          | row _ aa nn cap hh => rw [hh] at hrow; exact readable_row hrow (fun y hy => (hsz y hy).1)
        · cases hey
      · cases hey
    · simp only [Option.some.injEq] at hey; subst hey
      rw [hys] at h2
      exact readable_imm hm.imm h2 (fun y hy => (hsz y hy).1)
  split at h
  · rename_i j
    split at h
    · rename_i sz' ec hl
      split at h
      · rename_i hw
        obtain ⟨rfl, hwf⟩ := hw
        simp only [Option.some.injEq] at h; subst h
        simp only at hck
        have k1 := hck (.szs sz', [ey]) (by simp)
        have k2 := hck (.app, [ec, ey]) (by simp)
        simp only [dens] at k1 k2
        obtain ⟨ys, hys⟩ : ∃ ys, den ρ ey = .sl ys := by
          cases hd : den ρ ey <;> rw [hd] at k1 <;> simp [pok] at k1
          exact ⟨_, rfl⟩
        obtain ⟨us, hr⟩ := hread ys hys k1
        have hv : a.eval x1 = c.h j := by
          simp only [den] at h1
          generalize a.eval x1 = v1 at h1
          cases h1 with
          | row _ aa nn cap hh => exact hh.symm
        exact op_append hm hn0 ho he hu2 hl hv hys hr k1 k2 hwf hid
      · cases h
    · cases h
  · split at h
    · rename_i hwf
      simp only [Option.some.injEq] at h; subst h
      simp only at hck
      have k1 := hck (.szs sz, [ey]) (by simp)
      have k2 := hck (.app, [.nils, ey]) (by simp)
      simp only [dens] at k1 k2
      obtain ⟨ys, hys⟩ : ∃ ys, den ρ ey = .sl ys := by
        cases hd : den ρ ey <;> rw [hd] at k1 <;> simp [pok] at k1
        exact ⟨_, rfl⟩
      obtain ⟨us, hr⟩ := hread ys hys k1
      simp only [den] at h1
      have hv : a.eval x1 = .slice none 0 0 := by
        generalize a.eval x1 = v1 at h1
        cases h1; rfl
      have hm2 := hm.noRow sz hid1 (v := .slice none 0 0) (.inl rfl)
      have hk2 : c.Keeps L.dom (c.seth (nid + 1) (.slice none 0 0)) := c.seth_keeps hid1
      have hid2 : (L.upd (nid + 1) (.row sz .nils)) nid = none := by rw [Lk.upd_other _ _ (by omega)]; exact hid
      have hr2 : Readable P (c.seth (nid + 1) (.slice none 0 0)) w sz (a.eval x2) ys us := ⟨hr.len, hr.cells, by
        have := hr.rel
        refine Rvs_keeps hk2 this ?_
        rw [AV.under_flat]
        have hw : ey.wf nenv L.dom = true := by simpa [SE.wf, SE.wfs] using hwf
        have := den_under hm.pure ey hw
        rwa [hys] at this⟩
      have hgo := op_append (ro := ro) hm2 hn0 ho he hu2 (Lk.upd_same L (nid + 1) _) (by rw [hv]; simp [Cx.seth]) hys hr2 k1 k2 (SE.wf_mono (Nat.le_refl _) (Lk.dom_upd L _ _) hwf) hid2
      intro k next Q hn
      exact hgo k next Q (fun v w' c' q1 q2 q3 => hn v w' c' (hk2.trans (q1.mono (fun i hi => Lk.dom_upd L _ _ i hi))) q2 q3)
    · cases h
  · cases h


theorem wfs_seOfs : ∀ (vs : List Value) (es : List SE), seOfs vs = some es → ∀ (n : Nat) (m : Nat → Bool), SE.wfs n m es = true := by
  intro vs
  induction vs with
  | nil => intro es h n m; simp only [seOfs, Option.some.injEq] at h; subst h; rfl
  | cons v vs ih =>
    intro es h n m
    simp only [seOfs] at h
    split at h
    · rename_i e es' h1 h2
      simp only [Option.some.injEq] at h; subst h
      simp only [SE.wfs, wf_seOf v e h1 n m, ih es' h2 n m, Bool.and_self]
    · cases h
theorem zeroSE_wf {t : TypeId} {es : List SE} (h : zeroSE P t = some es) {n : Nat} {m : Nat → Bool} : SE.wfs n m es = true := by
  unfold zeroSE at h
  split at h
  · split at h
    · split at h
      · exact wfs_seOfs _ _ h n m
      · cases h
    · cases h
  · cases h

theorem OpGo.nilCheck (hm : Mem n0 w0 c ρ L nenv w) {x : Operand} {e : SE} (ho : o.op = .nilCheck x) (hx : Rv c (den ρ e) (a.eval x)) (he : (∃ i k, e = .ptr i k) ∨ (∃ cs k, e = .ref cs k) ∨ ∃ f u v, e = .clo f u v) :
    OpGo P ro n0 w0 c ρ L e L nenv o a w := by
  refine OpGo.runs hm (by rw [ho]; intro c h; cases h) ⟨a.eval x, ?_, hx⟩
  rcases he with ⟨i, k, rfl⟩ | ⟨cs, k, rfl⟩ | ⟨f, u, v, rfl⟩
  · simp only [den] at hx
    generalize hv : a.eval x = vx at hx
    cases hx
    simp only [execOp, ho, hv]; rfl
  · simp only [den] at hx
    generalize hv : a.eval x = vx at hx
    cases hx
    simp only [execOp, ho, hv]; rfl
  · simp only [den] at hx
    generalize hv : a.eval x = vx at hx
    cases hx
    simp only [execOp, ho, hv]; rfl

theorem sAppendMake_sound (hm : Mem n0 w0 c ρ L nenv w) (hn0 : n0 ≤ w.heap.size) {x1 x2 : Operand} {sT xT nid : Nat} {e1 e2 : SE} {r : SE × List (Nat × OS) × List Chk} (hid : L nid = none)
    (ho : o.op = .call { callee := .builtin .append, args := ⟨[x1, x2]⟩, argTypes := ⟨[sT, xT]⟩ }) (h1 : Rv c (den ρ e1) (a.eval x1)) (hl : Rv c (den ρ e2) (a.eval x2))
    (h : sAppendMake P L nenv nid sT xT e1 e2 = some r) (hck : Chks ρ r.2.2) : OpGo P ro n0 w0 c ρ L r.1 (upds L r.2.1) nenv o a w := by
  unfold sAppendMake at h
  split at h
  case h_2 => cases h
  rename_i kx hux
  split at h
  case h_2 => cases h
  rename_i sz e ck hb
  split at h
  case isFalse => cases h
  rename_i hwf
  simp only [Option.some.injEq] at h; subst h
  show OpGo P ro n0 w0 c ρ L (.row nid) (L.upd nid (.row sz e)) nenv o a w
  simp only at hck
  intro k next Q hn
  unfold makeSliceSE at hb
  split at hb
  case h_2 => cases hb
  rename_i el hu
  split at hb
  case h_2 => cases hb
  rename_i sz' g z i ht hz hi
  split at hb
  case isFalse => cases hb
  rename_i hc
  obtain ⟨c1, c2, c3, c4⟩ := hc
  obtain ⟨zz, hzz, rfl⟩ := Option.map_eq_some_iff.1 hz
  obtain ⟨zv, z1, z2⟩ := zeroSE_sound (w := w) (c := c) (ρ := ρ) hzz
  replace z2 := weaks_sound zz z2
  have hzl : zv.cells.size = sz' := by have := z2.length; rw [dens_length, c1] at this; simpa using this
  obtain ⟨ze, hze, hcells⟩ : ∃ ze, (sz, e, ck) = (sz', .app .rep [e2, ze], [(.rep, [e2, ze])]) ∧ (den ρ ze).cells = dens ρ (SE.weaks zz) := by
    split at hb
    · simp only [Option.some.injEq] at hb
      exact ⟨.agg (SE.weaks zz), hb.symm, by simp⟩
    · rename_i _ z1 hzz1
      split at hb
      · rename_i h1
        simp only [Option.some.injEq] at hb
        refine ⟨z1, hb.symm, ?_⟩
        rw [hzz1]
        have := SE.sure1_one (ρ := ρ) h1
        simp only [dens]
        cases hd : den ρ z1 <;> simp_all
      · cases hb
    · cases hb
  simp only [Prod.mk.injEq] at hze
  obtain ⟨rfl, rfl, rfl⟩ := hze
  have hk := hck.one
  simp only [dens] at hk
  cases hdn : den ρ e2 with
  | int kk num =>
    rw [hdn] at hk hl
    simp only [pok] at hk
    obtain ⟨k0, k1, k2⟩ := hk
    obtain ⟨q, rfl⟩ : ∃ q : Nat, num = q := ⟨num.toNat, by omega⟩
    have hden : den ρ (.app .rep [e2, ze]) = .sl (List.replicate q (den ρ ze)) := by simp only [den, dens, hdn, pv, Int.toNat_natCast]
    have hlc : (den ρ ze).cells.length = sz := by rw [hcells, dens_length, c1]
    have hflat : Rvs c (AV.flat (List.replicate q (den ρ ze))) (Builtin.zeroCells zv.cells q).toList := by
      unfold Builtin.zeroCells
      rw [flat_replicate, hcells, range_mod_toList]; exact Rvs_replicate z2 q
    have hvl : a.eval x2 = .int kk q := by generalize a.eval x2 = v at hl; cases hl; rfl
    have hv1 : a.eval x1 = .slice none 0 0 := by simp only [den] at h1; generalize a.eval x1 = v at h1; cases h1; rfl
    have hi0 : i.zero = some zv := by
      simp only [zeroValue, Sem.run_bind, run_typeInfo hi, Result.andThen_ok] at z1
      split at z1
      · rename_i z0 h0
        simp only [Sem.run_pure, Result.ok.injEq] at z1
        rw [h0, z1.1]
      · cases z1
    have hzv : ∀ w' : World, (zeroValue el).run P w' = .ok zv w' := fun w' => by simp [zeroValue, run_typeInfo hi, hi0]
    have hw := wrap_small k0 k1
    have hb48 : ¬ (q : Int) * (i.bytes : Int) > 2 ^ 48 := by
      have h1 : q * i.bytes ≤ 4294967296 * 16384 := Nat.mul_le_mul (by omega) c4
      have h2 : ((q * i.bytes : Nat) : Int) = (q : Int) * i.bytes := Int.natCast_mul _ _
      have h3 : (2 : Int) ^ 48 = 281474976710656 := by decide
      rw [h3, ← h2]; omega
    have hd : ∀ cc, o.op ≠ .defer cc := by rw [ho]; intro c h; cases h
    have hex : ∀ v w', (Builtin.append_ #[sT, xT] o.type #[.slice none 0 0, .int kk q]).run P w = .ok v w' → (execOp a.eval o).run P w = .ok (.value v) w' := by
      intro v w' hrun
      simp only [execOp, ho, Sem.run_bind, resolve, Sem.run_pure, Result.andThen_ok, invoke, builtin]
      have : (⟨[x1, x2]⟩ : Array Operand).map a.eval = #[.slice none 0 0, .int kk q] := by rw [← hv1, ← hvl]; exact Array.ext' (by simp)
      rw [this, hrun]; rfl
    rcases Nat.eq_zero_or_pos q with h0 | h0
    · subst h0
      have hrun : (Builtin.append_ #[sT, xT] o.type #[.slice none 0 0, .int kk ((0 : Nat) : Int)]).run P w = .ok (.slice none 0 0) w := by
        have hw0 : IntKind.i64.wrap 0 = 0 := by decide
        have hai : (asInt (.int kk ((0 : Nat) : Int))).run P w = .ok 0 w := rfl
        simp only [Builtin.append_, List.getElem?_toArray, List.getElem?_cons_zero, List.getElem?_cons_succ, Sem.run_bind, run_underlying hu, Result.andThen_ok, (tsz_spec ht w).1, run_underlying hux, Sem.run_pure, if_true, hai, hw0, run_typeInfo hi]
        rw [if_neg (by decide)]
        simp only [Sem.run_bind, run_typeInfo hi, Result.andThen_ok]
        rw [if_neg (by simp)]
        simp
      refine wpIn_value hd (hex _ _ hrun) (hn _ _ (c.seth nid (.slice none 0 0)) (c.seth_keeps hid) (by simp only [den]; exact .row nid none 0 0 (by simp [Cx.seth])) ?_)
      refine hm.step nid _ (Nat.le_refl _) (c.seth_keeps hid) (Agree.refl _ _) hm.pure ⟨hm.imm.I, hm.imm.M⟩ hm.immlt (Nat.le_refl _) hm.below hm.old (SE.wf_mono (Nat.le_refl _) (Lk.dom_upd _ nid _) hwf) ?_ (fun _ _ _ _ _ _ => rfl) ?_ (fun j o b _ => hm.disj j o b)
      · refine ⟨_, hden, ?_⟩
        simp only [Cx.seth, if_true, List.replicate_zero]
        exact .nil
      · intro b hb
        simp [bl, Cx.seth, hdrBlock] at hb
    · have hnx : ¬ Builtin.nextslicecap q 0 * i.bytes > 2 ^ 48 := by
        have := nextslicecap_le (need := q) (cap := 0) h0
        have h3 : Builtin.nextslicecap q 0 * i.bytes ≤ (2 * 4294967296 + 192) * 16384 := Nat.mul_le_mul (by omega) c4
        omega
      have hmax : ¬ ((q : Nat) : Int) > IntKind.i64.max := by
        have : IntKind.i64.max = 9223372036854775807 := by decide
        rw [this]; omega
      have hq0 : ¬ q ≤ 0 := by omega
      have hqs : ¬ q * sz = 0 := by
        intro h
        rcases Nat.mul_eq_zero.1 h with h | h
        · omega
        · exact c3 h
      have hneg : ¬ (q : Int) < 0 := by omega
      obtain ⟨nc, d, hle, hrun⟩ : ∃ newCap d, q ≤ newCap ∧ (Builtin.append_ #[sT, xT] o.type #[.slice none 0 0, .int kk q]).run P w = .ok (.slice (some ⟨w.heap.size, 0, none⟩) q newCap)
          (({ w with drawn := d } : World).alloc (.cells ⟨(Builtin.zeroCells zv.cells q).toList ++ (Builtin.zeroCells zv.cells (newCap - q)).toList⟩ el)) := by
        refine ⟨q + w.tape w.drawn (.appendCap q 0 el) % (2 ^ 63 - q), w.drawn + 1, by omega, ?_⟩
        have hai : (asInt (.int kk (q : Int))).run P w = .ok (q : Int) w := rfl
        simp only [Builtin.append_, List.getElem?_toArray, List.getElem?_cons_zero, List.getElem?_cons_succ, Sem.run_bind, run_underlying hu, Result.andThen_ok, (tsz_spec ht w).1, run_underlying hux, Sem.run_pure, if_true, hai, hw, run_typeInfo hi]
        rw [if_neg hneg]
        simp only [Sem.run_bind, run_typeInfo hi, Result.andThen_ok]
        rw [if_neg hb48]
        simp only [Sem.run_bind, Sem.run_pure, Result.andThen_ok, Int.toNat_natCast, Nat.zero_add]
        rw [if_neg hq0]
        simp only [Sem.run_bind, run_typeInfo hi, Result.andThen_ok]
        rw [if_neg (by rintro ⟨h, _⟩; exact hmax h)]
        simp only [Sem.run_bind, run_typeInfo hi, Result.andThen_ok]
        rw [if_neg hnx]
        simp only [Sem.run_bind, run_choose, Question.forced, Bool.false_eq_true, if_false, Question.cut, Result.andThen_ok, run_typeInfo hi, run_askRoom, Builtin.firstCells, Sem.run_pure, Bool.not_true, hqs, hzv]
        have harr : ∀ Y Z : Array Value, ((#[] : Array Value) ++ Y ++ Z) = ⟨Y.toList ++ Z.toList⟩ := fun Y Z => Array.ext' (by simp)
        rw [harr]
        rfl
      have hzl2 : ∀ m, (Builtin.zeroCells zv.cells m).toList.length = m * sz := fun m => by rw [zeroCells_length, hzl]
      have hnew := (hm.draw d).newRow (by simpa using hn0) hid (.app .rep [e2, ze]) _ nc sz ((Builtin.zeroCells zv.cells q).toList ++ (Builtin.zeroCells zv.cells (nc - q)).toList) el hden hwf (by simpa using hle)
        (by rw [List.length_append, hzl2, hzl2, ← Nat.add_mul]; exact Nat.mul_le_mul_right _ (by omega))
        (by intro x hx; rw [List.eq_of_mem_replicate hx]; exact hlc) (by rw [List.length_replicate, ← hzl2 q, List.take_left]; exact hflat)
      rw [List.length_replicate] at hnew
      refine wpIn_value hd (hex _ _ hrun) (hn _ _ _ (c.seth_keeps hid) ?_ hnew)
      simp only [den]
      exact .row nid _ _ _ (by simp [Cx.seth])
  | _ => rw [hdn] at hk; simp [pok] at hk

theorem flat_take {es : List AV} {sz : Nat} (h : ∀ e ∈ es, e.cells.length = sz) (n : Nat) (hn : n ≤ es.length) : AV.flat (es.take n) = (AV.flat es).take (n * sz) := by
  have hx : es = es.take n ++ es.drop n := (List.take_append_drop _ _).symm
  conv => rhs; rw [hx, flat_append]
  have hl : (AV.flat (es.take n)).length = n * sz := by
    rw [flat_length (fun e he => h e (List.mem_of_mem_take he))]
    congr 1; simp; omega
  rw [← hl, List.take_left]

/-- A row of the call's own, cut. -/
theorem op_reslice (hm : Mem n0 w0 c ρ L nenv w) (hn0 : n0 ≤ w.heap.size) {T elem sz i nid : Nat} {g : Bool} {x hi : Operand} {ec eh : SE} (ho : o.op = .slice T x none (some hi) none) (hT : P.underlying T = some (.slice elem)) (hs : tsz P elem = some (sz, g))
    (hl : L i = some (.row sz ec)) (hx : Rv c (.row i) (a.eval x)) (hh : Rv c (den ρ eh) (a.eval hi)) (hk : pok (.slice false true) [den ρ ec, den ρ eh]) (hwf : (SE.app (.slice false true) [ec, eh]).wf nenv L.dom = true) (hid : L nid = none) :
    OpGo P ro n0 w0 c ρ L (.row nid) ((L.upd i .gone).upd nid (.row sz (.app (.slice false true) [ec, eh]))) nenv o a w := by
  intro n next Q hn
  obtain ⟨xs, hxs, hrow⟩ := hm.ok i _ hl
  rw [hxs] at hk
  have hid1 : (L.upd i .gone) nid = none := by
    rw [Lk.upd_other]
    · exact hid
    · rintro rfl; rw [hid] at hl; cases hl
  have hwf1 : (SE.app (.slice false true) [ec, eh]).wf nenv (L.upd i .gone).dom = true := SE.wf_mono (Nat.le_refl _) (Lk.dom_upd L i _) hwf
  obtain ⟨k, m, hm1, hm2, hq⟩ : ∃ (k : IntKind) (m : Nat), den ρ eh = .int k m ∧ m ≤ xs.length ∧ a.eval hi = .int k m := by
    generalize den ρ eh = y at hk hh
    cases y <;> simp [pok] at hk
    rename_i k z
    refine ⟨k, z.toNat, by simp; omega, by omega, ?_⟩
    generalize a.eval hi = v at hh
    cases hh
    simp; omega
  have hden : den ρ (.app (.slice false true) [ec, eh]) = .sl (xs.take m) := by simp [den, dens, hxs, hm1, pv]
  have hvx : a.eval x = c.h i := by
    generalize a.eval x = v at hx
    cases hx with
    | row _ aa nn cap hh => exact hh.symm
  have hd : ∀ cc, o.op ≠ .defer cc := by rw [ho]; intro c h; cases h
  have hex : ∀ v, (Instr.sliceAt T (c.h i) none (some (.int k m)) none).run P w = .ok v w → (execOp a.eval o).run P w = .ok (.value v) w := by
    intro v hv
    simp only [execOp, ho, Option.map_none, Option.map_some, hq, hvx, Sem.run_bind, hv]; rfl
  have hsl : ∀ v, (Instr.slice T (c.h i) none (some (.int k m)) none).run P w = .ok v w → (Instr.sliceAt T (c.h i) none (some (.int k m)) none).run P w = .ok v w := by
    intro v hv
    simp only [Instr.sliceAt, Sem.run_bind, run_underlying hT, Result.andThen_ok]
    exact hv
  have hmd := hm.drop i
  have hb : ∀ (len cap : Nat), m ≤ cap → (Instr.sliceBounds true len cap none (some (.int k m)) none).run P w = .ok (0, m, cap) w := by
    intro len cap hc
    have hc' : ((m : Nat) : Int) ≤ cap := by omega
    simp [Instr.sliceBounds, run_sliceBound, hc']
  have small : xs = [] → (c.h i = .slice none 0 0 ∨ ∃ ad, c.h i = .slice (some ad) 0 0) → o.wpIn (FW ro) n P a w next Q := by
    intro h0 hv
    subst h0
    have hm0 : m = 0 := by simpa using hm2
    subst hm0
    have hb0 : (Instr.sliceBounds true 0 0 none (some (.int k 0)) none).run P w = .ok (0, 0, 0) w := by
      simp [Instr.sliceBounds, run_sliceBound]
    have hrun : (Instr.slice T (c.h i) none (some (.int k (0 : Nat))) none).run P w = .ok (c.h i) w := by
      rcases hv with h | ⟨ad, h⟩ <;> rw [h] <;> simp [Instr.slice, run_underlying hT, hb0, (tsz_spec hs w).1]
    refine wpIn_value hd (hex _ (hsl _ hrun)) (hn _ _ (c.seth nid (c.h i)) (c.seth_keeps hid) ?_ ?_)
    · simp only [den]
      rcases hv with hs | ⟨ad, hs⟩
      · rw [hs]; exact .row nid none 0 0 (by simp [Cx.seth])
      · rw [hs]; exact .row nid (some ad) 0 0 (by simp [Cx.seth])
    · refine hmd.step nid _ (Nat.le_refl _) (c.seth_keeps hid1) (Agree.refl _ _) hm.pure ⟨hm.imm.I, hm.imm.M⟩ hm.immlt (Nat.le_refl _) hm.below hm.old (SE.wf_mono (Nat.le_refl _) (Lk.dom_upd _ nid _) hwf1) ?_ (fun _ _ _ _ _ _ => rfl) ?_ (fun j o b _ => hmd.disj j o b)
      · refine ⟨_, hden, ?_⟩
        simp only [Cx.seth, if_true]
        rcases hv with hs | ⟨ad, hs⟩
        · rw [hs]; exact .nil
        · rw [hs]; exact .zero ad
      · intro b hb
        simp only [bl, Cx.seth, if_true] at hb
        rcases hv with hs | ⟨ad, hs⟩ <;> simp [hs, hdrBlock] at hb
  generalize hhi : c.h i = hv at hrow small hex hsl
  cases hrow with
  | nil => exact small rfl (.inl rfl)
  | zero ad => exact small rfl (.inr ⟨ad, rfl⟩)
  | row b oo cap vs V _ hcap hbk hxl hov hsz hvs =>
    have hbi : bl c i (.row sz ec) = some b := by simp [bl, hhi, hdrBlock]; omega
    have hfr := hm.fresh i _ b hl hbi
    have hmul : xs.length * sz ≤ cap * sz := Nat.mul_le_mul_right _ hxl
    have hlt : (xs.take m).length = m := by simp; omega
    have hre := hmd.reRow (w' := w) (b := b) (oo := oo) (cap := cap) (sz := sz) (vs := vs) (T := V) hid1 hden hwf1 hcap hbk (by omega) hov (fun y hy => hsz y (List.mem_of_mem_take hy))
      (by
        rw [hlt, flat_take hsz m hm2]
        have := hvs.take (m * sz)
        rw [List.take_take] at this
        rwa [Nat.min_eq_left (Nat.mul_le_mul_right _ hm2)] at this)
      (fun _ _ => rfl) rfl rfl rfl rfl hfr.1
      (by
        intro j oj hlj hbj
        by_cases hji : j = i
        · subst hji; rw [Lk.upd_same] at hlj; simp only [Option.some.injEq] at hlj; subst hlj; simp [bl] at hbj
        · rw [Lk.upd_other _ _ hji] at hlj; exact hji (hm.dist j i oj _ b hlj hl hbj hbi))
      (hm.disj i _ b hl hbi)
    rw [hlt] at hre
    refine wpIn_value hd (hex (.slice (some ⟨b, oo, none⟩) m cap) (hsl _ ?_)) (hn _ _ _ (c.seth_keeps hid) ?_ hre)
    · simp only [Instr.slice, Sem.run_bind, run_underlying hT, Result.andThen_ok, hb _ cap (by omega), (tsz_spec hs w).1, Sem.run_pure]
      simp [Addr.add_eq, show cap ≠ 0 from by omega]
    · simp only [den]
      exact .row nid _ _ _ (by simp [Cx.seth])

/-- Nothing of a slice, without room. -/
theorem op_cut0 (hm : Mem n0 w0 c ρ L nenv w) {T elem sz nid : Nat} {g : Bool} {x h m : Operand} {k k' : IntKind} {es : List AV} (ho : o.op = .slice T x none (some h) (some m)) (hT : P.underlying T = some (.slice elem)) (hs : tsz P elem = some (sz, g))
    (hx : Rv c (.sl es) (a.eval x)) (hh : a.eval h = .int k 0) (hmm : a.eval m = .int k' 0) (hid : L nid = none) :
    OpGo P ro n0 w0 c ρ L (.row nid) (L.upd nid (.row sz .nils)) nenv o a w := by
  intro n next Q hn
  have hd : ∀ cc, o.op ≠ .defer cc := by rw [ho]; intro c h; cases h
  have hb : ∀ (len cap : Nat), (Instr.sliceBounds true len cap none (some (.int k 0)) (some (.int k' 0))).run P w = .ok (0, 0, 0) w := by
    intro len cap
    simp [Instr.sliceBounds, run_sliceBound]
  have key : ∀ ad len cap, a.eval x = .slice ad len cap → o.wpIn (FW ro) n P a w next Q := by
    intro ad len cap hv
    have hrun : (execOp a.eval o).run P w = .ok (.value (.slice ad 0 0)) w := by
      simp only [execOp, ho, Option.map_none, Option.map_some, hh, hmm, hv]
      simp [Instr.sliceAt, Instr.slice, run_underlying hT, hb, (tsz_spec hs w).1]
    refine wpIn_value hd hrun (hn _ _ (c.seth nid (.slice ad 0 0)) (c.seth_keeps hid) ?_ (hm.noRow sz hid ?_))
    · simp only [den]; exact .row nid ad 0 0 (by simp [Cx.seth])
    · cases ad with
      | none => exact .inl rfl
      | some ad => exact .inr ⟨ad, rfl⟩
  generalize hv : a.eval x = v at hx
  cases hx with
  | slnil => exact key _ _ _ hv
  | sl0 ad => exact key _ _ _ hv
  | sl _ sz2 b o2 cap q1 q2 q3 => exact key _ _ _ hv

theorem readable_pre (hi : Imm c w) {ys : List AV} {v : Value} (h : Rv c (.sl ys) v) (hs : ∀ y ∈ ys, y.cells.length = 1) :
    ∃ us, Rvs c (AV.flat ys) us ∧ (Builtin.lenOf v).run P w = .ok ys.length w ∧ ∀ n, n ≤ ys.length → (Builtin.firstCells 1 n v).run P w = .ok ⟨us.take n⟩ w := by
  cases h with
  | slnil => exact ⟨[], .nil, rfl, fun n hn => by simp [Builtin.firstCells]⟩
  | sl0 ad => exact ⟨[], .nil, rfl, fun n hn => by
      have : n = 0 := by simpa using hn
      subst this
      simp [Builtin.firstCells, loadCells, loadCellsFrom]⟩
  | sl _ sz' b o cap h1 h2 h3 =>
    obtain ⟨us, hu, hc⟩ := h3.values hi
    refine ⟨us, hu, rfl, fun n hn => ?_⟩
    have hl : us.length = ys.length := by rw [hu.length, flat_length hs]; simp
    have hl2 : (us.take n).length = n := by simp; omega
    have := run_loadCells_list (P := P) (w := w) ⟨b, o, none⟩ (us.take n) (fun j v hv => hc j v (by
      rw [List.getElem?_take] at hv
      split at hv
      · exact hv
      · cases hv))
    rw [hl2] at this
    simp only [Builtin.firstCells, Nat.mul_one]
    exact this

theorem flat_drop1 : ∀ {ys : List AV} (_ : ∀ y ∈ ys, y.cells.length = 1) (j : Nat), (AV.flat ys).drop j = AV.flat (ys.drop j)
  | [], _, j => by simp [AV.flat]
  | y :: ys, _, 0 => rfl
  | y :: ys, h, j + 1 => by
    have hy := h y (by simp)
    have ih := flat_drop1 (ys := ys) (fun z hz => h z (by simp [hz])) j
    rw [flat_cons]
    generalize hq : y.cells = q at hy
    match q, hy with
    | [z], _ => simpa using ih

theorem copyCells_den {e : SE} {ys : List AV} (he : den ρ e = .sl ys) (hy : ∀ y ∈ ys, y.cells.length = 1) : ∀ (cs : List SE) (j : Nat),
    dens ρ (copyCells e j cs) = ((AV.flat ys).drop j).take cs.length ++ (dens ρ cs).drop (ys.length - j)
  | [], j => by simp [copyCells, dens]
  | u :: us, j => by
    have ih := copyCells_den he hy us (j + 1)
    have hfl : (AV.flat ys).length = ys.length := by rw [flat_length hy]; simp
    simp only [copyCells, dens, ih, den, he, pv, binI]
    by_cases hj : j < ys.length
    · have h1 : ((j : Nat) : Int) < (ys.length : Int) := by omega
      have hd : (AV.flat ys).drop j = AV.cut (ys.getD j .undef).cells 0 1 false :: (AV.flat ys).drop (j + 1) := by
        have hyj := hy ys[j] (by simp)
        have hg : ys.getD j .undef = ys[j] := by simp [List.getD, hj]
        rw [flat_drop1 hy, flat_drop1 hy, List.drop_eq_getElem_cons hj, flat_cons, hg]
        generalize (ys[j]).cells = q at hyj
        match q, hyj with
        | [z], _ => simp [AV.cut]
      have hs : ys.length - j = (ys.length - (j + 1)) + 1 := by omega
      simp only [Int.toNat_natCast, h1, decide_true, if_true, List.length_cons, hd, List.take_succ_cons, hs, List.drop_succ_cons, List.cons_append]
    · have h1 : ¬ ((j : Nat) : Int) < (ys.length : Int) := by omega
      have e1 : (AV.flat ys).drop j = [] := List.drop_eq_nil_of_le (by omega)
      have e2 : (AV.flat ys).drop (j + 1) = [] := List.drop_eq_nil_of_le (by omega)
      have e3 : ys.length - j = 0 := by omega
      have e4 : ys.length - (j + 1) = 0 := by omega
      simp only [h1, decide_false, e1, e2, e3, e4, List.take_nil, List.nil_append, List.drop_zero]
      rfl

/-- A copy into a variable's cells. -/
theorem op_copy (hm : Mem n0 w0 c ρ L nenv w) {sT xT el i : Nat} {g : Bool} {x1 x2 : Operand} {e : SE} {cs : List SE} (ho : o.op = .call { callee := .builtin .copy, args := ⟨[x1, x2]⟩, argTypes := ⟨[sT, xT]⟩ }) (hT : P.underlying sT = some (.slice el)) (hs : tsz P el = some (1, g))
    (h1 : Rv c (.row i) (a.eval x1)) (h2 : Rv c (den ρ e) (a.eval x2)) (hl : L i = some (.box cs)) (hwf : SE.wfs nenv L.dom (copyCells e 0 cs) = true) (hck : pok (.szs 1) [den ρ e]) :
    OpGo P ro n0 w0 c ρ L .undef (L.upd i (.box (copyCells e 0 cs))) nenv o a w := by
  intro n next Q hn
  obtain ⟨ys, hys⟩ : ∃ ys, den ρ e = .sl ys := by
    cases hd : den ρ e <;> rw [hd] at hck <;> simp [pok] at hck
    exact ⟨_, rfl⟩
  rw [hys] at h2 hck
  simp only [pok] at hck
  have hy1 : ∀ y ∈ ys, y.cells.length = 1 := fun y hy => (hck y hy).1
  obtain ⟨us, r1, r2, r3⟩ := readable_pre (P := P) hm.imm h2 hy1
  obtain ⟨vs, T, hb, hvs, hh⟩ := hm.ok i _ hl
  have hlv := hvs.length; rw [dens_length] at hlv
  have hx1 : a.eval x1 = .slice (some ⟨c.β i, 0, none⟩) vs.length vs.length := by
    rw [← hh]
    generalize a.eval x1 = v at h1
    cases h1 with
    | row _ ad n cap hq => exact hq.symm
  have hfl : (AV.flat ys).length = ys.length := by rw [flat_length hy1]; simp
  have hul : us.length = ys.length := by rw [r1.length, hfl]
  have hone : ∀ u ∈ us, u.oneCell' = true := r1.ones (ones_flat (fun y hy => (hck y hy).2))
  obtain ⟨w', s1, s2, s3, s4, s5, s6, s7⟩ := run_storeCells (P := P) (us.take (Nat.min ys.length vs.length)) w (c.β i) 0 0 vs T hb (by
    have : Nat.min ys.length vs.length ≤ vs.length := Nat.min_le_right _ _
    simp; omega) (fun u hu => hone u (List.mem_of_mem_take hu))
  have hcp : (Builtin.copy_ #[sT, xT] o.type #[a.eval x1, a.eval x2]).run P w = .ok (goInt (Nat.min ys.length vs.length)) w' := by
    have r3' := r3 (Nat.min ys.length vs.length) (Nat.min_le_left _ _)
    simp only [hx1]
    simp [Builtin.copy_, run_underlying hT, (tsz_spec hs w).1, r2]
    have e0 : min ys.length vs.length = Nat.min ys.length vs.length := rfl
    simp only [e0] at *
    simp [r3', s1]
  have hd : ∀ cc, o.op ≠ .defer cc := by rw [ho]; intro c h; cases h
  have hrun : (execOp a.eval o).run P w = .ok (.value (goInt (Nat.min ys.length vs.length))) w' := by
    simp only [execOp, ho, Sem.run_bind, resolve, Sem.run_pure, Result.andThen_ok, invoke, builtin]
    have : ((⟨[x1, x2]⟩ : Array Operand).map a.eval) = #[a.eval x1, a.eval x2] := Array.ext' (by simp)
    rw [this]
    have : (⟨[sT, xT]⟩ : Array TypeId) = #[sT, xT] := rfl
    rw [this, hcp]; rfl
  refine wpIn_value hd hrun (hn _ _ c (Cx.Keeps.refl _ _) (.undef _ (fun b h => by cases h)) ?_)
  refine hm.turn hl rfl rfl hwf ?_ s3 s4 s5 s6 s7
  refine ⟨_, T, s2, ?_, ?_⟩
  · rw [copyCells_den hys hy1]
    have hp := hvs.put (r1.take (Nat.min ys.length vs.length)) 0
    have e1 : putL (dens ρ cs) 0 ((AV.flat ys).take (Nat.min ys.length vs.length)) = ((AV.flat ys).drop 0).take cs.length ++ (dens ρ cs).drop (ys.length - 0) := by
      simp only [putL, List.take_zero, List.nil_append, List.drop_zero, Nat.sub_zero, Nat.zero_add]
      rw [← hlv]
      rcases Nat.le_total ys.length vs.length with hle | hle
      · have e0 : Nat.min ys.length vs.length = ys.length := Nat.min_eq_left hle
        rw [e0, List.take_of_length_le (by omega), List.take_of_length_le (by omega), hfl]
      · have e0 : Nat.min ys.length vs.length = vs.length := Nat.min_eq_right hle
        rw [e0, List.length_take, hfl]
        rw [List.drop_eq_nil_of_le (by rw [dens_length]; omega), List.drop_eq_nil_of_le (by rw [dens_length]; omega)]
    rw [← e1]
    simpa using hp
  · have : (putL vs (0 + 0) (us.take (Nat.min ys.length vs.length))).length = vs.length := by
      have h5 : Nat.min ys.length vs.length ≤ vs.length := Nat.min_le_right _ _
      simp [putL]; omega
    rw [this]; exact hh

/-- All of an array variable as a slice. -/
theorem op_sliceAll (hm : Mem n0 w0 c ρ L nenv w) {T len el i : Nat} {g : Bool} {x : Operand} {cs : List SE} (ho : o.op = .slice T x none none none) (hT : P.underlying T = some (.array len el)) (hs : tsz P el = some (1, g))
    (h1 : Rv c (.ptr i 0) (a.eval x)) (hl : L i = some (.box cs)) (hlen : cs.length = len) (h0 : 0 < len) : OpGo P ro n0 w0 c ρ L (.row i) L nenv o a w := by
  obtain ⟨vs, T', hb, hvs, hh⟩ := hm.ok i _ hl
  have hlv := hvs.length; rw [dens_length] at hlv
  have hx : a.eval x = .pointer (some ⟨c.β i, 0, none⟩) := by
    generalize a.eval x = v at h1
    cases h1; rfl
  refine OpGo.runs hm (by rw [ho]; intro c h; cases h) ⟨.slice (some ⟨c.β i, 0, none⟩) len len, ?_, ?_⟩
  · have hz : ¬ len = 0 := by omega
    simp only [execOp, ho, Option.map_none, hx]
    simp [Instr.sliceAt, Instr.sureAddr, run_underlying hT, Instr.sliceBounds, (tsz_spec hs w).1, hz, Addr.add_eq]
  · have e1 : vs.length = len := by omega
    rw [e1] at hh
    exact .row i _ _ _ hh

/-- THE STEP: one operation under conditions that hold. -/
theorem sOp_step (hm : Mem n0 w0 c ρ L nenv w) (hn0 : n0 ≤ w.heap.size) (hG : GlobOk G c) (hGw : ∀ (g : Nat) es, G[g]? = some es → SE.wfs 0 (fun _ => false) es = true)
    {xv : Ev} (hxv : ∀ x e, xv x = some e → Rv c (den ρ e) (a.eval x) ∧ e.wf nenv L.dom = true) {nid : Nat} (hid : L nid = none) (hid1 : L (nid + 1) = none) {s : Step} (h : sOp P L xv nenv nid o.op = some s)
    {pcs : List (SE × Bool)} (hp : Holds ρ pcs) {K : (Nat → AV) → Prop} (hs : SegWp P G ρ (s.nodes nenv pcs) K) :
    ∃ ρ', Agree nenv ρ ρ' ∧ (∀ i, (ρ' i).pure = true) ∧ K ρ' ∧ OpGo P ro n0 w0 c ρ' L s.val (upds L s.dl) (s.nenv nenv) o a w := by
  have hev : ∀ x e, wk xv x = some e → Rv c (den ρ e) (a.eval x) ∧ e.wf nenv L.dom = true := by
    intro x e he
    obtain ⟨e', h1, rfl⟩ := Option.map_eq_some_iff.1 he
    exact ⟨weak_sound e' (hxv x e' h1).1, weak_wf e' (hxv x e' h1).2⟩
  have plain : ∀ (e : SE) (dl : List (Nat × OS)) (ck : List Chk), s = ⟨e, dl, ck, none, none⟩ → (Chks ρ ck → OpGo P ro n0 w0 c ρ L e (upds L dl) nenv o a w) →
      ∃ ρ', Agree nenv ρ ρ' ∧ (∀ i, (ρ' i).pure = true) ∧ K ρ' ∧ OpGo P ro n0 w0 c ρ' L s.val (upds L s.dl) (s.nenv nenv) o a w := by
    rintro e dl ck rfl hgo
    obtain ⟨h1, h2⟩ := hs.chks
    exact ⟨ρ, Agree.refl _ _, hm.pure, h2, hgo (h1 hp)⟩
  unfold sOp at h
  split at h
  · rename_i e ck h1
    simp only [Option.some.injEq] at h
    refine plain e [] ck h.symm (fun hck => ?_)
    obtain ⟨h2, h3⟩ := sPure_sound hm (fun x e hx => (hxv x e hx).1) h1 hck
    exact OpGo.runs hm h3 h2
  · split at h
    case h_1 x ho =>
      split at h
      · rename_i i k h1
        simp only [Option.some.injEq] at h
        exact plain _ _ _ h.symm (fun _ => OpGo.nilCheck hm ho (hxv _ _ h1).1 (.inl ⟨_, _, rfl⟩))
      · rename_i cs k h1
        simp only [Option.some.injEq] at h
        exact plain _ _ _ h.symm (fun _ => OpGo.nilCheck hm ho (hxv _ _ h1).1 (.inr (.inl ⟨_, _, rfl⟩)))
      · rename_i f u v h1
        simp only [Option.some.injEq] at h
        exact plain _ _ _ h.symm (fun _ => OpGo.nilCheck hm ho (hxv _ _ h1).1 (.inr (.inr ⟨_, _, _, rfl⟩)))
      · cases h
    case h_2 T x ho =>
      split at h
      · rename_i e k g h1 h2
        split at h
        · rename_i hc
          simp only [Option.some.injEq] at h
          exact plain _ _ _ h.symm (fun hck => op_box hm hid hn0 ho (hxv _ _ h1).1 hc.1 hck hc.2)
        · cases h
      · cases h
    case h_3 T ho =>
      split at h
      · rename_i cs h1
        simp only [Option.some.injEq] at h
        refine plain _ _ _ h.symm (fun _ => op_alloc hm hid hn0 ho h1 ?_)
        exact zeroSE_wf h1
      · cases h
    case h_4 T x y ho =>
      split at h
      · rename_i ax e h1 h2
        obtain ⟨r, h3, h4⟩ := Option.map_eq_some_iff.1 h
        exact plain _ _ _ h4.symm (fun hck => sStore_sound hm ho (hxv _ _ h1).1 (hxv _ _ h2).1 h3 hck)
      · cases h
    case h_5 t len parts ho =>
      split at h
      · rename_i es h1
        split at h
        · rename_i sz e ck h2
          split at h
          · rename_i hwf
            simp only [Option.some.injEq] at h
            obtain ⟨r1, r2⟩ := evAll_sound (fun x e hx => (hev x e hx).1) _ _ h1
            simp only [List.length_map] at r2
            refine plain _ _ _ h.symm (fun hck => op_buildSlice hm hn0 (parts := parts.toList) ho h2 (by simp [r2]) (fun j i e i' x hp hv => ?_) hck hwf hid)
            rw [List.getElem?_zip_eq_some] at hp
            simp only [List.getElem?_map, hv, Option.map_some, Option.some.injEq] at hp
            refine ⟨hp.1, ?_⟩
            obtain ⟨u, hu, hr⟩ := r1.get (i := j) (a := den ρ e) (by rw [dens_getElem?, hp.2]; rfl)
            simp only [List.map_map, List.getElem?_map, hv, Option.map_some, Option.some.injEq, Function.comp_apply] at hu
            rw [hu]; exact hr
          · cases h
        · cases h
      · cases h
    case h_6 t l m ho =>
      split at h
      · rename_i n n' h1 h2
        split at h
        · rename_i hbe
          split at h
          · rename_i sz e ck h3
            split at h
            · rename_i hwf
              simp only [Option.some.injEq] at h
              have hnn := SE.beq_eq _ _ hbe
              subst hnn
              exact plain _ _ _ h.symm (fun hck => op_makeSlice hm hn0 ho h3 (hev _ _ h1).1 (hev _ _ h2).1 hck hwf hid)
            · cases h
          · cases h
        · cases h
      · cases h
    case h_7 t ho =>
      split at h
      · split at h
        · rename_i k hk
          simp only [Option.some.injEq] at h
          exact plain _ _ _ h.symm (fun _ => op_makeMap hm hn0 k ho hid)
        · cases h
      · cases h
    case h_8 t x k v ho =>
      split at h
      · rename_i i kk n e kt vt h1 h3 h4
        split at h
        · rename_i kk' ks us kk'' hl hkt
          split at h
          · rename_i hc
            obtain ⟨rfl, rfl, hwf⟩ := hc
            simp only [Option.some.injEq] at h
            refine plain _ _ _ h.symm (fun _ => op_insert hm ho h4 hkt (by simpa using (hxv _ _ h1).1) rfl (hev _ _ h3).1 hl hwf)
          · cases h
        · cases h
      · cases h
    case h_9 t x k ho =>
      split at h
      · rename_i i key kt vt h1 h2 h3
        split at h
        · rename_i kk ks us kk' z hl hkt hz
          split at h
          · rename_i hc
            subst hc
            simp only [Option.some.injEq] at h
            refine plain _ _ _ h.symm (fun hck => ?_)
            have hk := hck.one
            simp only [dens, den] at hk
            have hkey : ∃ n, den ρ key = .int kk' n := by
              cases hd : den ρ key <;> rw [hd] at hk <;> simp only [pok] at hk
              exact ⟨_, by simp only [binOk] at hk; rw [hk]⟩
            exact OpGo.runs hm (by rw [ho]; intro c h; cases h) (runs_exec (run_lookup hm h3 hkt (by simpa using (hxv _ _ h1).1) (hev _ _ h2).1 hl hz hkey) (by simp only [execOp, ho]))
          · cases h
        · cases h
      · rename_i kk ks us key kt vt h1 h2 h3
        split at h
        · rename_i kk' z hkt hz
          split at h
          · rename_i hc
            subst hc
            simp only [Option.some.injEq] at h
            refine plain _ _ _ h.symm (fun hck => ?_)
            have hk := hck.one
            simp only [dens, den] at hk
            have hkey : ∃ n, den ρ key = .int kk' n := by
              cases hd : den ρ key <;> rw [hd] at hk <;> simp only [pok] at hk
              exact ⟨_, by simp only [binOk] at hk; rw [hk]⟩
            exact OpGo.runs hm (by rw [ho]; intro c h; cases h) (runs_exec (run_lookup_mp hm h3 hkt (by simpa using (hxv _ _ h1).1) (hev _ _ h2).1 hz hkey) (by simp only [execOp, ho]))
          · cases h
        · cases h
      · cases h
    case h_10 x1 x2 sT xT ho =>
      split at h
      · rename_i e1 e2 h1 h2
        split at h
        · rename_i r h3
          simp only [Option.some.injEq] at h
          exact plain _ _ _ h.symm (fun hck => sAppendMake_sound hm hn0 hid ho (hxv _ _ h1).1 (hev _ _ h2).1 h3 hck)
        obtain ⟨r, h3, h4⟩ := Option.map_eq_some_iff.1 h
        exact plain _ _ _ h4.symm (fun hck => sAppend_sound hm hn0 hid hid1 ho (hxv _ _ h1).1 (hev _ _ h2).1 h3 hck)
      · cases h
    case h_11 f xs tt _ ho =>
      split at h
      · rename_i fid fs cs es h1 h2
        split at h
        · rename_i hok
          split at h
          · rename_i vs h3
            split at h
            · rename_i hwv
              simp only [Option.some.injEq] at h
              subst h
              obtain ⟨r, hr1, hr2, hr3⟩ := hs
              have ha := setEnv_agree ρ nenv r
              have hpr := setEnv_pure hm.pure nenv hr1
              refine ⟨setEnv ρ nenv r, ha, hpr, hr3, ?_⟩
              have hm' := hm.env hn0 ha hpr
              obtain ⟨hf1, hf2⟩ := hev _ _ h1
              obtain ⟨r1, _⟩ := evAll_sound (fun x e hx => (hev x e hx).1) _ _ h2
              have hes : SE.wfs nenv L.dom es = true := by
                have key : ∀ (l : List Operand) (es : List SE), evAll (wk xv) l = some es → SE.wfs nenv L.dom es = true := by
                  intro l
                  induction l with
                  | nil => intro es h; simp only [evAll, Option.some.injEq] at h; subst h; rfl
                  | cons x l ih =>
                    intro es h
                    simp only [evAll] at h
                    split at h
                    · rename_i e es' q1 q2
                      simp only [Option.some.injEq] at h; subst h
                      simp only [SE.wfs, (hev x e q1).2, ih es' q2, Bool.and_self]
                    · cases h
                exact key _ _ h2
              obtain ⟨hc1, hc2⟩ := hr2 hp
              refine op_call hm' hn0 hG hGw ho hok (by rw [den_agree ha _ hf2]; exact hf1) (by rw [dens_agree ha _ hes]; exact r1) h3 (!SE.noOwns (fs ++ es ++ cs)) (fun hb => by simpa using hb)
                ⟨by rw [dens_agree ha _ hwv, setEnv_same]; exact hc1, fun hb => by rw [setEnv_same]; exact hc2 hb⟩
            · cases h
          · cases h
        · cases h
      · cases h
    case h_12 op t x y _ ho =>
      split at h
      · rename_i e el h1 hu
        split at h
        · have hrun : ∀ b n m, a.eval x = .slice b n m → (execOp a.eval o).run P w = .ok (.value (.bool b.isNone)) w := by
            intro b n m hb
            have := run_eqs (P := P) (w := w) (x := x) (y := .const (.slice none 0 0)) false hu hb (vb := .slice none 0 0) rfl
            simp only [Bool.false_eq_true, if_false, Bool.bne_false] at this
            simp only [execOp, ho, Sem.run_bind]
            simp only [Sem.run_bind] at this
            rw [show a.eval (.const (.slice none 0 0)) = .slice none 0 0 from rfl, this]; rfl
          have hd : ∀ cc, o.op ≠ .defer cc := by rw [ho]; intro c h; cases h
          have key : ∀ (ec : SE) (ck : List Chk), s = ⟨.inp nenv, [], ck, none, some ec⟩ → (Chks ρ ck → ∃ b n m, a.eval x = .slice b n m ∧ (b.isNone = true → den ρ ec = .sl [])) →
              ∃ ρ', Agree nenv ρ ρ' ∧ (∀ i, (ρ' i).pure = true) ∧ K ρ' ∧ OpGo P ro n0 w0 c ρ' L s.val (upds L s.dl) (s.nenv nenv) o a w := by
            rintro ec ck rfl hex
            obtain ⟨hck, hs2⟩ := hs.chks
            obtain ⟨b, n, m, hb, hnil⟩ := hex (hck hp)
            have ha := setEnv_agree ρ nenv (.bool b.isNone)
            have hpr := setEnv_pure hm.pure nenv (v := .bool b.isNone) rfl
            refine ⟨setEnv ρ nenv (.bool b.isNone), ha, hpr, hs2 _ (fun _ h => hnil h), ?_⟩
            refine OpGo.mono_nenv (n := nenv) (OpGo.runs (hm.env hn0 ha hpr) hd ⟨_, hrun b n m hb, ?_⟩) (by simp [Step.nenv])
            simp only [den, setEnv_same]; exact .bool _
          split at h
          · simp only [Option.some.injEq] at h
            refine plain _ _ _ h.symm (fun _ => OpGo.runs hm hd ⟨.bool true, ?_, by simp only [den]; exact .bool _⟩)
            have hx := (hxv _ _ h1).1
            simp only [den] at hx
            have hv : a.eval x = .slice none 0 0 := by generalize a.eval x = v at hx; cases hx; rfl
            exact hrun none 0 0 hv
          · rename_i i
            split at h
            · rename_i sz ec hl
              simp only [Option.some.injEq] at h
              refine key ec [] h.symm (fun _ => ?_)
              obtain ⟨b, n, m, hb, hnil⟩ := slice_of hm (hxv _ _ h1).1 (.inl ⟨i, rfl, sz, ec, hl⟩)
              refine ⟨b, n, m, hb, fun hbb => ?_⟩
              rcases hnil hbb with ⟨j, hj, sz', ec', hl', hd'⟩ | hd'
              · cases hj; rw [hl] at hl'; cases hl'; exact hd'
              · simp [den] at hd'
            · cases h
          · rename_i hnr
            simp only [Option.some.injEq] at h
            refine key _ _ h.symm (fun hck => ?_)
            have hk := hck.one
            simp only [dens] at hk
            obtain ⟨xs, hxs⟩ : ∃ xs, den ρ e = .sl xs := by
              cases hd : den ρ e <;> rw [hd] at hk <;> simp [pok] at hk
              exact ⟨_, rfl⟩
            obtain ⟨b, n, m, hb, hnil⟩ := slice_of hm (hxv _ _ h1).1 (.inr ⟨xs, hxs⟩)
            refine ⟨b, n, m, hb, fun hbb => ?_⟩
            rcases hnil hbb with ⟨j, hj, _⟩ | hd'
            · exact absurd hj (hnr j)
            · exact hd'
        · cases h
      · cases h
    case h_13 T x hi ho =>
      split at h
      · rename_i i eh el h1 h2 h3
        split at h
        · rename_i sz ec sz' g hl h5
          split at h
          · rename_i hc
            obtain ⟨rfl, hwf⟩ := hc
            simp only [Option.some.injEq] at h
            refine plain _ _ _ h.symm (fun hck => op_reslice hm hn0 ho h3 h5 hl (by simpa using (hxv _ _ h1).1) (hev _ _ h2).1 ?_ hwf hid)
            have := hck (.slice false true, [ec, eh]) (by simp)
            simpa only [dens] using this
          · cases h
        · cases h
      · cases h
    case h_14 T x hh mm ho =>
      split at h
      · rename_i e k k' el h1 h2 h3 h4
        split at h
        · rename_i sz g h5
          simp only [Option.some.injEq] at h
          refine plain _ _ _ h.symm (fun hck => ?_)
          have hk := hck.one
          simp only [dens] at hk
          obtain ⟨es, hes⟩ : ∃ es, den ρ e = .sl es := by
            cases hd : den ρ e <;> rw [hd] at hk <;> simp [pok] at hk
            exact ⟨_, rfl⟩
          have r1 := (hev _ _ h1).1
          rw [hes] at r1
          have z : ∀ (q : Operand) (k : IntKind), Rv c (den ρ (.int k 0)) (a.eval q) → a.eval q = .int k 0 := by
            intro q k hq
            simp only [den] at hq
            generalize a.eval q = v at hq
            cases hq; rfl
          exact op_cut0 hm ho h4 h5 r1 (z _ _ (hev _ _ h2).1) (z _ _ (hev _ _ h3).1) hid
        · cases h
      · cases h
    case h_15 T x ho =>
      split at h
      · rename_i i len el h1 h2
        split at h
        · rename_i cs g hl hs1
          split at h
          · rename_i hc
            simp only [Option.some.injEq] at h
            exact plain _ _ _ h.symm (fun _ => op_sliceAll hm ho h2 hs1 (by simpa using (hxv _ _ h1).1) hl hc.1 hc.2.1)
          · cases h
        · cases h
      · cases h
    case h_16 x1 x2 sT xT ho =>
      split at h
      · rename_i i e el h1 h2 h3
        split at h
        · rename_i cs g hl hs1
          split at h
          · rename_i hc
            simp only [Option.some.injEq] at h
            refine plain _ _ _ h.symm (fun hck => op_copy hm ho h3 hs1 (by simpa using (hxv _ _ h1).1) (hev _ _ h2).1 hl hc ?_)
            have := hck.one
            simpa only [dens] using this
          · cases h
        · cases h
      · cases h
    case h_17 => cases h

end Go.Lb
