/- More operations: a slice against nil, make, maps. -/
/- One operation, symbolically, whole. -/
/- The walk, symbolically: states, trees, the executor. -/
import Derived.Test.YtcidpfilgicfcaaFw3
import Derived.MapKept
set_option linter.unusedSimpArgs false
set_option linter.unusedVariables false
namespace Go.Lb
open Go.RowKit

variable {P : Program} {G : Glob} {ro : Option Nat} {n0 : Nat} {w0 : Base} {c : Cx} {ρ : Nat → AV} {O : Lk} {nenv : Nat} {o : Oper} {a : Act} {w : World}

/-! ### A slice against nil -/
theorem run_eqs {t el : TypeId} {x y : Operand} {va vb : Value} (neg : Bool) (h : P.underlying t = some (.slice el)) {b : Option Addr} {n m : Nat} (hb : va = .slice b n m) (hv : vb = .slice none 0 0) :
    (do eqGuard (if neg then .neq else .eql) t x y va vb; binOp (if neg then .neq else .eql) t va vb).run P w = .ok (.bool (b.isNone != neg)) w := by
  subst hb hv
  have e : (Op.equal t (.slice b n m) (.slice none 0 0)).run P w = .ok b.isNone w := by
    unfold Op.equal Op.maxDepth Op.equalIn
    simp only [Sem.run_bind, run_underlying h, Result.andThen_ok]
    cases b <;> rfl
  cases neg <;> simp [eqGuard, binOp, e]

/-- What is known of a slice that is nil. -/
def nilOk (O : Lk) (ρ : Nat → AV) (e : SE) (b : Bool) : Prop :=
  b = true → (∃ i, e = .row i ∧ ∃ sz ec, O i = some (.row sz ec) ∧ den ρ ec = .sl []) ∨ den ρ e = .sl []

theorem slice_of {e : SE} {v : Value} (hm : Mem n0 w0 c ρ O nenv w) (he : Rv c (den ρ e) v) (hs : (∃ i, e = .row i ∧ ∃ sz ec, O i = some (.row sz ec)) ∨ ∃ xs, den ρ e = .sl xs) :
    ∃ b n m, v = .slice b n m ∧ nilOk O ρ e b.isNone := by
  rcases hs with ⟨i, rfl, sz, ec, hl⟩ | ⟨xs, hx⟩
  · obtain ⟨xs, h1, h2⟩ := hm.ok i _ hl
    simp only [den] at he
    cases he with
    | row _ aa n cap hh =>
      refine ⟨aa, n, cap, rfl, fun hb => .inl ⟨i, rfl, sz, ec, hl, ?_⟩⟩
      rw [hh] at h2
      cases h2 with
      | nil => exact h1
      | zero => simp at hb
      | row => simp at hb
  · rw [hx] at he
    cases he with
    | slnil => exact ⟨none, 0, 0, rfl, fun _ => .inr hx⟩
    | sl0 ad => exact ⟨some ad, 0, 0, rfl, fun h => by simp at h⟩
    | sl _ sz b o cap => exact ⟨some ⟨b, o, none⟩, _, _, rfl, fun h => by simp at h⟩

/-! ### make -/
def makeSliceSE (P : Program) (t : TypeId) (n : SE) : Option (Nat × SE × List Chk) :=
  match P.underlying t with
  | some (.slice e) => match tsz P e, (zeroSE P e).map SE.weaks, P.info? e with
    | some (sz, g), some z, some i =>
      if z.length = sz ∧ (g = false → sz = 1) ∧ sz ≠ 0 ∧ i.bytes ≤ 16384 then
        match g, z with
        | true, z => some (sz, .app .rep [n, .agg z], [(.rep, [n, .agg z])])
        | false, [z] => if z.sure1 then some (sz, .app .rep [n, z], [(.rep, [n, z])]) else none
        | _, _ => none
      else none
    | _, _, _ => none
  | _ => none

theorem flat_replicate (n : Nat) (v : AV) : AV.flat (List.replicate n v) = (List.replicate n v.cells).flatten := by
  induction n with
  | zero => rfl
  | succ n ih => rw [List.replicate_succ, List.replicate_succ, List.flatten_cons, flat_cons, ih]

theorem wrap_small {n : Int} (h0 : 0 ≤ n) (h1 : n ≤ 4294967296) : IntKind.i64.wrap n = n := by
  unfold IntKind.wrap
  simp only [IntKind.signed, IntKind.bits]
  have h64 : (2 : Int) ^ 64 = 18446744073709551616 := by decide
  have h63 : (2 : Int) ^ (64 - 1) = 9223372036854775808 := by decide
  have : n % 2 ^ 64 = n := by rw [h64]; exact Int.emod_eq_of_lt h0 (by omega)
  simp only [this]
  first
    | (split <;> omega)
    | (simp [h63]; omega)

theorem op_makeSlice (hm : Mem n0 w0 c ρ O nenv w) (hn0 : n0 ≤ w.heap.size) {t sz : Nat} {l m : Operand} {n e : SE} {ck : List Chk} (ho : o.op = .makeSlice t l m)
    (hb : makeSliceSE P t n = some (sz, e, ck)) (hl : Rv c (den ρ n) (a.eval l)) (hm' : Rv c (den ρ n) (a.eval m)) (hck : Chks ρ ck) (hwf : e.wf nenv O.dom = true) {nid : Nat} (hid : O nid = none) :
    OpGo P ro n0 w0 c ρ O (.row nid) (O.upd nid (.row sz e)) nenv o a w := by
  intro k next Q hn
  unfold makeSliceSE at hb
  split at hb
  case h_2 => cases hb
  rename_i el hu
  split at hb
  case h_2 => cases hb
  rename_i sz' g z i ht hz hi
  split at hb
  case isFalse => cases hb
  rename_i hc
  obtain ⟨c1, c2, c3, c4⟩ := hc
  obtain ⟨zz, hzz, rfl⟩ := Option.map_eq_some_iff.1 hz
  obtain ⟨zv, z1, z2⟩ := zeroSE_sound (w := w) (c := c) (ρ := ρ) hzz
  replace z2 := weaks_sound zz z2
  have hzl : zv.cells.size = sz' := by have := z2.length; rw [dens_length, c1] at this; simpa using this
  -- one value of an element
  obtain ⟨ze, hze, hcells⟩ : ∃ ze, (sz, e, ck) = (sz', .app .rep [n, ze], [(.rep, [n, ze])]) ∧ (den ρ ze).cells = dens ρ (SE.weaks zz) := by
    split at hb
    · simp only [Option.some.injEq] at hb
      exact ⟨.agg (SE.weaks zz), hb.symm, by simp⟩
    · rename_i _ z1 hzz1
      split at hb
      · rename_i h1
        simp only [Option.some.injEq] at hb
        refine ⟨z1, hb.symm, ?_⟩
        rw [hzz1]
        have := SE.sure1_one (ρ := ρ) h1
        simp only [dens]
        cases hd : den ρ z1 <;> simp_all
      · cases hb
    · cases hb
  simp only [Prod.mk.injEq] at hze
  obtain ⟨rfl, rfl, rfl⟩ := hze
  have hk := hck.one
  simp only [dens] at hk
  cases hdn : den ρ n with
  | int kk num =>
    rw [hdn] at hk hl hm'
    simp only [pok] at hk
    obtain ⟨k0, k1, k2⟩ := hk
    obtain ⟨q, rfl⟩ : ∃ q : Nat, num = q := ⟨num.toNat, by omega⟩
    have hden : den ρ (.app .rep [n, ze]) = .sl (List.replicate q (den ρ ze)) := by simp only [den, dens, hdn, pv, Int.toNat_natCast]
    have hlc : (den ρ ze).cells.length = sz := by rw [hcells, dens_length, c1]
    have hflat : Rvs c (AV.flat (List.replicate q (den ρ ze))) ((Array.range (q * sz)).map (fun x => zv.cells[x % zv.cells.size]!)).toList := by
      rw [flat_replicate, hcells, ← hzl, range_mod_toList]; exact Rvs_replicate z2 q
    have hfl : ((Array.range (q * sz)).map (fun x => zv.cells[x % zv.cells.size]!)).toList.length = q * sz := by simp
    have hnew := hm.newRow hn0 hid (.app .rep [n, ze]) _ q sz ((Array.range (q * sz)).map (fun x => zv.cells[x % zv.cells.size]!)).toList el hden hwf (by simp) (by rw [hfl]; exact Nat.le_refl _)
      (by intro x hx; rw [List.eq_of_mem_replicate hx]; exact hlc) (by rw [List.length_replicate, List.take_of_length_le (by rw [hfl]; exact Nat.le_refl _)]; exact hflat)
    rw [List.length_replicate] at hnew
    have hvl : a.eval l = .int kk q := by generalize a.eval l = v at hl; cases hl; rfl
    have hvm : a.eval m = .int kk q := by generalize a.eval m = v at hm'; cases hm'; rfl
    refine wpIn_value (by rw [ho]; intro c h; cases h) (v := .slice (some ⟨w.heap.size, 0, none⟩) q q) (w' := w.alloc (.cells ((Array.range (q * sz)).map (fun x => zv.cells[x % zv.cells.size]!)) el)) ?_ (hn _ _ _ (c.seth_keeps hid) ?_ hnew)
    · have hw := wrap_small k0 k1
      have hb48 : ¬ (i.bytes : Int) * q > 2 ^ 48 := by
        have h1 : i.bytes * q ≤ 16384 * 4294967296 := Nat.mul_le_mul c4 (by omega)
        have h2 : ((i.bytes * q : Nat) : Int) = (i.bytes : Int) * q := Int.natCast_mul _ _
        have h3 : (2 : Int) ^ 48 = 281474976710656 := by decide
        rw [h3, ← h2]; omega
      clear hnew
      have hcond : ((decide ((q : Int) < 0) || decide ((i.bytes : Int) * q > 2 ^ 48)) || decide ((q : Int) < 0) || decide ((q : Int) > q)) = false := by
        rw [decide_eq_false hb48, decide_eq_false (show ¬ (q : Int) < 0 by omega), decide_eq_false (show ¬ (q : Int) > q by omega)]; rfl
      have hrange : ∀ Z : Array Value, (q * sz = 0 ∨ Z = zv.cells) → (Array.range (q * sz)).map (fun x => Z[x % Z.size]!) = (Array.range (q * sz)).map (fun x => zv.cells[x % zv.cells.size]!) := by
        intro Z hZ
        rcases hZ with h0 | h0
        · rw [h0]
          have : Array.range 0 = #[] := by simp [Array.range]
          rw [this, Array.map_empty, Array.map_empty]
        · rw [h0]
      simp only [execOp, ho, hvl, hvm, Instr.makeSlice, Sem.run_bind, run_underlying hu, Result.andThen_ok, asInt, asIntOf, Sem.run_pure, run_typeInfo hi, hw]
      generalize (decide ((q : Int) < 0) || decide ((i.bytes : Int) * q > 2 ^ 48) || decide ((q : Int) < 0) || decide ((q : Int) > q)) = bb at hcond
      subst hcond
      simp only [Bool.false_eq_true, if_false, Sem.run_bind, run_askRoom, Result.andThen_ok, (tsz_spec ht w).1, Int.toNat_natCast]
      by_cases h0 : q * sz = 0
      · rw [if_pos h0]
        simp only [Sem.run_bind, Sem.run_pure, Result.andThen_ok]
        rw [hrange #[] (.inl h0)]
        rfl
      · rw [if_neg h0]
        simp only [Sem.run_bind, z1, Sem.run_pure, Result.andThen_ok]
        rfl
    · simp only [den]; exact .row nid _ _ _ (by simp [Cx.seth])
  | _ => rw [hdn] at hk; simp [pok] at hk

/-! ### Maps of numbers -/
theorem op_makeMap (hm : Mem n0 w0 c ρ O nenv w) (hn0 : n0 ≤ w.heap.size) {t : TypeId} (k : IntKind) (ho : o.op = .makeMap t none) {nid : Nat} (hid : O nid = none) :
    OpGo P ro n0 w0 c ρ O (.mref nid) (O.upd nid (.mapo k [] [])) nenv o a w := by
  intro n next Q hn
  have hk : c.Keeps O.dom (c.setβ nid w.heap.size) := c.setβ_keeps hid
  have hnew := hm.new (.map #[] 0) nid hid (.mapo k [] []) hk rfl rfl rfl ⟨[], 0, by simp only [Cx.setβ, if_true]; exact World.alloc_heap_new w _, rfl, .nil⟩ (by intro b hb; simp [bl, Cx.setβ] at hb; exact hb.symm) hn0
  refine wpIn_value (by rw [ho]; intro c h; cases h) (v := .map (some w.heap.size)) (w' := w.alloc (.map #[] 0)) ?_ (hn _ _ _ hk ?_ hnew)
  · simp only [execOp, ho, Option.map_none, Instr.makeMap]; rfl
  · have := Rv.mref (c := c.setβ nid w.heap.size) nid
    simpa [Cx.setβ, den] using this

theorem Rvs.set {c : Cx} {as : List AV} {vs : List Value} (h : Rvs c as vs) (j : Nat) {x : AV} {v : Value} (hx : Rv c x v) : Rvs c (as.set j x) (vs.set j v) := by
  induction as generalizing vs j with
  | nil => cases h; exact .nil
  | cons a as ih =>
    cases h with
    | cons _ u _ vs h1 h2 =>
      cases j with
      | zero => exact .cons _ _ _ _ hx h2
      | succ j => exact .cons _ _ _ _ h1 (ih h2 j)

/-- The values of a map with one put in. -/
def mapPut (n : Int) (v : SE) : List Int → List SE → List Int × List SE
  | k :: ks, u :: us => if k = n then (k :: ks, v :: us) else (k :: (mapPut n v ks us).1, u :: (mapPut n v ks us).2)
  | ks, us => (ks ++ [n], us ++ [v])

theorem findNow_ints {kk k : IntKind} {n : Int} : ∀ (es : List MapEntry) (ks : List Int) (j : Nat), es.map (·.key) = ks.map (Value.int k) →
    (n ∉ ks ∧ Instr.findNow (.int kk) (.int k n) es j = some none) ∨ (∃ i e, es[i]? = some e ∧ ks[i]? = some n ∧ n ∉ ks.take i ∧ Instr.findNow (.int kk) (.int k n) es j = some (some (j + i, e.val))) := by
  intro es
  induction es with
  | nil => intro ks j h; cases ks with
    | nil => exact .inl ⟨by simp, rfl⟩
    | cons => simp at h
  | cons e es ih =>
    intro ks j h
    cases ks with
    | nil => simp at h
    | cons m ks =>
      simp only [List.map_cons, List.cons.injEq] at h
      by_cases hmn : n = m
      · subst hmn
        refine .inr ⟨0, e, rfl, rfl, by simp, ?_⟩
        simp [Instr.findNow, Instr.sameNow, h.1]
      · rcases ih ks (j + 1) h.2 with ⟨h1, h2⟩ | ⟨i, e', h1, h2, h3, h4⟩
        · refine .inl ⟨by simp [hmn, h1], ?_⟩
          have hb : (n == m) = false := by simpa using hmn
          simp [Instr.findNow, Instr.sameNow, h.1, hb, h2]
        · refine .inr ⟨i + 1, e', by simpa using h1, by simpa using h2, by simp [hmn, h3], ?_⟩
          have hb : (n == m) = false := by simpa using hmn
          simp [Instr.findNow, Instr.sameNow, h.1, hb, h4]
          omega

theorem mapPut_new {n : Int} {v : SE} : ∀ (ks : List Int) (us : List SE), ks.length = us.length → n ∉ ks → mapPut n v ks us = (ks ++ [n], us ++ [v]) := by
  intro ks
  induction ks with
  | nil => intro us h _; cases us with
    | nil => rfl
    | cons => simp at h
  | cons k ks ih =>
    intro us h hn
    cases us with
    | nil => simp at h
    | cons u us =>
      simp only [List.mem_cons, not_or] at hn
      simp only [List.length_cons, Nat.add_right_cancel_iff] at h
      simp only [mapPut, if_neg (Ne.symm hn.1), ih us h hn.2, List.cons_append]

theorem mapPut_old {n : Int} {v : SE} : ∀ (ks : List Int) (us : List SE) (i : Nat), ks.length = us.length → ks[i]? = some n → n ∉ ks.take i → mapPut n v ks us = (ks, us.set i v) := by
  intro ks
  induction ks with
  | nil => intro us i _ h; simp at h
  | cons k ks ih =>
    intro us i h hi hn
    cases us with
    | nil => simp at h
    | cons u us =>
      simp only [List.length_cons, Nat.add_right_cancel_iff] at h
      cases i with
      | zero => simp at hi; simp [mapPut, hi]
      | succ i =>
        simp only [List.take_succ_cons, List.mem_cons, not_or] at hn
        simp only [List.getElem?_cons_succ] at hi
        simp only [mapPut, if_neg (Ne.symm hn.1), ih us i h hi hn.2, List.set_cons_succ]

theorem op_insert (hm : Mem n0 w0 c ρ O nenv w) {t kt vt : TypeId} {x k v : Operand} {e : SE} {i : Nat} {kk : IntKind} {n : Int} {ks : List Int} {us : List SE} (ho : o.op = .insert t x k v)
    (ht : P.underlying t = some (.map kt vt)) (hkt : P.underlying kt = some (.int kk)) (hx : Rv c (.mref i) (a.eval x)) (hk : a.eval k = .int kk n) (hv : Rv c (den ρ e) (a.eval v)) (hl : O i = some (.mapo kk ks us))
    (hwf : SE.wfs nenv O.dom (mapPut n e ks us).2 = true) :
    OpGo P ro n0 w0 c ρ O .undef (O.upd i (.mapo kk (mapPut n e ks us).1 (mapPut n e ks us).2)) nenv o a w := by
  intro nn next Q hn
  obtain ⟨es, clk, hb, hks, hvs⟩ := hm.ok i _ hl
  have hve : a.eval x = .map (some (c.β i)) := by generalize a.eval x = vx at hx; cases hx; rfl
  have hlk : ks.length = es.length := by have := congrArg List.length hks; simpa using this.symm
  have hlu : ks.length = us.length := by have := hvs.length; rw [dens_length] at this; simp at this; omega
  have hfr := hm.fresh i _ (c.β i) hl rfl
  have hck : ∀ (b : Bool), (Instr.checkKey b 10000 kt (.int kk n)).run P w = .ok () w := fun b => MapKept.run_checkKey hkt (by simp [MapKept.IsKey]) b 9999
  have hother : ∀ (ob : Obj) k, k ≠ c.β i → ({ w with heap := w.heap.setIfInBounds (c.β i) ob } : World).heap[k]? = w.heap[k]? := by
    intro ob k hk
    simp only
    rw [Array.getElem?_setIfInBounds]
    rw [if_neg (Ne.symm hk)]
  have hself : ∀ (ob : Obj), ({ w with heap := w.heap.setIfInBounds (c.β i) ob } : World).heap[c.β i]? = some ob := by
    intro ob
    simp only
    rw [Array.getElem?_setIfInBounds, if_pos rfl, if_pos hfr.2]
  have hmem : ∀ (es' : List MapEntry) (clk' : Nat), es'.map (·.key) = (mapPut n e ks us).1.map (Value.int kk) → Rvs c (dens ρ (mapPut n e ks us).2) (es'.map (·.val)) →
      Mem n0 w0 c ρ (O.upd i (.mapo kk (mapPut n e ks us).1 (mapPut n e ks us).2)) nenv { w with heap := w.heap.setIfInBounds (c.β i) (.map ⟨es'⟩ clk') } := by
    intro es' clk' h1 h2
    exact hm.turn hl rfl rfl hwf ⟨es', clk', hself _, h1, h2⟩ (hother _) (by simp) rfl rfl rfl
  refine wpIn_run (by rw [ho]; intro c h; cases h) ?_
  rcases findNow_ints (kk := kk) (k := kk) (n := n) es ks 0 hks with ⟨h1, h2⟩ | ⟨j, m, h1, h2, h3, h4⟩
  · have hput := mapPut_new (v := e) ks us hlu h1
    have hrun : (execOp a.eval o).run P w = .ok .skip { w with heap := w.heap.setIfInBounds (c.β i) (.map ⟨es ++ [{ key := .int kk n, val := a.eval v, born := clk }]⟩ (clk + 1)) } := by
      simp only [execOp, ho, Sem.run_bind, Instr.mapUpdate, run_underlying ht, Result.andThen_ok, hve, MapKept.run_getObj_map hb, hk, hck, MapKept.run_findKey hkt h2, MapKept.run_setObj_map _ hb, Sem.run_pure]
      simp
    rw [hrun]
    refine hn _ _ _ (Cx.Keeps.refl _ _) (.undef _ (fun _ h => by cases h)) (hmem _ _ ?_ ?_)
    · rw [hput]; simp [hks]
    · rw [hput]; simp only [dens_append, List.map_append]; exact hvs.append (.cons _ _ _ _ hv .nil)
  · have hput := mapPut_old (v := e) ks us j hlu h2 h3
    have hmk : m.key = .int kk n := by
      have := congrArg (fun l => l[j]?) hks
      simp only [List.getElem?_map, h1, h2, Option.map_some, Option.some.injEq] at this
      exact this
    rw [Nat.zero_add] at h4
    have hjl : j < es.length := (List.getElem?_eq_some_iff.1 h1).1
    have hrun : (execOp a.eval o).run P w = .ok .skip { w with heap := w.heap.setIfInBounds (c.β i) (.map ⟨es.modify j fun m => { m with key := .int kk n, val := a.eval v }⟩ clk) } := by
      simp only [execOp, ho, Sem.run_bind, Instr.mapUpdate, run_underlying ht, Result.andThen_ok, hve, MapKept.run_getObj_map hb, hk, hck, MapKept.run_findKey hkt h4, Sem.run_pure]
      have hkeep : (Instr.keyThatStays (((⟨es⟩ : Array MapEntry)[j]?.map (·.key)).getD (.int kk n)) (.int kk n)).run P w = .ok (.int kk n) w := by
        simp only [List.getElem?_toArray, h1, Option.map_some, Option.getD_some, hmk]
        simp [Instr.keyThatStays, Instr.sameBits]
      simp only [hkeep, Result.andThen_ok, MapKept.run_setObj_map _ hb]
      simp
    rw [hrun]
    refine hn _ _ _ (Cx.Keeps.refl _ _) (.undef _ (fun _ h => by cases h)) (hmem _ _ ?_ ?_)
    · rw [hput]
      apply List.ext_getElem?
      intro q
      have hq := congrArg (fun l => l[q]?) hks
      simp only [List.getElem?_map] at hq
      simp only [List.getElem?_map, List.getElem?_modify]
      by_cases hqj : j = q
      · subst hqj
        simp [h1, h2]
      · simp [hqj]; exact hq
    · rw [hput]
      have e1 : (es.modify j fun m => { m with key := .int kk n, val := a.eval v }).map (·.val) = (es.map (·.val)).set j (a.eval v) := by
        apply List.ext_getElem?
        intro q
        simp only [List.getElem?_map, List.getElem?_modify, List.getElem?_set]
        by_cases hqj : j = q
        · subst hqj; simp [h1, hjl]
        · simp [hqj]
      have e2 : dens ρ (us.set j e) = (dens ρ us).set j (den ρ e) := by simp [dens_map]
      rw [e1, e2]
      exact hvs.set j hv

theorem den_lookChain (key : SE) {k : IntKind} {n : Int} (hk : den ρ key = .int k n) (z : SE) : ∀ (ks : List Int) (us : List SE), ks.length = us.length →
    (n ∉ ks ∧ den ρ (lookChain key k ks us z) = den ρ z) ∨ (∃ i u, us[i]? = some u ∧ ks[i]? = some n ∧ n ∉ ks.take i ∧ den ρ (lookChain key k ks us z) = den ρ u) := by
  intro ks
  induction ks with
  | nil => intro us h; cases us with
    | nil => exact .inl ⟨by simp, rfl⟩
    | cons => simp at h
  | cons m ks ih =>
    intro us h
    cases us with
    | nil => simp at h
    | cons u us =>
      simp only [List.length_cons, Nat.add_right_cancel_iff] at h
      by_cases hmn : n = m
      · subst hmn
        refine .inr ⟨0, u, rfl, rfl, by simp, ?_⟩
        simp [lookChain, hk, pv]
      · have hb : (n == m) = false := by simpa using hmn
        rcases ih us h with ⟨h1, h2⟩ | ⟨i, u', h1, h2, h3, h4⟩
        · refine .inl ⟨by simp [hmn, h1], ?_⟩
          simp [lookChain, hk, pv, hb, h2]
        · refine .inr ⟨i + 1, u', by simpa using h1, by simpa using h2, by simp [hmn, h3], ?_⟩
          simp [lookChain, hk, pv, hb, h4]

/-- The zero value of a type of one cell. -/
def zero1 (P : Program) (t : TypeId) : Option SE :=
  match P.info? t with
  | some i => match i.zero with
    | some v => seOf v
    | none => none
  | none => none
theorem zero1_sound {t : TypeId} {e : SE} (h : zero1 P t = some e) : ∃ v, (zeroValue t).run P w = .ok v w ∧ Rv c (den ρ e) v := by
  unfold zero1 at h
  split at h
  · rename_i i hi
    split at h
    · rename_i v hv
      exact ⟨v, by simp [zeroValue, run_typeInfo hi, hv], seOf_sound c ρ v e h⟩
    · cases h
  · cases h

theorem run_lookup0 {t kt vt : TypeId} {key z : SE} {b : Nat} {kk : IntKind} {ks : List Int} {us : List SE} {es : List MapEntry} {clk : Nat} {vk : Value}
    (ht : P.underlying t = some (.map kt vt)) (hkt : P.underlying kt = some (.int kk)) (hb : w.heap[b]? = some (.map ⟨es⟩ clk)) (hks : es.map (·.key) = ks.map (Value.int kk)) (hvs : Rvs c (dens ρ us) (es.map (·.val))) (hk : Rv c (den ρ key) vk)
    (hz : zero1 P vt = some z) (hkey : ∃ n, den ρ key = .int kk n) : Runs P w c (den ρ (lookChain key kk ks us z)) (Instr.lookup t (.map (some b)) vk false) := by
  obtain ⟨n, hkn⟩ := hkey
  have hlu : ks.length = us.length := by have := hvs.length; rw [dens_length] at this; have h2 := congrArg List.length hks; simp at this h2; omega
  rw [hkn] at hk
  cases hk
  have hck : ∀ (b : Bool), (Instr.checkKey b 10000 kt (.int kk n)).run P w = .ok () w := fun b => MapKept.run_checkKey hkt (by simp [MapKept.IsKey]) b 9999
  obtain ⟨zv, z1, hzr⟩ := zero1_sound (w := w) (c := c) (ρ := ρ) hz
  have hfn := findNow_ints (kk := kk) (k := kk) (n := n) es ks 0 hks
  have hlc := den_lookChain key hkn z ks us hlu
  rcases hfn with ⟨h1, h2⟩ | ⟨j, m, h1, h2, h3, h4⟩
  · rcases hlc with ⟨_, h5⟩ | ⟨i', u, _, h6, _⟩
    · refine ⟨zv, ?_, by rw [h5]; exact hzr⟩
      simp only [Instr.lookup, Sem.run_bind, run_underlying ht, Result.andThen_ok, MapKept.run_getObj_map hb, Sem.run_pure, hck, MapKept.run_findKey hkt h2, z1]
      rfl
    · exact absurd (List.mem_of_getElem? h6) h1
  · rcases hlc with ⟨h5, _⟩ | ⟨i', u, h5, h6, h7, h8⟩
    · exact absurd (List.mem_of_getElem? h2) h5
    · have hij : i' = j := by
        rcases Nat.lt_trichotomy i' j with hlt | he | hlt
        · exfalso; apply h3; exact List.mem_of_getElem? (i := i') (by rw [List.getElem?_take, if_pos hlt]; exact h6)
        · exact he
        · exfalso; apply h7; exact List.mem_of_getElem? (i := j) (by rw [List.getElem?_take, if_pos hlt]; exact h2)
      subst hij
      obtain ⟨v, hv, hr⟩ := hvs.get (i := i') (a := den ρ u) (by rw [dens_getElem?, h5]; rfl)
      simp only [List.getElem?_map, h1, Option.map_some, Option.some.injEq] at hv
      subst hv
      refine ⟨m.val, ?_, by rw [h8]; exact hr⟩
      simp only [Instr.lookup, Sem.run_bind, run_underlying ht, Result.andThen_ok, MapKept.run_getObj_map hb, Sem.run_pure, hck, MapKept.run_findKey hkt h4]
      rfl

theorem run_lookup (hm : Mem n0 w0 c ρ O nenv w) {t kt vt : TypeId} {key z : SE} {i : Nat} {kk : IntKind} {ks : List Int} {us : List SE} {vx vk : Value}
    (ht : P.underlying t = some (.map kt vt)) (hkt : P.underlying kt = some (.int kk)) (hx : Rv c (.mref i) vx) (hk : Rv c (den ρ key) vk) (hl : O i = some (.mapo kk ks us))
    (hz : zero1 P vt = some z) (hkey : ∃ n, den ρ key = .int kk n) : Runs P w c (den ρ (lookChain key kk ks us z)) (Instr.lookup t vx vk false) := by
  obtain ⟨es, clk, hb, hks, hvs⟩ := hm.ok i _ hl
  cases hx
  exact run_lookup0 ht hkt hb hks hvs hk hz hkey

/-- Of an immutable map. -/
theorem run_lookup_mp (hm : Mem n0 w0 c ρ O nenv w) {t kt vt : TypeId} {key z : SE} {kk : IntKind} {ks : List Int} {us : List SE} {vx vk : Value}
    (ht : P.underlying t = some (.map kt vt)) (hkt : P.underlying kt = some (.int kk)) (hx : Rv c (.mp kk ks (dens ρ us)) vx) (hk : Rv c (den ρ key) vk)
    (hz : zero1 P vt = some z) (hkey : ∃ n, den ρ key = .int kk n) : Runs P w c (den ρ (lookChain key kk ks us z)) (Instr.lookup t vx vk false) := by
  cases hx with
  | mp _ _ _ b clk es h1 h2 h3 => exact run_lookup0 ht hkt (hm.imm.M _ _ h1) h2 h3 hk hz hkey


end Go.Lb

namespace Go.Lb
open Go.RowKit

/-! ### What is asked ahead of an operation -/
def setEnv (ρ : Nat → AV) (n : Nat) (v : AV) : Nat → AV := fun i => if i = n then v else ρ i
theorem setEnv_agree (ρ : Nat → AV) (n : Nat) (v : AV) : Agree n ρ (setEnv ρ n v) := fun i hi => by simp [setEnv, show i ≠ n from by omega]
theorem setEnv_pure {ρ : Nat → AV} (h : ∀ i, (ρ i).pure = true) (n : Nat) {v : AV} (hv : v.pure = true) : ∀ i, (setEnv ρ n v i).pure = true := by
  intro i; unfold setEnv; split
  · exact hv
  · exact h i
theorem setEnv_same (ρ : Nat → AV) (n : Nat) (v : AV) : setEnv ρ n v n = v := by simp [setEnv]

inductive Nd where
  | chk (pcs : List (SE × Bool)) (o : PF) (args : List SE)
  | call (n : Nat) (pcs : List (SE × Bool)) (f : Nat) (args : List SE) (borrow : Bool)
  | isNil (n : Nat) (pcs : List (SE × Bool)) (e : SE)
  | same (n : Nat) (pcs : List (SE × Bool)) (e : SE)
  deriving Inhabited, Repr

/-- What a run of questions comes to. -/
def SegWp (P : Program) (G : Glob) (ρ : Nat → AV) : List Nd → ((Nat → AV) → Prop) → Prop
  | [], K => K ρ
  | .chk pcs o args :: ns, K => (Holds ρ pcs → pok o (dens ρ args)) ∧ SegWp P G ρ ns K
  | .call n pcs f args b :: ns, K => ∃ r, r.pure = true ∧ (Holds ρ pcs → Contract P G f (dens ρ args) r ∧ (b = true → r.scalar = true)) ∧ SegWp P G (setEnv ρ n r) ns K
  | .same n pcs e :: ns, K => (Holds ρ pcs → ρ n = den ρ e) ∧ SegWp P G ρ ns K
  | .isNil n pcs e :: ns, K => ∀ b, (Holds ρ pcs → b = true → den ρ e = .sl []) → SegWp P G (setEnv ρ n (.bool b)) ns K

def chkNds (pcs : List (SE × Bool)) (ck : List Chk) : List Nd := ck.map fun x => .chk pcs x.1 x.2

theorem SegWp.chks {P : Program} {G : Glob} {ρ : Nat → AV} {pcs : List (SE × Bool)} {K : (Nat → AV) → Prop} : ∀ {ck : List Chk} {ns : List Nd}, SegWp P G ρ (chkNds pcs ck ++ ns) K →
    (Holds ρ pcs → Chks ρ ck) ∧ SegWp P G ρ ns K := by
  intro ck
  induction ck with
  | nil => intro ns h; exact ⟨fun _ x hx => (by cases hx), h⟩
  | cons x ck ih =>
    intro ns h
    obtain ⟨h1, h2⟩ := h
    obtain ⟨h3, h4⟩ := ih h2
    refine ⟨fun hp y hy => ?_, h4⟩
    rcases List.mem_cons.1 hy with rfl | hy
    · exact h1 hp
    · exact h3 hp y hy

structure Step where
  val : SE
  dl : List (Nat × OS)
  ck : List Chk
  /-- A call by contract. -/
  call : Option (Nat × List SE × Bool)
  /-- A slice against nil. -/
  nil : Option SE
  deriving Inhabited, Repr

def Step.nenv (s : Step) (n : Nat) : Nat := if s.call.isSome || s.nil.isSome then n + 1 else n
def Step.nodes (s : Step) (n : Nat) (pcs : List (SE × Bool)) : List Nd :=
  chkNds pcs s.ck ++ match s.call, s.nil with
    | some (f, args, b), _ => [.call n pcs f args b]
    | none, some e => [.isNil n pcs e]
    | none, none => []

def upds (L : Lk) (dl : List (Nat × OS)) : Lk := dl.foldl (fun L x => L.upd x.1 x.2) L

def sStore (P : Program) (L : Lk) (nenv : Nat) (T : TypeId) (ax e : SE) : Option (List (Nat × OS) × List Chk) :=
  match tsz P T with
  | none => none
  | some (k, g) =>
    if g = false → k = 1 then
      match ax with
      | .ptr i off => match L i with
        | some (.box cs) => if off + k ≤ cs.length ∧ SE.wfs nenv L.dom (cellsN k g e).1 = true then some ([(i, .box (putL cs off (cellsN k g e).1))], (cellsN k g e).2) else none
        | _ => none
      | .ptrx i base idx len sz off => match L i with
        | some (.box cs) =>
          if base + len * sz ≤ cs.length ∧ off + k ≤ sz ∧ SE.wfs nenv L.dom (cs.zipIdx.map fun (u, j) => if base ≤ j ∧ j < base + len * sz then .app (.cellset base len sz off k j) [idx, u, .agg (cellsN k g e).1] else u) = true then
            some ([(i, .box (cs.zipIdx.map fun (u, j) => if base ≤ j ∧ j < base + len * sz then .app (.cellset base len sz off k j) [idx, u, .agg (cellsN k g e).1] else u))], (.inr len, [idx]) :: (cellsN k g e).2)
          else none
        | _ => none
      | .rptr i idx sz off => match L i with
        | some (.row sz' ec) =>
          if sz' = sz ∧ (SE.app (.rowset sz off k) [ec, idx, .agg (cellsN k g e).1]).wf nenv L.dom = true then
            some ([(i, .row sz (.app (.rowset sz off k) [ec, idx, .agg (cellsN k g e).1]))], (.rowset sz off k, [ec, idx, .agg (cellsN k g e).1]) :: (cellsN k g e).2)
          else none
        | _ => none
      | _ => none
    else none

/-- A row's content. -/
def rowSE (L : Lk) (sz : Nat) : SE → Option SE
  | .row j => match L j with
    | some (.row sz' e) => if sz' = sz then some e else none
    | _ => none
  | e => some e

def sAppend (P : Program) (L : Lk) (nenv nid : Nat) (sT xT : TypeId) (x1 x2 : SE) : Option (SE × List (Nat × OS) × List Chk) :=
  match P.underlying sT, P.underlying xT with
  | some (.slice elem), some (.slice _) => match tsz P elem, P.info? elem with
    | some (sz, _), some i => match i.zero, rowSE L sz x2 with
      | some z, some ey =>
        if i.bytes ≤ 16384 ∧ z.cells.size = sz then
          match x1 with
          | .row j => match L j with
            | some (.row sz' ec) => if sz' = sz ∧ (SE.app .app [ec, ey]).wf nenv L.dom = true then
                some (.row nid, [(j, .gone), (nid, .row sz (.app .app [ec, ey]))], [(.szs sz, [ey]), (.app, [ec, ey])]) else none
            | _ => none
          | .enil => if (SE.app .app [.nils, ey]).wf nenv L.dom = true then
              some (.row nid, [(nid + 1, .row sz .nils), (nid + 1, .gone), (nid, .row sz (.app .app [.nils, ey]))], [(.szs sz, [ey]), (.app, [.nils, ey])]) else none
          | _ => none
        else none
      | _, _ => none
    | _, _ => none
  | _, _ => none

/-- One operation: what it comes to. -/
def sOp (P : Program) (L : Lk) (xv : Ev) (nenv nid : Nat) (op : Op) : Option Step :=
  match sPure P L xv op with
  | some (e, ck) => some ⟨e, [], ck, none, none⟩
  | none =>
    match op with
    | .nilCheck x => match xv x with
      | some (.ptr i k) => some ⟨.ptr i k, [], [], none, none⟩
      | some (.ref cs k) => some ⟨.ref cs k, [], [], none, none⟩
      | some (.clo f x y) => some ⟨.clo f x y, [], [], none, none⟩
      | _ => none
    | .box T x => match xv x, tsz P T with
      | some e, some (k, g) => if (g = false → k = 1) ∧ SE.wfs nenv L.dom (cellsN k g e).1 = true then some ⟨.ptr nid 0, [(nid, .box (cellsN k g e).1)], (cellsN k g e).2, none, none⟩ else none
      | _, _ => none
    | .alloc T => match zeroSE P T with
      | some cs => some ⟨.ptr nid 0, [(nid, .box cs)], [], none, none⟩
      | none => none
    | .store T x y => match xv x, xv y with
      | some ax, some e => (sStore P L nenv T ax e).map fun r => ⟨.undef, r.1, r.2, none, none⟩
      | _, _ => none
    | .buildSlice t len parts => match evAll (wk xv) (parts.toList.map (·.2)) with
      | some es => match buildSliceSE P t len ((parts.toList.map (·.1)).zip es) with
        | some (sz, e, ck) => if e.wf nenv L.dom = true then some ⟨.row nid, [(nid, .row sz e)], ck, none, none⟩ else none
        | none => none
      | none => none
    | .makeSlice t l m => match wk xv l, wk xv m with
      | some n, some n' => if SE.beq n n' = true then match makeSliceSE P t n with
        | some (sz, e, ck) => if e.wf nenv L.dom = true then some ⟨.row nid, [(nid, .row sz e)], ck, none, none⟩ else none
        | none => none else none
      | _, _ => none
    | .makeMap t none => match P.underlying t with
      | some (.map kt _) => match P.underlying kt with
        | some (.int k) => some ⟨.mref nid, [(nid, .mapo k [] [])], [], none, none⟩
        | _ => none
      | _ => none
    | .insert t x k v => match xv x, k, wk xv v, P.underlying t with
      | some (.mref i), .const (.int kk n), some e, some (.map kt _) => match L i, P.underlying kt with
        | some (.mapo kk' ks us), some (.int kk'') =>
          if kk' = kk ∧ kk'' = kk ∧ SE.wfs nenv L.dom (mapPut n e ks us).2 = true then some ⟨.undef, [(i, .mapo kk (mapPut n e ks us).1 (mapPut n e ks us).2)], [], none, none⟩ else none
        | _, _ => none
      | _, _, _, _ => none
    | .lookup t x k false => match xv x, wk xv k, P.underlying t with
      | some (.mref i), some key, some (.map kt vt) => match L i, P.underlying kt, zero1 P vt with
        | some (.mapo kk ks us), some (.int kk'), some z =>
          if kk' = kk then some ⟨lookChain key kk ks us z, [], [(.bin .eql, [key, .int kk 0])], none, none⟩ else none
        | _, _, _ => none
      | some (.mp kk ks us), some key, some (.map kt vt) => match P.underlying kt, zero1 P vt with
        | some (.int kk'), some z =>
          if kk' = kk then some ⟨lookChain key kk ks us z, [], [(.bin .eql, [key, .int kk 0])], none, none⟩ else none
        | _, _ => none
      | _, _, _ => none
    | .call { callee := .builtin .append, args := ⟨[x1, x2]⟩, argTypes := ⟨[sT, xT]⟩ } => match xv x1, wk xv x2 with
      | some e1, some e2 => (sAppend P L nenv nid sT xT e1 e2).map fun r => ⟨r.1, r.2.1, r.2.2, none, none⟩
      | _, _ => none
    | .call { callee := .value f, args := xs, argTypes := _ } => match wk xv f, evAll (wk xv) xs.toList with
      | some (.clo fid fs cs), some es =>
        if callOk P fid = true then
          match viewSEs L 64 (fs ++ es ++ cs) with
          | some vs => if SE.wfs nenv L.dom vs = true then some ⟨.inp nenv, [], [], some (fid, vs, !SE.noOwns (fs ++ es ++ cs)), none⟩ else none
          | none => none
        else none
      | _, _ => none
    | .binOp op t x y _ => match xv x, y, P.underlying t with
      | some e, .const (.slice none 0 0), some (.slice _) =>
        match op with
        | .eql => match e with
          | .enil => some ⟨.bool true, [], [], none, none⟩
          | .row i => match L i with
            | some (.row _ ec) => some ⟨.inp nenv, [], [], none, some ec⟩
            | _ => none
          | e => some ⟨.inp nenv, [], [(.len, [e])], none, some e⟩
        | _ => none
      | _, _, _ => none
    | _ => none

variable {P : Program} {G : Glob} {ro : Option Nat} {n0 : Nat} {w0 : Base} {c : Cx} {ρ : Nat → AV} {L : Lk} {nenv : Nat} {o : Oper} {a : Act} {w : World}

theorem Mem.env (hm : Mem n0 w0 c ρ L nenv w) (hn0 : n0 ≤ w.heap.size) {ρ' : Nat → AV} (ha : Agree nenv ρ ρ') (hρ : ∀ i, (ρ' i).pure = true) : Mem n0 w0 c ρ' L nenv w :=
  hm.later (Nat.le_refl _) (Below.refl _ _) hn0 (Cx.Keeps.refl _ _) hm.imm (fun _ _ => ⟨fun _ _ h => h, fun _ h => h⟩) hm.immlt ha hρ

theorem OpGo.mono_nenv {e : SE} {L' : Lk} {n n' : Nat} (h : OpGo P ro n0 w0 c ρ L e L' n o a w) (hn : n ≤ n') : OpGo P ro n0 w0 c ρ L e L' n' o a w := by
  intro k next Q hk
  refine h k next Q (fun v w' c' h1 h2 h3 => hk v w' c' h1 h2 ?_)
  exact ⟨h3.imm, h3.pure, fun i o hl => OS.wf_mono hn (fun _ h => h) (h3.wf i o hl), h3.ok, h3.dist, h3.fresh, h3.disj, h3.immlt, h3.below, h3.old⟩

/-- A store goes through. -/
theorem sStore_sound (hm : Mem n0 w0 c ρ L nenv w) {T : TypeId} {x y : Operand} {ax e : SE} {dl : List (Nat × OS)} {ck : List Chk} (ho : o.op = .store T x y) (hx : Rv c (den ρ ax) (a.eval x)) (hy : Rv c (den ρ e) (a.eval y))
    (h : sStore P L nenv T ax e = some (dl, ck)) (hck : Chks ρ ck) : OpGo P ro n0 w0 c ρ L .undef (upds L dl) nenv o a w := by
  unfold sStore at h
  split at h
  · cases h
  · rename_i k g ht
    split at h
    case isFalse => cases h
    rename_i hg
    split at h
    · rename_i i off
      split at h
      · rename_i cs hl
        split at h
        · rename_i hc
          simp only [Option.some.injEq, Prod.mk.injEq] at h
          obtain ⟨rfl, rfl⟩ := h
          exact op_store_box hm ho hx hy ht hg hck hl hc.1 hc.2
        · cases h
      · cases h
    · rename_i i base idx len sz off
      split at h
      · rename_i cs hl
        split at h
        · rename_i hc
          simp only [Option.some.injEq, Prod.mk.injEq] at h
          obtain ⟨rfl, rfl⟩ := h
          rw [Chks.cons] at hck
          exact op_store_ptrx hm ho hx hy ht hg hck.2 hl hc.1 (by simpa using hck.1) hc.2.1 hc.2.2
        · cases h
      · cases h
    · rename_i i idx sz off
      split at h
      · rename_i sz' ec hl
        split at h
        · rename_i hc
          obtain ⟨rfl, hwf⟩ := hc
          simp only [Option.some.injEq, Prod.mk.injEq] at h
          obtain ⟨rfl, rfl⟩ := h
          rw [Chks.cons] at hck
          exact op_store_rptr hm ho hx hy ht hg hck.2 hl (by simpa using hck.1) hwf
        · cases h
      · cases h
    · cases h

theorem sAppend_sound (hm : Mem n0 w0 c ρ L nenv w) (hn0 : n0 ≤ w.heap.size) {x1 x2 : Operand} {sT xT nid : Nat} {e1 e2 : SE} {r : SE × List (Nat × OS) × List Chk} (hid : L nid = none) (hid1 : L (nid + 1) = none)
    (ho : o.op = .call { callee := .builtin .append, args := ⟨[x1, x2]⟩, argTypes := ⟨[sT, xT]⟩ }) (h1 : Rv c (den ρ e1) (a.eval x1)) (h2 : Rv c (den ρ e2) (a.eval x2))
    (h : sAppend P L nenv nid sT xT e1 e2 = some r) (hck : Chks ρ r.2.2) : OpGo P ro n0 w0 c ρ L r.1 (upds L r.2.1) nenv o a w := by
  unfold sAppend at h
  split at h
  case h_2 => cases h
  rename_i elem elem2 hu1 hu2
  split at h
  case h_2 => cases h
  rename_i sz g i ht hi
  split at h
  case h_2 => cases h
  rename_i z ey hz hey
  split at h
  case isFalse => cases h
  rename_i hc
  have he : ElemOk P sT elem sz := ⟨hu1, ⟨g, ht⟩, i, z, hi, hc.1, hz, hc.2⟩
  have hread : ∀ (ys : List AV), den ρ ey = .sl ys → pok (.szs sz) [den ρ ey] → ∃ us, Readable P c w sz (a.eval x2) ys us := by
    intro ys hys hsz
    rw [hys] at hsz
    simp only [pok] at hsz
    unfold rowSE at hey
    split at hey
    · rename_i j
      split at hey
      · rename_i sz' e' hl
        split at hey
        · rename_i hs
          subst hs
          simp only [Option.some.injEq] at hey; subst hey
          obtain ⟨xs, hx, hrow⟩ := hm.ok j _ hl
          rw [hx] at hys; cases hys
          simp only [den] at h2
          generalize a.eval x2 = v2 at h2
          cases h2 with
          | row _ aa nn cap hh => rw [hh] at hrow; exact readable_row hrow (fun y hy => (hsz y hy).1)
        · cases hey
      · cases hey
    · simp only [Option.some.injEq] at hey; subst hey
      rw [hys] at h2
      exact readable_imm hm.imm h2 (fun y hy => (hsz y hy).1)
  split at h
  · rename_i j
    split at h
    · rename_i sz' ec hl
      split at h
      · rename_i hw
        obtain ⟨rfl, hwf⟩ := hw
        simp only [Option.some.injEq] at h; subst h
        simp only at hck
        have k1 := hck (.szs sz', [ey]) (by simp)
        have k2 := hck (.app, [ec, ey]) (by simp)
        simp only [dens] at k1 k2
        obtain ⟨ys, hys⟩ : ∃ ys, den ρ ey = .sl ys := by
          cases hd : den ρ ey <;> rw [hd] at k1 <;> simp [pok] at k1
          exact ⟨_, rfl⟩
        obtain ⟨us, hr⟩ := hread ys hys k1
        have hv : a.eval x1 = c.h j := by
          simp only [den] at h1
          generalize a.eval x1 = v1 at h1
          cases h1 with
          | row _ aa nn cap hh => exact hh.symm
        exact op_append hm hn0 ho he hu2 hl hv hys hr k1 k2 hwf hid
      · cases h
    · cases h
  · split at h
    · rename_i hwf
      simp only [Option.some.injEq] at h; subst h
      simp only at hck
      have k1 := hck (.szs sz, [ey]) (by simp)
      have k2 := hck (.app, [.nils, ey]) (by simp)
      simp only [dens] at k1 k2
      obtain ⟨ys, hys⟩ : ∃ ys, den ρ ey = .sl ys := by
        cases hd : den ρ ey <;> rw [hd] at k1 <;> simp [pok] at k1
        exact ⟨_, rfl⟩
      obtain ⟨us, hr⟩ := hread ys hys k1
      simp only [den] at h1
      have hv : a.eval x1 = .slice none 0 0 := by
        generalize a.eval x1 = v1 at h1
        cases h1; rfl
      have hm2 := hm.noRow sz hid1 (v := .slice none 0 0) (.inl rfl)
      have hk2 : c.Keeps L.dom (c.seth (nid + 1) (.slice none 0 0)) := c.seth_keeps hid1
      have hid2 : (L.upd (nid + 1) (.row sz .nils)) nid = none := by rw [Lk.upd_other _ _ (by omega)]; exact hid
      have hr2 : Readable P (c.seth (nid + 1) (.slice none 0 0)) w sz (a.eval x2) ys us := ⟨hr.len, hr.cells, by
        have := hr.rel
        refine Rvs_keeps hk2 this ?_
        rw [AV.under_flat]
        have hw : ey.wf nenv L.dom = true := by simpa [SE.wf, SE.wfs] using hwf
        have := den_under hm.pure ey hw
        rwa [hys] at this⟩
      have hgo := op_append (ro := ro) hm2 hn0 ho he hu2 (Lk.upd_same L (nid + 1) _) (by rw [hv]; simp [Cx.seth]) hys hr2 k1 k2 (SE.wf_mono (Nat.le_refl _) (Lk.dom_upd L _ _) hwf) hid2
      intro k next Q hn
      exact hgo k next Q (fun v w' c' q1 q2 q3 => hn v w' c' (hk2.trans (q1.mono (fun i hi => Lk.dom_upd L _ _ i hi))) q2 q3)
    · cases h
  · cases h


theorem wfs_seOfs : ∀ (vs : List Value) (es : List SE), seOfs vs = some es → ∀ (n : Nat) (m : Nat → Bool), SE.wfs n m es = true := by
  intro vs
  induction vs with
  | nil => intro es h n m; simp only [seOfs, Option.some.injEq] at h; subst h; rfl
  | cons v vs ih =>
    intro es h n m
    simp only [seOfs] at h
    split at h
    · rename_i e es' h1 h2
      simp only [Option.some.injEq] at h; subst h
      simp only [SE.wfs, wf_seOf v e h1 n m, ih es' h2 n m, Bool.and_self]
    · cases h
theorem zeroSE_wf {t : TypeId} {es : List SE} (h : zeroSE P t = some es) {n : Nat} {m : Nat → Bool} : SE.wfs n m es = true := by
  unfold zeroSE at h
  split at h
  · split at h
    · split at h
      · exact wfs_seOfs _ _ h n m
      · cases h
    · cases h
  · cases h

theorem OpGo.nilCheck (hm : Mem n0 w0 c ρ L nenv w) {x : Operand} {e : SE} (ho : o.op = .nilCheck x) (hx : Rv c (den ρ e) (a.eval x)) (he : (∃ i k, e = .ptr i k) ∨ (∃ cs k, e = .ref cs k) ∨ ∃ f u v, e = .clo f u v) :
    OpGo P ro n0 w0 c ρ L e L nenv o a w := by
  refine OpGo.runs hm (by rw [ho]; intro c h; cases h) ⟨a.eval x, ?_, hx⟩
  rcases he with ⟨i, k, rfl⟩ | ⟨cs, k, rfl⟩ | ⟨f, u, v, rfl⟩
  · simp only [den] at hx
    generalize hv : a.eval x = vx at hx
    cases hx
    simp only [execOp, ho, hv]; rfl
  · simp only [den] at hx
    generalize hv : a.eval x = vx at hx
    cases hx
    simp only [execOp, ho, hv]; rfl
  · simp only [den] at hx
    generalize hv : a.eval x = vx at hx
    cases hx
    simp only [execOp, ho, hv]; rfl

/-- THE STEP: one operation under conditions that hold. -/
theorem sOp_step (hm : Mem n0 w0 c ρ L nenv w) (hn0 : n0 ≤ w.heap.size) (hG : GlobOk G c) (hGw : ∀ (g : Nat) es, G[g]? = some es → SE.wfs 0 (fun _ => false) es = true)
    {xv : Ev} (hxv : ∀ x e, xv x = some e → Rv c (den ρ e) (a.eval x) ∧ e.wf nenv L.dom = true) {nid : Nat} (hid : L nid = none) (hid1 : L (nid + 1) = none) {s : Step} (h : sOp P L xv nenv nid o.op = some s)
    {pcs : List (SE × Bool)} (hp : Holds ρ pcs) {K : (Nat → AV) → Prop} (hs : SegWp P G ρ (s.nodes nenv pcs) K) :
    ∃ ρ', Agree nenv ρ ρ' ∧ (∀ i, (ρ' i).pure = true) ∧ K ρ' ∧ OpGo P ro n0 w0 c ρ' L s.val (upds L s.dl) (s.nenv nenv) o a w := by
  have hev : ∀ x e, wk xv x = some e → Rv c (den ρ e) (a.eval x) ∧ e.wf nenv L.dom = true := by
    intro x e he
    obtain ⟨e', h1, rfl⟩ := Option.map_eq_some_iff.1 he
    exact ⟨weak_sound e' (hxv x e' h1).1, weak_wf e' (hxv x e' h1).2⟩
  have plain : ∀ (e : SE) (dl : List (Nat × OS)) (ck : List Chk), s = ⟨e, dl, ck, none, none⟩ → (Chks ρ ck → OpGo P ro n0 w0 c ρ L e (upds L dl) nenv o a w) →
      ∃ ρ', Agree nenv ρ ρ' ∧ (∀ i, (ρ' i).pure = true) ∧ K ρ' ∧ OpGo P ro n0 w0 c ρ' L s.val (upds L s.dl) (s.nenv nenv) o a w := by
    rintro e dl ck rfl hgo
    obtain ⟨h1, h2⟩ := hs.chks
    exact ⟨ρ, Agree.refl _ _, hm.pure, h2, hgo (h1 hp)⟩
  unfold sOp at h
  split at h
  · rename_i e ck h1
    simp only [Option.some.injEq] at h
    refine plain e [] ck h.symm (fun hck => ?_)
    obtain ⟨h2, h3⟩ := sPure_sound hm (fun x e hx => (hxv x e hx).1) h1 hck
    exact OpGo.runs hm h3 h2
  · split at h
    case h_1 x ho =>
      split at h
      · rename_i i k h1
        simp only [Option.some.injEq] at h
        exact plain _ _ _ h.symm (fun _ => OpGo.nilCheck hm ho (hxv _ _ h1).1 (.inl ⟨_, _, rfl⟩))
      · rename_i cs k h1
        simp only [Option.some.injEq] at h
        exact plain _ _ _ h.symm (fun _ => OpGo.nilCheck hm ho (hxv _ _ h1).1 (.inr (.inl ⟨_, _, rfl⟩)))
      · rename_i f u v h1
        simp only [Option.some.injEq] at h
        exact plain _ _ _ h.symm (fun _ => OpGo.nilCheck hm ho (hxv _ _ h1).1 (.inr (.inr ⟨_, _, _, rfl⟩)))
      · cases h
    case h_2 T x ho =>
      split at h
      · rename_i e k g h1 h2
        split at h
        · rename_i hc
          simp only [Option.some.injEq] at h
          exact plain _ _ _ h.symm (fun hck => op_box hm hid hn0 ho (hxv _ _ h1).1 hc.1 hck hc.2)
        · cases h
      · cases h
    case h_3 T ho =>
      split at h
      · rename_i cs h1
        simp only [Option.some.injEq] at h
        refine plain _ _ _ h.symm (fun _ => op_alloc hm hid hn0 ho h1 ?_)
        exact zeroSE_wf h1
      · cases h
    case h_4 T x y ho =>
      split at h
      · rename_i ax e h1 h2
        obtain ⟨r, h3, h4⟩ := Option.map_eq_some_iff.1 h
        exact plain _ _ _ h4.symm (fun hck => sStore_sound hm ho (hxv _ _ h1).1 (hxv _ _ h2).1 h3 hck)
      · cases h
    case h_5 t len parts ho =>
      split at h
      · rename_i es h1
        split at h
        · rename_i sz e ck h2
          split at h
          · rename_i hwf
            simp only [Option.some.injEq] at h
            obtain ⟨r1, r2⟩ := evAll_sound (fun x e hx => (hev x e hx).1) _ _ h1
            simp only [List.length_map] at r2
            refine plain _ _ _ h.symm (fun hck => op_buildSlice hm hn0 (parts := parts.toList) ho h2 (by simp [r2]) (fun j i e i' x hp hv => ?_) hck hwf hid)
            rw [List.getElem?_zip_eq_some] at hp
            simp only [List.getElem?_map, hv, Option.map_some, Option.some.injEq] at hp
            refine ⟨hp.1, ?_⟩
            obtain ⟨u, hu, hr⟩ := r1.get (i := j) (a := den ρ e) (by rw [dens_getElem?, hp.2]; rfl)
            simp only [List.map_map, List.getElem?_map, hv, Option.map_some, Option.some.injEq, Function.comp_apply] at hu
            rw [hu]; exact hr
          · cases h
        · cases h
      · cases h
    case h_6 t l m ho =>
      split at h
      · rename_i n n' h1 h2
        split at h
        · rename_i hbe
          split at h
          · rename_i sz e ck h3
            split at h
            · rename_i hwf
              simp only [Option.some.injEq] at h
              have hnn := SE.beq_eq _ _ hbe
              subst hnn
              exact plain _ _ _ h.symm (fun hck => op_makeSlice hm hn0 ho h3 (hev _ _ h1).1 (hev _ _ h2).1 hck hwf hid)
            · cases h
          · cases h
        · cases h
      · cases h
    case h_7 t ho =>
      split at h
      · split at h
        · rename_i k hk
          simp only [Option.some.injEq] at h
          exact plain _ _ _ h.symm (fun _ => op_makeMap hm hn0 k ho hid)
        · cases h
      · cases h
    case h_8 t x k v ho =>
      split at h
      · rename_i i kk n e kt vt h1 h3 h4
        split at h
        · rename_i kk' ks us kk'' hl hkt
          split at h
          · rename_i hc
            obtain ⟨rfl, rfl, hwf⟩ := hc
            simp only [Option.some.injEq] at h
            refine plain _ _ _ h.symm (fun _ => op_insert hm ho h4 hkt (by simpa using (hxv _ _ h1).1) rfl (hev _ _ h3).1 hl hwf)
          · cases h
        · cases h
      · cases h
    case h_9 t x k ho =>
      split at h
      · rename_i i key kt vt h1 h2 h3
        split at h
        · rename_i kk ks us kk' z hl hkt hz
          split at h
          · rename_i hc
            subst hc
            simp only [Option.some.injEq] at h
            refine plain _ _ _ h.symm (fun hck => ?_)
            have hk := hck.one
            simp only [dens, den] at hk
            have hkey : ∃ n, den ρ key = .int kk' n := by
              cases hd : den ρ key <;> rw [hd] at hk <;> simp only [pok] at hk
              exact ⟨_, by simp only [binOk] at hk; rw [hk]⟩
            exact OpGo.runs hm (by rw [ho]; intro c h; cases h) (runs_exec (run_lookup hm h3 hkt (by simpa using (hxv _ _ h1).1) (hev _ _ h2).1 hl hz hkey) (by simp only [execOp, ho]))
          · cases h
        · cases h
      · rename_i kk ks us key kt vt h1 h2 h3
        split at h
        · rename_i kk' z hkt hz
          split at h
          · rename_i hc
            subst hc
            simp only [Option.some.injEq] at h
            refine plain _ _ _ h.symm (fun hck => ?_)
            have hk := hck.one
            simp only [dens, den] at hk
            have hkey : ∃ n, den ρ key = .int kk' n := by
              cases hd : den ρ key <;> rw [hd] at hk <;> simp only [pok] at hk
              exact ⟨_, by simp only [binOk] at hk; rw [hk]⟩
            exact OpGo.runs hm (by rw [ho]; intro c h; cases h) (runs_exec (run_lookup_mp hm h3 hkt (by simpa using (hxv _ _ h1).1) (hev _ _ h2).1 hz hkey) (by simp only [execOp, ho]))
          · cases h
        · cases h
      · cases h
    case h_10 x1 x2 sT xT ho =>
      split at h
      · rename_i e1 e2 h1 h2
        obtain ⟨r, h3, h4⟩ := Option.map_eq_some_iff.1 h
        exact plain _ _ _ h4.symm (fun hck => sAppend_sound hm hn0 hid hid1 ho (hxv _ _ h1).1 (hev _ _ h2).1 h3 hck)
      · cases h
    case h_11 f xs tt _ ho =>
      split at h
      · rename_i fid fs cs es h1 h2
        split at h
        · rename_i hok
          split at h
          · rename_i vs h3
            split at h
            · rename_i hwv
              simp only [Option.some.injEq] at h
              subst h
              obtain ⟨r, hr1, hr2, hr3⟩ := hs
              have ha := setEnv_agree ρ nenv r
              have hpr := setEnv_pure hm.pure nenv hr1
              refine ⟨setEnv ρ nenv r, ha, hpr, hr3, ?_⟩
              have hm' := hm.env hn0 ha hpr
              obtain ⟨hf1, hf2⟩ := hev _ _ h1
              obtain ⟨r1, _⟩ := evAll_sound (fun x e hx => (hev x e hx).1) _ _ h2
              have hes : SE.wfs nenv L.dom es = true := by
                have key : ∀ (l : List Operand) (es : List SE), evAll (wk xv) l = some es → SE.wfs nenv L.dom es = true := by
                  intro l
                  induction l with
                  | nil => intro es h; simp only [evAll, Option.some.injEq] at h; subst h; rfl
                  | cons x l ih =>
                    intro es h
                    simp only [evAll] at h
                    split at h
                    · rename_i e es' q1 q2
                      simp only [Option.some.injEq] at h; subst h
                      simp only [SE.wfs, (hev x e q1).2, ih es' q2, Bool.and_self]
                    · cases h
                exact key _ _ h2
              obtain ⟨hc1, hc2⟩ := hr2 hp
              refine op_call hm' hn0 hG hGw ho hok (by rw [den_agree ha _ hf2]; exact hf1) (by rw [dens_agree ha _ hes]; exact r1) h3 (!SE.noOwns (fs ++ es ++ cs)) (fun hb => by simpa using hb)
                ⟨by rw [dens_agree ha _ hwv, setEnv_same]; exact hc1, fun hb => by rw [setEnv_same]; exact hc2 hb⟩
            · cases h
          · cases h
        · cases h
      · cases h
    case h_12 op t x y _ ho =>
      split at h
      · rename_i e el h1 hu
        split at h
        · have hrun : ∀ b n m, a.eval x = .slice b n m → (execOp a.eval o).run P w = .ok (.value (.bool b.isNone)) w := by
            intro b n m hb
            have := run_eqs (P := P) (w := w) (x := x) (y := .const (.slice none 0 0)) false hu hb (vb := .slice none 0 0) rfl
            simp only [Bool.false_eq_true, if_false, Bool.bne_false] at this
            simp only [execOp, ho, Sem.run_bind]
            simp only [Sem.run_bind] at this
            rw [show a.eval (.const (.slice none 0 0)) = .slice none 0 0 from rfl, this]; rfl
          have hd : ∀ cc, o.op ≠ .defer cc := by rw [ho]; intro c h; cases h
          have key : ∀ (ec : SE) (ck : List Chk), s = ⟨.inp nenv, [], ck, none, some ec⟩ → (Chks ρ ck → ∃ b n m, a.eval x = .slice b n m ∧ (b.isNone = true → den ρ ec = .sl [])) →
              ∃ ρ', Agree nenv ρ ρ' ∧ (∀ i, (ρ' i).pure = true) ∧ K ρ' ∧ OpGo P ro n0 w0 c ρ' L s.val (upds L s.dl) (s.nenv nenv) o a w := by
            rintro ec ck rfl hex
            obtain ⟨hck, hs2⟩ := hs.chks
            obtain ⟨b, n, m, hb, hnil⟩ := hex (hck hp)
            have ha := setEnv_agree ρ nenv (.bool b.isNone)
            have hpr := setEnv_pure hm.pure nenv (v := .bool b.isNone) rfl
            refine ⟨setEnv ρ nenv (.bool b.isNone), ha, hpr, hs2 _ (fun _ h => hnil h), ?_⟩
            refine OpGo.mono_nenv (n := nenv) (OpGo.runs (hm.env hn0 ha hpr) hd ⟨_, hrun b n m hb, ?_⟩) (by simp [Step.nenv])
            simp only [den, setEnv_same]; exact .bool _
          split at h
          · simp only [Option.some.injEq] at h
            refine plain _ _ _ h.symm (fun _ => OpGo.runs hm hd ⟨.bool true, ?_, by simp only [den]; exact .bool _⟩)
            have hx := (hxv _ _ h1).1
            simp only [den] at hx
            have hv : a.eval x = .slice none 0 0 := by generalize a.eval x = v at hx; cases hx; rfl
            exact hrun none 0 0 hv
          · rename_i i
            split at h
            · rename_i sz ec hl
              simp only [Option.some.injEq] at h
              refine key ec [] h.symm (fun _ => ?_)
              obtain ⟨b, n, m, hb, hnil⟩ := slice_of hm (hxv _ _ h1).1 (.inl ⟨i, rfl, sz, ec, hl⟩)
              refine ⟨b, n, m, hb, fun hbb => ?_⟩
              rcases hnil hbb with ⟨j, hj, sz', ec', hl', hd'⟩ | hd'
              · cases hj; rw [hl] at hl'; cases hl'; exact hd'
              · simp [den] at hd'
            · cases h
          · rename_i hnr
            simp only [Option.some.injEq] at h
            refine key _ _ h.symm (fun hck => ?_)
            have hk := hck.one
            simp only [dens] at hk
            obtain ⟨xs, hxs⟩ : ∃ xs, den ρ e = .sl xs := by
              cases hd : den ρ e <;> rw [hd] at hk <;> simp [pok] at hk
              exact ⟨_, rfl⟩
            obtain ⟨b, n, m, hb, hnil⟩ := slice_of hm (hxv _ _ h1).1 (.inr ⟨xs, hxs⟩)
            refine ⟨b, n, m, hb, fun hbb => ?_⟩
            rcases hnil hbb with ⟨j, hj, _⟩ | hd'
            · exact absurd hj (hnr j)
            · exact hd'
        · cases h
      · cases h
    case h_13 => cases h

end Go.Lb

namespace Go.Lb
open Go.RowKit

structure St where
  sz : Nat
  slots : List (Nat × Ent)
  own : Own
  nenv : Nat
  nid : Nat
  /-- The activation's deferred calls: marks of ranges over functions, by the numbers of their blocks. -/
  marks : List Nat := []
  deriving Inhabited, Repr

/-- A range over a function that is under way: what its rounds run on. -/
structure Rnd where
  fn : Nat
  sz : Nat
  slots : List (Nat × Ent)
  ps : List Nat
  assign : Code
  body : Code

/-- What a walk comes to. -/
inductive RT where
  | ret (e : SE)
  | cond (c : SE) (t f : RT)
  | seg (ns : List Nd) (k : RT)
  | loop (id n : Nat) (init : List SE) (body : RT)
  | again (id : Nat) (vals : List SE)
  | dead (why : Nat) (info : List SE)
  deriving Inhabited, Repr

def setEnvs (ρ : Nat → AV) (n : Nat) (vs : List AV) : Nat → AV := fun i => if n ≤ i ∧ i < n + vs.length then vs.getD (i - n) .undef else ρ i

def RTwp (P : Program) (G : Glob) (R : AV → Prop) : RT → (Nat → List AV → Prop) → (Nat → AV) → Prop
  | .ret e, _, ρ => R (den ρ e)
  | .cond c t f, L, ρ => ∃ b, den ρ c = .bool b ∧ (b = true → RTwp P G R t L ρ) ∧ (b = false → RTwp P G R f L ρ)
  | .seg ns k, L, ρ => SegWp P G ρ ns (RTwp P G R k L)
  | .loop id n init body, L, ρ => ∃ (I : List AV → Prop) (μ : List AV → Nat), I (dens ρ init) ∧
      ∀ vs, vs.length = init.length → AV.pureAll vs = true → I vs → RTwp P G R body (fun j us => if j = id then I us ∧ μ us < μ vs else L j us) (setEnvs ρ n vs)
  | .again id vals, L, ρ => L id (dens ρ vals)
  | .dead _ _, _, _ => False

inductive KE where
  | normal
  | exit (id : Nat)
  | goto (l : Nat)
  | ret
  deriving DecidableEq, Repr

abbrev Kont := KE → St → RT

/-- A loop's head: its state; the inputs from the state's own number on are new. -/
structure Hint where
  fn : Nat
  key : Nat
  hdr : St
  len : Nat
  deriving Inhabited, Repr

structure Env where
  P : Program
  G : Glob
  inl : Nat → Bool
  /-- Functions whose results hold no memory: they may borrow the call's own. -/
  scal : Nat → Bool
  /-- The form of what a function hands back, where it is known. -/
  shape : Nat → List SE → Option SE
  hints : List Hint

def setSlot : List (Nat × Ent) → Nat → Ent → List (Nat × Ent)
  | [], d, e => [(d, e)]
  | (j, x) :: r, d, e => if Nat.blt d j = true then (d, e) :: (j, x) :: r else if Nat.beq d j = true then (d, e) :: r else (j, x) :: setSlot r d e
def putOwn : Own → Nat → OS → Own
  | [], i, o => [(i, o)]
  | (j, x) :: r, i, o => if Nat.blt i j = true then (i, o) :: (j, x) :: r else if Nat.beq i j = true then (i, o) :: r else (j, x) :: putOwn r i o
def putOwns (own : Own) (dl : List (Nat × OS)) : Own := dl.foldl (fun O x => putOwn O x.1 x.2) own

/-- Into the operation's place. -/
def St.put (st : St) (dst : Option Nat) (e : Ent) : Option St :=
  match dst with
  | none => some st
  | some d => if d < st.sz then some { st with slots := setSlot st.slots d e } else none

def pcsBeq : List (SE × Bool) → List (SE × Bool) → Bool
  | [], [] => true
  | a :: as, b :: bs => SE.beq a.1 b.1 && (a.2 == b.2) && pcsBeq as bs
  | _, _ => false

/-- The guard's conditions. -/
inductive Gd where
  | never
  | when (pcs : List (SE × Bool))
  deriving Repr

def guardOf (ops : Array Oper) (slots : List (Nat × Ent)) (o : Oper) : Option Gd :=
  match o.guard with
  | none => some (.when [])
  | some (j, b) => match (ops[j]?).bind (·.dst) with
    | none => none
    | some d => match findE slots d with
      | none => none
      | some en => match en.se, en.pcs with
        | .bool x, pcs => if x = b then some (.when pcs) else some .never
        | se, pcs => some (.when ((se, b) :: pcs))

/-- A choice of two values. -/
def sPick (E : Env) (slots : List (Nat × Ent)) (pcs : List (SE × Bool)) (c a b : Operand) : Option (SE × List Nd) :=
  match evS E.G slots pcs c with
  | some (.bool true) => (evS E.G slots pcs a).map fun e => (e, [])
  | some (.bool false) => (evS E.G slots pcs b).map fun e => (e, [])
  | some ec => match evS E.G slots ((ec, true) :: pcs) a, evS E.G slots ((ec, false) :: pcs) b with
    | some ea, some eb => some (.app .pick [ec, ea.weak, eb.weak], [.chk pcs .pick [ec, ea.weak, eb.weak]])
    | _, _ => none
  | none => none

/-- What a call hands back, by its form. -/
def shapeOf (E : Env) (s : Step) (nenv : Nat) : Option SE :=
  match s.call with
  | some (f, args, _) => match E.shape f args with
    | some e => if (e.noOwn && SE.beq s.val (.inp nenv)) = true then some e else none
    | none => none
  | none => none
def val2 (E : Env) (s : Step) (nenv : Nat) : SE := (shapeOf E s nenv).getD s.val
def nodes2 (E : Env) (s : Step) (nenv : Nat) (pcs : List (SE × Bool)) : List Nd :=
  s.nodes nenv pcs ++ match shapeOf E s nenv with
    | some e => [.same nenv pcs e]
    | none => []

/-- A step that is no pick: the state behind it, ahead of what is put in its place. -/
def stepSt (E : Env) (pcs : List (SE × Bool)) (o : Oper) (st : St) : Option (Step × St) :=
  match sOp E.P (look st.own) (evS E.G st.slots pcs) st.nenv st.nid o.op with
  | some s =>
    let st' := { st with own := putOwns st.own s.dl, nenv := s.nenv st.nenv, nid := st.nid + 2 }
    if (val2 E s st.nenv).wf st'.nenv (look st'.own).dom = true ∧ pcsWf st.nenv (look st.own).dom pcs = true ∧ (look st.own st.nid).isNone = true ∧ (look st.own (st.nid + 1)).isNone = true then some (s, st') else none
  | none => none

/-- What is known behind a split. -/
def SE.assume (c : SE) (b : Bool) : Nat → SE → SE
  | 0, e => e
  | n + 1, e => if SE.beq e c = true then .bool b else match e with
    | .app .pick [x, y, z] => match SE.assume c b n x with
      | .bool true => SE.assume c b n y
      | .bool false => SE.assume c b n z
      | x' => .app .pick [x', SE.assume c b n y, SE.assume c b n z]
    | .app (.un .not) [x] => match SE.assume c b n x with
      | .bool v => .bool (!v)
      | x' => .app (.un .not) [x']
    | e => e
def assumePcs (c : SE) (b : Bool) : List (SE × Bool) → Option (List (SE × Bool))
  | [] => some []
  | (p, v) :: r => match assumePcs c b r with
    | none => none
    | some r' => match SE.assume c b 20 p with
      | .bool x => if x = v then some r' else none
      | p' => some ((p', v) :: r')
def Ent.assume (c : SE) (b : Bool) (e : Ent) : Ent :=
  match assumePcs c b e.pcs with
  | none => ⟨[], .undef⟩
  | some pcs => ⟨pcs, SE.assume c b 20 e.se⟩
def St.assume (c : SE) (b : Bool) (st : St) : St := { st with slots := st.slots.map fun x => (x.1, x.2.assume c b) }

/-- Without its nots; whether that turns it. -/
def stripNot : SE → SE × Bool
  | .app (.un .not) [x] => let r := stripNot x; (r.1, !r.2)
  | e => (e, false)

/-- A split: on the thing itself, all nots stripped. -/
def splitSE (c : SE) (st : St) (yes no : St → RT) : RT :=
  match stripNot c with
  | (.bool x, y) => if (x != y) = true then yes st else no st
  | (e, y) => .cond e (if y then no (st.assume e true) else yes (st.assume e true)) (if y then yes (st.assume e false) else no (st.assume e false))

/-- A split on conditions, the last one first. -/
def splitOn : List (SE × Bool) → St → (St → RT) → (St → RT) → RT
  | [], st, yes, _ => yes st
  | (c, b) :: rest, st, yes, no => splitOn rest st (fun st => if b then splitSE c st yes no else splitSE c st no yes) no

def seg (ns : List Nd) (k : RT) : RT := match ns with
  | [] => k
  | ns => .seg ns k

/-- What a function hands back. -/
def resSE (E : Env) (st : St) : List ResultVar → Option (List SE × List Nd)
  | [] => some ([], [])
  | r :: rs => match (match r with
      | .tmp t => (evS E.G st.slots [] (.tmp t)).map fun e => (e, ([] : List Nd))
      | .cell a T => match evS E.G st.slots [] (.tmp a) with
        | some e => (sLoad E.P (look st.own) T e).map fun x => (x.1, chkNds [] x.2)
        | none => none), resSE E st rs with
    | some (e, ns), some (es, ms) => some (e :: es, ns ++ ms)
    | _, _ => none
def resVal (E : Env) (st : St) (rs : Array ResultVar) : Option (SE × List Nd) :=
  match resSE E st rs.toList with
  | some ([e], ns) => some (e, ns)
  | some (es, ns) => some (.tup es, ns)
  | none => none

/-! ### Own rows that become immutable -/
mutual
def SE.fz (n j : Nat) (e : SE) : SE → Option SE
  | .row i => if i = j then some e else some (.row i)
  | .agg cs => (SE.fzs n j e cs).map .agg
  | .tup cs => (SE.fzs n j e cs).map .tup
  | .clo f a b => match SE.fzs n j e a, SE.fzs n j e b with
    | some a', some b' => some (.clo f a' b')
    | _, _ => none
  | x => if x.wf n (fun i => !Nat.beq i j) = true then some x else none
def SE.fzs (n j : Nat) (e : SE) : List SE → Option (List SE)
  | [] => some []
  | x :: xs => match SE.fz n j e x, SE.fzs n j e xs with
    | some y, some ys => some (y :: ys)
    | _, _ => none
end
def mapSlots (f : Ent → Option Ent) : List (Nat × Ent) → List (Nat × Ent)
  | [] => []
  | (d, e) :: r => match f e with
    | some e' => (d, e') :: mapSlots f r
    | none => (mapSlots f r).filter fun x => !Nat.beq x.1 d
def OS.fz (n j : Nat) (e : SE) : OS → Option OS
  | .box cs => (SE.fzs n j e cs).map .box
  | o => if o.wf n (fun i => !Nat.beq i j) = true then some o else none
def fzOwn (n j : Nat) (e : SE) : Own → Option Own
  | [] => some []
  | (i, o) :: r => match fzOwn n j e r with
    | none => none
    | some r' => if i = j then some ((i, .gone) :: r') else match OS.fz n j e o with
      | some o' => some ((i, o') :: r')
      | none => none
def Ent.fz (n j : Nat) (e : SE) (en : Ent) : Option Ent :=
  if pcsWf n (fun i => !Nat.beq i j) en.pcs = true then match SE.fz n j e en.se with
    | some se => some ⟨en.pcs, se⟩
    | none => none
  else none
def freeze (st : St) (j : Nat) : Option St :=
  match look st.own j with
  | some (.row _ e) => if e.noOwn = true then match fzOwn st.nenv j e st.own with
      | some own' => some { st with own := own', slots := mapSlots (Ent.fz st.nenv j e) st.slots }
      | none => none
    else none
  | _ => none

mutual
def SE.rows : SE → List Nat
  | .row i => [i]
  | .agg cs | .tup cs | .mp _ _ cs | .ref cs _ | .app _ cs => SE.rowss cs
  | .clo _ a b => SE.rowss a ++ SE.rowss b
  | _ => []
def SE.rowss : List SE → List Nat
  | [] => []
  | e :: es => SE.rows e ++ SE.rowss es
end
/-- The own rows that a call takes over. -/
def frzTargets (E : Env) (st : St) (pcs : List (SE × Bool)) (o : Oper) : List Nat :=
  match o.op with
  | .call { callee := .value f, args := xs, argTypes := _ } => match evS E.G st.slots pcs f, evAll (evS E.G st.slots pcs) xs.toList with
    | some (.clo fid fs cs), some es => if (E.scal fid || E.inl fid) = true then [] else SE.rowss (fs ++ es ++ cs)
    | _, _ => []
  | .buildSlice _ _ parts => match evAll (evS E.G st.slots pcs) (parts.toList.map (·.2)) with
    | some es => SE.rowss es
    | _ => []
  | _ => []
def frz : List Nat → St → St
  | [], st => st
  | j :: js, st => frz js (match freeze st j with
    | some st' => st'
    | none => st)

/-- The callee, when it is to be walked in place. -/
def inlCall (E : Env) (st : St) (pcs : List (SE × Bool)) (o : Oper) : Option (Nat × Func × Code × List SE) :=
  match o.op with
  | .call { callee := .value f, args := xs, argTypes := _ } => match evS E.G st.slots pcs f, evAll (evS E.G st.slots pcs) xs.toList with
    | some (.clo fid fs cs), some es =>
      if E.inl fid = true ∧ callOk E.P fid = true then match E.P.funcs[fid]? with
        | some fn => match fn.body with
          | some c => some (fid, fn, c, fs ++ es ++ cs)
          | none => none
        | none => none
      else none
    | _, _ => none
  | _ => none

def argSlots : Nat → List SE → List (Nat × Ent)
  | _, [] => []
  | i, e :: es => (i, ⟨[], e⟩) :: argSlots (i + 1) es

/-- The callee, when it is a choice. -/
def calleePick (E : Env) (st : St) (pcs : List (SE × Bool)) (o : Oper) : Option SE :=
  match o.op with
  | .call { callee := .value f, args := _, argTypes := _ } => match evS E.G st.slots pcs f with
    | some (.app .pick [c, _, _]) => some c
    | _ => none
  | _ => none

def OS.isReady : Option OS → Bool
  | some (.loop .ready) => true
  | _ => false
def OS.isBusy : Option OS → Bool
  | some (.loop .busy) => true
  | _ => false

/-- The marks' blocks are shut. -/
def leaveOwn : List Nat → Own → Option Own
  | [], own => some own
  | i :: r, own => match look own i with
    | some .dfr => leaveOwn r (putOwn own i .gone)
    | _ => none

def findY : List (Nat × Rnd) → Nat → Option Rnd
  | [], _ => none
  | (j, e) :: r, i => if Nat.beq i j then some e else findY r i

/-- A call of yield: the loop, the values. -/
def yieldCall (E : Env) (Y : List (Nat × Rnd)) (st : St) (o : Oper) : Option (Nat × Rnd × List SE) :=
  match o.op with
  | .call { callee := .value f, args := xs, argTypes := _ } => match evS E.G st.slots [] f, evAll (evS E.G st.slots []) xs.toList with
    | some (.yield l), some es => match findY Y l with
      | some r => if (Nat.beq r.ps.length es.length && r.ps.all fun p => decide (p < r.sz)) = true then some (l, r, es) else none
      | none => none
    | _, _ => none
  | _ => none

def setSlots (slots : List (Nat × Ent)) : List (Nat × SE) → List (Nat × Ent)
  | [] => slots
  | (p, e) :: r => setSlots (setSlot slots p ⟨[], e⟩) r

/-- How a round is left: the record behind it; what yield hands back. -/
def roundEnd : KE → LSt × Bool
  | .normal => (.ready, true)
  | .ret => (.doneRet, false)
  | .exit j => (.doneExit j, false)
  | .goto l => (.doneGoto l, false)

/-- One operation that is wanted. -/
def sxDo (E : Env) (Y : List (Nat × Rnd)) (rec : Bool → Nat → Code → St → Kont → RT) (pcs : List (SE × Bool)) (o : Oper) (k : St → RT) : Nat → St → RT
  | 0, _ => .dead 1 []
  | m + 1, st0 =>
    let st := frz (frzTargets E st0 pcs o) st0
    match calleePick E st pcs o with
    | some c => splitSE c st (sxDo E Y rec pcs o k m) (sxDo E Y rec pcs o k m)
    | none => match yieldCall E Y st o with
      | some (l, r, es) => if OS.isReady (look st.own l) = true then
          rec true r.fn r.assign ⟨r.sz, setSlots r.slots (r.ps.zip es), st.own, st.nenv, st.nid, []⟩ fun ke st2 => match ke with
            | .normal => if OS.isReady (look st2.own l) = true then
                rec true r.fn r.body { st2 with own := putOwn st2.own l (.loop .busy) } fun ke st3 =>
                  if OS.isBusy (look st3.own l) = true then match ({ st with own := putOwn st3.own l (.loop (roundEnd ke).1), nenv := st3.nenv, nid := st3.nid } : St).put o.dst ⟨[], .bool (roundEnd ke).2⟩ with
                    | some st'' => k st''
                    | none => .dead 30 []
                  else .dead 31 []
              else .dead 32 []
            | _ => .dead 33 []
        else .dead 34 []
      | none => match inlCall E st pcs o with
        | some (fid, fn, c, args) =>
          rec false fid c ⟨args.length + (fn.ntmps - args.length), argSlots 0 args, st.own, st.nenv, st.nid, []⟩ fun ke st1 =>
            match ke with
            | .normal | .ret => match leaveOwn st1.marks st1.own with
              | some own1 => match resVal E { st1 with own := own1 } fn.results with
                | some (e, ns) => if e.wf st1.nenv (look own1).dom = true then match ({ st with own := own1, nenv := st1.nenv, nid := st1.nid } : St).put o.dst ⟨[], e⟩ with
                  | some st'' => seg ns (k st'')
                  | none => .dead 2 [] else .dead 3 []
                | none => .dead 4 []
              | none => .dead 35 []
            | _ => .dead 5 []
        | none => match stepSt E pcs o st with
          | none => .dead 6 []
          | some (s, st') => match st'.put o.dst ⟨pcs, val2 E s st.nenv⟩ with
            | none => .dead 7 []
            | some st'' => seg (nodes2 E s st.nenv pcs) (k st'')

/-- Whether it can go on without knowing whether it is wanted. -/
def mild (E : Env) (pcs : List (SE × Bool)) (o : Oper) (st : St) : Bool :=
  (calleePick E st pcs o).isNone && (inlCall E st pcs o).isNone && match sOp E.P (look st.own) (evS E.G st.slots pcs) st.nenv st.nid o.op with
    | some s => s.dl.isEmpty
    | none => false

/-- One operation of a region that goes in order. -/
def sxOper (E : Env) (Y : List (Nat × Rnd)) (rec : Bool → Nat → Code → St → Kont → RT) (ops : Array Oper) (o : Oper) (st : St) (k : St → RT) : RT :=
  match guardOf ops st.slots o with
  | none => .dead 8 []
  | some .never => match st.put o.dst ⟨[], .undef⟩ with
    | some st' => k st'
    | none => .dead 9 []
  | some (.when pcs) =>
    match o.op with
    | .pick c a b => match sPick E st.slots pcs c a b with
      | some (e, ns) => if e.wf st.nenv (look st.own).dom = true ∧ pcsWf st.nenv (look st.own).dom pcs = true then match st.put o.dst ⟨pcs, e⟩ with
        | some st' => seg ns (k st')
        | none => .dead 10 [] else .dead 11 []
      | none => .dead 12 []
    | _ =>
      if pcs.isEmpty = true then sxDo E Y rec [] o k 16 st
      else if mild E pcs o (frz (frzTargets E st pcs o) st) = true then match stepSt E pcs o (frz (frzTargets E st pcs o) st) with
        | none => .dead 6 []
        | some (s, st') => match st'.put o.dst ⟨pcs, val2 E s st.nenv⟩ with
          | none => .dead 7 []
          | some st'' => seg (nodes2 E s st.nenv pcs) (k st'')
      else splitOn pcs st (fun st => sxDo E Y rec [] o k 16 st) (fun st => match st.put o.dst ⟨[], .undef⟩ with
        | some st' => k st'
        | none => .dead 13 [])

def sxOps (E : Env) (Y : List (Nat × Rnd)) (rec : Bool → Nat → Code → St → Kont → RT) (ops : Array Oper) : List Nat → St → (St → RT) → RT
  | [], st, k => k st
  | i :: is, st, k => match ops[i]? with
    | none => .dead 14 []
    | some o => sxOper E Y rec ops o st fun st' => sxOps E Y rec ops is st' k

/-! ### Regions that draw their order -/
def Ent.beq (a b : Ent) : Bool := pcsBeq a.pcs b.pcs && SE.beq a.se b.se
def slotsBeq : List (Nat × Ent) → List (Nat × Ent) → Bool
  | [], [] => true
  | a :: as, b :: bs => Nat.beq a.1 b.1 && Ent.beq a.2 b.2 && slotsBeq as bs
  | _, _ => false
def ownBeq : Own → Own → Bool
  | [], [] => true
  | a :: as, b :: bs => Nat.beq a.1 b.1 && OS.beq a.2 b.2 && ownBeq as bs
  | _, _ => false
def St.beq (a b : St) : Bool := Nat.beq a.sz b.sz && slotsBeq a.slots b.slots && ownBeq a.own b.own && Nat.beq a.nenv b.nenv && Nat.beq a.nid b.nid && decide (a.marks = b.marks)
def Nd.beq : Nd → Nd → Bool
  | .chk p o a, .chk p' o' a' => pcsBeq p p' && decide (o = o') && SE.beqs a a'
  | .call n p f a b, .call n' p' f' a' b' => Nat.beq n n' && pcsBeq p p' && Nat.beq f f' && SE.beqs a a' && (b == b')
  | .same n p e, .same n' p' e' => Nat.beq n n' && pcsBeq p p' && SE.beq e e'
  | _, _ => false
def ndsBeq : List Nd → List Nd → Bool
  | [], [] => true
  | a :: as, b :: bs => Nd.beq a b && ndsBeq as bs
  | _, _ => false

/-- All that the questions name is there when they are asked. -/
def ndsWf : Nat → List Nd → Bool
  | _, [] => true
  | n, .chk pcs _ args :: r => pcsWf n (fun _ => true) pcs && SE.wfs n (fun _ => true) args && ndsWf n r
  | n, .call m pcs _ args _ :: r => Nat.beq m n && pcsWf n (fun _ => true) pcs && SE.wfs n (fun _ => true) args && ndsWf (n + 1) r
  | n, .same m pcs e :: r => Nat.blt m n && pcsWf n (fun _ => true) pcs && e.wf n (fun _ => true) && ndsWf n r
  | _, .isNil _ _ _ :: _ => false

/-- One operation, its things numbered by its place. -/
def drawStep (E : Env) (B : Nat) (ops : Array Oper) (i : Nat) (st : St) : Option (St × List Nd) :=
  match ops[i]? with
  | none => none
  | some o => match guardOf ops st.slots o with
    | none => none
    | some .never => match st.put o.dst ⟨[], .undef⟩ with
      | some st' => some (st', [])
      | none => none
    | some (.when pcs) => match o.op with
      | .pick c a b => match sPick E st.slots pcs c a b with
        | some (e, ns) => if e.wf st.nenv (look st.own).dom = true ∧ pcsWf st.nenv (look st.own).dom pcs = true then match st.put o.dst ⟨pcs, e⟩ with
          | some st' => some (st', ns)
          | none => none else none
        | none => none
      | _ => match stepSt E pcs o { frz (frzTargets E st pcs o) st with nid := B + 2 * i } with
        | some (s, st') => if s.nil.isNone = true ∧ (pcs.isEmpty || s.dl.isEmpty) = true then match ({ st' with nid := B } : St).put o.dst ⟨pcs, val2 E s st.nenv⟩ with
          | some st'' => some (st'', nodes2 E s st.nenv pcs)
          | none => none else none
        | none => none

def drawText (E : Env) (B : Nat) (ops : Array Oper) : List Nat → St → Option (St × List (List Nd))
  | [], st => some (st, [])
  | i :: is, st => match drawStep E B ops i st with
    | some (st', ns) => match drawText E B ops is st' with
      | some (st'', N) => some (st'', ns :: N)
      | none => none
    | none => none

def predMask (o : Oper) : Nat := o.after.toList.foldr (fun e s => if Region.binds .any e then s ||| (1 <<< e.on) else s) 0
def predAt (ops : Array Oper) (i : Nat) : Nat := match ops[i]? with
  | some o => predMask o
  | none => 0
def preds (ops : Array Oper) : List (Nat × Nat) := (List.range ops.size).map fun i => (i, predAt ops i)
def bitOf (X i : Nat) : Bool := Nat.beq ((X >>> i) % 2) 1
def rdy (pm : List (Nat × Nat)) (X : Nat) : List Nat := (pm.filter fun p => !bitOf X p.1 && Nat.beq (p.2 &&& X) p.2).map (·.1)

def insM (X : Nat) (st : St) : List (Nat × St) → Option (List (Nat × St))
  | [] => some [(X, st)]
  | (Y, s) :: r => if Nat.beq X Y = true then (if St.beq st s = true then some ((Y, s) :: r) else none) else match insM X st r with
    | some r' => some ((Y, s) :: r')
    | none => none

def stepAll (E : Env) (B : Nat) (ops : Array Oper) (N : List (List Nd)) (X : Nat) (st : St) : List Nat → List (Nat × St) → Option (List (Nat × St))
  | [], acc => some acc
  | i :: is, acc => match drawStep E B ops i st with
    | some (st', ns) => if ndsBeq ns (N.getD i []) = true then match insM (X ||| (1 <<< i)) st' acc with
      | some acc' => stepAll E B ops N X st is acc'
      | none => none else none
    | none => none

def layer (E : Env) (B : Nat) (ops : Array Oper) (pm : List (Nat × Nat)) (N : List (List Nd)) : List (Nat × St) → List (Nat × St) → Option (List (Nat × St))
  | [], acc => some acc
  | (X, st) :: r, acc => match stepAll E B ops N X st (rdy pm X) acc with
    | some acc' => layer E B ops pm N r acc'
    | none => none

def explore (E : Env) (B : Nat) (ops : Array Oper) (pm : List (Nat × Nat)) (N : List (List Nd)) (fin : St) : Nat → List (Nat × St) → Bool
  | 0, fr => fr.all fun x => (rdy pm x.1).isEmpty && St.beq x.2 fin
  | k + 1, fr => (fr.all fun x => !(rdy pm x.1).isEmpty || St.beq x.2 fin) && match layer E B ops pm N fr [] with
    | some fr' => explore E B ops pm N fin k fr'
    | none => false

def sxDraw (E : Env) (ops : Array Oper) (st : St) (k : St → RT) : RT :=
  match drawText E st.nid ops (List.range ops.size) st with
  | some (fin, N) => if explore E st.nid ops (preds ops) N fin ops.size [(0, st)] = true then if ndsWf st.nenv N.flatten = true then
      seg N.flatten (k { fin with nid := st.nid + 2 * ops.size }) else .dead 15 [] else .dead 16 []
  | none => .dead 17 []

/-! ### Loops' heads -/
/-- What an input of the head stands for now; the rows that are renamed: the head's number, and whose it is now (none: nil). -/
structure Bind where
  vals : List (Nat × SE)
  rows : List (Nat × Option Nat)
  deriving Inhabited, Repr

def findV : List (Nat × SE) → Nat → Option SE
  | [], _ => none
  | (j, e) :: r, i => if Nat.beq i j then some e else findV r i
def findR : List (Nat × Option Nat) → Nat → Option (Option Nat)
  | [], _ => none
  | (j, e) :: r, i => if Nat.beq i j then some e else findR r i

/-- A guess: what the head's inputs and rows stand for. -/
def guess1 (n0 id0 : Nat) (B : Bind) (eH e : SE) : Bind :=
  match eH with
  | .inp k => if n0 ≤ k then (match findV B.vals k with | none => { B with vals := (k, e.weak) :: B.vals } | some _ => B) else B
  | .row r => if id0 ≤ r then (match findR B.rows r with
      | none => match e with
        | .row r' => { B with rows := (r, some r') :: B.rows }
        | _ => { B with rows := (r, none) :: B.rows }
      | some _ => B) else B
  | _ => B
def guesses (n0 id0 : Nat) (B : Bind) : List SE → List SE → Bind
  | a :: as, b :: bs => guesses n0 id0 (guess1 n0 id0 B a b) as bs
  | _, _ => B

def guessSlots (n0 id0 : Nat) (st : St) (B : Bind) : List (Nat × Ent) → Bind
  | [] => B
  | (d, en) :: r => guessSlots n0 id0 st (match findE st.slots d with
      | some e => guess1 n0 id0 B en.se e.se
      | none => B) r
def guessOwn (n0 id0 : Nat) (st : St) (B : Bind) : Own → Bind
  | [] => B
  | (i, o) :: r =>
    let B' := match o with
      | .box cs => match look st.own i with
        | some (.box cs') => guesses n0 id0 B cs cs'
        | _ => B
      | .mapo _ _ vs => match look st.own i with
        | some (.mapo _ _ vs') => guesses n0 id0 B vs vs'
        | _ => B
      | _ => B
    guessOwn n0 id0 st B' r
/-- The rows' contents, when all rows are known. -/
def guessRows (n0 id0 : Nat) (st : St) (B : Bind) : Own → Bind
  | [] => B
  | (i, .row _ eH) :: r =>
    guessRows n0 id0 st (match findR B.rows i with
      | some (some j) => match look st.own j with
        | some (.row _ e) => guess1 n0 id0 B eH e
        | _ => B
      | some none => guess1 n0 id0 B eH .nils
      | none => match look st.own i with
        | some (.row _ e) => guess1 n0 id0 B eH e
        | _ => B) r
  | _ :: r => guessRows n0 id0 st B r
def guess (n0 id0 : Nat) (hdr st : St) : Bind := guessRows n0 id0 st (guessOwn n0 id0 st (guessSlots n0 id0 st ⟨[], []⟩ hdr.slots) hdr.own) hdr.own

/-- The value of the head stands for this one. -/
def agr (n0 id0 : Nat) (D0 : Nat → Bool) (B : Bind) (eH e : SE) : Bool :=
  match eH with
  | .inp k => if n0 ≤ k then (match findV B.vals k with
      | some v => SE.beq v e.weak
      | none => false) else SE.beq eH e
  | .row r => if id0 ≤ r then (match findR B.rows r with
      | some (some j) => SE.beq e (.row j)
      | some none => SE.beq e .enil
      | none => false) else SE.beq eH e && D0 r
  | eH => SE.beq eH e && eH.wf n0 D0
def agrs (n0 id0 : Nat) (D0 : Nat → Bool) (B : Bind) : List SE → List SE → Bool
  | [], [] => true
  | a :: as, b :: bs => agr n0 id0 D0 B a b && agrs n0 id0 D0 B as bs
  | _, _ => false
/-- The same, of a row's content. -/
def agrRow (n0 : Nat) (D0 : Nat → Bool) (B : Bind) (eH e : SE) : Bool :=
  match eH with
  | .inp k => if n0 ≤ k then (match findV B.vals k with
      | some v => SE.beq v e
      | none => false) else SE.beq eH e
  | eH => SE.beq eH e && eH.wf n0 D0

def agrOwn (n0 id0 : Nat) (D0 : Nat → Bool) (B : Bind) (st : St) (i : Nat) (o : OS) : Bool :=
  match o with
  | .gone => true
  | .row sz eH =>
    if id0 ≤ i then match findR B.rows i with
      | some (some j) => match look st.own j with
        | some (.row sz' e) => Nat.beq sz sz' && agrRow n0 D0 B eH e
        | _ => false
      | some none => agrRow n0 D0 B eH .nils
      | none => false
    else D0 i && match look st.own i with
      | some (.row sz' e) => Nat.beq sz sz' && agrRow n0 D0 B eH e
      | _ => false
  | .box cs => decide (i < id0) && D0 i && match look st.own i with
    | some (.box cs') => agrs n0 id0 D0 B cs cs'
    | _ => false
  | o => decide (i < id0) && D0 i && o.wf n0 D0 && match look st.own i with
    | some o' => OS.beq o o'
    | none => false

/-- No row has two names, none that is renamed keeps its old one. -/
def rowsApart (id0 : Nat) (hdr : St) : List (Nat × Option Nat) → Bool
  | [] => true
  | (_, some j) :: r => (decide (id0 ≤ j) || match look hdr.own j with
      | none | some .gone => true
      | some _ => false) && !(r.any fun x => match x.2 with | some k => Nat.beq k j | none => false) && rowsApart id0 hdr r
  | (_, none) :: r => rowsApart id0 hdr r

def hdrVals (B : Bind) (n0 : Nat) : Nat → List SE
  | 0 => []
  | k + 1 => hdrVals B n0 k ++ [(findV B.vals (n0 + k)).getD .undef]

/-- The state fits the head: what its inputs stand for. (n0, id0, own0: the inputs, the numbers, the own things at the loop's beginning.) -/
def fits (n0 id0 : Nat) (own0 : Own) (h : Hint) (st : St) : Option (List SE) :=
  let B := guess n0 id0 h.hdr st
  let vals := hdrVals B n0 h.len
  let D0 := (look own0).dom
  if (own0.all fun x => decide (x.1 < id0) && (look h.hdr.own x.1).isSome) = true ∧
     (h.hdr.slots.all fun x => x.2.pcs.isEmpty && match findE st.slots x.1 with
        | some en => en.pcs.isEmpty && agr n0 id0 D0 B x.2.se en.se
        | none => false) = true ∧
     (h.hdr.own.all fun x => agrOwn n0 id0 D0 B st x.1 x.2) = true ∧ rowsApart id0 h.hdr B.rows = true ∧
     SE.wfs st.nenv (look st.own).dom vals = true ∧ SE.noOwns vals = true ∧ h.hdr.nenv = n0 + h.len ∧ h.hdr.sz = st.sz ∧ h.hdr.marks = st.marks ∧ (h.hdr.marks.all fun i => (look h.hdr.own i).isSome) = true ∧
     (h.hdr.slots.all fun x => x.2.se.wf h.hdr.nenv (look h.hdr.own).dom) = true ∧ Own.wf h.hdr.nenv h.hdr.own = true
  then some vals else none

/-- The first head that it fits. -/
def pickHint (fn key n0 id0 : Nat) (own0 : Own) (st : St) : List Hint → Option (Hint × List SE)
  | [] => none
  | h :: hs => if (Nat.beq h.fn fn && Nat.beq h.key key) = true then match fits n0 id0 own0 h st with
      | some v => some (h, v)
      | none => pickHint fn key n0 id0 own0 st hs
    else pickHint fn key n0 id0 own0 st hs

/-- The number of a loop: the first region's within it. -/
def loopKey : Code → Nat
  | .region id _ _ => id
  | .seq a _ => loopKey a
  | .block _ c => loopKey c
  | .scope c => loopKey c
  | _ => 0

/-- A state, told. -/
def encSt (fn key d : Nat) (st : St) : List SE :=
  let i (n : Nat) : SE := .int .i64 n
  [i fn, i key, i d, i st.sz, i st.nenv, i st.nid, .tup (st.slots.map fun x => .tup [i x.1, if x.2.pcs.isEmpty then x.2.se else .yield 0]),
   .tup (st.own.map fun x => .tup [i x.1, match x.2 with
     | .box cs => .tup [i 0, .tup cs]
     | .row sz e => .tup [i 1, i sz, e]
     | .mapo _ _ vs => .tup [i 2, .tup vs]
     | .gone => .tup [i 3]
     | .dfr => .tup [i 4]
     | .loop .ready => .tup [i 5]
     | .loop .busy => .tup [i 6]
     | .loop .doneRet => .tup [i 7]
     | .loop (.doneExit j) => .tup [i 8, i j]
     | .loop (.doneGoto j) => .tup [i 9, i j]]), .tup (st.marks.map i)]

/-- A scope: jumps to its labels go on there. -/
def scopeK (run : Code → St → Kont → RT) (c : Code) : Nat → Code → St → Kont → RT
  | 0, _, _, _ => .dead 20 []
  | n + 1, code, st, k => run code st fun ke st' => match ke with
    | .goto l => match findLabel c l with
      | some rest => scopeK run c n rest st' k
      | none => k (.goto l) st'
    | ke => k ke st'

/-- The function that is ranged over. -/
def rangeCallee (E : Env) (st : St) (g : Operand) : Option (Nat × Func × Code × List SE × List SE) :=
  match evS E.G st.slots [] g with
  | some (.clo fid fs cs) => if callOk E.P fid = true then match E.P.funcs[fid]? with
      | some fn => match fn.body with
        | some c => some (fid, fn, c, fs, cs)
        | none => none
      | none => none
    else none
  | _ => none

/-- Behind a range: the jump that a round has left. -/
def rangeEnd : Option OS → Option KE
  | some (.loop .ready) => some .normal
  | some (.loop .doneRet) => some .ret
  | some (.loop (.doneExit j)) => some (.exit j)
  | some (.loop (.doneGoto l)) => some (.goto l)
  | _ => none

/-- THE EXECUTOR. -/
def sx (E : Env) : Nat → Nat → Bool → Nat → List (Nat × Rnd) → Code → St → Kont → RT
  | 0, _, _, _, _, _, _, _ => .dead 21 []
  | fuel + 1, d, rd, fn, Y, code, st, k =>
    match code with
    | .skip => k .normal st
    | .label _ => k .normal st
    | .region _ ops false => sxOps E Y (fun rd f c st k => sx E fuel d rd f Y c st k) ops (List.range ops.size) st (k .normal)
    | .region _ ops true => sxDraw E ops st (k .normal)
    | .seq x y => sx E fuel d rd fn Y x st fun ke st' => match ke with
      | .normal => sx E fuel d rd fn Y y st' k
      | ke => k ke st'
    | .cond c x y => match evS E.G st.slots [] c with
      | some (.bool true) => sx E fuel d rd fn Y x st k
      | some (.bool false) => sx E fuel d rd fn Y y st k
      | some e => splitSE e st (fun st => sx E fuel d rd fn Y x st k) (fun st => sx E fuel d rd fn Y y st k)
      | none => .dead 22 []
    | .block id c => sx E fuel d rd fn Y c st fun ke st' => match ke with
      | .exit j => if j = id then k .normal st' else k (.exit j) st'
      | ke => k ke st'
    | .exit id => k (.exit id) st
    | .goto l => k (.goto l) st
    | .ret => k .ret st
    | .scope c => scopeK (fun x st k => sx E fuel d rd fn Y x st k) c fuel c st k
    | .loop c => match pickHint fn (loopKey c) st.nenv st.nid st.own st E.hints with
      | none => .dead 24 (encSt fn (loopKey c) d st)
      | some (h, init) => .loop d st.nenv init (sx E fuel (d + 1) rd fn Y c h.hdr fun ke st' => match ke with
            | .normal => match fits st.nenv st.nid st.own h st' with
              | some vals => .again d vals
              | none => .dead 25 (encSt fn (loopKey c) d st' ++ [.int .i64 st.nenv, .int .i64 st.nid])
            | ke => k ke st')
    | .rangeFunc g ps assign body =>
      if rd = true then .dead 40 [] else
      if ((look st.own st.nid).isNone && (look st.own (st.nid + 1)).isNone) = true then
        match rangeCallee E st g with
        | some (fid, f, c, fs, cs) =>
          sx E fuel d false fid ((st.nid + 1, ⟨fn, st.sz, st.slots, ps.toList, assign, body⟩) :: Y) c
            ⟨(fs ++ [SE.yield (st.nid + 1)] ++ cs).length + (f.ntmps - (fs ++ [SE.yield (st.nid + 1)] ++ cs).length), argSlots 0 (fs ++ [SE.yield (st.nid + 1)] ++ cs),
              putOwn (putOwn st.own st.nid .dfr) (st.nid + 1) (.loop .ready), st.nenv, st.nid + 2, []⟩ fun ke st1 =>
            match ke with
            | .normal | .ret => match leaveOwn st1.marks st1.own with
              | some own1 => if f.results.isEmpty = true then match rangeEnd (look own1 (st.nid + 1)) with
                | some ke' => k ke' { st with own := putOwn own1 (st.nid + 1) .gone, nenv := st1.nenv, nid := st1.nid, marks := st.nid :: st.marks }
                | none => .dead 41 [] else .dead 42 []
              | none => .dead 43 []
            | _ => .dead 44 []
        | none => .dead 45 []
      else .dead 46 []
    | _ => .dead 26 []

/-- The end of a function. -/
def finK (E : Env) (fn : Func) : Kont := fun ke st => match ke with
  | .normal | .ret => match leaveOwn st.marks st.own with
    | some own1 => match resVal E { st with own := own1 } fn.results with
      | some (e, ns) => match viewSE (look own1) 64 e.weak with
        | some e' => seg ns (.ret e')
        | none => .dead 100 []
      | none => .dead 101 []
    | none => .dead 105 []
  | _ => .dead 102 []

/-- A function, walked whole. -/
def runF (E : Env) (f : Nat) (args : List SE) (nenv : Nat) : RT :=
  match E.P.funcs[f]? with
  | some fn => match fn.body with
    | some c => sx E 200 0 false f [] c ⟨args.length + (fn.ntmps - args.length), argSlots 0 args, [], nenv, 0, []⟩ (finK E fn)
    | none => .dead 103 []
  | none => .dead 104 []

end Go.Lb
