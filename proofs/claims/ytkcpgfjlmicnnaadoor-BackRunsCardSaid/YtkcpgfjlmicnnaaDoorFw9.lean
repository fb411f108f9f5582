/- THE EXECUTOR IS SOUND. -/
/- Arguments that are read as data, as pure values. -/
/- Trees, read off: rules for plain proofs. -/
/- A law's statement, by its function's contract. -/
import Derived.Test.YtkcpgfjlmicnnaaDoorFw8
import Derived.ScopeJumps
import Derived.ProofKit
set_option linter.unusedSimpArgs false
set_option linter.unusedVariables false
namespace Go.Lb
open Go.RowKit

variable {Y : List (Nat × Rnd)} {n0 : Nat} {w0 : Base} {c c' c2 : Cx} {ρ ρ' : Nat → AV} {st st' : St} {a : Act} {w : World} {ro : Option Nat} {E : Env}

/-! ### Loops, by what holds at each round and a number that sinks -/
theorem exists_least (p : Nat → Prop) : (∃ n, p n) → ∃ n, p n ∧ ∀ m, p m → n ≤ m := by
  rintro ⟨n, hn⟩
  induction n using Nat.strongRecOn with
  | _ n ih =>
    by_cases h : ∃ m, m < n ∧ p m
    · obtain ⟨m, h1, h2⟩ := h; exact ih m h1 h2
    · exact ⟨n, hn, fun m hm => by
        by_cases hlt : m < n
        · exact absurd ⟨m, hlt, hm⟩ h
        · omega⟩

open Classical in
theorem wpIn_loop_ix {F : Fence} {n : Nat} {P : Program} {Q : Exit → Act → World → Prop} {a : Act} {w : World} {cd : Code} (J : Nat → Act → World → Prop) (hs : ∃ j, J j a w)
    (round : ∀ j a w, J j a w → cd.wpIn F n P (Exit.then (fun a' w' => ∃ j', j' < j ∧ J j' a' w') Q) a w) : (Code.loop cd).wpIn F n P Q a w := by
  let μ : Act → World → Nat := fun a w => if h : ∃ j, J j a w then Classical.choose (exists_least _ h) else 0
  have hμ : ∀ a w, (∃ j, J j a w) → J (μ a w) a w ∧ ∀ m, J m a w → μ a w ≤ m := by
    intro a w h
    have := Classical.choose_spec (exists_least _ h)
    simp only [μ, dif_pos h]; exact this
  refine wpIn_loop (fun a w => ∃ j, J j a w) μ hs fun a w hI => ?_
  refine wpIn_mono (round (μ a w) a w (hμ a w hI).1) fun e a' w' hq => ?_
  cases e with
  | normal =>
    obtain ⟨j', h1, h2⟩ := hq
    exact ⟨⟨j', h2⟩, Nat.lt_of_le_of_lt ((hμ a' w' ⟨j', h2⟩).2 j' h2) h1⟩
  | _ => exact hq

/-! ### Scopes -/
def scStep (c : Code) (Q : Exit → Act → World → Prop) (X : Code → Act → World → Prop) : Exit → Act → World → Prop := fun e a w => match e with
    | .goto l => match findLabel c l with
      | some rest => X rest a w
      | none => Q (.goto l) a w
    | e => Q e a w
/-- What all that is closed holds of. -/
def wpScope (F : Fence) (n : Nat) (P : Program) (c : Code) (Q : Exit → Act → World → Prop) (code : Code) (a : Act) (w : World) : Prop :=
  ∀ X : Code → Act → World → Prop, (∀ code a w, code.wpIn F n P (scStep c Q X) a w → X code a w) → X code a w
theorem scStep_mono {c : Code} {Q : Exit → Act → World → Prop} {X Y : Code → Act → World → Prop} (h : ∀ code a w, X code a w → Y code a w) {e : Exit} {a : Act} {w : World} (hs : scStep c Q X e a w) : scStep c Q Y e a w := by
  unfold scStep at hs ⊢
  cases e with
  | goto l =>
    simp only at hs ⊢
    split at hs
    · exact h _ _ _ hs
    · exact hs
  | _ => exact hs
theorem wpScope_fold {F : Fence} {n : Nat} {P : Program} {c : Code} {Q : Exit → Act → World → Prop} {code : Code} {a : Act} {w : World} (h : code.wpIn F n P (scStep c Q (wpScope F n P c Q)) a w) : wpScope F n P c Q code a w :=
  fun X hX => hX code a w (wpIn_mono h fun _ _ _ hs => scStep_mono (fun _ _ _ hx => hx X hX) hs)

theorem stepR_scope {P : Program} {b : Frame} {a : Act} {k : List Item} {cs : List Frame} {w : World} {c : Code} : step P (lone (b.atR a (.code (.scope c) :: k)) cs w) = .next (lone (b.atR a (.code c :: .inScope c :: k)) cs w) :=
  step_lone_go (by simp [stepG, stepG.exec, Frame.atR])
theorem stepR_inScope {P : Program} {b : Frame} {a : Act} {k : List Item} {cs : List Frame} {w : World} {c : Code} : step P (lone (b.atR a (.inScope c :: k)) cs w) = .next (lone (b.atR a k) cs w) :=
  step_lone_go (by simp [stepG, stepG.exec, Frame.atR])

theorem wpIn_scope {F : Fence} {n : Nat} {P : Program} {Q : Exit → Act → World → Prop} {a : Act} {w : World} {c : Code} (h : wpScope F n P c Q c a w) : (Code.scope c).wpIn F n P Q a w := by
  intro b k cs hro hb hr
  have key := h (fun code a w => ∃ e a' w', Q e a' w' ∧ ArrivesIn (Machine.fenced P F) P (lone (b.atR a (.code code :: .inScope c :: k)) cs w) b k cs e a' w') (by
    intro code a w h
    obtain ⟨e, a₁, w₁, hq, harr⟩ := h b (.inScope c :: k) cs hro hb hr
    cases e with
    | normal => exact ⟨.normal, a₁, w₁, hq, StepsIn.trans harr (.one (fenced_calm hb hr rfl) stepR_inScope)⟩
    | exit id =>
      have hx : exitTo id (.inScope c :: k) = exitTo id k := by simp [exitTo]
      exact ⟨.exit id, a₁, w₁, hq, fun k' hk => harr.1 k' (by rw [hx]; exact hk), fun hr' hk => harr.2 hr' (by rw [hx]; exact hk)⟩
    | goto l =>
      simp only [scStep] at hq
      split at hq
      · rename_i rest hl
        have hg : gotoIn l (.inScope c :: k) = some (.code rest :: .inScope c :: k) := by simp [gotoIn, hl]
        obtain ⟨e₂, a₂, w₂, hq₂, harr₂⟩ := hq
        exact ⟨e₂, a₂, w₂, hq₂, .of_steps (harr.1 _ hg) harr₂⟩
      · rename_i hl
        have hx : gotoIn l (.inScope c :: k) = gotoIn l k := by simp [gotoIn, hl]
        exact ⟨.goto l, a₁, w₁, hq, fun k' hk => harr.1 k' (by rw [hx]; exact hk), fun hr' hk => harr.2 hr' (by rw [hx]; exact hk)⟩
    | ret => exact ⟨_, a₁, w₁, hq, harr⟩
    | panic ch => exact ⟨_, a₁, w₁, hq, harr⟩
    | outgrown => exact ⟨_, a₁, w₁, hq, harr⟩)
  obtain ⟨e, a', w', hq, harr⟩ := key
  exact ⟨e, a', w', hq, .of_steps (.one (fenced_calm hb hr rfl) stepR_scope) harr⟩

theorem pickHint_fits {fn key n0 id0 : Nat} {own0 : Own} {st : St} : ∀ {hs : List Hint} {h : Hint} {v : List SE}, pickHint fn key n0 id0 own0 st hs = some (h, v) → fits n0 id0 own0 h st = some v
  | x :: hs, h, v, hp => by
    simp only [pickHint] at hp
    split at hp
    · split at hp
      · rename_i hf
        simp only [Option.some.injEq, Prod.mk.injEq] at hp
        obtain ⟨rfl, rfl⟩ := hp
        exact hf
      · exact pickHint_fits hp
    · exact pickHint_fits hp

/-- What a jump back comes to. -/
def ActOk (E : Env) (R : AV → Prop) (n0 : Nat) (w0 : Base) (Y : List (Nat × Rnd)) (F : Fence) (n : Nat) (fn : Nat) (cd : Code) (Q : Exit → Act → World → Prop) (act : List (Nat × GLp)) (d : Nat) (Lp : Nat → List AV → Prop) (c : Cx) (ρ : Nat → AV) (nenv : Nat) (D : Nat → Bool) : Prop :=
  ∀ l g rest, findGL l act = some g → findLabel cd l = some rest → ∀ d', d ≤ d' → KOk E R n0 w0 Y d Lp c ρ nenv D (againGL fn l d' g) (wpScope F n E.P cd Q rest)

theorem ActOk.mono {R : AV → Prop} {F : Fence} {n fn : Nat} {cd : Code} {Q : Exit → Act → World → Prop} {act : List (Nat × GLp)} {d d2 : Nat} {Lp Lp' : Nat → List AV → Prop} {nenv nenv' : Nat} {D D' : Nat → Bool}
    (h : ActOk E R n0 w0 Y F n fn cd Q act d Lp c ρ nenv D) (hd : d ≤ d2) (hx : Ext c ρ nenv D c' ρ' nenv' D') (hL : ∀ j, j < d → Lp' j = Lp j) : ActOk E R n0 w0 Y F n fn cd Q act d2 Lp' c' ρ' nenv' D' :=
  fun l g rest h1 h2 d' h3 st1 c1 ρ1 Lp1 a1 w1 q1 q2 q3 q4 => h l g rest h1 h2 d' (by omega) st1 c1 ρ1 Lp1 a1 w1 (hx.trans q1) q2 (fun j hj => (q3 j (by omega)).trans (hL j hj)) q4

theorem KontOk.deeper {R : AV → Prop} {d d2 : Nat} {Lp : Nat → List AV → Prop} {nenv : Nat} {D : Nat → Bool} {k : Kont} {Q : Exit → Act → World → Prop} (h : KontOk E R n0 w0 Y d Lp c ρ nenv D k Q) (hd : d ≤ d2) : KontOk E R n0 w0 Y d2 Lp c ρ nenv D k Q :=
  fun ke st1 c1 ρ1 Lp1 a1 w1 q1 q2 q3 q4 => h ke st1 c1 ρ1 Lp1 a1 w1 q1 q2 (fun j hj => q3 j (by omega)) q4

theorem scopeK_sound (hE : EnvOk E) {R : AV → Prop} {fn : Nat} {run : Nat → Code → St → Kont → RT} (hrun : ∀ (d : Nat) (code : Code) (st : St) (k : Kont) (n : Nat) (Q : Exit → Act → World → Prop) (c : Cx) (ρ : Nat → AV) (Lp : Nat → List AV → Prop) (a : Act) (w : World),
    MatchSt E.G n0 w0 Y c ρ st a w → KontOk E R n0 w0 Y d Lp c ρ st.nenv st.D k Q → RTwp E.P E.G R (run d code st k) Lp ρ → code.wpIn (FW ro) n E.P Q a w) {cd : Code} {n : Nat} {Q : Exit → Act → World → Prop} : ∀ (m d : Nat) (act : List (Nat × GLp)) (code : Code) (st : St) (k : Kont) (c : Cx) (ρ : Nat → AV) (Lp : Nat → List AV → Prop) (a : Act) (w : World),
    MatchSt E.G n0 w0 Y c ρ st a w → KontOk E R n0 w0 Y d Lp c ρ st.nenv st.D k Q → ActOk E R n0 w0 Y (FW ro) n fn cd Q act d Lp c ρ st.nenv st.D → RTwp E.P E.G R (scopeK E.hints fn run cd m d act code st k) Lp ρ → wpScope (FW ro) n E.P cd Q code a w
  | 0, d, act, code, st, k, c, ρ, Lp, a, w, _, _, _, h => h.elim
  | m + 1, d, act, code, st, k, c, ρ, Lp, a, w, hm, hk, hact, h => by
    simp only [scopeK] at h
    refine wpScope_fold (hrun d code st _ n _ c ρ Lp a w hm ?_ h)
    intro ke st1 c1 ρ1 Lp1 a1 w1 hx hm1 hL hr
    cases ke with
    | goto l =>
      show match findLabel cd l with
        | some rest => wpScope (FW ro) n E.P cd Q rest a1 w1
        | none => Q (.goto l) a1 w1
      simp only at hr
      split at hr
      · rename_i rest hl
        simp only [hl]
        split at hr
        · rename_i g hg
          exact hact l g rest hg hl d (Nat.le_refl _) st1 c1 ρ1 Lp1 a1 w1 hx hm1 hL hr
        · rename_i hg
          split at hr
          · split at hr
            · exact hr.elim
            · rename_i hint init hpick
              have hf := pickHint_fits hpick
              simp only [RTwp] at hr
              obtain ⟨I, μ, hI, hround⟩ := hr
              obtain ⟨l0, p0, c0, m0, x0⟩ := fits_sound hE hm1.mem.pure hm1.rnds hf (Ext.refl _ _ _ _) hm1
              have key : ∀ (j : Nat) (c2 : Cx) (vs : List AV) (a2 : Act) (w2 : World), vs.length = init.length → AV.pureAll vs = true → I vs → μ vs = j → MatchSt E.G n0 w0 Y c2 (setEnvs ρ1 st1.nenv vs) hint.hdr a2 w2 → Ext c1 ρ1 st1.nenv st1.D c2 (setEnvs ρ1 st1.nenv vs) hint.hdr.nenv hint.hdr.D → wpScope (FW ro) n E.P cd Q rest a2 w2 := by
                intro j
                induction j using Nat.strongRecOn with
                | _ j ihj =>
                  intro c2 vs a2 w2 hlen hp hIv hμ hm2 hx2
                  have hb := hround vs hlen hp hIv
                  refine scopeK_sound hE hrun m (d + 1) _ rest hint.hdr k c2 _ _ a2 w2 hm2 ?_ ?_ hb
                  · exact (hk.mono (hx.trans hx2) (fun j hj => by
                      have := hL j hj
                      funext us
                      simp only [if_neg (show j ≠ d from by omega), this])).deeper (Nat.le_succ d)
                  · intro l' g' rest' hg' hl' d' hd' st3 c3 ρ3 Lp3 a3 w3 q1 q2 q3 q4
                    simp only [findGL] at hg'
                    split at hg'
                    · rename_i hll
                      have hll := Nat.eq_of_beq_eq_true hll
                      subst hll
                      simp only [Option.some.injEq] at hg'
                      subst hg'
                      rw [hl] at hl'
                      simp only [Option.some.injEq] at hl'
                      subst hl'
                      unfold againGL at q4
                      split at q4
                      · rename_i vals hf3
                        simp only [RTwp] at q4
                        rw [q3 d (by omega)] at q4
                        simp only [if_true] at q4
                        obtain ⟨l3, p3, c4, m4, x4⟩ := fits_sound hE hm1.mem.pure hm1.rnds hf3 (hx2.trans q1) q2
                        exact ihj _ (by rw [← hμ]; exact q4.2) c4 _ a3 w3 (by rw [dens_length, l3, l0]) p3 q4.1 rfl m4 x4
                      · exact q4.elim
                    · exact hact l' g' rest' hg' hl' d' (by omega) st3 c3 ρ3 Lp3 a3 w3 (hx.trans (hx2.trans q1)) q2 (fun j hj => by
                        rw [q3 j (by omega)]
                        have := hL j hj
                        funext us
                        simp only [if_neg (show j ≠ d from by omega), this]) q4
              exact key _ c0 _ a1 w1 (dens_length _ _) p0 hI rfl m0 x0
          · exact scopeK_sound hE hrun m d act rest st1 k c1 ρ1 Lp1 a1 w1 hm1 (hk.mono hx hL) (hact.mono (Nat.le_refl _) hx hL) hr
      · rename_i hl
        simp only [hl]
        exact hk (.goto l) st1 c1 ρ1 Lp1 a1 w1 hx hm1 hL hr
    | normal => exact hk .normal st1 c1 ρ1 Lp1 a1 w1 hx hm1 hL hr
    | exit id => exact hk (.exit id) st1 c1 ρ1 Lp1 a1 w1 hx hm1 hL hr
    | ret => exact hk .ret st1 c1 ρ1 Lp1 a1 w1 hx hm1 hL hr

/-! ### The whole -/
theorem rangeCallee_spec {st : St} {g : Operand} {fid : Nat} {f : Func} {cd : Code} {fs cs : List SE} (h : rangeCallee E st g = some (fid, f, cd, fs, cs)) :
    evS E.G st.slots [] g = some (.clo fid fs cs) ∧ callOk E.P fid = true ∧ E.P.funcs[fid]? = some f ∧ f.body = some cd := by
  unfold rangeCallee at h
  split at h
  · rename_i fid' fs' cs' h1
    split at h
    · rename_i h2
      split at h
      · rename_i fn h3
        split at h
        · rename_i c h4
          simp only [Option.some.injEq, Prod.mk.injEq] at h
          obtain ⟨rfl, rfl, rfl, rfl, rfl⟩ := h
          exact ⟨h1, h2, h3, h4⟩
        · cases h
      · cases h
    · cases h
  · cases h

/-- The blocks that a range lays. -/
theorem enter_range {Y : List (Nat × Rnd)} {fn : FuncId} {ps : Array Tmp} {assign body : Code} (hE : EnvOk E) (h0 : n0 ≤ w0.w.heap.size) (hm : MatchSt E.G n0 w0 Y c ρ st a w) (h1 : look st.own st.nid = none) (h2 : look st.own (st.nid + 1) = none) (fnum : Nat) :
    ∃ c', c.Keeps st.D c' ∧ c'.β st.nid = w.heap.size ∧ c'.β (st.nid + 1) = w.heap.size + 1 ∧
      Mem n0 w0 c' ρ (look (putOwn (putOwn st.own st.nid .dfr) (st.nid + 1) (.loop .ready))) st.nenv ((w.alloc (.deferred (some []))).alloc (.loop { state := .ready, pending := none, fn, tmps := a.tmps, params := ps, assign, body, defers := w.heap.size })) ∧
      GlobOk E.G c' ∧ RoundsOk ((st.nid + 1, ⟨fnum, st.sz, st.slots, ps.toList, assign, body⟩) :: Y) c' ρ st.nenv (look (putOwn (putOwn st.own st.nid .dfr) (st.nid + 1) (.loop .ready))).dom := by
  let rec0 : Loop := { state := .ready, pending := none, fn, tmps := a.tmps, params := ps, assign, body, defers := w.heap.size }
  have hn0 := hm.mem.hn0 h0
  let c1 := c.setβ st.nid w.heap.size
  have k1 : c.Keeps st.D c1 := Cx.setβ_keeps c h1
  have m1 : Mem n0 w0 c1 ρ ((look st.own).upd st.nid .dfr) st.nenv (w.alloc (.deferred (some []))) := by
    refine hm.mem.new _ st.nid h1 .dfr k1 rfl rfl rfl ?_ ?_ hn0
    · show (w.alloc _).heap[c1.β st.nid]? = _
      rw [show c1.β st.nid = w.heap.size from by simp [c1, Cx.setβ]]; exact World.alloc_heap_new _ _
    · intro b hb
      simp only [bl, Option.some.injEq] at hb
      rw [← hb]; simp [c1, Cx.setβ]
  have h2' : ((look st.own).upd st.nid .dfr) (st.nid + 1) = none := by rw [Lk.upd_other _ _ (by omega)]; exact h2
  let c2 := (c1.setβ (st.nid + 1) (w.heap.size + 1)).setL (st.nid + 1) rec0
  have k2 : c1.Keeps ((look st.own).upd st.nid .dfr).dom c2 := (Cx.setβ_keeps c1 h2').trans (Cx.setL_keeps _ h2')
  have m2 : Mem n0 w0 c2 ρ (((look st.own).upd st.nid .dfr).upd (st.nid + 1) (.loop .ready)) st.nenv ((w.alloc (.deferred (some []))).alloc (.loop rec0)) := by
    refine m1.new _ (st.nid + 1) h2' (.loop .ready) k2 rfl rfl rfl ?_ ?_ (by simp; omega)
    · show ((w.alloc _).alloc _).heap[c2.β (st.nid + 1)]? = some (.loop (stamp (c2.L (st.nid + 1)) .ready))
      have e1 : c2.β (st.nid + 1) = (w.alloc (.deferred (some []))).heap.size := by simp [c2, Cx.setβ, Cx.setL]
      have e2 : c2.L (st.nid + 1) = rec0 := by simp [c2, Cx.setL]
      rw [e1, e2]; exact World.alloc_heap_new _ _
    · intro b hb
      simp only [bl, Option.some.injEq] at hb
      rw [← hb]; simp [c2, Cx.setβ, Cx.setL]
  have hlk : look (putOwn (putOwn st.own st.nid .dfr) (st.nid + 1) (.loop .ready)) = ((look st.own).upd st.nid .dfr).upd (st.nid + 1) (.loop .ready) := by rw [look_putOwn, look_putOwn]
  have kk : c.Keeps st.D c2 := k1.trans (k2.mono fun i hi => Lk.dom_upd _ _ _ _ hi)
  have hdm : ∀ i, st.D i = true → (look (putOwn (putOwn st.own st.nid .dfr) (st.nid + 1) (.loop .ready))).dom i = true := fun i hi => by rw [hlk]; exact Lk.dom_upd _ _ _ _ (Lk.dom_upd _ _ _ _ hi)
  refine ⟨c2, kk, ?_, ?_, by rw [hlk]; exact m2, hm.glob.ext hE kk.toLe, ?_⟩
  · simp [c2, c1, Cx.setβ, Cx.setL]
  · simp [c2, Cx.setβ, Cx.setL]
  · intro i r hf
    simp only [findY, Nat.beq_eq] at hf
    split at hf
    · rename_i hi
      simp only [Option.some.injEq] at hf; subst hf; subst hi
      have e2 : c2.L (st.nid + 1) = rec0 := by simp [c2, Cx.setL]
      rw [e2]
      exact ⟨by rw [hlk]; exact Lk.dom_upd_same _ _ _, rfl, rfl, rfl, hm.sz, hm.slots.keeps kk (Agree.refl _ _) hm.mem.pure (Nat.le_refl _) hdm⟩
    · exact hm.rnds.keeps kk (Agree.refl _ _) hm.mem.pure (Nat.le_refl _) hdm i r hf

theorem sx_sound (hE : EnvOk E) (h0 : n0 ≤ w0.w.heap.size) (hmix : E.P.follows .mixedOrders = true) {R : AV → Prop} : ∀ (fuel d : Nat) (Y : List (Nat × Rnd)), RecOk E R n0 w0 Y d (fun rd fn code st k => sx E fuel d rd fn Y code st k) := by
  intro fuel
  induction fuel with
  | zero => intro d Y rd fn code st k ro n Q c ρ Lp a w _ _ _ h; exact h.elim
  | succ fuel ih =>
    intro d Y rd fn code st k ro n Q c ρ Lp a w hrd hm hk h
    have here : ∀ (ke : KE), RTwp E.P E.G R (k ke st) Lp ρ → Q ke.toExit a w := fun ke hr => hk ke st c ρ Lp a w (Ext.refl _ _ _ _) hm (fun _ _ => rfl) hr
    cases code with
    | skip => exact wpIn_skip (here .normal h)
    | label l => exact wpIn_label (here .normal h)
    | exit id => exact wpIn_exit (here (.exit id) h)
    | goto l => exact wpIn_goto (here (.goto l) h)
    | ret => exact wpIn_ret (here .ret h)
    | region id ops dr =>
      cases dr with
      | false => exact wpIn_region (sxOps_sound hE h0 (fun rd f cd st k => ih d Y rd f cd st k) _ st _ c ρ Lp a w hm (hk .normal).named h)
      | true => exact sxDraw_sound hE h0 hmix hm (hk .normal).named h
    | seq x y =>
      refine wpIn_seq (ih d Y rd fn x st _ ro n _ c ρ Lp a w hrd hm ?_ h)
      intro ke st1 c1 ρ1 Lp1 a1 w1 hx hm1 hL hr
      cases ke with
      | normal => exact ih d Y rd fn y st1 k ro n Q c1 ρ1 Lp1 a1 w1 hrd hm1 (hk.mono hx hL) hr
      | exit id => exact hk (.exit id) st1 c1 ρ1 Lp1 a1 w1 hx hm1 hL hr
      | goto l => exact hk (.goto l) st1 c1 ρ1 Lp1 a1 w1 hx hm1 hL hr
      | ret => exact hk .ret st1 c1 ρ1 Lp1 a1 w1 hx hm1 hL hr
    | cond x p q =>
      simp only [sx] at h
      have hev : ∀ {e}, evS E.G st.slots [] x = some e → Rv c (den ρ e) (a.eval x) := fun hx => (evS_sound hm.slots hm.glob hE.G (Holds.nil ρ) hx).1
      split at h
      · rename_i he
        exact wpIn_cond_true (Rv.bool_inv (hev he)) (ih d Y rd fn p st k ro n Q c ρ Lp a w hrd hm hk h)
      · rename_i he
        exact wpIn_cond_false (Rv.bool_inv (hev he)) (ih d Y rd fn q st k ro n Q c ρ Lp a w hrd hm hk h)
      · rename_i e _ _ he
        obtain ⟨b, st1, hb, hm1, hs1, hr⟩ := splitSE_sound hm h
        have hv := hev he
        rw [hb] at hv
        have hk1 := hk.mono (Ext.same hs1) (fun _ _ => rfl) (ρ' := ρ) (c' := c) (Lp' := Lp)
        refine wpIn_cond (Rv.bool_inv hv) ?_
        cases b
        · exact ih d Y rd fn q st1 k ro n Q c ρ Lp a w hrd hm1 hk1 hr
        · exact ih d Y rd fn p st1 k ro n Q c ρ Lp a w hrd hm1 hk1 hr
      · exact h.elim
    | block id x =>
      refine wpIn_block (ih d Y rd fn x st _ ro n _ c ρ Lp a w hrd hm ?_ h)
      intro ke st1 c1 ρ1 Lp1 a1 w1 hx hm1 hL hr
      cases ke with
      | normal => exact hk .normal st1 c1 ρ1 Lp1 a1 w1 hx hm1 hL hr
      | exit j =>
        show if j = id then Q .normal a1 w1 else Q (.exit j) a1 w1
        simp only at hr
        split at hr
        · rename_i hj; rw [if_pos hj]; exact hk .normal st1 c1 ρ1 Lp1 a1 w1 hx hm1 hL hr
        · rename_i hj; rw [if_neg hj]; exact hk (.exit j) st1 c1 ρ1 Lp1 a1 w1 hx hm1 hL hr
      | goto l => exact hk (.goto l) st1 c1 ρ1 Lp1 a1 w1 hx hm1 hL hr
      | ret => exact hk .ret st1 c1 ρ1 Lp1 a1 w1 hx hm1 hL hr
    | scope x =>
      exact wpIn_scope (scopeK_sound hE (run := fun d x st k => sx E fuel d rd fn Y x st k) (fun d code st k n Q c ρ Lp a w hm hk h => ih d Y rd fn code st k ro n Q c ρ Lp a w hrd hm hk h) fuel d [] x st k c ρ Lp a w hm hk (fun l g rest h => (by simp [findGL] at h)) h)
    | loop x =>
      obtain ⟨cf, hmf, kf, f1, f2, f3, f4⟩ := frz_sound hE.G (rowIds E fn (loopKey x) st) c st hm
      simp only [sx] at h
      generalize hst2 : frz (rowIds E fn (loopKey x) st) st = st2 at h hmf f1 f2 f3 f4
      have hk2 : KontOk E R n0 w0 Y d Lp cf ρ st2.nenv st2.D k Q := hk.mono ⟨kf.mono (fun _ _ => rfl), Agree.refl _ _, by rw [f1]; exact Nat.le_refl _, fun i hi => by rw [f4]; exact hi⟩ (fun _ _ => rfl)
      clear hk here
      clear hm
      have hm := hmf
      have hk := hk2
      revert hm hk h
      generalize st2 = st
      generalize cf = c
      intro h hm hk
      split at h
      · exact h.elim
      · rename_i hint init hpick
        have hf := pickHint_fits hpick
        simp only [RTwp] at h
        obtain ⟨I, μ, hI, hround⟩ := h
        obtain ⟨l0, p0, c0, m0, x0⟩ := fits_sound hE hm.mem.pure hm.rnds hf (Ext.refl _ _ _ _) hm
        let J : Nat → Act → World → Prop := fun j a w => ∃ c' vs, vs.length = init.length ∧ AV.pureAll vs = true ∧ I vs ∧ μ vs = j ∧ MatchSt E.G n0 w0 Y c' (setEnvs ρ st.nenv vs) hint.hdr a w ∧ Ext c ρ st.nenv st.D c' (setEnvs ρ st.nenv vs) hint.hdr.nenv hint.hdr.D
        refine wpIn_loop_ix J ⟨μ (dens ρ init), c0, dens ρ init, dens_length _ _, p0, hI, rfl, m0, x0⟩ ?_
        rintro j a1 w1 ⟨c1, vs, hl, hp, hIv, hμ, hm1, hx1⟩
        have hb := hround vs hl hp hIv
        refine ih (d + 1) Y rd fn x hint.hdr _ ro n _ c1 _ _ a1 w1 hrd hm1 ?_ hb
        intro ke st2 c2 ρ2 Lp2 a2 w2 hx2 hm2 hL2 hr
        have hxx := hx1.trans hx2
        have hLd : ∀ j, j < d → Lp2 j = Lp j := fun j hj => by
          rw [hL2 j (by omega)]
          funext us
          simp only [if_neg (show j ≠ d from by omega)]
        cases ke with
        | normal =>
          show ∃ j', j' < j ∧ J j' a2 w2
          simp only at hr
          split at hr
          · rename_i vals hf2
            simp only [RTwp] at hr
            rw [hL2 d (by omega)] at hr
            simp only [if_true] at hr
            obtain ⟨l3, p3, c3, m3, x3⟩ := fits_sound hE hm.mem.pure hm.rnds hf2 hxx hm2
            refine ⟨μ (dens ρ2 vals), by rw [← hμ]; exact hr.2, c3, dens ρ2 vals, by rw [dens_length, l3, l0], p3, hr.1, rfl, m3, x3⟩
          · exact hr.elim
        | exit id => exact hk (.exit id) st2 c2 ρ2 Lp2 a2 w2 hxx hm2 hLd hr
        | goto l => exact hk (.goto l) st2 c2 ρ2 Lp2 a2 w2 hxx hm2 hLd hr
        | ret => exact hk .ret st2 c2 ρ2 Lp2 a2 w2 hxx hm2 hLd hr
    | rangeFunc g ps assign body =>
      simp only [sx] at h
      split at h
      · exact h.elim
      rename_i hrdf
      have hro : ro = none := hrd (by cases rd with | false => rfl | true => exact absurd rfl hrdf)
      subst hro
      split at h
      case isFalse => exact h.elim
      rename_i hfresh
      simp only [Bool.and_eq_true, Option.isNone_iff_eq_none] at hfresh
      split at h
      case h_2 => exact h.elim
      rename_i fid f cd fs cs hrc
      obtain ⟨hg, hok, hfn, hbody⟩ := rangeCallee_spec hrc
      have hgv := evS_sound hm.slots hm.glob hE.G (Holds.nil ρ) hg
      have hgr := hgv.1
      simp only [den] at hgr
      have hfv : ∃ vf vc, a.eval g = .func (.func fid) ⟨vf⟩ ⟨vc⟩ ∧ Rvs c (dens ρ fs) vf ∧ Rvs c (dens ρ cs) vc := by
        generalize a.eval g = v at hgr
        cases hgr with
        | clo _ _ _ vf vc h1 h2 => exact ⟨vf, vc, rfl, h1, h2⟩
      obtain ⟨vf, vc, hge, r1, r2⟩ := hfv
      have hgw := hgv.2
      simp only [SE.wf, Bool.and_eq_true] at hgw
      refine wpIn_rangeFunc fun fnb _ => ?_
      obtain ⟨c1, kk, b1, b2, m1, g1, y1⟩ := enter_range (Y := Y) (fn := fnb) (ps := ps) (assign := assign) (body := body) hE h0 hm hfresh.1 hfresh.2 fn
      have hlk1 : ∀ i, st.D i = true → (look (putOwn (putOwn st.own st.nid .dfr) (st.nid + 1) (.loop .ready))).dom i = true := fun i hi => by
        rw [look_putOwn, look_putOwn]; exact Lk.dom_upd _ _ _ _ (Lk.dom_upd _ _ _ _ hi)
      have u1 := dens_under hm.mem.pure fs hgw.1
      have u2 := dens_under hm.mem.pure cs hgw.2
      have hargs : Rvs c1 (dens ρ (fs ++ [SE.yield (st.nid + 1)] ++ cs)) (vf ++ [.func (.yield (w.heap.size + 1)) #[] #[]] ++ vc) := by
        rw [dens_append, dens_append]
        refine ((Rvs_keeps kk r1 u1).append ?_).append (Rvs_keeps kk r2 u2)
        have := Rv.yield (c := c1) (st.nid + 1)
        rw [b2] at this
        exact .cons _ _ _ _ this .nil
      have hwf : SE.wfs st.nenv (look (putOwn (putOwn st.own st.nid .dfr) (st.nid + 1) (.loop .ready))).dom (fs ++ [SE.yield (st.nid + 1)] ++ cs) = true := by
        have hy : (look (putOwn (putOwn st.own st.nid .dfr) (st.nid + 1) (.loop .ready))).dom (st.nid + 1) = true := by rw [look_putOwn]; exact Lk.dom_upd_same _ _ _
        have hz : SE.wfs st.nenv (look (putOwn (putOwn st.own st.nid .dfr) (st.nid + 1) (.loop .ready))).dom [SE.yield (st.nid + 1)] = true := by simp only [SE.wfs, SE.wf, hy, Bool.and_self]
        rw [wfs_append, wfs_append, hz, SE.wfs_mono (Nat.le_refl _) hlk1 hgw.1, SE.wfs_mono (Nat.le_refl _) hlk1 hgw.2]; rfl
      have hcf : ∀ (args : Array Value) (w : World), (callFunc fid args).run E.P w = .ok (.enter fid args) w := fun args w => run_callFunc hok args w
      let W2 : World := (w.alloc (.deferred (some []))).alloc (.loop { state := .ready, pending := none, fn := fnb, tmps := a.tmps, params := ps, assign := assign, body := body, defers := w.heap.size })
      refine ⟨w.heap.size + 1, _, _, { target := .fn (.func fid) ⟨vc⟩, args := ⟨vf ++ [.func (.yield (w.heap.size + 1)) #[] #[]]⟩ }, W2, fid, ⟨vf ++ [.func (.yield (w.heap.size + 1)) #[] #[]] ++ vc⟩, W2, run_enterLoop_outer fnb a.tmps ps assign body, ?_, (fun _ _ => trivial), ?_, by simp, ?_⟩
      · simp only [resolve, hge, Deferred.ofValue, Sem.run_pure]
        congr 2
        simp [Act.eval]
      · simp only [invoke]
        rw [hcf]
        congr 2
        apply Array.ext'
        simp
      · refine callsIn_of_wp_marks (F := FW none) hfn hbody trivial ?_
        refine ih d _ false fid cd _ _ none _ _ c1 ρ Lp _ _ (fun _ => rfl) (match_args y1 m1 g1 hargs hwf f.ntmps) ?_ h
        intro ke st1 c2 ρ2 Lp2 a2 w2 hx2 hm2 hL2 hr2
        have hx2' : Ext c1 ρ st.nenv (look (putOwn (putOwn st.own st.nid .dfr) (st.nid + 1) (.loop .ready))).dom c2 ρ2 st1.nenv st1.D := hx2
        have hxx : Ext c ρ st.nenv st.D c2 ρ2 st1.nenv st1.D := ⟨kk.trans (hx2'.keeps.mono hlk1), hx2'.agree, hx2'.nenv, fun i hi => hx2'.dom i (hlk1 i hi)⟩
        have good : ∀ (_ : RTwp E.P E.G R (match leaveOwn st1.marks st1.own with
            | some own1 => if f.results.isEmpty = true then match rangeEnd (look own1 (st.nid + 1)) with
              | some ke' => k ke' { st with own := putOwn own1 (st.nid + 1) .gone, nenv := st1.nenv, nid := st1.nid, marks := st.nid :: st.marks }
              | none => .dead 41 [] else .dead 42 []
            | none => .dead 43 []) Lp2 ρ2), LeavesInM (FW none) (n - 1) E.P f a2.tmps (rangePost (FW none) n E.P (w.heap.size + 1) Q { a with defers := [{ target := .collected w.heap.size, args := #[] }] ++ a.defers }) a2.defers .returning w2 := by
          intro hr
          split at hr
          case h_2 => exact hr.elim
          rename_i own1 hlv
          rw [hm2.dfr]
          refine leave_sound st1.marks st1.own own1 w2 hlv hm2.mem (fun w3 hmem3 => ?_)
          split at hr
          case isFalse => exact hr.elim
          rename_i hres
          refine ⟨.tuple #[], ?_, ?_⟩
          · have : f.results = #[] := by simpa using hres
            exact results_none this a2.tmps E.P w3
          split at hr
          case h_2 => exact hr.elim
          rename_i ke' hend
          have hdl : (look (putOwn (putOwn st.own st.nid .dfr) (st.nid + 1) (.loop .ready))).dom (st.nid + 1) = true := by rw [look_putOwn]; exact Lk.dom_upd_same _ _ _
          have hdd : (look (putOwn (putOwn st.own st.nid .dfr) (st.nid + 1) (.loop .ready))).dom st.nid = true := by rw [look_putOwn, look_putOwn]; exact Lk.dom_upd _ _ _ _ (Lk.dom_upd_same _ _ _)
          have eβ : c2.β (st.nid + 1) = w.heap.size + 1 := (hx2'.keeps.β _ hdl).trans b2
          have eβd : c2.β st.nid = w.heap.size := (hx2'.keeps.β _ hdd).trans b1
          have fin : ∀ (s : LSt), look own1 (st.nid + 1) = some (.loop s) → s ≠ .busy → ∃ w4, (Instr.endLoop (w.heap.size + 1)).run E.P w3 = .ok (stamp (c2.L (st.nid + 1)) s).pending w4 ∧ Q ke'.toExit { a with defers := [{ target := .collected w.heap.size, args := #[] }] ++ a.defers } w4 := by
            intro s hls hsb
            have hb3 : w3.heap[w.heap.size + 1]? = some (.loop (stamp (c2.L (st.nid + 1)) s)) := by
              have := hmem3.ok _ _ hls
              rw [← eβ]; exact this
            refine ⟨_, run_endLoop hb3 (by cases s <;> first | exact absurd rfl hsb | (simp [stamp])), ?_⟩
            have hmem4 : Mem n0 w0 c2 ρ2 (look (putOwn own1 (st.nid + 1) .gone)) st1.nenv (w3.putObj (w.heap.size + 1) (.loop { stamp (c2.L (st.nid + 1)) s with state := .exhausted })) := by
              rw [look_putOwn]
              exact hmem3.dropTurn hls rfl (fun k hk => World.putObj_heap_other (by rw [← eβ]; exact hk)) World.putObj_size rfl rfl rfl
            have hdm := leaveOwn_dom hlv
            have hD4 : ∀ i, st1.D i = true → (look (putOwn own1 (st.nid + 1) .gone)).dom i = true := fun i hi => by rw [look_putOwn]; exact Lk.dom_upd _ _ _ _ (hdm i hi)
            have hx4 : Ext c ρ st.nenv st.D c2 ρ2 st1.nenv (look (putOwn own1 (st.nid + 1) .gone)).dom := ⟨hxx.keeps, hxx.agree, hxx.nenv, fun i hi => hD4 i (hxx.dom i hi)⟩
            refine hk ke' { st with own := putOwn own1 (st.nid + 1) .gone, nenv := st1.nenv, nid := st1.nid, marks := st.nid :: st.marks } c2 ρ2 Lp2 _ _ hx4 ⟨hmem4, hm2.glob, hm.sz, hm.slots.keeps hx4.keeps hx4.agree hm.mem.pure hx4.nenv hx4.dom, ?_, ?_, hm.rnds.keeps hx4.keeps hx4.agree hm.mem.pure hx4.nenv hx4.dom⟩ hL2 hr
            · show [{ target := .collected w.heap.size, args := #[] }] ++ a.defers = (st.nid :: st.marks).map (markD c2)
              rw [List.map_cons, marks_keeps hm.mdom hx4.keeps, ← hm.dfr]
              simp [markD, eβd]
            · intro i hi
              rcases List.mem_cons.1 hi with rfl | hi
              · exact hD4 _ (hx2'.dom _ hdd)
              · exact hx4.dom i (hm.mdom i hi)
          unfold rangeEnd at hend
          split at hend
          · rename_i hls
            cases hend
            obtain ⟨w4, q1, q2⟩ := fin _ hls (by simp)
            exact ⟨none, w4, q1, q2⟩
          · rename_i hls
            cases hend
            obtain ⟨w4, q1, q2⟩ := fin _ hls (by simp)
            exact ⟨some .ret, w4, q1, wpIn_ret q2⟩
          · rename_i j hls
            cases hend
            obtain ⟨w4, q1, q2⟩ := fin _ hls (by simp)
            exact ⟨some (.exit j), w4, q1, wpIn_exit q2⟩
          · rename_i l hls
            cases hend
            obtain ⟨w4, q1, q2⟩ := fin _ hls (by simp)
            exact ⟨some (.goto l), w4, q1, wpIn_goto q2⟩
          · cases hend
        cases ke with
        | normal => exact good hr2
        | ret => exact good hr2
        | exit id => exact hr2.elim
        | goto l => exact hr2.elim
    | _ => exact h.elim

/-! ### Contracts -/
theorem contract_of_run (hE : EnvOk E) (hmix : E.P.follows .mixedOrders = true) {f : Nat} {args : List SE} {nenv : Nat} (hw : SE.wfs nenv (fun _ => false) args = true) (hρ : ∀ i, (ρ i).pure = true) {r : AV} (hr : r.pure = true)
    (h : RTwp E.P E.G (fun x => x = r) (runF E f args nenv) (fun _ _ => False) ρ) : Contract E.P E.G f (dens ρ args) r := by
  refine ⟨hr, fun w c vs himm hlt hg hargs => ?_⟩
  unfold runF at h
  split at h
  case h_2 => exact h.elim
  rename_i fn hfn
  split at h
  case h_2 => exact h.elim
  rename_i cd hbody
  let w0 : Base := ⟨w, c.I, c.M⟩
  have hmem : Mem w.heap.size w0 c ρ (look []) nenv w :=
    ⟨himm, hρ, fun _ _ h => (by simp [look] at h), fun _ _ h => (by simp [look] at h), fun _ _ _ _ _ h => (by simp [look] at h), fun _ _ _ h => (by simp [look] at h), fun _ _ _ h => (by simp [look] at h), hlt, Below.refl _ _, fun _ _ => ⟨fun _ _ h => h, fun _ h => h⟩⟩
  refine (callsIn_wide (n := 0)).1 ?_
  refine callsIn_of_wp_marks (F := FW none) hfn hbody trivial ?_
  have hwf : SE.wfs nenv (look []).dom args = true := SE.wfs_mono (Nat.le_refl _) (fun _ h => Bool.noConfusion h) hw
  refine sx_sound (n0 := w.heap.size) (w0 := w0) hE (Nat.le_refl _) hmix 200 0 [] false f cd _ _ none 0 _ c ρ _ _ w (fun _ => rfl) (match_args (fun _ _ h => by simp [findY] at h) hmem hg hargs hwf fn.ntmps) ?_ h
  intro ke st1 c1 ρ1 Lp1 a1 w1 hx hm1 hL hr1
  have good : ∀ (_ : RTwp E.P E.G (fun x => x = r) (match leaveOwn st1.marks st1.own with
      | some own1 => match resVal E { st1 with own := own1 } fn.results with
        | some (e, ns) => match viewSE (look own1) 200 e.weak with
          | some e' => seg ns (.ret e')
          | none => .dead 100 []
        | none => .dead 101 []
      | none => .dead 105 []) Lp1 ρ1), LeavesInM (FW none) 0 E.P fn a1.tmps (fun e w1 => ∃ v' c', e = Ending.returned v' ∧ c.Le c' ∧ Imm c' w1 ∧ (∀ b, b ≥ w1.heap.size → (∀ off v, c'.I b off ≠ some v) ∧ (∀ ob, c'.M b ≠ some ob)) ∧
      (∀ b, b < w.heap.size → (∀ off v, c'.I b off = some v → c.I b off = some v) ∧ (∀ o, c'.M b = some o → c.M b = some o)) ∧ Rv c' r v' ∧ Below w.heap.size w w1) a1.defers .returning w1 := by
    intro hr1
    split at hr1
    case h_2 => exact hr1.elim
    rename_i own1 hlv
    rw [hm1.dfr]
    refine leave_sound st1.marks st1.own own1 w1 hlv hm1.mem (fun w1 hmem1 => ?_)
    have hdm := leaveOwn_dom hlv
    have hm1 : MatchSt E.G w.heap.size w0 [] c1 ρ1 { st1 with own := own1 } a1 w1 :=
      ⟨hmem1, hm1.glob, hm1.sz, hm1.slots.keeps (Cx.Keeps.refl _ _) (Agree.refl _ _) hm1.mem.pure (Nat.le_refl _) hdm, hm1.dfr, fun i hi => hdm i (hm1.mdom i hi), hm1.rnds.keeps (Cx.Keeps.refl _ _) (Agree.refl _ _) hm1.mem.pure (Nat.le_refl _) hdm⟩
    split at hr1
    · rename_i e ns hres
      split at hr1
      · rename_i e' hview
        obtain ⟨hk2, v, hv1, hv2⟩ := resVal_sound hE hm1 hres (seg_RTwp hr1)
        simp only [RTwp] at hk2
        refine ⟨v, hv1, v, ?_⟩
        let c2 : Cx := { c1 with I := fun b off => if b < w.heap.size then c.I b off else w1.cell? ⟨b, off, none⟩, M := fun b => if b < w.heap.size then c.M b else w1.heap[b]? }
        have hold := hm1.mem.old
        have hvw : Views c1 c2 (look own1) w1 := by
          refine ⟨⟨fun b o v hv => ?_, fun b o hv => ?_⟩, fun i o b hl hb => ?_⟩
          · show (if b < w.heap.size then c.I b o else w1.cell? ⟨b, o, none⟩) = some v
            split
            · rename_i hb; exact (hold b hb).1 o v hv
            · exact hm1.mem.imm.I b o v hv
          · show (if b < w.heap.size then c.M b else w1.heap[b]?) = some o
            split
            · rename_i hb; exact (hold b hb).2 o hv
            · exact hm1.mem.imm.M b o hv
          · have hge := (hm1.mem.fresh i o b hl hb).1
            refine ⟨fun off v hv => ?_, fun ob hv => ?_⟩
            · show (if b < w.heap.size then c.I b off else w1.cell? ⟨b, off, none⟩) = some v
              rw [if_neg (by omega)]; exact hv
            · show (if b < w.heap.size then c.M b else w1.heap[b]?) = some ob
              rw [if_neg (by omega)]; exact hv
        have hrv := ((view_sound hm1.mem hvw 200).1 _ _ _ hview (weak_sound _ hv2)).1
        rw [hk2] at hrv
        refine ⟨c2, rfl, ⟨fun b o v hv => ?_, fun b o hv => ?_⟩, ⟨fun b o v hv => ?_, fun b o hv => ?_⟩, fun b hb => ⟨fun off v hv => ?_, fun ob hv => ?_⟩, fun b hb => ⟨fun off v hv => ?_, fun ob hv => ?_⟩, hrv, hm1.mem.below⟩
        · show (if b < w.heap.size then c.I b o else w1.cell? ⟨b, o, none⟩) = some v
          split
          · exact hv
          · rename_i hb; exact absurd hv ((hlt b (by omega)).1 o v)
        · show (if b < w.heap.size then c.M b else w1.heap[b]?) = some o
          split
          · exact hv
          · rename_i hb; exact absurd hv ((hlt b (by omega)).2 o)
        · have hv : (if b < w.heap.size then c.I b o else w1.cell? ⟨b, o, none⟩) = some v := hv
          split at hv
          · exact hm1.mem.imm.I b o v (hx.keeps.I b o v hv)
          · exact hv
        · have hv : (if b < w.heap.size then c.M b else w1.heap[b]?) = some o := hv
          split at hv
          · exact hm1.mem.imm.M b o (hx.keeps.M b o hv)
          · exact hv
        · have hv : (if b < w.heap.size then c.I b off else w1.cell? ⟨b, off, none⟩) = some v := hv
          have hs := hm1.mem.below.size
          simp only [show w0.w = w from rfl] at hs
          rw [if_neg (by omega)] at hv
          have := cell_lt hv; omega
        · have hv : (if b < w.heap.size then c.M b else w1.heap[b]?) = some ob := hv
          have hs := hm1.mem.below.size
          simp only [show w0.w = w from rfl] at hs
          rw [if_neg (by omega)] at hv
          have := (Array.getElem?_eq_some_iff.1 hv).1; omega
        · have hv : (if b < w.heap.size then c.I b off else w1.cell? ⟨b, off, none⟩) = some v := hv
          rwa [if_pos hb] at hv
        · have hv : (if b < w.heap.size then c.M b else w1.heap[b]?) = some ob := hv
          rwa [if_pos hb] at hv
      · exact hr1.elim
    · exact hr1.elim
  cases ke with
  | normal => exact good hr1
  | ret => exact good hr1
  | exit id => exact hr1.elim
  | goto l => exact hr1.elim

end Go.Lb

namespace Go.Lb
open Go.RowKit Go.ChangeShapes

/-- The form of a type's cells. -/
def TyFs (T : TypeId → List AV → Prop) : List Field → List AV → Prop
  | [], as => as = []
  | f :: fs, as => ∃ p q, as = p ++ q ∧ T f.type p ∧ TyFs T fs q

/-- As many parts, each of that form. -/
def TyReps (T : List AV → Prop) : Nat → List AV → Prop
  | 0, as => as = []
  | n + 1, as => ∃ p q, as = p ++ q ∧ T p ∧ TyReps T n q

/-- The type of its elements' values. -/
def isSt (P : Program) (e : TypeId) : Bool := match P.underlying e with
  | some (.struct _) | some (.array ..) => true
  | _ => false

def Ty (P : Program) : Nat → TypeId → List AV → Prop
  | 0, _, _ => False
  | n + 1, t, as => match P.underlying t with
    | some .bool => ∃ b, as = [.bool b]
    | some (.int k) => ∃ m, as = [.int k m] ∧ k.min ≤ m ∧ m ≤ k.max
    | some (.slice e) => ∃ es, as = [.sl es] ∧ es.length ≤ maxLen ∧ ∀ x ∈ es, Ty P n e x.cells ∧ (isSt P e = true ↔ ∃ cs, x = .agg cs)
    | some (.struct fs) => TyFs (Ty P n) fs.toList as
    | some (.array k e) => TyReps (Ty P n e) k as
    | _ => False

def tiles (P : Program) : List Field → Nat → Nat → Bool
  | [], off, total => decide (off = total)
  | f :: fs, off, total => decide (f.offset = off) && tiles P fs (off + P.cellsOf f.type) total

/-- Types that can be opened. -/
def plainTy (P : Program) : Nat → TypeId → Bool
  | 0, _ => false
  | n + 1, t => match P.underlying t with
    | some .bool | some (.int _) => decide (P.cellsOf t = 1)
    | some (.slice e) => decide (P.cellsOf t = 1) && decide (0 < P.cellsOf e) && plainTy P n e && (isSt P e || decide (P.cellsOf e = 1))
    | some (.struct fs) => tiles P fs.toList 0 (P.cellsOf t) && fs.toList.all fun f => plainTy P n f.type
    | some (.array k e) => decide (k * P.cellsOf e = P.cellsOf t) && plainTy P n e
    | _ => false

/-! ### No row longer than that -/
mutual
def AV.bnd (B : Nat) : AV → Prop
  | .sl es => es.length ≤ B ∧ AV.bnds B es
  | .agg cs => AV.bnds B cs
  | _ => True
def AV.bnds (B : Nat) : List AV → Prop
  | [] => True
  | x :: xs => AV.bnd B x ∧ AV.bnds B xs
end
theorem bnds_append (B : Nat) (xs ys : List AV) : AV.bnds B (xs ++ ys) ↔ AV.bnds B xs ∧ AV.bnds B ys := by
  induction xs with
  | nil => simp [AV.bnds]
  | cons x xs ih => simp only [List.cons_append, AV.bnds, ih, and_assoc]
theorem bnds_mem {B : Nat} {xs : List AV} (h : AV.bnds B xs) : ∀ x ∈ xs, AV.bnd B x := by
  induction xs with
  | nil => intro x hx; cases hx
  | cons y xs ih =>
    intro x hx
    simp only [AV.bnds] at h
    rcases List.mem_cons.1 hx with rfl | hx
    · exact h.1
    · exact ih h.2 x hx
theorem bnd_cells {B : Nat} {x : AV} : AV.bnd B x ↔ AV.bnds B x.cells := by
  cases x <;> simp [AV.bnd, AV.bnds, AV.cells]
/-- A size of data. -/
structure Bulk (H : Type) where
  f : DataW H → Nat
  sl : ∀ elems spare, elems.length ≤ f (.slice elems spare)
  el : ∀ elems spare d, d ∈ elems → f d ≤ f (.slice elems spare)
  ag : ∀ parts d, d ∈ parts → f d ≤ f (.agg parts)
/-- Rows as long as the data at most. -/
def Small {H : Type} (ds : List (DataW H)) (as : List AV) : Prop := ∀ (bk : Bulk H) (B : Nat), (∀ d ∈ ds, bk.f d ≤ B) → AV.bnds B as
def Cx.all (w : World) : Cx := { I := fun b o => w.cell? ⟨b, o, none⟩, M := fun b => w.heap[b]?, β := fun _ => 0, h := fun _ => .nilFunc, L := fun _ => default }

section
variable {H : Type} {enc : TypeId × Value → H} {P : Program} {w : World} {base : Nat} {spare : Nat → Bool} {held : Bool}

theorem trod_bool {fuel : Nat} {t : TypeId} {cs : List Value} {y : DataW H × List MemPlace} (ht : P.underlying t = some .bool) (h : DataW.trod enc P w base spare held (fuel + 1) t cs = some y) : ∃ b, cs = [.bool b] := by
  unfold DataW.trod at h
  rw [ht] at h
  split at h <;> simp_all

theorem trod_int {fuel : Nat} {t : TypeId} {k : IntKind} {cs : List Value} {y : DataW H × List MemPlace} (ht : P.underlying t = some (.int k)) (h : DataW.trod enc P w base spare held (fuel + 1) t cs = some y) : ∃ m, cs = [.int k m] ∧ k.min ≤ m ∧ m ≤ k.max := by
  unfold DataW.trod at h
  rw [ht] at h
  split at h <;> simp_all
  · have hw := h.1.2
    simpa [Lit.wf] using hw

theorem trod_slice {fuel : Nat} {t e : TypeId} {cs : List Value} {y : DataW H × List MemPlace} (ht : P.underlying t = some (.slice e)) (h : DataW.trod enc P w base spare held (fuel + 1) t cs = some y) :
    cs = [.slice none 0 0] ∨ ∃ a len cap elems rest, cs = [.slice (some a) len cap] ∧ len ≤ cap ∧ cap ≤ maxLen ∧
      (List.range len).mapM (fun i => (w.cells? base (a.add (i * P.cellsOf e)) (P.cellsOf e)).bind (DataW.trod enc P w base spare held fuel e)) = some elems ∧
      (if spare a.block then (List.range (cap - len)).mapM (fun j => (w.cells? base (a.add ((len + j) * P.cellsOf e)) (P.cellsOf e)).bind (DataW.trod enc P w base spare held fuel e)) else some []) = some rest ∧ y.1 = .slice (elems.map (·.1)) (rest.map (·.1)) := by
  unfold DataW.trod at h
  rw [ht] at h
  split at h <;> try (simp_all; done)
  · right
    rename_i e' a len cap h1
    cases h1
    dsimp only at h
    split at h
    · rename_i hc
      obtain ⟨elems, h3, h4⟩ := Option.bind_eq_some_iff.1 h
      obtain ⟨rest, h5, h6⟩ := Option.map_eq_some_iff.1 h4
      exact ⟨a, len, cap, elems, rest, rfl, hc.2.1, hc.2.2, h3, h5, by rw [← h6]⟩
    · cases h

theorem trod_struct {fuel : Nat} {t : TypeId} {fs : Array Field} {cs : List Value} {y : DataW H × List MemPlace} (ht : P.underlying t = some (.struct fs)) (h : DataW.trod enc P w base spare held (fuel + 1) t cs = some y) :
    cs.length = P.cellsOf t ∧ ∃ xs, fs.toList.mapM (fun f => DataW.trod enc P w base spare held fuel f.type ((cs.drop f.offset).take (P.cellsOf f.type))) = some xs ∧ y.1 = .agg (xs.map (·.1)) := by
  unfold DataW.trod at h
  rw [ht] at h
  split at h <;> try (simp_all; done)
  · rename_i fs' h1
    cases h1
    split at h
    · rename_i hc
      obtain ⟨xs, h3, h4⟩ := Option.map_eq_some_iff.1 h
      exact ⟨hc, xs, h3, by rw [← h4]⟩
    · cases h

theorem trod_array {fuel k : Nat} {t e : TypeId} {cs : List Value} {y : DataW H × List MemPlace} (ht : P.underlying t = some (.array k e)) (h : DataW.trod enc P w base spare held (fuel + 1) t cs = some y) :
    cs.length = P.cellsOf t ∧ ∃ xs, (List.range k).mapM (fun i => DataW.trod enc P w base spare held fuel e ((cs.drop (i * P.cellsOf e)).take (P.cellsOf e))) = some xs ∧ y.1 = .agg (xs.map (·.1)) := by
  unfold DataW.trod at h
  rw [ht] at h
  split at h <;> try (simp_all; done)
  · rename_i k' e' h1
    cases h1
    split at h
    · rename_i hc
      obtain ⟨xs, h3, h4⟩ := Option.map_eq_some_iff.1 h
      exact ⟨hc, xs, h3, by rw [← h4]⟩
    · cases h

theorem Small.cons {H : Type} {y : DataW H × List MemPlace} {ys xs : List (DataW H × List MemPlace)} {p q : List AV} (h : y :: ys = xs) (h1 : Small [y.1] p) (h2 : Small (ys.map (·.1)) q) : Small (xs.map (·.1)) (p ++ q) := by
  subst h
  intro bk B hb
  simp only [List.map_cons, List.mem_cons] at hb
  rw [bnds_append]
  exact ⟨h1 bk B fun d hd => by simp only [List.mem_singleton] at hd; exact hb d (.inl hd), h2 bk B fun d hd => hb d (.inr hd)⟩

theorem open_reps {n fuel sz : Nat} {e : TypeId} {cs : List Value} (hsz : P.cellsOf e = sz) (ih : ∀ (cs : List Value) (y : DataW H × List MemPlace), DataW.trod enc P w base spare held fuel e cs = some y → ∃ as, Rvs (Cx.all w) as cs ∧ Ty P n e as ∧ cs.length = P.cellsOf e ∧ Small [y.1] as) :
    ∀ (k i : Nat) (xs : List (DataW H × List MemPlace)), cs.length = (i + k) * sz →
      (List.range' i k).mapM (fun i => DataW.trod enc P w base spare held fuel e ((cs.drop (i * sz)).take sz)) = some xs → ∃ as, Rvs (Cx.all w) as (cs.drop (i * sz)) ∧ TyReps (Ty P n e) k as ∧ Small (xs.map (·.1)) as
  | 0, i, xs, hl, h => by
    refine ⟨[], ?_, rfl, fun _ _ _ => trivial⟩
    rw [List.drop_of_length_le (by rw [hl]; simp)]; exact .nil
  | k + 1, i, xs, hl, h => by
    rw [List.range'_succ, List.mapM_cons] at h
    simp only [Option.bind_eq_bind, Option.pure_def] at h
    obtain ⟨y, h1, h2⟩ := Option.bind_eq_some_iff.1 h
    obtain ⟨ys, h3, h9⟩ := Option.bind_eq_some_iff.1 h2
    obtain ⟨p, r1, r2, r3, r6⟩ := ih _ y h1
    obtain ⟨q, r4, r5, r7⟩ := open_reps hsz ih k (i + 1) ys (by rw [hl]; congr 1; omega) h3
    simp only [Option.some.injEq] at h9
    refine ⟨p ++ q, ?_, ⟨p, q, rfl, r2, r5⟩, Small.cons h9 r6 r7⟩
    have : cs.drop (i * sz) = (cs.drop (i * sz)).take sz ++ cs.drop ((i + 1) * sz) := by
      rw [Nat.succ_mul, ← List.drop_drop, List.take_append_drop]
    rw [this]
    exact r1.append r4

theorem open_fields {n fuel total : Nat} {cs : List Value} (ih : ∀ (t : TypeId) (cs : List Value) (y : DataW H × List MemPlace), plainTy P n t = true → DataW.trod enc P w base spare held fuel t cs = some y → ∃ as, Rvs (Cx.all w) as cs ∧ Ty P n t as ∧ cs.length = P.cellsOf t ∧ Small [y.1] as)
    (hl : cs.length = total) : ∀ (fs : List Field) (off : Nat) (xs : List (DataW H × List MemPlace)), tiles P fs off total = true → (fs.all fun f => plainTy P n f.type) = true →
      fs.mapM (fun f => DataW.trod enc P w base spare held fuel f.type ((cs.drop f.offset).take (P.cellsOf f.type))) = some xs → ∃ as, Rvs (Cx.all w) as (cs.drop off) ∧ TyFs (Ty P n) fs as ∧ Small (xs.map (·.1)) as
  | [], off, xs, ht, hp, h => by
    simp only [tiles, decide_eq_true_eq] at ht
    refine ⟨[], ?_, rfl, fun _ _ _ => trivial⟩
    rw [List.drop_of_length_le (by omega)]; exact .nil
  | f :: fs, off, xs, ht, hp, h => by
    simp only [tiles, Bool.and_eq_true, decide_eq_true_eq] at ht
    simp only [List.all_cons, Bool.and_eq_true] at hp
    rw [List.mapM_cons] at h
    simp only [Option.bind_eq_bind, Option.pure_def] at h
    obtain ⟨y, h1, h2⟩ := Option.bind_eq_some_iff.1 h
    obtain ⟨ys, h3, h9⟩ := Option.bind_eq_some_iff.1 h2
    obtain ⟨p, r1, r2, r3, r6⟩ := ih _ _ y hp.1 h1
    obtain ⟨q, r4, r5, r7⟩ := open_fields ih hl fs _ ys ht.2 hp.2 h3
    simp only [Option.some.injEq] at h9
    refine ⟨p ++ q, ?_, ⟨p, q, rfl, r2, r5⟩, Small.cons h9 r6 r7⟩
    have : cs.drop off = (cs.drop off).take (P.cellsOf f.type) ++ cs.drop (off + P.cellsOf f.type) := by
      rw [← List.drop_drop, List.take_append_drop]
    rw [this]
    rw [ht.1] at r1
    exact r1.append r4

theorem open_elems {n fuel sz : Nat} {e : TypeId} {a : Addr} (ih : ∀ (cs : List Value) (y : DataW H × List MemPlace), DataW.trod enc P w base spare held fuel e cs = some y → ∃ as, Rvs (Cx.all w) as cs ∧ Ty P n e as ∧ cs.length = P.cellsOf e ∧ Small [y.1] as)
    (hsz : P.cellsOf e = sz) (h0 : 0 < sz) (hone : isSt P e = true ∨ sz = 1) (hsp : a.spot = none) : ∀ (len i : Nat) (xs : List (DataW H × List MemPlace)),
      ((List.range' i len).mapM fun i => (w.cells? base (a.add (i * sz)) sz).bind (DataW.trod enc P w base spare held fuel e)) = some xs →
      ∃ es, es.length = len ∧ (∀ x ∈ es, Ty P n e x.cells ∧ (isSt P e = true ↔ ∃ cs, x = .agg cs)) ∧ (∀ x ∈ es, x.cells.length = sz) ∧ Rcells (Cx.all w) a.block (a.off + i * sz) (AV.flat es) ∧ xs.length = len ∧ Small (xs.map (·.1)) es
  | 0, i, xs, h => ⟨[], rfl, by simp, by simp, .nil _ _, by simp at h; subst h; rfl, fun _ _ _ => trivial⟩
  | len + 1, i, xs, h => by
    rw [List.range'_succ, List.mapM_cons] at h
    simp only [Option.bind_eq_bind, Option.pure_def] at h
    obtain ⟨y, h1, h2⟩ := Option.bind_eq_some_iff.1 h
    obtain ⟨ys, h3, h9⟩ := Option.bind_eq_some_iff.1 h2
    simp only [Option.some.injEq] at h9
    obtain ⟨cs, h4, h5⟩ := Option.bind_eq_some_iff.1 h1
    obtain ⟨as, r1, r2, r3, r6⟩ := ih cs y h5
    obtain ⟨es, q1, q2, q3, q4, q5, q6⟩ := open_elems ih hsz h0 hone hsp len (i + 1) ys h3
    obtain ⟨_, c1, c2⟩ := World.cells?_some h4
    have hlen : as.length = sz := by rw [← hsz, ← r3, r1.length]
    have hx : ∃ x : AV, x.cells = as ∧ (isSt P e = true ↔ ∃ cs, x = .agg cs) := by
      by_cases hs : isSt P e = true
      · exact ⟨.agg as, rfl, ⟨fun _ => ⟨as, rfl⟩, fun _ => hs⟩⟩
      · have h1 : sz = 1 := by rcases hone with h | h; exact absurd h hs; exact h
        match as, hlen with
        | [x], _ =>
          suffices hna : ∀ cs, x ≠ .agg cs by
            refine ⟨x, ?_, ⟨fun h => absurd h hs, fun ⟨cs, h⟩ => absurd h (hna cs)⟩⟩
            cases x <;> first | rfl | exact absurd rfl (hna _)
          -- an element that is no struct is no aggregate
          rintro cs' rfl
          cases n with
          | zero => exact r2
          | succ n =>
            simp only [Ty] at r2
            unfold isSt at hs
            split at r2 <;> try (simp at r2; done)
            · rename_i fs hfs; rw [hfs] at hs; simp at hs
            · rename_i fs hfs; rw [hfs] at hs; simp at hs
        | [], h => simp at h; omega
        | _ :: _ :: _, h => simp at h; omega
    obtain ⟨x, hxc, hxa⟩ := hx
    refine ⟨x :: es, by simp [q1], ?_, ?_, ?_, by rw [← h9]; simp [q5], Small.cons (p := [x]) h9 (fun bk B hb => by simp only [AV.bnds, and_true]; rw [bnd_cells, hxc]; exact r6 bk B hb) q6⟩
    · intro z hz
      rcases List.mem_cons.1 hz with rfl | hz
      · exact ⟨by rw [hxc]; exact r2, hxa⟩
      · exact q2 z hz
    · intro z hz
      rcases List.mem_cons.1 hz with rfl | hz
      · rw [hxc]; exact hlen
      · exact q3 z hz
    · rw [flat_cons, hxc]
      have hadd : ∀ k, (a.add (i * sz)).add k = ⟨a.block, a.off + i * sz + k, none⟩ := by
        intro k
        cases a with
        | mk b o s =>
          simp only at hsp; subst hsp
          unfold Addr.add
          by_cases h1 : i * sz = 0
          · simp only [h1, if_true]
            by_cases h2 : k = 0 <;> simp [h2]
          · simp only [h1, if_false]
            by_cases h2 : k = 0 <;> simp [h2]
      have hcells : ∀ (as : List AV) (cs : List Value) (k : Nat), Rvs (Cx.all w) as cs → (∀ j, j < cs.length → w.cell? ⟨a.block, a.off + i * sz + k + j, none⟩ = cs[j]?) →
          ∀ rest, Rcells (Cx.all w) a.block (a.off + i * sz + k + as.length) rest → Rcells (Cx.all w) a.block (a.off + i * sz + k) (as ++ rest) := by
        intro as
        induction as with
        | nil => intro cs k h hc rest hr; cases h; simpa using hr
        | cons x xs ihx =>
          intro cs k h hc rest hr
          cases h with
          | cons _ v _ vs h1 h2 =>
            have hv := hc 0 (by simp)
            simp only [Nat.add_zero, List.getElem?_cons_zero] at hv
            refine .cons _ _ _ v _ hv h1 ?_
            have := ihx vs (k + 1) h2 (fun j hj => by
              have := hc (j + 1) (by simpa using hj)
              rw [show a.off + i * sz + (k + 1) + j = a.off + i * sz + k + (j + 1) from by omega, this]; simp) rest
              (by rw [show a.off + i * sz + (k + 1) + xs.length = a.off + i * sz + k + (x :: xs).length from by simp; omega]; exact hr)
            exact this
      have := hcells as cs 0 r1 (fun j hj => by
        rw [← c2 j (by omega), hadd]; rfl) (AV.flat es)
        (by rw [hlen, show a.off + i * sz + 0 + sz = a.off + (i + 1) * sz from by rw [Nat.succ_mul]; omega]; exact q4)
      simpa using this

theorem open_any : ∀ (n fuel : Nat) (t : TypeId) (cs : List Value) (y : DataW H × List MemPlace), plainTy P n t = true →
    DataW.trod enc P w base (fun _ => true) held fuel t cs = some y → ∃ as, Rvs (Cx.all w) as cs ∧ Ty P n t as ∧ cs.length = P.cellsOf t ∧ Small [y.1] as := by
  intro n
  induction n with
  | zero => intro fuel t cs y h; simp [plainTy] at h
  | succ n ih =>
    intro fuel t cs y hp h
    cases fuel with
    | zero => simp [DataW.trod] at h
    | succ fuel =>
      simp only [plainTy] at hp
      simp only [Ty]
      split at hp
      · rename_i ht
        obtain ⟨b, rfl⟩ := trod_bool ht h
        simp only [decide_eq_true_eq] at hp
        exact ⟨[.bool b], .cons _ _ _ _ (.bool b) .nil, ⟨b, rfl⟩, by simp [hp], fun _ _ _ => ⟨trivial, trivial⟩⟩
      · rename_i k ht
        obtain ⟨m, rfl, hm⟩ := trod_int ht h
        simp only [decide_eq_true_eq] at hp
        exact ⟨[.int k m], .cons _ _ _ _ (.int k m) .nil, ⟨m, rfl, hm⟩, by simp [hp], fun _ _ _ => ⟨trivial, trivial⟩⟩
      · rename_i e ht
        simp only [Bool.and_eq_true, decide_eq_true_eq, Bool.or_eq_true] at hp
        rcases trod_slice ht h with rfl | ⟨a, len, cap, elems, rest, rfl, h1, h2, h3, h4, hy1⟩
        · exact ⟨[.sl []], .cons _ _ _ _ .slnil .nil, ⟨[], rfl, by simp, by simp⟩, by simp [hp.1.1.1], fun _ _ _ => ⟨⟨Nat.zero_le _, trivial⟩, trivial⟩⟩
        · by_cases hsp : a.spot = none
          · rw [List.range_eq_range'] at h3
            obtain ⟨es, q1, q2, q3, q4, q5, q6⟩ := open_elems (n := n) (e := e) (sz := P.cellsOf e) (fun cs y hy => ih fuel e cs y hp.1.2 hy) rfl hp.1.1.2 hp.2 hsp len 0 elems h3
            refine ⟨[.sl es], .cons _ _ _ _ ?_ .nil, ⟨es, rfl, by omega, q2⟩, by simp [hp.1.1.1], fun bk B hb => ?_⟩
            rotate_left
            · have hB := hb y.1 (List.mem_singleton.2 rfl)
              rw [hy1] at hB
              have s1 := bk.sl (elems.map (·.1)) (rest.map (·.1))
              rw [List.length_map] at s1
              exact ⟨⟨by omega, q6 bk B fun d hd => Nat.le_trans (bk.el _ _ d hd) hB⟩, trivial⟩
            have : a = ⟨a.block, a.off, none⟩ := by cases a; simp_all
            rw [this, ← q1]
            refine .sl es (P.cellsOf e) _ _ cap (by omega) q3 ?_
            simpa using q4
          · -- no cell of it can be read: it is empty
            have bad : ∀ i, i * P.cellsOf e = 0 → ∀ y, (w.cells? base (a.add (i * P.cellsOf e)) (P.cellsOf e)).bind (DataW.trod enc P w base (fun _ => true) held fuel e) ≠ some y := by
              intro i hi y hy
              obtain ⟨cs, c1, _⟩ := Option.bind_eq_some_iff.1 hy
              obtain ⟨_, c2, c3⟩ := World.cells?_some c1
              have := c3 0 hp.1.1.2
              rw [hi] at this
              simp only [Addr.add, if_true] at this
              have hn : w.cell? a = none := by
                unfold World.cell?
                split
                · rw [if_pos (by cases hs : a.spot with | none => exact absurd hs hsp | some _ => rfl)]
                · rfl
              rw [hn] at this
              have hlt : 0 < cs.length := by rw [c2]; exact hp.1.1.2
              rw [List.getElem?_eq_getElem hlt] at this
              cases this
            have hlen : len = 0 := by
              cases len with
              | zero => rfl
              | succ len =>
                rw [List.range_succ_eq_map, List.mapM_cons] at h3
                simp only [Option.bind_eq_bind, Option.pure_def] at h3
                obtain ⟨y, h5, _⟩ := Option.bind_eq_some_iff.1 h3
                exact absurd h5 (bad 0 (by simp) y)
            have hcap : cap = 0 := by
              subst hlen
              cases cap with
              | zero => rfl
              | succ cap =>
                simp only [if_true, Nat.sub_zero] at h4
                rw [List.range_succ_eq_map, List.mapM_cons] at h4
                simp only [Option.bind_eq_bind, Option.pure_def] at h4
                obtain ⟨y, h5, _⟩ := Option.bind_eq_some_iff.1 h4
                exact absurd h5 (bad (0 + 0) (by simp) y)
            subst hlen; subst hcap
            exact ⟨[.sl []], .cons _ _ _ _ (.sl0 a) .nil, ⟨[], rfl, by simp, by simp⟩, by simp [hp.1.1.1], fun _ _ _ => ⟨⟨Nat.zero_le _, trivial⟩, trivial⟩⟩
      · rename_i fs ht
        simp only [Bool.and_eq_true] at hp
        obtain ⟨h1, xs, h2, hy1⟩ := trod_struct ht h
        obtain ⟨as, r1, r2, r3⟩ := open_fields (n := n) (fun t cs y hy h => ih fuel t cs y hy h) h1 fs.toList 0 xs hp.1 hp.2 h2
        exact ⟨as, by simpa using r1, r2, h1, fun bk B hb => r3 bk B fun d hd => Nat.le_trans (bk.ag _ d hd) (by rw [← hy1]; exact hb y.1 (List.mem_singleton.2 rfl))⟩
      · rename_i k e ht
        simp only [Bool.and_eq_true, decide_eq_true_eq] at hp
        obtain ⟨h1, xs, h2, hy1⟩ := trod_array ht h
        rw [List.range_eq_range'] at h2
        obtain ⟨as, r1, r2, r3⟩ := open_reps (n := n) (e := e) rfl (fun cs y hy => ih fuel e cs y hp.2 hy) k 0 xs (by rw [h1, ← hp.1]; simp) h2
        exact ⟨as, by simpa using r1, r2, h1, fun bk B hb => r3 bk B fun d hd => Nat.le_trans (bk.ag _ d hd) (by rw [← hy1]; exact hb y.1 (List.mem_singleton.2 rfl))⟩
      · cases hp
end

end Go.Lb

namespace Go.Lb
open Go.RowKit

/-- An environment, listed. -/
def envOf (vs : List AV) : Nat → AV := fun i => vs.getD i .undef
@[simp] theorem envOf_set {vs : List AV} {n : Nat} (h : vs.length = n) (r : AV) : setEnv (envOf vs) n r = envOf (vs ++ [r]) := by
  subst h
  funext i
  unfold setEnv envOf
  simp only [List.getD_eq_getElem?_getD]
  split
  · rename_i h; subst h; simp
  · rename_i h
    rcases Nat.lt_trichotomy i vs.length with h1 | h1 | h1
    · rw [List.getElem?_append_left h1]
    · exact absurd h1 h
    · rw [List.getElem?_eq_none (by omega), List.getElem?_eq_none (by simp; omega)]
theorem envOf_sets {vs : List AV} {n : Nat} (h : vs.length = n) (us : List AV) : setEnvs (envOf vs) n us = envOf (vs ++ us) := by
  subst h
  funext i
  unfold setEnvs envOf
  simp only [List.getD_eq_getElem?_getD]
  split
  · rename_i h
    rw [List.getElem?_append_right h.1]
  · rename_i h
    by_cases h1 : i < vs.length
    · rw [List.getElem?_append_left h1]
    · rw [List.getElem?_eq_none (by omega), List.getElem?_eq_none (by simp; omega)]
theorem envOf_pure {vs : List AV} (h : AV.pureAll vs = true) : ∀ i, (envOf vs i).pure = true := by
  intro i
  unfold envOf
  rw [List.getD_eq_getElem?_getD]
  by_cases hi : i < vs.length
  · rw [List.getElem?_eq_getElem hi]; exact pureAll_mem h (List.getElem_mem hi)
  · rw [List.getElem?_eq_none (by omega)]; rfl
@[simp] theorem envOf_zero (a : AV) (l : List AV) : envOf (a :: l) 0 = a := rfl
@[simp] theorem envOf_succ (a : AV) (l : List AV) (n : Nat) : envOf (a :: l) (n + 1) = envOf l n := rfl

/-- A function's contract, by its tree. -/
theorem contract_of {E : Env} (hE : EnvOk E) (hmix : E.P.follows .mixedOrders = true) {f n : Nat} {args : List SE} (vs : List AV) {rt : RT} (hrun : runF E f args n = rt) (hw : SE.wfs n (fun _ => false) args = true)
    (hp : AV.pureAll vs = true) {r : AV} (hr : r.pure = true) (h : RTwp E.P E.G (fun x => x = r) rt (fun _ _ => False) (envOf vs)) {avs : List AV} (ha : dens (envOf vs) args = avs) : Contract E.P E.G f avs r := by
  rw [← ha]
  exact contract_of_run hE hmix hw (envOf_pure hp) hr (by rw [hrun]; exact h)

section
variable {P : Program} {G : Glob} {R : AV → Prop} {L : Nat → List AV → Prop} {ρ : Nat → AV} {K : (Nat → AV) → Prop}

@[simp] theorem RTwp_ret {e : SE} : RTwp P G R (.ret e) L ρ ↔ R (den ρ e) := Iff.rfl
theorem RTwp_cond {c : SE} {t f : RT} {b : Bool} (h : den ρ c = .bool b) : RTwp P G R (.cond c t f) L ρ ↔ ((b = true → RTwp P G R t L ρ) ∧ (b = false → RTwp P G R f L ρ)) := by
  simp only [RTwp, h, AV.bool.injEq, exists_eq_left']
@[simp] theorem RTwp_nil {k : RT} : RTwp P G R (.seg [] k) L ρ ↔ RTwp P G R k L ρ := Iff.rfl
@[simp] theorem RTwp_chk {pcs : List (SE × Bool)} {o : PF} {args : List SE} {ns : List Nd} {k : RT} : RTwp P G R (.seg (.chk pcs o args :: ns) k) L ρ ↔ ((Holds ρ pcs → pok o (dens ρ args)) ∧ RTwp P G R (.seg ns k) L ρ) := Iff.rfl
@[simp] theorem RTwp_same {pcs : List (SE × Bool)} {n : Nat} {e : SE} {ns : List Nd} {k : RT} : RTwp P G R (.seg (.same n pcs e :: ns) k) L ρ ↔ ((Holds ρ pcs → ρ n = den ρ e) ∧ RTwp P G R (.seg ns k) L ρ) := Iff.rfl
@[simp] theorem RTwp_isNil {pcs : List (SE × Bool)} {n : Nat} {e : SE} {ns : List Nd} {k : RT} : RTwp P G R (.seg (.isNil n pcs e :: ns) k) L ρ ↔ ∀ b, (Holds ρ pcs → b = true → den ρ e = .sl []) → RTwp P G R (.seg ns k) L (setEnv ρ n (.bool b)) := Iff.rfl
@[simp] theorem RTwp_bind {n : Nat} {e : SE} {ns : List Nd} {k : RT} : RTwp P G R (.seg (.bind n e :: ns) k) L ρ ↔ RTwp P G R (.seg ns k) L (setEnv ρ n (den ρ e)) := Iff.rfl
@[simp] theorem RTwp_cmp {n : Nat} {e : SE} {ns : List Nd} {k : RT} : RTwp P G R (.seg (.cmp n e :: ns) k) L ρ ↔ ∃ l : List Int, l.length ≤ 4294967296 ∧ den ρ e = .sl (l.map (AV.int .i64)) ∧ RTwp P G R (.seg ns k) L (setEnv ρ n (.sl ((compactI l).map (AV.int .i64)))) := Iff.rfl
@[simp] theorem RTwp_srt {n : Nat} {e : SE} {ns : List Nd} {k : RT} : RTwp P G R (.seg (.srt n e :: ns) k) L ρ ↔ ∃ l : List Int, l.length ≤ 4294967296 ∧ den ρ e = .sl (l.map (AV.int .i64)) ∧ RTwp P G R (.seg ns k) L (setEnv ρ n (.sl ((sortI l).map (AV.int .i64)))) := Iff.rfl
theorem RTwp_call {pcs : List (SE × Bool)} {n f : Nat} {args : List SE} {bo : Bool} {ns : List Nd} {k : RT} (r : AV) (hr : r.pure = true) (hc : Holds ρ pcs → Contract P G f (dens ρ args) r ∧ (bo = true → r.scalar = true)) (h : RTwp P G R (.seg ns k) L (setEnv ρ n r)) :
    RTwp P G R (.seg (.call n pcs f args bo :: ns) k) L ρ := ⟨r, hr, hc, h⟩
/-- A call that is sure. -/
theorem RTwp_call0 {n f : Nat} {args : List SE} {bo : Bool} {ns : List Nd} {k : RT} {r : AV} (hc : Contract P G f (dens ρ args) r) (hb : bo = true → r.scalar = true) (h : RTwp P G R (.seg ns k) L (setEnv ρ n r)) :
    RTwp P G R (.seg (.call n [] f args bo :: ns) k) L ρ := ⟨r, hc.1, fun _ => ⟨hc, hb⟩, h⟩
@[simp] theorem RTwp_condE {c : SE} {t f : RT} : RTwp P G R (.cond c t f) L ρ ↔ ∃ b, den ρ c = .bool b ∧ (b = true → RTwp P G R t L ρ) ∧ (b = false → RTwp P G R f L ρ) := Iff.rfl
@[simp] theorem RTwp_dead {n : Nat} {i : List SE} : RTwp P G R (.dead n i) L ρ ↔ False := Iff.rfl
@[simp] theorem RTwp_again {id : Nat} {vals : List SE} : RTwp P G R (.again id vals) L ρ ↔ L id (dens ρ vals) := Iff.rfl
theorem RTwp_loop {id n : Nat} {init : List SE} {body : RT} {xs : List AV} (hn : xs.length = n) (I : List AV → Prop) (μ : List AV → Nat) (h0 : I (dens (envOf xs) init))
    (hb : ∀ vs, vs.length = init.length → I vs → RTwp P G R body (fun j us => if j = id then I us ∧ μ us < μ vs else L j us) (envOf (xs ++ vs))) : RTwp P G R (.loop id n init body) L (envOf xs) := by
  refine ⟨I, μ, h0, fun vs hl _ hi => ?_⟩
  rw [envOf_sets hn]
  exact hb vs hl hi

@[simp] theorem Holds_nil : Holds ρ [] ↔ True := by simp [Holds]
@[simp] theorem Holds_cons {e : SE} {b : Bool} {r : List (SE × Bool)} : Holds ρ ((e, b) :: r) ↔ den ρ e = .bool b ∧ Holds ρ r := Holds.cons
end

/-! ### Values -/
@[simp] theorem pv_bin (op : BinOp) (k k' : IntKind) (a b : Int) : pv (.bin op) [.int k a, .int k' b] = binI op k a b := rfl
@[simp] theorem pv_eqb (n a b : Bool) : pv (.eqb n) [.bool a, .bool b] = .bool ((a == b) != n) := rfl
@[simp] theorem pv_eqf1 (n : Bool) : pv (.eqf n) [.nilf, .nilf] = .bool (!n) := rfl
@[simp] theorem pv_eqf2 (n : Bool) (f : Nat) (x y : List AV) : pv (.eqf n) [.clo f x y, .nilf] = .bool n := rfl
@[simp] theorem pv_eqa (ks : List (Option IntKind)) (n : Bool) (x y : List AV) : pv (.eqa ks n) [.agg x, .agg y] = .bool (AV.eqs x y != n) := rfl
@[simp] theorem pv_not (b : Bool) : pv (.un .not) [.bool b] = .bool (!b) := rfl
@[simp] theorem pv_neg (k : IntKind) (n : Int) : pv (.un .neg) [.int k n] = .int k (k.wrap (0 - n)) := rfl
@[simp] theorem pv_len (es : List AV) : pv .len [.sl es] = .int .i64 es.length := rfl
@[simp] theorem pv_mm (m : Bool) (k : IntKind) (a : Int) (rest : List AV) : pv (.mm m) (.int k a :: rest) = .int k (rest.foldl (mmStep m) a) := by cases rest <;> rfl
@[simp] theorem pv_conv (k k' : IntKind) (n : Int) : pv (.conv k) [.int k' n] = .int k (k.wrap n) := rfl
@[simp] theorem pv_pick (c : Bool) (a b : AV) : pv .pick [.bool c, a, b] = if c then a else b := rfl
@[simp high] theorem pv_pickB (c a b : Bool) : pv .pick [.bool c, .bool a, .bool b] = .bool (if c then a else b) := by cases c <;> rfl
@[simp] theorem pv_eidx (sz : Nat) (es : List AV) (k : IntKind) (i : Int) : pv (.eidx sz) [.sl es, .int k i] = .eptr es i.toNat 0 := rfl
@[simp] theorem pv_eaidx1 (len sz : Nat) (es : List AV) (j off : Nat) (k : IntKind) (i : Int) : pv (.eaidx len sz) [.eptr es j off, .int k i] = .eptr es j (off + i.toNat * sz) := rfl
@[simp] theorem pv_eaidx2 (len sz : Nat) (cs : List AV) (off : Nat) (k : IntKind) (i : Int) : pv (.eaidx len sz) [.ref cs off, .int k i] = .ref cs (off + i.toNat * sz) := rfl
@[simp] theorem pv_eoff1 (k : Nat) (es : List AV) (j off : Nat) : pv (.eoff k) [.eptr es j off] = .eptr es j (off + k) := rfl
@[simp] theorem pv_eoff2 (k : Nat) (cs : List AV) (off : Nat) : pv (.eoff k) [.ref cs off] = .ref cs (off + k) := rfl
@[simp] theorem pv_eload1 (n : Nat) (g : Bool) (es : List AV) (j off : Nat) : pv (.eload n g) [.eptr es j off] = AV.cut (es.getD j .undef).cells off n g := rfl
@[simp] theorem pv_eload2 (n : Nat) (g : Bool) (cs : List AV) (off : Nat) : pv (.eload n g) [.ref cs off] = AV.cut cs off n g := rfl
@[simp] theorem pv_part (off n : Nat) (g : Bool) (cs : List AV) : pv (.part off n g) [.agg cs] = AV.cut cs off n g := rfl
@[simp] theorem pv_aidx (len sz off n : Nat) (g : Bool) (cs : List AV) (k : IntKind) (i : Int) : pv (.aidx len sz off n g) [.agg cs, .int k i] = AV.cut cs (i.toNat * sz + off) n g := rfl
@[simp] theorem pv_rep (k : IntKind) (n : Int) (v : AV) : pv .rep [.int k n, v] = .sl (List.replicate n.toNat v) := rfl
@[simp] theorem pv_tproj (i : Nat) (vs : List AV) : pv (.tproj i) [.tup vs] = vs.getD i .undef := rfl
@[simp] theorem pv_slice00 (es : List AV) : pv (.slice false false) [.sl es] = .sl es := rfl
@[simp] theorem pv_slice10 (es : List AV) (k : IntKind) (l : Int) : pv (.slice true false) [.sl es, .int k l] = .sl (es.drop l.toNat) := rfl
@[simp] theorem pv_slice01 (es : List AV) (k : IntKind) (h : Int) : pv (.slice false true) [.sl es, .int k h] = .sl (es.take h.toNat) := rfl
@[simp] theorem pv_slice11 (es : List AV) (k k' : IntKind) (l h : Int) : pv (.slice true true) [.sl es, .int k l, .int k' h] = .sl ((es.take h.toNat).drop l.toNat) := rfl
@[simp] theorem pv_app (es fs : List AV) : pv .app [.sl es, .sl fs] = .sl (es ++ fs) := rfl
@[simp] theorem pv_rowset (z off n : Nat) (es : List AV) (k : IntKind) (i : Int) (v : AV) : pv (.rowset z off n) [.sl es, .int k i, v] = .sl (es.set i.toNat (AV.ofCells (es.getD i.toNat .undef) (AV.put (es.getD i.toNat .undef).cells off v.cells))) := rfl
@[simp] theorem pv_rowget (z off n : Nat) (g : Bool) (es : List AV) (k : IntKind) (i : Int) : pv (.rowget z off n g) [.sl es, .int k i] = AV.cut (es.getD i.toNat .undef).cells off n g := rfl

@[simp] theorem pok_bin (op : BinOp) (k k' : IntKind) (a b : Int) : pok (.bin op) [.int k a, .int k' b] = binOk op k k' b := rfl
@[simp] theorem pok_eqb (n a b : Bool) : pok (.eqb n) [.bool a, .bool b] = True := rfl
@[simp] theorem pok_eqf1 (n : Bool) : pok (.eqf n) [.nilf, .nilf] = True := rfl
@[simp] theorem pok_eqf2 (n : Bool) (f : Nat) (x y : List AV) : pok (.eqf n) [.clo f x y, .nilf] = True := rfl
@[simp] theorem pok_eqa (ks : List (Option IntKind)) (n : Bool) (x y : List AV) : pok (.eqa ks n) [.agg x, .agg y] = (AV.kinds ks x ∧ AV.kinds ks y) := rfl
@[simp] theorem pok_not (b : Bool) : pok (.un .not) [.bool b] = True := rfl
@[simp] theorem pok_neg (k : IntKind) (n : Int) : pok (.un .neg) [.int k n] = True := rfl
@[simp] theorem pok_len (es : List AV) : pok .len [.sl es] = True := rfl
@[simp] theorem pok_mm (m : Bool) (k : IntKind) (a : Int) (rest : List AV) : pok (.mm m) (.int k a :: rest) = ∀ y ∈ rest, ∃ b, y = .int k b := by cases rest <;> rfl
@[simp] theorem pok_conv (k k' : IntKind) (n : Int) : pok (.conv k) [.int k' n] = True := rfl
@[simp] theorem pok_pick (c : Bool) (a b : AV) : pok .pick [.bool c, a, b] = True := rfl
@[simp] theorem pok_eidx (sz : Nat) (es : List AV) (k : IntKind) (i : Int) : pok (.eidx sz) [.sl es, .int k i] = (0 ≤ i ∧ i < es.length ∧ (es.getD i.toNat .undef).cells.length = sz) := rfl
@[simp] theorem pok_eaidx1 (len sz : Nat) (es : List AV) (j off : Nat) (k : IntKind) (i : Int) : pok (.eaidx len sz) [.eptr es j off, .int k i] = (0 ≤ i ∧ i < len) := rfl
@[simp] theorem pok_eaidx2 (len sz : Nat) (cs : List AV) (off : Nat) (k : IntKind) (i : Int) : pok (.eaidx len sz) [.ref cs off, .int k i] = (0 ≤ i ∧ i < len) := rfl
@[simp] theorem pok_eoff1 (k : Nat) (es : List AV) (j off : Nat) : pok (.eoff k) [.eptr es j off] = True := rfl
@[simp] theorem pok_eoff2 (k : Nat) (cs : List AV) (off : Nat) : pok (.eoff k) [.ref cs off] = True := rfl
@[simp] theorem pok_eload1 (n : Nat) (g : Bool) (es : List AV) (j off : Nat) : pok (.eload n g) [.eptr es j off] = AV.cutOk (es.getD j .undef).cells off n g := rfl
@[simp] theorem pok_eload2 (n : Nat) (g : Bool) (cs : List AV) (off : Nat) : pok (.eload n g) [.ref cs off] = AV.cutOk cs off n g := rfl
@[simp] theorem pok_part (off n : Nat) (g : Bool) (cs : List AV) : pok (.part off n g) [.agg cs] = AV.cutOk cs off n g := rfl
@[simp] theorem pok_aidx (len sz off n : Nat) (g : Bool) (cs : List AV) (k : IntKind) (i : Int) : pok (.aidx len sz off n g) [.agg cs, .int k i] = (0 ≤ i ∧ i < len ∧ AV.cutOk cs (i.toNat * sz + off) n g) := rfl
@[simp] theorem pok_rep (k : IntKind) (n : Int) (v : AV) : pok .rep [.int k n, v] = (0 ≤ n ∧ n ≤ 4294967296 ∧ AV.ones v.cells = true) := rfl
@[simp] theorem pok_isAgg (n : Nat) (cs : List AV) : pok (.isAgg n) [.agg cs] = (cs.length = n ∧ AV.ones cs = true) := rfl
@[simp] theorem pok_isOne (v : AV) : pok .isOne [v] = (AV.one v = true) := by cases v <;> rfl
@[simp] theorem pok_tproj (i : Nat) (vs : List AV) : pok (.tproj i) [.tup vs] = (i < vs.length) := rfl
@[simp] theorem pok_slice00 (es : List AV) : pok (.slice false false) [.sl es] = True := rfl
@[simp] theorem pok_slice10 (es : List AV) (k : IntKind) (l : Int) : pok (.slice true false) [.sl es, .int k l] = (0 ≤ l ∧ l ≤ es.length) := rfl
@[simp] theorem pok_slice01 (es : List AV) (k : IntKind) (h : Int) : pok (.slice false true) [.sl es, .int k h] = (0 ≤ h ∧ h ≤ es.length) := rfl
@[simp] theorem pok_slice11 (es : List AV) (k k' : IntKind) (l h : Int) : pok (.slice true true) [.sl es, .int k l, .int k' h] = (0 ≤ l ∧ l ≤ h ∧ h ≤ es.length) := rfl
@[simp] theorem pok_app (es fs : List AV) : pok .app [.sl es, .sl fs] = (es.length + fs.length ≤ 4294967296) := rfl
@[simp] theorem pok_szs (sz : Nat) (es : List AV) : pok (.szs sz) [.sl es] = ∀ e ∈ es, e.cells.length = sz ∧ AV.ones e.cells = true := rfl
@[simp] theorem pok_inr (len : Nat) (k : IntKind) (i : Int) : pok (.inr len) [.int k i] = (0 ≤ i ∧ i < len) := rfl
@[simp] theorem pok_rowset (z off n : Nat) (es : List AV) (k : IntKind) (i : Int) (v : AV) : pok (.rowset z off n) [.sl es, .int k i, v] = (0 ≤ i ∧ i < es.length ∧ (es.getD i.toNat .undef).cells.length = z ∧ v.cells.length = n ∧ AV.ones v.cells = true ∧ off + n ≤ z) := rfl

/-- Ints. -/
abbrev I (n : Int) : AV := .int .i64 n
abbrev U (n : Int) : AV := .int .u8 n
abbrev ints (l : List Int) : AV := .sl (l.map I)

theorem ints_pure (l : List Int) : AV.pureAll (l.map I) = true := by
  induction l with
  | nil => rfl
  | cons x l ih => simp [AV.pureAll, AV.pure, ih]

theorem ints_getD {l : List Int} {i : Nat} (h : i < l.length) (d : AV) : (l.map I).getD i d = I (l[i]) := by
  rw [List.getD_eq_getElem?_getD, List.getElem?_map, List.getElem?_eq_getElem h]; rfl

end Go.Lb

namespace Go.Lb
open Go.RowKit Go.ChangeShapes Go.WideShapes Go.ChangeAt

/-- The form of arguments. -/
def TyArgs (P : Program) (n : Nat) : List TypeId → List AV → Prop
  | [], as => as = []
  | t :: ts, as => ∃ x xs, as = x :: xs ∧ Ty P n t x.cells ∧ (isSt P t = true ↔ ∃ cs, x = .agg cs) ∧ TyArgs P n ts xs

theorem all_imm (w : World) : Imm (Cx.all w) w := ⟨fun _ _ _ h => h, fun _ _ h => h⟩
theorem all_lt (w : World) : ∀ b, b ≥ w.heap.size → (∀ off v, (Cx.all w).I b off ≠ some v) ∧ (∀ ob, (Cx.all w).M b ≠ some ob) := by
  intro b hb
  refine ⟨fun off v h => ?_, fun ob h => ?_⟩
  · have h : w.cell? ⟨b, off, none⟩ = some v := h
    unfold World.cell? at h
    rw [Array.getElem?_eq_none (by omega)] at h
    simp at h
  · have h : w.heap[b]? = some ob := h
    rw [Array.getElem?_eq_none (by omega)] at h
    cases h

section
variable {H : Type} {enc : TypeId × Value → H} {P : Program} {w : World} {base : Nat} {held : Bool}

theorem open_arg {n : Nat} {t : TypeId} {v : Value} {d : DataW H} {ps : List MemPlace} (hp : plainTy P n t = true) (hok : Value.okWide P w .any base t v) (h : DataW.Trod enc P w 0 (fun _ => true) held t v d ps) :
    ∃ x, Rv (Cx.all w) x v ∧ Ty P n t x.cells ∧ (isSt P t = true ↔ ∃ cs, x = .agg cs) ∧ Small [d] [x] := by
  obtain ⟨fuel, hf⟩ := h
  obtain ⟨as, h1, h2, h3, h4s⟩ := open_any n fuel t _ _ hp hf
  by_cases hs : isSt P t = true
  · have : ∃ cs, v = .agg cs := by
      unfold isSt at hs
      split at hs
      · rename_i fs ht
        simp only [Value.okWide, ht] at hok
        obtain ⟨cs, rfl, _⟩ := hok; exact ⟨cs, rfl⟩
      · rename_i fs ht
        simp only [Value.okWide, ht] at hok
        obtain ⟨cs, rfl, _⟩ := hok; exact ⟨cs, rfl⟩
      · cases hs
    obtain ⟨cs, rfl⟩ := this
    exact ⟨.agg as, .agg as cs.toList h1, h2, ⟨fun _ => ⟨as, rfl⟩, fun _ => hs⟩, fun bk B hb => ⟨h4s bk B hb, trivial⟩⟩
  · have hna : v.cells.toList = [v] ∧ ∃ a, as = [a] ∧ ∀ cs, a ≠ .agg cs := by
      cases n with
      | zero => exact h2.elim
      | succ n =>
        simp only [Ty] at h2
        unfold isSt at hs
        split at h2
        · rename_i ht
          obtain ⟨b, rfl⟩ := okWide_bool ht hok
          obtain ⟨b', rfl⟩ := h2
          exact ⟨rfl, _, rfl, by simp⟩
        · rename_i k ht
          obtain ⟨m, rfl⟩ := okWide_int ht hok
          obtain ⟨b', rfl, _⟩ := h2
          exact ⟨rfl, _, rfl, by simp⟩
        · rename_i e ht
          obtain ⟨a, len, cap, rfl⟩ := okWide_slice ht hok
          obtain ⟨b', rfl, _⟩ := h2
          exact ⟨rfl, _, rfl, by simp⟩
        · rename_i fs ht; rw [ht] at hs; simp at hs
        · rename_i fs e ht; rw [ht] at hs; simp at hs
        · exact h2.elim
    obtain ⟨h4, a, rfl, h5⟩ := hna
    rw [h4] at h1
    cases h1 with
    | cons _ _ _ _ h6 h7 =>
      refine ⟨a, h6, ?_, ⟨fun h => absurd h hs, fun ⟨cs, h⟩ => absurd h (h5 cs)⟩, h4s⟩
      have : a.cells = [a] := by cases a <;> first | rfl | exact absurd rfl (h5 _)
      rw [this]; exact h2

theorem open_args {n : Nat} : ∀ (ts : List TypeId) (vs : List Value) (ds : List (DataW H)) (ps : List MemPlace), (∀ t ∈ ts, plainTy P n t = true) →
    (∀ (j : Nat) t v, ts[j]? = some t → vs[j]? = some v → Value.okWide P w .any base t v) → DataW.TrodAll enc P w 0 (fun _ => true) held ts vs ds ps → ∃ as, Rvs (Cx.all w) as vs ∧ TyArgs P n ts as ∧ Small ds as
  | [], vs, ds, ps, _, _, h => by
    obtain ⟨rfl, rfl, rfl⟩ := trodAll_nil h
    exact ⟨[], .nil, rfl, fun _ _ _ => trivial⟩
  | t :: ts, vs, ds, ps, hp, hok, h => by
    obtain ⟨v, vs1, d, ds1, a, b, rfl, rfl, rfl, h1, h2⟩ := trodAll_cons h
    obtain ⟨x, r1, r2, r3, r6⟩ := open_arg (hp t (by simp)) (hok 0 t v rfl rfl) h1
    obtain ⟨xs, r4, r5, r7⟩ := open_args ts vs1 ds1 b (fun t ht => hp t (by simp [ht])) (fun j t v h3 h4 => hok (j + 1) t v (by simpa using h3) (by simpa using h4)) h2
    exact ⟨x :: xs, .cons _ _ _ _ r1 r4, ⟨x, xs, rfl, r2, r3, r5⟩, fun bk B hb => ⟨(r6 bk B fun q hq => by rw [List.mem_singleton.1 hq]; exact hb d (List.mem_cons_self ..)).1, r7 bk B fun q hq => hb q (List.mem_cons_of_mem _ hq)⟩⟩

theorem stay_args (hl : laidOutB P = true) {w' : World} (hb : Below w.heap.size w w') : ∀ (ts : List TypeId) (vs : List Value) (ds : List (DataW H)) (ps : List MemPlace), (∀ t ∈ ts, P.readableRec t = true ∧ t < P.types.size) → (∀ p ∈ ps, p.block < w.heap.size) →
    DataW.TrodAll enc P w 0 (fun _ => true) true ts vs ds ps → DataW.TrodAll enc P w' 0 (fun b => decide (b < w.heap.size)) true ts vs ds ps
  | [], vs, ds, ps, _, _, h => by
    obtain ⟨rfl, rfl, rfl⟩ := trodAll_nil h
    rfl
  | t :: ts, vs, ds, ps, hp, hlt, h => by
    obtain ⟨v, vs1, d, ds1, a, b, rfl, rfl, rfl, h1, h2⟩ := trodAll_cons h
    have := hp t (by simp)
    exact ⟨a, b, Below.trod hl this.1 this.2 h1 hb (fun x hx => hlt x (by simp [hx])), stay_args hl hb ts vs1 ds1 b (fun t ht => hp t (by simp [ht])) (fun x hx => hlt x (by simp [hx])) h2, rfl⟩
end

/-- A law that answers true, by its contract. -/
theorem law_lifted {C : Checked} (os : Os) (started : os.Started) {f : FuncId} {fn : Func} {s : ChangeSpec} {tb : TypeId} (n : Nat) (H : Type) (enc : TypeId × Value → H)
    (own : ownKnob C.prog.godebug = none) (hl : laidOutB C.prog = true) (noInit : C.prog.inits.idxOf? f = none) (hfn : C.prog.funcs[f]? = some fn)
    (witness : ∃ (w : World) (tape : Tape) (i : Input), w.os = os ∧ (w.forCall tape i).Shaped C.prog ∧ i.vars = [] ∧ Input.okWide C.prog (w.forCall tape i) .any w.heap.size f i ∧
      s.pre6 enc C.prog fn [] false (w.forCall tape i).memory i.args ∧ ({} : Assume).holds C.prog (lone (Frame.enter C.prog f i.args .normal) [] (w.forCall tape i)))
    (hvars : s.vars = []) (hres : fn.resultTypes = #[tb]) (htb : C.prog.underlying tb = some .bool) (hpar : fn.params.toList.all (fun t => plainTy C.prog n t && C.prog.readableRec t && decide (t < C.prog.types.size)) = true)
    (hfnr : ∀ ds : List (DataW H), ds.length = fn.params.size → (s.fn H ds).results = [.lit (.bool true)] ∧ (s.fn H ds).args = ds ∧ (s.fn H ds).vars = [])
    (hC : ∀ avs, TyArgs C.prog n fn.params.toList avs → Contract C.prog [] f avs (.bool true)) :
    ReturnsInHanded {} C os f .any (s.pre6 enc C.prog fn [] false) (s.post enc C.prog fn false true false false) := by
  refine returnsInHanded_of_change own started noInit hfn witness ?_
  intro W base args ds gs before hval hW _ _
  have hW' := hW
  obtain ⟨p, q, hA, hV, rfl, hfz, hnd⟩ := hW
  rw [hvars] at hV
  obtain ⟨rfl, rfl⟩ := trodVars_none hV
  have hpar : ∀ t ∈ fn.params.toList, (plainTy C.prog n t = true ∧ C.prog.readableRec t = true) ∧ t < C.prog.types.size := by
    simpa only [List.all_eq_true, Bool.and_eq_true, decide_eq_true_eq] using hpar
  obtain ⟨avs, h1, h2, _⟩ := open_args (base := base) fn.params.toList args.toList ds p (fun t ht => (hpar t ht).1.1)
    (fun j t v h3 h4 => hval j t v (by simpa using h3) (by simpa using h4)) hA
  have hlen : ds.length = fn.params.size := by
    have : ∀ (ts : List TypeId) (vs : List Value) (ds : List (DataW H)) (ps : List MemPlace), DataW.TrodAll enc C.prog W 0 (fun _ => true) true ts vs ds ps → ds.length = ts.length := by
      intro ts
      induction ts with
      | nil => intro vs ds ps h; obtain ⟨rfl, rfl, rfl⟩ := trodAll_nil h; rfl
      | cons t ts ih =>
        intro vs ds ps h
        obtain ⟨v, vs1, d, ds1, a, b, rfl, rfl, rfl, h1, h2⟩ := trodAll_cons h
        simp [ih _ _ _ h2]
    simpa using this _ _ _ _ hA
  obtain ⟨e1, e2, e3⟩ := hfnr (ds ++ []) (by simpa using hlen)
  refine ((hC avs h2).2 W (Cx.all W) args.toList (all_imm W) (all_lt W) (fun g es h => by simp at h) h1).mono fun e W' ⟨v, c', he, _, _, _, _, hv, hb⟩ => ?_
  subst he
  cases hv
  refine ⟨_, rfl, ds, [], p ++ [], [], p, [], hW', ?_, ?_, ?_, ?_, fun h => by cases h⟩
  · rw [e1, hres]
    exact ⟨[], [], shut_bool htb true, rfl, rfl⟩
  · rw [e2, List.append_nil]
    exact stay_args hl hb _ _ _ _ (fun t ht => ⟨(hpar t ht).1.2, (hpar t ht).2⟩) (fun x hx => by simpa using hW'.lt x (by simpa using hx)) hA
  · rw [e3, hvars]; rfl
  · exact hb.frame _
end Go.Lb
